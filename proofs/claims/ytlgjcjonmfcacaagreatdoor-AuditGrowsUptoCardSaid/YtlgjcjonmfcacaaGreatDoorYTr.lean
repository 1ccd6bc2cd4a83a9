/-
 Walks by evaluation, calls and loops with them: what a whole run makes of abstract values. Over any program.
 Walks by evaluation: whole runs are right. Over any program.
 Walks by evaluation: the operations of whole runs. Over any program.
 Walks by evaluation: whole runs are right. Over any program.
 Walks by evaluation: what is checked of a translation's tables. Over any program.
 Walks by evaluation: contracts that are shown otherwise. Over any program.
 From what a statement says of the arguments to data, for any types at once. Over any program.
-/
import Derived.Test.YtlgjcjonmfcacaaGreatDoorYRun
import Derived.Test.YtlgjcjonmfcacaaGreatDoorYFn
import Derived.Test.YtlgjcjonmfcacaaGreatDoorHex
set_option linter.unusedVariables false
set_option linter.unusedSimpArgs false
set_option linter.unusedVariables false
set_option linter.unusedSimpArgs false
section
namespace Go.Rk
open Go.RowKit Go.Dm Go.Dk
noncomputable section
variable {τ:Nat→Type} {ρ:Type}
abbrev Kz (τ:Nat→Type) (ρ:Type):=Ex→zu τ→Hp τ→List Nat→Nat→Option ρ
def frN {α:Type} (n:Nat) (k:Nat→α):α:=match n with
 | 0=>k 0
 | n+1=>k (n+1)
def ap {α:Type} (U L:List α):List α:=List.rec (motive:=fun _=>List α) L (fun x _ ih=>x::ih) U
theorem ap_eq {α:Type} (U L:List α):ap U L=U++L:=by
 induction U with
 | nil=>rfl
 | cons x U ih=>show x::ap U L=_; rw [ih]; rfl
def opsZ (op:OpF τ ρ) (n:Nat) (all:List Oper):List Oper→zu τ→Hp τ→List Nat→Nat→(zu τ→Hp τ→List Nat→Nat→Option ρ)→Option ρ
 | [],E,L,T,nid,K=>K E L T nid
 | o::l,E,L,T,nid,K=>bc (dOk n o.dst) (zxk all E o.guard
   (fun E=>op E L nid (fun v g U t nid=>frN nid fun nid=>opsZ op n all l (zCQ l o.dst v g E) (ap U L) (ap t T) nid K) o.op)
   fun E=>opsZ op n all l (unT E o.dst) L T nid K) none
def zzg (op:OpF τ ρ) (n:Nat) (all:List Oper):Nat→List Oper→List Dr→zu τ→Hp τ→List Nat→Nat→(zu τ→Hp τ→List Nat→Nat→Option ρ)→Option ρ
 | _,[],R,E,L,T,nid,K=>bc (zuW all R) (K E L T nid) none
 | i,o::l,R,E,L,T,nid,K=>bc (dOk n o.dst) (zxk all E o.guard
   (fun E=>op E L nid (fun v g U t nid=>frN nid fun nid=>zzg op n all (i+1) l (⟨i,o.dst,zd9 all o,ap t (kys U),kys U⟩::R) (zCQ l o.dst v g E) (ap U L) (ap t T) nid K) o.op)
   fun E=>zzg op n all (i+1) l (⟨i,o.dst,zd9 all o,[],[]⟩::R) (unT E o.dst) L T nid K) none
def bsM (s k:Nat):Bool:=Nat.beq (Nat.land (Nat.shiftRight s k) 1) 1
def bsA (s k:Nat):Nat:=Nat.lor s (Nat.shiftLeft 1 k)
theorem zHJ (s k:Nat):bsM s k=s.testBit k:=by
 have h1:Nat.land (Nat.shiftRight s k) 1=(s >>> k)%2:=Nat.and_one_is_mod (s >>> k);unfold bsM;rw [h1,Nat.testBit_eq_decide_div_mod_eq,Nat.shiftRight_eq_div_pow]
 cases Nat.mod_two_eq_zero_or_one (s/2^k) with
 | inl h=>rw [h]; rfl
 | inr h=>rw [h]; rfl
theorem zOr (s k j:Nat):bsM (bsA s k) j=(bsM s j||Nat.beq k j):=by
 rw [zHJ,zHJ]
 have h1:bsA s k=s ||| (1 <<< k):=rfl
 rw [h1,Nat.testBit_or,Nat.one_shiftLeft,Nat.testBit_two_pow]
 cases hb:Nat.beq k j with
 | true=>rw [decide_eq_true (by simpa using hb)]
 | false=>rw [decide_eq_false (fun e=>by subst e; simp at hb)]
theorem zLR (j:Nat):bsM 0 j=false:=by rw [zHJ]; exact Nat.zero_testBit j
def Bsr (s:Nat) (l:List Nat):Prop:=∀k,bsM s k=mem l k
theorem Bsr.nil:Bsr 0 []:=fun k=>by rw [zLR]; rfl
theorem Bsr.cons {s:Nat} {l:List Nat} (h:Bsr s l) (k:Nat):Bsr (bsA s k) (k::l):=fun j=>by
  rw [zOr,h j];rw [mem_cons]
  have:Nat.beq k j=Nat.beq j k:=by
    cases hb:Nat.beq k j with
    | true => have:k=j:=by simpa using hb
              subst this; exact hb.symm
    | false =>
      cases hc:Nat.beq j k with
      | false=>rfl
      | true => have:j=k:=by simpa using hc
                subst this; rw [hc] at hb; cases hb
  rw [this,Bool.or_comm]
def cmU (lo hi:Nat):List Nat→Hp τ→Hp τ
 | _,[]=>[]
 | sn,(k,v)::U=>bif mem sn k then cmU lo hi sn U else match v with
  | .gone=>bif Nat.ble lo k&&Nat.blt k hi then cmU lo hi (k::sn) U else (k, .gone)::cmU lo hi (k::sn) U
  | v=>(k,v)::cmU lo hi (k::sn) U
def zzh (lo hi:Nat):Nat→Hp τ→Hp τ
 | _,[]=>[]
 | s,(k,v)::U=>bif bsM s k then zzh lo hi s U else match v with
  | .gone=>bif Nat.ble lo k&&Nat.blt k hi then zzh lo hi (bsA s k) U else (k, .gone)::zzh lo hi (bsA s k) U
  | v=>(k,v)::zzh lo hi (bsA s k) U
theorem zDb {lo hi:Nat}:∀{U:Hp τ} {s:Nat} {sn:List Nat},Bsr s sn→zzh lo hi s U=cmU lo hi sn U
 | [],_,_,_=>rfl
 | (k,v)::U,s,sn,h=>by
  unfold zzh cmU;rw [h k,zDb h,zDb (h.cons k)]
def dd (lo hi:Nat):List Nat→List Nat→List Nat
 | _,[]=>[]
 | sn,t::T=>bif mem sn t||(Nat.ble lo t&&Nat.blt t hi) then dd lo hi sn T else t::dd lo hi (t::sn) T
def ddb (lo hi:Nat):Nat→List Nat→List Nat
 | _,[]=>[]
 | s,t::T=>bif bsM s t||(Nat.ble lo t&&Nat.blt t hi) then ddb lo hi s T else t::ddb lo hi (bsA s t) T
theorem zHK {lo hi:Nat}:∀{T:List Nat} {s:Nat} {sn:List Nat},Bsr s sn→ddb lo hi s T=dd lo hi sn T
 | [],_,_,_=>rfl
 | t::T,s,sn,h=>by
  unfold ddb dd;rw [h t,zHK h,zHK (h.cons t)]
def nodB:Nat→List Nat→Bool
 | _,[]=>true
 | s,i::l=>bif bsM s i then false else nodB (bsA s i) l
theorem zJn:∀{l:List Nat} {s:Nat} {sn:List Nat},Bsr s sn→nodB s l=true→nod l=true∧∀i∈l,i∉sn
 | [],_,_,_,_=>⟨rfl,fun i h=>by cases h⟩
 | i :: l,s,sn,h,e=>by
  unfold nodB at e
  cases hb:bsM s i with
  | true=>rw [hb] at e; cases e
  | false =>
   rw [hb] at e;obtain ⟨h1,h2⟩:=zJn (h.cons i) e;have hni:i∉l:=fun hi=>h2 i hi (List.mem_cons_self ..);refine ⟨?_,fun j hj hs=>?_⟩
   ·unfold nod;rw [h1]
    cases hm:mem l i with
    | false=>rfl
    | true =>
     obtain ⟨j,hj,hji⟩:=List.any_eq_true.1 (zte _ _▸hm)
     have:i=j:=by simpa using hji
     subst this;exact (hni hj).elim
   ·rcases List.mem_cons.1 hj with rfl|hj
    ·have h3:=h j;rw [hb] at h3
     have:mem sn j=true:=by rw [zte]; exact List.any_eq_true.2 ⟨j,hs,by simp⟩
     rw [this] at h3;cases h3
    ·exact h2 j hj (List.mem_cons_of_mem _ hs)
def bsL:List Nat→Nat
 | []=>0
 | i::l=>bsA (bsL l) i
theorem zLT:∀l:List Nat,Bsr (bsL l) l
 | []=>Bsr.nil
 | i::l=>(zLT l).cons i
def zLU (l m:List Nat):Bool:=match m with
 | []=>true
 | m=>(fun s=>zBG l fun i => !bsM s i) (bsL m)
theorem zLV {l m:List Nat} (h:zLU l m=true):zyu l m=true:=by
 cases m with
 | nil=>rw [zAg,List.all_eq_true]; intro i _; rfl
 | cons j m =>
  have h:(zBG l fun i => !bsM (bsL (j::m)) i)=true:=h;rw [zy4] at h;rw [zAg];rw [List.all_eq_true] at h ⊢;intro i hi;rw [← zLT (j::m) i];exact h i hi
def cmT (lo hi:Nat) (L:Hp τ) (T:List Nat):List Nat:=bif zBG L fun p=>Nat.blt p.1 lo then ddb lo hi 0 T else T
def gvB:XV τ→Bool
 | .gv _ _=>true
 | _=>false
def Cx.wn (X:Cx τ) (n:Nat):Cx τ:=⟨X.P,X.G,X.ty,X.cs,n,X.fx⟩
def nfE:List Nat→zu τ→(zu τ→Option ρ)→Option ρ
 | _,[],K=>K []
 | sn,(t,v)::E,K=>bc (mem sn t) (nfE sn E K) (nfE (t::sn) E fun E=>K ((t,v)::E))
def argE:Nat→List (XV τ)→zu τ
 | _,[]=>[]
 | i,v::vs=>(i,v)::argE (i+1) vs
def zFE:Nat→List Nat→Bool
 | _,[]=>true
 | k,i::l=>bif Nat.blt k i then zFE i l else false
def nodF:List Nat→Bool
 | []=>true
 | i::l=>bif zFE i l then true else nodB 0 (i::l)
theorem zJo:∀{l:List Nat} {k:Nat},zFE k l=true→∀j∈l,k<j
 | [],_,_,j,hj=>by cases hj
 | i::l,k,h,j,hj=>by
  unfold zFE at h
  cases hb:Nat.blt k i with
  | false=>rw [hb] at h; cases h
  | true =>
   rw [hb] at h
   have hk:k<i:=by simpa using hb
   rcases List.mem_cons.1 hj with rfl|hj
   ·exact hk
   ·exact Nat.lt_trans hk (zJo h j hj)
theorem zFF:∀{l:List Nat} {k:Nat},zFE k l=true→nod (k::l)=true
 | l,k,h=>by
  have hm:mem l k=false:=by
   cases hc:mem l k with
   | false=>rfl
   | true =>
    obtain ⟨j,hj,hjk⟩:=List.any_eq_true.1 (zte _ _▸hc);have:=zJo h j hj;simp at hjk;omega
  unfold nod;rw [hm]
  cases l with
  | nil=>rfl
  | cons i l =>
   unfold zFE at h
   cases hb:Nat.blt k i with
   | false=>rw [hb] at h; cases h
   | true=>rw [hb] at h; simpa using zFF h
theorem zLW {l:List Nat} (h:nodF l=true):nod l=true:=by
 cases l with
 | nil=>rfl
 | cons i l =>
  replace h:(bif zFE i l then true else nodB 0 (i::l))=true:=h
  cases hb:zFE i l with
  | true=>exact zFF hb
  | false=>rw [hb] at h; exact (zJn Bsr.nil h).1
def zvk (X:Cx τ) (L:Hp τ) (nid:Nat) (K:Nx τ ρ) (f:FuncId) (avs:List (XV τ)) (z:Option ρ):zyt τ→Option ρ
 | []=>z
 | (g,k)::cs=>bc (Nat.beq g f) (match zsC X.G L k.ps avs with
 | some (p,l,m)=>bc (nodF l&&zLU l m)
   (match (bif k.rs.any (zmB X.G depth) then freeze L m else some []) with
   | some Z=>match roots avs k.bk with
    | some rs=>bc (nod (zv4 rs)&&(zv4 rs).all (mem l)) (match k.m p with
     | some r=>resK X.G (zAj k.nr rs) k.rs r nid fun vs U nid'=>match zBI vs with
      | some v=>K v [.gv (prT k.rs) (DP.pr k.rs r)] (U++(zn3 l++Z)) (l++m) nid'
      | none=>none
     | none=>zvk X L nid K f avs z cs) z
    | none=>z
   | none=>z)
   (zvk X L nid K f avs z cs)
 | none=>zvk X L nid K f avs z cs) (zvk X L nid K f avs z cs)
def zA8 (E:zu τ):List ResultVar→List Nat
 | []=>[]
 | .tmp _::rs=>zA8 E rs
 | .cell t _::rs=>match asc E t with
  | some (.c (.pt id 0))=>id::zA8 E rs
  | _=>zA8 E rs
inductive Bt (α:Type) where
 | nil
 | lf (k:Nat) (v:α)
 | nd (k:Nat) (a b:Bt α)
def Bt.get {α:Type}:Bt α→Nat→Option α
 | .nil,_=>none
 | .lf k v,f=>bif Nat.beq k f then some v else none
 | .nd k a b,f=>bif Nat.blt f k then a.get f else b.get f
structure FnS (P:Program) where
 f:FuncId
 fn:Func
 ok:P.funcs[f]? = some fn
def fnS {P:Program} {f:FuncId} {fn:Func} (h:P.funcs[f]? = some fn):FnS P:=⟨f,fn,h⟩
structure Zx (X:Cx τ) where
 ct:FuncId→zyt τ
 ft:Bt (FnS X.P)
abbrev InF (τ:Nat→Type) (ρ:Type):=Nat→Code→zu τ→Hp τ→List Nat→Nat→Kz τ ρ→Option ρ
def inl (X:Cx τ) (Z:Zx X) (ih:InF τ ρ) (L:Hp τ) (nid:Nat) (K:Nx τ ρ) (f:FuncId) (avs:List (XV τ)) (T:List Nat):Option ρ:=match Z.ft.get f with
 | some s=>bc (Nat.beq s.f f) (match s.fn.body with
  | some c=>bc (Nat.ble avs.length s.fn.ntmps&&Nat.ble s.fn.ntmps gh) (ih s.fn.ntmps c (argE 0 avs++glE X.G.gl) L T nid fun e E L' T nid'=>match e with
   | .ex _=>none
   | _=>match zsG X E L' s.fn.results.toList with
    | some vs=>bc (vs.any gvB) none (match zBI vs with
     | some v=>K v [] (zzh nid nid' 0 (L'.take (L'.length-L.length))) (cmT nid nid' L (zA8 E s.fn.results.toList++T)) nid'
     | none=>none)
    | none=>none) none
  | none=>none) none
 | none=>none
def zHL (E:zu τ):List Operand→Option (List (CV τ))
 | []=>some []
 | x::xs=>match evC E x with
  | some c=>match zHL E xs with
   | some cs=>some (c::cs)
   | none=>none
  | none=>none
def z1B (P:Program) (te:TypeId):Bool:=match P.info? te with
 | some i=>match i.zero with
  | some _=>Nat.beq i.size 1
  | none=>false
 | none=>false
def zzi (E:zu τ):Nat→List (Nat × Operand)→Option (List (CV τ))
 | _,[]=>some []
 | k,(i,x)::ps=>bif Nat.beq i k then (match evC E x with
  | some c=>match zzi E (k+1) ps with
   | some cs=>some (c::cs)
   | none=>none
  | none=>none) else none
def vwB:AR τ→Bool
 | .vw _ _ _ _ _=>true
 | .sb _ _=>true
 | _=>false
def ixZ (X:Cx τ) (L:Hp τ) (nid:Nat) (K:Nx τ ρ) (id:Nat) (te:TypeId) (m:Int):Option ρ:=match lk L id with
 | .vw i k e lo xs=>match lk L i with
  | .row _ _ _ k'=>bc (Nat.beq k k'&&szE X te e) ((lAt xs m).bind fun z=>K (.c (.oe i k (lo+m.toNat:Nat) e z 0)) [] [] [id,i] nid) none
  | _=>none
 | .sb i n=>match szO X.P te with
  | some 1=>if 0≤m∧m<n then K (.c (.pt i m.toNat)) [] [] [id] nid else none
  | _=>none
 | _=>none
def opZ (X:Cx τ) (Z:Zx X) (ih:InF τ ρ):OpF τ ρ:=fun E L nid K o=>match o with
 | .binOp b t x y u=>match evX E y with
  | some (.c .n0)=>match X.P.underlying t with
   | some (.slice _)=>match evC E x with
    | some c=>match nilZ X.G L c with
     | some (z,ids)=>match okX (eqO b z) with
      | some v=>K v [] [] ids nid
      | none=>none
     | none=>none
    | none=>none
   | _=>none
  | _=>opX X E L nid K (.binOp b t x y u)
 | .call ⟨.value f,⟨args⟩,ats⟩=>match evC E f with
  | some (.fn g)=>match zuU E args with
   | some avs=>zvk X L nid K g avs (inl X Z ih L nid K g avs []) (Z.ct g)
   | none=>none
  | some (.cf id)=>match lk L id with
   | .clo g bs cs=>match zuU E args with
    | some avs=>zvk X L nid (fun v g U t n=>K v g U ([id]++t) n) g (bs.map .c++(avs++cs.map .c)) (inl X Z ih L nid K g (bs.map .c++(avs++cs.map .c)) [id]) (Z.ct g)
    | none=>none
   | _=>none
  | _=>opX X E L nid K o
 | .indexAddr t x y=>match evC E x with
  | some (.os id)=>bc (vwB (lk L id)) (match elO X.P t with
   | some te=>match evC E y with
    | some (.i m)=>ixZ X L nid K id te m
    | _=>none
   | none=>none) (opX X E L nid K (.indexAddr t x y))
  | _=>opX X E L nid K (.indexAddr t x y)
 | .call ⟨.builtin .len,⟨[x]⟩,⟨[t]⟩⟩=>match evC E x with
  | some (.os id)=>match lk L id with
   | .sb _ n=>match elO X.P t with
    | some _=>K (.c (.i (n:Int))) [] [] [id] nid
    | none=>none
   | _=>opX X E L nid K (.call ⟨.builtin .len,⟨[x]⟩,⟨[t]⟩⟩)
  | _=>opX X E L nid K (.call ⟨.builtin .len,⟨[x]⟩,⟨[t]⟩⟩)
 | .makeFunc (.func f) ⟨fs⟩ ⟨caps⟩=>match zHL E fs with
  | some bs=>match zHL E caps with
   | some cs=>K (.c (.cf nid)) [] [(nid, .clo f bs cs)] [] (nid+1)
   | none=>none
  | none=>none
 | .buildSlice t n ⟨ps⟩=>match elO X.P t with
  | some te=>match asc X.ty te with
   | some _=>opX X E L nid K (.buildSlice t n ⟨ps⟩)
   | none=>bc (z1B X.P te) (match zzi E 0 ps with
    | some cs=>bc (Nat.beq cs.length n&&Nat.ble n 65536) (K (.c (.os (nid+1))) [] [(nid+1, .sb nid n),(nid, .blk te cs)] [] (nid+2)) none
    | none=>none) none
  | none=>none
 | o=>opX X E L nid K o
def inZ (X:Cx τ) (Z:Zx X):Nat→InF τ ρ
 | 0,_,_,_,_,_,_,_=>none
 | k+1,n,c,E,L,T,nid,K=>match c with
  | .skip=>K .no E L T nid
  | .region _ ⟨l⟩ d=>bc d (zzg (opZ X Z (inZ X Z k)) n l 0 l [] E L T nid (K .no)) (opsZ (opZ X Z (inZ X Z k)) n l l E L T nid (K .no))
  | .seq x y=>inZ X Z k n x E L T nid fun e E L T nid=>match e with
   | .no=>inZ X Z k n y E L T nid K
   | e=>K e E L T nid
  | .cond c x y=>match evC E c with
   | some (.k b)=>bc b (inZ X Z k n x E L T nid K) (inZ X Z k n y E L T nid K)
   | some (.b b)=>match c with
    | .tmp s=>if b=true then inZ X Z k n x ((s, .c (.k true))::E) L T nid K else inZ X Z k n y ((s, .c (.k false))::E) L T nid K
    | _=>none
   | _=>none
  | .block id c=>inZ X Z k n c E L T nid fun e E L T nid=>match e with
   | .ex i=>bc (Nat.beq i id) (K .no E L T nid) (K (.ex i) E L T nid)
   | e=>K e E L T nid
  | .loop c=>inZ X Z k n c E L T nid fun e E L T nid=>match e with
   | .no=>nfE [] E fun E=>inZ X Z k n (.loop c) E L T nid K
   | e=>K e E L T nid
  | .exit id=>K (.ex id) E L T nid
  | .ret=>K .rt E L T nid
  | _=>none
def zrun (X:Cx τ) (Z:Zx X) (k:Nat) (f:FuncId) (avs:List (XV τ)):Option Bool:=inl X Z (inZ X Z k) [] 0 (fun v _ _ _ _=>match v with
 | .c (.b b)=>some b
 | .c (.k b)=>some b
 | _=>none) f avs []
end
end Go.Rk
end
section
namespace Go.Rk
open Go.RowKit Go.Dm Go.Dk
variable {τ:Nat→Type}
section
variable {ρ:Type} {X:Cx τ} {w0 w w':World} {h0 h h' H:Fz} {F:List Nat} {E E' Eb:zu τ} {L L2:Hp τ} {ν ν':Vn τ} {φ φ':Nat→List Nat} {nid nid':Nat} {r:ρ} {a:Act}
theorem zN3 {α:Type} (n:Nat) (k:Nat→α):frN n k=k n:=by cases n<;>rfl
def OkC (X:Cx τ) (w0:World) (h0:Fz) (F:List Nat) (W:(Exit→Act→World→Prop)→Act→World→Prop) (E:zu τ) (L:Hp τ) (nid:Nat) (e:Ex) (E2:zu τ) (U:Hp τ) (T:List Nat) (nid2:Nat):Prop :=
 ∀(L2:Hp τ) (ν:Vn τ) (h:Fz) (φ:Nat→List Nat) (a:Act) (w:World) (Q:Exit→Act→World→Prop),a.defers=[]→a.tmps.size=X.n→Mem X.P X.G w0 h0 F L2 w ν h φ→zbZ X h ν a E →
  (∀i∈T,lk L2 i=lk L i)→(∀i,nid≤i→i<nid2→ν i=none) →
  (∀ν' h' φ' a' w',a'.defers=[]→a'.tmps.size=X.n→Mem X.P X.G w0 h0 F (U++L2) w' ν' h' φ'→ν.le ν'→h.le h'→zde ν ν' nid nid2→zbZ X h' ν' a' E2→Q (exT e) a' w')→W Q a w
theorem zFo {U L L2:Hp τ} {i:Nat} (h:lk L2 i=lk L i):lk (U++L2) i=lk (U++L) i:=by
 by_cases hi:i∈kys U
 ·rw [zgX _ hi,zgX _ hi]
 ·rw [zcJ _ hi,zcJ _ hi,h]
theorem zHv {a b c:Nat} (hfr:zde ν ν' a b) (hn:∀i,a≤i→i<c→ν i=none) (hab:a≤b):∀i,b≤i→i<c→ν' i=none:=by
 intro i h1 h2
 cases e:ν' i with
 | none=>rfl
 | some y =>
  have:=hfr i (hn i (by omega) h2) (by rw [e]; simp);omega
theorem zC0 {ν'':Vn τ} {a b c:Nat} (h1:zde ν ν' a b) (h2:zde ν' ν'' b c) (hab:a≤b) (hbc:b≤c):zde ν ν'' a c:=h1.trans h2 hab hbc
theorem OkC.seq {W W1 W2:(Exit→Act→World→Prop)→Act→World→Prop} {E1 E2:zu τ} {U1 U2:Hp τ} {T1 T2:List Nat} {n1 n2:Nat} {e:Ex} (h1:OkC X w0 h0 F W1 E L nid .no E1 U1 T1 n1) (h2:OkC X w0 h0 F W2 E1 (U1++L) n1 e E2 U2 T2 n2) (l1:nid≤n1) (l2:n1≤n2)
  (hW:∀Q a w,W1 (Exit.then (W2 Q) Q) a w→W Q a w):OkC X w0 h0 F W E L nid e E2 (U2++U1) (T2++T1) n2:=by
 intro L2 ν h φ a w Q hd hs M hE hT hn hQ;refine hW Q a w (h1 L2 ν h φ a w _ hd hs M hE (fun i hi=>hT i (List.mem_append_right _ hi)) (fun i a b=>hn i a (by omega)) fun ν' h' φ' a' w' hd' hs' M' hν hh hfr hE'=>?_);refine h2 (U1++L2) ν' h' φ' a' w' Q hd' hs' M' hE' (fun i hi=>zFo (hT i (List.mem_append_left _ hi))) (zHv hfr hn l1) fun ν'' h'' φ'' a'' w'' hd'' hs'' M'' hν' hh' hfr' hE''=>?_;exact hQ ν'' h'' φ'' a'' w'' hd'' hs'' (by rw [List.append_assoc]; exact M'') (hν.trans hν') (hh.trans hh') (zC0 hfr hfr' l1 l2) hE''
theorem OkC.out {W W1:(Exit→Act→World→Prop)→Act→World→Prop} {E1:zu τ} {U1:Hp τ} {T1:List Nat} {n1:Nat} {e e':Ex} (h1:OkC X w0 h0 F W1 E L nid e E1 U1 T1 n1)
  (hW:∀Q a w,(∀Q',(∀a' w',Q (exT e') a' w'→Q' (exT e) a' w')→W1 Q' a w)→W Q a w):OkC X w0 h0 F W E L nid e' E1 U1 T1 n1:=by
 intro L2 ν h φ a w Q hd hs M hE hT hn hQ;exact hW Q a w fun Q' hq=>h1 L2 ν h φ a w Q' hd hs M hE hT hn fun ν' h' φ' a' w' hd' hs' M' hν hh hfr hE'=>hq a' w' (hQ ν' h' φ' a' w' hd' hs' M' hν hh hfr hE')
theorem OkC.nil {W:(Exit→Act→World→Prop)→Act→World→Prop} {e:Ex} (hW:∀Q a w,Q (exT e) a w→W Q a w):OkC X w0 h0 F W E L nid e E [] [] nid :=
 fun _ ν h φ a w Q hd hs M hE _ _ hQ=>hW Q a w (hQ ν h φ a w hd hs M (Vn.le.refl _) (Fz.le.refl _) (zde.refl _ _ _) hE)
theorem OkC.ref {W:(Exit→Act→World→Prop)→Act→World→Prop} {E2:zu τ} {U:Hp τ} {T:List Nat} {e:Ex} (hr:Ref E E') (h1:OkC X w0 h0 F W E' L nid e E2 U T nid'):OkC X w0 h0 F W E L nid e E2 U T nid' :=
 fun L2 ν h φ a w Q hd hs M hE=>h1 L2 ν h φ a w Q hd hs M (hr.env hE)
theorem zFp {op:OpF τ ρ} (hop:zvw X w0 h0 F op) (hN:X.n≤gh) {all:List Oper}:∀{l:List Oper} {E:zu τ} {L:Hp τ} {T0:List Nat} {nid:Nat} {K:zu τ→Hp τ→List Nat→Nat→Option ρ},opsZ op X.n all l E L T0 nid K=some r →
  ∃E2 U T nid2,K E2 (U++L) (T++T0) nid2=some r∧nid≤nid2∧OkC X w0 h0 F (fun Q a w=>wpList X.P all.toArray Q l a w) E L nid .no E2 U T nid2
 | [],E,L,T0,nid,K,e=>⟨E,[],[],nid,e,Nat.le_refl _,OkC.nil fun Q a w h=>h⟩
 | o::l,E,L,T0,nid,K,e=>by
  unfold opsZ at e;obtain ⟨hd,e⟩:=zgF e;obtain ⟨m,E1,e,hr,hw⟩:=zs8 e
  cases m with
  | false =>
   simp only [Bool.false_eq_true,if_false] at e;rw [zC3] at e;obtain ⟨E2,U,T,n2,g1,g2,g3⟩:=zFp hop hN e;refine ⟨E2,U,T,n2,g1,g2,fun L2 ν h φ a w Q hdf hs M hE hT hn hQ=>?_⟩;have hwant:=hw X h ν a o rfl (hE.on _);show wpList X.P all.toArray Q (o::l) a w;unfold wpList;rw [hwant];simp only [Bool.false_eq_true,if_false];refine g3 L2 ν h φ _ w Q (by rw [zta]; exact hdf) (by rw [zo8]; exact hs) M ?_ hT hn hQ;exact zs9 hN hd hs (fun _ h=>by cases h) rfl fun t x e _=>hr.env hE t x e
  | true =>
   simp only [if_true] at e;obtain ⟨v,g,U1,tch,n1,e1,hle,hg,hok⟩:=hop _ _ _ _ _ _ e;simp only [zN3] at e1;simp only [zvg,ap_eq] at e1;obtain ⟨E2,U,T,n2,g1,g2,g3⟩:=zFp hop hN e1;refine ⟨E2,U++U1,T++tch,n2,by rw [List.append_assoc,List.append_assoc]; exact g1,by omega,fun L2 ν h φ a w Q hdf hs M hE hT hn hQ=>?_⟩;have hwant:=hw X h ν a o rfl (hE.on _);show wpList X.P all.toArray Q (o::l) a w;unfold wpList;rw [hwant];simp only [if_true]
   left
   refine hok L2 ν h φ a w _ Q hdf M ((hr.env hE).on _) (fun i hi=>hT i (List.mem_append_right _ hi)) (fun i h1 h2=>hn i h1 (by omega)) fun ν' h' φ' w' u M' hν hh hfr hv=>?_;refine g3 (U1++L2) ν' h' φ' _ w' Q (by rw [zta]; exact hdf) (by rw [zo8]; exact hs) M' (zs9 hN hd hs hg hv fun t x e _=>((hr.env hE).le hh hν) t x e) (fun i hi=>zFo (hT i (List.mem_append_left _ hi))) (zHv hfr hn hle) fun ν'' h'' φ'' a'' w'' hd'' hs'' M'' hν' hh' hfr' hE''=>?_;exact hQ ν'' h'' φ'' a'' w'' hd'' hs'' (by rw [List.append_assoc]; exact M'') (hν.trans hν') (hh.trans hh') (zC0 hfr hfr' hle g2) hE''
theorem zI8 {op:OpF τ ρ} (hop:zvw X w0 h0 F op) {all:List Oper} {K:zu τ→Hp τ→List Nat→Nat→Option ρ}:∀{l:List Oper} {i:Nat} {R:List Dr} {E Eb:zu τ} {L:Hp τ} {T0:List Nat} {nid:Nat},zzg op X.n all i l R E L T0 nid K=some r→Ref Eb E →
  ∃qs Eb' L' nid' E' T,zua X w0 h0 F all l Eb L nid qs Eb' L' nid'∧Ref Eb' E'∧zuW all ((drs all i qs).reverse++R)=true∧K E' L' (T++T0) nid'=some r∧∀q∈qs,q.run=true→∀k∈q.t,k∈T
 | [],i,R,E,Eb,L,T0,nid,e,hr=>by
  unfold zzg at e;obtain ⟨h1,e⟩:=zgF e;exact ⟨[],Eb,L,nid,E,[],⟨rfl,rfl,rfl⟩,hr,h1,e,fun q hq=>by cases hq⟩
 | o::l,i,R,E,Eb,L,T0,nid,e,hr=>by
  unfold zzg at e;obtain ⟨hd,e⟩:=zgF e;obtain ⟨m,E1,e,hr1,hw⟩:=zs8 e;have hr2:=hr.trans hr1;have hwant:∀(h:Fz) (ν:Vn τ) (a:Act),zd8 X h ν a (gdR all o.guard) E→Region.wanted o (yielded all.toArray a.tmps)=m:=fun h ν a=>hw X h ν a o rfl
  cases m with
  | false =>
   simp only [Bool.false_eq_true,if_false] at e;rw [zC3] at e;obtain ⟨qs,Eb',L',nid',E',T,h1,h2,h3,h4,h5⟩:=zI8 hop e (hr2.app _);refine ⟨⟨o,E,E1,L,nid,nid, .un,[],[],[],[],false⟩::qs,Eb',L',nid',E',T,⟨rfl,rfl,rfl,⟨hr,hr2,Nat.le_refl _,hd,hwant,(fun _ h=>by cases h),fun _=>⟨rfl,rfl⟩,fun h=>by cases h⟩,h1⟩,h2,?_,h4,fun q hq hrun k hk=>?_⟩
   ·simpa [drs,kys] using h3
   ·rcases List.mem_cons.1 hq with rfl|hq
    ·cases hrun
    ·exact h5 q hq hrun k hk
  | true =>
   simp only [if_true] at e;obtain ⟨v,g,U,tch,n1,e1,hle,hg,hok⟩:=hop _ _ _ _ _ _ e;simp only [zN3] at e1;simp only [zvg,ap_eq] at e1;obtain ⟨qs,Eb',L',nid',E',T,h1,h2,h3,h4,h5⟩:=zI8 hop e1 (hr2.app _);refine ⟨⟨o,E,E1,L,nid,n1,v,g,l,U,tch,true⟩::qs,Eb',L',nid',E',T++tch,⟨rfl,rfl,rfl,⟨hr,hr2,hle,hd,hwant,hg,(fun h=>by cases h),fun _=>hok⟩,h1⟩,h2,?_,by rw [List.append_assoc]; exact h4,fun q hq hrun k hk=>?_⟩
   ·simpa [drs] using h3
   ·rcases List.mem_cons.1 hq with rfl|hq
    ·exact List.mem_append_right _ hk
    ·exact List.mem_append_left _ (h5 q hq hrun k hk)
theorem zN4 (hm:X.P.follows .mixedOrders=true) (hN:X.n≤gh) {op:OpF τ ρ} (hop:zvw X w0 h0 F op) {id:Nat} {l:List Oper} {T0:List Nat} {K:zu τ→Hp τ→List Nat→Nat→Option ρ} (e:zzg op X.n l 0 l [] E L T0 nid K=some r) :
  ∃E2 U T nid2,K E2 (U++L) (T++T0) nid2=some r∧nid≤nid2∧OkC X w0 h0 F (fun Q a w=>(Code.region id l.toArray true).wp X.P Q a w) E L nid .no E2 U T nid2:=by
 obtain ⟨qs,Eb',L',nid',E',T,hch,hrf,hok,hfin,hTT⟩:=zI8 hop e (Ref.refl E);obtain ⟨c1,_,_,c4,_,_⟩:=zua.get 0 hch;refine ⟨E',zkL Rec.U qs 0 (fun _=>true) [],T,nid',by rw [← zsM, ← c4]; exact hfin,c1,fun L2 ν h φ a w Q hd hs M hE hT hn hQ=>?_⟩;exact zCV hm hN hch hrf hok hTT hd hs M hE hT hn hQ
theorem zI9:∀{E:zu τ} {sn:List Nat} {K:zu τ→Option ρ},nfE sn E K=some r→∃E',K E'=some r∧∀t x,asc E' t=some x→asc E t=some x∧t∉sn
 | [],sn,K,e=>⟨[],e,fun t x h=>by cases h⟩
 | (t,v)::E,sn,K,e=>by
  unfold nfE at e
  cases hm:mem sn t with
  | true =>
   rw [hm] at e;obtain ⟨E',h1,h2⟩:=zI9 (K:=K) (sn:=sn) e;refine ⟨E',h1,fun t' x hx=>?_⟩;obtain ⟨h3,h4⟩:=h2 t' x hx;refine ⟨?_,h4⟩;have:Nat.beq t t'=false:=zbN.2 fun e=>h4 (e▸zep.1 hm);simp only [zdf,zbP,this,cond_false]; exact h3
  | false =>
   rw [hm] at e;obtain ⟨E',h1,h2⟩:=zI9 (K:=fun E=>K ((t,v)::E)) (sn:=t::sn) e;refine ⟨_,h1,fun t' x hx=>?_⟩;simp only [zdf,zbP] at hx ⊢
   cases hb:Nat.beq t t' with
   | true =>
    rw [hb] at hx
    have:t=t':=by simpa using hb
    subst this;exact ⟨hx,fun h=>by rw [zep.2 h] at hm; cases hm⟩
   | false =>
    rw [hb] at hx;obtain ⟨h3,h4⟩:=h2 t' x hx;exact ⟨h3,fun h=>h4 (List.mem_cons_of_mem _ h)⟩
theorem zFq {n:Nat} {h:Fz} {ν:Vn τ} {a:Act} {E:zu τ}:zbZ (X.wn n) h ν a E↔zbZ X h ν a E:=Iff.rfl
def Wm (P:Program) (m:Nat):Code→(Exit→Act→World→Prop)→Act→World→Prop
 | .loop c,Q,a,w=>Code.rounds P c Q m a w
 | c,Q,a,w=>c.wp P Q a w
theorem Wm_wp {P:Program} {m:Nat} {c:Code} {Q:Exit→Act→World→Prop} {a:Act} {w:World} (h:Wm P m c Q a w):c.wp P Q a w:=by
 cases c with
 | loop c=>exact wp_loop_rounds m h
 | _=>exact h
theorem OkC.wp {m:Nat} {c:Code} {E2:zu τ} {U:Hp τ} {T:List Nat} {e:Ex} (h1:OkC X w0 h0 F (Wm X.P m c) E L nid e E2 U T nid'):OkC X w0 h0 F (fun Q a w=>c.wp X.P Q a w) E L nid e E2 U T nid' :=
 fun L2 ν h φ a w Q hd hs M hE hT hn hQ=>Wm_wp (h1 L2 ν h φ a w Q hd hs M hE hT hn hQ)
def InOk (X:Cx τ) (w0:World) (h0:Fz) (F:List Nat) (ih:InF τ ρ):Prop:=∀(r:ρ) (n:Nat) (c:Code) (E:zu τ) (L:Hp τ) (T0:List Nat) (nid:Nat) (K:Kz τ ρ),n≤gh→ih n c E L T0 nid K=some r →
 ∃e E2 U T nid2 m,K e E2 (U++L) (T++T0) nid2=some r∧nid≤nid2∧OkC (X.wn n) w0 h0 F (Wm X.P m c) E L nid e E2 U T nid2
theorem zFr {lo hi:Nat}:∀{U:Hp τ} {sn:List Nat} {L:Hp τ},(∀k,lo≤k→k<hi→lk L k = .gone)→∀k,k∉sn→lk (cmU lo hi sn U++L) k=lk (U++L) k
 | [],_,_,_,_,_=>rfl
 | (j,v) :: U,sn,L,hg,k,hk=>by
  have skip:lk ((j,v)::U++L) k=bif Nat.beq j k then v else lk (U++L) k:=zmH ..
  have keep:∀(u:AR τ),lk ((j,u)::cmU lo hi (j::sn) U++L) k=bif Nat.beq j k then u else lk (U++L) k:=by
   intro u;rw [List.cons_append,zmH]
   cases hb:Nat.beq j k with
   | true=>rfl
   | false =>
    have hne:¬ j=k:=zbN.1 hb
    exact zFr hg k fun h=>by
     rcases List.mem_cons.1 h with h|h
     ·exact hne h.symm
     ·exact hk h
  rw [skip];unfold cmU
  cases hm:mem sn j with
  | true =>
   have hne:Nat.beq j k=false:=zbN.2 fun e=>hk (e▸zep.1 hm);rw [hne];exact zFr hg k hk
  | false =>
   simp only [cond_false]
   split
   ·cases hb:(Nat.ble lo j&&Nat.blt j hi) with
    | false=>exact keep .gone
    | true =>
     simp only [cond_true]
     cases hjk:Nat.beq j k with
     | true =>
      have:j=k:=by simpa using hjk
      subst this;simp only [Bool.and_eq_true,Nat.ble_eq,Nat.blt_eq] at hb
      have hin:∀(U:Hp τ) (sn:List Nat),j∈sn→j∉kys (cmU lo hi sn U):=by
       intro U
       induction U with
       | nil=>intro sn _ h; cases h
       | cons p U ih =>
        obtain ⟨i,v⟩:=p;intro sn hs;unfold cmU
        cases hmi:mem sn i with
        | true=>exact ih sn hs
        | false =>
         simp only [cond_false]
         have hne:¬ j=i:=fun e=>by rw [← e,zep.2 hs] at hmi; cases hmi
         split
         ·cases (Nat.ble lo i&&Nat.blt i hi) with
          | true=>exact ih _ (List.mem_cons_of_mem _ hs)
          | false =>
           intro h
           rcases List.mem_cons.1 h with h|h
           ·exact hne h
           ·exact ih _ (List.mem_cons_of_mem _ hs) h
         ·intro h
          rcases List.mem_cons.1 h with h|h
          ·exact hne h
          ·exact ih _ (List.mem_cons_of_mem _ hs) h
      rw [zcJ _ (hin U (j::sn) (List.mem_cons_self ..)),hg j hb.1 hb.2]; rfl
     | false =>
      have hne:¬ j=k:=zbN.1 hjk
      exact zFr hg k fun h=>by
       rcases List.mem_cons.1 h with h|h
       ·exact hne h.symm
       ·exact hk h
   ·exact keep _
theorem zJa {lo hi:Nat}:∀{T:List Nat} {sn:List Nat} {t:Nat},t∈T→t∈sn∨(lo≤t∧t<hi)∨t∈dd lo hi sn T
 | [],_,_,h=>by cases h
 | s :: T,sn,t,h=>by
  unfold dd
  cases hb:(mem sn s||(Nat.ble lo s&&Nat.blt s hi)) with
  | true =>
   simp only [cond_true]
   rcases List.mem_cons.1 h with rfl|h
   ·rw [Bool.or_eq_true,Bool.and_eq_true] at hb
    rcases hb with hb|hb
    ·exact .inl (zep.1 hb)
    ·exact .inr (.inl (by simpa using hb))
   ·exact zJa h
  | false =>
   simp only [cond_false]
   rcases List.mem_cons.1 h with rfl|h
   ·exact .inr (.inr (List.mem_cons_self ..))
   ·rcases zJa (sn:=s::sn) h with h1|h1|h1
    ·rcases List.mem_cons.1 h1 with rfl|h1
     ·exact .inr (.inr (List.mem_cons_self ..))
     ·exact .inl h1
    ·exact .inr (.inl h1)
    ·exact .inr (.inr (List.mem_cons_of_mem _ h1))
theorem zN5 {lo hi:Nat} {T:List Nat} (h:∀i∈cmT lo hi L T,lk L2 i=lk L i) (hg:∀i,lo≤i→i<hi→lk L2 i = .gone):∀i∈T,lk L2 i=lk L i:=by
 intro i hi';unfold cmT at h
 cases hb:(zBG L fun p=>Nat.blt p.1 lo) with
 | false=>rw [hb] at h; exact h i hi'
 | true =>
  rw [hb] at h;have h:∀i∈ddb lo hi 0 T,lk L2 i=lk L i:=h;rw [zHK Bsr.nil] at h
  rcases zJa (lo:=lo) (hi:=hi) (sn:=[]) hi' with h1|⟨h1,h2⟩|h1
  ·cases h1
  ·rw [hg i h1 h2]
   have:i∉kys L:=fun hk=>by
    obtain ⟨p,hp,rfl⟩:=List.mem_map.1 hk;have:=List.all_eq_true.1 (zy4 _ _▸hb) p hp;rw [Nat.blt_eq] at this; omega
   have h3:=zcJ (U:=L) [] this;rw [List.append_nil] at h3;rw [h3]; rfl
  ·exact h i h1
theorem zHw:∀{avs:List (XV τ)} {i t:Nat} {A:XV τ},asc (argE i avs) t=some A→i≤t∧avs[t-i]? = some A
 | [],_,_,_,h=>by cases h
 | v::vs,i,t,A,h=>by
  simp only [argE,zdf,zbP] at h
  cases hb:Nat.beq i t with
  | true =>
   rw [hb] at h
   have:i=t:=by simpa using hb
   subst this;cases h;exact ⟨Nat.le_refl _,by simp⟩
  | false =>
   rw [hb] at h;have hne:¬ i=t:=zbN.1 hb;obtain ⟨h1,h2⟩:=zHw h;refine ⟨by omega,?_⟩;rw [show t-i=(t-(i+1))+1 by omega]; exact h2
def zC1 (X:Cx τ) (w0:World) (h0:Fz) (F:List Nat) (f:FuncId) (avs:List (XV τ)) (L:Hp τ) (nid:Nat) (v:XV τ) (U:Hp τ) (T:List Nat) (nid':Nat):Prop :=
 zcC X.P f∧∀(L2:Hp τ) (ν:Vn τ) (h:Fz) (φ:Nat→List Nat) (w:World) (vals:List Value),Mem X.P X.G w0 h0 F L2 w ν h φ→vals.length=avs.length→(∀(i:Nat) (A:XV τ) (u:Value),avs[i]? = some A→vals[i]? = some u→XOk X.P X.G h ν A u) →
  (∀i∈T,lk L2 i=lk L i)→(∀i,nid≤i→i<nid'→ν i=none) →
  Calls X.P f vals.toArray w fun e w'=>∃u ν' h' φ',e = .returned u∧Mem X.P X.G w0 h0 F (U++L2) w' ν' h' φ'∧ν.le ν'∧h.le h'∧zde ν ν' nid nid'∧XOk X.P X.G h' ν' v u
theorem zvf {L':Hp τ} {E:zu τ}:∀{rv:List ResultVar},(∀i∈zA8 E rv,lk L' i=lk L i)→zsG X E L' rv=zsG X E L rv
 | [],_=>rfl
 | .tmp t::rv,h=>by
  unfold zsG;rw [zvf (rv:=rv) h]
 | .cell t ty::rv,h=>by
  unfold zA8 at h;unfold zsG
  split
  ·rename_i id hx
   rw [hx] at h;have h:∀i∈id::zA8 E rv,lk L' i=lk L i:=h;rw [h id (List.mem_cons_self ..),zvf (rv:=rv) fun i hi=>h i (List.mem_cons_of_mem _ hi)]
  ·rfl
theorem zJ9:∀{xs:List (XV τ)} {vs:List Value},vs.length=xs.length→(∀(i:Nat) (A:XV τ) (v:Value),xs[i]? = some A→vs[i]? = some v→XOk X.P X.G h ν A v)→zFu X.P X.G h ν xs vs
 | [],vs,hl,_=>List.eq_nil_of_length_eq_zero hl
 | x::xs,[],hl,_=>by simp at hl
 | x::xs,v::vs,hl,hv=>⟨v,vs,rfl,hv 0 x v rfl rfl,zJ9 (by simpa using hl) fun i A u h1 h2=>hv (i+1) A u h1 h2⟩
theorem gvB_eq {x:XV τ}:gvB x=zjP x:=by cases x<;>rfl
theorem zJb (hNm:∀(f:FuncId) (fn:Func),X.P.funcs[f]? = some fn→(fn.name == "runtime.NumGoroutine")=false) {Z:Zx X} {ih:InF τ ρ} (hih:InOk X w0 h0 F ih) {K:Nx τ ρ} {f:FuncId} {avs:List (XV τ)} {T0:List Nat} (e:inl X Z ih L nid K f avs T0=some r) :
  ∃v U T nid',K v [] U T nid'=some r∧nid≤nid'∧zC1 X w0 h0 F f avs L nid v U T nid'∧∀{L2:Hp τ},(∀i∈T,lk L2 i=lk L i)→(∀i,nid≤i→i<nid'→lk L2 i = .gone)→∀i∈T0,lk L2 i=lk L i:=by
 unfold inl at e
 split at e
 ·rename_i s hs
  have e2:=(zgF e).2;have hsf:=(zgF e).1
  clear e
  obtain ⟨f',fn,hfn⟩:=s;have:f=f':=(show f'=f by simpa using hsf).symm;subst this;dsimp only at e2
  split at e2
  ·rename_i c hc
   obtain ⟨hb,e⟩:=zgF e2;simp only [Bool.and_eq_true,Nat.ble_eq] at hb;obtain ⟨ex,E2,U,T,n2,m,e,hle,hok⟩:=hih _ _ _ _ _ _ _ _ hb.2 e
   have main:∀{xs:List (XV τ)} {v:XV τ},(∀i,ex ≠ .ex i)→zsG X E2 (U++L) fn.results.toList=some xs→xs.any gvB=false→zBI xs=some v→zC1 X w0 h0 F f avs L nid v (zzh nid n2 0 ((U++L).take ((U++L).length-L.length))) (cmT nid n2 L (zA8 E2 fn.results.toList++(T++T0))) n2:=by
    intro xs v hex ho hgv htp;refine ⟨⟨fn,hfn,by rw [hc]; rfl,hNm f fn hfn⟩,fun L2 ν h φ w vals M hlen hvals hT hn=>?_⟩
    have htake:(U++L).take ((U++L).length-L.length)=U:=by
     rw [List.length_append,Nat.add_sub_cancel]; exact List.take_left
    rw [htake];have hgone:∀i,nid≤i→i<n2→lk L2 i = .gone:=fun i h1 h2=>M.gone_of (hn i h1 h2);have hT':=zN5 hT hgone;refine calls_of_wp hfn hc ?_
    have hsz:(vals.toArray++Array.replicate (fn.ntmps-vals.toArray.size) undef).size=fn.ntmps:=by simp; omega
    refine Wm_wp (hok L2 ν h φ ⟨vals.toArray++Array.replicate (fn.ntmps-vals.toArray.size) undef,[]⟩ w _ rfl hsz M ?_ (fun i hi=>hT' i (List.mem_append_right _ (List.mem_append_left _ hi))) hn ?_)
    ·refine zbZ.app (X:=X) (fun t x hx=>?_) (zI7 M.gl fun _ _=>trivial);obtain ⟨_,h2⟩:=zHw hx;rw [Nat.sub_zero] at h2;have hlt:t<avs.length:=(List.getElem?_eq_some_iff.1 h2).1;have hv:vals[t]? = some vals[t]:=List.getElem?_eq_getElem (by omega)
     have hgh:t<gh:=by omega
     refine ⟨vals[t],hvals t x _ h2 hv,fun _ _=>?_,fun h=>?_,fun h=>?_⟩
     ·show (vals.toArray++Array.replicate (fn.ntmps-vals.toArray.size) undef)[t]? = _;rw [Array.getElem?_append_left (by simp; omega)];simp
     ·exfalso; unfold gb gh at *; omega
     ·exfalso; omega
    ·intro ν' h' φ' a' w' hd' hs' M' hν hh hfr hE'
     have hgv2:∀y∈xs,zjP y=false:=fun y hy=>by
      rw [← gvB_eq]
      cases hg:gvB y with
      | false=>rfl
      | true=>rw [List.any_eq_true.2 ⟨y,hy,hg⟩] at hgv; cases hgv
     have ho2:zsG X E2 (U++L2) fn.results.toList=some xs:=by
      rw [zvf (L:=U++L) fun i hi=>zFo (hT' i (List.mem_append_left _ hi))]; exact ho
     obtain ⟨vs,o1,o2,o3,o4⟩:=zy0 (X:=X) M' hE' ho2 hgv2;have hres:=zxC (X:=X) (w:=w') (fn:=fn) (rv:=fn.results.toList) (tmps:=a'.tmps) rfl o1 o3
     have hpost:∃u ν2 h2 φ2,Ending.returned (zy9 vs) = .returned u∧Mem X.P X.G w0 h0 F (zzh nid n2 0 U++L2) w' ν2 h2 φ2∧ν.le ν2∧h.le h2∧zde ν ν2 nid n2∧XOk X.P X.G h2 ν2 v u :=
      ⟨_, ν',h', φ',rfl,M'.congr fun k=>by rw [zDb Bsr.nil]; exact zFr hgone k (by simp),hν,hh,hfr,zJh htp (zJ9 o2 o4)⟩
     cases ex with
     | no=>exact ⟨hd',_,hres,hpost⟩
     | rt=>exact ⟨hd',_,hres,hpost⟩
     | ex i=>exact (hex i rfl).elim
   have done:∀{xs:List (XV τ)} {v:XV τ},(∀i,ex ≠ .ex i)→zsG X E2 (U++L) fn.results.toList=some xs→xs.any gvB=false→zBI xs=some v→K v [] (zzh nid n2 0 ((U++L).take ((U++L).length-L.length))) (cmT nid n2 L (zA8 E2 fn.results.toList++(T++T0))) n2=some r →
     ∃v U T nid',K v [] U T nid'=some r∧nid≤nid'∧zC1 X w0 h0 F f avs L nid v U T nid'∧∀{L2:Hp τ},(∀i∈T,lk L2 i=lk L i)→(∀i,nid≤i→i<nid'→lk L2 i = .gone)→∀i∈T0,lk L2 i=lk L i :=
    fun hex ho hgv htp e=>⟨_,_,_,_,e,hle,main hex ho hgv htp,fun hT hg i hi=>zN5 hT hg i (List.mem_append_right _ (List.mem_append_right _ hi))⟩
   have go:(∀i,ex ≠ .ex i)→(match zsG X E2 (U++L) fn.results.toList with
     | some vs=>bc (vs.any gvB) none (match zBI vs with
      | some v=>K v [] (zzh nid n2 0 ((U++L).take ((U++L).length-L.length))) (cmT nid n2 L (zA8 E2 fn.results.toList++(T++T0))) n2
      | none=>none)
     | none=>none)=some r→∃v U T nid',K v [] U T nid'=some r∧nid≤nid'∧zC1 X w0 h0 F f avs L nid v U T nid'∧∀{L2:Hp τ},(∀i∈T,lk L2 i=lk L i)→(∀i,nid≤i→i<nid'→lk L2 i = .gone)→∀i∈T0,lk L2 i=lk L i:=by
    intro hex e
    split at e
    ·rename_i xs ho
     obtain ⟨hgv,e⟩:=bc_f e
     split at e
     ·rename_i v htp
      exact done hex ho hgv htp e
     ·cases e
    ·cases e
   cases ex with
   | ex i=>cases e
   | no=>exact go (fun i h=>by cases h) e
   | rt=>exact go (fun i h=>by cases h) e
  ·cases e2
 ·cases e
end
end Go.Rk
end
section
namespace Go.Rk
open Go.RowKit Go.Dm Go.Dk
variable {τ:Nat→Type}
section
variable {ρ:Type} {X:Cx τ} {w0 w w':World} {h0 h h' H:Fz} {F:List Nat} {o:Oper} {E:zu τ} {L L2:Hp τ} {ν ν':Vn τ} {φ φ':Nat→List Nat} {nid nid':Nat} {K:Nx τ ρ} {r:ρ} {v:XV τ} {U:Hp τ} {tch:List Nat} {g:List (XV τ)}
variable {a:Act} {x y z:Operand} {t' t ty u':Nat} {dst:Option Nat} {p:String} {af:Array Edge} {gd:Option (Nat × Bool)}
theorem zK1 {f:Nat} {args:List Operand} {avs:List (XV τ)} {ats:Array TypeId} {T:List Nat} (hx:evC E x=some (.fn f)) (hargs:zuU E args=some avs) (k:K v [] U T nid'=some r) (hle:nid≤nid') (hi:zC1 X w0 h0 F f avs L nid v U T nid') :
  zc4 X w0 h0 F ⟨dst, .call ⟨.value x,⟨args⟩,ats⟩,t,p,af,gd⟩ E L nid K r:=by
 refine ⟨_,_,_,_,_,k,hle,(fun _ h=>by cases h),fun L2 ν h φ a w next Q hd M hE ha hfr kk=>?_⟩;obtain ⟨hlen,hidx⟩:=zwj hargs
 have hvs:∀(i:Nat) (A:XV τ) (v:Value),avs[i]? = some A→(args.map a.eval)[i]? = some v→XOk X.P X.G h ν A v:=by
  intro i A v hA hv;obtain ⟨z,hz,hzA⟩:=hidx i A hA;rw [List.getElem?_map,hz] at hv;cases hv;exact zrj hd (hE.op (by simp only [Op.operands,Call.operands]; simp; exact .inr (List.mem_of_getElem? hz))) hzA
 have hcalls:=hi.2 L2 ν h φ w (args.map a.eval) M (by simp [hlen]) hvs ha hfr;obtain ⟨Ea,hf,hl'⟩:=zdC a hd;obtain ⟨vx,g1,g2⟩:=zh hl' (hE.op (by simp [Op.operands,Call.operands])) hx;obtain rfl:vx=_:=g2;have hexec:=zAu (X:=X) (w:=w) (dst:=dst) (t:=t) (p:=p) (af:=af) (gd:=gd) (ats:=ats) (args:=⟨args⟩) (vs:=args.map a.eval) hi.1 (hf.ev g1) (by simp);unfold Oper.wp;rw [hexec];refine Calls.mono hcalls ?_;rintro e1 w' ⟨u, ν',h', φ',rfl,M',hν,hh,hfr',hv⟩;exact kk ν' h' φ' w' u M' hν hh hfr' hv
theorem CVs.getl:∀{cs:List (CV τ)} {vs:List Value},CVs X.P X.G h ν cs vs→vs.length=cs.length∧∀(i:Nat) (c:CV τ) (v:Value),cs[i]? = some c→vs[i]? = some v→zcI X.P X.G h ν c v
 | [],vs,e=>by cases e; exact ⟨rfl,fun i c v h=>by simp at h⟩
 | c::cs,_,⟨u,us,rfl,h1,h2⟩=>by
  obtain ⟨h3,h4⟩:=CVs.getl h2;refine ⟨by simp [h3],fun i d v hc hv=>?_⟩
  cases i with
  | zero=>simp at hc hv; subst hc; subst hv; exact h1
  | succ i=>exact h4 i d v (by simpa using hc) (by simpa using hv)
theorem zG3 {f id:Nat} {args:List Operand} {avs:List (XV τ)} {bs cs:List (CV τ)} {ats:Array TypeId} (hx:evC E x=some (.cf id)) (hlk:lk L id = .clo f bs cs) (hargs:zuU E args=some avs) :
  Entr X w0 h0 F E L [id] ⟨dst, .call ⟨.value x,⟨args⟩,ats⟩,t,p,af,gd⟩ f (bs.map .c++(avs++cs.map .c)):=fun L2 ν h φ a w hd M hE ha hcall=>by
 obtain ⟨hlen,hidx⟩:=zwj hargs;obtain ⟨Ea,hf,hl'⟩:=zdC a hd;obtain ⟨vx,g1,g2⟩:=zh hl' (hE.op (by simp [Op.operands,Call.operands])) hx;obtain ⟨f',us',vs',q,g3,rfl⟩:=g2;have hres:=M.res id;rw [ha id (List.mem_singleton.2 rfl),hlk] at hres;obtain ⟨us,vs,q',g4,_,g5,g6⟩:=hres;rw [g3] at g4;cases g4;obtain ⟨hbl,hbg⟩:=CVs.getl g5;obtain ⟨hcl,hcg⟩:=CVs.getl g6;refine ⟨us'++(args.map a.eval++vs'),by simp [hlen,hcl,hbl],fun i A v hA hv=>?_,zAv (X:=X) (w:=w) (dst:=dst) (t:=t) (p:=p) (af:=af) (gd:=gd) (ats:=ats) (args:=⟨args⟩) (us:=us') (vs:=args.map a.eval) (cs:=vs') hcall (hf.ev g1) (by simp)⟩
 by_cases hb:i<bs.length
 ·rw [List.getElem?_append_left (by simpa using hb),List.getElem?_map] at hA;rw [List.getElem?_append_left (by omega)] at hv;obtain ⟨c,hc,rfl⟩:=Option.map_eq_some_iff.1 hA;exact hbg _ c v hc hv
 rw [List.getElem?_append_right (by simp; omega)] at hA;rw [List.getElem?_append_right (by omega)] at hv;simp only [List.length_map] at hA;rw [hbl] at hv
 by_cases hi:i-bs.length<avs.length
 ·rw [List.getElem?_append_left hi] at hA;rw [List.getElem?_append_left (by simp; omega)] at hv;obtain ⟨z,hz,hzA⟩:=hidx _ A hA;rw [List.getElem?_map,hz] at hv;cases hv;exact zrj hd (hE.op (by simp only [Op.operands,Call.operands]; simp; exact .inr (List.mem_of_getElem? hz))) hzA
 ·rw [List.getElem?_append_right (by omega),List.getElem?_map] at hA;rw [List.getElem?_append_right (by simp; omega)] at hv;obtain ⟨c,hc,rfl⟩:=Option.map_eq_some_iff.1 hA;simp only [List.length_map] at hv;rw [← hlen] at hv;exact hcg _ c v hc hv
theorem zIW {f id:Nat} {args:List Operand} {avs:List (XV τ)} {bs cs:List (CV τ)} {ats:Array TypeId} {T:List Nat} (hx:evC E x=some (.cf id)) (hlk:lk L id = .clo f bs cs) (hargs:zuU E args=some avs) (k:K v [] U T nid'=some r) (hle:nid≤nid') (hi:zC1 X w0 h0 F f (bs.map .c++(avs++cs.map .c)) L nid v U T nid')
  (hT:∀{L2:Hp τ},(∀i∈T,lk L2 i=lk L i)→(∀i,nid≤i→i<nid'→lk L2 i = .gone)→∀i∈[id],lk L2 i=lk L i) :
  zc4 X w0 h0 F ⟨dst, .call ⟨.value x,⟨args⟩,ats⟩,t,p,af,gd⟩ E L nid K r:=by
 refine ⟨_,_,_,_,_,k,hle,(fun _ h=>by cases h),fun L2 ν h φ a w next Q hd M hE ha hfr kk=>?_⟩;obtain ⟨vals,h1,h2,hexec⟩:=zG3 (dst:=dst) (ats:=ats) (t:=t) (p:=p) (af:=af) (gd:=gd) hx hlk hargs L2 ν h φ a w hd M hE (hT ha fun i h1 h2=>M.gone_of (hfr i h1 h2)) hi.1;have hcalls:=hi.2 L2 ν h φ w vals M h1 h2 ha hfr;unfold Oper.wp;rw [hexec];refine Calls.mono hcalls ?_;rintro e1 w' ⟨u, ν',h', φ',rfl,M',hν,hh,hfr',hv⟩;exact kk ν' h' φ' w' u M' hν hh hfr' hv
theorem zES {Ea:Env} {N:Nat} (hf:Fits N Ea a) (hl:∀t,Dk.look Ea t=a.tmps[t]?):∀{xs:List Operand} {cs:List (CV τ)},zHL E xs=some cs→(∀x∈xs,zd8 X h ν a (zxl x) E)→CVs X.P X.G h ν cs (xs.map a.eval)
 | [],cs,e,_=>by cases e; rfl
 | x::xs,cs,e,hE=>by
  unfold zHL at e
  split at e
  ·rename_i c hc
   split at e
   ·rename_i cs' hcs
    cases e;obtain ⟨v,h1,h2⟩:=zh hl (hE x (List.mem_cons_self ..)) hc;exact ⟨a.eval x,xs.map a.eval,rfl,by rw [hf.ev h1]; exact h2,zES hf hl hcs fun x hx=>hE x (List.mem_cons_of_mem _ hx)⟩
   ·cases e
  ·cases e
theorem zK2 {f:Nat} {fs caps:List Operand} {bs cs:List (CV τ)} (hb:zHL E fs=some bs) (hc:zHL E caps=some cs) (k:K (.c (.cf nid)) [] [(nid, .clo f bs cs)] [] (nid+1)=some r):zc4 X w0 h0 F ⟨dst, .makeFunc (.func f) ⟨fs⟩ ⟨caps⟩,t,p,af,gd⟩ E L nid K r:=by
 refine ⟨_,_,_,_,_,k,Nat.le_succ _,(fun _ h=>by cases h),fun L2 ν h φ a w next Q hd M hE ha hfr kk=>?_⟩;have hn:=hfr nid (Nat.le_refl _) (Nat.lt_succ_self _);obtain ⟨Ea,hf,hl'⟩:=zdC a hd;have hbv:=zES (h:=h) (ν:=ν) hf hl' hb fun x hx=>hE.op (by simp [Op.operands]; exact .inl hx);have hcv:=zES (h:=h) (ν:=ν) hf hl' hc fun x hx=>hE.op (by simp [Op.operands]; exact .inr hx)
 have hrun:(execOp a.eval ⟨dst, .makeFunc (.func f) ⟨fs⟩ ⟨caps⟩,t,p,af,gd⟩).run X.P w = .ok (.value (.func (.func f) ⟨fs.map a.eval⟩ ⟨caps.map a.eval⟩)) w:=by
  simp [execOp,Instr.makeFunc,Result.andThen]
 refine zfz hrun (kk (up1 ν nid (some (.func (.func f) ⟨fs.map a.eval⟩ ⟨caps.map a.eval⟩,none))) h _ w _ (M.add hn (.clo f bs cs) _ (fp:=[]) ⟨_,_,_,rfl,rfl,hbv.le (Fz.le.refl _) (zbj hn),hcv.le (Fz.le.refl _) (zbj hn)⟩ (fun b hb=>by cases hb)) (zbj hn) (Fz.le.refl _) zd4 ⟨f,_,_,none,zU _ _ _,rfl⟩)
theorem zty {Ea:Env} {N:Nat} (hf:Fits N Ea a) (hl:∀t,Dk.look Ea t=a.tmps[t]?):∀{ps:List (Nat × Operand)} {k:Nat} {cs:List (CV τ)} {pre rest:List Value},zzi E k ps=some cs→(∀q∈ps,zd8 X h ν a (zxl q.2) E)→pre.length=k→rest.length=ps.length →
  cs.length=ps.length∧CVs X.P X.G h ν cs (ps.map fun q=>a.eval q.2)∧Instr.fill (fun i=>some (i*1,1)) (pre++rest).toArray (ps.map fun q=>(q.1,a.eval q.2))=some (pre++ps.map fun q=>a.eval q.2).toArray
 | [],k,cs,pre,rest,e,_,_,hr=>by
  cases e;have:rest=[]:=List.eq_nil_of_length_eq_zero hr;subst this;exact ⟨rfl,rfl,by simp [Instr.fill]⟩
 | (i,x)::ps,k,cs,pre,rest,e,hE,hp,hr=>by
  unfold zzi at e
  cases hb:Nat.beq i k with
  | false=>rw [hb] at e; cases e
  | true =>
   rw [hb,cond_true] at e
   have:i=k:=by simpa using hb
   subst this
   split at e
   ·rename_i c hc
    split at e
    ·rename_i cs' hcs
     cases e;obtain ⟨v,h1,h2⟩:=zh hl (hE (i,x) (List.mem_cons_self ..)) hc;have hv:a.eval x=v:=hf.ev h1
     cases rest with
     | nil=>simp at hr
     | cons r0 rest =>
      obtain ⟨g1,g2,g3⟩:=zty hf hl (pre:=pre++[a.eval x]) (rest:=rest) hcs (fun q hq=>hE q (List.mem_cons_of_mem _ hq)) (by simp [hp]) (by simpa using hr);refine ⟨by simp [g1],⟨_,_,rfl,by show zcI X.P X.G h ν c (a.eval x); rw [hv]; exact h2,g2⟩,?_⟩
      have hcell:(a.eval x).cells = #[a.eval x]:=by rw [hv]; exact (zcI.one h2).2
      simp only [List.map_cons,Instr.fill,hcell];rw [if_neg (by simp; omega)]
      have h8:(Array.zipIdx #[a.eval x]).foldl (fun cs (q:Value × Nat)=>cs.setIfInBounds (i*1+q.2) q.1) (pre++r0::rest).toArray=(pre++[a.eval x]++rest).toArray:=by simp [← hp]
      refine Eq.trans (congrArg (fun z=>Instr.fill _ z _) h8) ?_;rw [g3]; simp
    ·cases e
   ·cases e
theorem zPy {te n:Nat} {ps:List (Nat × Operand)} {cs:List (CV τ)} (hel:elO X.P t'=some te) (hz1:z1B X.P te=true) (hc:zzi E 0 ps=some cs) (hn:cs.length=n) (hsz:n≤65536)
  (k:K (.c (.os (nid+1))) [] [(nid+1, .sb nid n),(nid, .blk te cs)] [] (nid+2)=some r):zc4 X w0 h0 F ⟨dst, .buildSlice t' n ⟨ps⟩,t,p,af,gd⟩ E L nid K r:=by
 unfold z1B at hz1
 split at hz1
 ·rename_i ti hti
  split at hz1
  ·rename_i z hz
   have hs1:ti.size=1:=by simpa using hz1
   refine ⟨_,_,_,_,_,k,by omega,(fun _ h=>by cases h),fun L2 ν h φ a w next Q hd M hE ha hfr kk=>?_⟩;have hn0:=hfr nid (Nat.le_refl _) (by omega);have hn1:=hfr (nid+1) (by omega) (by omega);obtain ⟨Ea,hf,hl'⟩:=zdC a hd;have hEo:∀q∈ps,zd8 X h ν a (zxl q.2) E:=fun q hq=>hE.op (by simp only [Op.operands,List.toList_toArray,List.mem_map]; exact ⟨q,hq,rfl⟩)
   have hrng:∀f:Nat→Value,(Array.range (n*ti.size)).map f=((List.range (n*ti.size)).map f).toArray:=by
    intro f; apply Array.toList_inj.1; simp
   have hpl:ps.length=n:=by
    have:=(zty (h:=h) (ν:=ν) hf hl' (pre:=[]) (rest:=List.replicate ps.length undef) hc hEo rfl (by simp)).1;omega
   have hfill:∀zc:Array Value,Instr.fill (fun i=>some (i*ti.size,ti.size)) ((Array.range (n*ti.size)).map (zc[· % zc.size]!)) (ps.map fun q=>(q.1,a.eval q.2))=some (ps.map fun q=>a.eval q.2).toArray:=by
    intro zc;obtain ⟨_,_,h3⟩:=zty (h:=h) (ν:=ν) hf hl' (pre:=[]) (rest:=(List.range (n*ti.size)).map (zc[· % zc.size]!)) hc hEo rfl (by simp [hs1,hpl]);rw [hrng];simp only [hs1] at h3 ⊢;simpa using h3
   have hcv:=(zty (h:=h) (ν:=ν) hf hl' (pre:=[]) (rest:=List.replicate ps.length undef) hc hEo rfl (by simp)).2.1
   have hpm:(Array.map (fun x=>match x with|(i,x)=>(i,a.eval x)) (⟨ps⟩:Array (Nat × Operand)))=(ps.map fun q=>(q.1,a.eval q.2)).toArray:=by
    have:(Array.map (fun (q:Nat × Operand)=>(q.1,a.eval q.2)) ⟨ps⟩)=(ps.map fun q=>(q.1,a.eval q.2)).toArray:=by simp
    exact this
   have hexec:(execOp a.eval ⟨dst, .buildSlice t' n ⟨ps⟩,t,p,af,gd⟩).run X.P w = .ok (.value (.slice (some ⟨w.heap.size,0,none⟩) n n)) (w.alloc (.cells (ps.map fun q=>a.eval q.2).toArray te)):=by
    have hb:¬(n*ti.size>2^24):=by rw [hs1]; omega
    simp only [execOp];rw [hpm,Sem.run_bind,zNg (zjZ hel) hti hz hb (hfill _)];rfl
   have M1:=M.alloc hn0 (.cells (ps.map fun q=>a.eval q.2).toArray te) (.blk te cs) (ptr w.heap.size 0,none) ⟨_,none,_,rfl,rfl,zkC _,hcv.le (Fz.le.refl _) (zbj hn0)⟩
   have hne:¬ nid+1=nid:=by omega
   have hn1':up1 ν nid (some (ptr w.heap.size 0,none)) (nid+1)=none:=(zaV _ _ hne).trans hn1;have M2:=M1.add hn1' (.sb nid n) (.slice (some ⟨w.heap.size,0,none⟩) n n,none) (fp:=[]) ⟨w.heap.size,none,none,(zbj hn1') _ _ (zU _ _ _),rfl,rfl⟩ (fun b hb=>by cases hb);refine zfz hexec (kk _ h _ _ _ M2 ((zbj hn0).trans (zbj hn1')) (Fz.le.refl _) (fun i h1 h2=>?_) ⟨_,_,_,none,zU _ _ _,rfl⟩)
   by_cases e1:i=nid+1
   ·omega
   ·rw [zaV _ _ e1] at h2
    by_cases e2:i=nid
    ·omega
    ·rw [zaV _ _ e2] at h2; exact (h2 h1).elim
  ·cases hz1
 ·cases hz1
theorem zK3 {id i n te:Nat} (hx:evC E x=some (.os id)) (hl:lk L id = .sb i n) (hu:elO X.P t'=some te) (k:K (.c (.i (n:Int))) [] [] [id] nid=some r) :
  zc4 X w0 h0 F ⟨dst, .call ⟨.builtin .len,⟨[x]⟩,⟨[t']⟩⟩,t,p,af,gd⟩ E L nid K r:=by
 refine zaK k fun L2 ν h φ a w hd M hE ha=>?_;obtain ⟨Ea,hf,hl'⟩:=zdC a hd;obtain ⟨vx,h1,h2⟩:=zh hl' (hE.op (by simp [Op.operands,Call.operands])) hx;obtain ⟨ad,m,cp,q,hν,rfl⟩:=h2;have hr:=M.res id;rw [ha id (List.mem_singleton.2 rfl),hl] at hr;obtain ⟨b,q1,q2,g1,g2,_⟩:=hr;rw [hν] at g2;cases g2;exact ⟨_,zpc (zjZ hu) hf h1,rfl⟩
theorem zNP {te id:Nat} {m:Int} (hel:elO X.P t'=some te) (hx:evC E x=some (.os id)) (hy:evC E y=some (.i m)) (e:ixZ X L nid K id te m=some r):zc4 X w0 h0 F ⟨dst, .indexAddr t' x y,t,p,af,gd⟩ E L nid K r:=by
 unfold ixZ at e
 split at e
 ·rename_i i kk e' lo xs hlk
  split at e
  ·rename_i te2 e2 ys k' hlk2
   obtain ⟨hb,e3⟩:=zgF e;simp only [Bool.and_eq_true,Nat.beq_eq] at hb;obtain ⟨hkk,hsz⟩:=hb;subst hkk;obtain ⟨d,hr,e4⟩:=ob e3;exact zFS hel hx hy hlk hlk2 hsz hr e4
  ·cases e
 ·rename_i i n hlk
  split at e
  ·rename_i hsz
   split at e
   ·rename_i hm
    refine zaK e fun L2 ν h φ a w hd M hE ha=>?_;obtain ⟨Ea,hf,hl'⟩:=zdC a hd;obtain ⟨vx,h1,h2⟩:=zh hl' (hE.op (by simp [Op.operands])) hx;obtain ⟨vy,h3,h4⟩:=zh hl' (hE.op (by simp [Op.operands])) hy;obtain rfl:vy=_:=h4;obtain ⟨ad,n',cp,q,hν,rfl⟩:=h2;have hres:=M.res id;rw [ha id (List.mem_singleton.2 rfl),hlk] at hres;obtain ⟨b,q1,q2,g1,g2,_⟩:=hres;rw [hν] at g2;cases g2;refine ⟨ptr b m.toNat,?_,some ⟨b,0,none⟩,q2,g1,by simp [zuo],fun _=>⟨b,rfl⟩⟩;refine znd (fun w=>?_) hf h1 h3;rw [zoE (zjZ hel) (zfA hsz) hm.1 (by omega),zH2,Nat.zero_add,Nat.mul_one]
   ·cases e
  ·cases e
 ·cases e
end
end Go.Rk
end
section
namespace Go.Rk
open Go.RowKit Go.Dm Go.Dk
variable {τ:Nat→Type}
section
variable {ρ:Type} {X:Cx τ} {w0 w w':World} {h0 h h' H:Fz} {F:List Nat} {E:zu τ} {L L2:Hp τ} {ν ν':Vn τ} {φ φ':Nat→List Nat} {nid nid':Nat} {r:ρ}
theorem zzx {K:Nx τ ρ} {f:FuncId} {avs:List (XV τ)} {z:Option ρ}:∀{cs:zyt τ},zvk X L nid K f avs z cs=some r→(∃q∈cs,znw X L nid K f avs [q]=some r)∨z=some r
 | [],e => .inr e
 | (g,k) :: cs,e=>by
  have ih:zvk X L nid K f avs z cs=some r→(∃q∈(g,k)::cs,znw X L nid K f avs [q]=some r)∨z=some r:=fun e=>(zzx e).imp (fun ⟨q,h1,h2⟩=>⟨q,List.mem_cons_of_mem _ h1,h2⟩) id;unfold zvk at e
  cases hg:Nat.beq g f with
  | false=>rw [hg,bcF] at e; exact ih e
  | true =>
   rw [hg,bcT] at e
   cases hr:zsC X.G L k.ps avs with
   | none=>rw [hr] at e; exact ih e
   | some q =>
    obtain ⟨p,l,m⟩:=q;rw [hr] at e;dsimp only at e
    cases hn:(nodF l&&zLU l m) with
    | false=>rw [hn,bcF] at e; exact ih e
    | true =>
     rw [hn,bcT] at e;simp only [Bool.and_eq_true] at hn
     have hn2:(nod l&&zyu l m)=true:=by rw [zLW hn.1,zLV hn.2]; rfl
     split at e
     ·rename_i Z hZ
      split at e
      ·rename_i rs hrs
       cases hrt:(nod (zv4 rs)&&(zv4 rs).all (mem l)) with
       | false=>rw [hrt,bcF] at e; exact .inr e
       | true =>
        rw [hrt,bcT] at e
        split at e
        ·rename_i R hR
         refine .inl ⟨(g,k),List.mem_cons_self ..,?_⟩;unfold znw;rw [hg,bcT,hr];dsimp only;rw [hn2,bcT,hZ];dsimp only;rw [hrs];dsimp only;rw [hrt,bcT,hR];exact e
        ·exact ih e
      ·exact .inr e
     ·exact .inr e
theorem zMB (hT:TyOk X) (hC:∀q∈X.cs,COk X.P X.G q.1 q.2) (hNm:∀(f:FuncId) (fn:Func),X.P.funcs[f]? = some fn→(fn.name == "runtime.NumGoroutine")=false) {Z:Zx X} (hZ:∀f, ∀q∈Z.ct f,COk X.P X.G q.1 q.2) {ih:InF τ ρ} (hih:InOk X w0 h0 F ih):zvw X w0 h0 F (opZ X Z ih):=by
 intro r o E L nid K e;obtain ⟨dst,op,t,p,af,gd⟩:=o;dsimp only at e;unfold opZ at e
 split at e
 ·split at e
  ·rename_i hy
   split at e
   ·rename_i hu
    split at e
    ·rename_i hx
     split at e
     ·rename_i hz
      split at e
      ·rename_i hb
       exact zAw hu hx hy hz hb e
      ·cases e
     ·cases e
    ·cases e
   ·cases e
  ·exact zq4 hT hC e
 ·rename_i f args ats
  split at e
  ·rename_i g hx
   split at e
   ·rename_i avs hargs
    rcases zzx e with ⟨q,hq,e⟩|e
    ·exact zGV hx hargs (fun q' hq'=>by rw [List.mem_singleton.1 hq']; exact hZ g q hq) e
    ·obtain ⟨v,U,T,n2,h1,h2,h3,_⟩:=zJb hNm hih e;exact zK1 hx hargs h1 h2 h3
   ·cases e
  ·rename_i id hx
   split at e
   ·rename_i g bs cs hlk
    split at e
    ·rename_i avs hargs
     rcases zzx e with ⟨q,hq,e⟩|e
     ·exact zsN [id] (zG3 hx hlk hargs) (fun q' hq'=>by rw [List.mem_singleton.1 hq']; exact hZ g q hq) e
     ·obtain ⟨v,U,T,n2,h1,h2,h3,h4⟩:=zJb hNm hih e;exact zIW hx hlk hargs h1 h2 h3 h4
    ·cases e
   ·cases e
  ·exact zq4 hT hC e
 ·split at e
  ·rename_i id hx
   cases hb:vwB (lk L id) with
   | true =>
    rw [hb] at e
    replace e:=(bc_tt e)
    split at e
    ·rename_i te hel
     split at e
     ·rename_i m hy
      exact zNP hel hx hy e
     ·cases e
    ·cases e
   | false=>rw [hb] at e; exact zq4 hT hC e
  ·exact zq4 hT hC e
 ·split at e
  ·rename_i id hx
   split at e
   ·rename_i hlk
    split at e
    ·rename_i te hu
     exact zK3 hx hlk hu e
    ·cases e
   ·exact zq4 hT hC e
  ·exact zq4 hT hC e
 ·split at e
  ·rename_i bs hb
   split at e
   ·rename_i cs hc
    exact zK2 hb hc e
   ·cases e
  ·cases e
 ·split at e
  ·rename_i te hel
   split at e
   ·exact zq4 hT hC e
   ·obtain ⟨hz1,e⟩:=zgF e
    split at e
    ·rename_i cs hc
     obtain ⟨hb,e⟩:=zgF e;simp only [Bool.and_eq_true,Nat.beq_eq,Nat.ble_eq] at hb;exact zPy hel hz1 hc hb.1 hb.2 e
    ·cases e
  ·cases e
 ·exact zq4 hT hC e
where
 bc_tt {α:Type} {x y:Option α} {r:α} (e:bc true x y=some r):x=some r:=e
theorem zvw.wn {op:OpF τ ρ} (n:Nat) (h:zvw X w0 h0 F op):zvw (X.wn n) w0 h0 F op:=h
theorem zH0 (hm:X.P.follows .mixedOrders=true) {Z:Zx X} (hZ:∀f, ∀q∈Z.ct f,COk X.P X.G q.1 q.2) (hT:TyOk X) (hC:∀q∈X.cs,COk X.P X.G q.1 q.2) (hNm:∀(f:FuncId) (fn:Func),X.P.funcs[f]? = some fn→(fn.name == "runtime.NumGoroutine")=false):∀(k:Nat),InOk (ρ:=ρ) X w0 h0 F (inZ X Z k)
 | 0=>by intro r n c E L T0 nid K _ e; cases e
 | k + 1=>by
  have IH:=zH0 hm hZ hT hC hNm k;have hop:zvw (ρ:=ρ) X w0 h0 F (opZ X Z (inZ X Z k)):=zMB hT hC hNm hZ IH;intro r n c E L T0 nid K hn e;unfold inZ at e
  split at e
  ·exact ⟨.no,E,[],[],nid,0,e,Nat.le_refl _,OkC.nil fun Q a w h=>wp_skip h⟩
  ·rename_i id l d
   cases d with
   | true =>
    obtain ⟨E2,U,T,n2,g1,g2,g3⟩:=zN4 (X:=X.wn n) hm hn (hop.wn n) (id:=id) e;exact ⟨.no,E2,U,T,n2,0,g1,g2,g3⟩
   | false =>
    obtain ⟨E2,U,T,n2,g1,g2,g3⟩:=zFp (X:=X.wn n) (hop.wn n) hn e;exact ⟨.no,E2,U,T,n2,0,g1,g2,fun L2 ν h φ a w Q a1 a2 a3 a4 a5 a6 a7=>wp_region_list (g3 L2 ν h φ a w Q a1 a2 a3 a4 a5 a6 a7)⟩
  ·rename_i x y
   obtain ⟨ex,E1,U1,T1,n1,m1,g1,g2,g3⟩:=IH _ _ _ _ _ _ _ _ hn e
   cases ex with
   | no =>
    obtain ⟨ex,E2,U2,T2,n2,m2,f1,f2,f3⟩:=IH _ _ _ _ _ _ _ _ hn g1;refine ⟨ex,E2,U2++U1,T2++T1,n2,0,by rw [List.append_assoc,List.append_assoc]; exact f1,Nat.le_trans g2 f2,OkC.seq g3.wp f3.wp g2 f2 fun Q a w h=>wp_seq h⟩
   | ex i=>exact ⟨.ex i,E1,U1,T1,n1,0,g1,g2,g3.wp.out fun Q a w h=>wp_seq (h _ fun _ _ q=>q)⟩
   | rt=>exact ⟨.rt,E1,U1,T1,n1,0,g1,g2,g3.wp.out fun Q a w h=>wp_seq (h _ fun _ _ q=>q)⟩
  ·rename_i c x y
   split at e
   ·rename_i b hc
    cases b with
    | true =>
     obtain ⟨ex,E1,U1,T1,n1,m1,g1,g2,g3⟩:=IH _ _ _ _ _ _ _ _ hn e;refine ⟨ex,E1,U1,T1,n1,0,g1,g2,fun L2 ν h φ a w Q a1 a2 a3 a4 a5 a6 a7=>?_⟩;obtain ⟨Ea,hf,hl⟩:=zdC a a1;obtain ⟨v,h1,h2⟩:=zh hl (zbZ.on (zFq.1 a4) _) hc;obtain rfl:v=_:=h2;exact wp_cond_true (hf.ev h1) (g3.wp L2 ν h φ a w Q a1 a2 a3 a4 a5 a6 a7)
    | false =>
     obtain ⟨ex,E1,U1,T1,n1,m1,g1,g2,g3⟩:=IH _ _ _ _ _ _ _ _ hn e;refine ⟨ex,E1,U1,T1,n1,0,g1,g2,fun L2 ν h φ a w Q a1 a2 a3 a4 a5 a6 a7=>?_⟩;obtain ⟨Ea,hf,hl⟩:=zdC a a1;obtain ⟨v,h1,h2⟩:=zh hl (zbZ.on (zFq.1 a4) _) hc;obtain rfl:v=_:=h2;exact wp_cond_false (hf.ev h1) (g3.wp L2 ν h φ a w Q a1 a2 a3 a4 a5 a6 a7)
   ·rename_i b hc
    split at e
    ·rename_i s
     have ha:asc E s=some (.c (.b b)):=zJ8 hc
     cases b with
     | true =>
      rw [if_pos rfl] at e;obtain ⟨ex,E1,U1,T1,n1,m1,g1,g2,g3⟩:=IH _ _ _ _ _ _ _ _ hn e;refine ⟨ex,E1,U1,T1,n1,0,g1,g2,fun L2 ν h φ a w Q a1 a2 a3 a4 a5 a6 a7=>?_⟩;obtain ⟨Ea,hf,hl⟩:=zdC a a1;obtain ⟨v,h1,h2⟩:=zh hl (zbZ.on (zFq.1 a4) _) hc;obtain rfl:v=_:=h2;exact wp_cond_true (hf.ev h1) (g3.wp L2 ν h φ a w Q a1 a2 a3 (Ref.env ((Ref.refl E).known ha) a4) a5 a6 a7)
     | false =>
      rw [if_neg (by simp)] at e;obtain ⟨ex,E1,U1,T1,n1,m1,g1,g2,g3⟩:=IH _ _ _ _ _ _ _ _ hn e;refine ⟨ex,E1,U1,T1,n1,0,g1,g2,fun L2 ν h φ a w Q a1 a2 a3 a4 a5 a6 a7=>?_⟩;obtain ⟨Ea,hf,hl⟩:=zdC a a1;obtain ⟨v,h1,h2⟩:=zh hl (zbZ.on (zFq.1 a4) _) hc;obtain rfl:v=_:=h2;exact wp_cond_false (hf.ev h1) (g3.wp L2 ν h φ a w Q a1 a2 a3 (Ref.env ((Ref.refl E).known ha) a4) a5 a6 a7)
    ·cases e
   ·cases e
  ·rename_i id c
   obtain ⟨ex,E1,U1,T1,n1,m1,g1,g2,g3⟩:=IH _ _ _ _ _ _ _ _ hn e
   cases ex with
   | no=>exact ⟨.no,E1,U1,T1,n1,0,g1,g2,g3.wp.out fun Q a w h=>wp_block (h _ fun _ _ q=>q)⟩
   | rt=>exact ⟨.rt,E1,U1,T1,n1,0,g1,g2,g3.wp.out fun Q a w h=>wp_block (h _ fun _ _ q=>q)⟩
   | ex i =>
    cases hb:Nat.beq i id with
    | true =>
     simp only [hb] at g1
     have:i=id:=by simpa using hb
     subst this;exact ⟨.no,E1,U1,T1,n1,0,g1,g2,g3.wp.out fun Q a w h=>wp_block (h _ fun _ _ q=>zxq q)⟩
    | false =>
     simp only [hb] at g1;exact ⟨.ex i,E1,U1,T1,n1,0,g1,g2,g3.wp.out fun Q a w h=>wp_block (h _ fun _ _ q=>zxr hb q)⟩
  ·rename_i c
   obtain ⟨ex,E1,U1,T1,n1,m1,g1,g2,g3⟩:=IH _ _ _ _ _ _ _ _ hn e
   cases ex with
   | no =>
    obtain ⟨E1',e2,hE⟩:=zI9 g1;obtain ⟨ex,E2,U2,T2,n2,m2,f1,f2,f3⟩:=IH _ _ _ _ _ _ _ _ hn e2;refine ⟨ex,E2,U2++U1,T2++T1,n2,m2+1,by rw [List.append_assoc,List.append_assoc]; exact f1,Nat.le_trans g2 f2,OkC.seq g3.wp (f3.ref (E:=E1) fun t x h => .inl (hE t x h).1) g2 f2 fun Q a w h=>h⟩
   | ex i=>exact ⟨.ex i,E1,U1,T1,n1,1,g1,g2,g3.wp.out fun Q a w h=>h _ fun _ _ q=>q⟩
   | rt=>exact ⟨.rt,E1,U1,T1,n1,1,g1,g2,g3.wp.out fun Q a w h=>h _ fun _ _ q=>q⟩
  ·rename_i id
   exact ⟨.ex id,E,[],[],nid,0,e,Nat.le_refl _,OkC.nil fun Q a w h=>wp_exit h⟩
  ·exact ⟨.rt,E,[],[],nid,0,e,Nat.le_refl _,OkC.nil fun Q a w h=>wp_ret h⟩
  ·cases e
theorem zOK (hm:X.P.follows .mixedOrders=true) {Z:Zx X} (hZ:∀f, ∀q∈Z.ct f,COk X.P X.G q.1 q.2) (hT:TyOk X) (hC:∀q∈X.cs,COk X.P X.G q.1 q.2) (hNm:∀(f:FuncId) (fn:Func),X.P.funcs[f]? = some fn→(fn.name == "runtime.NumGoroutine")=false)
  {k:Nat} {f:FuncId} {avs:List (XV τ)} {b:Bool} (e:zrun X Z k f avs=some b) {h:Fz} {w:World} {vals:List Value} (hgl:zrU X.P X.G h) (hfp:zC2 X.P X.G) (hon:h.on w) (hlen:vals.length=avs.length)
  (hv:∀(i:Nat) (A:XV τ) (u:Value),avs[i]? = some A→vals[i]? = some u→XOk X.P X.G h (fun _=>none) A u):zcC X.P f∧Calls X.P f vals.toArray w fun e w'=>e = .returned (.bool b)∧∃h',Left h w [] h' w' []:=by
 unfold zrun at e;obtain ⟨v,U,T,n2,h1,h2,h3,_⟩:=zJb (w0:=w) (h0:=h) (F:=[]) hNm (zH0 hm hZ hT hC hNm k) e
 have M0:Mem X.P X.G w h [] [] w (fun _=>none) h (fun _=>[]) :=
  ⟨rfl,rfl,rfl,Nat.le_refl _,fun _ _ _=>rfl,Fz.le.refl _,hon,fun b hb => .inl hb,fun _=>rfl,(fun _ _ _ h=>by cases h),(fun _ _ h=>by cases h),hgl,hfp⟩
 refine ⟨h3.1,Calls.mono (h3.2 [] _ h _ w vals M0 hlen hv (fun i hi=>?_) fun _ _ _=>rfl) ?_⟩
 ·rfl
 rintro e1 w' ⟨u, ν',h', φ',rfl,M',_,hh,_,hx⟩
 have hu:u = .bool b:=by
  split at h1
  ·cases h1; exact hx
  ·cases h1; exact hx
  ·cases h1
 subst hu;exact ⟨rfl,h',M'.os,M'.tape,M'.output,M'.size,M'.frame,M'.le,M'.on,M'.new,fun b hb=>by cases hb⟩
end
end Go.Rk
end
section
namespace Go.Rk
open Go.RowKit Go.Dm Go.Dk
variable {τ:Nat→Type}
def eqV:(t:Ty)→t.den τ→t.den τ→Bool
 | .bool,(x:Bool),(y:Bool)=>x==y
 | .int,(x:Int),(y:Int)=>x==y
 | .u8,(x:UInt8),(y:UInt8)=>x==y
 | .u16,(x:UInt16),(y:UInt16)=>x==y
 | .str,(x:Str),(y:Str)=>x==y
 | _,_,_=>true
def eqD:(ts:List Ty)→DP τ ts→DP τ ts→Bool
 | [],_,_=>true
 | [t],x,y=>eqV t x y
 | t::u::ts,p,q=>eqV t p.1 q.1&&eqD (u::ts) p.2 q.2
def elB (P:Program) (G:Sig τ) (te:TypeId) (e:Ty):Bool:=match P.info? te with
 | some i=>match i.zero with
  | some z=>Nat.beq i.size (ets G e).length&&Nat.beq z.cells.size i.size&&Nat.blt 0 i.size
  | none=>false
 | none=>false
def scB (P:Program) (t:TypeId):Ty→Bool
 | .bool=>match P.underlying t with
  | some .bool=>true
  | _=>false
 | .str=>match P.underlying t with
  | some .string=>true
  | _=>false
 | .int=>match P.underlying t with
  | some (.int .i64)=>true
  | _=>false
 | .u8=>match P.underlying t with
  | some (.int .u8)=>true
  | _=>false
 | .u16=>match P.underlying t with
  | some (.int .u16)=>true
  | _=>false
 | _=>false
def zzC (inner:TypeId→List Ty→Option (List Ty)):List Field→List Ty→Nat→Option (List Ty)
 | [],ts,_=>some ts
 | f::fs,ts,i=>bif Nat.beq f.offset i&&decide (f.name ≠ "_") then (match inner f.type ts with
  | some rs=>zzC inner fs rs (i+(ts.length-rs.length))
  | none=>none) else none
def inn0 (P:Program) (t:TypeId):List Ty→Option (List Ty)
 | u::us=>bif scB P t u then some us else none
 | []=>none
def inn1 (P:Program) (t:TypeId) (ts:List Ty):Option (List Ty):=match P.underlying t with
 | some (.struct ⟨gs⟩)=>match zzC (inn0 P) gs ts 0 with
  | some rs=>match szO P t with
   | some s=>bif !(P.stoodInHeld t)&&Nat.beq (s+rs.length) ts.length then some rs else none
   | none=>none
  | none=>none
 | _=>inn0 P t ts
def zDB (P:Program) (fs:List Field) (ts:List Ty):Bool:=match zzC (inn1 P) fs ts 0 with
 | some []=>true
 | _=>false
def zMP (P:Program) (G:Sig τ) (t:TypeId) (n:Nat):Bool:=match P.underlying t with
 | some (.struct ⟨fs⟩) => !(P.stoodInHeld t) && !(P.eqGuardType P.depth t)&&zDB P fs (G.fs n)
 | _=>false
def tyB (P:Program) (G:Sig τ) (ty:List (TypeId × Ty)):Bool:=ty.all fun p=>elB P G p.1 p.2&&(match p.2 with
 | .st n=>bif (G.fs n).all zhk then zMP P G p.1 n else true
 | _=>true)
section
variable {P:Program} {G:Sig τ} {h:Fz} {w:World}
theorem u16_eq (b c:UInt16):((b.toNat:Int)==(c.toNat:Int))=(b==c):=by
 rw [Bool.eq_iff_iff]; simp only [beq_iff_eq,Int.natCast_inj,UInt16.toNat_inj]
theorem zOZ {ti:TypeId} {t:Ty} {x y:t.den τ} {v u:Value} (hb:scB P ti t=true) (h1:Rp P G h t x v) (h2:Rp P G h t y u) (d:Nat):(Op.equalIn (d+1) ti v u).run P w = .ok (eqV t x y) w∧(isAgg ti).run P w = .ok false w:=by
 have ia:∀{d:TypeDesc},P.underlying ti=some d→(∀f,d ≠ .struct f)→(∀n e,d ≠ .array n e)→(isAgg ti).run P w = .ok false w:=by
  intro d hu h1 h2;unfold isAgg;simp only [Sem.run_bind,run_underlying hu,Result.andThen_ok]
  cases d<;>first|rfl|exact (h1 _ rfl).elim|exact (h2 _ _ rfl).elim
 cases h1<;>first|(cases hb; done)|skip
 all_goals
  cases h2;unfold scB at hb;dsimp only at hb
  split at hb
  ·rename_i hu
   refine ⟨?_,ia hu (fun _ h=>by cases h) (fun _ _ h=>by cases h)⟩
   first
    | exact run_equalIn_bool' w d ti _ _ hu
    | exact run_equalIn_int w d ti .i64 .i64 _ _ hu
    | exact (run_equalIn_int w d ti .u8 .u8 _ _ hu).trans (congrArg (fun b=>Result.ok b w) (zC6 _ _))
    | exact (run_equalIn_int w d ti .u16 .u16 _ _ hu).trans (congrArg (fun b=>Result.ok b w) (u16_eq _ _))
    | exact (run_equalIn_string w d ti _ _ hu).trans (by simp only [ByteArray.toList_eq]; rfl)
  ·cases hb
theorem zMQ {t:Ty} {ts:List Ty} {p q:DP τ (t::ts)}:eqD (t::ts) p q=(eqV t p.hd q.hd&&eqD ts p.tl q.tl):=by
 cases ts with
 | nil=>simp [eqD,DP.hd]
 | cons u ts=>rfl
theorem zO0 {p q:DP τ []}:eqD [] p q=true:=rfl
def EqOk (P:Program) (G:Sig τ) (h:Fz) (w:World) (e:Nat) (inner:TypeId→List Ty→Option (List Ty)):Prop:=∀(t:TypeId) (ts rs:List Ty) (p q:DP τ ts) (vs us xs ys:List Value) (i:Nat),inner t ts=some rs→RpL P G h ts p vs→RpL P G h ts q us →
 (∀(k:Nat) (v:Value),k+rs.length<ts.length→vs[k]? = some v→xs[i+k]? = some v)→(∀(k:Nat) (v:Value),k+rs.length<ts.length→us[k]? = some v→ys[i+k]? = some v) →
 rs.length≤ts.length∧∃(p' q':DP τ rs) (b:Bool) (av bv:Value),RpL P G h rs p' (vs.drop (ts.length-rs.length))∧RpL P G h rs q' (us.drop (ts.length-rs.length))∧eqD ts p q=(b&&eqD rs p' q')∧(part t ⟨xs⟩ i).run P w = .ok av w∧(part t ⟨ys⟩ i).run P w = .ok bv w∧(Op.equalIn e t av bv).run P w = .ok b w
theorem zwU {inner:TypeId→List Ty→Option (List Ty)} (hi:∀t ts rs,inner t ts=some rs→rs.length≤ts.length):∀{fs:List Field} {ts rs:List Ty} {i:Nat},zzC inner fs ts i=some rs→rs.length≤ts.length
 | [],ts,rs,i,e=>by cases e; exact Nat.le_refl _
 | f::fs,ts,rs,i,e=>by
  unfold zzC at e
  cases hb:(Nat.beq f.offset i&&decide (f.name ≠ "_")) with
  | false=>rw [hb] at e; cases e
  | true =>
   rw [hb] at e;dsimp only [cond_true] at e
   split at e
   ·rename_i r1 h1
    exact Nat.le_trans (zwU hi e) (hi _ _ _ h1)
   ·cases e
theorem zzD {P:Program} (t:TypeId) (ts rs:List Ty) (e:inn0 P t ts=some rs):rs.length≤ts.length:=by
 unfold inn0 at e
 split at e
 ·rename_i u us
  cases hb:scB P t u with
  | false=>rw [hb] at e; cases e
  | true=>rw [hb] at e; cases e; simp
 ·cases e
theorem zMR {P:Program} (t:TypeId) (ts rs:List Ty) (e:inn1 P t ts=some rs):rs.length≤ts.length:=by
 unfold inn1 at e
 split at e
 ·split at e
  ·rename_i h1
   split at e
   ·rename_i s _
    cases hb:(!(P.stoodInHeld t)&&Nat.beq (s+_) ts.length) with
    | false=>rw [hb] at e; cases e
    | true=>rw [hb] at e; cases e; exact zwU zzD h1
   ·cases e
  ·cases e
 ·exact zzD _ _ _ e
theorem zwV {e:Nat} {inner:TypeId→List Ty→Option (List Ty)} (hlen:∀t ts rs,inner t ts=some rs→rs.length≤ts.length) (hi:EqOk P G h w e inner):∀{fs:List Field} {ts rs:List Ty} {i:Nat} {p q:DP τ ts} {xs ys vs us:List Value},zzC inner fs ts i=some rs→RpL P G h ts p vs→RpL P G h ts q us →
  (∀(k:Nat) (v:Value),k+rs.length<ts.length→vs[k]? = some v→xs[i+k]? = some v)→(∀(k:Nat) (v:Value),k+rs.length<ts.length→us[k]? = some v→ys[i+k]? = some v) →
  ∃(p' q':DP τ rs) (b:Bool),RpL P G h rs p' (vs.drop (ts.length-rs.length))∧RpL P G h rs q' (us.drop (ts.length-rs.length))∧eqD ts p q=(b&&eqD rs p' q')∧(Op.eqFields e ⟨xs⟩ ⟨ys⟩ fs).run P w = .ok b w
 | [],ts,rs,i,p,q,xs,ys,vs,us,hb,h1,h2,_,_=>by
  cases hb;rw [Nat.sub_self,List.drop_zero,List.drop_zero];exact ⟨p,q,true,h1,h2,by simp,by simp [Op.eqFields]⟩
 | f :: fs,ts,rs,i,p,q,xs,ys,vs,us,hb,h1,h2,hx,hy=>by
  unfold zzC at hb
  cases hc:(Nat.beq f.offset i&&decide (f.name ≠ "_")) with
  | false=>rw [hc] at hb; cases hb
  | true =>
   rw [hc] at hb;dsimp only [cond_true] at hb;simp only [Bool.and_eq_true,Nat.beq_eq,decide_eq_true_eq] at hc;obtain ⟨ho,hn⟩:=hc
   split at hb
   ·rename_i r1 hr1
    have hl1:=zwU hlen hb;obtain ⟨hl,p1,q1,b1,av,bv,g1,g2,g3,g4,g5,g6⟩:=hi _ _ _ p q vs us xs ys i hr1 h1 h2 (fun k v hk=>hx k v (by omega)) (fun k v hk=>hy k v (by omega));obtain ⟨p2,q2,b2,k1,k2,k3,k4⟩:=zwV hlen hi (xs:=xs) (ys:=ys) hb g1 g2
     (fun k v hk hv=>by rw [List.getElem?_drop] at hv; rw [Nat.add_assoc]; exact hx _ v (by omega) hv) (fun k v hk hv=>by rw [List.getElem?_drop] at hv; rw [Nat.add_assoc]; exact hy _ v (by omega) hv)
    rw [List.drop_drop,show ts.length-r1.length+(r1.length-rs.length)=ts.length-rs.length by omega] at k1 k2;refine ⟨p2,q2,b1&&b2,k1,k2,by rw [g3,k3,Bool.and_assoc],?_⟩;rw [← ho] at g4 g5;simp only [Op.eqFields,hn,ne_eq,not_false_iff,if_true,Sem.run_bind,g4,g5,g6,Result.andThen_ok]
    cases b1 with
    | true=>simpa using k4
    | false=>simp
   ·cases hb
theorem zJM (e:Nat):EqOk P G h w (e+1) (inn0 P):=by
 intro t ts rs p q vs us xs ys i hb h1 h2 hx hy;unfold inn0 at hb
 split at hb
 ·rename_i u ts'
  cases hs:scB P t u with
  | false=>rw [hs] at hb; cases hb
  | true =>
   rw [hs] at hb;cases hb
   cases h1 with
   | cons _ _ _ v vs a1 a2 =>
    cases h2 with
    | cons _ _ _ u' us b1 b2 =>
     obtain ⟨e1,e2⟩:=zOZ (w:=w) hs a1 b1 e;have hx0:xs[i]? = some v:=hx 0 v (by simp) rfl;have hy0:ys[i]? = some u':=hy 0 u' (by simp) rfl;refine ⟨by simp,p.tl,q.tl,eqV u p.hd q.hd,v,u',?_,?_,zMQ,by simp [part,e2,hx0,Result.andThen],by simp [part,e2,hy0,Result.andThen],e1⟩
     ·simpa using a2
     ·simpa using b2
 ·cases hb
theorem zO1 (e:Nat):EqOk P G h w (e+2) (inn1 P):=by
 intro t ts rs p q vs us xs ys i hb h1 h2 hx hy;unfold inn1 at hb
 split at hb
 ·rename_i gs hu
  split at hb
  ·rename_i r1 hf
   split at hb
   ·rename_i s hsz
    cases hc:(!(P.stoodInHeld t)&&Nat.beq (s+r1.length) ts.length) with
    | false=>rw [hc] at hb; cases hb
    | true =>
     rw [hc] at hb;cases hb;simp only [Bool.and_eq_true,Bool.not_eq_true',Nat.beq_eq] at hc;obtain ⟨h3,h4⟩:=hc
     have hcut:∀{zs ws:List Value},(∀(k:Nat) (v:Value),k+rs.length<ts.length→zs[k]? = some v→ws[i+k]? = some v)→∀(k:Nat) (v:Value),k+rs.length<ts.length→zs[k]? = some v→((ws.drop i).take s)[0+k]? = some v:=by
      intro zs ws hz k v hk hv;rw [Nat.zero_add,List.getElem?_take,if_pos (by omega),List.getElem?_drop];exact hz k v hk hv
     obtain ⟨p',q',b,g1,g2,g3,g4⟩:=zwV zzD (zJM e) hf h1 h2 (hcut hx) (hcut hy)
     have hfo:P.fieldsOf t=⟨gs⟩:=by unfold Program.fieldsOf; rw [hu]
     have hag:(isAgg t).run P w = .ok true w:=by simp [isAgg,run_underlying hu,Result.andThen]
     have hpt:∀ws:List Value,(part t ⟨ws⟩ i).run P w = .ok (.agg ⟨(ws.drop i).take s⟩) w:=by
      intro ws;simp [part,hag,zcV (zfA hsz),Result.andThen,List.extract_eq_take_drop]
     refine ⟨by omega,p',q',b,_,_,g1,g2,g3,hpt xs,hpt ys,?_⟩;rw [run_equalIn_struct w (e+1) t _ _ (by rw [hfo]; exact hu) h3,hfo];exact g4
   ·cases hb
  ·cases hb
 ·obtain ⟨a1,p',q',b,av,bv,g⟩:=zJM (P:=P) (G:=G) (h:=h) (w:=w) (e+1) t ts rs p q vs us xs ys i hb h1 h2 hx hy;exact ⟨a1,p',q',b,av,bv,g⟩
theorem zH9 {fs:List Field} {ts:List Ty} {p q:DP τ ts} {xs ys vs us:List Value} (d:Nat) (hb:zDB P fs ts=true) (h1:RpL P G h ts p vs) (h2:RpL P G h ts q us) (hx:∀(k:Nat) (v:Value),vs[k]? = some v→xs[k]? = some v) (hy:∀(k:Nat) (v:Value),us[k]? = some v→ys[k]? = some v) :
  (Op.eqFields (d+2) ⟨xs⟩ ⟨ys⟩ fs).run P w = .ok (eqD ts p q) w:=by
 unfold zDB at hb
 split at hb
 ·rename_i hf
  obtain ⟨p',q',b,_,_,e1,e2⟩:=zwV zMR (zO1 d) hf h1 h2 (fun k v _ hk=>by rw [Nat.zero_add]; exact hx k v hk) (fun k v _ hk=>by rw [Nat.zero_add]; exact hy k v hk);rw [e1,e2,zO0,Bool.and_true]
 ·cases hb
theorem zO2 {X:Cx τ} (h1:tyB X.P X.G X.ty=true) (h2:∀n x y,(X.G.fs n).all zhk=true→(∃t,asc X.ty t=some (.st n))→X.G.eq n x y=eqD (X.G.fs n) (X.G.dtor n x) (X.G.dtor n y)):TyOk X:=by
 refine ⟨fun p hp=>?_,fun t n hn hs p q h xs ys hx hy=>?_⟩
 ·have:=List.all_eq_true.1 h1 p hp;simp only [Bool.and_eq_true] at this;have h3:=this.1;unfold elB at h3
  split at h3
  ·rename_i i hi
   split at h3
   ·rename_i z hz
    simp only [Bool.and_eq_true,Nat.beq_eq,Nat.blt_eq] at h3;exact ⟨i,z,hi,hz,h3.1.1,h3.1.2,h3.2⟩
   ·cases h3
  ·cases h3
 ·have:=List.all_eq_true.1 h1 (t, .st n) (zmP hn);simp only [Bool.and_eq_true] at this;have h3:=this.2;rw [hs] at h3;have h3:zMP X.P X.G t n=true:=h3;unfold zMP at h3
  split at h3
  ·rename_i fs hu
   simp only [Bool.and_eq_true,Bool.not_eq_true'] at h3;obtain ⟨⟨h4,h5⟩,h6⟩:=h3;refine ⟨h5,fun w=>?_⟩
   have hfo:X.P.fieldsOf t=⟨fs⟩:=by unfold Program.fieldsOf; rw [hu]
   rw [run_equalIn_struct w 9999 t ⟨xs⟩ ⟨ys⟩ (by rw [hfo]; exact hu) h4,hfo];rw [h2 n _ _ hs ⟨t,hn⟩,X.G.dc,X.G.dc];exact zH9 9997 h6 hx hy (fun k v hk=>hk) (fun k v hk=>hk)
  ·cases h3
end
end Go.Rk
end
section
namespace Go.Rk
open Go.RowKit Go.Dm Go.Dk
variable {τ:Nat→Type}
def encV:(t:Ty)→t.den τ→Value
 | .bool,x => .bool x
 | .int,x => .int .i64 x
 | .u8,(x:UInt8) => .int .u8 x.toNat
 | .u16,(x:UInt16) => .int .u16 x.toNat
 | .str,x=>str x
 | _,_=>undef
def zqb:(ts:List Ty)→DP τ ts→List Value
 | [],_=>[]
 | t::ts,p=>encV t p.hd::zqb ts p.tl
def zr8 (G:Sig τ) (e:Ty) (xs:List (e.den τ)):List Value:=xs.flatMap fun x=>zqb (ets G e) (edt G e x)
section
variable {P:Program} {G:Sig τ} {h h':Fz} {w w':World}
theorem zL3 {t:Ty} {x:t.den τ} {v:Value} (hs:zhk t=true) (hr:Rp P G h t x v):v=encV t x:=by
 cases hr<;>first|(cases hs; done)|rfl
theorem zL4 {t:Ty} (x:t.den τ) (hs:zhk t=true):Rp P G h t x (encV t x):=by
 cases t<;>first|(cases hs; done)|constructor
theorem zJr:∀{ts:List Ty} {p:DP τ ts} {vs:List Value},RpL P G h ts p vs→ts.all zhk=true→vs=zqb ts p
 | _,_,_, .nil,_=>rfl
 | _,_,_, .cons t ts p v vs h1 h2,hs=>by
  simp only [List.all_cons,Bool.and_eq_true] at hs;rw [zL3 hs.1 h1,zJr h2 hs.2]; rfl
theorem zJs:∀{ts:List Ty} (p:DP τ ts),ts.all zhk=true→RpL P G h ts p (zqb ts p)
 | [],_,_ => .nil
 | t::ts,p,hs=>by
  simp only [List.all_cons,Bool.and_eq_true] at hs;exact .cons t ts p _ _ (zL4 _ hs.1) (zJs _ hs.2)
theorem zDh:∀{e:Ty} {xs:List (e.den τ)} {vs:List Value},RpR P G h e xs vs→(ets G e).all zhk=true→vs=zr8 G e xs
 | _,_,_, .nil e,_=>rfl
 | _,_,_, .cons e x xs vs ws h1 h2,hs=>by
  rw [zJr h1 hs,zDh h2 hs]; rfl
theorem zHP {e:Ty} (hs:(ets G e).all zhk=true):∀(xs:List (e.den τ)),RpR P G h e xs (zr8 G e xs)
 | [] => .nil e
 | x::xs => .cons e x xs _ _ (zJs _ hs) (zHP hs xs)
theorem zHQ {t:Ty} {x:t.den τ} {v:Value} {fp:List Nat} (hz:frz t=true) (ht:Tr P G h w t x v fp):fp=[]∧Rp P G h t x v:=by
 cases ht<;>first|(cases hz; done)|exact ⟨rfl, ‹_›⟩
theorem zL5 {t:Ty} {x:t.den τ} {v:Value} {fp:List Nat} (hs:zhk t=true) (ht:TrX P G h w t x v fp):v=encV t x∧fp=[]:=by
 cases t<;>first|(cases hs; done)|skip
 all_goals
  obtain ⟨h1,h2⟩:=zHQ rfl (show Tr P G h w _ x v fp from ht);exact ⟨zL3 rfl h2,h1⟩
theorem zqc:∀{ts:List Ty} {p:DP τ ts} {vs:List Value} {fp:List Nat},TrXs P G h w ts p vs fp→ts.all zhk=true→vs=zqb ts p∧fp=[]
 | _,_,_,_, .nil,_=>⟨rfl,rfl⟩
 | _,_,_,_, .cons t ts p v vs f f' h1 h2 hd,hs=>by
  simp only [List.all_cons,Bool.and_eq_true] at hs;obtain ⟨e1,e2⟩:=zL5 hs.1 h1;obtain ⟨e3,e4⟩:=zqc h2 hs.2;exact ⟨by rw [e1,e3]; rfl,by rw [e2,e4]; rfl⟩
theorem zOv {t:Ty} (x:t.den τ) (hs:zhk t=true):TrX P G h w t x (encV t x) []:=by
 cases t<;>first|(cases hs; done)|exact .fz _ _ _ rfl (zL4 _ rfl)
theorem zr9:∀{ts:List Ty} (p:DP τ ts),ts.all zhk=true→TrXs P G h w ts p (zqb ts p) []
 | [],_,_ => .nil
 | t::ts,p,hs=>by
  simp only [List.all_cons,Bool.and_eq_true] at hs;exact .cons t ts p _ _ [] [] (zOv _ hs.1) (zr9 _ hs.2) (fun b hb=>by cases hb)
theorem zqd (hon:h.on w) (hb:Below w.heap.size w w'):Left h w [] h w' [] :=
 ⟨hb.os,hb.tape,hb.output,hb.size,fun b h1 _=>hb.block b h1,Fz.le.refl _,fun b o e=>(hb.block b (Array.getElem?_eq_some_iff.1 (hon b o e)).1).trans (hon b o e),fun b hb => .inl hb,fun b hb=>by cases hb⟩
theorem zfy {f:FuncId} {k:Con τ} (hs:k.ps.all zhk=true) (hr:k.rs.all zhk=true) (hb:k.bk=[]) (hn:k.nr=k.rs.length) (hc:zcC P f)
  (H:∀(w:World) (h:Fz) (p:DP τ k.ps) (r:DP τ k.rs),h.on w→zrU P G h→k.m p=some r→Calls P f (zqb k.ps p).toArray w fun e w'=>e = .returned (zy9 (zqb k.rs r))∧Below w.heap.size w w'):COk P G f k:=by
 refine ⟨hc,fun h w p r vs fp hgl _ hon htr _ hm=>?_⟩;obtain ⟨rfl,rfl⟩:=zqc htr hs;refine Calls.mono (H w h p r hon hgl hm) ?_;rintro e w' ⟨rfl,hbl⟩
 have hl:(zqb k.rs r).length=k.rs.length:=by
  have:∀(ts:List Ty) (p:DP τ ts),(zqb ts p).length=ts.length:=by
   intro ts
   induction ts with
   | nil=>intro p; rfl
   | cons t ts ih=>intro p; simp [zqb,ih]
  exact this _ _
 refine ⟨h,zqb k.rs r,[],by rw [List.take_of_length_le (by omega)],zqd hon hbl,zr9 r hr,?_⟩;rw [hb,List.drop_eq_nil_of_le (by omega)]; rfl
theorem zFG {te:Nat} {e:Ty} {R:List (e.den τ)} {ad:Option Addr} {n c:Nat} (hs:(ets G e).all zhk=true) (hon:h.on w) (hO:Own w [] w' [.row (.slice ad n c) te (ets G e).length R.length (zr8 G e R)]) :
  Left h w [] h w' (Value.slice ad n c).ownBlock.toList∧TrXs P G h w' [.so te e] R [.slice ad n c] (Value.slice ad n c).ownBlock.toList:=by
 obtain ⟨h1,_,h3,h4,h5,h6,_⟩:=zqd hon hO.below;have hrow:w'.ownsRow 0 te (ets G e).length (.slice ad n c) R.length (zr8 G e R):=hO.get (i:=0) rfl
 have hfp:∀b∈(Value.slice ad n c).ownBlock.toList,w.heap.size≤b:=fun b hb=>by
  rcases hO.fresh _ (List.mem_singleton.2 rfl) rfl b hb with h|h
  ·cases h
  ·exact h
 have hb:=zqd hon hO.below;refine ⟨⟨hb.os,hb.tape,hb.output,hb.size,hb.frame,hb.le,hb.on,hb.new,fun b hm=>⟨?_, .inr (hfp b hm)⟩⟩,?_⟩
 ·cases e1:h b with
  | none=>rfl
  | some o =>
   have:=(Array.getElem?_eq_some_iff.1 (hon b o e1)).1;have:=hfp b hm;omega
 ·have:=TrXs.cons (P:=P) (G:=G) (h:=h) (w:=w') (.so te e) [] R (.slice ad n c) [] _ [] (Tr.so te e R _ _ (zgC.of_row hrow) (zHP hs R)) .nil (fun b _ h=>by cases h);rw [List.append_nil] at this;exact this
theorem zKg {te:Nat} {e:Ty} {R:List (e.den τ)} {ad:Option Addr} {n c:Nat} {F:List Nat} (hs:(ets G e).all zhk=true) (hon:h.on w) (hnone:∀b∈F,h b=none) (hO:Own w F w' [.row (.slice ad n c) te (ets G e).length R.length (zr8 G e R)]) :
  Left h w F h w' (Value.slice ad n c).ownBlock.toList∧TrXs P G h w' [.so te e] R [.slice ad n c] (Value.slice ad n c).ownBlock.toList:=by
 have hrow:w'.ownsRow 0 te (ets G e).length (.slice ad n c) R.length (zr8 G e R):=hO.get (i:=0) rfl;have hfp:∀b∈(Value.slice ad n c).ownBlock.toList,b∈F∨w.heap.size≤b:=fun b hb=>hO.fresh _ (List.mem_singleton.2 rfl) rfl b hb;have hlt:∀b o,h b=some o→b<w.heap.size:=fun b o e=>(Array.getElem?_eq_some_iff.1 (hon b o e)).1;refine ⟨⟨hO.os,hO.tape,hO.output,hO.size,hO.frame,Fz.le.refl _,fun b o e=>(hO.frame b (hlt b o e) fun hF=>by rw [hnone b hF] at e; cases e).trans (hon b o e),fun b hb => .inl hb,fun b hb=>⟨?_,hfp b hb⟩⟩,?_⟩
 ·rcases hfp b hb with h1|h1
  ·exact hnone b h1
  ·cases e1:h b with
   | none=>rfl
   | some o=>have:=hlt b o e1; omega
 ·have:=TrXs.cons (P:=P) (G:=G) (h:=h) (w:=w') (.so te e) [] R (.slice ad n c) [] _ [] (Tr.so te e R _ _ (zgC.of_row hrow) (zHP hs R)) .nil (fun b _ h=>by cases h);rw [List.append_nil] at this;exact this
theorem so_fp {te:Nat} {e:Ty} {x:List (e.den τ)} {v:Value} {f:List Nat} (ht:Tr P G h w (.so te e) x v f):f=v.ownBlock.toList:=by
 cases ht with
 | fz _ _ _ hz _=>cases hz
 | so _ _ _ _ vs ho hr=>rfl
theorem zL6 {te:Nat} {e:Ty} {x:List (e.den τ)} {v:Value} {f:List Nat} (hd:G.dr te=false) (he:(ets G e).all zhk=true) (ht:Tr P G h w (.so te e) x v f):∃ad c,v = .slice ad x.length c∧w.ownsRow 0 te (ets G e).length v x.length (zr8 G e x):=by
 cases ht with
 | fz _ _ _ hz _=>cases hz
 | so _ _ _ _ vs ho hr =>
  rw [zDh hr he] at ho
  replace ho:=ho.row hd
  have ho':=ho;obtain ⟨_,⟨e1,hz⟩|⟨g,cap,cur,e1,_⟩⟩:=ho
  ·exact ⟨none,0,by rw [hz]; exact e1,ho'⟩
  ·exact ⟨_,_,e1,ho'⟩
theorem zL7 {f:FuncId} {ts:List Ty} {te:Nat} {e:Ty} {m:DP τ ts→Option (DP τ [.so te e])} (hs:ts.all zhk=true) (he:(ets G e).all zhk=true) (hc:zcC P f)
  (H:∀(w:World) (h:Fz) (p:DP τ ts) (R:List (e.den τ)),h.on w→zrU P G h→m p=some R→Calls P f (zqb ts p).toArray w fun e' w'=>∃p0 c0,e' = .returned (.slice p0 R.length c0)∧Own w [] w' [.row (.slice p0 R.length c0) te (ets G e).length R.length (zr8 G e R)]):COk P G f ⟨ts,[.so te e],1,[],m⟩:=by
 refine ⟨hc,fun h w p r vs fp hgl _ hon htr _ hm=>?_⟩;obtain ⟨rfl,rfl⟩:=zqc htr hs;refine Calls.mono (H w h p r hon hgl hm) ?_;rintro e1 w' ⟨p0,c0,rfl,hO⟩;obtain ⟨h1,h2⟩:=zFG (P:=P) he hon hO;exact ⟨h,_,_,rfl,h1,h2,rfl⟩
theorem zzm {f:FuncId} {te:Nat} {e:Ty} {m:List (e.den τ)→Option (List (e.den τ))} (he:(ets G e).all zhk=true) (hc:zcC P f)
  (H:∀(w:World) (h:Fz) (xs R:List (e.den τ)) (ad:Option Addr) (c:Nat),h.on w→zrU P G h→m xs=some R→zd5 w ad (zr8 G e xs)→xs.length≤c→Calls P f #[.slice ad xs.length c] w fun e' w'=>∃p0 c0,e' = .returned (.slice p0 R.length c0)∧Own w [] w' [.row (.slice p0 R.length c0) te (ets G e).length R.length (zr8 G e R)]):COk P G f ⟨[.sl e],[.so te e],1,[],m⟩:=by
 refine ⟨hc,fun h w p r vs fp hgl _ hon htr _ hm=>?_⟩
 cases htr with
 | cons _ _ _ v vs f f' h1 h2 hd =>
  cases h2;obtain ⟨rfl,hr⟩:=zHQ rfl (show Tr P G h w (.sl e) p v f from h1)
  cases hr with
  | sl _ _ ad c us hcc hse hrr =>
   rw [zDh hrr he] at hse;refine Calls.mono (H w h p r ad c hon hgl hm (hse.sees hon) hcc) ?_;rintro e1 w' ⟨p0,c0,rfl,hO⟩;obtain ⟨g1,g2⟩:=zFG (P:=P) he hon hO;exact ⟨h,_,_,rfl,g1,g2,rfl⟩
theorem zOw {f:FuncId} {te:Nat} {e:Ty} {m:DP τ [.so te e, .int, .so te e]→Option (List (e.den τ))} (hd0:G.dr te=false) (he:(ets G e).all zhk=true) (hc:zcC P f)
  (H:∀(w:World) (h:Fz) (xs:List (e.den τ)) (i:Int) (ys R:List (e.den τ)) (ad ad2:Option Addr) (c c2:Nat) (F:List Nat),h.on w→zrU P G h→(∀b∈F,h b=none)→m (xs,i,ys)=some R→Own w F w [.row (.slice ad xs.length c) te (ets G e).length xs.length (zr8 G e xs), .row (.slice ad2 ys.length c2) te (ets G e).length ys.length (zr8 G e ys)] →
   Calls P f #[.slice ad xs.length c, .int .i64 i, .slice ad2 ys.length c2] w fun e' w'=>∃p0 c0,e' = .returned (.slice p0 R.length c0)∧Own w F w' [.row (.slice p0 R.length c0) te (ets G e).length R.length (zr8 G e R)]):COk P G f ⟨[.so te e, .int, .so te e],[.so te e],1,[],m⟩:=by
 refine ⟨hc,fun h w p r vs fp hgl _ hon htr hnone hm=>?_⟩
 cases htr with
 | cons _ _ _ v vs f f' h1 h2 hd =>
  cases h2 with
  | cons _ _ _ v2 vs2 f2 f2' h3 h4 hd2 =>
   cases h4 with
   | cons _ _ _ v3 vs3 f3 f3' h5 h6 hd3 =>
    cases h6;obtain ⟨rfl,rfl⟩:=zL5 (t := .int) rfl h3;obtain ⟨ad,c,rfl,ho1⟩:=zL6 hd0 he (show Tr P G h w (.so te e) p.1 v f from h1);obtain ⟨ad2,c2,rfl,ho2⟩:=zL6 hd0 he (show Tr P G h w (.so te e) p.2.2 v3 f3 from h5);have hf1:=so_fp (show Tr P G h w (.so te e) p.1 _ f from h1);have hf3:=so_fp (show Tr P G h w (.so te e) p.2.2 _ f3 from h5)
    have hO:Own w (f++([]++(f3++[]))) w [.row (.slice ad p.1.length c) te (ets G e).length p.1.length (zr8 G e p.1), .row (.slice ad2 p.2.2.length c2) te (ets G e).length p.2.2.length (zr8 G e p.2.2)]:=by
     refine ⟨rfl,rfl,rfl,Nat.le_refl _,fun _ _ _=>rfl,?_,?_,?_⟩
     ·intro r hr
      rcases List.mem_cons.1 hr with rfl|hr
      ·exact ho1
      ·rw [List.mem_singleton.1 hr]; exact ho2
     ·intro r hr _ b hb
      left
      rcases List.mem_cons.1 hr with rfl|hr
      ·exact List.mem_append_left _ (by rw [hf1]; exact hb)
      ·rw [List.mem_singleton.1 hr] at hb;exact List.mem_append_right _ (by rw [hf3,List.append_nil]; exact hb)
     ·refine .cons (fun s hs => .inr fun b hb hb2=>?_) (.cons (fun _ h=>by cases h) .nil);rw [List.mem_singleton.1 hs] at hb2;exact hd b (by rw [hf1]; exact hb) (by rw [hf3,List.append_nil]; exact hb2)
    refine Calls.mono (H w h p.1 p.2.1 p.2.2 r ad ad2 c c2 _ hon hgl hnone hm hO) ?_;rintro e1 w' ⟨p0,c0,rfl,hO'⟩;obtain ⟨g1,g2⟩:=zKg (P:=P) he hon hnone hO';exact ⟨h,_,_,rfl,g1,g2,rfl⟩
theorem zL8 {f:FuncId} {m:List Str × Str→Option Str} (hc:zcC P f)
  (H:∀(w:World) (h:Fz) (xs:List Str) (s R:Str) (ad:Option Addr) (c:Nat),h.on w→zrU P G h→m (xs,s)=some R→zd5 w ad (xs.map str)→xs.length≤c→Calls P f #[.slice ad xs.length c,str s] w fun e' w'=>e' = .returned (str R)∧Below w.heap.size w w'):COk P G f ⟨[.sl .str, .str],[.str],1,[],m⟩:=by
 refine ⟨hc,fun h w p r vs fp hgl _ hon htr _ hm=>?_⟩
 cases htr with
 | cons _ _ _ v vs f f' h1 h2 hd =>
  obtain ⟨rfl,rfl⟩:=zqc h2 rfl;obtain ⟨rfl,hr⟩:=zHQ rfl (show Tr P G h w (.sl .str) p.1 v f from h1)
  cases hr with
  | sl _ _ ad c us hcc hse hrr =>
   rw [zDh hrr rfl] at hse
   have he:zr8 G .str p.1=p.1.map str:=by
    show List.flatMap _ _=_;generalize p.1=l
    induction l with
    | nil=>rfl
    | cons x l ih=>rw [List.flatMap_cons,ih]; rfl
   rw [he] at hse;refine Calls.mono (H w h p.1 p.2 r ad c hon hgl hm (hse.sees hon) hcc) ?_;rintro e1 w' ⟨rfl,hbl⟩;exact ⟨h,[str r],[],rfl,zqd hon hbl,zr9 (ts:=[.str]) r rfl,rfl⟩
end
structure CLs (P:Program) (G:Sig τ) where
 cs:zyt τ
 ok:∀q∈cs,COk P G q.1 q.2
def CLs.nil {P:Program} {G:Sig τ}:CLs P G:=⟨[],fun q h=>by cases h⟩
def CLs.add {P:Program} {G:Sig τ} (C:CLs P G) {f:FuncId} {k:Con τ} (h:COk P G f k):CLs P G:=⟨(f,k)::C.cs,fun q hq=>by
 rcases List.mem_cons.1 hq with rfl|hq
 ·exact h
 ·exact C.ok q hq⟩
def fnB (fn:Func) (n:Nat) (k:Con τ):Bool:=(match fn.body with
 | some _=>true
 | none=>false)&&Nat.beq fn.ntmps n&&Nat.ble n gh&&Nat.ble k.ps.length n&&k.rs.all noPr
def bdyF (fn:Func):Code:=match fn.body with
 | some c=>c
 | none => .skip
theorem zL9 {P:Program} {G:Sig τ} {ty:List (TypeId × Ty)} (hm:P.follows .mixedOrders=true) (hNm:∀(f:FuncId) (fn:Func),P.funcs[f]? = some fn→(fn.name == "runtime.NumGoroutine")=false) {cs:zyt τ} {f:FuncId} {fn:Func} {k:Con τ} (n:Nat)
  (h1:P.funcs[f]? = some fn) (h2:fnB fn n k=true) {hn:Hn τ (DP τ k.rs)} {op:(Nat→Value)→OpF τ (DP τ k.rs)} (hop:∀fx w0 h0 F,zvw (Cx.w (⟨P,G,ty,cs,n,fun _ => .bool false⟩:Cx τ) fx) w0 h0 F (op fx)) (hF:ztX (⟨P,G,ty,cs,n,fun _ => .bool false⟩:Cx τ) k (bdyF fn) fn.results.toList hn op):COk P G f k:=by
 simp only [fnB,Bool.and_eq_true,Nat.beq_eq,Nat.ble_eq] at h2;obtain ⟨⟨⟨⟨hb,hnt⟩,hng⟩,hp⟩,hr⟩:=h2;refine zOR (X:=⟨P,G,ty,cs,n,fun _ => .bool false⟩) hm hop ⟨h1,?_,hNm f fn h1,hnt,hng,hp,rfl,hr⟩ hF;unfold bdyF
 split at hb
 ·rename_i c hc; rw [hc]
 ·cases hb
theorem zDi {P:Program} {G:Sig τ} {ty:List (TypeId × Ty)} (hm:P.follows .mixedOrders=true) (hNm:∀(f:FuncId) (fn:Func),P.funcs[f]? = some fn→(fn.name == "runtime.NumGoroutine")=false) (hT:∀cs n,TyOk (⟨P,G,ty,cs,n,fun _ => .bool false⟩:Cx τ)) (C:CLs P G) {f:FuncId} {fn:Func} {k:Con τ} (n:Nat)
  (h1:P.funcs[f]? = some fn) (h2:fnB fn n k=true) {hn:Hn τ (DP τ k.rs)} (hF:ztX (⟨P,G,ty,C.cs,n,fun _ => .bool false⟩:Cx τ) k (bdyF fn) fn.results.toList hn):COk P G f k :=
 zL9 hm hNm n h1 h2 (fun fx _ _ _ _ _ _ _ _ _ e=>zq4 (X:=Cx.w (⟨P,G,ty,C.cs,n,fun _ => .bool false⟩:Cx τ) fx) ⟨(hT C.cs n).el,(hT C.cs n).eq⟩ C.ok e) hF
def zxI {P:Program} {G:Sig τ} (ty:List (TypeId × Ty)) (C:CLs P G) (B:Bt (FnS P)) (n:Nat) (fx:Nat→Value):Zx (Cx.w (⟨P,G,ty,C.cs,n,fun _ => .bool false⟩:Cx τ) fx):=⟨fun _=>C.cs,B⟩
noncomputable def opJ {ρ:Type} {P:Program} {G:Sig τ} (ty:List (TypeId × Ty)) (C:CLs P G) (B:Bt (FnS P)) (n m:Nat) (fx:Nat→Value):OpF τ ρ:=opZ _ (zxI ty C B n fx) (inZ _ (zxI ty C B n fx) m)
theorem ztb {P:Program} {G:Sig τ} {ty:List (TypeId × Ty)} (hm:P.follows .mixedOrders=true) (hNm:∀(f:FuncId) (fn:Func),P.funcs[f]? = some fn→(fn.name == "runtime.NumGoroutine")=false) (hT:∀cs n,TyOk (⟨P,G,ty,cs,n,fun _ => .bool false⟩:Cx τ)) (C:CLs P G) (B:Bt (FnS P)) {f:FuncId} {fn:Func} {k:Con τ} (n m:Nat)
  (h1:P.funcs[f]? = some fn) (h2:fnB fn n k=true) {hn:Hn τ (DP τ k.rs)} (hF:ztX (⟨P,G,ty,C.cs,n,fun _ => .bool false⟩:Cx τ) k (bdyF fn) fn.results.toList hn (opJ ty C B n m)):COk P G f k :=
 zL9 hm hNm n h1 h2 (fun fx _ _ _=>zMB (X:=Cx.w (⟨P,G,ty,C.cs,n,fun _ => .bool false⟩:Cx τ) fx) (Z:=zxI ty C B n fx) ⟨(hT C.cs n).el,(hT C.cs n).eq⟩ C.ok hNm (fun _=>C.ok) (zH0 (X:=Cx.w (⟨P,G,ty,C.cs,n,fun _ => .bool false⟩:Cx τ) fx) (Z:=zxI ty C B n fx) hm (fun _=>C.ok) ⟨(hT C.cs n).el,(hT C.cs n).eq⟩ C.ok hNm m)) hF
theorem zFH {P:Program} {G:Sig τ} {f:FuncId} {k:Con τ} (hc:zcC P f) (h:∀p,k.m p=none):COk P G f k:=⟨hc,fun _ _ p r _ _ _ _ _ _ _ hm=>by rw [h p] at hm; cases hm⟩
theorem zMa {P:Program} (h:(P.funcs.toList.all fun fn => !(fn.name == "runtime.NumGoroutine"))=true):∀(f:FuncId) (fn:Func),P.funcs[f]? = some fn→(fn.name == "runtime.NumGoroutine")=false:=by
 intro f fn hf;have:=List.all_eq_true.1 h fn (by rw [← Array.getElem?_toList] at hf; exact List.mem_of_getElem? hf);simpa using this
noncomputable def eqsB (G:Sig τ) (ty:List (TypeId × Ty)) (eqs:List Nat):Bool:=ty.all fun p=>match p.2 with
 | .st n=>bif (G.fs n).all zhk then mem eqs n else true
 | _=>true
theorem zMb {P:Program} {G:Sig τ} {ty:List (TypeId × Ty)} (eqs:List Nat) (h1:tyB P G ty=true) (h2:eqsB G ty eqs=true) (h3:∀n∈eqs, ∀x y,G.eq n x y=eqD (G.fs n) (G.dtor n x) (G.dtor n y)):∀cs n,TyOk (⟨P,G,ty,cs,n,fun _ => .bool false⟩:Cx τ):=fun cs n=>zO2 h1 fun n x y hs ⟨t,ht⟩=>by
 have h4:=List.all_eq_true.1 h2 (t, .st n) (zmP ht);have hs:(G.fs n).all zhk=true:=hs;have h4:(bif (G.fs n).all zhk then mem eqs n else true)=true:=h4;rw [hs] at h4;exact h3 n (zep.1 h4) x y
theorem fp_nil {P:Program}:∀p∈([]:List (FuncId × (UInt8→Option Bool))),zHU P p.2 p.1:=fun p h=>by cases h
theorem zbq {P:Program} {f:FuncId} {m:UInt8→Option Bool} {l:List (FuncId × (UInt8→Option Bool))} (h:zHU P m f) (t:∀p∈l,zHU P p.2 p.1):∀p∈(f,m)::l,zHU P p.2 p.1:=fun p hp=>by
 rcases List.mem_cons.1 hp with rfl|hp
 ·exact h
 ·exact t p hp
theorem zqe {h h':Fz} {w w':World} {fp':List Nat} (hl:Left h w [] h' w' fp'):Below w.heap.size w w':=⟨hl.os,hl.tape,hl.output,hl.size,fun b hb=>hl.frame b hb (by simp)⟩
theorem zf3 {P:Program} {G:Sig τ} {f:FuncId} {m:UInt8→Option Bool} (h1:∀h,zrU P G h) (h2:zC2 P G) (h:COk P G f ⟨[.u8],[.bool],1,[],m⟩):zHU P m f:=⟨h.1,fun c r w hm=>by
 refine Calls.mono (h.2 (fun _=>none) w c r [zcW c] [] (h1 _) h2 (fun b o e=>by cases e) (zr9 (ts:=[.u8]) c rfl) (fun b hb=>by cases hb) hm) ?_;rintro e w' ⟨h',rs,fp',rfl,hl,htr,_⟩;obtain ⟨rfl,_⟩:=zqc htr rfl
 exact ⟨rfl,zqe hl⟩⟩
theorem zzn {P:Program} {G:Sig τ} {f:FuncId} {k:Con τ} (hs:k.ps.all zhk=true) (hr:k.rs.all zhk=true) (hb:k.bk=[]) (hn:k.nr=k.rs.length) (hk:COk P G f k) (hfp:zC2 P G) {p:DP τ k.ps} {r:DP τ k.rs} (hm:k.m p=some r) {h:Fz} {w:World} (hon:h.on w) (hgl:zrU P G h) :
  Calls P f (zqb k.ps p).toArray w fun e w'=>e = .returned (zy9 (zqb k.rs r))∧Below w.heap.size w w':=by
 refine Calls.mono (hk.2 h w p r (zqb k.ps p) [] hgl hfp hon (zr9 p hs) (fun b hb=>by cases hb) hm) ?_;rintro e w' ⟨h',rs,fp',rfl,hl,htr,_⟩;obtain ⟨rfl,_⟩:=zqc htr hr
 have hl2:(zqb k.rs r).length=k.rs.length:=by
  have:∀(ts:List Ty) (p:DP τ ts),(zqb ts p).length=ts.length:=by
   intro ts
   induction ts with
   | nil=>intro p; rfl
   | cons t ts ih=>intro p; simp [zqb,ih]
  exact this _ _
 exact ⟨by rw [List.take_of_length_le (by omega)],zqe hl⟩
def ctOf {P:Program} {G:Sig τ} (T:Bt (CLs P G)) (f:FuncId):zyt τ:=match T.get f with
 | some C=>C.cs
 | none=>[]
theorem zOx {P:Program} {G:Sig τ} {T:Bt (CLs P G)}:∀f, ∀q∈ctOf T f,COk P G q.1 q.2:=by
 intro f q hq;unfold ctOf at hq
 split at hq
 ·rename_i C _; exact C.ok q hq
 ·cases hq
theorem zOy {X:Cx τ} (hm:X.P.follows .mixedOrders=true) (hNm:∀(f:FuncId) (fn:Func),X.P.funcs[f]? = some fn→(fn.name == "runtime.NumGoroutine")=false) (hT:TyOk X) (hfp:zC2 X.P X.G) (hC:X.cs=[]) {Z:Zx X} (hZ:∀f, ∀q∈Z.ct f,COk X.P X.G q.1 q.2) {f:FuncId} (hc:zcC X.P f) {k:Nat} (e:zrun X Z k f []=some true) :
  COk X.P X.G f ⟨[],[.bool],1,[],fun _=>some true⟩:=zfy rfl rfl rfl rfl hc fun w h p r on gl hr=>by
 have hr:some true=some r:=hr;cases hr;refine Calls.mono (zOK hm hZ hT (fun q hq=>by rw [hC] at hq; cases hq) hNm e (h:=h) (w:=w) (vals:=[]) gl hfp on rfl (fun i A u h1=>by simp at h1)).2 ?_;rintro e1 w' ⟨rfl,h',hl⟩;exact ⟨rfl,zqe hl⟩
theorem zOz {w w':World} (h:Fz.on (fun b=>w.heap[b]?) w'):w.heap.size≤w'.heap.size:=by
 cases hs:w.heap.size with
 | zero=>omega
 | succ n =>
  have:=h n w.heap[n] (Array.getElem?_eq_getElem (by omega));have:=(Array.getElem?_eq_some_iff.1 this).1;omega
theorem zKi (l:List Str):cells (fun x:Str=>[str x]) l=l.map str:=by
 unfold cells
 induction l with
 | nil=>rfl
 | cons x l ih=>rw [List.flatMap_cons,ih]; rfl
end Go.Rk
end
section
namespace Go.Rk
open Go.RowKit Go.Dm Go.Dk Go.ChangeShapes Go.WideShapes Go.Deep
variable {τ:Nat→Type}
section
variable {H:Type} {enc:TypeId × Value→H} {P:Program} {G:Sig τ} {w:World} {base:Nat} {spare:Nat→Bool} {held:Bool}
def mF (P:Program) (m:List Ty→TypeId→Option (List Ty)):List Field→Nat→List Ty→Option (List Ty × Nat)
 | [],o,ts=>some (ts,o)
 | f::fs,o,ts=>bif Nat.beq f.offset o then (match m ts f.type with
  | some r=>mF P m fs (o+P.cellsOf f.type) r
  | none=>none) else none
def mT (P:Program) (G:Sig τ):Nat→List Ty→TypeId→Option (List Ty)
 | 0,_,_=>none
 | d+1,ts,t=>match P.underlying t with
  | some (.struct ⟨fs⟩)=>match mF P (mT P G d) fs 0 ts with
   | some (r,o)=>bif Nat.beq o (P.cellsOf t) then some r else none
   | none=>none
  | some .string=>match ts with
   | .str::r=>some r
   | _=>none
  | some .bool=>match ts with
   | .bool::r=>some r
   | _=>none
  | some (.int .i64)=>match ts with
   | .int::r=>some r
   | _=>none
  | some (.int .u8)=>match ts with
   | .u8::r=>some r
   | _=>none
  | some (.int .u16)=>match ts with
   | .u16::r=>some r
   | _=>none
  | some (.slice te)=>match ts with
   | .sl e::r=>match mT P G d (ets G e) te with
    | some []=>bif Nat.beq (P.cellsOf te) (ets G e).length&&Nat.blt 0 (ets G e).length then some r else none
    | _=>none
   | _=>none
  | _=>none
theorem zwH {h:Fz} {t:Ty} {ts:List Ty} {x:t.den τ} {q:DP τ ts} {v:Value} {vs:List Value} (h1:Rp P G h t x v) (h2:RpL P G h ts q vs):RpL P G h (t::ts) (.mk x q) (v::vs) := .cons t ts (.mk x q) v vs (by rw [DP.hd_mk]; exact h1) (by rw [DP.tl_mk]; exact h2)
def rgT:(t:Ty)→t.den τ→Prop
 | .int,x => -9223372036854775808≤(show Int from x)∧(show Int from x)≤9223372036854775807
 | _,_=>True
def rgL:(ts:List Ty)→DP τ ts→Prop
 | [],_=>True
 | t::ts,p=>rgT t p.hd∧rgL ts p.tl
theorem zwI {t:Ty} {ts:List Ty} {x:t.den τ} {q:DP τ ts} (h:rgT t x) (h2:rgL ts q):rgL (t::ts) (.mk x q):=⟨by rw [DP.hd_mk]; exact h,by rw [DP.tl_mk]; exact h2⟩
def rgX (G:Sig τ):(t:Ty)→t.den τ→Prop
 | .st n,z=>rgL (G.fs n) (G.dtor n z)
 | t,z=>rgT t z
def rgXs (G:Sig τ):(ts:List Ty)→DP τ ts→Prop
 | [],_=>True
 | t::ts,p=>rgX G t p.hd∧rgXs G ts p.tl
theorem i64_of {n:Int} (h:(Lit.int .i64 n).wf=true) : -9223372036854775808≤n∧n≤9223372036854775807:=by
 have e1:IntKind.i64.min = -9223372036854775808:=rfl;have e2:IntKind.i64.max=9223372036854775807:=rfl;simpa [Lit.wf,e1,e2] using h
abbrev hp (w:World):Fz:=fun b=>w.heap[b]?
theorem zJk {h:Fz}:∀{ts:List Ty} {p:DP τ ts} {vs:List Value},RpL P G h ts p vs→vs.length=ts.length
 | [],_,_,h=>by cases h; rfl
 | t::ts,_,_,h=>by cases h with|cons _ _ _ v vs h1 h2=>simp [zJk h2]
theorem zFy {h:Fz} {e:Ty} {z:e.den τ} {ws:List Value} (hz:RpL P G h (ets G e) (edt G e z) ws):∀{xs:List (e.den τ)} {vs:List Value},RpR P G h e xs vs→RpR P G h e (xs++[z]) (vs++ws)
 | [],vs,h=>by
  cases h;have:=RpR.cons (P:=P) (G:=G) e z [] ws [] hz (.nil e);simpa using this
 | x::xs,_,h=>by
  cases h with
  | cons _ _ _ v1 v2 h1 h2 =>
   have:=RpR.cons e x (xs++[z]) v1 (v2++ws) h1 (zFy hz h2);simpa [List.append_assoc] using this
theorem zJl {h:Fz} {e:Ty}:∀{xs:List (e.den τ)} {vs:List Value},RpR P G h e xs vs→vs.length=xs.length*(ets G e).length
 | [],_,h=>by cases h; simp
 | x::xs,_,h=>by
  cases h with
  | cons _ _ _ v1 v2 h1 h2 =>
   rw [List.length_append,zJk h1,zJl h2,List.length_cons,Nat.add_mul,Nat.one_mul,Nat.add_comm]
theorem zOm {fuel:Nat} {t te:TypeId} {v:Value} {x:DataW H × List MemPlace} {e:Ty} (ht:P.underlying t=some (.slice te)) (hC:P.cellsOf te=(ets G e).length) (hpos:0<(ets G e).length)
  (ho:∀fuel cs x,DataW.trod enc P w base spare held fuel te cs=some x→∃z:e.den τ,RpL P G (hp w) (ets G e) (edt G e z) cs) (hf:DataW.trod enc P w base spare held fuel t [v]=some x) :
  ∃xs:List (e.den τ),Rp P G (hp w) (.sl e) xs v:=by
 rcases open_slice ht hf with ⟨hcs,_⟩|⟨a,len,cap,m,n,D,Pl,hcs,hb,hl,hm,hmm,hx,hel⟩
 ·simp at hcs;subst hcs;exact ⟨[],Rp.sl e [] none 0 [] (Nat.le_refl _) (.inl rfl) (.nil e)⟩
 ·simp at hcs;subst hcs
  have hmm':len≤m:=by rw [hmm]; split<;>omega
  rw [hC] at hel
  generalize hsz:(ets G e).length=sz at *
  have hex:∀i,i<len→∃(z:e.den τ) (ws:List Value),RpL P G (hp w) (ets G e) (edt G e z) ws∧(∀(j:Nat) v,ws[j]? = some v→w.cell? ((a.add (i*sz)).add j)=some v):=by
   intro i hi;obtain ⟨cs',hc,htr⟩:=hel i (by omega);obtain ⟨z,hz⟩:=ho _ _ _ htr;exact ⟨z,cs',hz,fun j v hj=>zKj hc hj⟩
  have hall:∀k,k≤len→∃(xs:List (e.den τ)) (vs:List Value),xs.length=k∧RpR P G (hp w) e xs vs∧∀(i:Nat) v,vs[i]? = some v→∃q j,i=q*sz+j∧w.cell? ((a.add (q*sz)).add j)=some v:=by
   intro k
   induction k with
   | zero=>intro _; exact ⟨[],[],rfl, .nil e,by simp⟩
   | succ k ih =>
    intro hk;obtain ⟨xs,vs,hxl,hs,hcl⟩:=ih (by omega);obtain ⟨z,ws,hz1,hz2⟩:=hex k (by omega);have hlen:=zJl hs;rw [hsz] at hlen;refine ⟨xs++[z],vs++ws,by simp [hxl],zFy hz1 hs,fun i v hv=>?_⟩
    by_cases hi:i<vs.length
    ·rw [List.getElem?_append_left hi] at hv; exact hcl i v hv
    ·rw [List.getElem?_append_right (by omega)] at hv;refine ⟨k,i-k*sz,?_,hz2 _ v (by rw [hlen,hxl] at hv; exact hv)⟩;rw [hlen,hxl] at hi; omega
  obtain ⟨xs,vs,hxl,hs,hcl⟩:=hall len (Nat.le_refl _);refine ⟨xs,?_⟩;rw [← hxl];refine Rp.sl e xs (some a) cap vs (by omega) ?_ hs
  cases vs with
  | nil=>exact .inl rfl
  | cons v0 vr =>
   obtain ⟨q,j,hqj,hc0⟩:=hcl 0 v0 rfl
   have hq0:q=0:=by
    rcases Nat.eq_zero_or_pos q with h|h
    ·exact h
    ·have:1*sz≤q*sz:=Nat.mul_le_mul_right _ h;omega
   subst hq0
   have hj0:j=0:=by omega
   subst hj0
   have ea:(a.add (0*sz)).add 0=a:=by rw [Nat.zero_mul]; unfold Addr.add; simp
   rw [ea] at hc0;obtain ⟨hsp,hlt⟩:=zHR hc0;obtain ⟨b,off,spot⟩:=a;simp only at hsp; subst hsp
   have hblk:∃c e2 z2,w.heap[b]? = some (.cells c e2 z2):=by
    unfold World.cell? at hc0
    split at hc0
    ·rename_i c e2 z2 hb; exact ⟨_,_,_,hb⟩
    ·cases hc0
   obtain ⟨c,e2,z2,hbk⟩:=hblk;refine .inr ⟨b,off,c,e2,z2,rfl,hbk,fun k v hv=>?_⟩;obtain ⟨q,j,hqj,hc⟩:=hcl k v hv;rw [zFJ,zFJ,Nat.add_assoc, ← hqj] at hc;unfold World.cell? at hc;dsimp only at hc;rw [hbk] at hc;simpa using hc
theorem mF_ok {n:Nat} {m:List Ty→TypeId→Option (List Ty)} (hm:∀ts t r,m ts t=some r→∀fuel cs x,DataW.trod enc P w base spare held fuel t cs=some x→∀vs' (q:DP τ r),RpL P G (hp w) r q vs'→∃p:DP τ ts,RpL P G (hp w) ts p (cs++vs')∧(rgL r q→rgL ts p))
  {cs:List Value}:∀(fs:List Field) (o:Nat) (ts r:List Ty) (o':Nat),mF P m fs o ts=some (r,o')→o'=cs.length→(∀f∈fs, ∃y,DataW.trod enc P w base spare held n f.type ((cs.drop f.offset).take (P.cellsOf f.type))=some y) →
   ∀vs' (q:DP τ r),RpL P G (hp w) r q vs'→∃p:DP τ ts,RpL P G (hp w) ts p (cs.drop o++vs')∧(rgL r q→rgL ts p)
 | [],o,ts,r,o',e,ho,_,vs',q,hq=>by
  unfold mF at e;cases e;rw [ho,List.drop_length];exact ⟨q,hq,id⟩
 | f :: fs,o,ts,r,o',e,ho,hf,vs',q,hq=>by
  unfold mF at e
  cases hb:Nat.beq f.offset o with
  | false=>rw [hb] at e; cases e
  | true =>
   rw [hb] at e
   have hfo:f.offset=o:=by simpa using hb
   replace e:(match m ts f.type with
    | some r=>mF P m fs (o+P.cellsOf f.type) r
    | none=>none)=some (r,o'):=e
   split at e
   ·rename_i r1 h1
    obtain ⟨p,hp',hg⟩:=mF_ok hm fs _ _ _ _ e ho (fun g hg=>hf g (List.mem_cons_of_mem _ hg)) vs' q hq;obtain ⟨y,hy⟩:=hf f (List.mem_cons_self ..);rw [hfo] at hy;obtain ⟨p2,h2,hg2⟩:=hm _ _ _ h1 _ _ _ hy _ p hp';refine ⟨p2,?_,fun h=>hg2 (hg h)⟩
    have:cs.drop o=(cs.drop o).take (P.cellsOf f.type)++cs.drop (o+P.cellsOf f.type):=by
     rw [← List.drop_drop,List.take_append_drop]
    rw [this,List.append_assoc];exact h2
   ·cases e
theorem zJm:∀(d:Nat) (ts:List Ty) (t:TypeId) (r:List Ty),mT P G d ts t=some r→∀fuel cs x,DataW.trod enc P w base spare held fuel t cs=some x→∀vs' (q:DP τ r),RpL P G (hp w) r q vs'→∃p:DP τ ts,RpL P G (hp w) ts p (cs++vs')∧(rgL r q→rgL ts p)
 | 0,_,_,_,e,_,_,_,_,_,_,_=>by cases e
 | d + 1,ts,t,r,e,fuel,cs,x,h,vs',q,hq=>by
  unfold mT at e
  split at e
  ·rename_i fs hu
   split at e
   ·rename_i r1 o h1
    cases hb:Nat.beq o (P.cellsOf t) with
    | false=>rw [hb] at e; cases e
    | true =>
     rw [hb] at e;cases e;obtain ⟨xs,n,_,rfl,hl,hlen,hf⟩:=DataW.trod_struct hu h
     have:=mF_ok (cs:=cs) (n:=n) (fun ts t r=>zJm d ts t r) fs 0 ts _ o h1 (by rw [hl]; simpa using hb) (fun f hf'=>by
      obtain ⟨i,hi,rfl⟩:=List.mem_iff_getElem.1 hf';have hfi:=hf i fs[i] (by simp [hi])
      have hlen':xs.length=fs.length:=by simpa using hlen
      rw [List.getElem?_eq_getElem (by omega)] at hfi
      exact ⟨_,hfi⟩) vs' q hq
     simpa using this
   ·cases e
  ·rename_i hu
   split at e
   ·rename_i r1
    cases e;obtain ⟨s,rfl,_,_⟩:=DataW.trod_string hu h;obtain ⟨⟨l⟩⟩:=s;exact ⟨.mk (t := .str) l q,zwH (t := .str) (x:=l) (.str l) hq,zwI (t := .str) trivial⟩
   ·cases e
  ·rename_i hu
   split at e
   ·rename_i r1
    cases e;obtain ⟨b,rfl,_⟩:=DataW.trod_bool hu h;exact ⟨.mk (t := .bool) b q,zwH (t := .bool) (x:=b) (.bool b) hq,zwI (t := .bool) trivial⟩
   ·cases e
  ·rename_i hu
   split at e
   ·rename_i r1
    cases e;obtain ⟨n,rfl,_,hw⟩:=DataW.trod_int hu h;exact ⟨.mk (t := .int) n q,zwH (t := .int) (x:=n) (.int n) hq,zwI (t := .int) (i64_of hw)⟩
   ·cases e
  ·rename_i hu
   split at e
   ·rename_i r1
    cases e;obtain ⟨n,rfl,_,hw⟩:=DataW.trod_int hu h;obtain ⟨b,rfl⟩:=zOD hw;exact ⟨.mk (t := .u8) b q,zwH (t := .u8) (x:=b) (.u8 b) hq,zwI (t := .u8) trivial⟩
   ·cases e
  ·rename_i hu
   split at e
   ·rename_i r1
    cases e;obtain ⟨n,rfl,_,hw⟩:=DataW.trod_int hu h;obtain ⟨b,rfl⟩:=zOC hw;exact ⟨.mk (t := .u16) b q,zwH (t := .u16) (x:=b) (.u16 b) hq,zwI (t := .u16) trivial⟩
   ·cases e
  ·rename_i te hu
   split at e
   ·rename_i e1 r1
    split at e
    ·rename_i h1
     cases hb:(Nat.beq (P.cellsOf te) (ets G e1).length&&Nat.blt 0 (ets G e1).length) with
     | false=>rw [hb] at e; cases e
     | true =>
      rw [hb] at e;cases e;simp only [Bool.and_eq_true,Nat.beq_eq,Nat.blt_eq] at hb
      have hv:∃v,cs=[v]:=by
       rcases open_slice hu h with ⟨hcs,_⟩|⟨a,len,cap,m,n,D,Pl,hcs,_⟩
       ·exact ⟨_,hcs⟩
       ·exact ⟨_,hcs⟩
      obtain ⟨v,rfl⟩:=hv
      obtain ⟨xs,hxs⟩:=zOm (G:=G) (e:=e1) hu hb.1 hb.2 (fun fuel cs x hh=>by
       obtain ⟨p,hp',_⟩:=zJm d _ _ _ h1 fuel cs x hh [] () .nil;rw [List.append_nil] at hp'
       exact ⟨ect G e1 p,by rw [zDn]; exact hp'⟩) h
      exact ⟨.mk (t := .sl e1) xs q,zwH (t := .sl e1) (x:=xs) hxs hq,zwI (t := .sl e1) trivial⟩
    ·cases e
   ·cases e
  ·cases e
theorem zLk {h:Fz}:∀{ts:List Ty} {p:DP τ ts} {vs:List Value},ts.all frz=true→RpL P G h ts p vs→TrL P G h w ts p vs []
 | [],_,_,_,h=>by cases h; exact .nil
 | t::ts,_,_,hz,h=>by
  cases h with
  | cons _ _ _ v vs h1 h2 =>
   simp only [List.all_cons,Bool.and_eq_true] at hz;exact .cons t ts _ v vs [] [] (.fz t _ v hz.1 h1) (zLk hz.2 h2) (fun b hb=>by cases hb)
def mX (P:Program) (G:Sig τ) (d:Nat) (ty:Ty) (t:TypeId):Bool:=match ty with
 | .st n=>(match P.underlying t with
  | some (.struct _)=>true
  | _=>false)&&(match mT P G d (G.fs n) t with
  | some []=>(G.fs n).all frz
  | _=>false)
 | .pr _ _=>false
 | ty=>frz ty&&(match P.underlying t with
  | some .string=>true
  | some .bool=>true
  | some (.int _)=>true
  | some (.slice _)=>true
  | _=>false)&&(match mT P G d [ty] t with
  | some []=>true
  | _=>false)
def mXs (P:Program) (G:Sig τ) (d:Nat):List Ty→List TypeId→Bool
 | [],[]=>true
 | ty::tys,t::ts=>mX P G d ty t&&mXs P G d tys ts
 | _,_=>false
theorem mX_ok {d:Nat} {ty:Ty} {t:TypeId} (e:mX P G d ty t=true) {r:Reach} {b0:Nat} {v:Value} {D:DataW H} {ps:List MemPlace} (hval:Value.okWide P w r b0 t v) (hd:DataW.Trod enc P w base spare held t v D ps) :
  ∃z:ty.den τ,TrX P G (hp w) w ty z v []∧rgX G ty z:=by
 obtain ⟨fuel,hf⟩:=hd;unfold mX at e
 split at e
 ·rename_i n
  simp only [Bool.and_eq_true] at e;obtain ⟨e0,e1⟩:=e
  split at e0
  ·rename_i fs hu
   split at e1
   ·rename_i h1
    simp only [Value.okWide,hu] at hval;obtain ⟨cs,rfl,_⟩:=hval;obtain ⟨p,hp',hg⟩:=zJm d _ _ _ h1 fuel _ _ hf [] () .nil;rw [List.append_nil] at hp';obtain ⟨cs⟩:=cs;refine ⟨G.ctor n p,⟨cs,rfl,?_⟩,?_⟩
    ·rw [G.dc];exact zLk e1 hp'
    ·show rgL (G.fs n) (G.dtor n (G.ctor n p));rw [G.dc];exact hg trivial
   ·cases e1
  ·cases e0
 ·cases e
 ·rename_i h1 h2
  simp only [Bool.and_eq_true] at e;obtain ⟨⟨e0,e2⟩,e3⟩:=e
  split at e3
  ·rename_i h3
   obtain ⟨p,hp',hg⟩:=zJm d _ _ _ h3 fuel _ _ hf [] () .nil;rw [List.append_nil] at hp';refine ⟨DP.hd p,?_,?_⟩
   rotate_left
   ·have:=(hg trivial).1
    cases ty with
    | st n=>exact absurd rfl (h1 n)
    | _=>exact this
   generalize hcs:v.cells.toList=cs at hp'
   cases hp' with
   | cons _ _ _ u us g1 g2 =>
    cases g2
    have hna:∀l,v ≠ .agg l:=by
     intro l h;subst h;unfold Value.okWide at hval
     split at e2
     ·rename_i hu; simp [hu,Cell.okWide,Cell.ok] at hval
     ·rename_i hu; simp [hu,Cell.okWide,Cell.ok] at hval
     ·rename_i hu; simp [hu,Cell.okWide,Cell.ok] at hval
     ·rename_i hu; simp [hu,Cell.okWide,Cell.ok] at hval
     ·cases e2
    have hv:v=u:=by
     cases v with
     | agg l=>exact (hna l rfl).elim
     | _=>simpa [Value.cells] using hcs
    subst hv;exact TrX.plain (.fz _ _ _ e0 g1) h1
  ·cases e3
theorem zLl {d:Nat}:∀{tys:List Ty} {ts:List TypeId} {vs:List Value} {ds:List (DataW H)} {ps:List MemPlace},mXs P G d tys ts=true→(∀(j:Nat) t v,ts[j]? = some t→vs[j]? = some v→∃r b0,Value.okWide P w r b0 t v)→DataW.TrodAll enc P w base spare held ts vs ds ps →
  ∃p:DP τ tys,TrXs P G (hp w) w tys p vs []∧rgXs G tys p
 | [],[],_,_,_,_,_,h=>by
  obtain ⟨rfl,_,_⟩:=trodAll_nil h;exact ⟨(), .nil,trivial⟩
 | ty::tys,t::ts,_,_,_,e,hv,h=>by
  simp only [mXs,Bool.and_eq_true] at e;obtain ⟨v,vs,d0,ds,p,q,rfl,rfl,rfl,h0,h1⟩:=trodAll_cons h;obtain ⟨r,b0,hv0⟩:=hv 0 t v rfl rfl;obtain ⟨z,hz,hgz⟩:=mX_ok e.1 hv0 h0;obtain ⟨pp,hpp,hgp⟩:=zLl e.2 (fun j t v h1 h2=>hv (j+1) t v (by simpa using h1) (by simpa using h2)) h1
  exact ⟨.mk z pp,by
   have:=TrXs.cons (P:=P) (G:=G) (h:=hp w) (w:=w) ty tys (.mk z pp) v vs [] [] (by rw [DP.hd_mk]; exact hz) (by rw [DP.tl_mk]; exact hpp) (fun b hb=>by cases hb)
   simpa using this,by rw [DP.hd_mk]; exact hgz,by rw [DP.tl_mk]; exact hgp⟩
 | [],_::_,_,_,_,e,_,_=>by simp [mXs] at e
 | _::_,[],_,_,_,e,_,_=>by simp [mXs] at e
theorem law_ok {f:FuncId} {ps:List Ty} {m:DP τ ps→Option Bool} {d:Nat} {ts:List TypeId} (hc:COk P G f ⟨ps,[.bool],1,[],m⟩) (hm:∀p,rgXs G ps p→m p=some true) (hX:mXs P G d ps ts=true) (hgl:zrU P G (hp w)) (hfp:zC2 P G)
  {r:Reach} {b0:Nat} {args:Array Value} {ds:List (DataW H)} {pl:List MemPlace} (hv:∀(j:Nat) t v,ts[j]? = some t→args[j]? = some v→Value.okWide P w r b0 t v) (h:DataW.TrodAll enc P w base spare held ts args.toList ds pl) :
  Calls P f args w fun e w'=>e = .returned (.bool true)∧Below w.heap.size w w':=by
 obtain ⟨p,hp',hg⟩:=zLl (G:=G) hX (fun j t v h1 h2=>⟨r,b0,hv j t v h1 (by simpa using h2)⟩) h;have:=hc.2 (hp w) w p true args.toList [] hgl hfp (fun b o e=>e) hp' (fun b hb=>by cases hb) (hm p hg);rw [Array.toArray_toList] at this;refine Calls.mono this ?_;rintro e w' ⟨h',rs,fp',rfl,hl,htr,_⟩;obtain ⟨rfl,rfl⟩:=zqc htr rfl;exact ⟨rfl,zqe hl⟩
end
end Go.Rk
end
