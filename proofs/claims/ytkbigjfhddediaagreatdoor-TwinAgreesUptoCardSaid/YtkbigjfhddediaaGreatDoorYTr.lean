/- Walks by evaluation, calls and loops with them: what a whole run makes of abstract values. Over any program. Walks by ev -/
import Derived.Test.YtkbigjfhddediaaGreatDoorYRun
import Derived.Test.YtkbigjfhddediaaGreatDoorYFn
import Derived.Test.YtkbigjfhddediaaGreatDoorP0
set_option linter.unusedVariables false
set_option linter.unusedSimpArgs false
section
namespace Go.Rk
open Go.RowKit Go.Dm Go.Dk
noncomputable section
variable {τ:Nat→Type} {ρ:Type}
abbrev Kz (τ:Nat→Type) (ρ:Type):=Ex→zad τ→Hp τ→List Nat→Nat→Option ρ
def frN {α:Type} (n:Nat) (k:Nat→α):α:=match n with
 | 0=>k 0
 | n+1=>k (n+1)
def ap {α:Type} (U L:List α):List α:=List.rec (motive:=fun _=>List α) L (fun x _ a=>x::a) U
theorem ap_eq {α:Type} (U L:List α):ap U L=U++L:=by
 induction U with
 | nil=>rfl
 | cons x U a=>show x::ap U L=_; rw [a]; rfl
def opsZ (op:OpF τ ρ) (n:Nat) (all:List Oper):List Oper→zad τ→Hp τ→List Nat→Nat→(zad τ→Hp τ→List Nat→Nat→Option ρ)→Option ρ
 | [],E,L,T,nid,K=>K E L T nid
 | o::l,E,L,T,nid,K=>bc (dOk n o.dst) (zxx all E o.guard
   (fun E=>op E L nid (fun v g U t nid=>frN nid fun nid=>opsZ op n all l (zDm l o.dst v g E) (ap U L) (ap t T) nid K) o.op)
   fun E=>opsZ op n all l (unT E o.dst) L T nid K) none
def zzY (op:OpF τ ρ) (n:Nat) (all:List Oper):Nat→List Oper→List Dr→zad τ→Hp τ→List Nat→Nat→(zad τ→Hp τ→List Nat→Nat→Option ρ)→Option ρ
 | _,[],R,E,L,T,nid,K=>bc (zvc all R) (K E L T nid) none
 | i,o::l,R,E,L,T,nid,K=>bc (dOk n o.dst) (zxx all E o.guard
   (fun E=>op E L nid (fun v g U t nid=>frN nid fun nid=>zzY op n all (i+1) l (⟨i,o.dst,zey all o,ap t (kys U),kys U⟩::R) (zDm l o.dst v g E) (ap U L) (ap t T) nid K) o.op)
   fun E=>zzY op n all (i+1) l (⟨i,o.dst,zey all o,[],[]⟩::R) (unT E o.dst) L T nid K) none
def bsM (s k:Nat):Bool:=Nat.beq (Nat.land (Nat.shiftRight s k) 1) 1
def bsA (s k:Nat):Nat:=Nat.lor s (Nat.shiftLeft 1 k)
theorem zIK (s k:Nat):bsM s k=s.testBit k:=by
 have h1:Nat.land (Nat.shiftRight s k) 1=(s >>> k)%2:=Nat.and_one_is_mod (s >>> k);unfold bsM;rw [h1,Nat.testBit_eq_decide_div_mod_eq,Nat.shiftRight_eq_div_pow]
 cases Nat.mod_two_eq_zero_or_one (s/2^k) with
 | inl h=>rw [h]; rfl
 | inr h=>rw [h]; rfl
theorem zPO (s k j:Nat):bsM (bsA s k) j=(bsM s j||Nat.beq k j):=by
 rw [zIK,zIK]
 have h1:bsA s k=s ||| (1 <<< k):=rfl
 rw [h1,Nat.testBit_or,Nat.one_shiftLeft,Nat.testBit_two_pow]
 cases a:Nat.beq k j with
 | true=>rw [decide_eq_true (by simpa using a)]
 | false=>rw [decide_eq_false (fun e=>by subst e; simp at a)]
theorem zNc (j:Nat):bsM 0 j=false:=by rw [zIK]; exact Nat.zero_testBit j
def Bsr (s:Nat) (l:List Nat):Prop:=∀k,bsM s k=mem l k
theorem Bsr.nil:Bsr 0 []:=fun k=>by rw [zNc]; rfl
theorem Bsr.cons {s:Nat} {l:List Nat} (h:Bsr s l) (k:Nat):Bsr (bsA s k) (k::l):=fun j=>by
  rw [zPO,h j];rw [mem_cons]
  have:Nat.beq k j=Nat.beq j k:=by
    cases a:Nat.beq k j with
    | true => have:k=j:=by simpa using a
              subst this; exact a.symm
    | false =>
      cases hc:Nat.beq j k with
      | false=>rfl
      | true => have:j=k:=by simpa using hc
                subst this; rw [hc] at a; cases a
  rw [this,Bool.or_comm]
def cmU (lo hi:Nat):List Nat→Hp τ→Hp τ
 | _,[]=>[]
 | sn,(k,v)::U=>bif mem sn k then cmU lo hi sn U else match v with
  | .gone=>bif Nat.ble lo k&&Nat.blt k hi then cmU lo hi (k::sn) U else (k,.gone)::cmU lo hi (k::sn) U
  | v=>(k,v)::cmU lo hi (k::sn) U
def zzZ (lo hi:Nat):Nat→Hp τ→Hp τ
 | _,[]=>[]
 | s,(k,v)::U=>bif bsM s k then zzZ lo hi s U else match v with
  | .gone=>bif Nat.ble lo k&&Nat.blt k hi then zzZ lo hi (bsA s k) U else (k,.gone)::zzZ lo hi (bsA s k) U
  | v=>(k,v)::zzZ lo hi (bsA s k) U
theorem zEa {lo hi:Nat}:∀{U:Hp τ} {s:Nat} {sn:List Nat},Bsr s sn→zzZ lo hi s U=cmU lo hi sn U
 | [],_,_,_=>rfl
 | (k,v)::U,s,sn,h=>by
  unfold zzZ cmU;rw [h k,zEa h,zEa (h.cons k)]
def dd (lo hi:Nat):List Nat→List Nat→List Nat
 | _,[]=>[]
 | sn,t::T=>bif mem sn t||(Nat.ble lo t&&Nat.blt t hi) then dd lo hi sn T else t::dd lo hi (t::sn) T
def ddb (lo hi:Nat):Nat→List Nat→List Nat
 | _,[]=>[]
 | s,t::T=>bif bsM s t||(Nat.ble lo t&&Nat.blt t hi) then ddb lo hi s T else t::ddb lo hi (bsA s t) T
theorem zIL {lo hi:Nat}:∀{T:List Nat} {s:Nat} {sn:List Nat},Bsr s sn→ddb lo hi s T=dd lo hi sn T
 | [],_,_,_=>rfl
 | t::T,s,sn,h=>by
  unfold ddb dd;rw [h t,zIL h,zIL (h.cons t)]
def nodB:Nat→List Nat→Bool
 | _,[]=>true
 | s,i::l=>bif bsM s i then false else nodB (bsA s i) l
theorem zKh:∀{l:List Nat} {s:Nat} {sn:List Nat},Bsr s sn→nodB s l=true→nod l=true∧∀i∈l,i∉sn
 | [],_,_,_,_=>⟨rfl,fun i h=>by cases h⟩
 | i :: l,s,sn,h,e=>by
  unfold nodB at e
  cases c:bsM s i with
  | true=>rw [c] at e; cases e
  | false =>
   rw [c] at e;obtain ⟨h1,h2⟩:=zKh (h.cons i) e;have f:i∉l:=fun hi=>h2 i hi (List.mem_cons_self ..);refine ⟨?_,fun j a g=>?_⟩
   ·unfold nod;rw [h1]
    cases hm:mem l i with
    | false=>rfl
    | true =>
     obtain ⟨j,a,d⟩:=List.any_eq_true.1 (ztx _ _▸hm)
     have:i=j:=by simpa using d
     subst this;exact (f a).elim
   ·rcases List.mem_cons.1 a with rfl|a
    ·have b:=h j;rw [c] at b
     have:mem sn j=true:=by rw [ztx]; exact List.any_eq_true.2 ⟨j,g,by simp⟩
     rw [this] at b;cases b
    ·exact h2 j a (List.mem_cons_of_mem _ g)
def bsL:List Nat→Nat
 | []=>0
 | i::l=>bsA (bsL l) i
theorem zNe:∀l:List Nat,Bsr (bsL l) l
 | []=>Bsr.nil
 | i::l=>(zNe l).cons i
def zNf (l m:List Nat):Bool:=match m with
 | []=>true
 | m=>(fun s=>zCz l fun i => !bsM s i) (bsL m)
theorem zNg {l m:List Nat} (h:zNf l m=true):zy0 l m=true:=by
 cases m with
 | nil=>rw [zAv,List.all_eq_true]; intro i _; rfl
 | cons j m =>
  have h:(zCz l fun i => !bsM (bsL (j::m)) i)=true:=h;rw [zzx] at h;rw [zAv];rw [List.all_eq_true] at h ⊢;intro i hi;rw [← zNe (j::m) i];exact h i hi
def cmT (lo hi:Nat) (L:Hp τ) (T:List Nat):List Nat:=bif zCz L fun p=>Nat.blt p.1 lo then ddb lo hi 0 T else T
def gvB:XV τ→Bool
 | .gv _ _=>true
 | _=>false
def Cx.wn (X:Cx τ) (n:Nat):Cx τ:=⟨X.P,X.G,X.ty,X.cs,n,X.fx⟩
def nfE:List Nat→zad τ→(zad τ→Option ρ)→Option ρ
 | _,[],K=>K []
 | sn,(t,v)::E,K=>bc (mem sn t) (nfE sn E K) (nfE (t::sn) E fun E=>K ((t,v)::E))
def argE:Nat→List (XV τ)→zad τ
 | _,[]=>[]
 | i,v::vs=>(i,v)::argE (i+1) vs
def zGy:Nat→List Nat→Bool
 | _,[]=>true
 | k,i::l=>bif Nat.blt k i then zGy i l else false
def nodF:List Nat→Bool
 | []=>true
 | i::l=>bif zGy i l then true else nodB 0 (i::l)
theorem zKi:∀{l:List Nat} {k:Nat},zGy k l=true→∀j∈l,k<j
 | [],_,_,j,a=>by cases a
 | i::l,k,h,j,a=>by
  unfold zGy at h
  cases b:Nat.blt k i with
  | false=>rw [b] at h; cases h
  | true =>
   rw [b] at h
   have c:k<i:=by simpa using b
   rcases List.mem_cons.1 a with rfl|a
   ·exact c
   ·exact Nat.lt_trans c (zKi h j a)
theorem zGz:∀{l:List Nat} {k:Nat},zGy k l=true→nod (k::l)=true
 | l,k,h=>by
  have d:mem l k=false:=by
   cases hc:mem l k with
   | false=>rfl
   | true =>
    obtain ⟨j,c,a⟩:=List.any_eq_true.1 (ztx _ _▸hc);have:=zKi h j c;simp at a;omega
  unfold nod;rw [d]
  cases l with
  | nil=>rfl
  | cons i l =>
   unfold zGy at h
   cases b:Nat.blt k i with
   | false=>rw [b] at h; cases h
   | true=>rw [b] at h; simpa using zGz h
theorem zNh {l:List Nat} (h:nodF l=true):nod l=true:=by
 cases l with
 | nil=>rfl
 | cons i l =>
  replace h:(bif zGy i l then true else nodB 0 (i::l))=true:=h
  cases a:zGy i l with
  | true=>exact zGz a
  | false=>rw [a] at h; exact (zKh Bsr.nil h).1
def zvT (X:Cx τ) (L:Hp τ) (nid:Nat) (K:Nx τ ρ) (f:FuncId) (avs:List (XV τ)) (z:Option ρ):zyZ τ→Option ρ
 | []=>z
 | (g,k)::cs=>bc (Nat.beq g f) (match zsR X.G L k.ps avs with
 | some (p,l,m)=>bc (nodF l&&zNf l m)
   (match (bif k.rs.any (zmS X.G depth) then freeze L m else some []) with
   | some Z=>match roots avs k.bk with
    | some rs=>bc (nod (zwe rs)&&(zwe rs).all (mem l)) (match k.m p with
     | some r=>resK X.G (zAy k.nr rs) k.rs r nid fun vs U a=>match zCB vs with
      | some v=>K v [.gv (prT k.rs) (DP.pr k.rs r)] (U++(zou l++Z)) (l++m) a
      | none=>none
     | none=>zvT X L nid K f avs z cs) z
    | none=>z
   | none=>z)
   (zvT X L nid K f avs z cs)
 | none=>zvT X L nid K f avs z cs) (zvT X L nid K f avs z cs)
def zCq (E:zad τ):List ResultVar→List Nat
 | []=>[]
 | .tmp _::rs=>zCq E rs
 | .cell t _::rs=>match asc E t with
  | some (.c (.pt id 0))=>id::zCq E rs
  | _=>zCq E rs
inductive Bt (α:Type) where
 | nil
 | lf (k:Nat) (v:α)
 | nd (k:Nat) (a b:Bt α)
def Bt.get {α:Type}:Bt α→Nat→Option α
 | .nil,_=>none
 | .lf k v,f=>bif Nat.beq k f then some v else none
 | .nd k a b,f=>bif Nat.blt f k then a.get f else b.get f
structure FnS (P:Program) where
 f:FuncId
 fn:Func
 ok:P.funcs[f]? = some fn
def fnS {P:Program} {f:FuncId} {fn:Func} (h:P.funcs[f]? = some fn):FnS P:=⟨f,fn,h⟩
structure Zx (X:Cx τ) where
 ct:FuncId→zyZ τ
 ft:Bt (FnS X.P)
abbrev InF (τ:Nat→Type) (ρ:Type):=Nat→Code→zad τ→Hp τ→List Nat→Nat→Kz τ ρ→Option ρ
def inl (X:Cx τ) (Z:Zx X) (b:InF τ ρ) (L:Hp τ) (nid:Nat) (K:Nx τ ρ) (f:FuncId) (avs:List (XV τ)) (T:List Nat):Option ρ:=match Z.ft.get f with
 | some s=>bc (Nat.beq s.f f) (match s.fn.body with
  | some c=>bc (Nat.ble avs.length s.fn.ntmps&&Nat.ble s.fn.ntmps gh) (b s.fn.ntmps c (argE 0 avs++glE X.G.gl) L T nid fun e E L' T a=>match e with
   | .ex _=>none
   | _=>match zsV X E L' s.fn.results.toList with
    | some vs=>bc (vs.any gvB) none (match zCB vs with
     | some v=>K v [] (zzZ nid a 0 (L'.take (L'.length-L.length))) (cmT nid a L (zCq E s.fn.results.toList++T)) a
     | none=>none)
    | none=>none) none
  | none=>none) none
 | none=>none
def zIM (E:zad τ):List Operand→Option (List (CV τ))
 | []=>some []
 | x::xs=>match evC E x with
  | some c=>match zIM E xs with
   | some cs=>some (c::cs)
   | none=>none
  | none=>none
def z1B (P:Program) (a:TypeId):Bool:=match P.info? a with
 | some i=>match i.zero with
  | some _=>Nat.beq i.size 1
  | none=>false
 | none=>false
def zz0 (E:zad τ):Nat→List (Nat × Operand)→Option (List (CV τ))
 | _,[]=>some []
 | k,(i,x)::ps=>bif Nat.beq i k then (match evC E x with
  | some c=>match zz0 E (k+1) ps with
   | some cs=>some (c::cs)
   | none=>none
  | none=>none) else none
def vwB:AR τ→Bool
 | .vw _ _ _ _ _=>true
 | .sb _ _=>true
 | _=>false
def ixZ (X:Cx τ) (L:Hp τ) (nid:Nat) (K:Nx τ ρ) (id:Nat) (a:TypeId) (m:Int):Option ρ:=match lk L id with
 | .vw i k e lo xs=>match lk L i with
  | .row _ _ _ b=>bc (Nat.beq k b&&szE X a e) ((lAt xs m).bind fun z=>K (.c (.oe i k (lo+m.toNat:Nat) e z 0)) [] [] [id,i] nid) none
  | _=>none
 | .sb i n=>match szO X.P a with
  | some 1=>if 0≤m∧m<n then K (.c (.pt i m.toNat)) [] [] [id] nid else none
  | _=>none
 | _=>none
def opZ (X:Cx τ) (Z:Zx X) (e:InF τ ρ):OpF τ ρ:=fun E L nid K o=>match o with
 | .binOp b t x y u=>match evX E y with
  | some (.c .n0)=>match X.P.underlying t with
   | some (.slice _)=>match evC E x with
    | some c=>match nilZ X.G L c with
     | some (z,ids)=>match okX (eqO b z) with
      | some v=>K v [] [] ids nid
      | none=>none
     | none=>none
    | none=>none
   | _=>none
  | _=>opX X E L nid K (.binOp b t x y u)
 | .call ⟨.value f,⟨args⟩,ats⟩=>match evC E f with
  | some (.fn g)=>match zvb E args with
   | some avs=>zvT X L nid K g avs (inl X Z e L nid K g avs []) (Z.ct g)
   | none=>none
  | some (.cf id)=>match lk L id with
   | .clo g bs cs=>match zvb E args with
    | some avs=>zvT X L nid (fun v g U t n=>K v g U ([id]++t) n) g (bs.map .c++(avs++cs.map .c)) (inl X Z e L nid K g (bs.map .c++(avs++cs.map .c)) [id]) (Z.ct g)
    | none=>none
   | _=>none
  | _=>opX X E L nid K o
 | .indexAddr t x y=>match evC E x with
  | some (.os id)=>bc (vwB (lk L id)) (match elO X.P t with
   | some d=>match evC E y with
    | some (.i m)=>ixZ X L nid K id d m
    | _=>none
   | none=>none) (opX X E L nid K (.indexAddr t x y))
  | _=>opX X E L nid K (.indexAddr t x y)
 | .call ⟨.builtin .len,⟨[x]⟩,⟨[t]⟩⟩=>match evC E x with
  | some (.os id)=>match lk L id with
   | .sb _ n=>match elO X.P t with
    | some _=>K (.c (.i (n:Int))) [] [] [id] nid
    | none=>none
   | _=>opX X E L nid K (.call ⟨.builtin .len,⟨[x]⟩,⟨[t]⟩⟩)
  | _=>opX X E L nid K (.call ⟨.builtin .len,⟨[x]⟩,⟨[t]⟩⟩)
 | .makeFunc (.func f) ⟨fs⟩ ⟨a⟩=>match zIM E fs with
  | some bs=>match zIM E a with
   | some cs=>K (.c (.cf nid)) [] [(nid,.clo f bs cs)] [] (nid+1)
   | none=>none
  | none=>none
 | .buildSlice t n ⟨ps⟩=>match elO X.P t with
  | some d=>match asc X.ty d with
   | some _=>opX X E L nid K (.buildSlice t n ⟨ps⟩)
   | none=>bc (z1B X.P d) (match zz0 E 0 ps with
    | some cs=>bc (Nat.beq cs.length n&&Nat.ble n 65536) (K (.c (.os (nid+1))) [] [(nid+1,.sb nid n),(nid,.blk d cs)] [] (nid+2)) none
    | none=>none) none
  | none=>none
 | o=>opX X E L nid K o
def inZ (X:Cx τ) (Z:Zx X):Nat→InF τ ρ
 | 0,_,_,_,_,_,_,_=>none
 | k+1,n,c,E,L,T,nid,K=>match c with
  | .skip=>K .no E L T nid
  | .region _ ⟨l⟩ d=>bc d (zzY (opZ X Z (inZ X Z k)) n l 0 l [] E L T nid (K .no)) (opsZ (opZ X Z (inZ X Z k)) n l l E L T nid (K .no))
  | .seq x y=>inZ X Z k n x E L T nid fun e E L T nid=>match e with
   | .no=>inZ X Z k n y E L T nid K
   | e=>K e E L T nid
  | .cond c x y=>match evC E c with
   | some (.k b)=>bc b (inZ X Z k n x E L T nid K) (inZ X Z k n y E L T nid K)
   | some (.b b)=>match c with
    | .tmp s=>if b=true then inZ X Z k n x ((s,.c (.k true))::E) L T nid K else inZ X Z k n y ((s,.c (.k false))::E) L T nid K
    | _=>none
   | _=>none
  | .block id c=>inZ X Z k n c E L T nid fun e E L T nid=>match e with
   | .ex i=>bc (Nat.beq i id) (K .no E L T nid) (K (.ex i) E L T nid)
   | e=>K e E L T nid
  | .loop c=>inZ X Z k n c E L T nid fun e E L T nid=>match e with
   | .no=>nfE [] E fun E=>inZ X Z k n (.loop c) E L T nid K
   | e=>K e E L T nid
  | .exit id=>K (.ex id) E L T nid
  | .ret=>K .rt E L T nid
  | _=>none
def zrun (X:Cx τ) (Z:Zx X) (k:Nat) (f:FuncId) (avs:List (XV τ)):Option Bool:=inl X Z (inZ X Z k) [] 0 (fun v _ _ _ _=>match v with
 | .c (.b b)=>some b
 | .c (.k b)=>some b
 | _=>none) f avs []
end
end Go.Rk
end
section
namespace Go.Rk
open Go.RowKit Go.Dm Go.Dk
variable {τ:Nat→Type}
variable {T:List Nat} {e:Ex}
section
variable {ρ:Type} {X:Cx τ} {w0 w w':World} {h0 h h' H:Fz} {F:List Nat} {E E' Eb:zad τ} {L L2:Hp τ} {ν ν':Vn τ} {φ φ':Nat→List Nat} {nid nid':Nat} {r:ρ} {a:Act}
theorem zN2 {α:Type} (n:Nat) (k:Nat→α):frN n k=k n:=by cases n<;>rfl
def OkC (X:Cx τ) (w0:World) (h0:Fz) (F:List Nat) (W:(Exit→Act→World→Prop)→Act→World→Prop) (E:zad τ) (L:Hp τ) (nid:Nat) (e:Ex) (f:zad τ) (U:Hp τ) (T:List Nat) (b:Nat):Prop :=
 ∀(d:Hp τ) (ν:Vn τ) (h:Fz) (φ:Nat→List Nat) (a:Act) (w:World) (Q:Exit→Act→World→Prop),a.defers=[]→a.tmps.size=X.n→Mem X.P X.G w0 h0 F d w ν h φ→zcs X h ν a E →
  (∀i∈T,lk d i=lk L i)→(∀i,nid≤i→i<b→ν i=none) →
  (∀ν' h' φ' c w',c.defers=[]→c.tmps.size=X.n→Mem X.P X.G w0 h0 F (U++d) w' ν' h' φ'→ν.le ν'→h.le h'→zdF ν ν' nid b→zcs X h' ν' c f→Q (exT e) c w')→W Q a w
theorem zEw {U L a:Hp τ} {i:Nat} (h:lk a i=lk L i):lk (U++a) i=lk (U++L) i:=by
 by_cases hi:i∈kys U
 ·rw [zhl _ hi,zhl _ hi]
 ·rw [zda _ hi,zda _ hi,h]
theorem zGT {a b c:Nat} (d:zdF ν ν' a b) (hn:∀i,a≤i→i<c→ν i=none) (f:a≤b):∀i,b≤i→i<c→ν' i=none:=by
 intro i h1 h2
 cases e:ν' i with
 | none=>rfl
 | some y =>
  have:=d i (hn i (by omega) h2) (by rw [e]; simp);omega
theorem zDj {ν'':Vn τ} {a b c:Nat} (h1:zdF ν ν' a b) (h2:zdF ν' ν'' b c) (e:a≤b) (d:b≤c):zdF ν ν'' a c:=h1.trans h2 e d
theorem OkC.seq {W x D:(Exit→Act→World→Prop)→Act→World→Prop} {v G:zad τ} {k A:Hp τ} {B z:List Nat} {l p:Nat} (h1:OkC X w0 h0 F x E L nid .no v k B l) (h2:OkC X w0 h0 F D v (k++L) l e G A z p) (H:nid≤l) (I:l≤p)
  (N:∀Q a w,x (Exit.then (D Q) Q) a w→W Q a w):OkC X w0 h0 F W E L nid e G (A++k) (z++B) p:=by
 intro C ν h φ a w Q hd K M P y hn R;refine N Q a w (h1 C ν h φ a w _ hd K M P (fun i hi=>y i (List.mem_append_right _ hi)) (fun i a b=>hn i a (by omega)) fun ν' h' φ' J w' r m O hν S f s=>?_);refine h2 (k++C) ν' h' φ' J w' Q r m O s (fun i hi=>zEw (y i (List.mem_append_left _ hi))) (zGT f hn H) fun ν'' o φ'' t n c j u hν' q g d=>?_;exact R ν'' o φ'' t n c j (by rw [List.append_assoc]; exact u) (hν.trans hν') (S.trans q) (zDj f g H I) d
theorem OkC.out {W k:(Exit→Act→World→Prop)→Act→World→Prop} {j:zad τ} {n:Hp τ} {m:List Nat} {o:Nat} {e l:Ex} (h1:OkC X w0 h0 F k E L nid e j n m o)
  (y:∀Q a w,(∀c,(∀b w',Q (exT l) b w'→c (exT e) b w')→k c a w)→W Q a w):OkC X w0 h0 F W E L nid l j n m o:=by
 intro t ν h φ a w Q hd q M u p hn v;exact y Q a w fun c r=>h1 t ν h φ a w c hd q M u p hn fun ν' h' φ' b w' g d s hν x f i=>r b w' (v ν' h' φ' b w' g d s hν x f i)
theorem OkC.nil {W:(Exit→Act→World→Prop)→Act→World→Prop} (f:∀Q a w,Q (exT e) a w→W Q a w):OkC X w0 h0 F W E L nid e E [] [] nid :=
 fun _ ν h φ a w Q hd b M d _ _ c=>f Q a w (c ν h φ a w hd b M (Vn.le.refl _) (Fz.le.refl _) (zdF.refl _ _ _) d)
theorem OkC.ref {W:(Exit→Act→World→Prop)→Act→World→Prop} {b:zad τ} {U:Hp τ} (g:Ref E E') (h1:OkC X w0 h0 F W E' L nid e b U T nid'):OkC X w0 h0 F W E L nid e b U T nid' :=
 fun d ν h φ a w Q hd c M f=>h1 d ν h φ a w Q hd c M (g.env f)
theorem zEx {op:OpF τ ρ} (f:zwc X w0 h0 F op) (G:X.n≤gh) {all:List Oper}:∀{l:List Oper} {E:zad τ} {L:Hp τ} {H:List Nat} {nid:Nat} {K:zad τ→Hp τ→List Nat→Nat→Option ρ},opsZ op X.n all l E L H nid K=some r →
  ∃k U T c,K k (U++L) (T++H) c=some r∧nid≤c∧OkC X w0 h0 F (fun Q a w=>wpList X.P all.toArray Q l a w) E L nid .no k U T c
 | [],E,L,H,nid,K,e=>⟨E,[],[],nid,e,Nat.le_refl _,OkC.nil fun Q a w h=>h⟩
 | o::l,E,L,H,nid,K,e=>by
  unfold opsZ at e;obtain ⟨hd,e⟩:=zhi e;obtain ⟨m,E1,e,hr,hw⟩:=zty e
  cases m with
  | false =>
   simp only [Bool.false_eq_true,if_false] at e;rw [zEC] at e;obtain ⟨k,U,T,R,Y,W,I⟩:=zEx f G e;refine ⟨k,U,T,R,Y,W,fun D ν h φ a w Q d s M j C hn hQ=>?_⟩;have b:=hw X h ν a o rfl (j.on _);show wpList X.P all.toArray Q (o::l) a w;unfold wpList;rw [b];simp only [Bool.false_eq_true,if_false];refine I D ν h φ _ w Q (by rw [ztA]; exact d) (by rw [zpY]; exact s) M ?_ C hn hQ;exact ztz G hd s (fun _ h=>by cases h) rfl fun t x e _=>hr.env j t x e
  | true =>
   simp only [if_true] at e;obtain ⟨v,g,U1,J,n1,V,p,hg,Z⟩:=f _ _ _ _ _ _ e;simp only [zN2] at V;simp only [zwg,ap_eq] at V;obtain ⟨k,U,T,R,Y,W,I⟩:=zEx f G V;refine ⟨k,U++U1,T++J,R,by rw [List.append_assoc,List.append_assoc]; exact Y,by omega,fun D ν h φ a w Q d s M j C hn hQ=>?_⟩;have b:=hw X h ν a o rfl (j.on _);show wpList X.P all.toArray Q (o::l) a w;unfold wpList;rw [b];simp only [if_true]
   left
   refine Z D ν h φ a w _ Q d M ((hr.env j).on _) (fun i hi=>C i (List.mem_append_right _ hi)) (fun i h1 h2=>hn i h1 (by omega)) fun ν' h' φ' w' u M' hν hh z hv=>?_;refine I (U1++D) ν' h' φ' _ w' Q (by rw [ztA]; exact d) (by rw [zpY]; exact s) M' (ztz G hd s hg hv fun t x e _=>((hr.env j).le hh hν) t x e) (fun i hi=>zEw (C i (List.mem_append_left _ hi))) (zGT z hn p) fun ν'' O φ'' a'' N q B M'' hν' S A y=>?_;exact hQ ν'' O φ'' a'' N q B (by rw [List.append_assoc]; exact M'') (hν.trans hν') (hh.trans S) (zDj z A p W) y
theorem zI0 {op:OpF τ ρ} (u:zwc X w0 h0 F op) {all:List Oper} {K:zad τ→Hp τ→List Nat→Nat→Option ρ}:∀{l:List Oper} {i:Nat} {R:List Dr} {E z:zad τ} {L:Hp τ} {C:List Nat} {nid:Nat},zzY op X.n all i l R E L C nid K=some r→Ref z E →
  ∃s d x b w T,zuA X w0 h0 F all l z L nid s d x b∧Ref d w∧zvc all ((drs all i s).reverse++R)=true∧K w x (T++C) b=some r∧∀q∈s,q.run=true→∀k∈q.t,k∈T
 | [],i,R,E,z,L,C,nid,e,A=>by
  unfold zzY at e;obtain ⟨h1,e⟩:=zhi e;exact ⟨[],z,L,nid,E,[],⟨rfl,rfl,rfl⟩,A,h1,e,fun q j=>by cases j⟩
 | o::l,i,R,E,z,L,C,nid,e,A=>by
  unfold zzY at e;obtain ⟨hd,e⟩:=zhi e;obtain ⟨m,O,e,I,P⟩:=zty e;have p:=A.trans I;have f:∀(h:Fz) (ν:Vn τ) (a:Act),zew X h ν a (gdR all o.guard) E→Region.wanted o (yielded all.toArray a.tmps)=m:=fun h ν a=>P X h ν a o rfl
  cases m with
  | false =>
   simp only [Bool.false_eq_true,if_false] at e;rw [zEC] at e;obtain ⟨s,d,x,b,w,T,h1,h2,D,H,N⟩:=zI0 u e (p.app _);refine ⟨⟨o,E,O,L,nid,nid,.un,[],[],[],[],false⟩::s,d,x,b,w,T,⟨rfl,rfl,rfl,⟨A,p,Nat.le_refl _,hd,f,(fun _ h=>by cases h),fun _=>⟨rfl,rfl⟩,fun h=>by cases h⟩,h1⟩,h2,?_,H,fun q j c k B=>?_⟩
   ·simpa [drs,kys] using D
   ·rcases List.mem_cons.1 j with rfl|j
    ·cases c
    ·exact N q j c k B
  | true =>
   simp only [if_true] at e;obtain ⟨v,g,U,y,S,J,G,Q,M⟩:=u _ _ _ _ _ _ e;simp only [zN2] at J;simp only [zwg,ap_eq] at J;obtain ⟨s,d,x,b,w,T,h1,h2,D,H,N⟩:=zI0 u J (p.app _);refine ⟨⟨o,E,O,L,nid,S,v,g,l,U,y,true⟩::s,d,x,b,w,T++y,⟨rfl,rfl,rfl,⟨A,p,G,hd,f,Q,(fun h=>by cases h),fun _=>M⟩,h1⟩,h2,?_,by rw [List.append_assoc]; exact H,fun q j c k B=>?_⟩
   ·simpa [drs] using D
   ·rcases List.mem_cons.1 j with rfl|j
    ·exact List.mem_append_right _ B
    ·exact List.mem_append_left _ (N q j c k B)
theorem zN3 (y:X.P.follows .mixedOrders=true) (B:X.n≤gh) {op:OpF τ ρ} (i:zwc X w0 h0 F op) {id:Nat} {l:List Oper} {m:List Nat} {K:zad τ→Hp τ→List Nat→Nat→Option ρ} (e:zzY op X.n l 0 l [] E L m nid K=some r) :
  ∃o U T b,K o (U++L) (T++m) b=some r∧nid≤b∧OkC X w0 h0 F (fun Q a w=>(Code.region id l.toArray true).wp X.P Q a w) E L nid .no o U T b:=by
 obtain ⟨s,x,D,c,u,T,d,k,j,f,g⟩:=zI0 i e (Ref.refl E);obtain ⟨v,_,_,A,_,_⟩:=zuA.get 0 d;refine ⟨u,zlb Rec.U s 0 (fun _=>true) [],T,c,by rw [← zsD, ← A]; exact f,v,fun C ν h φ a w Q hd q M t p hn z=>?_⟩;exact zDc y B d k j g hd q M t p hn z
theorem zI1:∀{E:zad τ} {sn:List Nat} {K:zad τ→Option ρ},nfE sn E K=some r→∃b,K b=some r∧∀t x,asc b t=some x→asc E t=some x∧t∉sn
 | [],sn,K,e=>⟨[],e,fun t x h=>by cases h⟩
 | (t,v)::E,sn,K,e=>by
  unfold nfE at e
  cases hm:mem sn t with
  | true =>
   rw [hm] at e;obtain ⟨b,h1,h2⟩:=zI1 (K:=K) (sn:=sn) e;refine ⟨b,h1,fun t' x a=>?_⟩;obtain ⟨d,c⟩:=h2 t' x a;refine ⟨?_,c⟩;have:Nat.beq t t'=false:=zcx.2 fun e=>c (e▸zeS.1 hm);simp only [zdG,zcl,this,cond_false]; exact d
  | false =>
   rw [hm] at e;obtain ⟨b,h1,h2⟩:=zI1 (K:=fun E=>K ((t,v)::E)) (sn:=t::sn) e;refine ⟨_,h1,fun t' x a=>?_⟩;simp only [zdG,zcl] at a ⊢
   cases hb:Nat.beq t t' with
   | true =>
    rw [hb] at a
    have:t=t':=by simpa using hb
    subst this;exact ⟨a,fun h=>by rw [zeS.2 h] at hm; cases hm⟩
   | false =>
    rw [hb] at a;obtain ⟨d,c⟩:=h2 t' x a;exact ⟨d,fun h=>c (List.mem_cons_of_mem _ h)⟩
theorem zEy {n:Nat} {h:Fz} {ν:Vn τ} {a:Act} {E:zad τ}:zcs (X.wn n) h ν a E↔zcs X h ν a E:=Iff.rfl
def Wm (P:Program) (m:Nat):Code→(Exit→Act→World→Prop)→Act→World→Prop
 | .loop c,Q,a,w=>Code.rounds P c Q m a w
 | c,Q,a,w=>c.wp P Q a w
theorem Wm_wp {P:Program} {m:Nat} {c:Code} {Q:Exit→Act→World→Prop} {a:Act} {w:World} (h:Wm P m c Q a w):c.wp P Q a w:=by
 cases c with
 | loop c=>exact wp_loop_rounds m h
 | _=>exact h
theorem OkC.wp {m:Nat} {c:Code} {b:zad τ} {U:Hp τ} (h1:OkC X w0 h0 F (Wm X.P m c) E L nid e b U T nid'):OkC X w0 h0 F (fun Q a w=>c.wp X.P Q a w) E L nid e b U T nid' :=
 fun g ν h φ a w Q hd f M i d hn j=>Wm_wp (h1 g ν h φ a w Q hd f M i d hn j)
def InOk (X:Cx τ) (w0:World) (h0:Fz) (F:List Nat) (f:InF τ ρ):Prop:=∀(r:ρ) (n:Nat) (c:Code) (E:zad τ) (L:Hp τ) (b:List Nat) (nid:Nat) (K:Kz τ ρ),n≤gh→f n c E L b nid K=some r →
 ∃e d U T a m,K e d (U++L) (T++b) a=some r∧nid≤a∧OkC (X.wn n) w0 h0 F (Wm X.P m c) E L nid e d U T a
theorem zEz {lo hi:Nat}:∀{U:Hp τ} {sn:List Nat} {L:Hp τ},(∀k,lo≤k→k<hi→lk L k = .gone)→∀k,k∉sn→lk (cmU lo hi sn U++L) k=lk (U++L) k
 | [],_,_,_,_,_=>rfl
 | (j,v) :: U,sn,L,f,k,d=>by
  have skip:lk ((j,v)::U++L) k=bif Nat.beq j k then v else lk (U++L) k:=zm6 ..
  have b:∀(u:AR τ),lk ((j,u)::cmU lo hi (j::sn) U++L) k=bif Nat.beq j k then u else lk (U++L) k:=by
   intro u;rw [List.cons_append,zm6]
   cases hb:Nat.beq j k with
   | true=>rfl
   | false =>
    have a:¬ j=k:=zcx.1 hb
    exact zEz f k fun h=>by
     rcases List.mem_cons.1 h with h|h
     ·exact a h.symm
     ·exact d h
  rw [skip];unfold cmU
  cases hm:mem sn j with
  | true =>
   have a:Nat.beq j k=false:=zcx.2 fun e=>d (e▸zeS.1 hm);rw [a];exact zEz f k d
  | false =>
   simp only [cond_false]
   split
   ·cases hb:(Nat.ble lo j&&Nat.blt j hi) with
    | false=>exact b .gone
    | true =>
     simp only [cond_true]
     cases hjk:Nat.beq j k with
     | true =>
      have:j=k:=by simpa using hjk
      subst this;simp only [Bool.and_eq_true,Nat.ble_eq,Nat.blt_eq] at hb
      have l:∀(U:Hp τ) (sn:List Nat),j∈sn→j∉kys (cmU lo hi sn U):=by
       intro U
       induction U with
       | nil=>intro sn _ h; cases h
       | cons p U g =>
        obtain ⟨i,v⟩:=p;intro sn c;unfold cmU
        cases hmi:mem sn i with
        | true=>exact g sn c
        | false =>
         simp only [cond_false]
         have a:¬ j=i:=fun e=>by rw [← e,zeS.2 c] at hmi; cases hmi
         split
         ·cases (Nat.ble lo i&&Nat.blt i hi) with
          | true=>exact g _ (List.mem_cons_of_mem _ c)
          | false =>
           intro h
           rcases List.mem_cons.1 h with h|h
           ·exact a h
           ·exact g _ (List.mem_cons_of_mem _ c) h
         ·intro h
          rcases List.mem_cons.1 h with h|h
          ·exact a h
          ·exact g _ (List.mem_cons_of_mem _ c) h
      rw [zda _ (l U (j::sn) (List.mem_cons_self ..)),f j hb.1 hb.2]; rfl
     | false =>
      have a:¬ j=k:=zcx.1 hjk
      exact zEz f k fun h=>by
       rcases List.mem_cons.1 h with h|h
       ·exact a h.symm
       ·exact d h
   ·exact b _
theorem zI2 {lo hi:Nat}:∀{T:List Nat} {sn:List Nat} {t:Nat},t∈T→t∈sn∨(lo≤t∧t<hi)∨t∈dd lo hi sn T
 | [],_,_,h=>by cases h
 | s :: T,sn,t,h=>by
  unfold dd
  cases a:(mem sn s||(Nat.ble lo s&&Nat.blt s hi)) with
  | true =>
   simp only [cond_true]
   rcases List.mem_cons.1 h with rfl|h
   ·rw [Bool.or_eq_true,Bool.and_eq_true] at a
    rcases a with a|a
    ·exact .inl (zeS.1 a)
    ·exact .inr (.inl (by simpa using a))
   ·exact zI2 h
  | false =>
   simp only [cond_false]
   rcases List.mem_cons.1 h with rfl|h
   ·exact .inr (.inr (List.mem_cons_self ..))
   ·rcases zI2 (sn:=s::sn) h with h1|h1|h1
    ·rcases List.mem_cons.1 h1 with rfl|h1
     ·exact .inr (.inr (List.mem_cons_self ..))
     ·exact .inl h1
    ·exact .inr (.inl h1)
    ·exact .inr (.inr (List.mem_cons_of_mem _ h1))
theorem zN4 {lo hi:Nat} (h:∀i∈cmT lo hi L T,lk L2 i=lk L i) (d:∀i,lo≤i→i<hi→lk L2 i = .gone):∀i∈T,lk L2 i=lk L i:=by
 intro i a;unfold cmT at h
 cases b:(zCz L fun p=>Nat.blt p.1 lo) with
 | false=>rw [b] at h; exact h i a
 | true =>
  rw [b] at h;have h:∀i∈ddb lo hi 0 T,lk L2 i=lk L i:=h;rw [zIL Bsr.nil] at h
  rcases zI2 (lo:=lo) (hi:=hi) (sn:=[]) a with h1|⟨h1,h2⟩|h1
  ·cases h1
  ·rw [d i h1 h2]
   have:i∉kys L:=fun e=>by
    obtain ⟨p,hp,rfl⟩:=List.mem_map.1 e;have:=List.all_eq_true.1 (zzx _ _▸b) p hp;rw [Nat.blt_eq] at this; omega
   have c:=zda (U:=L) [] this;rw [List.append_nil] at c;rw [c]; rfl
  ·exact h i h1
theorem zGU:∀{avs:List (XV τ)} {i t:Nat} {A:XV τ},asc (argE i avs) t=some A→i≤t∧avs[t-i]? = some A
 | [],_,_,_,h=>by cases h
 | v::vs,i,t,A,h=>by
  simp only [argE,zdG,zcl] at h
  cases hb:Nat.beq i t with
  | true =>
   rw [hb] at h
   have:i=t:=by simpa using hb
   subst this;cases h;exact ⟨Nat.le_refl _,by simp⟩
  | false =>
   rw [hb] at h;have a:¬ i=t:=zcx.1 hb;obtain ⟨h1,h2⟩:=zGU h;refine ⟨by omega,?_⟩;rw [show t-i=(t-(i+1))+1 by omega]; exact h2
def zDk (X:Cx τ) (w0:World) (h0:Fz) (F:List Nat) (f:FuncId) (avs:List (XV τ)) (L:Hp τ) (nid:Nat) (v:XV τ) (U:Hp τ) (T:List Nat) (a:Nat):Prop :=
 zfd X.P f∧∀(b:Hp τ) (ν:Vn τ) (h:Fz) (φ:Nat→List Nat) (w:World) (vals:List Value),Mem X.P X.G w0 h0 F b w ν h φ→vals.length=avs.length→(∀(i:Nat) (A:XV τ) (u:Value),avs[i]? = some A→vals[i]? = some u→XOk X.P X.G h ν A u) →
  (∀i∈T,lk b i=lk L i)→(∀i,nid≤i→i<a→ν i=none) →
  Calls X.P f vals.toArray w fun e w'=>∃u ν' h' φ',e = .returned u∧Mem X.P X.G w0 h0 F (U++b) w' ν' h' φ'∧ν.le ν'∧h.le h'∧zdF ν ν' nid a∧XOk X.P X.G h' ν' v u
theorem zva {a:Hp τ} {E:zad τ}:∀{rv:List ResultVar},(∀i∈zCq E rv,lk a i=lk L i)→zsV X E a rv=zsV X E L rv
 | [],_=>rfl
 | .tmp t::rv,h=>by
  unfold zsV;rw [zva (rv:=rv) h]
 | .cell t ty::rv,h=>by
  unfold zCq at h;unfold zsV
  split
  ·rename_i id b
   rw [b] at h;have h:∀i∈id::zCq E rv,lk a i=lk L i:=h;rw [h id (List.mem_cons_self ..),zva (rv:=rv) fun i hi=>h i (List.mem_cons_of_mem _ hi)]
  ·rfl
theorem zKB:∀{xs:List (XV τ)} {vs:List Value},vs.length=xs.length→(∀(i:Nat) (A:XV τ) (v:Value),xs[i]? = some A→vs[i]? = some v→XOk X.P X.G h ν A v)→zGD X.P X.G h ν xs vs
 | [],vs,a,_=>List.eq_nil_of_length_eq_zero a
 | x::xs,[],a,_=>by simp at a
 | x::xs,v::vs,a,b=>⟨v,vs,rfl,b 0 x v rfl rfl,zKB (by simpa using a) fun i A u h1 h2=>b (i+1) A u h1 h2⟩
theorem gvB_eq {x:XV τ}:gvB x=zke x:=by cases x<;>rfl
theorem zI3 (hNm:∀(f:FuncId) (fn:Func),X.P.funcs[f]? = some fn→(fn.name == "runtime.NumGoroutine")=false) {Z:Zx X} {ih:InF τ ρ} (R:InOk X w0 h0 F ih) {K:Nx τ ρ} {f:FuncId} {avs:List (XV τ)} {A:List Nat} (e:inl X Z ih L nid K f avs A=some r) :
  ∃v U T a,K v [] U T a=some r∧nid≤a∧zDk X w0 h0 F f avs L nid v U T a∧∀{b:Hp τ},(∀i∈T,lk b i=lk L i)→(∀i,nid≤i→i<a→lk b i = .gone)→∀i∈A,lk b i=lk L i:=by
 unfold inl at e
 split at e
 ·rename_i s hs
  have I:=(zhi e).2;have Y:=(zhi e).1
  clear e
  obtain ⟨f',fn,z⟩:=s;have:f=f':=(show f'=f by simpa using Y).symm;subst this;dsimp only at I
  split at I
  ·rename_i c hc
   obtain ⟨hb,e⟩:=zhi I;simp only [Bool.and_eq_true,Nat.ble_eq] at hb;obtain ⟨ex,p,U,T,g,m,e,O,Q⟩:=R _ _ _ _ _ _ _ _ hb.2 e
   have main:∀{xs:List (XV τ)} {v:XV τ},(∀i,ex ≠ .ex i)→zsV X p (U++L) fn.results.toList=some xs→xs.any gvB=false→zCB xs=some v→zDk X w0 h0 F f avs L nid v (zzZ nid g 0 ((U++L).take ((U++L).length-L.length))) (cmT nid g L (zCq p fn.results.toList++(T++A))) g:=by
    intro xs v hex H d n;refine ⟨⟨fn,z,by rw [hc]; rfl,hNm f fn z⟩,fun b ν h φ w vals M hlen q S hn=>?_⟩
    have B:(U++L).take ((U++L).length-L.length)=U:=by
     rw [List.length_append,Nat.add_sub_cancel]; exact List.take_left
    rw [B];have l:∀i,nid≤i→i<g→lk b i = .gone:=fun i h1 h2=>M.gone_of (hn i h1 h2);have D:=zN4 S l;refine calls_of_wp z hc ?_
    have N:(vals.toArray++Array.replicate (fn.ntmps-vals.toArray.size) undef).size=fn.ntmps:=by simp; omega
    refine Wm_wp (Q b ν h φ ⟨vals.toArray++Array.replicate (fn.ntmps-vals.toArray.size) undef,[]⟩ w _ rfl N M ?_ (fun i hi=>D i (List.mem_append_right _ (List.mem_append_left _ hi))) hn ?_)
    ·refine zcs.app (X:=X) (fun t x hx=>?_) (zJV M.gl fun _ _=>trivial);obtain ⟨_,h2⟩:=zGU hx;rw [Nat.sub_zero] at h2;have hlt:t<avs.length:=(List.getElem?_eq_some_iff.1 h2).1;have hv:vals[t]? = some vals[t]:=List.getElem?_eq_getElem (by omega)
     have hgh:t<gh:=by omega
     refine ⟨vals[t],q t x _ h2 hv,fun _ _=>?_,fun h=>?_,fun h=>?_⟩
     ·show (vals.toArray++Array.replicate (fn.ntmps-vals.toArray.size) undef)[t]? = _;rw [Array.getElem?_append_left (by simp; omega)];simp
     ·exfalso; unfold gb gh at *; omega
     ·exfalso; omega
    ·intro ν' h' φ' a' w' C hs' M' hν hh V W
     have E:∀y∈xs,zke y=false:=fun y hy=>by
      rw [← gvB_eq]
      cases J:gvB y with
      | false=>rfl
      | true=>rw [List.any_eq_true.2 ⟨y,hy,J⟩] at d; cases d
     have ho2:zsV X p (U++b) fn.results.toList=some xs:=by
      rw [zva (L:=U++L) fun i hi=>zEw (D i (List.mem_append_left _ hi))]; exact H
     obtain ⟨vs,o1,o2,o3,o4⟩:=zzs (X:=X) M' W ho2 E;have o:=zyc (X:=X) (w:=w') (fn:=fn) (rv:=fn.results.toList) (tmps:=a'.tmps) rfl o1 o3
     have j:∃u ν2 h2 φ2,Ending.returned (zz5 vs) = .returned u∧Mem X.P X.G w0 h0 F (zzZ nid g 0 U++b) w' ν2 h2 φ2∧ν.le ν2∧h.le h2∧zdF ν ν2 nid g∧XOk X.P X.G h2 ν2 v u :=
      ⟨_, ν',h', φ',rfl,M'.congr fun k=>by rw [zEa Bsr.nil]; exact zEz l k (by simp),hν,hh,V,zKo n (zKB o2 o4)⟩
     cases ex with
     | no=>exact ⟨C,_,o,j⟩
     | rt=>exact ⟨C,_,o,j⟩
     | ex i=>exact (hex i rfl).elim
   have done:∀{xs:List (XV τ)} {v:XV τ},(∀i,ex ≠ .ex i)→zsV X p (U++L) fn.results.toList=some xs→xs.any gvB=false→zCB xs=some v→K v [] (zzZ nid g 0 ((U++L).take ((U++L).length-L.length))) (cmT nid g L (zCq p fn.results.toList++(T++A))) g=some r →
     ∃v U T a,K v [] U T a=some r∧nid≤a∧zDk X w0 h0 F f avs L nid v U T a∧∀{b:Hp τ},(∀i∈T,lk b i=lk L i)→(∀i,nid≤i→i<a→lk b i = .gone)→∀i∈A,lk b i=lk L i :=
    fun hex H d n e=>⟨_,_,_,_,e,O,main hex H d n,fun S J i hi=>zN4 S J i (List.mem_append_right _ (List.mem_append_right _ hi))⟩
   have go:(∀i,ex ≠ .ex i)→(match zsV X p (U++L) fn.results.toList with
     | some vs=>bc (vs.any gvB) none (match zCB vs with
      | some v=>K v [] (zzZ nid g 0 ((U++L).take ((U++L).length-L.length))) (cmT nid g L (zCq p fn.results.toList++(T++A))) g
      | none=>none)
     | none=>none)=some r→∃v U T a,K v [] U T a=some r∧nid≤a∧zDk X w0 h0 F f avs L nid v U T a∧∀{b:Hp τ},(∀i∈T,lk b i=lk L i)→(∀i,nid≤i→i<a→lk b i = .gone)→∀i∈A,lk b i=lk L i:=by
    intro hex e
    split at e
    ·rename_i xs H
     obtain ⟨d,e⟩:=bc_f e
     split at e
     ·rename_i v n
      exact done hex H d n e
     ·cases e
    ·cases e
   cases ex with
   | ex i=>cases e
   | no=>exact go (fun i h=>by cases h) e
   | rt=>exact go (fun i h=>by cases h) e
  ·cases I
 ·cases e
end
end Go.Rk
end
section
namespace Go.Rk
open Go.RowKit Go.Dm Go.Dk
variable {τ:Nat→Type}
variable {args:List Operand} {ats:Array TypeId}
section
variable {ρ:Type} {X:Cx τ} {w0 w w':World} {h0 h h' H:Fz} {F:List Nat} {o:Oper} {E:zad τ} {L L2:Hp τ} {ν ν':Vn τ} {φ φ':Nat→List Nat} {nid nid':Nat} {K:Nx τ ρ} {r:ρ} {v:XV τ} {U:Hp τ} {tch:List Nat} {g:List (XV τ)}
variable {a:Act} {x y z:Operand} {t' t ty u':Nat} {dst:Option Nat} {p:String} {af:Array Edge} {gd:Option (Nat × Bool)}
theorem zLC {f:Nat} {avs:List (XV τ)} {T:List Nat} (hx:evC E x=some (.fn f)) (hargs:zvb E args=some avs) (k:K v [] U T nid'=some r) (hle:nid≤nid') (hi:zDk X w0 h0 F f avs L nid v U T nid') :
  zdu X w0 h0 F ⟨dst,.call ⟨.value x,⟨args⟩,ats⟩,t,p,af,gd⟩ E L nid K r:=by
 refine ⟨_,_,_,_,_,k,hle,(fun _ h=>by cases h),fun L2 ν h φ a w next Q hd M hE ha hfr kk=>?_⟩;obtain ⟨hlen,hidx⟩:=zw3 hargs
 have hvs:∀(i:Nat) (A:XV τ) (v:Value),avs[i]? = some A→(args.map a.eval)[i]? = some v→XOk X.P X.G h ν A v:=by
  intro i A v hA hv;obtain ⟨z,hz,hzA⟩:=hidx i A hA;rw [List.getElem?_map,hz] at hv;cases hv;exact zrK hd (hE.op (by simp only [Op.operands,Call.operands]; simp; exact .inr (List.mem_of_getElem? hz))) hzA
 have hcalls:=hi.2 L2 ν h φ w (args.map a.eval) M (by simp [hlen]) hvs ha hfr;obtain ⟨Ea,hf,hl'⟩:=zd4 a hd;obtain ⟨vx,g1,g2⟩:=zB hl' (hE.op (by simp [Op.operands,Call.operands])) hx;obtain rfl:vx=_:=g2;have hexec:=zBv (X:=X) (w:=w) (dst:=dst) (t:=t) (p:=p) (af:=af) (gd:=gd) (ats:=ats) (args:=⟨args⟩) (vs:=args.map a.eval) hi.1 (hf.ev g1) (by simp);unfold Oper.wp;rw [hexec];refine Calls.mono hcalls ?_;rintro e1 w' ⟨u, ν',h', φ',rfl,M',hν,hh,hfr',hv⟩;exact kk ν' h' φ' w' u M' hν hh hfr' hv
theorem CVs.getl:∀{cs:List (CV τ)} {vs:List Value},CVs X.P X.G h ν cs vs→vs.length=cs.length∧∀(i:Nat) (c:CV τ) (v:Value),cs[i]? = some c→vs[i]? = some v→zc9 X.P X.G h ν c v
 | [],vs,e=>by cases e; exact ⟨rfl,fun i c v h=>by simp at h⟩
 | c::cs,_,⟨u,us,rfl,h1,h2⟩=>by
  obtain ⟨b,f⟩:=CVs.getl h2;refine ⟨by simp [b],fun i d v hc a=>?_⟩
  cases i with
  | zero=>simp at hc a; subst hc; subst a; exact h1
  | succ i=>exact f i d v (by simpa using hc) (by simpa using a)
theorem zG5 {f id:Nat} {avs:List (XV τ)} {bs cs:List (CV τ)} (P:evC E x=some (.cf id)) (C:lk L id = .clo f bs cs) (k:zvb E args=some avs) :
  Entr X w0 h0 F E L [id] ⟨dst,.call ⟨.value x,⟨args⟩,ats⟩,t,p,af,gd⟩ f (bs.map .c++(avs++cs.map .c)):=fun U ν h φ a w hd M G R j=>by
 obtain ⟨e,l⟩:=zw3 k;obtain ⟨W,S,u⟩:=zd4 a hd;obtain ⟨T,O,N⟩:=zB u (G.op (by simp [Op.operands,Call.operands])) P;obtain ⟨f',m,n,q,J,rfl⟩:=N;have g:=M.res id;rw [R id (List.mem_singleton.2 rfl),C] at g;obtain ⟨us,vs,V,D,_,Q,K⟩:=g;rw [J] at D;cases D;obtain ⟨o,s⟩:=CVs.getl Q;obtain ⟨y,r⟩:=CVs.getl K;refine ⟨m++(args.map a.eval++n),by simp [e,y,o],fun i A v d b=>?_,zBw (X:=X) (w:=w) (dst:=dst) (t:=t) (p:=p) (af:=af) (gd:=gd) (ats:=ats) (args:=⟨args⟩) (us:=m) (vs:=args.map a.eval) (cs:=n) j (S.ev O) (by simp)⟩
 by_cases I:i<bs.length
 ·rw [List.getElem?_append_left (by simpa using I),List.getElem?_map] at d;rw [List.getElem?_append_left (by omega)] at b;obtain ⟨c,hc,rfl⟩:=Option.map_eq_some_iff.1 d;exact s _ c v hc b
 rw [List.getElem?_append_right (by simp; omega)] at d;rw [List.getElem?_append_right (by omega)] at b;simp only [List.length_map] at d;rw [o] at b
 by_cases hi:i-bs.length<avs.length
 ·rw [List.getElem?_append_left hi] at d;rw [List.getElem?_append_left (by simp; omega)] at b;obtain ⟨z,H,B⟩:=l _ A d;rw [List.getElem?_map,H] at b;cases b;exact zrK hd (G.op (by simp only [Op.operands,Call.operands]; simp; exact .inr (List.mem_of_getElem? H))) B
 ·rw [List.getElem?_append_right (by omega),List.getElem?_map] at d;rw [List.getElem?_append_right (by simp; omega)] at b;obtain ⟨c,hc,rfl⟩:=Option.map_eq_some_iff.1 d;simp only [List.length_map] at b;rw [← e] at b;exact r _ c v hc b
theorem zJe {f id:Nat} {avs:List (XV τ)} {bs cs:List (CV τ)} {T:List Nat} (hx:evC E x=some (.cf id)) (hlk:lk L id = .clo f bs cs) (hargs:zvb E args=some avs) (k:K v [] U T nid'=some r) (hle:nid≤nid') (hi:zDk X w0 h0 F f (bs.map .c++(avs++cs.map .c)) L nid v U T nid')
  (hT:∀{L2:Hp τ},(∀i∈T,lk L2 i=lk L i)→(∀i,nid≤i→i<nid'→lk L2 i = .gone)→∀i∈[id],lk L2 i=lk L i) :
  zdu X w0 h0 F ⟨dst,.call ⟨.value x,⟨args⟩,ats⟩,t,p,af,gd⟩ E L nid K r:=by
 refine ⟨_,_,_,_,_,k,hle,(fun _ h=>by cases h),fun L2 ν h φ a w next Q hd M hE ha hfr kk=>?_⟩;obtain ⟨vals,h1,h2,hexec⟩:=zG5 (dst:=dst) (ats:=ats) (t:=t) (p:=p) (af:=af) (gd:=gd) hx hlk hargs L2 ν h φ a w hd M hE (hT ha fun i h1 h2=>M.gone_of (hfr i h1 h2)) hi.1;have hcalls:=hi.2 L2 ν h φ w vals M h1 h2 ha hfr;unfold Oper.wp;rw [hexec];refine Calls.mono hcalls ?_;rintro e1 w' ⟨u, ν',h', φ',rfl,M',hν,hh,hfr',hv⟩;exact kk ν' h' φ' w' u M' hν hh hfr' hv
theorem zEF {i:Env} {N:Nat} (g:Fits N i a) (f:∀t,Dk.look i t=a.tmps[t]?):∀{xs:List Operand} {cs:List (CV τ)},zIM E xs=some cs→(∀x∈xs,zew X h ν a (zxy x) E)→CVs X.P X.G h ν cs (xs.map a.eval)
 | [],cs,e,_=>by cases e; rfl
 | x::xs,cs,e,d=>by
  unfold zIM at e
  split at e
  ·rename_i c hc
   split at e
   ·rename_i j b
    cases e;obtain ⟨v,h1,h2⟩:=zB f (d x (List.mem_cons_self ..)) hc;exact ⟨a.eval x,xs.map a.eval,rfl,by rw [g.ev h1]; exact h2,zEF g f b fun x k=>d x (List.mem_cons_of_mem _ k)⟩
   ·cases e
  ·cases e
theorem zLD {f:Nat} {fs caps:List Operand} {bs cs:List (CV τ)} (hb:zIM E fs=some bs) (hc:zIM E caps=some cs) (k:K (.c (.cf nid)) [] [(nid,.clo f bs cs)] [] (nid+1)=some r):zdu X w0 h0 F ⟨dst,.makeFunc (.func f) ⟨fs⟩ ⟨caps⟩,t,p,af,gd⟩ E L nid K r:=by
 refine ⟨_,_,_,_,_,k,Nat.le_succ _,(fun _ h=>by cases h),fun L2 ν h φ a w next Q hd M hE ha hfr kk=>?_⟩;have hn:=hfr nid (Nat.le_refl _) (Nat.lt_succ_self _);obtain ⟨Ea,hf,hl'⟩:=zd4 a hd;have hbv:=zEF (h:=h) (ν:=ν) hf hl' hb fun x hx=>hE.op (by simp [Op.operands]; exact .inl hx);have hcv:=zEF (h:=h) (ν:=ν) hf hl' hc fun x hx=>hE.op (by simp [Op.operands]; exact .inr hx)
 have hrun:(execOp a.eval ⟨dst,.makeFunc (.func f) ⟨fs⟩ ⟨caps⟩,t,p,af,gd⟩).run X.P w = .ok (.value (.func (.func f) ⟨fs.map a.eval⟩ ⟨caps.map a.eval⟩)) w:=by
  simp [execOp,Instr.makeFunc,Result.andThen]
 refine zf7 hrun (kk (up1 ν nid (some (.func (.func f) ⟨fs.map a.eval⟩ ⟨caps.map a.eval⟩,none))) h _ w _ (M.add hn (.clo f bs cs) _ (fp:=[]) ⟨_,_,_,rfl,rfl,hbv.le (Fz.le.refl _) (zbW hn),hcv.le (Fz.le.refl _) (zbW hn)⟩ (fun b hb=>by cases hb)) (zbW hn) (Fz.le.refl _) zeq ⟨f,_,_,none,za1 _ _ _,rfl⟩)
theorem ztB {o:Env} {N:Nat} (j:Fits N o a) (n:∀t,Dk.look o t=a.tmps[t]?):∀{ps:List (Nat × Operand)} {k:Nat} {cs:List (CV τ)} {pre rest:List Value},zz0 E k ps=some cs→(∀q∈ps,zew X h ν a (zxy q.2) E)→pre.length=k→rest.length=ps.length →
  cs.length=ps.length∧CVs X.P X.G h ν cs (ps.map fun q=>a.eval q.2)∧Instr.fill (fun i=>some (i*1,1)) (pre++rest).toArray (ps.map fun q=>(q.1,a.eval q.2))=some (pre++ps.map fun q=>a.eval q.2).toArray
 | [],k,cs,pre,rest,e,_,_,d=>by
  cases e;have:rest=[]:=List.eq_nil_of_length_eq_zero d;subst this;exact ⟨rfl,rfl,by simp [Instr.fill]⟩
 | (i,x)::ps,k,cs,pre,rest,e,m,hp,d=>by
  unfold zz0 at e
  cases f:Nat.beq i k with
  | false=>rw [f] at e; cases e
  | true =>
   rw [f,cond_true] at e
   have:i=k:=by simpa using f
   subst this
   split at e
   ·rename_i c hc
    split at e
    ·rename_i p g
     cases e;obtain ⟨v,h1,h2⟩:=zB n (m (i,x) (List.mem_cons_self ..)) hc;have l:a.eval x=v:=j.ev h1
     cases rest with
     | nil=>simp at d
     | cons r0 rest =>
      obtain ⟨y,w,r⟩:=ztB j n (pre:=pre++[a.eval x]) (rest:=rest) g (fun q s=>m q (List.mem_cons_of_mem _ s)) (by simp [hp]) (by simpa using d);refine ⟨by simp [y],⟨_,_,rfl,by show zc9 X.P X.G h ν c (a.eval x); rw [l]; exact h2,w⟩,?_⟩
      have b:(a.eval x).cells = #[a.eval x]:=by rw [l]; exact (zc9.one h2).2
      simp only [List.map_cons,Instr.fill,b];rw [if_neg (by simp; omega)]
      have u:(Array.zipIdx #[a.eval x]).foldl (fun cs (q:Value × Nat)=>cs.setIfInBounds (i*1+q.2) q.1) (pre++r0::rest).toArray=(pre++[a.eval x]++rest).toArray:=by simp [← hp]
      refine Eq.trans (congrArg (fun z=>Instr.fill _ z _) u) ?_;rw [r]; simp
    ·cases e
   ·cases e
theorem zQv {te n:Nat} {ps:List (Nat × Operand)} {cs:List (CV τ)} (hel:elO X.P t'=some te) (hz1:z1B X.P te=true) (hc:zz0 E 0 ps=some cs) (hn:cs.length=n) (hsz:n≤65536)
  (k:K (.c (.os (nid+1))) [] [(nid+1,.sb nid n),(nid,.blk te cs)] [] (nid+2)=some r):zdu X w0 h0 F ⟨dst,.buildSlice t' n ⟨ps⟩,t,p,af,gd⟩ E L nid K r:=by
 unfold z1B at hz1
 split at hz1
 ·rename_i ti hti
  split at hz1
  ·rename_i z hz
   have hs1:ti.size=1:=by simpa using hz1
   refine ⟨_,_,_,_,_,k,by omega,(fun _ h=>by cases h),fun L2 ν h φ a w next Q hd M hE ha hfr kk=>?_⟩;have hn0:=hfr nid (Nat.le_refl _) (by omega);have hn1:=hfr (nid+1) (by omega) (by omega);obtain ⟨Ea,hf,hl'⟩:=zd4 a hd;have hEo:∀q∈ps,zew X h ν a (zxy q.2) E:=fun q hq=>hE.op (by simp only [Op.operands,List.toList_toArray,List.mem_map]; exact ⟨q,hq,rfl⟩)
   have hrng:∀f:Nat→Value,(Array.range (n*ti.size)).map f=((List.range (n*ti.size)).map f).toArray:=by
    intro f; apply Array.toList_inj.1; simp
   have hpl:ps.length=n:=by
    have:=(ztB (h:=h) (ν:=ν) hf hl' (pre:=[]) (rest:=List.replicate ps.length undef) hc hEo rfl (by simp)).1;omega
   have hfill:∀zc:Array Value,Instr.fill (fun i=>some (i*ti.size,ti.size)) ((Array.range (n*ti.size)).map (zc[· % zc.size]!)) (ps.map fun q=>(q.1,a.eval q.2))=some (ps.map fun q=>a.eval q.2).toArray:=by
    intro zc;obtain ⟨_,_,h3⟩:=ztB (h:=h) (ν:=ν) hf hl' (pre:=[]) (rest:=(List.range (n*ti.size)).map (zc[· % zc.size]!)) hc hEo rfl (by simp [hs1,hpl]);rw [hrng];simp only [hs1] at h3 ⊢;simpa using h3
   have hcv:=(ztB (h:=h) (ν:=ν) hf hl' (pre:=[]) (rest:=List.replicate ps.length undef) hc hEo rfl (by simp)).2.1
   have hpm:(Array.map (fun x=>match x with|(i,x)=>(i,a.eval x)) (⟨ps⟩:Array (Nat × Operand)))=(ps.map fun q=>(q.1,a.eval q.2)).toArray:=by
    have:(Array.map (fun (q:Nat × Operand)=>(q.1,a.eval q.2)) ⟨ps⟩)=(ps.map fun q=>(q.1,a.eval q.2)).toArray:=by simp
    exact this
   have hexec:(execOp a.eval ⟨dst,.buildSlice t' n ⟨ps⟩,t,p,af,gd⟩).run X.P w = .ok (.value (.slice (some ⟨w.heap.size,0,none⟩) n n)) (w.alloc (.cells (ps.map fun q=>a.eval q.2).toArray te)):=by
    have hb:¬(n*ti.size>2^24):=by rw [hs1]; omega
    simp only [execOp];rw [hpm,Sem.run_bind,zMA (zki hel) hti hz hb (hfill _)];rfl
   have M1:=M.alloc hn0 (.cells (ps.map fun q=>a.eval q.2).toArray te) (.blk te cs) (ptr w.heap.size 0,none) ⟨_,none,_,rfl,rfl,zkj _,hcv.le (Fz.le.refl _) (zbW hn0)⟩
   have hne:¬ nid+1=nid:=by omega
   have hn1':up1 ν nid (some (ptr w.heap.size 0,none)) (nid+1)=none:=(zbz _ _ hne).trans hn1;have M2:=M1.add hn1' (.sb nid n) (.slice (some ⟨w.heap.size,0,none⟩) n n,none) (fp:=[]) ⟨w.heap.size,none,none,(zbW hn1') _ _ (za1 _ _ _),rfl,rfl⟩ (fun b hb=>by cases hb);refine zf7 hexec (kk _ h _ _ _ M2 ((zbW hn0).trans (zbW hn1')) (Fz.le.refl _) (fun i h1 h2=>?_) ⟨_,_,_,none,za1 _ _ _,rfl⟩)
   by_cases e1:i=nid+1
   ·omega
   ·rw [zbz _ _ e1] at h2
    by_cases e2:i=nid
    ·omega
    ·rw [zbz _ _ e2] at h2; exact (h2 h1).elim
  ·cases hz1
 ·cases hz1
theorem zLE {id i n u:Nat} (o:evC E x=some (.os id)) (s:lk L id = .sb i n) (j:elO X.P t'=some u) (k:K (.c (.i (n:Int))) [] [] [id] nid=some r) :
  zdu X w0 h0 F ⟨dst,.call ⟨.builtin .len,⟨[x]⟩,⟨[t']⟩⟩,t,p,af,gd⟩ E L nid K r:=by
 refine zbp k fun B ν h φ a w hd M l g=>?_;obtain ⟨A,v,d⟩:=zd4 a hd;obtain ⟨z,h1,h2⟩:=zB d (l.op (by simp [Op.operands,Call.operands])) o;obtain ⟨ad,m,C,q,hν,rfl⟩:=h2;have f:=M.res id;rw [g id (List.mem_singleton.2 rfl),s] at f;obtain ⟨b,y,G,D,e,_⟩:=f;rw [hν] at e;cases e;exact ⟨_,zso (zki j) v h1,rfl⟩
theorem zOm {u id:Nat} {m:Int} (j:elO X.P t'=some u) (B:evC E x=some (.os id)) (v:evC E y=some (.i m)) (e:ixZ X L nid K id u m=some r):zdu X w0 h0 F ⟨dst,.indexAddr t' x y,t,p,af,gd⟩ E L nid K r:=by
 unfold ixZ at e
 split at e
 ·rename_i i U W lo xs g
  split at e
  ·rename_i I e2 ys k' l
   obtain ⟨s,J⟩:=zhi e;simp only [Bool.and_eq_true,Nat.beq_eq] at s;obtain ⟨o,f⟩:=s;subst o;obtain ⟨d,G,Q⟩:=ob J;exact zHR j B v g l f G Q
  ·cases e
 ·rename_i i n g
  split at e
  ·rename_i f
   split at e
   ·rename_i N
    refine zbp e fun L2 ν h φ a w hd M z S=>?_;obtain ⟨Ea,D,k⟩:=zd4 a hd;obtain ⟨Y,h1,h2⟩:=zB k (z.op (by simp [Op.operands])) B;obtain ⟨T,C,H⟩:=zB k (z.op (by simp [Op.operands])) v;obtain rfl:T=_:=H;obtain ⟨ad,Z,cp,q,hν,rfl⟩:=h2;have c:=M.res id;rw [S id (List.mem_singleton.2 rfl),g] at c;obtain ⟨b,V,R,O,A,_⟩:=c;rw [hν] at A;cases A;refine ⟨ptr b m.toNat,?_,some ⟨b,0,none⟩,R,O,by simp [zu6],fun _=>⟨b,rfl⟩⟩;refine zmW (fun w=>?_) D h1 C;rw [zop (zki j) (zf4 f) N.1 (by omega),zJN,Nat.zero_add,Nat.mul_one]
   ·cases e
  ·cases e
 ·cases e
end
end Go.Rk
end
section
namespace Go.Rk
open Go.RowKit Go.Dm Go.Dk
variable {τ:Nat→Type}
section
variable {ρ:Type} {X:Cx τ} {w0 w w':World} {h0 h h' H:Fz} {F:List Nat} {E:zad τ} {L L2:Hp τ} {ν ν':Vn τ} {φ φ':Nat→List Nat} {nid nid':Nat} {r:ρ}
theorem zzW {K:Nx τ ρ} {f:FuncId} {avs:List (XV τ)} {z:Option ρ}:∀{cs:zyZ τ},zvT X L nid K f avs z cs=some r→(∃q∈cs,znP X L nid K f avs [q]=some r)∨z=some r
 | [],e => .inr e
 | (g,k) :: cs,e=>by
  have b:zvT X L nid K f avs z cs=some r→(∃q∈(g,k)::cs,znP X L nid K f avs [q]=some r)∨z=some r:=fun e=>(zzW e).imp (fun ⟨q,h1,h2⟩=>⟨q,List.mem_cons_of_mem _ h1,h2⟩) id;unfold zvT at e
  cases h:Nat.beq g f with
  | false=>rw [h,bcF] at e; exact b e
  | true =>
   rw [h,bcT] at e
   cases i:zsR X.G L k.ps avs with
   | none=>rw [i] at e; exact b e
   | some q =>
    obtain ⟨p,l,m⟩:=q;rw [i] at e;dsimp only at e
    cases hn:(nodF l&&zNf l m) with
    | false=>rw [hn,bcF] at e; exact b e
    | true =>
     rw [hn,bcT] at e;simp only [Bool.and_eq_true] at hn
     have d:(nod l&&zy0 l m)=true:=by rw [zNh hn.1,zNg hn.2]; rfl
     split at e
     ·rename_i Z n
      split at e
      ·rename_i rs c
       cases a:(nod (zwe rs)&&(zwe rs).all (mem l)) with
       | false=>rw [a,bcF] at e; exact .inr e
       | true =>
        rw [a,bcT] at e
        split at e
        ·rename_i R j
         refine .inl ⟨(g,k),List.mem_cons_self ..,?_⟩;unfold znP;rw [h,bcT,i];dsimp only;rw [d,bcT,n];dsimp only;rw [c];dsimp only;rw [a,bcT,j];exact e
        ·exact b e
      ·exact .inr e
     ·exact .inr e
theorem zM3 (h:TyOk X) (i:∀q∈X.cs,COk X.P X.G q.1 q.2) (hNm:∀(f:FuncId) (fn:Func),X.P.funcs[f]? = some fn→(fn.name == "runtime.NumGoroutine")=false) {Z:Zx X} (A:∀f, ∀q∈Z.ct f,COk X.P X.G q.1 q.2) {B:InF τ ρ} (l:InOk X w0 h0 F B):zwc X w0 h0 F (opZ X Z B):=by
 intro r o E L nid K e;obtain ⟨dst,op,t,p,af,gd⟩:=o;dsimp only at e;unfold opZ at e
 split at e
 ·split at e
  ·rename_i s
   split at e
   ·rename_i w
    split at e
    ·rename_i b
     split at e
     ·rename_i J
      split at e
      ·rename_i c
       exact zBx w b s J c e
      ·cases e
     ·cases e
    ·cases e
   ·cases e
  ·exact zrD h i e
 ·rename_i f args ats
  split at e
  ·rename_i g b
   split at e
   ·rename_i avs a
    rcases zzW e with ⟨q,u,e⟩|e
    ·exact zIl b a (fun I k=>by rw [List.mem_singleton.1 k]; exact A g q u) e
    ·obtain ⟨v,U,T,H,h1,h2,n,_⟩:=zI3 hNm l e;exact zLC b a h1 h2 n
   ·cases e
  ·rename_i id b
   split at e
   ·rename_i g bs cs d
    split at e
    ·rename_i avs a
     rcases zzW e with ⟨q,u,e⟩|e
     ·exact ztq [id] (zG5 b d a) (fun I k=>by rw [List.mem_singleton.1 k]; exact A g q u) e
     ·obtain ⟨v,U,T,H,h1,h2,n,D⟩:=zI3 hNm l e;exact zJe b d a h1 h2 n D
    ·cases e
   ·cases e
  ·exact zrD h i e
 ·split at e
  ·rename_i id b
   cases c:vwB (lk L id) with
   | true =>
    rw [c] at e
    replace e:=(bc_tt e)
    split at e
    ·rename_i C j
     split at e
     ·rename_i m s
      exact zOm j b s e
     ·cases e
    ·cases e
   | false=>rw [c] at e; exact zrD h i e
  ·exact zrD h i e
 ·split at e
  ·rename_i id b
   split at e
   ·rename_i d
    split at e
    ·rename_i C w
     exact zLE b d w e
    ·cases e
   ·exact zrD h i e
  ·exact zrD h i e
 ·split at e
  ·rename_i bs c
   split at e
   ·rename_i cs hc
    exact zLD c hc e
   ·cases e
  ·cases e
 ·split at e
  ·rename_i C j
   split at e
   ·exact zrD h i e
   ·obtain ⟨z,e⟩:=zhi e
    split at e
    ·rename_i cs hc
     obtain ⟨c,e⟩:=zhi e;simp only [Bool.and_eq_true,Nat.beq_eq,Nat.ble_eq] at c;exact zQv j z hc c.1 c.2 e
    ·cases e
  ·cases e
 ·exact zrD h i e
where
 bc_tt {α:Type} {x y:Option α} {r:α} (e:bc true x y=some r):x=some r:=e
theorem zwc.wn {op:OpF τ ρ} (n:Nat) (h:zwc X w0 h0 F op):zwc (X.wn n) w0 h0 F op:=h
theorem zIH (hm:X.P.follows .mixedOrders=true) {Z:Zx X} (hZ:∀f, ∀q∈Z.ct f,COk X.P X.G q.1 q.2) (hT:TyOk X) (hC:∀q∈X.cs,COk X.P X.G q.1 q.2) (hNm:∀(f:FuncId) (fn:Func),X.P.funcs[f]? = some fn→(fn.name == "runtime.NumGoroutine")=false):∀(k:Nat),InOk (ρ:=ρ) X w0 h0 F (inZ X Z k)
 | 0=>by intro r n c E L T0 nid K _ e; cases e
 | k + 1=>by
  have B:=zIH hm hZ hT hC hNm k;have S:zwc (ρ:=ρ) X w0 h0 F (opZ X Z (inZ X Z k)):=zM3 hT hC hNm hZ B;intro r n c E L T0 nid K hn e;unfold inZ at e
  split at e
  ·exact ⟨.no,E,[],[],nid,0,e,Nat.le_refl _,OkC.nil fun Q a w h=>wp_skip h⟩
  ·rename_i id l d
   cases d with
   | true =>
    obtain ⟨I,U,T,N,j,g,m⟩:=zN3 (X:=X.wn n) hm hn (S.wn n) (id:=id) e;exact ⟨.no,I,U,T,N,0,j,g,m⟩
   | false =>
    obtain ⟨I,U,T,N,j,g,m⟩:=zEx (X:=X.wn n) (S.wn n) hn e;exact ⟨.no,I,U,T,N,0,j,g,fun D ν h φ a w Q A a2 a3 a4 a5 C H=>wp_region_list (m D ν h φ a w Q A a2 a3 a4 a5 C H)⟩
  ·rename_i x y
   obtain ⟨ex,u,p,o,z,O,j,g,m⟩:=B _ _ _ _ _ _ _ _ hn e
   cases ex with
   | no =>
    obtain ⟨ex,I,U2,W,N,m2,Y,R,f3⟩:=B _ _ _ _ _ _ _ _ hn j;refine ⟨ex,I,U2++p,W++o,N,0,by rw [List.append_assoc,List.append_assoc]; exact Y,Nat.le_trans g R,OkC.seq m.wp f3.wp g R fun Q a w h=>wp_seq h⟩
   | ex i=>exact ⟨.ex i,u,p,o,z,0,j,g,m.wp.out fun Q a w h=>wp_seq (h _ fun _ _ q=>q)⟩
   | rt=>exact ⟨.rt,u,p,o,z,0,j,g,m.wp.out fun Q a w h=>wp_seq (h _ fun _ _ q=>q)⟩
  ·rename_i c x y
   split at e
   ·rename_i b hc
    cases b with
    | true =>
     obtain ⟨ex,u,p,o,z,O,j,g,m⟩:=B _ _ _ _ _ _ _ _ hn e;refine ⟨ex,u,p,o,z,0,j,g,fun D ν h φ a w Q A a2 a3 a4 a5 C H=>?_⟩;obtain ⟨V,M,J⟩:=zd4 a A;obtain ⟨v,h1,h2⟩:=zB J (zcs.on (zEy.1 a4) _) hc;obtain rfl:v=_:=h2;exact wp_cond_true (M.ev h1) (m.wp D ν h φ a w Q A a2 a3 a4 a5 C H)
    | false =>
     obtain ⟨ex,u,p,o,z,O,j,g,m⟩:=B _ _ _ _ _ _ _ _ hn e;refine ⟨ex,u,p,o,z,0,j,g,fun D ν h φ a w Q A a2 a3 a4 a5 C H=>?_⟩;obtain ⟨V,M,J⟩:=zd4 a A;obtain ⟨v,h1,h2⟩:=zB J (zcs.on (zEy.1 a4) _) hc;obtain rfl:v=_:=h2;exact wp_cond_false (M.ev h1) (m.wp D ν h φ a w Q A a2 a3 a4 a5 C H)
   ·rename_i b hc
    split at e
    ·rename_i s
     have ha:asc E s=some (.c (.b b)):=zKX hc
     cases b with
     | true =>
      rw [if_pos rfl] at e;obtain ⟨ex,u,p,o,z,O,j,g,m⟩:=B _ _ _ _ _ _ _ _ hn e;refine ⟨ex,u,p,o,z,0,j,g,fun D ν h φ a w Q A a2 a3 a4 a5 C H=>?_⟩;obtain ⟨V,M,J⟩:=zd4 a A;obtain ⟨v,h1,h2⟩:=zB J (zcs.on (zEy.1 a4) _) hc;obtain rfl:v=_:=h2;exact wp_cond_true (M.ev h1) (m.wp D ν h φ a w Q A a2 a3 (Ref.env ((Ref.refl E).known ha) a4) a5 C H)
     | false =>
      rw [if_neg (by simp)] at e;obtain ⟨ex,u,p,o,z,O,j,g,m⟩:=B _ _ _ _ _ _ _ _ hn e;refine ⟨ex,u,p,o,z,0,j,g,fun D ν h φ a w Q A a2 a3 a4 a5 C H=>?_⟩;obtain ⟨V,M,J⟩:=zd4 a A;obtain ⟨v,h1,h2⟩:=zB J (zcs.on (zEy.1 a4) _) hc;obtain rfl:v=_:=h2;exact wp_cond_false (M.ev h1) (m.wp D ν h φ a w Q A a2 a3 (Ref.env ((Ref.refl E).known ha) a4) a5 C H)
    ·cases e
   ·cases e
  ·rename_i id c
   obtain ⟨ex,u,p,o,z,O,j,g,m⟩:=B _ _ _ _ _ _ _ _ hn e
   cases ex with
   | no=>exact ⟨.no,u,p,o,z,0,j,g,m.wp.out fun Q a w h=>wp_block (h _ fun _ _ q=>q)⟩
   | rt=>exact ⟨.rt,u,p,o,z,0,j,g,m.wp.out fun Q a w h=>wp_block (h _ fun _ _ q=>q)⟩
   | ex i =>
    cases hb:Nat.beq i id with
    | true =>
     simp only [hb] at j
     have:i=id:=by simpa using hb
     subst this;exact ⟨.no,u,p,o,z,0,j,g,m.wp.out fun Q a w h=>wp_block (h _ fun _ _ q=>zDg q)⟩
    | false =>
     simp only [hb] at j;exact ⟨.ex i,u,p,o,z,0,j,g,m.wp.out fun Q a w h=>wp_block (h _ fun _ _ q=>zDh hb q)⟩
  ·rename_i c
   obtain ⟨ex,u,p,o,z,O,j,g,m⟩:=B _ _ _ _ _ _ _ _ hn e
   cases ex with
   | no =>
    obtain ⟨E1',e2,hE⟩:=zI1 j;obtain ⟨ex,I,U2,W,N,m2,Y,R,f3⟩:=B _ _ _ _ _ _ _ _ hn e2;refine ⟨ex,I,U2++p,W++o,N,m2+1,by rw [List.append_assoc,List.append_assoc]; exact Y,Nat.le_trans g R,OkC.seq m.wp (f3.ref (E:=u) fun t x h => .inl (hE t x h).1) g R fun Q a w h=>h⟩
   | ex i=>exact ⟨.ex i,u,p,o,z,1,j,g,m.wp.out fun Q a w h=>h _ fun _ _ q=>q⟩
   | rt=>exact ⟨.rt,u,p,o,z,1,j,g,m.wp.out fun Q a w h=>h _ fun _ _ q=>q⟩
  ·rename_i id
   exact ⟨.ex id,E,[],[],nid,0,e,Nat.le_refl _,OkC.nil fun Q a w h=>wp_exit h⟩
  ·exact ⟨.rt,E,[],[],nid,0,e,Nat.le_refl _,OkC.nil fun Q a w h=>wp_ret h⟩
  ·cases e
theorem zPK (t:X.P.follows .mixedOrders=true) {Z:Zx X} (o:∀f, ∀q∈Z.ct f,COk X.P X.G q.1 q.2) (n:TyOk X) (x:∀q∈X.cs,COk X.P X.G q.1 q.2) (hNm:∀(f:FuncId) (fn:Func),X.P.funcs[f]? = some fn→(fn.name == "runtime.NumGoroutine")=false)
  {k:Nat} {f:FuncId} {avs:List (XV τ)} {b:Bool} (e:zrun X Z k f avs=some b) {h:Fz} {w:World} {vals:List Value} (d:zsJ X.P X.G h) (j:zEj X.P X.G) (g:h.on w) (a:vals.length=avs.length)
  (r:∀(i:Nat) (A:XV τ) (u:Value),avs[i]? = some A→vals[i]? = some u→XOk X.P X.G h (fun _=>none) A u):zfd X.P f∧Calls X.P f vals.toArray w fun e w'=>e = .returned (.bool b)∧∃h',Left h w [] h' w' []:=by
 unfold zrun at e;obtain ⟨v,U,T,y,h1,h2,l,_⟩:=zI3 (w0:=w) (h0:=h) (F:=[]) hNm (zIH t o n x hNm k) e
 have p:Mem X.P X.G w h [] [] w (fun _=>none) h (fun _=>[]) :=
  ⟨rfl,rfl,rfl,Nat.le_refl _,fun _ _ _=>rfl,Fz.le.refl _,g,fun b c => .inl c,fun _=>rfl,(fun _ _ _ h=>by cases h),(fun _ _ h=>by cases h),d,j⟩
 refine ⟨l.1,Calls.mono (l.2 [] _ h _ w vals p a r (fun i hi=>?_) fun _ _ _=>rfl) ?_⟩
 ·rfl
 rintro z w' ⟨u, ν',h', φ',rfl,M',_,B,_,m⟩
 have s:u = .bool b:=by
  split at h1
  ·cases h1; exact m
  ·cases h1; exact m
  ·cases h1
 subst s;exact ⟨rfl,h',M'.os,M'.tape,M'.output,M'.size,M'.frame,M'.le,M'.on,M'.new,fun b c=>by cases c⟩
end
end Go.Rk
end
section
namespace Go.Rk
open Go.RowKit Go.Dm Go.Dk
variable {τ:Nat→Type}
def eqV:(t:Ty)→t.den τ→t.den τ→Bool
 | .bool,(x:Bool),(y:Bool)=>x==y
 | .int,(x:Int),(y:Int)=>x==y
 | .u8,(x:UInt8),(y:UInt8)=>x==y
 | .u16,(x:UInt16),(y:UInt16)=>x==y
 | .str,(x:Str),(y:Str)=>x==y
 | _,_,_=>true
def eqD:(ts:List Ty)→DP τ ts→DP τ ts→Bool
 | [],_,_=>true
 | [t],x,y=>eqV t x y
 | t::u::ts,p,q=>eqV t p.1 q.1&&eqD (u::ts) p.2 q.2
def elB (P:Program) (G:Sig τ) (a:TypeId) (e:Ty):Bool:=match P.info? a with
 | some i=>match i.zero with
  | some z=>Nat.beq i.size (ets G e).length&&Nat.beq z.cells.size i.size&&Nat.blt 0 i.size
  | none=>false
 | none=>false
def scB (P:Program) (t:TypeId):Ty→Bool
 | .bool=>match P.underlying t with
  | some .bool=>true
  | _=>false
 | .str=>match P.underlying t with
  | some .string=>true
  | _=>false
 | .int=>match P.underlying t with
  | some (.int .i64)=>true
  | _=>false
 | .u8=>match P.underlying t with
  | some (.int .u8)=>true
  | _=>false
 | .u16=>match P.underlying t with
  | some (.int .u16)=>true
  | _=>false
 | _=>false
def zAo (inner:TypeId→List Ty→Option (List Ty)):List Field→List Ty→Nat→Option (List Ty)
 | [],ts,_=>some ts
 | f::fs,ts,i=>bif Nat.beq f.offset i&&decide (f.name ≠ "_") then (match inner f.type ts with
  | some rs=>zAo inner fs rs (i+(ts.length-rs.length))
  | none=>none) else none
def inn0 (P:Program) (t:TypeId):List Ty→Option (List Ty)
 | u::us=>bif scB P t u then some us else none
 | []=>none
def inn1 (P:Program) (t:TypeId) (ts:List Ty):Option (List Ty):=match P.underlying t with
 | some (.struct ⟨a⟩)=>match zAo (inn0 P) a ts 0 with
  | some rs=>match szO P t with
   | some s=>bif !(P.stoodInHeld t)&&Nat.beq (s+rs.length) ts.length then some rs else none
   | none=>none
  | none=>none
 | _=>inn0 P t ts
def zEo (P:Program) (fs:List Field) (ts:List Ty):Bool:=match zAo (inn1 P) fs ts 0 with
 | some []=>true
 | _=>false
def zNK (P:Program) (G:Sig τ) (t:TypeId) (n:Nat):Bool:=match P.underlying t with
 | some (.struct ⟨fs⟩) => !(P.stoodInHeld t) && !(P.eqGuardType P.depth t)&&zEo P fs (G.fs n)
 | _=>false
def tyB (P:Program) (G:Sig τ) (ty:List (TypeId × Ty)):Bool:=ty.all fun p=>elB P G p.1 p.2&&(match p.2 with
 | .st n=>bif (G.fs n).all zhH then zNK P G p.1 n else true
 | _=>true)
section
variable {P:Program} {G:Sig τ} {h:Fz} {w:World}
theorem u16_eq (b c:UInt16):((b.toNat:Int)==(c.toNat:Int))=(b==c):=by
 rw [Bool.eq_iff_iff]; simp only [beq_iff_eq,Int.natCast_inj,UInt16.toNat_inj]
theorem zQb {ti:TypeId} {t:Ty} {x y:t.den τ} {v u:Value} (c:scB P ti t=true) (h1:Rp P G h t x v) (h2:Rp P G h t y u) (d:Nat):(Op.equalIn (d+1) ti v u).run P w = .ok (eqV t x y) w∧(isAgg ti).run P w = .ok false w:=by
 have g:∀{d:TypeDesc},P.underlying ti=some d→(∀f,d ≠ .struct f)→(∀n e,d ≠ .array n e)→(isAgg ti).run P w = .ok false w:=by
  intro d a h1 h2;unfold isAgg;simp only [Sem.run_bind,run_underlying a,Result.andThen_ok]
  cases d<;>first|rfl|exact (h1 _ rfl).elim|exact (h2 _ _ rfl).elim
 cases h1<;>first|(cases c; done)|skip
 all_goals
  cases h2;unfold scB at c;dsimp only at c
  split at c
  ·rename_i a
   refine ⟨?_,g a (fun _ h=>by cases h) (fun _ _ h=>by cases h)⟩
   first
    | exact run_equalIn_bool' w d ti _ _ a
    | exact run_equalIn_int w d ti .i64 .i64 _ _ a
    | exact (run_equalIn_int w d ti .u8 .u8 _ _ a).trans (congrArg (fun b=>Result.ok b w) (zDC _ _))
    | exact (run_equalIn_int w d ti .u16 .u16 _ _ a).trans (congrArg (fun b=>Result.ok b w) (u16_eq _ _))
    | exact (run_equalIn_string w d ti _ _ a).trans (by simp only [ByteArray.toList_eq]; rfl)
  ·cases c
theorem zNL {t:Ty} {ts:List Ty} {p q:DP τ (t::ts)}:eqD (t::ts) p q=(eqV t p.hd q.hd&&eqD ts p.tl q.tl):=by
 cases ts with
 | nil=>simp [eqD,DP.hd]
 | cons u ts=>rfl
theorem zQc {p q:DP τ []}:eqD [] p q=true:=rfl
def EqOk (P:Program) (G:Sig τ) (h:Fz) (w:World) (e:Nat) (inner:TypeId→List Ty→Option (List Ty)):Prop:=∀(t:TypeId) (ts rs:List Ty) (p q:DP τ ts) (vs us xs ys:List Value) (i:Nat),inner t ts=some rs→RpL P G h ts p vs→RpL P G h ts q us →
 (∀(k:Nat) (v:Value),k+rs.length<ts.length→vs[k]? = some v→xs[i+k]? = some v)→(∀(k:Nat) (v:Value),k+rs.length<ts.length→us[k]? = some v→ys[i+k]? = some v) →
 rs.length≤ts.length∧∃(d a:DP τ rs) (b:Bool) (av c:Value),RpL P G h rs d (vs.drop (ts.length-rs.length))∧RpL P G h rs a (us.drop (ts.length-rs.length))∧eqD ts p q=(b&&eqD rs d a)∧(part t ⟨xs⟩ i).run P w = .ok av w∧(part t ⟨ys⟩ i).run P w = .ok c w∧(Op.equalIn e t av c).run P w = .ok b w
theorem zxo {inner:TypeId→List Ty→Option (List Ty)} (hi:∀t ts rs,inner t ts=some rs→rs.length≤ts.length):∀{fs:List Field} {ts rs:List Ty} {i:Nat},zAo inner fs ts i=some rs→rs.length≤ts.length
 | [],ts,rs,i,e=>by cases e; exact Nat.le_refl _
 | f::fs,ts,rs,i,e=>by
  unfold zAo at e
  cases a:(Nat.beq f.offset i&&decide (f.name ≠ "_")) with
  | false=>rw [a] at e; cases e
  | true =>
   rw [a] at e;dsimp only [cond_true] at e
   split at e
   ·rename_i b h1
    exact Nat.le_trans (zxo hi e) (hi _ _ _ h1)
   ·cases e
theorem zAp {P:Program} (t:TypeId) (ts rs:List Ty) (e:inn0 P t ts=some rs):rs.length≤ts.length:=by
 unfold inn0 at e
 split at e
 ·rename_i u us
  cases a:scB P t u with
  | false=>rw [a] at e; cases e
  | true=>rw [a] at e; cases e; simp
 ·cases e
theorem zNM {P:Program} (t:TypeId) (ts rs:List Ty) (e:inn1 P t ts=some rs):rs.length≤ts.length:=by
 unfold inn1 at e
 split at e
 ·split at e
  ·rename_i h1
   split at e
   ·rename_i s _
    cases a:(!(P.stoodInHeld t)&&Nat.beq (s+_) ts.length) with
    | false=>rw [a] at e; cases e
    | true=>rw [a] at e; cases e; exact zxo zAp h1
   ·cases e
  ·cases e
 ·exact zAp _ _ _ e
theorem zxp {e:Nat} {inner:TypeId→List Ty→Option (List Ty)} (c:∀t ts rs,inner t ts=some rs→rs.length≤ts.length) (hi:EqOk P G h w e inner):∀{fs:List Field} {ts rs:List Ty} {i:Nat} {p q:DP τ ts} {xs ys vs us:List Value},zAo inner fs ts i=some rs→RpL P G h ts p vs→RpL P G h ts q us →
  (∀(k:Nat) (v:Value),k+rs.length<ts.length→vs[k]? = some v→xs[i+k]? = some v)→(∀(k:Nat) (v:Value),k+rs.length<ts.length→us[k]? = some v→ys[i+k]? = some v) →
  ∃(y s:DP τ rs) (b:Bool),RpL P G h rs y (vs.drop (ts.length-rs.length))∧RpL P G h rs s (us.drop (ts.length-rs.length))∧eqD ts p q=(b&&eqD rs y s)∧(Op.eqFields e ⟨xs⟩ ⟨ys⟩ fs).run P w = .ok b w
 | [],ts,rs,i,p,q,xs,ys,vs,us,a,h1,h2,_,_=>by
  cases a;rw [Nat.sub_self,List.drop_zero,List.drop_zero];exact ⟨p,q,true,h1,h2,by simp,by simp [Op.eqFields]⟩
 | f :: fs,ts,rs,i,p,q,xs,ys,vs,us,a,h1,h2,u,n=>by
  unfold zAo at a
  cases hc:(Nat.beq f.offset i&&decide (f.name ≠ "_")) with
  | false=>rw [hc] at a; cases a
  | true =>
   rw [hc] at a;dsimp only [cond_true] at a;simp only [Bool.and_eq_true,Nat.beq_eq,decide_eq_true_eq] at hc;obtain ⟨K,hn⟩:=hc
   split at a
   ·rename_i r g
    have E:=zxo c a;obtain ⟨Q,O,M,o,av,N,J,I,A,l,x,H⟩:=hi _ _ _ p q vs us xs ys i g h1 h2 (fun k v j=>u k v (by omega)) (fun k v j=>n k v (by omega));obtain ⟨B,L,C,z,m,D,F⟩:=zxp c hi (xs:=xs) (ys:=ys) a J I
     (fun k v j d=>by rw [List.getElem?_drop] at d; rw [Nat.add_assoc]; exact u _ v (by omega) d) (fun k v j d=>by rw [List.getElem?_drop] at d; rw [Nat.add_assoc]; exact n _ v (by omega) d)
    rw [List.drop_drop,show ts.length-r.length+(r.length-rs.length)=ts.length-rs.length by omega] at z m;refine ⟨B,L,o&&C,z,m,by rw [A,D,Bool.and_assoc],?_⟩;rw [← K] at l x;simp only [Op.eqFields,hn,ne_eq,not_false_iff,if_true,Sem.run_bind,l,x,H,Result.andThen_ok]
    cases o with
    | true=>simpa using F
    | false=>simp
   ·cases a
theorem zKt (e:Nat):EqOk P G h w (e+1) (inn0 P):=by
 intro t ts rs p q vs us xs ys i a h1 h2 o j;unfold inn0 at a
 split at a
 ·rename_i u r
  cases f:scB P t u with
  | false=>rw [f] at a; cases a
  | true =>
   rw [f] at a;cases a
   cases h1 with
   | cons _ _ _ v vs m a2 =>
    cases h2 with
    | cons _ _ _ c us k l =>
     obtain ⟨n,g⟩:=zQb (w:=w) f m k e;have d:xs[i]? = some v:=o 0 v (by simp) rfl;have b:ys[i]? = some c:=j 0 c (by simp) rfl;refine ⟨by simp,p.tl,q.tl,eqV u p.hd q.hd,v,c,?_,?_,zNL,by simp [part,g,d,Result.andThen],by simp [part,g,b,Result.andThen],n⟩
     ·simpa using a2
     ·simpa using l
 ·cases a
theorem zQd (e:Nat):EqOk P G h w (e+2) (inn1 P):=by
 intro t ts rs p q vs us xs ys i a h1 h2 y x;unfold inn1 at a
 split at a
 ·rename_i H o
  split at a
  ·rename_i C M
   split at a
   ·rename_i s l
    cases hc:(!(P.stoodInHeld t)&&Nat.beq (s+C.length) ts.length) with
    | false=>rw [hc] at a; cases a
    | true =>
     rw [hc] at a;cases a;simp only [Bool.and_eq_true,Bool.not_eq_true',Nat.beq_eq] at hc;obtain ⟨z,N⟩:=hc
     have c:∀{m d:List Value},(∀(k:Nat) (v:Value),k+rs.length<ts.length→m[k]? = some v→d[i+k]? = some v)→∀(k:Nat) (v:Value),k+rs.length<ts.length→m[k]? = some v→((d.drop i).take s)[0+k]? = some v:=by
      intro m d L k v F D;rw [Nat.zero_add,List.getElem?_take,if_pos (by omega),List.getElem?_drop];exact L k v F D
     obtain ⟨u,n,b,K,J,A,B⟩:=zxp zAp (zKt e) M h1 h2 (c y) (c x)
     have f:P.fieldsOf t=⟨H⟩:=by unfold Program.fieldsOf; rw [o]
     have r:(isAgg t).run P w = .ok true w:=by simp [isAgg,run_underlying o,Result.andThen]
     have j:∀d:List Value,(part t ⟨d⟩ i).run P w = .ok (.agg ⟨(d.drop i).take s⟩) w:=by
      intro d;simp [part,r,zeo (zf4 l),Result.andThen,List.extract_eq_take_drop]
     refine ⟨by omega,u,n,b,_,_,K,J,A,j xs,j ys,?_⟩;rw [run_equalIn_struct w (e+1) t _ _ (by rw [f]; exact o) z,f];exact B
   ·cases a
  ·cases a
 ·obtain ⟨E,u,n,b,av,I,g⟩:=zKt (P:=P) (G:=G) (h:=h) (w:=w) (e+1) t ts rs p q vs us xs ys i a h1 h2 y x;exact ⟨E,u,n,b,av,I,g⟩
theorem zIW {fs:List Field} {ts:List Ty} {p q:DP τ ts} {xs ys vs us:List Value} (d:Nat) (a:zEo P fs ts=true) (h1:RpL P G h ts p vs) (h2:RpL P G h ts q us) (i:∀(k:Nat) (v:Value),vs[k]? = some v→xs[k]? = some v) (e:∀(k:Nat) (v:Value),us[k]? = some v→ys[k]? = some v) :
  (Op.eqFields (d+2) ⟨xs⟩ ⟨ys⟩ fs).run P w = .ok (eqD ts p q) w:=by
 unfold zEo at a
 split at a
 ·rename_i j
  obtain ⟨m,l,b,_,_,g,f⟩:=zxp zNM (zQd d) j h1 h2 (fun k v _ c=>by rw [Nat.zero_add]; exact i k v c) (fun k v _ c=>by rw [Nat.zero_add]; exact e k v c);rw [g,f,zQc,Bool.and_true]
 ·cases a
theorem zQe {X:Cx τ} (h1:tyB X.P X.G X.ty=true) (h2:∀n x y,(X.G.fs n).all zhH=true→(∃t,asc X.ty t=some (.st n))→X.G.eq n x y=eqD (X.G.fs n) (X.G.dtor n x) (X.G.dtor n y)):TyOk X:=by
 refine ⟨fun p hp=>?_,fun t n hn d p q h xs ys j g=>?_⟩
 ·have:=List.all_eq_true.1 h1 p hp;simp only [Bool.and_eq_true] at this;have a:=this.1;unfold elB at a
  split at a
  ·rename_i i hi
   split at a
   ·rename_i z l
    simp only [Bool.and_eq_true,Nat.beq_eq,Nat.blt_eq] at a;exact ⟨i,z,hi,l,a.1.1,a.1.2,a.2⟩
   ·cases a
  ·cases a
 ·have:=List.all_eq_true.1 h1 (t,.st n) (zm0 hn);simp only [Bool.and_eq_true] at this;have a:=this.2;rw [d] at a;have a:zNK X.P X.G t n=true:=a;unfold zNK at a
  split at a
  ·rename_i fs e
   simp only [Bool.and_eq_true,Bool.not_eq_true'] at a;obtain ⟨⟨f,m⟩,o⟩:=a;refine ⟨m,fun w=>?_⟩
   have b:X.P.fieldsOf t=⟨fs⟩:=by unfold Program.fieldsOf; rw [e]
   rw [run_equalIn_struct w 9999 t ⟨xs⟩ ⟨ys⟩ (by rw [b]; exact e) f,b];rw [h2 n _ _ d ⟨t,hn⟩,X.G.dc,X.G.dc];exact zIW 9997 o j g (fun k v c=>c) (fun k v c=>c)
  ·cases a
end
end Go.Rk
end
section
namespace Go.Rk
open Go.RowKit Go.Dm Go.Dk
variable {τ:Nat→Type}
variable {P:Program} {f:FuncId} {ty:List (TypeId × Ty)} {e:Ty} {v:Value} {t:Ty}
def encV:(t:Ty)→t.den τ→Value
 | .bool,x => .bool x
 | .int,x => .int .i64 x
 | .u8,(x:UInt8) => .int .u8 x.toNat
 | .u16,(x:UInt16) => .int .u16 x.toNat
 | .str,x=>str x
 | _,_=>undef
def zqF:(ts:List Ty)→DP τ ts→List Value
 | [],_=>[]
 | t::ts,p=>encV t p.hd::zqF ts p.tl
def zsO (G:Sig τ) (e:Ty) (xs:List (e.den τ)):List Value:=xs.flatMap fun x=>zqF (ets G e) (edt G e x)
section
variable {P:Program} {G:Sig τ} {h h':Fz} {w w':World}
theorem zNO {x:t.den τ} (a:zhH t=true) (b:Rp P G h t x v):v=encV t x:=by
 cases b<;>first|(cases a; done)|rfl
theorem zNP (x:t.den τ) (a:zhH t=true):Rp P G h t x (encV t x):=by
 cases t<;>first|(cases a; done)|constructor
theorem zKu:∀{ts:List Ty} {p:DP τ ts} {vs:List Value},RpL P G h ts p vs→ts.all zhH=true→vs=zqF ts p
 | _,_,_,.nil,_=>rfl
 | _,_,_,.cons t ts p v vs h1 h2,a=>by
  simp only [List.all_cons,Bool.and_eq_true] at a;rw [zNO a.1 h1,zKu h2 a.2]; rfl
theorem zKv:∀{ts:List Ty} (p:DP τ ts),ts.all zhH=true→RpL P G h ts p (zqF ts p)
 | [],_,_ => .nil
 | t::ts,p,a=>by
  simp only [List.all_cons,Bool.and_eq_true] at a;exact .cons t ts p _ _ (zNP _ a.1) (zKv _ a.2)
theorem zEp:∀{e:Ty} {xs:List (e.den τ)} {vs:List Value},RpR P G h e xs vs→(ets G e).all zhH=true→vs=zsO G e xs
 | _,_,_,.nil e,_=>rfl
 | _,_,_,.cons e x xs vs b h1 h2,a=>by
  rw [zKu h1 a,zEp h2 a]; rfl
theorem zIX {e:Ty} (a:(ets G e).all zhH=true):∀(xs:List (e.den τ)),RpR P G h e xs (zsO G e xs)
 | [] => .nil e
 | x::xs => .cons e x xs _ _ (zKv _ a) (zIX a xs)
theorem zIY {x:t.den τ} {fp:List Nat} (a:frz t=true) (b:Tr P G h w t x v fp):fp=[]∧Rp P G h t x v:=by
 cases b<;>first|(cases a; done)|exact ⟨rfl, ‹_›⟩
theorem zNQ {x:t.den τ} {fp:List Nat} (a:zhH t=true) (b:TrX P G h w t x v fp):v=encV t x∧fp=[]:=by
 cases t<;>first|(cases a; done)|skip
 all_goals
  obtain ⟨h1,h2⟩:=zIY rfl (show Tr P G h w _ x v fp from b);exact ⟨zNO rfl h2,h1⟩
theorem zqG:∀{ts:List Ty} {p:DP τ ts} {vs:List Value} {fp:List Nat},TrXs P G h w ts p vs fp→ts.all zhH=true→vs=zqF ts p∧fp=[]
 | _,_,_,_,.nil,_=>⟨rfl,rfl⟩
 | _,_,_,_,.cons t ts p v vs f f' h1 h2 hd,a=>by
  simp only [List.all_cons,Bool.and_eq_true] at a;obtain ⟨c,b⟩:=zNQ a.1 h1;obtain ⟨e,d⟩:=zqG h2 a.2;exact ⟨by rw [c,e]; rfl,by rw [b,d]; rfl⟩
theorem zQf (x:t.den τ) (a:zhH t=true):TrX P G h w t x (encV t x) []:=by
 cases t<;>first|(cases a; done)|exact .fz _ _ _ rfl (zNP _ rfl)
theorem zsP:∀{ts:List Ty} (p:DP τ ts),ts.all zhH=true→TrXs P G h w ts p (zqF ts p) []
 | [],_,_ => .nil
 | t::ts,p,a=>by
  simp only [List.all_cons,Bool.and_eq_true] at a;exact .cons t ts p _ _ [] [] (zQf _ a.1) (zsP _ a.2) (fun b c=>by cases c)
theorem zqH (c:h.on w) (a:Below w.heap.size w w'):Left h w [] h w' [] :=
 ⟨a.os,a.tape,a.output,a.size,fun b h1 _=>a.block b h1,Fz.le.refl _,fun b o e=>(a.block b (Array.getElem?_eq_some_iff.1 (c b o e)).1).trans (c b o e),fun b a => .inl a,fun b a=>by cases a⟩
theorem zf6 {k:Con τ} (i:k.ps.all zhH=true) (n:k.rs.all zhH=true) (g:k.bk=[]) (hn:k.nr=k.rs.length) (hc:zfd P f)
  (H:∀(w:World) (h:Fz) (p:DP τ k.ps) (r:DP τ k.rs),h.on w→zsJ P G h→k.m p=some r→Calls P f (zqF k.ps p).toArray w fun e w'=>e = .returned (zz5 (zqF k.rs r))∧Below w.heap.size w w'):COk P G f k:=by
 refine ⟨hc,fun h w p r vs fp c _ a b _ j=>?_⟩;obtain ⟨rfl,rfl⟩:=zqG b i;refine Calls.mono (H w h p r a c j) ?_;rintro e w' ⟨rfl,d⟩
 have o:(zqF k.rs r).length=k.rs.length:=by
  have:∀(ts:List Ty) (p:DP τ ts),(zqF ts p).length=ts.length:=by
   intro ts
   induction ts with
   | nil=>intro p; rfl
   | cons t ts l=>intro p; simp [zqF,l]
  exact this _ _
 refine ⟨h,zqF k.rs r,[],by rw [List.take_of_length_le (by omega)],zqH a d,zsP r n,?_⟩;rw [g,List.drop_eq_nil_of_le (by omega)]; rfl
theorem zGO {j:Nat} {R:List (e.den τ)} {ad:Option Addr} {n c:Nat} (m:(ets G e).all zhH=true) (d:h.on w) (k:Own w [] w' [.row (.slice ad n c) j (ets G e).length R.length (zsO G e R)]) :
  Left h w [] h w' (Value.slice ad n c).ownBlock.toList∧TrXs P G h w' [.so j e] R [.slice ad n c] (Value.slice ad n c).ownBlock.toList:=by
 obtain ⟨h1,_,p,q,r,s,_⟩:=zqH d k.below;have f:w'.ownsRow 0 j (ets G e).length (.slice ad n c) R.length (zsO G e R):=k.get (i:=0) rfl
 have g:∀b∈(Value.slice ad n c).ownBlock.toList,w.heap.size≤b:=fun b a=>by
  rcases k.fresh _ (List.mem_singleton.2 rfl) rfl b a with h|h
  ·cases h
  ·exact h
 have a:=zqH d k.below;refine ⟨⟨a.os,a.tape,a.output,a.size,a.frame,a.le,a.on,a.new,fun b l=>⟨?_,.inr (g b l)⟩⟩,?_⟩
 ·cases e1:h b with
  | none=>rfl
  | some o =>
   have:=(Array.getElem?_eq_some_iff.1 (d b o e1)).1;have:=g b l;omega
 ·have:=TrXs.cons (P:=P) (G:=G) (h:=h) (w:=w') (.so j e) [] R (.slice ad n c) [] _ [] (Tr.so j e R _ _ (zg1.of_row f) (zIX m R)) .nil (fun b _ h=>by cases h);rw [List.append_nil] at this;exact this
theorem zLs {m:Nat} {R:List (e.den τ)} {ad:Option Addr} {n c:Nat} {F:List Nat} (p:(ets G e).all zhH=true) (k:h.on w) (a:∀b∈F,h b=none) (d:Own w F w' [.row (.slice ad n c) m (ets G e).length R.length (zsO G e R)]) :
  Left h w F h w' (Value.slice ad n c).ownBlock.toList∧TrXs P G h w' [.so m e] R [.slice ad n c] (Value.slice ad n c).ownBlock.toList:=by
 have j:w'.ownsRow 0 m (ets G e).length (.slice ad n c) R.length (zsO G e R):=d.get (i:=0) rfl;have l:∀b∈(Value.slice ad n c).ownBlock.toList,b∈F∨w.heap.size≤b:=fun b f=>d.fresh _ (List.mem_singleton.2 rfl) rfl b f;have g:∀b o,h b=some o→b<w.heap.size:=fun b o e=>(Array.getElem?_eq_some_iff.1 (k b o e)).1;refine ⟨⟨d.os,d.tape,d.output,d.size,d.frame,Fz.le.refl _,fun b o e=>(d.frame b (g b o e) fun q=>by rw [a b q] at e; cases e).trans (k b o e),fun b f => .inl f,fun b f=>⟨?_,l b f⟩⟩,?_⟩
 ·rcases l b f with h1|h1
  ·exact a b h1
  ·cases e1:h b with
   | none=>rfl
   | some o=>have:=g b o e1; omega
 ·have:=TrXs.cons (P:=P) (G:=G) (h:=h) (w:=w') (.so m e) [] R (.slice ad n c) [] _ [] (Tr.so m e R _ _ (zg1.of_row j) (zIX p R)) .nil (fun b _ h=>by cases h);rw [List.append_nil] at this;exact this
theorem so_fp {c:Nat} {x:List (e.den τ)} {f:List Nat} (b:Tr P G h w (.so c e) x v f):f=v.ownBlock.toList:=by
 cases b with
 | fz _ _ _ a _=>cases a
 | so _ _ _ _ vs d g=>rfl
theorem zNR {j:Nat} {x:List (e.den τ)} {f:List Nat} (hd:G.dr j=false) (k:(ets G e).all zhH=true) (l:Tr P G h w (.so j e) x v f):∃ad c,v = .slice ad x.length c∧w.ownsRow 0 j (ets G e).length v x.length (zsO G e x):=by
 cases l with
 | fz _ _ _ i _=>cases i
 | so _ _ _ _ vs b m =>
  rw [zEp m k] at b
  replace b:=b.row hd
  have a:=b;obtain ⟨_,⟨d,i⟩|⟨g,cap,cur,d,_⟩⟩:=b
  ·exact ⟨none,0,by rw [i]; exact d,a⟩
  ·exact ⟨_,_,d,a⟩
theorem zNS {ts:List Ty} {i:Nat} {m:DP τ ts→Option (DP τ [.so i e])} (n:ts.all zhH=true) (l:(ets G e).all zhH=true) (hc:zfd P f)
  (H:∀(w:World) (h:Fz) (p:DP τ ts) (R:List (e.den τ)),h.on w→zsJ P G h→m p=some R→Calls P f (zqF ts p).toArray w fun j w'=>∃d g,j = .returned (.slice d R.length g)∧Own w [] w' [.row (.slice d R.length g) i (ets G e).length R.length (zsO G e R)]):COk P G f ⟨ts,[.so i e],1,[],m⟩:=by
 refine ⟨hc,fun h w p r vs fp c _ a b _ o=>?_⟩;obtain ⟨rfl,rfl⟩:=zqG b n;refine Calls.mono (H w h p r a c o) ?_;rintro q w' ⟨d,g,rfl,k⟩;obtain ⟨h1,h2⟩:=zGO (P:=P) l a k;exact ⟨h,_,_,rfl,h1,h2,rfl⟩
theorem zv6 {o:Nat} {m:List (e.den τ)→Option (List (e.den τ))} (n:(ets G e).all zhH=true) (hc:zfd P f)
  (H:∀(w:World) (h:Fz) (xs R:List (e.den τ)) (ad:Option Addr) (c:Nat),h.on w→zsJ P G h→m xs=some R→ze3 w ad (zsO G e xs)→xs.length≤c→Calls P f #[.slice ad xs.length c] w fun q w'=>∃i k,q = .returned (.slice i R.length k)∧Own w [] w' [.row (.slice i R.length k) o (ets G e).length R.length (zsO G e R)]):COk P G f ⟨[.sl e],[.so o e],1,[],m⟩:=by
 refine ⟨hc,fun h w p r vs fp g _ a d _ x=>?_⟩
 cases d with
 | cons _ _ _ v vs f f' h1 h2 hd =>
  cases h2;obtain ⟨rfl,y⟩:=zIY rfl (show Tr P G h w (.sl e) p v f from h1)
  cases y with
  | sl _ _ ad c us l b j =>
   rw [zEp j n] at b;refine Calls.mono (H w h p r ad c a g x (b.sees a) l) ?_;rintro z w' ⟨i,k,rfl,s⟩;obtain ⟨u,t⟩:=zGO (P:=P) n a s;exact ⟨h,_,_,rfl,u,t,rfl⟩
theorem zQg {a:Nat} {m:DP τ [.so a e,.int,.so a e]→Option (List (e.den τ))} (u:G.dr a=false) (B:(ets G e).all zhH=true) (hc:zfd P f)
  (H:∀(w:World) (h:Fz) (xs:List (e.den τ)) (i:Int) (ys R:List (e.den τ)) (ad g:Option Addr) (c x:Nat) (F:List Nat),h.on w→zsJ P G h→(∀b∈F,h b=none)→m (xs,i,ys)=some R→Own w F w [.row (.slice ad xs.length c) a (ets G e).length xs.length (zsO G e xs),.row (.slice g ys.length x) a (ets G e).length ys.length (zsO G e ys)] →
   Calls P f #[.slice ad xs.length c,.int .i64 i,.slice g ys.length x] w fun N w'=>∃C D,N = .returned (.slice C R.length D)∧Own w F w' [.row (.slice C R.length D) a (ets G e).length R.length (zsO G e R)]):COk P G f ⟨[.so a e,.int,.so a e],[.so a e],1,[],m⟩:=by
 refine ⟨hc,fun h w p r vs fp A _ o z d Z=>?_⟩
 cases z with
 | cons _ _ _ v vs f f' h1 h2 hd =>
  cases h2 with
  | cons _ _ _ v2 T f2 f2' M Q V =>
   cases Q with
   | cons _ _ _ v3 L J X K h6 U =>
    cases h6;obtain ⟨rfl,rfl⟩:=zNQ (t := .int) rfl M;obtain ⟨ad,c,rfl,E⟩:=zNR u B (show Tr P G h w (.so a e) p.1 v f from h1);obtain ⟨g,x,rfl,I⟩:=zNR u B (show Tr P G h w (.so a e) p.2.2 v3 J from K);have q:=so_fp (show Tr P G h w (.so a e) p.1 _ f from h1);have n:=so_fp (show Tr P G h w (.so a e) p.2.2 _ J from K)
    have O:Own w (f++([]++(J++[]))) w [.row (.slice ad p.1.length c) a (ets G e).length p.1.length (zsO G e p.1),.row (.slice g p.2.2.length x) a (ets G e).length p.2.2.length (zsO G e p.2.2)]:=by
     refine ⟨rfl,rfl,rfl,Nat.le_refl _,fun _ _ _=>rfl,?_,?_,?_⟩
     ·intro r j
      rcases List.mem_cons.1 j with rfl|j
      ·exact E
      ·rw [List.mem_singleton.1 j]; exact I
     ·intro r j _ b k
      left
      rcases List.mem_cons.1 j with rfl|j
      ·exact List.mem_append_left _ (by rw [q]; exact k)
      ·rw [List.mem_singleton.1 j] at k;exact List.mem_append_right _ (by rw [n,List.append_nil]; exact k)
     ·refine .cons (fun s S => .inr fun b k l=>?_) (.cons (fun _ h=>by cases h) .nil);rw [List.mem_singleton.1 S] at l;exact hd b (by rw [q]; exact k) (by rw [n,List.append_nil]; exact l)
    refine Calls.mono (H w h p.1 p.2.1 p.2.2 r ad g c x _ o A d Z O) ?_;rintro e1 w' ⟨C,D,rfl,y⟩;obtain ⟨Y,W⟩:=zLs (P:=P) B o d y;exact ⟨h,_,_,rfl,Y,W,rfl⟩
theorem zNT {m:List Str × Str→Option Str} (hc:zfd P f)
  (H:∀(w:World) (h:Fz) (xs:List Str) (s R:Str) (ad:Option Addr) (c:Nat),h.on w→zsJ P G h→m (xs,s)=some R→ze3 w ad (xs.map str)→xs.length≤c→Calls P f #[.slice ad xs.length c,str s] w fun k w'=>k = .returned (str R)∧Below w.heap.size w w'):COk P G f ⟨[.sl .str,.str],[.str],1,[],m⟩:=by
 refine ⟨hc,fun h w p r vs fp e _ b d _ o=>?_⟩
 cases d with
 | cons _ _ _ v vs f f' h1 h2 hd =>
  obtain ⟨rfl,rfl⟩:=zqG h2 rfl;obtain ⟨rfl,t⟩:=zIY rfl (show Tr P G h w (.sl .str) p.1 v f from h1)
  cases t with
  | sl _ _ ad c us i a g =>
   rw [zEp g rfl] at a
   have n:zsO G .str p.1=p.1.map str:=by
    show List.flatMap _ _=_;generalize p.1=l
    induction l with
    | nil=>rfl
    | cons x l q=>rw [List.flatMap_cons,q]; rfl
   rw [n] at a;refine Calls.mono (H w h p.1 p.2 r ad c b e o (a.sees b) i) ?_;rintro u w' ⟨rfl,j⟩;exact ⟨h,[str r],[],rfl,zqH b j,zsP (ts:=[.str]) r rfl,rfl⟩
end
structure CLs (P:Program) (G:Sig τ) where
 cs:zyZ τ
 ok:∀q∈cs,COk P G q.1 q.2
def CLs.nil {P:Program} {G:Sig τ}:CLs P G:=⟨[],fun q h=>by cases h⟩
def CLs.add {P:Program} {G:Sig τ} (C:CLs P G) {f:FuncId} {k:Con τ} (h:COk P G f k):CLs P G:=⟨(f,k)::C.cs,fun q a=>by
 rcases List.mem_cons.1 a with rfl|a
 ·exact h
 ·exact C.ok q a⟩
def fnB (fn:Func) (n:Nat) (k:Con τ):Bool:=(match fn.body with
 | some _=>true
 | none=>false)&&Nat.beq fn.ntmps n&&Nat.ble n gh&&Nat.ble k.ps.length n&&k.rs.all noPr
def bdyF (fn:Func):Code:=match fn.body with
 | some c=>c
 | none => .skip
theorem zNU {G:Sig τ} (h:P.follows .mixedOrders=true) (hNm:∀(f:FuncId) (fn:Func),P.funcs[f]? = some fn→(fn.name == "runtime.NumGoroutine")=false) {cs:zyZ τ} {f:FuncId} {fn:Func} {k:Con τ} (n:Nat)
  (h1:P.funcs[f]? = some fn) (h2:fnB fn n k=true) {hn:Hn τ (DP τ k.rs)} {op:(Nat→Value)→OpF τ (DP τ k.rs)} (b:∀fx w0 h0 F,zwc (Cx.w (⟨P,G,ty,cs,n,fun _ => .bool false⟩:Cx τ) fx) w0 h0 F (op fx)) (g:zt8 (⟨P,G,ty,cs,n,fun _ => .bool false⟩:Cx τ) k (bdyF fn) fn.results.toList hn op):COk P G f k:=by
 simp only [fnB,Bool.and_eq_true,Nat.beq_eq,Nat.ble_eq] at h2;obtain ⟨⟨⟨⟨e,a⟩,d⟩,hp⟩,i⟩:=h2;refine zPZ (X:=⟨P,G,ty,cs,n,fun _ => .bool false⟩) h b ⟨h1,?_,hNm f fn h1,a,d,hp,rfl,i⟩ g;unfold bdyF
 split at e
 ·rename_i c hc; rw [hc]
 ·cases e
theorem zEq {G:Sig τ} (c:P.follows .mixedOrders=true) (hNm:∀(f:FuncId) (fn:Func),P.funcs[f]? = some fn→(fn.name == "runtime.NumGoroutine")=false) (a:∀cs n,TyOk (⟨P,G,ty,cs,n,fun _ => .bool false⟩:Cx τ)) (C:CLs P G) {f:FuncId} {fn:Func} {k:Con τ} (n:Nat)
  (h1:P.funcs[f]? = some fn) (h2:fnB fn n k=true) {hn:Hn τ (DP τ k.rs)} (b:zt8 (⟨P,G,ty,C.cs,n,fun _ => .bool false⟩:Cx τ) k (bdyF fn) fn.results.toList hn):COk P G f k :=
 zNU c hNm n h1 h2 (fun fx _ _ _ _ _ _ _ _ _ e=>zrD (X:=Cx.w (⟨P,G,ty,C.cs,n,fun _ => .bool false⟩:Cx τ) fx) ⟨(a C.cs n).el,(a C.cs n).eq⟩ C.ok e) b
def zxI {P:Program} {G:Sig τ} (ty:List (TypeId × Ty)) (C:CLs P G) (B:Bt (FnS P)) (n:Nat) (fx:Nat→Value):Zx (Cx.w (⟨P,G,ty,C.cs,n,fun _ => .bool false⟩:Cx τ) fx):=⟨fun _=>C.cs,B⟩
noncomputable def opJ {ρ:Type} {P:Program} {G:Sig τ} (ty:List (TypeId × Ty)) (C:CLs P G) (B:Bt (FnS P)) (n m:Nat) (fx:Nat→Value):OpF τ ρ:=opZ _ (zxI ty C B n fx) (inZ _ (zxI ty C B n fx) m)
theorem ztv {G:Sig τ} (b:P.follows .mixedOrders=true) (hNm:∀(f:FuncId) (fn:Func),P.funcs[f]? = some fn→(fn.name == "runtime.NumGoroutine")=false) (a:∀cs n,TyOk (⟨P,G,ty,cs,n,fun _ => .bool false⟩:Cx τ)) (C:CLs P G) (B:Bt (FnS P)) {f:FuncId} {fn:Func} {k:Con τ} (n m:Nat)
  (h1:P.funcs[f]? = some fn) (h2:fnB fn n k=true) {hn:Hn τ (DP τ k.rs)} (c:zt8 (⟨P,G,ty,C.cs,n,fun _ => .bool false⟩:Cx τ) k (bdyF fn) fn.results.toList hn (opJ ty C B n m)):COk P G f k :=
 zNU b hNm n h1 h2 (fun fx _ _ _=>zM3 (X:=Cx.w (⟨P,G,ty,C.cs,n,fun _ => .bool false⟩:Cx τ) fx) (Z:=zxI ty C B n fx) ⟨(a C.cs n).el,(a C.cs n).eq⟩ C.ok hNm (fun _=>C.ok) (zIH (X:=Cx.w (⟨P,G,ty,C.cs,n,fun _ => .bool false⟩:Cx τ) fx) (Z:=zxI ty C B n fx) b (fun _=>C.ok) ⟨(a C.cs n).el,(a C.cs n).eq⟩ C.ok hNm m)) c
theorem zGP {G:Sig τ} {k:Con τ} (hc:zfd P f) (h:∀p,k.m p=none):COk P G f k:=⟨hc,fun _ _ p r _ _ _ _ _ _ _ a=>by rw [h p] at a; cases a⟩
theorem zNV (h:(P.funcs.toList.all fun fn => !(fn.name == "runtime.NumGoroutine"))=true):∀(f:FuncId) (fn:Func),P.funcs[f]? = some fn→(fn.name == "runtime.NumGoroutine")=false:=by
 intro f fn a;have:=List.all_eq_true.1 h fn (by rw [← Array.getElem?_toList] at a; exact List.mem_of_getElem? a);simpa using this
noncomputable def eqsB (G:Sig τ) (ty:List (TypeId × Ty)) (eqs:List Nat):Bool:=ty.all fun p=>match p.2 with
 | .st n=>bif (G.fs n).all zhH then mem eqs n else true
 | _=>true
theorem zNW {G:Sig τ} (eqs:List Nat) (h1:tyB P G ty=true) (h2:eqsB G ty eqs=true) (c:∀n∈eqs, ∀x y,G.eq n x y=eqD (G.fs n) (G.dtor n x) (G.dtor n y)):∀cs n,TyOk (⟨P,G,ty,cs,n,fun _ => .bool false⟩:Cx τ):=fun cs n=>zQe h1 fun n x y b ⟨t,d⟩=>by
 have a:=List.all_eq_true.1 h2 (t,.st n) (zm0 d);have b:(G.fs n).all zhH=true:=b;have a:(bif (G.fs n).all zhH then mem eqs n else true)=true:=a;rw [b] at a;exact c n (zeS.1 a) x y
theorem fp_nil:∀p∈([]:List (FuncId × (UInt8→Option Bool))),zJS P p.2 p.1:=fun p h=>by cases h
theorem zb2 {m:UInt8→Option Bool} {l:List (FuncId × (UInt8→Option Bool))} (h:zJS P m f) (t:∀p∈l,zJS P p.2 p.1):∀p∈(f,m)::l,zJS P p.2 p.1:=fun p hp=>by
 rcases List.mem_cons.1 hp with rfl|hp
 ·exact h
 ·exact t p hp
theorem zqI {h h':Fz} {w w':World} {fp':List Nat} (a:Left h w [] h' w' fp'):Below w.heap.size w w':=⟨a.os,a.tape,a.output,a.size,fun b c=>a.frame b c (by simp)⟩
theorem zgx {G:Sig τ} {m:UInt8→Option Bool} (h1:∀h,zsJ P G h) (h2:zEj P G) (h:COk P G f ⟨[.u8],[.bool],1,[],m⟩):zJS P m f:=⟨h.1,fun c r w g=>by
 refine Calls.mono (h.2 (fun _=>none) w c r [zct c] [] (h1 _) h2 (fun b o e=>by cases e) (zsP (ts:=[.u8]) c rfl) (fun b d=>by cases d) g) ?_;rintro e w' ⟨h',rs,fp',rfl,i,a,_⟩;obtain ⟨rfl,_⟩:=zqG a rfl
 exact ⟨rfl,zqI i⟩⟩
theorem zAq {G:Sig τ} {k:Con τ} (j:k.ps.all zhH=true) (u:k.rs.all zhH=true) (i:k.bk=[]) (hn:k.nr=k.rs.length) (l:COk P G f k) (g:zEj P G) {p:DP τ k.ps} {r:DP τ k.rs} (o:k.m p=some r) {h:Fz} {w:World} (d:h.on w) (c:zsJ P G h) :
  Calls P f (zqF k.ps p).toArray w fun e w'=>e = .returned (zz5 (zqF k.rs r))∧Below w.heap.size w w':=by
 refine Calls.mono (l.2 h w p r (zqF k.ps p) [] c g d (zsP p j) (fun b i=>by cases i) o) ?_;rintro e w' ⟨h',rs,fp',rfl,s,a,_⟩;obtain ⟨rfl,_⟩:=zqG a u
 have n:(zqF k.rs r).length=k.rs.length:=by
  have:∀(ts:List Ty) (p:DP τ ts),(zqF ts p).length=ts.length:=by
   intro ts
   induction ts with
   | nil=>intro p; rfl
   | cons t ts q=>intro p; simp [zqF,q]
  exact this _ _
 exact ⟨by rw [List.take_of_length_le (by omega)],zqI s⟩
def ctOf {P:Program} {G:Sig τ} (T:Bt (CLs P G)) (f:FuncId):zyZ τ:=match T.get f with
 | some C=>C.cs
 | none=>[]
theorem zQh {G:Sig τ} {T:Bt (CLs P G)}:∀f, ∀q∈ctOf T f,COk P G q.1 q.2:=by
 intro f q a;unfold ctOf at a
 split at a
 ·rename_i C _; exact C.ok q a
 ·cases a
theorem zQi {X:Cx τ} (j:X.P.follows .mixedOrders=true) (hNm:∀(f:FuncId) (fn:Func),X.P.funcs[f]? = some fn→(fn.name == "runtime.NumGoroutine")=false) (d:TyOk X) (a:zEj X.P X.G) (l:X.cs=[]) {Z:Zx X} (g:∀f, ∀q∈Z.ct f,COk X.P X.G q.1 q.2) {f:FuncId} (hc:zfd X.P f) {k:Nat} (e:zrun X Z k f []=some true) :
  COk X.P X.G f ⟨[],[.bool],1,[],fun _=>some true⟩:=zf6 rfl rfl rfl rfl hc fun w h p r on gl b=>by
 have b:some true=some r:=b;cases b;refine Calls.mono (zPK j g d (fun q c=>by rw [l] at c; cases c) hNm e (h:=h) (w:=w) (vals:=[]) gl a on rfl (fun i A u h1=>by simp at h1)).2 ?_;rintro n w' ⟨rfl,h',m⟩;exact ⟨rfl,zqI m⟩
theorem zQj {w w':World} (h:Fz.on (fun b=>w.heap[b]?) w'):w.heap.size≤w'.heap.size:=by
 cases hs:w.heap.size with
 | zero=>omega
 | succ n =>
  have:=h n w.heap[n] (Array.getElem?_eq_getElem (by omega));have:=(Array.getElem?_eq_some_iff.1 this).1;omega
theorem zLu (l:List Str):cells (fun x:Str=>[str x]) l=l.map str:=by
 unfold cells
 induction l with
 | nil=>rfl
 | cons x l a=>rw [List.flatMap_cons,a]; rfl
end Go.Rk
end
section
namespace Go.Rk
open Go.RowKit Go.Dm Go.Dk Go.ChangeShapes Go.WideShapes Go.Deep
variable {τ:Nat→Type}
section
variable {H:Type} {enc:TypeId × Value→H} {P:Program} {G:Sig τ} {w:World} {base:Nat} {spare:Nat→Bool} {held:Bool}
def mF (P:Program) (m:List Ty→TypeId→Option (List Ty)):List Field→Nat→List Ty→Option (List Ty × Nat)
 | [],o,ts=>some (ts,o)
 | f::fs,o,ts=>bif Nat.beq f.offset o then (match m ts f.type with
  | some r=>mF P m fs (o+P.cellsOf f.type) r
  | none=>none) else none
def mT (P:Program) (G:Sig τ):Nat→List Ty→TypeId→Option (List Ty)
 | 0,_,_=>none
 | d+1,ts,t=>match P.underlying t with
  | some (.struct ⟨fs⟩)=>match mF P (mT P G d) fs 0 ts with
   | some (r,o)=>bif Nat.beq o (P.cellsOf t) then some r else none
   | none=>none
  | some .string=>match ts with
   | .str::r=>some r
   | _=>none
  | some .bool=>match ts with
   | .bool::r=>some r
   | _=>none
  | some (.int .i64)=>match ts with
   | .int::r=>some r
   | _=>none
  | some (.int .u8)=>match ts with
   | .u8::r=>some r
   | _=>none
  | some (.int .u16)=>match ts with
   | .u16::r=>some r
   | _=>none
  | some (.slice a)=>match ts with
   | .sl e::r=>match mT P G d (ets G e) a with
    | some []=>bif Nat.beq (P.cellsOf a) (ets G e).length&&Nat.blt 0 (ets G e).length then some r else none
    | _=>none
   | _=>none
  | _=>none
theorem zxg {h:Fz} {t:Ty} {ts:List Ty} {x:t.den τ} {q:DP τ ts} {v:Value} {vs:List Value} (h1:Rp P G h t x v) (h2:RpL P G h ts q vs):RpL P G h (t::ts) (.mk x q) (v::vs) := .cons t ts (.mk x q) v vs (by rw [DP.hd_mk]; exact h1) (by rw [DP.tl_mk]; exact h2)
def rgT:(t:Ty)→t.den τ→Prop
 | .int,x => -9223372036854775808≤(show Int from x)∧(show Int from x)≤9223372036854775807
 | _,_=>True
def rgL:(ts:List Ty)→DP τ ts→Prop
 | [],_=>True
 | t::ts,p=>rgT t p.hd∧rgL ts p.tl
theorem zxh {t:Ty} {ts:List Ty} {x:t.den τ} {q:DP τ ts} (h:rgT t x) (h2:rgL ts q):rgL (t::ts) (.mk x q):=⟨by rw [DP.hd_mk]; exact h,by rw [DP.tl_mk]; exact h2⟩
def rgX (G:Sig τ):(t:Ty)→t.den τ→Prop
 | .st n,z=>rgL (G.fs n) (G.dtor n z)
 | t,z=>rgT t z
def rgXs (G:Sig τ):(ts:List Ty)→DP τ ts→Prop
 | [],_=>True
 | t::ts,p=>rgX G t p.hd∧rgXs G ts p.tl
theorem i64_of {n:Int} (h:(Lit.int .i64 n).wf=true) : -9223372036854775808≤n∧n≤9223372036854775807:=by
 have b:IntKind.i64.min = -9223372036854775808:=rfl;have a:IntKind.i64.max=9223372036854775807:=rfl;simpa [Lit.wf,b,a] using h
abbrev hp (w:World):Fz:=fun b=>w.heap[b]?
theorem zKc {h:Fz}:∀{ts:List Ty} {p:DP τ ts} {vs:List Value},RpL P G h ts p vs→vs.length=ts.length
 | [],_,_,h=>by cases h; rfl
 | t::ts,_,_,h=>by cases h with|cons _ _ _ v vs h1 h2=>simp [zKc h2]
theorem zGx {h:Fz} {e:Ty} {z:e.den τ} {a:List Value} (b:RpL P G h (ets G e) (edt G e z) a):∀{xs:List (e.den τ)} {vs:List Value},RpR P G h e xs vs→RpR P G h e (xs++[z]) (vs++a)
 | [],vs,h=>by
  cases h;have:=RpR.cons (P:=P) (G:=G) e z [] a [] b (.nil e);simpa using this
 | x::xs,_,h=>by
  cases h with
  | cons _ _ _ c v2 h1 h2 =>
   have:=RpR.cons e x (xs++[z]) c (v2++a) h1 (zGx b h2);simpa [List.append_assoc] using this
theorem zKd {h:Fz} {e:Ty}:∀{xs:List (e.den τ)} {vs:List Value},RpR P G h e xs vs→vs.length=xs.length*(ets G e).length
 | [],_,h=>by cases h; simp
 | x::xs,_,h=>by
  cases h with
  | cons _ _ _ a v2 h1 h2 =>
   rw [List.length_append,zKc h1,zKd h2,List.length_cons,Nat.add_mul,Nat.one_mul,Nat.add_comm]
theorem zPM {fuel:Nat} {t R:TypeId} {v:Value} {x:DataW H × List MemPlace} {e:Ty} (ht:P.underlying t=some (.slice R)) (hC:P.cellsOf R=(ets G e).length) (T:0<(ets G e).length)
  (ho:∀fuel cs x,DataW.trod enc P w base spare held fuel R cs=some x→∃z:e.den τ,RpL P G (hp w) (ets G e) (edt G e z) cs) (W:DataW.trod enc P w base spare held fuel t [v]=some x) :
  ∃xs:List (e.den τ),Rp P G (hp w) (.sl e) xs v:=by
 rcases open_slice ht W with ⟨d,_⟩|⟨a,len,cap,m,n,D,Pl,d,S,hl,hm,L,hx,B⟩
 ·simp at d;subst d;exact ⟨[],Rp.sl e [] none 0 [] (Nat.le_refl _) (.inl rfl) (.nil e)⟩
 ·simp at d;subst d
  have U:len≤m:=by rw [L]; split<;>omega
  rw [hC] at B
  generalize K:(ets G e).length=sz at *
  have hex:∀i,i<len→∃(z:e.den τ) (F:List Value),RpL P G (hp w) (ets G e) (edt G e z) F∧(∀(j:Nat) v,F[j]? = some v→w.cell? ((a.add (i*sz)).add j)=some v):=by
   intro i hi;obtain ⟨I,hc,N⟩:=B i (by omega);obtain ⟨z,V⟩:=ho _ _ _ N;exact ⟨z,I,V,fun j v Y=>zLV hc Y⟩
  have u:∀k,k≤len→∃(xs:List (e.den τ)) (vs:List Value),xs.length=k∧RpR P G (hp w) e xs vs∧∀(i:Nat) v,vs[i]? = some v→∃q j,i=q*sz+j∧w.cell? ((a.add (q*sz)).add j)=some v:=by
   intro k
   induction k with
   | zero=>intro _; exact ⟨[],[],rfl,.nil e,by simp⟩
   | succ k Z =>
    intro hk;obtain ⟨xs,vs,l,E,o⟩:=Z (by omega);obtain ⟨z,F,O,Q⟩:=hex k (by omega);have g:=zKd E;rw [K] at g;refine ⟨xs++[z],vs++F,by simp [l],zGx O E,fun i v p=>?_⟩
    by_cases hi:i<vs.length
    ·rw [List.getElem?_append_left hi] at p; exact o i v p
    ·rw [List.getElem?_append_right (by omega)] at p;refine ⟨k,i-k*sz,?_,Q _ v (by rw [g,l] at p; exact p)⟩;rw [g,l] at hi; omega
  obtain ⟨xs,vs,l,E,o⟩:=u len (Nat.le_refl _);refine ⟨xs,?_⟩;rw [← l];refine Rp.sl e xs (some a) cap vs (by omega) ?_ E
  cases vs with
  | nil=>exact .inl rfl
  | cons v0 vr =>
   obtain ⟨q,j,r,f⟩:=o 0 v0 rfl
   have J:q=0:=by
    rcases Nat.eq_zero_or_pos q with h|h
    ·exact h
    ·have:1*sz≤q*sz:=Nat.mul_le_mul_right _ h;omega
   subst J
   have M:j=0:=by omega
   subst M
   have ea:(a.add (0*sz)).add 0=a:=by rw [Nat.zero_mul]; unfold Addr.add; simp
   rw [ea] at f;obtain ⟨s,X⟩:=zJT f;obtain ⟨b,off,spot⟩:=a;simp only at s; subst s
   have y:∃c C z2,w.heap[b]? = some (.cells c C z2):=by
    unfold World.cell? at f
    split at f
    ·rename_i c C z2 S; exact ⟨_,_,_,S⟩
    ·cases f
   obtain ⟨c,C,z2,A⟩:=y;refine .inr ⟨b,off,c,C,z2,rfl,A,fun k v p=>?_⟩;obtain ⟨q,j,r,hc⟩:=o k v p;rw [zH4,zH4,Nat.add_assoc, ← r] at hc;unfold World.cell? at hc;dsimp only at hc;rw [A] at hc;simpa using hc
theorem mF_ok {n:Nat} {m:List Ty→TypeId→Option (List Ty)} (u:∀ts t r,m ts t=some r→∀fuel cs x,DataW.trod enc P w base spare held fuel t cs=some x→∀a (q:DP τ r),RpL P G (hp w) r q a→∃p:DP τ ts,RpL P G (hp w) ts p (cs++a)∧(rgL r q→rgL ts p))
  {cs:List Value}:∀(fs:List Field) (o:Nat) (ts r:List Ty) (o':Nat),mF P m fs o ts=some (r,o')→o'=cs.length→(∀f∈fs, ∃y,DataW.trod enc P w base spare held n f.type ((cs.drop f.offset).take (P.cellsOf f.type))=some y) →
   ∀a (q:DP τ r),RpL P G (hp w) r q a→∃p:DP τ ts,RpL P G (hp w) ts p (cs.drop o++a)∧(rgL r q→rgL ts p)
 | [],o,ts,r,o',e,k,_,a,q,d=>by
  unfold mF at e;cases e;rw [k,List.drop_length];exact ⟨q,d,id⟩
 | f :: fs,o,ts,r,o',e,k,v,a,q,d=>by
  unfold mF at e
  cases b:Nat.beq f.offset o with
  | false=>rw [b] at e; cases e
  | true =>
   rw [b] at e
   have c:f.offset=o:=by simpa using b
   replace e:(match m ts f.type with
    | some r=>mF P m fs (o+P.cellsOf f.type) r
    | none=>none)=some (r,o'):=e
   split at e
   ·rename_i A h1
    obtain ⟨p,i,j⟩:=mF_ok u fs _ _ _ _ e k (fun g j=>v g (List.mem_cons_of_mem _ j)) a q d;obtain ⟨y,s⟩:=v f (List.mem_cons_self ..);rw [c] at s;obtain ⟨z,h2,l⟩:=u _ _ _ h1 _ _ _ s _ p i;refine ⟨z,?_,fun h=>l (j h)⟩
    have:cs.drop o=(cs.drop o).take (P.cellsOf f.type)++cs.drop (o+P.cellsOf f.type):=by
     rw [← List.drop_drop,List.take_append_drop]
    rw [this,List.append_assoc];exact h2
   ·cases e
theorem zKe:∀(d:Nat) (ts:List Ty) (t:TypeId) (r:List Ty),mT P G d ts t=some r→∀fuel cs x,DataW.trod enc P w base spare held fuel t cs=some x→∀j (q:DP τ r),RpL P G (hp w) r q j→∃p:DP τ ts,RpL P G (hp w) ts p (cs++j)∧(rgL r q→rgL ts p)
 | 0,_,_,_,e,_,_,_,_,_,_,_=>by cases e
 | d + 1,ts,t,r,e,fuel,cs,x,h,j,q,k=>by
  unfold mT at e
  split at e
  ·rename_i fs c
   split at e
   ·rename_i z o h1
    cases g:Nat.beq o (P.cellsOf t) with
    | false=>rw [g] at e; cases e
    | true =>
     rw [g] at e;cases e;obtain ⟨xs,n,_,rfl,J,A,M⟩:=DataW.trod_struct c h
     have:=mF_ok (cs:=cs) (n:=n) (fun ts t r=>zKe d ts t r) fs 0 ts _ o h1 (by rw [J]; simpa using g) (fun f H=>by
      obtain ⟨i,hi,rfl⟩:=List.mem_iff_getElem.1 H;have E:=M i fs[i] (by simp [hi])
      have F:xs.length=fs.length:=by simpa using A
      rw [List.getElem?_eq_getElem (by omega)] at E
      exact ⟨_,E⟩) j q k
     simpa using this
   ·cases e
  ·rename_i c
   split at e
   ·rename_i z
    cases e;obtain ⟨s,rfl,_,_⟩:=DataW.trod_string c h;obtain ⟨⟨l⟩⟩:=s;exact ⟨.mk (t := .str) l q,zxg (t := .str) (x:=l) (.str l) k,zxh (t := .str) trivial⟩
   ·cases e
  ·rename_i c
   split at e
   ·rename_i z
    cases e;obtain ⟨b,rfl,_⟩:=DataW.trod_bool c h;exact ⟨.mk (t := .bool) b q,zxg (t := .bool) (x:=b) (.bool b) k,zxh (t := .bool) trivial⟩
   ·cases e
  ·rename_i c
   split at e
   ·rename_i z
    cases e;obtain ⟨n,rfl,_,C⟩:=DataW.trod_int c h;exact ⟨.mk (t := .int) n q,zxg (t := .int) (x:=n) (.int n) k,zxh (t := .int) (i64_of C)⟩
   ·cases e
  ·rename_i c
   split at e
   ·rename_i z
    cases e;obtain ⟨n,rfl,_,C⟩:=DataW.trod_int c h;obtain ⟨b,rfl⟩:=zQX C;exact ⟨.mk (t := .u8) b q,zxg (t := .u8) (x:=b) (.u8 b) k,zxh (t := .u8) trivial⟩
   ·cases e
  ·rename_i c
   split at e
   ·rename_i z
    cases e;obtain ⟨n,rfl,_,C⟩:=DataW.trod_int c h;obtain ⟨b,rfl⟩:=zQW C;exact ⟨.mk (t := .u16) b q,zxg (t := .u16) (x:=b) (.u16 b) k,zxh (t := .u16) trivial⟩
   ·cases e
  ·rename_i L c
   split at e
   ·rename_i y z
    split at e
    ·rename_i h1
     cases g:(Nat.beq (P.cellsOf L) (ets G y).length&&Nat.blt 0 (ets G y).length) with
     | false=>rw [g] at e; cases e
     | true =>
      rw [g] at e;cases e;simp only [Bool.and_eq_true,Nat.beq_eq,Nat.blt_eq] at g
      have I:∃v,cs=[v]:=by
       rcases open_slice c h with ⟨u,_⟩|⟨a,len,cap,m,n,D,Pl,u,_⟩
       ·exact ⟨_,u⟩
       ·exact ⟨_,u⟩
      obtain ⟨v,rfl⟩:=I
      obtain ⟨xs,hxs⟩:=zPM (G:=G) (e:=y) c g.1 g.2 (fun fuel cs x K=>by
       obtain ⟨p,B,_⟩:=zKe d _ _ _ h1 fuel cs x K [] () .nil;rw [List.append_nil] at B
       exact ⟨ect G y p,by rw [zFN]; exact B⟩) h
      exact ⟨.mk (t := .sl y) xs q,zxg (t := .sl y) (x:=xs) hxs k,zxh (t := .sl y) trivial⟩
    ·cases e
   ·cases e
  ·cases e
theorem zM4 {h:Fz}:∀{ts:List Ty} {p:DP τ ts} {vs:List Value},ts.all frz=true→RpL P G h ts p vs→TrL P G h w ts p vs []
 | [],_,_,_,h=>by cases h; exact .nil
 | t::ts,_,_,a,h=>by
  cases h with
  | cons _ _ _ v vs h1 h2 =>
   simp only [List.all_cons,Bool.and_eq_true] at a;exact .cons t ts _ v vs [] [] (.fz t _ v a.1 h1) (zM4 a.2 h2) (fun b c=>by cases c)
def mX (P:Program) (G:Sig τ) (d:Nat) (ty:Ty) (t:TypeId):Bool:=match ty with
 | .st n=>(match P.underlying t with
  | some (.struct _)=>true
  | _=>false)&&(match mT P G d (G.fs n) t with
  | some []=>(G.fs n).all frz
  | _=>false)
 | .pr _ _=>false
 | ty=>frz ty&&(match P.underlying t with
  | some .string=>true
  | some .bool=>true
  | some (.int _)=>true
  | some (.slice _)=>true
  | _=>false)&&(match mT P G d [ty] t with
  | some []=>true
  | _=>false)
def mXs (P:Program) (G:Sig τ) (d:Nat):List Ty→List TypeId→Bool
 | [],[]=>true
 | ty::a,t::ts=>mX P G d ty t&&mXs P G d a ts
 | _,_=>false
theorem mX_ok {d:Nat} {ty:Ty} {t:TypeId} (e:mX P G d ty t=true) {r:Reach} {y:Nat} {v:Value} {D:DataW H} {ps:List MemPlace} (a:Value.okWide P w r y t v) (hd:DataW.Trod enc P w base spare held t v D ps) :
  ∃z:ty.den τ,TrX P G (hp w) w ty z v []∧rgX G ty z:=by
 obtain ⟨fuel,m⟩:=hd;unfold mX at e
 split at e
 ·rename_i n
  simp only [Bool.and_eq_true] at e;obtain ⟨f,i⟩:=e
  split at f
  ·rename_i fs c
   split at i
   ·rename_i h1
    simp only [Value.okWide,c] at a;obtain ⟨cs,rfl,_⟩:=a;obtain ⟨p,b,j⟩:=zKe d _ _ _ h1 fuel _ _ m [] () .nil;rw [List.append_nil] at b;obtain ⟨cs⟩:=cs;refine ⟨G.ctor n p,⟨cs,rfl,?_⟩,?_⟩
    ·rw [G.dc];exact zM4 i b
    ·show rgL (G.fs n) (G.dtor n (G.ctor n p));rw [G.dc];exact j trivial
   ·cases i
  ·cases f
 ·cases e
 ·rename_i h1 h2
  simp only [Bool.and_eq_true] at e;obtain ⟨⟨f,o⟩,q⟩:=e
  split at q
  ·rename_i s
   obtain ⟨p,b,j⟩:=zKe d _ _ _ s fuel _ _ m [] () .nil;rw [List.append_nil] at b;refine ⟨DP.hd p,?_,?_⟩
   rotate_left
   ·have:=(j trivial).1
    cases ty with
    | st n=>exact absurd rfl (h1 n)
    | _=>exact this
   generalize g:v.cells.toList=cs at b
   cases b with
   | cons _ _ _ u us B A =>
    cases A
    have k:∀l,v ≠ .agg l:=by
     intro l h;subst h;unfold Value.okWide at a
     split at o
     ·rename_i c; simp [c,Cell.okWide,Cell.ok] at a
     ·rename_i c; simp [c,Cell.okWide,Cell.ok] at a
     ·rename_i c; simp [c,Cell.okWide,Cell.ok] at a
     ·rename_i c; simp [c,Cell.okWide,Cell.ok] at a
     ·cases o
    have x:v=u:=by
     cases v with
     | agg l=>exact (k l rfl).elim
     | _=>simpa [Value.cells] using g
    subst x;exact TrX.plain (.fz _ _ _ f B) h1
  ·cases q
theorem zM5 {d:Nat}:∀{a:List Ty} {ts:List TypeId} {vs:List Value} {n:List (DataW H)} {ps:List MemPlace},mXs P G d a ts=true→(∀(j:Nat) t v,ts[j]? = some t→vs[j]? = some v→∃r l,Value.okWide P w r l t v)→DataW.TrodAll enc P w base spare held ts vs n ps →
  ∃p:DP τ a,TrXs P G (hp w) w a p vs []∧rgXs G a p
 | [],[],_,_,_,_,_,h=>by
  obtain ⟨rfl,_,_⟩:=trodAll_nil h;exact ⟨(),.nil,trivial⟩
 | ty::a,t::ts,_,_,_,e,m,h=>by
  simp only [mXs,Bool.and_eq_true] at e;obtain ⟨v,vs,u,n,p,q,rfl,rfl,rfl,h0,h1⟩:=trodAll_cons h;obtain ⟨r,l,c⟩:=m 0 t v rfl rfl;obtain ⟨z,s,f⟩:=mX_ok e.1 c h0;obtain ⟨k,g,i⟩:=zM5 e.2 (fun j t v h1 h2=>m (j+1) t v (by simpa using h1) (by simpa using h2)) h1
  exact ⟨.mk z k,by
   have:=TrXs.cons (P:=P) (G:=G) (h:=hp w) (w:=w) ty a (.mk z k) v vs [] [] (by rw [DP.hd_mk]; exact s) (by rw [DP.tl_mk]; exact g) (fun b o=>by cases o)
   simpa using this,by rw [DP.hd_mk]; exact f,by rw [DP.tl_mk]; exact i⟩
 | [],_::_,_,_,_,e,_,_=>by simp [mXs] at e
 | _::_,[],_,_,_,e,_,_=>by simp [mXs] at e
theorem law_ok {f:FuncId} {ps:List Ty} {m:DP τ ps→Option Bool} {d:Nat} {ts:List TypeId} (hc:COk P G f ⟨ps,[.bool],1,[],m⟩) (x:∀p,rgXs G ps p→m p=some true) (n:mXs P G d ps ts=true) (c:zsJ P G (hp w)) (i:zEj P G)
  {r:Reach} {k:Nat} {args:Array Value} {y:List (DataW H)} {u:List MemPlace} (q:∀(j:Nat) t v,ts[j]? = some t→args[j]? = some v→Value.okWide P w r k t v) (h:DataW.TrodAll enc P w base spare held ts args.toList y u) :
  Calls P f args w fun e w'=>e = .returned (.bool true)∧Below w.heap.size w w':=by
 obtain ⟨p,g,s⟩:=zM5 (G:=G) n (fun j t v h1 h2=>⟨r,k,q j t v h1 (by simpa using h2)⟩) h;have:=hc.2 (hp w) w p true args.toList [] c i (fun b o e=>e) g (fun b l=>by cases l) (x p s);rw [Array.toArray_toList] at this;refine Calls.mono this ?_;rintro e w' ⟨h',rs,fp',rfl,z,a,_⟩;obtain ⟨rfl,rfl⟩:=zqG a rfl;exact ⟨rfl,zqI z⟩
end
end Go.Rk
end
