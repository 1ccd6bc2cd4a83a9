/- Confluence: a side's bytes, one by one. No program in sight. Confluence: a side goes on reading. No program in sight. Co -/
import Derived.Test.YtkbigjfhddediaaGreatDoorCfA
import Derived.Test.YtkbigjfhddediaaGreatDoorD0
set_option linter.unusedVariables false
set_option linter.unusedSimpArgs false
set_option linter.unusedVariables false
set_option maxRecDepth 10000
set_option maxHeartbeats 4000000
section
namespace Go.Dm
variable {g:zZR} {b:z0i} {a:zZ8} {w:zZ7}
def BW (b:z0i) (w:zZ7):Prop:=Lb b∧Lw w∧(w.z0v.Kind=1∨w.z0v.Kind=2→b.z0v.Kind=2∧w.zZ9=b.zZ9)
def SdL (s:zZ3):Prop:=(s.z00=none∧∃a,s.Accum=some a∧a.z1h=0∧a.f_whole=false)∨∃b w,s.z00=some b∧s.z0b=some w∧BW b w
theorem zMw {x:UInt8} {r:Bool × Int × zZ8} (h:zcj a x=some r):r.2.2.z1i=a.z1i:=by
 unfold zcj at h
 split at h
 ·cases h; rfl
 split at h
 ·obtain ⟨f,_,h⟩:=bi h
  split at h
  ·cases h; rfl
  split at h
  ·cases h; rfl
  obtain ⟨e,_,h⟩:=bi h;obtain ⟨g,_,h⟩:=bi h;obtain ⟨d,b,h⟩:=bi h;cases h;unfold zeO at b
  split at b
  ·obtain ⟨c,_,b⟩:=bi b;cases b; rfl
  split at b
  ·obtain ⟨c,_,b⟩:=bi b;cases b; rfl
  ·obtain ⟨c,_,b⟩:=bi b;cases b; rfl
 ·cases h
theorem bd_o (h:Lb b) {s:Str} (a:s.length≤3000) {q:Int × Str × Bool × Int × z0i} (e:zo b s=some q):q.2.1.length≤3000∧(b.z0v.Kind=2→(q.2.1.length:Int)≤b.zZ9):=by
 obtain ⟨h1,h2,j,k⟩:=h
 by_cases g:b.z0v.Kind=3
 ·obtain ⟨d,hd,hn⟩:=j g;rw [bd_F h1 h2 g hd hn a, ← dk_F a hn] at e;obtain ⟨r,l,e⟩:=bi e;cases e;obtain ⟨o,i,t,p,u,_⟩:=(inferInstance:T (za7 d s) _ _).ok ⟨⟨hn.1,.inr hn.2⟩,a⟩;rw [l] at i;cases i;exact ⟨by show r.2.1.length≤3000; omega,fun c=>by omega⟩
 ·by_cases f:b.z0v.Kind=2
  ·obtain ⟨n,m⟩:=k f;rw [bd_L h1 h2 f (by omega) m a] at e;cases e;refine ⟨?_,fun _=>?_⟩
   ·show (s.take _).length≤3000;rw [List.length_take]; omega
   ·show ((s.take _).length:Int)≤_;rw [List.length_take]; omega
  ·rw [bd_C h1 h2 g f] at e;cases e;exact ⟨a,fun c=>absurd c f⟩
theorem bw_1 (h:BW b w) {x:UInt8} {r:Int × Str × Bool × Int × z0i} {p:Str × Int × zZ7} (e:zo b [x]=some r) (G:zk w r.2.1=some p) :
  r.1=1∧((∀s,s.length≤2999→zo b (x::s)=some r)∧(r.2.2.1=true∨r.2.2.2.1≠0)∨r.2.2.1=false∧r.2.2.2.1=0∧BW r.2.2.2.2 p.2.2∧∀s,s.length≤2999→zo b (x::s)=(zo r.2.2.2.2 s).bind (fun q=>some (q.1+1,r.2.1++q.2.1,q.2.2))∧∀q,zo r.2.2.2.2 s=some q→zk w (r.2.1++q.2.1)=(zk p.2.2 q.2.1).bind fun g=>some (p.1++g.1,g.2)):=by
 obtain ⟨lb,E,t⟩:=h;obtain ⟨H,o,u,D⟩:=bd_1 lb e;refine ⟨H,?_⟩
 rcases D with ⟨a,c⟩|⟨a,c,d,f⟩
 ·exact .inl ⟨c,a⟩
 ·have A:=bd_o lb (by simp) e
  have key:∀(s:Str) q,s.length≤2999→zo r.2.2.2.2 s=some q→Lw p.2.2∧p.2.2.z0v=w.z0v∧(w.z0v.Kind=1∨w.z0v.Kind=2→p.2.2.zZ9=w.zZ9-r.2.1.length)∧zk w (r.2.1++q.2.1)=(zk p.2.2 q.2.1).bind fun g=>some (p.1++g.1,g.2):=fun s q m j=>by
   have y:=bd_o d (by omega) j;refine wr_app E A.1 y.1 (fun k=>?_) G;obtain ⟨i,K⟩:=t k;obtain ⟨F,z⟩:=u i;have I:=y.2 (by rw [o]; exact i);have:=lb.2.2.2 i;omega
  have B:∃q,zo r.2.2.2.2 []=some q:=by
   have:=f [] (by simp);rw [e] at this;obtain ⟨q,j,_⟩:=bi this.symm;exact ⟨q,j⟩
  obtain ⟨q0,l⟩:=B;obtain ⟨C,i,n,_⟩:=key [] q0 (by simp) l;refine .inr ⟨a,c,⟨d,C,fun k=>?_⟩,fun s m=>⟨f s m,fun q j=>(key s q m j).2.2.2⟩⟩;rw [i] at k;obtain ⟨v,J⟩:=t k;obtain ⟨F,z⟩:=u v;have n:=n k;exact ⟨by rw [o]; exact v,by omega⟩
theorem zMx (n m k:Nat):zf n (m+k) 1=zf (n+m) k 1:=by unfold zf; rw [Nat.add_assoc]
theorem fu2:∃k,fuel=k+2:=⟨fuel-2,by unfold fuel; rfl⟩
def cU (g:zZR) (c:zZ3) (t:List UInt8):zZR:=⟨g.Queue,g.z0O,g.z0c,g.z0C,c,g.zZS,g.zZ5,t,g.z0I,g.z0f,g.z0y,g.z0J,g.z0r,g.z0t,g.z0u,g.zZV⟩
theorem fw1 (g:zZR) (t:Str):zae g [t]=if zf g.z0H.length t.length 1=true then some (cU g g.zZT (g.z0H++t)) else none:=by
 show zD [t] (([t]:List Str).length:Int) fuel g 0=_;obtain ⟨k,a⟩:=fu2;rw [a];unfold zD;rw [if_pos (by simp)];show (if zf g.z0H.length t.length 1=true then (zh 0 1).bind _ else none)=_
 by_cases c:zf g.z0H.length t.length 1=true
 ·rw [if_pos c,if_pos c];show zD [t] (([t]:List Str).length:Int) (k+1) _ 1=_;unfold zD;rw [if_neg (by simp)]; rfl
 ·rw [if_neg c,if_neg c]
theorem rq_h (h1:g.zZT.z00=none) (h2:g.zZT.Accum=some a) (s:Str):ze g s=(zaV a s).bind fun b=>zp (cS g (some b.2.2.2) none g.zZT.z0b) b.1 b.2.1 b.2.2.1:=by
 unfold ze;rw [h1];show zK _ s true=_;unfold zK;rw [if_pos rfl];show Go.Rk.optK g.zZT.Accum _ _=_;rw [h2]; rfl
theorem rq_b (h1:g.zZT.z00=some b) (h2:g.zZT.z0b=some w) (s:Str):ze g s=(zo b s).bind fun a=>(zk w a.2.1).bind fun c=>zy (cS g g.zZT.Accum (some a.2.2.2.2) (some c.2.2)) a.1 a.2.2.1 a.2.2.2.1 c.1:=by
 unfold ze;rw [h1];show zK _ s false=_;unfold zK;rw [if_neg Bool.false_ne_true];show ((zo b s).bind fun a=>zW _ _ _ _ _)=_
 cases zo b s with
 | none=>rfl
 | some a =>
  show zW _ a.1 a.2.1 a.2.2.1 a.2.2.2.1=_;unfold zW;show Go.Rk.optK g.zZT.z0b _ _=_;rw [h2]; rfl
theorem rq_0s (v:zZR) (i:Int) (t:Bool) (e:Int):zp v (i+1) t e=(zp v i t e).bind fun q=>some (q.1+1,q.2):=by
 unfold zp
 split
 ·cases zV v e<;>rfl
 ·split
  ·cases zaY v<;>rfl
  ·rfl
theorem rq_1 (h:SdL g.zZT) {x:UInt8} {r:Int × zZR} (e:ze g [x]=some r):r.1=1 ∧
  ((∀s,s.length≤2999→ze g (x::s)=some r)∨(∃c t,r.2=cU g c t∧SdL c∧¬ idl c)∧∀s,s.length≤2999→ze g (x::s)=(ze r.2 s).bind fun q=>some (q.1+1,q.2)):=by
 rcases h with ⟨h1,a,h2,u,I⟩|⟨b,w,h1,h2,u⟩
 ·have F:=fun s=>rq_h h1 h2 s;have A:=fun (s:Str) (m:s.length≤3000)=>ac_f (s:=s) (by omega) u I;rw [F,A [x] (by simp)] at e;obtain ⟨q,B,e⟩:=bi e;have o:(acT a x).bind (fun r=>if r.1=true∨r.2.1≠0 then some ((1:Int),r.1,r.2.1,acE (acN r)) else (acF [] (acN r)).bind fun q=>some (q.1+1,q.2))=some q:=B;obtain ⟨r0,C,n⟩:=bi o
  have G:∀s,acF (x::s) a=if r0.1=true∨r0.2.1≠0 then some ((1:Int),r0.1,r0.2.1,acE (acN r0)) else (acF s (acN r0)).bind fun q=>some (q.1+1,q.2):=fun s=>by
   show (acT a x).bind _=_;rw [C]; rfl
  by_cases st:r0.1=true∨r0.2.1≠0
  ·rw [if_pos st] at n;cases n;refine ⟨?_,.inl fun s m=>?_⟩
   ·have e:zp _ 1 _ _=some r:=e;unfold zp at e
    split at e
    ·obtain ⟨z,_,e⟩:=bi e;cases e; rfl
    ·split at e
     ·obtain ⟨z,_,e⟩:=bi e;cases e; rfl
     ·cases e; rfl
   ·rw [F,A (x::s) (by simp; omega),G s,if_pos st];exact e
  ·rw [if_neg st] at n;cases n
   have E:r0.1=false:=by cases y:r0.1<;>simp_all
   have D:r0.2.1=0:=by
    by_cases y:r0.2.1=0
    ·exact y
    ·exact absurd (.inr y) st
   have tk:(acN r0).z1i=true:=zMw C;have H:zp (cS g (some (acN r0)) none g.zZT.z0b) (0+1) false 0=some r:=e
   have K:zp (cS g (some (acN r0)) none g.zZT.z0b) (0+1) false 0=some (0+1,cS g (some (acN r0)) none g.zZT.z0b):=by
    unfold zp;rw [if_neg (by simp),if_neg (by simp)]
   rw [K] at H;cases H;refine ⟨rfl,.inr ⟨⟨⟨some (acN r0),none,g.zZT.z0b⟩,g.z0H,rfl,.inl ⟨rfl,_,rfl,D,E⟩,fun c=>?_⟩,fun s m=>?_⟩⟩
   ·have:=c.2 _ rfl;rw [tk] at this; cases this
   ·rw [F,A (x::s) (by simp; omega),G s,if_neg st,rq_h (g:=cS g (some (acN r0)) none g.zZT.z0b) rfl rfl s,ac_f (by omega) D E]
    cases acF s (acN r0) with
    | none=>rfl
    | some q=>exact rq_0s (cS g (some q.2.2.2) none g.zZT.z0b) q.1 q.2.1 q.2.2.1
 ·have F:=fun s=>rq_b h1 h2 s;rw [F] at e;obtain ⟨j,B,e⟩:=bi e;obtain ⟨p,o,e⟩:=bi e;obtain ⟨k,v⟩:=bw_1 u B o
  rcases v with ⟨a,st⟩|⟨a,c,d,f⟩
  ·refine ⟨?_,.inl fun s m=>?_⟩
   ·unfold zy at e;obtain ⟨z,_,e⟩:=bi e
    split at e
    ·obtain ⟨z2,_,e⟩:=bi e;cases e; exact k
    ·split at e
     ·obtain ⟨z2,_,e⟩:=bi e;cases e; exact k
     ·cases e; exact k
   ·rw [F,a s m];show (zk w j.2.1).bind _=_;rw [o]; exact e
  ·unfold zy at e;rw [fw1,a,c] at e
   have ft:zf g.z0H.length p.1.length 1=true:=by
    by_cases q:zf g.z0H.length p.1.length 1=true
    ·exact q
    ·have:(if zf g.z0H.length p.1.length 1=true then some (cU (cS g g.zZT.Accum (some j.2.2.2.2) (some p.2.2)) ⟨g.zZT.Accum,some j.2.2.2.2,some p.2.2⟩ (g.z0H++p.1)) else none)=none:=if_neg q;have l:((if zf g.z0H.length p.1.length 1=true then some (cU (cS g g.zZT.Accum (some j.2.2.2.2) (some p.2.2)) ⟨g.zZT.Accum,some j.2.2.2.2,some p.2.2⟩ (g.z0H++p.1)) else none).bind _)=some r:=e;rw [this] at l; cases l
   have l:((if zf g.z0H.length p.1.length 1=true then some (cU g ⟨g.zZT.Accum,some j.2.2.2.2,some p.2.2⟩ (g.z0H++p.1)) else none).bind fun k=>if (!((0:Int)==0))=true then (zV k 0).bind (fun v=>some (j.1,v)) else if false=true then (zao k).bind (fun J=>some (j.1,J)) else some (j.1,k))=some r:=e;rw [if_pos ft] at l;have l:some (j.1,cU g ⟨g.zZT.Accum,some j.2.2.2.2,some p.2.2⟩ (g.z0H++p.1))=some r:=l;cases l;refine ⟨k,.inr ⟨⟨_,_,rfl,.inr ⟨_,_,rfl,rfl,d⟩,fun c=>by have:=c.1; cases this⟩,fun s m=>?_⟩⟩;obtain ⟨M,L⟩:=f s m;rw [F,M,rq_b (g:=cU g ⟨g.zZT.Accum,some j.2.2.2.2,some p.2.2⟩ (g.z0H++p.1)) rfl rfl s]
   cases hq:zo j.2.2.2.2 s with
   | none=>rfl
   | some q =>
    show (zk w (j.2.1++q.2.1)).bind _=((zk p.2.2 q.2.1).bind _).bind _;rw [L q hq]
    cases zk p.2.2 q.2.1 with
    | none=>rfl
    | some i =>
     show zy (cS g g.zZT.Accum (some q.2.2.2.2) (some i.2.2)) (q.1+1) q.2.2.1 q.2.2.2.1 (p.1++i.1)=(zy (cS (cU g ⟨g.zZT.Accum,some j.2.2.2.2,some p.2.2⟩ (g.z0H++p.1)) g.zZT.Accum (some q.2.2.2.2) (some i.2.2)) q.1 q.2.2.1 q.2.2.2.1 i.1).bind _;unfold zy;rw [fw1,fw1]
     have N:zf (cS g g.zZT.Accum (some q.2.2.2.2) (some i.2.2)).z0H.length (p.1++i.1).length 1=zf (cS (cU g ⟨g.zZT.Accum,some j.2.2.2.2,some p.2.2⟩ (g.z0H++p.1)) g.zZT.Accum (some q.2.2.2.2) (some i.2.2)).z0H.length i.1.length 1:=by
      show zf g.z0H.length (p.1++i.1).length 1=zf (g.z0H++p.1).length i.1.length 1;rw [List.length_append,List.length_append,zMx]
     have z2:cU (cS g g.zZT.Accum (some q.2.2.2.2) (some i.2.2)) (cS g g.zZT.Accum (some q.2.2.2.2) (some i.2.2)).zZT ((cS g g.zZT.Accum (some q.2.2.2.2) (some i.2.2)).z0H++(p.1++i.1))=cU (cS (cU g ⟨g.zZT.Accum,some j.2.2.2.2,some p.2.2⟩ (g.z0H++p.1)) g.zZT.Accum (some q.2.2.2.2) (some i.2.2)) (cS (cU g ⟨g.zZT.Accum,some j.2.2.2.2,some p.2.2⟩ (g.z0H++p.1)) g.zZT.Accum (some q.2.2.2.2) (some i.2.2)).zZT ((cS (cU g ⟨g.zZT.Accum,some j.2.2.2.2,some p.2.2⟩ (g.z0H++p.1)) g.zZT.Accum (some q.2.2.2.2) (some i.2.2)).z0H++i.1):=by
      show cU g ⟨g.zZT.Accum,some q.2.2.2.2,some i.2.2⟩ (g.z0H++(p.1++i.1))=cU g ⟨g.zZT.Accum,some q.2.2.2.2,some i.2.2⟩ ((g.z0H++p.1)++i.1);rw [List.append_assoc]
     rw [N,z2]
     split
     ·show (if (!(q.2.2.2.1==0))=true then _ else _)=(if (!(q.2.2.2.1==0))=true then _ else _:Option _).bind _
      split
      ·cases zV _ _<;>rfl
      ·split
       ·cases zao _<;>rfl
       ·rfl
     ·rfl
def uU (g:zZR) (c:zZ3) (t:List UInt8):zZR:=⟨g.Queue,g.z0O,g.z0c,g.z0C,g.zZT,c,t,g.z0H,g.z0I,g.z0f,g.z0y,g.z0J,g.z0r,g.z0t,g.z0u,g.zZV⟩
theorem sd1 (g:zZR) (t:Str):zY g [t]=if zf g.zZ5.length t.length 1=true then some (uU g g.zZS (g.zZ5++t)) else none:=by
 show zC [t] (([t]:List Str).length:Int) fuel g 0=_;obtain ⟨k,a⟩:=fu2;rw [a];unfold zC;rw [if_pos (by simp)];show (if zf g.zZ5.length t.length 1=true then (zh 0 1).bind _ else none)=_
 by_cases c:zf g.zZ5.length t.length 1=true
 ·rw [if_pos c,if_pos c];show zC [t] (([t]:List Str).length:Int) (k+1) _ 1=_;unfold zC;rw [if_neg (by simp)]; rfl
 ·rw [if_neg c,if_neg c]
theorem rs_h (h1:g.zZS.z00=none) (h2:g.zZS.Accum=some a) (s:Str):zj g s=(zaV a s).bind fun b=>zm (uS g (some b.2.2.2) none g.zZS.z0b) b.1 b.2.1 b.2.2.1:=by
 unfold zj;rw [h1];show zH _ s true=_;unfold zH;rw [if_pos rfl];show Go.Rk.optK g.zZS.Accum _ _=_;rw [h2]; rfl
theorem rs_b (h1:g.zZS.z00=some b) (h2:g.zZS.z0b=some w) (s:Str):zj g s=(zo b s).bind fun a=>(zk w a.2.1).bind fun c=>zu (uS g g.zZS.Accum (some a.2.2.2.2) (some c.2.2)) a.1 a.2.2.1 a.2.2.2.1 c.1:=by
 unfold zj;rw [h1];show zH _ s false=_;unfold zH;rw [if_neg Bool.false_ne_true];show ((zo b s).bind fun a=>zR _ _ _ _ _)=_
 cases zo b s with
 | none=>rfl
 | some a =>
  show zR _ a.1 a.2.1 a.2.2.1 a.2.2.2.1=_;unfold zR;show Go.Rk.optK g.zZS.z0b _ _=_;rw [h2]; rfl
theorem rs_0s (v:zZR) (i:Int) (t:Bool) (e:Int):zm v (i+1) t e=(zm v i t e).bind fun q=>some (q.1+1,q.2):=by
 unfold zm
 split
 ·cases zO v 502<;>rfl
 ·split
  ·cases zaL v<;>rfl
  ·rfl
theorem rs_1 (h:SdL g.zZS) {x:UInt8} {r:Int × zZR} (e:zj g [x]=some r):r.1=1 ∧
  ((∀s,s.length≤2999→zj g (x::s)=some r)∨(∃c t,r.2=uU g c t∧SdL c∧¬ idl c)∧∀s,s.length≤2999→zj g (x::s)=(zj r.2 s).bind fun q=>some (q.1+1,q.2)):=by
 rcases h with ⟨h1,a,h2,u,I⟩|⟨b,w,h1,h2,u⟩
 ·have F:=fun s=>rs_h h1 h2 s;have A:=fun (s:Str) (m:s.length≤3000)=>ac_f (s:=s) (by omega) u I;rw [F,A [x] (by simp)] at e;obtain ⟨q,B,e⟩:=bi e;have o:(acT a x).bind (fun r=>if r.1=true∨r.2.1≠0 then some ((1:Int),r.1,r.2.1,acE (acN r)) else (acF [] (acN r)).bind fun q=>some (q.1+1,q.2))=some q:=B;obtain ⟨r0,C,n⟩:=bi o
  have G:∀s,acF (x::s) a=if r0.1=true∨r0.2.1≠0 then some ((1:Int),r0.1,r0.2.1,acE (acN r0)) else (acF s (acN r0)).bind fun q=>some (q.1+1,q.2):=fun s=>by
   show (acT a x).bind _=_;rw [C]; rfl
  by_cases st:r0.1=true∨r0.2.1≠0
  ·rw [if_pos st] at n;cases n;refine ⟨?_,.inl fun s m=>?_⟩
   ·have e:zm _ 1 _ _=some r:=e;unfold zm at e
    split at e
    ·obtain ⟨z,_,e⟩:=bi e;cases e; rfl
    ·split at e
     ·obtain ⟨z,_,e⟩:=bi e;cases e; rfl
     ·cases e; rfl
   ·rw [F,A (x::s) (by simp; omega),G s,if_pos st];exact e
  ·rw [if_neg st] at n;cases n
   have E:r0.1=false:=by cases y:r0.1<;>simp_all
   have D:r0.2.1=0:=by
    by_cases y:r0.2.1=0
    ·exact y
    ·exact absurd (.inr y) st
   have tk:(acN r0).z1i=true:=zMw C;have H:zm (uS g (some (acN r0)) none g.zZS.z0b) (0+1) false 0=some r:=e
   have K:zm (uS g (some (acN r0)) none g.zZS.z0b) (0+1) false 0=some (0+1,uS g (some (acN r0)) none g.zZS.z0b):=by
    unfold zm;rw [if_neg (by simp),if_neg (by simp)]
   rw [K] at H;cases H;refine ⟨rfl,.inr ⟨⟨⟨some (acN r0),none,g.zZS.z0b⟩,g.zZ5,rfl,.inl ⟨rfl,_,rfl,D,E⟩,fun c=>?_⟩,fun s m=>?_⟩⟩
   ·have:=c.2 _ rfl;rw [tk] at this; cases this
   ·rw [F,A (x::s) (by simp; omega),G s,if_neg st,rs_h (g:=uS g (some (acN r0)) none g.zZS.z0b) rfl rfl s,ac_f (by omega) D E]
    cases acF s (acN r0) with
    | none=>rfl
    | some q=>exact rs_0s (uS g (some q.2.2.2) none g.zZS.z0b) q.1 q.2.1 q.2.2.1
 ·have F:=fun s=>rs_b h1 h2 s;rw [F] at e;obtain ⟨j,B,e⟩:=bi e;obtain ⟨p,o,e⟩:=bi e;obtain ⟨k,v⟩:=bw_1 u B o
  rcases v with ⟨a,st⟩|⟨a,c,d,f⟩
  ·refine ⟨?_,.inl fun s m=>?_⟩
   ·unfold zu at e;obtain ⟨z,_,e⟩:=bi e
    split at e
    ·obtain ⟨z2,_,e⟩:=bi e;cases e; exact k
    ·split at e
     ·obtain ⟨z2,_,e⟩:=bi e;cases e; exact k
     ·cases e; exact k
   ·rw [F,a s m];show (zk w j.2.1).bind _=_;rw [o]; exact e
  ·unfold zu at e;rw [sd1,a,c] at e
   have ft:zf g.zZ5.length p.1.length 1=true:=by
    by_cases q:zf g.zZ5.length p.1.length 1=true
    ·exact q
    ·have:(if zf g.zZ5.length p.1.length 1=true then some (uU (uS g g.zZS.Accum (some j.2.2.2.2) (some p.2.2)) ⟨g.zZS.Accum,some j.2.2.2.2,some p.2.2⟩ (g.zZ5++p.1)) else none)=none:=if_neg q;have l:((if zf g.zZ5.length p.1.length 1=true then some (uU (uS g g.zZS.Accum (some j.2.2.2.2) (some p.2.2)) ⟨g.zZS.Accum,some j.2.2.2.2,some p.2.2⟩ (g.zZ5++p.1)) else none).bind _)=some r:=e;rw [this] at l; cases l
   have l:((if zf g.zZ5.length p.1.length 1=true then some (uU g ⟨g.zZS.Accum,some j.2.2.2.2,some p.2.2⟩ (g.zZ5++p.1)) else none).bind fun k=>if (!((0:Int)==0))=true then (zT k).bind (fun v=>some (j.1,v)) else if false=true then (zL k).bind (fun J=>some (j.1,J)) else some (j.1,k))=some r:=e;rw [if_pos ft] at l;have l:some (j.1,uU g ⟨g.zZS.Accum,some j.2.2.2.2,some p.2.2⟩ (g.zZ5++p.1))=some r:=l;cases l;refine ⟨k,.inr ⟨⟨_,_,rfl,.inr ⟨_,_,rfl,rfl,d⟩,fun c=>by have:=c.1; cases this⟩,fun s m=>?_⟩⟩;obtain ⟨M,L⟩:=f s m;rw [F,M,rs_b (g:=uU g ⟨g.zZS.Accum,some j.2.2.2.2,some p.2.2⟩ (g.zZ5++p.1)) rfl rfl s]
   cases hq:zo j.2.2.2.2 s with
   | none=>rfl
   | some q =>
    show (zk w (j.2.1++q.2.1)).bind _=((zk p.2.2 q.2.1).bind _).bind _;rw [L q hq]
    cases zk p.2.2 q.2.1 with
    | none=>rfl
    | some i =>
     show zu (uS g g.zZS.Accum (some q.2.2.2.2) (some i.2.2)) (q.1+1) q.2.2.1 q.2.2.2.1 (p.1++i.1)=(zu (uS (uU g ⟨g.zZS.Accum,some j.2.2.2.2,some p.2.2⟩ (g.zZ5++p.1)) g.zZS.Accum (some q.2.2.2.2) (some i.2.2)) q.1 q.2.2.1 q.2.2.2.1 i.1).bind _;unfold zu;rw [sd1,sd1]
     have N:zf (uS g g.zZS.Accum (some q.2.2.2.2) (some i.2.2)).zZ5.length (p.1++i.1).length 1=zf (uS (uU g ⟨g.zZS.Accum,some j.2.2.2.2,some p.2.2⟩ (g.zZ5++p.1)) g.zZS.Accum (some q.2.2.2.2) (some i.2.2)).zZ5.length i.1.length 1:=by
      show zf g.zZ5.length (p.1++i.1).length 1=zf (g.zZ5++p.1).length i.1.length 1;rw [List.length_append,List.length_append,zMx]
     have z2:uU (uS g g.zZS.Accum (some q.2.2.2.2) (some i.2.2)) (uS g g.zZS.Accum (some q.2.2.2.2) (some i.2.2)).zZS ((uS g g.zZS.Accum (some q.2.2.2.2) (some i.2.2)).zZ5++(p.1++i.1))=uU (uS (uU g ⟨g.zZS.Accum,some j.2.2.2.2,some p.2.2⟩ (g.zZ5++p.1)) g.zZS.Accum (some q.2.2.2.2) (some i.2.2)) (uS (uU g ⟨g.zZS.Accum,some j.2.2.2.2,some p.2.2⟩ (g.zZ5++p.1)) g.zZS.Accum (some q.2.2.2.2) (some i.2.2)).zZS ((uS (uU g ⟨g.zZS.Accum,some j.2.2.2.2,some p.2.2⟩ (g.zZ5++p.1)) g.zZS.Accum (some q.2.2.2.2) (some i.2.2)).zZ5++i.1):=by
      show uU g ⟨g.zZS.Accum,some q.2.2.2.2,some i.2.2⟩ (g.zZ5++(p.1++i.1))=uU g ⟨g.zZS.Accum,some q.2.2.2.2,some i.2.2⟩ ((g.zZ5++p.1)++i.1);rw [List.append_assoc]
     rw [N,z2]
     split
     ·show (if (!(q.2.2.2.1==0))=true then _ else _)=(if (!(q.2.2.2.1==0))=true then _ else _:Option _).bind _
      split
      ·rfl
      ·split
       ·cases zL _<;>rfl
       ·rfl
     ·rfl
end Go.Dm
end
section
namespace Go.Dm
variable {g:zZR} {h:zZY} {f:zZ4}
def PC {α:Type} (Q:α→Prop) (X:Option α):Prop:=∀r,X=some r→Q r
theorem zbn {α:Type} {Q:α→Prop} {a:α} (h:Q a):PC Q (some a):=fun _ e=>by cases e; exact h
theorem zJX {α:Type} {Q:α→Prop}:PC Q none:=fun _ e=>by cases e
theorem z6 {α β:Type} {Q:β→Prop} {x:Option α} {f:α→Option β} (k:∀a,x=some a→PC Q (f a)):PC Q (x.bind f):=fun r e=>by
 obtain ⟨a,b,c⟩:=bi e;exact k a b r c
theorem zhK {α β:Type} {P:α→Prop} {Q:β→Prop} {x:Option α} {f:α→Option β} (h:PC P x) (k:∀a,P a→PC Q (f a)):PC Q (x.bind f):=z6 fun a e=>k a (h a e)
theorem za0 {α:Type} {Q:α→Prop} {c:Prop} [Decidable c] {x y:Option α} (h:c→PC Q x) (k:¬ c→PC Q y):PC Q (if c then x else y):=by
 by_cases d:c
 ·rw [if_pos d]; exact h d
 ·rw [if_neg d]; exact k d
theorem zqO {τ α:Type} {Q:α→Prop} {o:Option τ} {x:Option α} {f:τ→Option α} (h:o=none→PC Q x) (k:∀t,o=some t→PC Q (f t)):PC Q (Go.Rk.optK o x f):=by
 cases o with
 | none=>exact h rfl
 | some t=>exact k t rfl
def Vc (c:z0Q):Prop:=0≤c.Head∧c.Head≤65536∧1≤c.Chunk∧c.Chunk≤65536
def Fk (f:zZ4):Prop:=(f.Kind=1∨f.Kind=2∨f.Kind=3∨f.Kind=4)∧0≤f.N∧f.N≤1099511627776
theorem zqP {k n:Int} (a:k=1∨k=2) (h0:0≤n) (h1:n≤65536):PC SdL (zbO k n):=by
 have j:ziH k n=some (some ⟨k,n,[],0,false,0,false,⟨0,[],[],0,[],0,[]⟩⟩,0):=by
  unfold ziH zdn
  rcases a with rfl|rfl
  ·rw [if_neg (by simp),if_neg (by simpa using h0),if_neg (by simpa using h1)]
  ·rw [if_pos (by decide),if_neg (by decide),if_neg (by simpa using h0),if_neg (by simpa using h1)]
 unfold zbO;rw [j];exact zbn (.inl ⟨rfl,_,rfl,rfl,rfl⟩)
theorem lenK (h:zZY) (k:Int):PC (fun r:zZ4 × Int=>r.2=0→r.1.Kind=k∨r.1.Kind=2∨r.1.Kind=3) (znz h k):=by
 have c:∀r l,PC (fun r:zZ4 × Int × z0w=>r.2.1=0→r.1.Kind=3) (zdy r l):=fun r l =>
  z6 fun _ _=>za0 (fun _=>zbn fun c=>absurd c (by simp)) fun _=>za0 (fun _=>zbn fun c=>absurd c (by simp)) fun _=>za0 (fun _=>zbn fun c=>absurd c (by simp)) fun _=>z6 fun _ _=>z6 fun _ _=>za0 (fun _=>zbn fun c=>absurd c (by simp)) fun _=>zbn fun _=>rfl
 have p:∀(d:Int→Int→Option (zZ4 × Int × z0w)) b i l m,(∀x y,PC (fun r:zZ4 × Int × z0w=>r.2.1=0→r.1.Kind=2) (d x y))→∀(n:Nat) (x y:Int),PC (fun r:zZ4 × Int × z0w=>r.2.1=0→r.1.Kind=2) (zai d b i l m n x y):=fun d b i l m q n=>by
  induction n with
  | zero=>intro x y; exact zJX
  | succ n f =>
   intro x y;have j:∀a c t,PC (fun r:zZ4 × Int × z0w=>r.2.1=0→r.1.Kind=2) (zbr (zai d b i l m n) b a c t):=fun a c t=>za0 (fun _=>zbn fun c=>absurd c (by simp)) fun _=>z6 fun _ _=>f _ _;exact za0 (fun _=>z6 fun _ _=>z6 fun _ _=>za0 (fun _=>j _ _ _) fun _=>za0 (fun _=>j _ _ _) fun _=>j _ _ _) fun _=>z6 fun _ _=>q _ _
 have o:∀b l m, ∀(n:Nat) (x y:Int),PC (fun r:zZ4 × Int × z0w=>r.2.1=0→r.1.Kind=2) (zaQ b l m n x y):=fun b l m n=>by
  induction n with
  | zero=>intro x y; exact zJX
  | succ n f =>
   intro x y;exact za0 (fun _=>z6 fun _ _=>z6 fun _ _=>za0 (fun _=>zbn fun c=>absurd c (by simp)) fun _=>p _ _ _ _ _ (fun x y=>f x y) _ _ _) fun _=>za0 (fun _=>zbn fun c=>absurd c (by simp)) fun _=>zbn fun _=>rfl
 have j:∀v l m t,PC (fun r:zZ4 × Int=>r.2=0→r.1.Kind=k∨r.1.Kind=2∨r.1.Kind=3) (zkV k v l m t):=fun v l m t =>
  za0 (fun _=>zbn fun c=>absurd c (by simp)) fun _=>za0 (fun _=>zhK (c _ _) fun r g=>zbn fun e => .inr (.inr (g e))) fun _=>za0 (fun _=>zhK (o _ _ _ _ _ _) fun r g=>zbn fun e => .inr (.inl (g e))) fun _=>zbn fun _ => .inl rfl
 exact z6 fun _ _=>z6 fun _ _=>z6 fun _ _=>za0 (fun _=>j _ _ _ _) fun _=>j _ _ _ _
theorem lenQ (d:Fm h.Fields):PC (fun r:zZ4 × Int=>r.2=0→Fk r.1) (zeJ h):=fun r e c=>by
 obtain ⟨r',b,g,i⟩:=(inferInstance:T (zeJ h) _ _).ok d;rw [e] at b;cases b;have k:=(zhK (lenK h 1) fun a f=>zbn (Q:=fun r:zZ4 × Int=>r.2=0→r.1.Kind=1∨r.1.Kind=2∨r.1.Kind=3) f) r e c;exact ⟨by omega,g,i⟩
theorem lenR {m:Str} (d:Fm h.Fields):PC (fun r:zZ4 × Int=>r.2=0→Fk r.1) (zdU m h):=fun r e c=>by
 obtain ⟨r',b,g,i⟩:=(inferInstance:T (zdU m h) _ _).ok d;rw [e] at b;cases b;have k:r.1.Kind=1∨r.1.Kind=4∨r.1.Kind=2∨r.1.Kind=3:=(z6 (Q:=fun r:zZ4 × Int=>r.2=0→r.1.Kind=1∨r.1.Kind=4∨r.1.Kind=2∨r.1.Kind=3) fun _ _=>za0 (fun _=>zbn fun _ => .inl rfl) fun _=>zhK (lenK h 4) fun a f=>zbn fun c => .inr (f c)) r e c;exact ⟨by omega,g,i⟩
def Nb (f:zZ4) (b:z0i):Prop:=b.z0v=f∧b.zZ9=f.N∧b.z1h=false∧(b.z0V=false→f.Kind≠1∧(f.Kind=2→f.N≠0))∧(f.Kind=3→∃d,b.Decoder=some d∧Dn d∧Dg d)
def Nr (f:zZ4) (c:Int) (w:zZ7):Prop:=w.z0v=f∧w.z0V=false∧(f.Kind=2→w.zZ9=f.N)∧(f.Kind=3→w.Encoder=some ⟨c,[],false⟩)
theorem newB (i:Fk f) {n:Int} (h0:0≤n) (h1:n≤65536):PC (fun r:Option z0i × Int=>∃b,r.1=some b∧Nb f b) (zn9 f n):=by
 obtain ⟨k,n0,m⟩:=i
 have e:zkb n=some (some ⟨n,0,[],0,0,0,[]⟩,0):=by
  unfold zkb;rw [if_neg (by simpa using h0),if_neg (by simpa using h1)]
 have hd:Dn ⟨n,0,[],0,0,0,[]⟩∧Dg ⟨n,0,[],0,0,0,[]⟩:=⟨⟨by simp,by simp,by simp,by simp,by simp,h1,by simp,by simp⟩,⟨h0,by simp,by simp⟩⟩
 have j:∀v:z0i,v.z0v=f→v.zZ9=f.N→v.z1h=false→(f.Kind=3→∃d,v.Decoder=some d∧Dn d∧Dg d)→PC (fun r:Option z0i × Int=>∃b,r.1=some b∧Nb f b) (zmz f v):=fun v h1 h2 g h =>
  za0 (fun c=>zbn ⟨_,rfl,h1,h2,g,(fun d=>by cases d),h⟩) fun c=>za0 (fun a=>zbn ⟨_,rfl,h1,h2,g,fun d=>⟨by simpa using c,fun _=>by
   have d:(f.N==0)=false:=d
   simpa using d⟩,h⟩) fun a=>zbn ⟨_,rfl,h1,h2,g,fun d=>⟨by simpa using c,fun l=>absurd l (by simpa using a)⟩,h⟩
 unfold zn9;rw [e];show PC _ (zkc f (some ⟨n,0,[],0,0,0,[]⟩) 0);unfold zkc;rw [if_neg (by simp),if_neg (by simp; omega),if_neg (by simp; omega),if_neg (by simpa using n0),if_neg (by simpa using m)];exact za0 (fun c=>j _ rfl rfl rfl fun _=>⟨_,rfl,hd⟩) fun c=>j _ rfl rfl rfl fun a=>absurd a (by simpa using c)
theorem newW (b:Fk f) {n:Int} (h0:1≤n) (h1:n≤65536):PC (fun r:Option zZ7 × Int=>∃w,r.1=some w∧Nr f n w) (zin f n):=by
 obtain ⟨k,n0,g⟩:=b
 have e:zdx n=some (some ⟨n,[],false⟩,0):=by
  unfold zdx;rw [if_neg (by simpa using h0),if_neg (by simpa using h1)]
 unfold zin;rw [e];show PC _ (zgo f (some ⟨n,[],false⟩) 0);unfold zgo;rw [if_neg (by simp),if_neg (by simp; omega),if_neg (by simp; omega),if_neg (by simpa using n0)];exact za0 (fun c=>zbn ⟨_,rfl,rfl,rfl,(fun d=>by have c:(f.Kind==3)=true:=c; rw [d] at c; cases c),fun _=>rfl⟩) fun c=>za0 (fun a=>zbn ⟨_,rfl,rfl,rfl,fun _=>rfl,fun d=>absurd d (by simpa using c)⟩) fun a=>zbn ⟨_,rfl,rfl,rfl,fun d=>absurd d (by simpa using a),fun d=>absurd d (by simpa using c)⟩
theorem newP {f f2:zZ4} {b:z0i} {w:zZ7} {n:Int} (m:Fk f) (p:Nb f b) (l:Nr f2 n w) (h0:1≤n) (h1:n≤65536) (h2:(f.Kind=1∨f.Kind=2→f2=f)∧(f2.Kind=1∨f2.Kind=2→f2=f)) (hd:b.z0V=false):BW b w:=by
 obtain ⟨a,h,r,i,u⟩:=p;obtain ⟨g,j,q,t⟩:=l;obtain ⟨k,n0,v⟩:=m;obtain ⟨s,o⟩:=i hd;refine ⟨⟨hd,r,fun c=>u (by rw [← a]; exact c),fun c=>?_⟩,⟨j,fun c=>?_⟩,fun c=>?_⟩
 ·rw [a] at c;have:=o c;rw [h]; omega
 ·rw [g] at c;exact ⟨_,t c,rfl,h0,h1,by show (0:Int)<n; omega⟩
 ·rw [g] at c;have e:=h2.2 c;rw [e] at c;have d:f.Kind=2:=c.resolve_left s;exact ⟨by rw [a]; exact d,by rw [q (by rw [e]; exact d),h,e]⟩
def Fs (g r:zZR):Prop:=r.z0c=g.z0c∧r.zZT=g.zZT∧r.zZS=g.zZS
theorem fw_p (g:zZR) (t:Str):PC (Fs g) (zae g [t]):=by
 rw [fw1]; exact za0 (fun _=>zbn ⟨rfl,rfl,rfl⟩) fun _=>zJX
theorem sd_p (g:zZR) (t:Str):PC (Fs g) (zY g [t]):=by
 rw [sd1]; exact za0 (fun _=>zbn ⟨rfl,rfl,rfl⟩) fun _=>zJX
def Lc (r:zZR):Prop:=SdL r.zZT∨r.z0f=true
def Lu (r:zZR):Prop:=r.zZV=true∨SdL r.zZS
theorem wh0_l (h:Vc g.z0c) (t:zZZ):PC Lc (zaw g t):=zhK (zqP (.inl rfl) h.1 h.2.1) fun r a=>zbn (.inl a)
theorem wh1_l (h:Vc g.z0c) (v:zZY):PC Lc (zax g v):=z6 fun _ _=>zqO (fun _=>z6 fun _ _=>wh0_l (by exact h) _) fun _ _=>z6 fun _ _=>wh0_l (by exact h) _
theorem zKZ (h:Vc g.z0c) (s:Str):PC Lc (z8 g s):=zhK (fw_p g s) fun r a=>by
 have h:Vc r.z0c:=by rw [a.1]; exact h
 exact zqO (fun _=>z6 fun _ _=>wh1_l (by exact h) _) fun _ _=>z6 fun _ _=>wh1_l (by exact h) _
theorem wh_l (h:Vc g.z0c):PC Lc (zao g):=zqO (fun _=>zqO (fun _=>z6 fun _ _=>z6 fun _ _=>zKZ (by exact h) _) fun _ _=>z6 fun _ _=>z6 fun _ _=>zKZ (by exact h) _) fun _ _=>zqO (fun _=>z6 fun _ _=>z6 fun _ _=>zKZ (by exact h) _) fun _ _=>z6 fun _ _=>z6 fun _ _=>zKZ (by exact h) _
theorem rf_l (g:zZR) (e:Int):PC Lc (zV g e):=z6 fun _ _=>zbn (.inr rfl)
def Nd (s:zZ3):Prop:=∃b w,s.z00=some b∧s.z0b=some w∧(b.z0V=false→BW b w)
theorem as0_l (h:Vc g.z0c) (hn:Nd g.zZT):PC Lc (zaz g):=by
 obtain ⟨b,w,h1,h2,d⟩:=hn;refine zqO (fun c=>by rw [h1] at c; cases c) fun t a=>?_;rw [h1] at a;cases a;show PC _ (zay _ b.z0V);exact za0 (fun _=>zhK (wh_l (by exact h)) fun r e=>zbn e) fun c=>zbn (.inl (.inr ⟨b,w,rfl,h2,d (by simpa using c)⟩))
theorem as2_l (h:Vc g.z0c) {f:zZ4} (a:Fk f) {b:z0i} (h1:g.zZT.z00=some b) (h2:Nb f b):PC Lc (zaA g f) :=
 zhK (newW a h.2.2.1 h.2.2.2) fun r e=>by
  obtain ⟨w,c,hn⟩:=e;rw [c];exact as0_l (by exact h) ⟨b,w,h1,rfl,fun d=>newP a h2 hn h.2.2.1 h.2.2.2 ⟨fun _=>rfl,fun _=>rfl⟩ d⟩
theorem onw_l (g:zZR) {v:zZY} (a:Fm v.Fields):PC (fun r:Str × zZ4 × Int=>r.2.2=0→Fk r.2.1) (zbQ g v) :=
 za0 (fun _=>zbn fun c=>absurd c (by simp)) fun _=>zhK (lenQ a) fun e h1=>za0 (fun c=>zbn fun d=>absurd d (by simpa using c)) fun c=>z6 fun b _=>za0 (fun c=>zbn fun d=>absurd d (by simpa using c)) fun _=>z6 fun f _=>zbn fun _=>h1 (by simpa using c)
theorem as3_l (h:Vc g.z0c) {v:zZY} (j:Fm v.Fields):PC Lc (zaB g v) :=
 zhK (onw_l g j) fun m h1=>za0 (fun _=>zhK (rf_l g _) fun r k=>zbn k) fun c=>zhK (fw_p g _) fun f d=>by
  have a:=h1 (by simpa using c)
  have h:Vc f.z0c:=by rw [d.1]; exact h
  refine zhK (newB a h.1 h.2.1) fun l e=>?_;obtain ⟨b,i,hn⟩:=e;rw [i];exact as2_l (by exact h) a (by exact rfl) hn
theorem Hd_f (k:Hd h):Fm h.Fields:=⟨by have:=k.1; omega,fun f a=>⟨by have:=(k.2.1 f a).1; omega,by have:=(k.2.1 f a).2; omega⟩⟩
theorem as_l (h:Vc g.z0c) (c:Sd g.zZT):PC Lc (zaY g) :=
 zqO (fun _=>z6 fun r e=>by cases e; exact as3_l (by exact h) ⟨by simp,fun f k=>by cases k⟩) fun a i=>z6 fun r l=>by
  have d:Am a:=by have:=c.1; rw [i] at this; exact this
  obtain ⟨r',b,j⟩:=(inferInstance:T (zbH a) _ _).ok d;rw [l] at b;cases b;exact as3_l (by exact h) (Hd_f j)
theorem an0_l (h:Vc g.z0c):PC Lu (zag g):=zhK (zqP (.inr rfl) h.1 h.2.1) fun r a=>za0 (fun _=>z6 fun b e=>by cases e; exact zbn (.inl rfl)) fun _=>zbn (.inr a)
theorem an1_l (h:Vc g.z0c):PC Lu (zah g):=za0 (fun _=>an0_l (by exact h)) fun _=>an0_l (by exact h)
theorem zK0 (h:Vc g.z0c) (s:Str):PC Lu (zQ g s):=zhK (sd_p g s) fun r a=>by
 have h:Vc r.z0c:=by rw [a.1]; exact h
 exact zqO (fun _=>z6 fun _ _=>an1_l (by exact h)) fun _ _=>z6 fun _ _=>an1_l (by exact h)
theorem an_l (h:Vc g.z0c):PC Lu (zL g):=zqO (fun _=>zqO (fun _=>z6 fun _ _=>z6 fun _ _=>zK0 (by exact h) _) fun _ _=>z6 fun _ _=>z6 fun _ _=>zK0 (by exact h) _) fun _ _=>zqO (fun _=>z6 fun _ _=>z6 fun _ _=>zK0 (by exact h) _) fun _ _=>z6 fun _ _=>z6 fun _ _=>zK0 (by exact h) _
theorem tl_l (g:zZR) (c:Int):PC (fun r=>r.zZV=true) (zO g c):=z6 fun _ _=>z6 fun _ _=>z6 fun r e=>by cases e; exact zbn rfl
def L0 (r:Int × zZR):Prop:=r.1=0→Lu r.2
theorem fi0_l (h:Vc g.z0c) (hn:Nd g.zZS):PC L0 (zaD g):=by
 obtain ⟨b,w,h1,h2,d⟩:=hn;refine zqO (fun c=>by rw [h1] at c; cases c) fun t a=>?_;rw [h1] at a;cases a;show PC _ (zaC _ b.z0V);exact za0 (fun _=>zhK (an_l (by exact h)) fun r e=>zbn fun _=>e) fun c=>zbn fun _ => .inr (.inr ⟨b,w,rfl,h2,d (by simpa using c)⟩)
theorem fi2_l (h:Vc g.z0c) {f f2:zZ4} (c:Fk f) (a:Fk f2) (e:(f.Kind=1∨f.Kind=2→f2=f)∧(f2.Kind=1∨f2.Kind=2→f2=f)) {b:z0i} (h1:g.zZS.z00=some b) (h2:Nb f b):PC L0 (zaE g f2) :=
 zhK (newW a h.2.2.1 h.2.2.2) fun r i=>by
  obtain ⟨w,j,hn⟩:=i;rw [j];exact fi0_l (by exact h) ⟨b,w,h1,rfl,fun d=>newP c h2 hn h.2.2.1 h.2.2.2 e d⟩
theorem zqQ (h:Vc g.z0c) {f f2:zZ4} (e:Fk f) (a:Fk f2) (m:(f.Kind=1∨f.Kind=2→f2=f)∧(f2.Kind=1∨f2.Kind=2→f2=f)) (t:zZZ) (v:zZY):PC L0 (zaF g t f f2 v) :=
 z6 fun p _=>z6 fun n _=>za0 (fun c=>zbn fun d=>absurd d (by simpa using c)) fun _=>zhK (sd_p g _) fun k i=>by
  have h:Vc k.z0c:=by rw [i.1]; exact h
  refine zhK (newB e h.1 h.2.1) fun o j=>?_;obtain ⟨b,l,hn⟩:=j;rw [l];exact fi2_l (by exact h) e a m (by exact rfl) hn
theorem out_l (e:Fk f) (m:Int):PC (fun f2:zZ4=>Fk f2∧(f.Kind=1∨f.Kind=2→f2=f)∧(f2.Kind=1∨f2.Kind=2→f2=f)) (zmA f m):=by
 obtain ⟨k,n0,b⟩:=e;refine za0 (fun c=>zbn ⟨⟨k,n0,b⟩,fun _=>rfl,fun _=>rfl⟩) fun c=>za0 (fun a=>zbn ⟨⟨k,n0,b⟩,fun _=>rfl,fun _=>rfl⟩) fun a=>?_
 have g:f.Kind≠1:=by simpa using c
 have a2:f.Kind≠2:=by simpa using a
 exact za0 (fun _=>zbn ⟨⟨.inr (.inr (.inl rfl)),by simp,by simp⟩,fun d=>by omega,fun d=>by simp at d⟩) fun _=>zbn ⟨⟨.inr (.inr (.inr rfl)),by simp,by simp⟩,fun d=>by omega,fun d=>by simp at d⟩
theorem fi_l (h:Vc g.z0c) {v:zZY} (b:Fm v.Fields) (t:zZZ):PC L0 (zbe g v t) :=
 zhK (lenR b) fun f h1=>za0 (fun c=>zbn fun d=>absurd d (by simpa using c)) fun c=>by
  have a:=h1 (by simpa using c);exact zhK (out_l a t.Minor) fun e h2=>z6 fun i _=>za0 (fun c=>zbn fun d=>absurd d (by simpa using c)) fun _=>za0 (fun _=>z6 fun _ _=>za0 (fun _=>zqQ (by exact h) a h2.1 h2.2 _ _) fun _=>zqQ (by exact h) a h2.1 h2.2 _ _) fun _=>z6 fun _ _=>za0 (fun _=>zqQ (by exact h) a h2.1 h2.2 _ _) fun _=>zqQ (by exact h) a h2.1 h2.2 _ _
theorem in0_l (h:Vc g.z0c) (i:Int):PC L0 (zal g i):=zhK (zqP (.inr rfl) h.1 h.2.1) fun r a=>zbn fun _ => .inr a
theorem in_l (h:Vc g.z0c) (v:zZY) (t:zZZ):PC L0 (za3 g v t):=by
 have j:∀i s b,PC L0 (zam g i s b):=fun i s b=>za0 (fun _=>zhK (sd_p g _) fun r a=>by
  have h:Vc r.z0c:=by rw [a.1]; exact h
  exact in0_l (by exact h) i) fun _=>in0_l (by exact h) i
 exact z6 fun e _=>za0 (fun c=>zbn fun d=>absurd d (by simpa using c)) fun _=>z6 fun _ _=>za0 (fun _=>j _ _ _) fun _=>j _ _ _
theorem zO3 {i:Int} (h:i=0→Lu g):PC Lu (zab g i):=za0 (fun _=>zhK (tl_l g _) fun r a=>zbn (.inl a)) fun c=>zbn (h (by simpa using c))
theorem aw1_l (h:Vc g.z0c) {v:zZY} (b:Fm v.Fields) (t:zZZ):PC Lu (zan g v t):=za0 (fun _=>zO3 fun c=>absurd c (by simp)) fun _=>za0 (fun _=>zhK (in_l (by exact h) v t) fun r a=>zO3 a) fun _=>zhK (fi_l (by exact h) b t) fun r a=>zO3 a
theorem aw_l (h:Vc g.z0c) (n:Sd g.zZS):PC Lu (zaL g):=by
 have j:∀(g:zZR) (v:zZY),Vc g.z0c→Fm v.Fields→PC Lu (zac g v):=fun g v h c=>zqO (fun _=>z6 fun _ _=>aw1_l (by exact h) c _) fun _ _=>z6 fun _ _=>aw1_l (by exact h) c _;refine zqO (fun _=>z6 fun r e=>by cases e; exact j _ _ h ⟨by simp,fun f d=>by cases d⟩) fun a k=>z6 fun r l=>?_
 have i:Am a:=by have:=n.1; rw [k] at this; exact this
 obtain ⟨r',b,m⟩:=(inferInstance:T (zbH a) _ _).ok i;rw [l] at b;cases b;exact j _ _ h (Hd_f m)
theorem zO4 {a:zZ8} (h:Am a) {s:Str} (c:s.length≤3000) (d:a.z0D.length+s.length≤3000) {q:Int × Bool × Int × zZ8} (e:zaV a s=some q):Am q.2.2.2:=by
 obtain ⟨f,b,k⟩:=(inferInstance:T (zaV a s) _ _).ok ⟨h,by omega⟩;rw [e] at b;cases b;exact k.1
theorem rq_l (h:SdL g.zZT) (s:Vc g.z0c) (n:Sd g.zZT) (m:kc g≤2999) {x:UInt8} {r:Int × zZR} (e:ze g [x]=some r):Lc r.2:=by
 rcases h with ⟨h1,a,h2,l,z⟩|⟨b,w,h1,h2,l⟩
 ·rw [rq_h h1 h2] at e
  have y:Am a:=by have:=n.1; rw [h2] at this; exact this
  have A:a.z0D.length+([x]:Str).length≤3000:=by
   unfold kc kb at m; rw [h2] at m; simp at m ⊢; omega
  obtain ⟨q,i,e⟩:=bi e;have j:=zO4 y (by simp) A i;rw [ac_f (by simp) l z] at i;have v:=(ac_n _ _ _ i).2.2;refine za0 (Q:=fun r:Int × zZR=>Lc r.2) (fun _=>zhK (rf_l _ _) fun r f=>zbn f) (fun c=>za0 (fun _=>zhK (as_l (g:=cS g (some q.2.2.2) none g.zZT.z0b) s ⟨j,trivial,n.2.2⟩) fun r f=>zbn f) fun d=>zbn (.inl (.inl ⟨rfl,_,rfl,?_⟩))) r e
  have c:q.2.2.1=0:=by simpa using c
  have d:q.2.1=false:=by simpa using d
  obtain ⟨_,B,u⟩:=v d c;exact ⟨B.resolve_right (by simp),u.resolve_right (by simp)⟩
 ·rw [rq_b h1 h2] at e;obtain ⟨t,i,e⟩:=bi e;obtain ⟨p,D,e⟩:=bi e;have k:=(bw_1 l i D).2;refine zhK (Q:=fun r:Int × zZR=>Lc r.2) (fw_p _ _) (fun C o=>za0 (fun _=>zhK (rf_l _ _) fun r f=>zbn f) fun c=>za0 (fun _=>zhK (wh_l (by rw [o.1]; exact s)) fun r f=>zbn f) fun d=>zbn (.inl ?_)) r e
  have c:t.2.2.2.1=0:=by simpa using c
  have d:t.2.2.1=false:=by simpa using d
  rcases k with ⟨_,k⟩|⟨_,_,k,_⟩
  ·rcases k with k|k
   ·rw [d] at k; cases k
   ·exact absurd c k
  ·show SdL C.zZT;rw [o.2.1];exact .inr ⟨_,_,rfl,rfl,k⟩
theorem rs_l (h:SdL g.zZS) (s:Vc g.z0c) (n:Sd g.zZS) (m:ku g≤2999) {x:UInt8} {r:Int × zZR} (e:zj g [x]=some r):Lu r.2:=by
 rcases h with ⟨h1,a,h2,l,z⟩|⟨b,w,h1,h2,l⟩
 ·rw [rs_h h1 h2] at e
  have y:Am a:=by have:=n.1; rw [h2] at this; exact this
  have A:a.z0D.length+([x]:Str).length≤3000:=by
   unfold ku kb at m; rw [h2] at m; simp at m ⊢; omega
  obtain ⟨q,i,e⟩:=bi e;have j:=zO4 y (by simp) A i;rw [ac_f (by simp) l z] at i;have v:=(ac_n _ _ _ i).2.2;refine za0 (Q:=fun r:Int × zZR=>Lu r.2) (fun _=>zhK (tl_l _ _) fun r f=>zbn (.inl f)) (fun c=>za0 (fun _=>zhK (aw_l (g:=uS g (some q.2.2.2) none g.zZS.z0b) s ⟨j,trivial,n.2.2⟩) fun r f=>zbn f) fun d=>zbn (.inr (.inl ⟨rfl,_,rfl,?_⟩))) r e
  have c:q.2.2.1=0:=by simpa using c
  have d:q.2.1=false:=by simpa using d
  obtain ⟨_,B,u⟩:=v d c;exact ⟨B.resolve_right (by simp),u.resolve_right (by simp)⟩
 ·rw [rs_b h1 h2] at e;obtain ⟨t,i,e⟩:=bi e;obtain ⟨p,D,e⟩:=bi e;have k:=(bw_1 l i D).2;refine zhK (Q:=fun r:Int × zZR=>Lu r.2) (sd_p _ _) (fun C o=>za0 (fun _=>z6 fun E e=>by cases e; exact zbn (.inl rfl)) fun c=>za0 (fun _=>zhK (an_l (by rw [o.1]; exact s)) fun r f=>zbn f) fun d=>zbn (.inr ?_)) r e
  have c:t.2.2.2.1=0:=by simpa using c
  have d:t.2.2.1=false:=by simpa using d
  rcases k with ⟨_,k⟩|⟨_,_,k,_⟩
  ·rcases k with k|k
   ·rw [d] at k; cases k
   ·exact absurd c k
  ·show SdL C.zZS;rw [o.2.2];exact .inr ⟨_,_,rfl,rfl,k⟩
end Go.Dm
end
section
namespace Go.Dm
variable {g:zZR} {x:UInt8}
theorem q_e {o:Option z0a} (h:g.Queue=o):(⟨o,g.z0O,g.z0c,g.z0C,g.zZT,g.zZS,g.zZ5,g.z0H,g.z0I,g.z0f,g.z0y,g.z0J,g.z0r,g.z0t,g.z0u,g.zZV⟩:zZR)=g:=by
 subst h; rfl
theorem zPh {g r:zZR} {c:Int} (h:zO g c=some r):r=tel g c:=by
 obtain ⟨t,e,h⟩:=bi h;obtain ⟨b,a,h⟩:=bi h;rw [sd1] at a
 split at a
 ·cases a;cases h;unfold tel;rw [e]; rfl
 ·cases a
theorem zqR {g r:zZR} (h:zg g=some r):r=sg g:=by
 have f:∀(t:Bool) r,zar g (ql g:Int) t=some r→r=if t=true then tel g 502 else if 0<ql g then g else if g.z0I≠0 then tel g g.z0I else if g.z0y=true then clo g else g:=fun t r h=>by
  unfold zar at h
  split at h
  ·rename_i c
   obtain ⟨n,b,h⟩:=bi h;cases h;rw [if_pos c]; exact zPh b
  rename_i c
  rw [if_neg c]
  split at h
  ·rename_i j
   cases h;rw [if_pos (by simpa using j)]
  rename_i j
  rw [if_neg (by simpa using j)]
  split at h
  ·rename_i l
   obtain ⟨n,b,h⟩:=bi h;cases h;rw [if_pos (by simpa using l)]; exact zPh b
  rename_i l
  rw [if_neg (by simpa using l)]
  split at h
  ·rename_i i
   obtain ⟨n,b,h⟩:=bi h;cases h;rw [if_pos i]; cases b; rfl
  ·rename_i i
   cases h;rw [if_neg i]
 have m:∀r,zaf g (ql g:Int)=some r→r=sg g:=fun r h=>by
  unfold zaf at h;unfold sg
  split at h
  ·rename_i c
   cases h;rw [if_pos c]
  rename_i c
  rw [if_neg c]
  split at h
  ·rename_i n0
   have n0:0<ql g:=by simpa using n0
   split at h
   ·rename_i d
    have:=f _ _ h;rw [this]
    cases hb:g.z0r with
    | true =>
     have a:¬ ((!true)=true):=by simp
     have z2:¬ (0<ql g∧g.z0J=true∧true=false):=by simp
     rw [if_neg a,if_neg z2]
    | false =>
     have a:(!false)=true:=rfl;rw [if_pos a,if_pos ⟨n0,d,rfl⟩]
   ·rename_i d
    have:=f _ _ h
    have a:¬ (false=true):=by simp
    have z2:¬ (0<ql g∧g.z0J=true∧g.z0r=false):=fun k=>d k.2.1;rw [this,if_neg a,if_neg z2]
  ·rename_i n0
   have n0:¬ 0<ql g:=by simpa using n0
   have:=f _ _ h
   have a:¬ (false=true):=by simp
   have z2:¬ (0<ql g∧g.z0J=true∧g.z0r=false):=fun k=>n0 k.1;rw [this,if_neg a,if_neg z2]
 unfold zg at h
 cases hq:g.Queue with
 | none =>
  have e:(ql g:Int)=0:=by unfold ql; rw [hq]; rfl
  rw [hq] at h;have h:zaf _ 0=some r:=h;rw [q_e hq, ← e] at h;exact m r h
 | some q =>
  have e:(ql g:Int)=q.z0l.z0N.length:=by unfold ql; rw [hq]
  rw [hq] at h;have h:zaf _ (q.z0l.z0N.length:Int)=some r:=h;rw [q_e hq, ← e] at h;exact m r h
def Lv (g:zZR):Prop:=g.zZV=true∨Lc g∧Lu g
theorem Lv_s (h:Lv g):Lv (sg g):=by
 rcases sg_c (g:=g) with k|k
 ·exact .inl k
 ·rw [k]; exact h
theorem zqS (g:zZR):(sg g).z0c=g.z0c:=by
 unfold sg
 split
 ·rfl
 split
 ·rfl
 split
 ·rfl
 split
 ·rfl
 split<;>rfl
theorem zPi (g:zZR):(sg g).z0y=g.z0y:=by
 unfold sg
 split
 ·rfl
 split
 ·rfl
 split
 ·rfl
 split
 ·rfl
 split<;>rfl
theorem rd_c (h:zI g=some true):g.zZV=false∧g.z0f=false:=by
 unfold zI at h
 split at h
 ·rename_i c
  split at h
  ·rename_i d
   exact ⟨by simpa using c,by simpa using d⟩
  ·cases h
 ·cases h
theorem dr_s (s:Str) (i:Int) (h:0≤i) (h2:i≤s.length):zas s i=some (dr s i):=by unfold zas; rw [if_pos ⟨h,h2⟩]; rfl
theorem zPj (i k:Int):zh (i+1) k=zh i (k+1):=by unfold zh; rw [show i+1+k=i+(k+1) by omega]
def Bc (g:zZR) (m:Int):Prop:=Gw g∧Vc g.z0c∧kc g+m≤3000∧tu g+10000000*m≤30000000000000∧tc g+10000*m≤30000000000000
def Bu (g:zZR) (m:Int):Prop:=Gw g∧Vc g.z0c∧ku g+m≤3000∧tc g+10000000*m≤30000000000000
noncomputable abbrev NF (c:WS):WS:=nf s1 s2 mw c
abbrev QW (c d:WS):Prop:=Q2 (fun c:WS=>c.g.zZV=true) (fun c:WS=>c.g.zZ5) c d
theorem PKe_u {g r:zZR} {q:z0a} (h:g.Queue=some q) (h1:(q.z0l.z0N.length:Int)<q.z0l.z0d) (h2:q.z0l.z0d≤64) (e:PKe (some x) g=some r):r.z0c=g.z0c∧r.zZS=g.zZS∧r.zZV=g.zZV∧r.z0y=g.z0y:=by
 obtain ⟨s,_,rfl,c⟩:=PK_1 h h1 h2 e;exact ⟨c.2.1,rfl,rfl,rfl⟩
theorem QKe_u {j:Option UInt8} {g r:zZR} {t:zZZ} {l:List zZZ} {m:Int} {b:Bool} (h:g.Queue=some ⟨⟨t::l,m⟩,b⟩) (hc:g.zZV=false) (e:QKe j g=some r):r.z0c=g.z0c∧r.z0y=g.z0y∧(r.zZV=true∨r.zZT=g.zZT∧r.z0f=g.z0f):=by
 rw [zuB h] at e;obtain ⟨s,c,rfl⟩:=om_i e;refine ⟨(QK_1 j h hc c).2.1,rfl,?_⟩
 cases a:s.zZV with
 | true=>exact .inl a
 | false =>
  refine .inr ⟨?_,rfl⟩;show (bif s.zZV then s.zZT else g.zZT)=_;rw [a]; rfl
theorem pk_t {a:Int × zZR} {q:z0a} (h:g.Queue=some q) (h1:(q.z0l.z0N.length:Int)<q.z0l.z0d) (h2:q.z0l.z0d≤64) (e:ze g [x]=some a):PKe (some x) g=some a.2:=by
 obtain ⟨s,b,rfl⟩:=(req_j h h1 h2 [x]).1 a e
 have c:zpK g=q.z0t:=by unfold zpK; rw [h]
 show (ze (bC g (zpK g)) [x]).map _=_;rw [c,b]; rfl
theorem qk_t {a:Int × zZR} {t:zZZ} {l:List zZZ} {m:Int} {b:Bool} (h:g.Queue=some ⟨⟨t::l,m⟩,b⟩) (hc:g.zZV=false) (e:zj g [x]=some a):QKe (some x) g=some a.2:=by
 obtain ⟨s,c,rfl⟩:=(res_j h hc [x]).1 a e;rw [zuB h];show ((zj (bU g t) [x]).bind fun r=>some r.2).map _=_;rw [c]; rfl
theorem zPk {s:Str} (hs:s.length≤3000) (rest b:List UInt8) (ea eb:Bool):∀(m n:Nat) (i:Int) (g:zZR) (r:Int × Int × zZR),0≤i→i+m=s.length→m<n →
  Bc g m→Ig g ea→Lv g→(g.zZV=true∨g.z0y=false)→zi s n g i=some r →
  NF ⟨g,dr s i++rest,b,ea,eb⟩=NF ⟨r.2.2,dr s r.1++rest,b,ea,eb⟩∧Ig r.2.2 ea∧Lv r.2.2∧(r.2.2.zZV=true∨r.2.2.z0y=false)∧r.2.2.z0c=g.z0c
 | m,0,i,g,r,_,_,h,_,_,_,_,_=>by omega
 | 0,n+1,i,g,r,h0,h1,h2,hB,v,D,E,e=>by
  unfold zi zaO at e;rw [if_neg (by simp; omega),if_neg (by simp)] at e;cases e;exact ⟨rfl,v,D,E,rfl⟩
 | m + 1,n+1,i,g,r,h0,h1,h2,hB,v,D,E,e=>by
  have hi:i<s.length:=by omega
  obtain ⟨x,_,ed⟩:=dr_c h0 hi;have e0:=e;unfold zi at e;rw [if_pos (by simpa using hi)] at e;obtain ⟨rd,A,e⟩:=bi e
  cases rd with
  | false =>
   cases e;exact ⟨rfl,v,D,E,rfl⟩
  | true =>
   obtain ⟨hc,z⟩:=rd_c A;obtain ⟨B1,B2,B3,B4,B5⟩:=hB;obtain ⟨q,H,F,I3,I4,I5,I6,I7,I8,I9⟩:=v.resolve_left (by rw [hc]; simp)
   have sd:SdL g.zZT:=by
    have:=(D.resolve_left (by rw [hc]; simp)).1;exact this.resolve_right (by rw [z]; simp)
   have lu:Lu g:=(D.resolve_left (by rw [hc]; simp)).2;have hg:g.z0y=false:=E.resolve_left (by rw [hc]; simp);have e:(zas s i).bind (fun u=>(ze g u).bind fun B=>(zh i B.1).bind fun j=>(zg B.2).bind fun f=>zi s n f j)=some r:=e;rw [dr_s s i h0 (by omega),ed] at e;have e:(ze g (x::dr s (i+1))).bind (fun B=>(zh i B.1).bind fun j=>(zg B.2).bind fun f=>zi s n f j)=some r:=e;obtain ⟨d,o,p1,p2,p3,p4,p5,p6,p7,p8⟩:=(inferInstance:T (ze g [x]) _ _).ok ⟨B1,by show kc g+(1:Int)≤3000; omega,by omega⟩;obtain ⟨k1,w⟩:=rq_1 sd o;have en:En1 (some x) g:=fun _=>⟨hg,A⟩;have rm:=room (ea:=ea) (i:=some x) H F I3 I8 en (by simp);have S:PKe (some x) g=some d.2:=pk_t H rm F o;have R:=s1_m (g:=g) (a:=x::(dr s (i+1)++rest)) (b:=b) (ea:=ea) (eb:=eb) (l:=dr s (i+1)++rest) (e:=ea) (i:=some x) hc ⟨rfl,rfl⟩ en S;have P:Iw ⟨g,x::(dr s (i+1)++rest),b,ea,eb⟩:=v;have n1:=nf_1 dia P R;have Q:=Ig_1 (a:=x::dr s (i+1)) (l:=dr s (i+1)) (e:=ea) hc v (i:=some x) ⟨rfl,rfl⟩ en S;obtain ⟨C,U,Z,J⟩:=PKe_u H rm F S
   have L2:Lv (sg d.2):=Lv_s (.inr ⟨rq_l sd B2 B1.2.2.2.2.1 (by omega) o,by
    rcases lu with l|l
    ·exact .inl (by rw [Z]; exact l)
    ·exact .inr (by rw [U]; exact l)⟩)
   obtain ⟨gs,G,t1,t2,t3,t4,t5,_⟩:=(inferInstance:T (zg d.2) _ _).ok ⟨p3,by omega⟩;have L:=zqR G;subst L;have kB:Bc (sg d.2) m:=⟨t1,by rw [zqS,C]; exact B2,by omega,by omega,by omega⟩;have M:(sg d.2).zZV=true∨(sg d.2).z0y=false := .inr (by rw [zPi,J]; exact hg);rw [ed];show NF ⟨g,x::(dr s (i+1)++rest),b,ea,eb⟩=_∧_
   have a1:zh i 1=some (i+1):=by simp [zh,inI]; omega
   have fin:∀p,m<p→zi s p (sg d.2) (i+1)=some r→NF ⟨g,x::(dr s (i+1)++rest),b,ea,eb⟩=NF ⟨r.2.2,dr s r.1++rest,b,ea,eb⟩∧Ig r.2.2 ea∧Lv r.2.2∧(r.2.2.zZV=true∨r.2.2.z0y=false)∧r.2.2.z0c=g.z0c:=fun p Y e'=>by
    obtain ⟨z1,z2,z3,z4,z5⟩:=zPk hs rest b ea eb m p (i+1) (sg d.2) r (by omega) (by omega) Y kB Q L2 M e';exact ⟨n1.trans z1,z2,z3,z4,by rw [z5,zqS,C]⟩
   rcases w with w|⟨⟨c,t,k3,k4,k5⟩,w⟩
   ·rw [w _ (by unfold dr; rw [List.length_drop]; omega)] at e;have e:(zh i d.1).bind (fun j=>(zg d.2).bind fun f=>zi s n f j)=some r:=e;rw [k1,a1] at e;have e:(zg d.2).bind (fun f=>zi s n f (i+1))=some r:=e;rw [G] at e;exact fin n (by omega) e
   ·have same:sg d.2=d.2:=by
     rw [k3];exact zGB I4 fun c=>⟨(I5 c).1,(I5 c).2.1⟩
    rw [same] at fin G;refine fin (n+1) (by omega) ?_;have e:=e;rw [w _ (by unfold dr; rw [List.length_drop]; omega)] at e;obtain ⟨q2,N,e⟩:=bi e;obtain ⟨k,K,N⟩:=bi N;cases N;have O:(zh i (k.1+1)).bind (fun j=>(zg k.2).bind fun f=>zi s n f j)=some r:=e;unfold zi
    by_cases y:i+1<s.length
    ·have W:zI d.2=some true:=by
      rw [k3];exact (ztU (g:=cU g c t) H F I3).2 ⟨hc,z,.inl k5⟩
     rw [if_pos (by simpa using y),W];show (zas s (i+1)).bind _=_;rw [dr_s s (i+1) (by omega) (by omega)];show (ze d.2 (dr s (i+1))).bind _=_;rw [K];show (zh (i+1) k.1).bind _=_;rw [zPj]; exact O
    ·have X:dr s (i+1)=[]:=List.drop_eq_nil_of_le (by omega);have I:=w [] (by simp);rw [X] at K;rw [o,K] at I;have I:some d=some (k.1+1,k.2):=I;cases I;have V:k.1+1=1:=k1;rw [V] at O;have e:(zh i 1).bind (fun j=>(zg k.2).bind fun f=>zi s n f j)=some r:=O;rw [a1] at e;have e:(zg k.2).bind (fun f=>zi s n f (i+1))=some r:=e;rw [G] at e;have e:zi s n k.2 (i+1)=some r:=e;obtain ⟨p,rfl⟩:∃p,n=p+1:=⟨n-1,by omega⟩;unfold zi at e;rw [if_neg (by simpa using y)] at e ⊢;exact e
theorem zPl {s:Str} (hs:s.length≤3000) (rest a:List UInt8) (ea eb:Bool):∀(m n:Nat) (i:Int) (g:zZR) (r:Int × Int × zZR),0≤i→i+m=s.length→m<n →
  Bu g m→Ig g ea→Lv g→za s n g i=some r →
  QW (NF ⟨g,a,dr s i++rest,ea,eb⟩) (NF ⟨r.2.2,a,dr s r.1++rest,ea,eb⟩)∧Ig r.2.2 ea∧Lv r.2.2∧r.2.2.z0c=g.z0c∧r.2.2.z0y=g.z0y
 | m,0,i,g,r,_,_,h,_,_,_,_=>by omega
 | 0,n+1,i,g,r,h0,h1,h2,Y,w,D,e=>by
  unfold za zw at e;rw [if_neg (by simp; omega),if_neg (by simp)] at e;cases e;exact ⟨.inl rfl,w,D,rfl,rfl⟩
 | m + 1,n+1,i,g,r,h0,h1,h2,Y,w,D,e=>by
  have hi:i<s.length:=by omega
  obtain ⟨x,_,ed⟩:=dr_c h0 hi
  have out:some ((i,0,g):Int × Int × zZR)=some r→QW (NF ⟨g,a,dr s i++rest,ea,eb⟩) (NF ⟨r.2.2,a,dr s r.1++rest,ea,eb⟩)∧Ig r.2.2 ea∧Lv r.2.2∧r.2.2.z0c=g.z0c∧r.2.2.z0y=g.z0y:=fun e=>by
   cases e;exact ⟨.inl rfl,w,D,rfl,rfl⟩
  have uf:∀(n:Nat) (g:zZR) (q:z0a) (i:Int),i<s.length→g.zZV=false→g.z0J=false→g.Queue=some q→za s (n+1) g i=zw (za s n) g s i (decide ((0:Int)<q.z0l.z0N.length)):=fun n g q i hi hc hd B=>by
   conv=>lhs; unfold za
   rw [if_pos (by simpa using hi),if_pos (by rw [hc]; rfl),if_pos (by rw [hd]; rfl),B];show zw _ _ s i (decide ((0:Int)<q.z0l.z0N.length))=_;rw [q_e B]
  rcases Bool.eq_false_or_eq_true g.zZV with hc|hc
  ·unfold za at e;rw [if_pos (by simpa using hi),if_neg (by rw [hc]; simp)] at e;exact out e
  rcases Bool.eq_false_or_eq_true g.z0J with hd|hd
  ·unfold za at e;rw [if_pos (by simpa using hi),if_pos (by rw [hc]; rfl),if_neg (by rw [hd]; simp)] at e;exact out e
  obtain ⟨q,G,I2,I3,I4,I5,I6,I7,I8,I9⟩:=w.resolve_left (by rw [hc]; simp);rw [uf n g q i hi hc hd G] at e
  by_cases n0:(0:Int)<q.z0l.z0N.length
  ·rw [decide_eq_true n0] at e
   have q0:0<ql g:=by unfold ql; rw [G]; show 0<q.z0l.z0N.length; omega
   obtain ⟨tk,l,B,ht⟩:=q_c G q0;obtain ⟨B1,B2,B3,B4⟩:=Y;have X:Lc g:=(D.resolve_left (by rw [hc]; simp)).1;have sd:SdL g.zZS:=((D.resolve_left (by rw [hc]; simp)).2).resolve_left (by rw [hc]; simp);have e:(zas s i).bind (fun u=>(zj g u).bind fun A=>(zh i A.1).bind fun k=>(zg A.2).bind fun f=>za s n f k)=some r:=e;rw [dr_s s i h0 (by omega),ed] at e;have e:(zj g (x::dr s (i+1))).bind (fun A=>(zh i A.1).bind fun k=>(zg A.2).bind fun f=>za s n f k)=some r:=e;obtain ⟨d,p,p1,p2,p3,p4,p5,p6,p7,p8⟩:=(inferInstance:T (zj g [x]) _ _).ok ⟨B1,by show ku g+(1:Int)≤3000; omega,by omega⟩;obtain ⟨k1,y⟩:=rs_1 sd p;have en:En2 (some x) g:=fun _=>⟨hd,q0⟩;have W:QKe (some x) g=some d.2:=qk_t B hc p
   have qs:QS (some x) g=some d.2:=by rw [QS_k hd]; exact W
   have P:=s2_m (g:=g) (a:=a) (b:=x::(dr s (i+1)++rest)) (ea:=ea) (eb:=eb) (l:=dr s (i+1)++rest) (e:=eb) (j:=some x) hc ⟨rfl,rfl⟩ en qs;have N:Iw ⟨g,a,x::(dr s (i+1)++rest),ea,eb⟩:=w;have n1:=nf_2 dia _ _ _ (Nat.le_refl _) N P;have O:=Ig_2 hc w en qs;obtain ⟨C,Q,V⟩:=QKe_u B hc W
   have L2:Lv (sg d.2):=by
    refine Lv_s ?_
    rcases V with c|⟨c1,c2⟩
    ·exact .inl c
    ·refine .inr ⟨?_,rs_l sd B2 B1.2.2.2.2.2.1 (by omega) p⟩;unfold Lc at X ⊢;rw [c1,c2]; exact X
   obtain ⟨gs,F,t1,t2,t3,t4,t5,_⟩:=(inferInstance:T (zg d.2) _ _).ok ⟨p3,by omega⟩;have K:=zqR F;subst K;have kB:Bu (sg d.2) m:=⟨t1,by rw [zqS,C]; exact B2,by omega,by omega⟩;rw [ed];show QW (NF ⟨g,a,x::(dr s (i+1)++rest),ea,eb⟩) _∧_
   have Z:zh i 1=some (i+1):=by simp [zh,inI]; omega
   have fin:∀v,m<v→za s v (sg d.2) (i+1)=some r→QW (NF ⟨g,a,x::(dr s (i+1)++rest),ea,eb⟩) (NF ⟨r.2.2,a,dr s r.1++rest,ea,eb⟩)∧Ig r.2.2 ea∧Lv r.2.2∧r.2.2.z0c=g.z0c∧r.2.2.z0y=g.z0y:=fun v U e'=>by
    obtain ⟨z1,z2,z3,z4,z5⟩:=zPl hs rest a ea eb m v (i+1) (sg d.2) r (by omega) (by omega) U kB O L2 e';exact ⟨n1.trans z1,z2,z3,by rw [z4,zqS,C],by rw [z5,zPi,Q]⟩
   rcases y with y|⟨⟨c,t,E,k4,k5⟩,y⟩
   ·rw [y _ (by unfold dr; rw [List.length_drop]; omega)] at e;have e:(zh i d.1).bind (fun k=>(zg d.2).bind fun f=>za s n f k)=some r:=e;rw [k1,Z] at e;have e:(zg d.2).bind (fun f=>za s n f (i+1))=some r:=e;rw [F] at e;exact fin n (by omega) e
   ·have same:sg d.2=d.2:=by
     rw [E];exact zGB I4 fun c=>⟨(I5 c).1,(I5 c).2.1⟩
    rw [same] at fin F;refine fin (n+1) (by omega) ?_;have e:=e;rw [y _ (by unfold dr; rw [List.length_drop]; omega)] at e;obtain ⟨q2,L,e⟩:=bi e;obtain ⟨o,J,L⟩:=bi L;cases L;have M:(zh i (o.1+1)).bind (fun k=>(zg o.2).bind fun f=>za s n f k)=some r:=e
    by_cases z:i+1<s.length
    ·have I:d.2.Queue=some q:=by rw [E]; exact G
     rw [uf n d.2 q (i+1) z (by rw [E]; exact hc) (by rw [E]; exact hd) I,decide_eq_true n0];show (zas s (i+1)).bind _=_;rw [dr_s s (i+1) (by omega) (by omega)];show (zj d.2 (dr s (i+1))).bind _=_;rw [J];show (zh (i+1) o.1).bind _=_;rw [zPj]; exact M
    ·have S:dr s (i+1)=[]:=List.drop_eq_nil_of_le (by omega);have H:=y [] (by simp);rw [S] at J;rw [p,J] at H;have H:some d=some (o.1+1,o.2):=H;cases H;have R:o.1+1=1:=k1;rw [R] at M;have e:(zh i 1).bind (fun k=>(zg o.2).bind fun f=>za s n f k)=some r:=M;rw [Z] at e;have e:(zg o.2).bind (fun f=>za s n f (i+1))=some r:=e;rw [F] at e;have e:za s n o.2 (i+1)=some r:=e;obtain ⟨v,rfl⟩:∃v,n=v+1:=⟨n-1,by omega⟩;unfold za at e ⊢;rw [if_neg (by simpa using z)] at e ⊢;exact e
  ·rw [decide_eq_false n0] at e;exact out e
end Go.Dm
end
section
namespace Go.Dm
variable {g:zZR} {ea:Bool}
def em (g:zZR):zZR:=⟨g.Queue,g.z0O,g.z0c,g.z0C,g.zZT,g.zZS,[],[],g.z0I,g.z0f,g.z0y,g.z0J,g.z0r,g.z0t,g.z0u,g.zZV⟩
def px (A B:List UInt8) (g:zZR):zZR:=⟨g.Queue,g.z0O,g.z0c,g.z0C,g.zZT,g.zZS,A++g.zZ5,B++g.z0H,g.z0I,g.z0f,g.z0y,g.z0J,g.z0r,g.z0t,g.z0u,g.zZV⟩
theorem px_em (g:zZR):px g.zZ5 g.z0H (em g)=g:=by
 unfold px em;simp only [List.append_nil]
theorem px_px (A B C D:List UInt8) (g:zZR):px A B (px C D g)=px (A++C) (B++D) g:=by
 unfold px;simp only [List.append_assoc]
def pxW (A B:List UInt8) (c:WS):WS:=⟨px A B c.g,c.a,c.b,c.ea,c.eb⟩
section
variable (A B:List UInt8)
theorem JC_p (g s:zZR):JC (px A B g) s=px A B (JC g s):=by
 unfold JC px;simp only [List.append_assoc]
theorem JU_p (g s:zZR):JU (px A B g) s=px A B (JU g s):=by
 unfold JU px;simp only [List.append_assoc]
theorem PKe_x (i:Option UInt8) (g:zZR):PKe i (px A B g)=(PKe i g).map (px A B):=by
 cases i with
 | none=>rfl
 | some x =>
  show (ze (bC g (zpK g)) [x]).map _=((ze (bC g (zpK g)) [x]).map _).map _
  cases ze (bC g (zpK g)) [x] with
  | none=>rfl
  | some s=>show some (JC (px A B g) s.2)=some (px A B (JC g s.2)); rw [JC_p]
theorem QKe_x (j:Option UInt8) (g:zZR):QKe j (px A B g)=(QKe j g).map (px A B):=by
 have e:∀t,bU (px A B g) t=bU g t:=fun t=>rfl
 have o:(if j=none then some (uF (px A B g) true false g.z0t g.z0u) else none)=(if j=none then some (uF g true false g.z0t g.z0u) else none:Option zZR).map (px A B):=by
  split<;>rfl
 cases hq:g.Queue with
 | none =>
  unfold QKe;have a:(px A B g).Queue=none:=hq;rw [hq,a]; exact o
 | some q =>
  obtain ⟨⟨l,m⟩,b⟩:=q
  cases l with
  | nil =>
   unfold QKe;have a:(px A B g).Queue=some ⟨⟨[],m⟩,b⟩:=hq;rw [hq,a]; exact o
  | cons t l =>
   rw [zuB hq,zuB (g:=px A B g) hq,e t]
   cases QK j (bU g t) with
   | none=>rfl
   | some s=>show some (JU (px A B g) s)=some (px A B (JU g s)); rw [JU_p]
theorem QS_x (j:Option UInt8) (g:zZR):QS j (px A B g)=(QS j g).map (px A B):=by
 unfold QS;show (if j=none∧g.z0J=true then some (px A B g) else QKe j (px A B g))=_
 by_cases c:j=none∧g.z0J=true
 ·rw [if_pos c,if_pos c]; rfl
 ·rw [if_neg c,if_neg c,QKe_x]
theorem tel_p (g:zZR) (c:Int):tel (px A B g) c=px A B (tel g c):=by
 unfold tel px;simp only [List.append_assoc]
theorem sg_p (g:zZR):sg (px A B g)=px A B (sg g):=by
 unfold sg;show (if g.zZV=true then px A B g else if 0<ql g∧g.z0J=true∧g.z0r=false then tel (px A B g) 502 else if 0<ql g then px A B g else if g.z0I≠0 then tel (px A B g) g.z0I else if g.z0y=true then clo (px A B g) else px A B g)=_;rw [tel_p,tel_p]
 by_cases d:g.zZV=true
 ·rw [if_pos d,if_pos d]
 rw [if_neg d,if_neg d]
 by_cases c:0<ql g∧g.z0J=true∧g.z0r=false
 ·rw [if_pos c,if_pos c]
 rw [if_neg c,if_neg c]
 by_cases a:0<ql g
 ·rw [if_pos a,if_pos a]
 rw [if_neg a,if_neg a]
 by_cases b:g.z0I≠0
 ·rw [if_pos b,if_pos b]
 rw [if_neg b,if_neg b]
 by_cases e:g.z0y=true
 ·rw [if_pos e,if_pos e]; rfl
 ·rw [if_neg e,if_neg e]
open Classical in
theorem s1_p (c:WS):s1 (pxW A B c)=(s1 c).map (pxW A B):=by
 obtain ⟨g,a,b,ea,eb⟩:=c;unfold s1;show (if g.zZV=true then none else _)=Option.map _ (if g.zZV=true then none else _)
 by_cases e:g.zZV=true
 ·rw [if_pos e,if_pos e]; rfl
 rw [if_neg e,if_neg e]
 cases a with
 | nil =>
  show (if ea=true then (PKe none (px A B g)).bind _ else none)=Option.map _ (if ea=true then (PKe none g).bind _ else none)
  by_cases d:ea=true
  ·rw [if_pos d,if_pos d,PKe_x]
   cases PKe none g with
   | none=>rfl
   | some s=>show some (⟨sg (px A B s),_,_,_,_⟩:WS)=some ⟨px A B (sg s),_,_,_,_⟩; rw [sg_p]; rfl
  ·rw [if_neg d,if_neg d]; rfl
 | cons x l =>
  show (if En1 (some x) g then (PKe (some x) (px A B g)).bind _ else none)=Option.map _ (if En1 (some x) g then (PKe (some x) g).bind _ else none)
  by_cases d:En1 (some x) g
  ·rw [if_pos d,if_pos d,PKe_x]
   cases PKe (some x) g with
   | none=>rfl
   | some s=>show some (⟨sg (px A B s),_,_,_,_⟩:WS)=some ⟨px A B (sg s),_,_,_,_⟩; rw [sg_p]; rfl
  ·rw [if_neg d,if_neg d]; rfl
open Classical in
theorem s2_p (c:WS):s2 (pxW A B c)=(s2 c).map (pxW A B):=by
 obtain ⟨g,a,b,ea,eb⟩:=c;unfold s2;show (if g.zZV=true then none else _)=Option.map _ (if g.zZV=true then none else _)
 by_cases e:g.zZV=true
 ·rw [if_pos e,if_pos e]; rfl
 rw [if_neg e,if_neg e]
 cases b with
 | nil =>
  show (if eb=true then (QS none (px A B g)).bind _ else none)=Option.map _ (if eb=true then (QS none g).bind _ else none)
  by_cases d:eb=true
  ·rw [if_pos d,if_pos d,QS_x]
   cases QS none g with
   | none=>rfl
   | some s=>show some (⟨sg (px A B s),_,_,_,_⟩:WS)=some ⟨px A B (sg s),_,_,_,_⟩; rw [sg_p]; rfl
  ·rw [if_neg d,if_neg d]; rfl
 | cons x l =>
  show (if En2 (some x) g then (QS (some x) (px A B g)).bind _ else none)=Option.map _ (if En2 (some x) g then (QS (some x) g).bind _ else none)
  by_cases d:En2 (some x) g
  ·rw [if_pos d,if_pos d,QS_x]
   cases QS (some x) g with
   | none=>rfl
   | some s=>show some (⟨sg (px A B s),_,_,_,_⟩:WS)=some ⟨px A B (sg s),_,_,_,_⟩; rw [sg_p]; rfl
  ·rw [if_neg d,if_neg d]; rfl
theorem zMc:∀(n:Nat) (c:WS),runN s1 s2 n (pxW A B c)=pxW A B (runN s1 s2 n c)
 | 0,c=>rfl
 | n+1,c=>by
  unfold runN;rw [s1_p]
  cases s1 c with
  | some y=>exact zMc n y
  | none =>
   simp only [Option.map_none];rw [s2_p]
   cases s2 c with
   | some y=>exact zMc n y
   | none=>rfl
theorem zFZ (c:WS):NF (pxW A B c)=pxW A B (NF c):=zMc A B (mw c) c
theorem QW_p {c d:WS} (h:QW c d):QW (pxW A B c) (pxW A B d):=by
 rcases h with rfl|⟨h1,h2,a⟩
 ·exact .inl rfl
 ·exact .inr ⟨h1,h2,by show A++c.g.zZ5=A++d.g.zZ5; exact congrArg _ a⟩
end
def Gc (g:zZR) (ea:Bool):Prop:=Gw g∧Vc g.z0c∧Ig g ea∧Lv g∧tc g=0∧tu g=0
theorem cl_nf {s:Str} (h:Gc g ea) (i:s.length≤3000) (m:kc g+s.length≤3000) (rest b:List UInt8) (eb:Bool) {r:Int × Int × zZR} (e:zM g s=some r) :
  NF ⟨g,s++rest,b,ea,eb⟩=NF ⟨r.2.2,dr s r.1++rest,b,ea,eb⟩∧Ig r.2.2 ea∧Lv r.2.2∧r.2.2.z0c=g.z0c:=by
 obtain ⟨h1,h2,a,c,k,l⟩:=h;unfold zM at e
 split at e
 ·cases e; exact ⟨rfl,a,c,rfl⟩
 split at e
 ·cases e; exact ⟨rfl,a,c,rfl⟩
 rename_i d
 have j:1000000≤fuel:=by simp [fuel]
 obtain ⟨f,a2,a3,a4,a5⟩:=zPk i rest b ea eb s.length fuel 0 g r (by omega) (by omega) (by omega) ⟨h1,h2,by omega,by omega,by omega⟩ a c (.inr (by simpa using d)) e;exact ⟨f,a2,a3,a5⟩
theorem up_nf {s:Str} (h:Gc g ea) (f:s.length≤3000) (l:ku g+s.length≤3000) (rest a:List UInt8) (eb:Bool) {r:Int × Int × zZR} (e:zr g s=some r) :
  QW (NF ⟨g,a,s++rest,ea,eb⟩) (NF ⟨r.2.2,a,dr s r.1++rest,ea,eb⟩)∧Ig r.2.2 ea∧Lv r.2.2∧r.2.2.z0c=g.z0c:=by
 obtain ⟨h1,h2,b,c,j,k⟩:=h;unfold zr at e
 split at e
 ·cases e; exact ⟨.inl rfl,b,c,rfl⟩
 split at e
 ·cases e; exact ⟨.inl rfl,b,c,rfl⟩
 have i:1000000≤fuel:=by simp [fuel]
 obtain ⟨d,a2,a3,a4,a5⟩:=zPl f rest a ea eb s.length fuel 0 g r (by omega) (by omega) (by omega) ⟨h1,h2,by omega,by omega⟩ b c e;exact ⟨d,a2,a3,a4⟩
theorem ce_nf (h:Gc g true) (b:List UInt8) (eb:Bool) {r:Int × zZR} (e:zG g=some r) :
  QW (NF ⟨g,[],b,true,eb⟩) (NF ⟨r.2,[],b,false,eb⟩)∧Ig r.2 false∧Lv r.2∧r.2.z0c=g.z0c:=by
 obtain ⟨h1,h2,d,f,q,s⟩:=h;unfold zG at e
 split at e
 ·rename_i hc
  cases e;exact ⟨nf_q dia (.inr ⟨hc,hc,rfl⟩),.inl hc,f,rfl⟩
 rename_i hc
 have hc:g.zZV=false:=by simpa using hc
 have m:g.z0y=false:=by
  obtain ⟨_,_,_,_,_,_,_,_,_,k⟩:=d.resolve_left (by rw [hc]; simp);exact k rfl
 split at e
 ·rename_i c; rw [m] at c; cases c
 obtain ⟨p,o,e⟩:=bi e;cases e;have n:p=sg (ecR g):=zqR o;subst n;have j:PKe none g=some (ecR g):=rfl;have en:En1 none g:=fun c=>absurd rfl c;have st:=s1_m (g:=g) (a:=[]) (b:=b) (ea:=true) (eb:=eb) (l:=[]) (e:=false) (i:=none) hc ⟨rfl,rfl,rfl,rfl⟩ en j;refine ⟨.inl (nf_1 dia d st),Ig_1 (a:=[]) (l:=[]) (i:=none) hc d ⟨rfl,rfl,rfl,rfl⟩ en j,Lv_s ?_,by rw [zqS]; rfl⟩;exact .inr ⟨.inr rfl,(f.resolve_left (by rw [hc]; simp)).2⟩
theorem ueJ_l (h:Vc g.z0c) (t:Bool):PC Lu (ueJ g t):=za0 (fun _=>zhK (an_l h) fun r a=>zbn a) fun _=>z6 fun r e=>by cases e; exact zbn (.inl rfl)
theorem ueR_l (h:Vc g.z0c) (a:Lu g):PC Lu (ueR g):=za0 (fun _=>zqO (fun _=>z6 fun _ _=>ueJ_l (by exact h) _) fun _ _=>z6 fun _ _=>ueJ_l (by exact h) _) fun _=>zbn a
theorem ue_i (hc:g.zZV=false) (hd:g.z0J=false) {r:Int × zZR} (e:zn g=some r):∃a,ueR g=some a∧zg a=some r.2:=by
 have j:∀v t,zP v t=some r→∃a,ueJ v t=some a∧zg a=some r.2:=fun v t e=>by
  unfold zP at e;unfold ueJ
  split at e
  ·rename_i c
   obtain ⟨a,d,e⟩:=bi e;obtain ⟨h,f,e⟩:=bi e;cases e;exact ⟨a,by rw [if_pos c,d]; rfl,f⟩
  ·rename_i c
   obtain ⟨a,d,e⟩:=bi e;obtain ⟨h,f,e⟩:=bi e;cases e;exact ⟨a,by rw [if_neg c,d]; rfl,f⟩
 unfold zn at e;unfold ueR;rw [if_neg (by rw [hc]; simp),if_neg (by rw [hd]; simp)] at e
 split at e
 ·rename_i i
  rw [if_pos i]
  cases hi:g.zZS.z00 with
  | none =>
   rw [hi] at e;obtain ⟨a,d,e⟩:=bi e;cases d;exact j _ _ e
  | some b =>
   rw [hi] at e;obtain ⟨a,d,e⟩:=bi e;obtain ⟨h,f,k⟩:=j _ _ e;exact ⟨h,by show (zfc b).bind _=_; rw [d]; exact f,k⟩
 ·rename_i i
  rw [if_neg i];obtain ⟨a,d,e⟩:=bi e;cases e;exact ⟨_,rfl,d⟩
theorem ue_nf (h:Gc g ea) (a:List UInt8) {r:Int × zZR} (e:zn g=some r) :
  QW (NF ⟨g,a,[],ea,true⟩) (NF ⟨r.2,a,[],ea,false⟩)∧Ig r.2 ea∧Lv r.2∧r.2.z0c=g.z0c:=by
 obtain ⟨h1,h2,f,m,L,N⟩:=h
 rcases Bool.eq_false_or_eq_true g.zZV with hc|hc
 ·unfold zn at e;rw [if_pos hc] at e;cases e;exact ⟨nf_q dia (.inr ⟨hc,hc,rfl⟩),f,m,rfl⟩
 obtain ⟨q,o,J,O,z,s,M,I,G,H⟩:=f.resolve_left (by rw [hc]; simp);have en:En2 none g:=fun c=>absurd rfl c;have k:Iw ⟨g,a,[],ea,true⟩:=f
 rcases Bool.eq_false_or_eq_true g.z0J with hd|hd
 ·unfold zn at e;rw [if_neg (by rw [hc]; simp),if_pos hd] at e;cases e;have st:=s2_m (g:=g) (a:=a) (b:=[]) (ea:=ea) (eb:=true) (l:=[]) (e:=false) (j:=none) hc ⟨rfl,rfl,rfl,rfl⟩ en (QS_0 hd);rw [zGB z fun c=>⟨(s c).1,(s c).2.1⟩] at st;exact ⟨nf_2 dia _ _ _ (Nat.le_refl _) k st,f,m,rfl⟩
 ·obtain ⟨d,i,F⟩:=ue_i hc hd e;have C:r.2=sg d:=zqR F
  have p:QKe none g=some d:=by
   by_cases n0:0<ql g
   ·obtain ⟨t,l,n,_⟩:=q_c o n0;obtain ⟨K,x,rfl⟩:=(ue_j n hc).1 d i;rw [zuB n];show (ueR (bU g t)).map _=_;rw [x]; rfl
   ·have u:=(s (by omega)).2.2;unfold ueR at i;rw [if_neg (by rw [u]; simp),u] at i;rw [zIk o u hc]; exact i
  have w:QS none g=some d:=by rw [QS_k hd]; exact p
  have st:=s2_m (g:=g) (a:=a) (b:=[]) (ea:=ea) (eb:=true) (l:=[]) (e:=false) (j:=none) hc ⟨rfl,rfl,rfl,rfl⟩ en w;rw [C];have v:Lc g:=(m.resolve_left (by rw [hc]; simp)).1;have y:Lu g:=(m.resolve_left (by rw [hc]; simp)).2
  have cl:d.z0c=g.z0c∧(d.zZV=true∨d.zZT=g.zZT∧d.z0f=g.z0f):=by
   by_cases n0:0<ql g
   ·obtain ⟨t,l,n,_⟩:=q_c o n0;obtain ⟨A,_,D⟩:=QKe_u n hc p;exact ⟨A,D⟩
   ·rw [zIk o (s (by omega)).2.2 hc] at p;cases p;exact ⟨rfl,.inr ⟨rfl,rfl⟩⟩
  refine ⟨nf_2 dia _ _ _ (Nat.le_refl _) k st,Ig_2 hc f en w,Lv_s ?_,by rw [zqS]; exact cl.1⟩
  rcases cl.2 with c|⟨E,B⟩
  ·exact .inl c
  ·refine .inr ⟨?_,ueR_l h2 y d i⟩;unfold Lc at v ⊢;rw [E,B]; exact v
end Go.Dm
end
section
namespace Go.Dm
theorem goU0 {G:Prop} (h:G:=by
 (with_reducible repeat' first|intro _|refine And.intro ?_ ?_|refine Wf ?_ ?_|refine Wi ?_ ?_|refine Ws ?_|refine Wc ?_ ?_|refine Wo ?_ ?_|refine Wk ?_|refine We ?_ ?_)
 all_goals (try simp only [List.length_cons,List.length_nil])
 all_goals grind (gen:=8) (ematch:=8) [Rs2,oA,kb, = zqM,oB,oW,Sd,oQ,Gw,Cd,kc,ku,tc,tu,Rs1,st,fuel,zbk,zaG]):G:=h
instance (priority:=high) upL (s1:Str) (n:Nat) (a:zZR) (b:Int):T (za s1 n a b) (Gw a∧0≤b∧b≤s1.length∧s1.length≤3000∧ku a+(s1.length-b)≤3000∧(s1.length-b)+2*st a.zZV+1≤n∧tc a+10000000*(s1.length-b)+10000000*st a.zZV≤30000000000000) (fun r=>b≤r.1∧(r.1=b→Rs2 a r.2.2∨r.2.2.zZV=true)∧(a.zZV=true→r.2.2.zZV=true)):=by
 induction n generalizing a b
 ·exact ⟨goU0⟩
 exact ⟨by unfold za zw; exact goU0⟩
theorem upT (a:zZR) (b:Str):T (zr a b) (Gw a∧b.length≤3000∧ku a+b.length≤3000∧tc a=0∧tu a=0) (fun r=>(r.1=0→Rs2 a r.2.2∨r.2.2.zZV=true)):=⟨by unfold zr; exact goU0⟩
theorem upO (a:zZR) (b:Str):T (zr a b) (Gw a∧b.length≤3000∧ku a+b.length≤3000∧tc a=0∧tu a=0) (fun r=>Gw r.2.2∧0≤r.1∧r.1≤b.length∧ku r.2.2≤ku a+r.1∧kc r.2.2≤kc a∧tc r.2.2≤10000000*r.1+10000000∧tu r.2.2≤10000000*r.1+10000000∧(a.zZV=true→r.2.2.zZV=true)):=inferInstance
instance (priority:=high) upG (a:zZR) (b:Str):T (zr a b) (Gw a∧b.length≤3000∧ku a+b.length≤3000∧tc a=0∧tu a=0) (fun r=>Gw r.2.2∧0≤r.1∧r.1≤b.length∧ku r.2.2≤ku a+r.1∧kc r.2.2≤kc a∧tc r.2.2≤10000000*r.1+10000000∧tu r.2.2≤10000000*r.1+10000000∧(a.zZV=true→r.2.2.zZV=true)∧(r.1=0→Rs2 a r.2.2∨r.2.2.zZV=true)∧((b.length:Int)≤r.1∨Ur r.2.2)∧(b=[]∨Ur a→r.1=0∧Rs2 a r.2.2)∧(r.2.1=0∨r.2.1=8∧r.1=0)):=⟨fun h=>by
 obtain ⟨r,e,h0⟩:=(upT a b).ok h;obtain ⟨m,c,h1⟩:=(upO a b).ok h;rw [e] at c;cases c;obtain ⟨j,a2,a3,a4,a5,i,g,f⟩:=h1;obtain ⟨-,l,k,d⟩:=up_o e
 exact ⟨r,e,j,a2,a3,a4,a5,i,g,f,h0,l,d,k⟩⟩
end Go.Dm
end
section
namespace Go.Dm
theorem clO (a:zZR) (b:Str):T (zM a b) (Gw a∧b.length≤3000∧kc a+b.length≤3000∧tc a=0∧tu a=0) (fun r=>Gw r.2.2∧0≤r.1∧r.1≤b.length∧kc r.2.2≤kc a+r.1∧ku r.2.2≤ku a∧tu r.2.2≤10000000*r.1+10000000∧tc r.2.2≤10000000*r.1+10000000∧(a.zZV=true→r.2.2.zZV=true)):=inferInstance
instance (priority:=high) clG (a:zZR) (b:Str):T (zM a b) (Gw a∧b.length≤3000∧kc a+b.length≤3000∧tc a=0∧tu a=0) (fun r=>(Gw r.2.2∧0≤r.1∧r.1≤b.length∧kc r.2.2≤kc a+r.1∧ku r.2.2≤ku a∧tu r.2.2≤10000000*r.1+10000000∧tc r.2.2≤10000000*r.1+10000000∧(a.zZV=true→r.2.2.zZV=true))∧((b.length:Int)≤r.1∨Cr r.2.2)∧(b=[]∨Cr a→r.1=0∧r.2.2=a)∧(r.2.1=0∨r.2.1=8∧r.1=0)):=⟨fun h=>by
 obtain ⟨r,e,h1⟩:=(clO a b).ok h;obtain ⟨-,f,c,d⟩:=cl_o e
 exact ⟨r,e,h1,f,d,c⟩⟩
instance (priority:=high) takeS (x_w:zZ0):T (zA x_w) (Gw x_w.Gateway∧0≤tc x_w.Gateway∧x_w.zZT.z0m.length+tc x_w.Gateway≤100000000000000∧x_w.zZS.z0m.length+tu x_w.Gateway≤100000000000000) (fun r=>((Gw r.Gateway∧kc r.Gateway=kc x_w.Gateway∧ku r.Gateway=ku x_w.Gateway∧tc r.Gateway=0∧tu r.Gateway=0∧r.zZT.z0B=x_w.zZT.z0B∧r.zZT.z0n=x_w.zZT.z0n∧r.zZT.z0R=x_w.zZT.z0R∧r.zZT.z0U=x_w.zZT.z0U∧r.zZT.z0m.length=x_w.zZT.z0m.length+tc x_w.Gateway∧r.zZS.z0B=x_w.zZS.z0B∧r.zZS.z0n=x_w.zZS.z0n∧r.zZS.z0R=x_w.zZS.z0R∧r.zZS.z0U=x_w.zZS.z0U∧r.zZS.z0m.length=x_w.zZS.z0m.length+tu x_w.Gateway)∧x_w.zZT.z0m <+: r.zZT.z0m∧x_w.zZS.z0m <+: r.zZS.z0m∧x_w.z0d.Client≤r.z0d.Client∧x_w.z0d.Upstream≤r.z0d.Upstream∧r.Gateway.zZV=x_w.Gateway.zZV)∧Rs2 x_w.Gateway r.Gateway∧Qt r.Gateway r.z0d∧(Qt x_w.Gateway x_w.z0d→r.zZT.z0m=x_w.zZT.z0m∧r.zZS.z0m=x_w.zZS.z0m∧r.z0d=x_w.z0d)):=⟨fun h=>by
 obtain ⟨r,e,h1⟩:=(takeG x_w).ok h
 exact ⟨r,e,h1,take_o e⟩⟩
def Zc (w:zZ0):Prop:=(uc w=0∨Cr w.Gateway)∧(w.zZT.z0R=true→w.zZT.z0U=false→uc w≠0)
def Zu (w:zZ0):Prop:=(uu w=0∨Ur w.Gateway)∧(w.zZS.z0R=true→w.zZS.z0U=false→uu w≠0)
def Z (w:zZ0):Prop:=w.Gateway.zZV=true∨Zc w∧Zu w
def Sl (w:zZ0):Prop:=w.zZT.z0m.length≤20000000000000∧w.zZS.z0m.length≤20000000000000
def Fz (k:Int):Int × Option zZ0→Prop
 | (_,none)=>False
 | (i,some v)=>i+uc v+uu v=k∧Wr v∧Z v∧Sl v
theorem goWz {G:Prop} (h:G:=by
 (with_reducible repeat' first|intro _|refine And.intro ?_ ?_|refine Wf ?_ ?_|refine Wi ?_ ?_|refine Ws ?_|refine Wc ?_ ?_|refine Wo ?_ ?_|refine Wk ?_|refine We ?_ ?_)
 all_goals (try simp only [List.length_cons,List.length_nil])
 all_goals grind (gen:=8) (ematch:=8) [Fz,Z,Zc,Zu,Sl, → Cr_s, → Ur_s,tc,tu,Wr,Sn,Bz,uc,uu,Mz,st,fuel]):G:=h
section
variable {k:Int} {F:zZ0→Int→Int→Option (Int × Option zZ0)} {n:Int}
instance zU0 [h:∀w i3 i4,K (F w i3 i4) (Fz k) (Wr w∧0≤i3∧i3+uc w+uu w=k∧k≤6000∧0≤i4∧i4≤3∧(i4<2→Mz w+2≤n∧Sn w 10000000000000)∧1≤n∧(2≤i4→Z w∧Sl w))] (w:zZ0) (i3:Int):K (zps F w i3) (Fz k) (Wr w∧0≤i3∧i3+uc w+uu w=k∧k≤6000∧Mz w+2≤n∧1≤n∧Sn w 9999988000000):=⟨fun h=>by unfold zps; exact goWz⟩
instance zU1 [h:∀w i3 i4,K (F w i3 i4) (Fz k) (Wr w∧0≤i3∧i3+uc w+uu w=k∧k≤6000∧0≤i4∧i4≤3∧(i4<2→Mz w+2≤n∧Sn w 10000000000000)∧1≤n∧(2≤i4→Z w∧Sl w))] (w:zZ0) (i3 i4:Int):K (zpt F w i3 i4) (Fz k) (Wr w∧0≤i3∧i3+uc w+uu w=k∧k≤6000∧1≤i4∧i4≤2∧Mz w+1≤n∧1≤n∧Sn w 10000018000000∧Zc w):=⟨fun h=>by unfold zpt; exact goWz⟩
instance zCH [h:∀w i3 i4,K (F w i3 i4) (Fz k) (Wr w∧0≤i3∧i3+uc w+uu w=k∧k≤6000∧0≤i4∧i4≤3∧(i4<2→Mz w+2≤n∧Sn w 10000000000000)∧1≤n∧(2≤i4→Z w∧Sl w))] (w:zZ0) (i3 i4:Int):K (zru F w i3 i4) (Fz k) (Wr w∧0≤i3∧i3+uc w+uu w=k∧k≤6000∧0≤i4∧i4<2∧Mz w+1≤n∧1≤n∧Sn w 10000000000000):=⟨fun h=>by unfold zru; exact goWz⟩
end
end Go.Dm
end
section
namespace Go.Dm
instance zL0 (k:Int) (n:Nat) (w:zZ0) (i3 i4:Int):K (zcU n w i3 i4) (Fz k) (Wr w∧0≤i3∧i3+uc w+uu w=k∧k≤6000∧0≤i4∧i4≤3∧(i4<2→Mz w+2≤(n:Int)∧Sn w 10000000000000)∧1≤(n:Int)∧(2≤i4→Z w∧Sl w)):=by
 induction n generalizing w i3 i4 with
 | zero=>exact ⟨fun h=>by omega⟩
 | succ n f =>
  refine ⟨fun ⟨h1,h2,e,b,g,l,j,m,d⟩=>?_⟩;have:=Mz_0 h1;rw [L0_s];refine Wi (fun c=>?_) fun c=>Ws ?_
  ·have a:i4<2:=by simpa using c
   have i:=j a;exact (zCH (F:=zcU n) (n:=(n:Int)) (h:=f) w i3 i4).ok ⟨h1,h2,e,b,g,a,by omega,by omega,i.2⟩
  ·have a:2≤i4:=by simpa using c
   exact ⟨e,h1,(d a).1,(d a).2⟩
theorem Fin1 {w:zZ0} (h:Iv w 9900000000000):W (zgs (some w)) (Fz (uc w+uu w)):=by
 obtain ⟨h1,h2,a⟩:=h;have:=Mz_0 h1;refine (zL0 (uc w+uu w) fuel w 0 0).ok ⟨h1,by omega,by omega,h2,by omega,by omega,fun _=>⟨?_,?_⟩,by simp [fuel],fun c=>by omega⟩
 ·obtain ⟨i,a2,a3,a4,a5,g,f,e,a9,b,d⟩:=h1
  simp only [Mz,uc,uu,st,fuel] at *
  split<;>split<;>omega
 ·obtain ⟨s1,s2⟩:=a;exact ⟨by omega,by omega⟩
section
variable {F:zZ0→Int→Int→Option (Int × Option zZ0)}
end
end Go.Dm
end
section
namespace Go.Dm
theorem upP (a:zZR) (b:Str):T (zr a b) (Gw a∧b.length≤3000∧ku a+b.length≤3000∧tc a=0∧tu a=0) (fun r=>Gw r.2.2∧0≤r.1∧r.1≤b.length∧ku r.2.2≤ku a+r.1∧kc r.2.2≤kc a∧tc r.2.2≤10000000*r.1+10000000∧tu r.2.2≤10000000*r.1+10000000∧(a.zZV=true→r.2.2=a∧r.1=0)∧(r.2.1=0∨r.2.1=8∧r.1=0)):=⟨fun h=>by
 obtain ⟨r,e,j,a2,a3,a4,a5,g,f,l⟩:=(upO a b).ok h;obtain ⟨i,m,d,k⟩:=up_o e
 exact ⟨r,e,j,a2,a3,a4,a5,g,f,fun c=>by rw [i c]; exact ⟨rfl,rfl⟩,d⟩⟩
theorem clP (a:zZR) (b:Str):T (zM a b) (Gw a∧b.length≤3000∧kc a+b.length≤3000∧tc a=0∧tu a=0) (fun r=>(Gw r.2.2∧0≤r.1∧r.1≤b.length∧kc r.2.2≤kc a+r.1∧ku r.2.2≤ku a∧tu r.2.2≤10000000*r.1+10000000∧tc r.2.2≤10000000*r.1+10000000)∧(a.zZV=true→r.2.2=a∧r.1=0)∧(r.2.1=0∨r.2.1=8∧r.1=0)):=⟨fun h=>by
 obtain ⟨r,e,j,a2,a3,a4,a5,g,f,l⟩:=(clO a b).ok h;obtain ⟨i,m,d,k⟩:=cl_o e
 exact ⟨r,e,⟨j,a2,a3,a4,a5,g,f⟩,fun c=>by rw [i c]; exact ⟨rfl,rfl⟩,d⟩⟩
theorem ceO (a:zZR):T (zG a) (Gw a∧tc a≤40000000000000) (fun r=>Gw r.2∧kc r.2≤kc a∧ku r.2≤ku a∧tc r.2≤tc a+1310000∧tu r.2=tu a∧(a.zZV=true→r.2.zZV=true)):=inferInstance
theorem ueO (a:zZR):T (zn a) (Gw a∧tc a≤40000000000000) (fun r=>Gw r.2∧kc r.2≤kc a∧ku r.2≤ku a∧tc r.2≤tc a+1310000∧tu r.2=tu a∧(a.zZV=true→r.2.zZV=true)):=inferInstance
theorem ce_o {g:zZR} {r:Int × zZR} (h:zG g=some r):(g.zZV=true→r.2=g)∧(r.1=0∨r.1=8):=by
 unfold zG at h
 split at h
 ·cases h; exact ⟨fun _=>rfl,.inr rfl⟩
 rename_i hc
 split at h
 ·cases h; exact ⟨fun _=>rfl,.inr rfl⟩
 obtain ⟨b,a,h⟩:=bi h;cases h; exact ⟨fun c=>absurd c hc,.inl rfl⟩
theorem ue_o {g:zZR} {r:Int × zZR} (h:zn g=some r):(g.zZV=true→r.2=g)∧(r.1=0∨r.1=8):=by
 have e:∀(v:zZR) (t:Bool) (r:Int × zZR),zP v t=some r→r.1=0:=fun v t r h=>by
  unfold zP at h
  split at h
  ·obtain ⟨d,a,h⟩:=bi h;obtain ⟨f,i,h⟩:=bi h;cases h; rfl
  ·obtain ⟨d,a,h⟩:=bi h;obtain ⟨f,i,h⟩:=bi h;cases h; rfl
 unfold zn at h
 split at h
 ·cases h; exact ⟨fun _=>rfl,.inr rfl⟩
 rename_i hc
 split at h
 ·cases h; exact ⟨fun _=>rfl,.inr rfl⟩
 refine ⟨fun c=>absurd c hc,.inl ?_⟩
 split at h
 ·cases hi:g.zZS.z00 with
  | none =>
   rw [hi] at h;obtain ⟨d,a,h⟩:=bi h;exact e _ _ _ h
  | some b =>
   rw [hi] at h;obtain ⟨d,a,h⟩:=bi h;exact e _ _ _ h
 ·obtain ⟨d,a,h⟩:=bi h;cases h; rfl
theorem ceP (a:zZR):T (zG a) (Gw a∧tc a≤40000000000000) (fun r=>Gw r.2∧kc r.2≤kc a∧ku r.2≤ku a∧tc r.2≤tc a+1310000∧tu r.2=tu a∧(a.zZV=true→r.2=a)∧(r.1=0∨r.1=8)):=⟨fun h=>by
 obtain ⟨r,e,b,a2,a3,a4,a5,c⟩:=(ceO a).ok h
 exact ⟨r,e,b,a2,a3,a4,a5,ce_o e⟩⟩
theorem ueP (a:zZR):T (zn a) (Gw a∧tc a≤40000000000000) (fun r=>Gw r.2∧kc r.2≤kc a∧ku r.2≤ku a∧tc r.2≤tc a+1310000∧tu r.2=tu a∧(a.zZV=true→r.2=a)∧(r.1=0∨r.1=8)):=⟨fun h=>by
 obtain ⟨r,e,b,a2,a3,a4,a5,c⟩:=(ueO a).ok h
 exact ⟨r,e,b,a2,a3,a4,a5,ue_o e⟩⟩
def eOk (x:zZ2):Prop:=(x.Kind=1∨x.Kind=3)∧0≤x.N∧x.N≤1048576∨(x.Kind=2∨x.Kind=4)∧x.N=0
theorem evP (x:zZ2):T (zff x) True (fun r=>eOk x∧r=0∨¬ eOk x∧r=1):=⟨fun _=>by
 unfold zff zg3 eOk
 have i:∀a b:Int,(a==b)=decide (a=b):=fun a b=>by by_cases h:a=b<;>simp [h]
 simp only [i]
 by_cases d:x.Kind=1
 ·simp only [d]
  by_cases n0:0≤x.N<;>by_cases c:x.N≤1048576<;>simp [W,n0,c]<;>omega
 by_cases g:x.Kind=3
 ·simp only [g]
  by_cases n0:0≤x.N<;>by_cases c:x.N≤1048576<;>simp [W,n0,c]<;>omega
 by_cases e:x.Kind=2
 ·simp only [e]
  by_cases n0:x.N=0<;>simp [W,n0]
 by_cases f:x.Kind=4
 ·simp only [f]
  by_cases n0:x.N=0<;>simp [W,n0]
 simp [W,d,e,g,f]⟩
section
attribute [local instance 20000] upP clP ceP ueP evP
end
end Go.Dm
end
section
namespace Go.Dm
variable {w r:zZ0}
theorem og_i {α:Type} {b:Bool} {x:Option α} {r:α} (h:(if b=true then x else none)=some r):b=true∧x=some r:=by
 cases b with
 | true=>exact ⟨rfl,h⟩
 | false=>cases h
theorem zFK (h:zA w=some r):r.Gateway=em w.Gateway∧r.zZT=⟨w.zZT.z0B,w.zZT.z0n,w.zZT.z0R,w.zZT.z0U,w.zZT.z0m++w.Gateway.zZ5,w.zZT.z07,w.zZT.z1c⟩∧r.zZS=⟨w.zZS.z0B,w.zZS.z0n,w.zZS.z0R,w.zZS.z0U,w.zZS.z0m++w.Gateway.z0H,w.zZS.z07,w.zZS.z1c⟩:=by
 obtain ⟨d,a,h⟩:=bi h;cases a;obtain ⟨_,h⟩:=og_i h;obtain ⟨c,b,h⟩:=bi h;cases b;obtain ⟨_,h⟩:=og_i h;obtain ⟨f,e,h⟩:=bi h;cases h;exact ⟨rfl,rfl,rfl⟩
def ends (x:z0M):Bool:=x.z0R && !x.z0U
def ab (w:zZ0):WS:=pxW w.zZT.z0m w.zZS.z0m ⟨w.Gateway,dr w.zZT.z0B w.zZT.z0n,dr w.zZS.z0B w.zZS.z0n,ends w.zZT,ends w.zZS⟩
theorem ab_t (h:zA w=some r):ab r=ab w:=by
 obtain ⟨a,b,c⟩:=zFK h;obtain ⟨g,x,y,m⟩:=r
 change g=_ at a
 change x=_ at b
 change y=_ at c
 subst a; subst b; subst c;show pxW (w.zZT.z0m++w.Gateway.zZ5) (w.zZS.z0m++w.Gateway.z0H) ⟨em w.Gateway,_,_,_,_⟩=pxW w.zZT.z0m w.zZS.z0m ⟨w.Gateway,_,_,_,_⟩;unfold pxW;rw [← px_px,px_em]; rfl
def Vw (w:zZ0):Prop:=Wr w∧Vc w.Gateway.z0c∧Ig w.Gateway (ends w.zZT)∧Lv w.Gateway
theorem Vw_c {w:zZ0} (h:Vw w):Gc w.Gateway (ends w.zZT):=⟨h.1.1,h.2.1,h.2.2.1,h.2.2.2,h.1.2.1,h.1.2.2.1⟩
theorem sF_i {s:Str} {i:Int} {r:Str} (h:zas s i=some r):r=dr s i∧0≤i∧i≤s.length:=by
 unfold zas at h
 split at h
 ·rename_i c; cases h; exact ⟨rfl,c.1,c.2⟩
 ·cases h
theorem sT_i {s:Str} {i:Int} {r:Str} (h:sTo s i=some r):r=s.take i.toNat∧0≤i∧i≤s.length:=by
 unfold sTo at h
 split at h
 ·rename_i c; cases h; exact ⟨rfl,c.1,c.2⟩
 ·cases h
theorem iA_i {a b r:Int} (h:zh a b=some r):r=a+b:=by
 unfold zh at h
 split at h
 ·cases h; rfl
 ·cases h
theorem cutL {all:Str} {i k n:Int} (h0:0≤i) (h1:i≤all.length) (a:0≤k) (c:k≤(dr all i).length) (n0:0≤n) (b:n≤((dr all i).take k.toNat).length):dr ((dr all i).take k.toNat) n++(dr all i).drop k.toNat=dr all (i+n):=by
 have e:dr all (i+n)=(dr all i).drop n.toNat:=by
  unfold dr; rw [List.drop_drop]; congr 1; omega
 rw [e]
 conv=>rhs; rw [← List.take_append_drop k.toNat (dr all i)]
 rw [List.drop_append_of_le_length (by omega)]; rfl
theorem Wr_t (h:zA w=some r) (h1:Gw w.Gateway) (h2:w.zZT.z0B.length≤3000∧w.zZS.z0B.length≤3000∧0≤w.zZT.z0n∧w.zZT.z0n≤w.zZT.z0B.length∧0≤w.zZS.z0n∧w.zZS.z0n≤w.zZS.z0B.length∧kc w.Gateway+uc w≤3000∧ku w.Gateway+uu w≤3000):Wr r:=by
 obtain ⟨a,b,c⟩:=zFK h;obtain ⟨g,x,y,m⟩:=r
 change g=_ at a
 change x=_ at b
 change y=_ at c
 subst a; subst b; subst c;exact ⟨h1,rfl,rfl,h2⟩
theorem Vw_t (h:zA w=some r) (h1:Vc w.Gateway.z0c) (h2:Ig w.Gateway (ends w.zZT)) (d:Lv w.Gateway):Vc r.Gateway.z0c∧Ig r.Gateway (ends r.zZT)∧Lv r.Gateway:=by
 obtain ⟨a,b,c⟩:=zFK h;obtain ⟨g,x,y,m⟩:=r
 change g=_ at a
 change x=_ at b
 change y=_ at c
 subst a; subst b; subst c;exact ⟨h1,h2,d⟩
def Al (w r:zZ0):Prop:=r.zZT.z0B=w.zZT.z0B∧r.zZS.z0B=w.zZS.z0B
theorem Al_t (h:zA w=some r):Al w r:=by
 obtain ⟨_,b,c⟩:=zFK h;exact ⟨by rw [b],by rw [c]⟩
theorem fdC {w:zZ0} (h:Vw w) {k:Int} {e g:Str} {a:Int × Int × zZR} {f:Int} {b:zZ0} {m:z08} (r:zas w.zZT.z0B w.zZT.z0n=some e) (K:sTo e k=some g) (j:zM w.Gateway g=some a) (B:zh w.zZT.z0n a.1=some f)
  (c:zA ⟨a.2.2,⟨w.zZT.z0B,f,w.zZT.z0R,w.zZT.z0U,w.zZT.z0m,w.zZT.z07,w.zZT.z1c⟩,w.zZS,m⟩=some b):Vw b∧NF (ab w)=NF (ab b)∧Al w b:=by
 obtain ⟨z,i0,l⟩:=sF_i r;subst z;obtain ⟨x,v,F⟩:=sT_i K;subst x;have u:=iA_i B;subst u;have N:=Vw_c h;obtain ⟨⟨H,o,C,I,s,P,Q,t,G,d,q⟩,v2,v3,v4⟩:=h
 have tl:((dr w.zZT.z0B w.zZT.z0n).take k.toNat).length≤3000∧(((dr w.zZT.z0B w.zZT.z0n).take k.toNat).length:Int)≤uc w:=by
  have:=zaU i0 l;rw [List.length_take];unfold uc; omega
 obtain ⟨r',i,p,_⟩:=(clP w.Gateway _).ok ⟨H,tl.1,by omega,o,C⟩;rw [j] at i;cases i;obtain ⟨A,y,D,O,R,_⟩:=p;obtain ⟨n,E,J,L⟩:=cl_nf N tl.1 (by omega) ((dr w.zZT.z0B w.zZT.z0n).drop k.toNat) (dr w.zZS.z0B w.zZS.z0n) (ends w.zZS) j;rw [List.take_append_drop,cutL i0 l v F y D] at n;obtain ⟨M,z2,z3⟩:=Vw_t c (by show Vc a.2.2.z0c; rw [L]; exact v2) E J;refine ⟨⟨Wr_t c A ⟨I,s,?_,?_,t,G,?_,?_⟩,M,z2,z3⟩,?_,by have:=Al_t c; exact this⟩
 ·show 0≤w.zZT.z0n+a.1; omega
 ·show w.zZT.z0n+a.1≤_;unfold uc at tl; show _≤(w.zZT.z0B.length:Int); omega
 ·show kc a.2.2+((w.zZT.z0B.length:Int)-(w.zZT.z0n+a.1))≤3000;unfold uc at d; omega
 ·show ku a.2.2+uu w≤3000; omega
 ·rw [ab_t c];unfold ab;rw [zFZ,n, ← zFZ]; rfl
theorem fdU {w:zZ0} (h:Vw w) {k:Int} {e g:Str} {a:Int × Int × zZR} {f:Int} {b:zZ0} {m:z08} (p:zas w.zZS.z0B w.zZS.z0n=some e) (J:sTo e k=some g) (j:zr w.Gateway g=some a) (A:zh w.zZS.z0n a.1=some f)
  (c:zA ⟨a.2.2,w.zZT,⟨w.zZS.z0B,f,w.zZS.z0R,w.zZS.z0U,w.zZS.z0m,w.zZS.z07,w.zZS.z1c⟩,m⟩=some b):Vw b∧QW (NF (ab w)) (NF (ab b))∧Al w b:=by
 obtain ⟨x,i0,l⟩:=sF_i p;subst x;obtain ⟨t,s,E⟩:=sT_i J;subst t;have r:=iA_i A;subst r;have M:=Vw_c h;obtain ⟨⟨G,o,B,H,q,y,F,O,P,u,d⟩,v2,v3,v4⟩:=h
 have tl:((dr w.zZS.z0B w.zZS.z0n).take k.toNat).length≤3000∧(((dr w.zZS.z0B w.zZS.z0n).take k.toNat).length:Int)≤uu w:=by
  have:=zaU i0 l;rw [List.length_take];unfold uu; omega
 obtain ⟨r',i,z,v,C,N,Q,_⟩:=(upP w.Gateway _).ok ⟨G,tl.1,by omega,o,B⟩;rw [j] at i;cases i;obtain ⟨n,D,I,K⟩:=up_nf M tl.1 (by omega) ((dr w.zZS.z0B w.zZS.z0n).drop k.toNat) (dr w.zZT.z0B w.zZT.z0n) (ends w.zZS) j;rw [List.take_append_drop,cutL i0 l s E v C] at n;obtain ⟨L,z2,z3⟩:=Vw_t c (by show Vc a.2.2.z0c; rw [K]; exact v2) D I;refine ⟨⟨Wr_t c z ⟨H,q,y,F,?_,?_,?_,?_⟩,L,z2,z3⟩,?_,by have:=Al_t c; exact this⟩
 ·show 0≤w.zZS.z0n+a.1; omega
 ·show w.zZS.z0n+a.1≤_;unfold uu at tl; show _≤(w.zZS.z0B.length:Int); omega
 ·show kc a.2.2+uc w≤3000; omega
 ·show ku a.2.2+((w.zZS.z0B.length:Int)-(w.zZS.z0n+a.1))≤3000;unfold uu at d; omega
 ·rw [ab_t c];unfold ab;have:=QW_p w.zZT.z0m w.zZS.z0m n;rw [← zFZ, ← zFZ] at this;exact this
theorem enC {w:zZ0} (h:Vw w) (g:w.zZT.z0R=true) (hd:w.zZT.z0U=false) (l:zas w.zZT.z0B w.zZT.z0n=some []) {a:Int × zZR} {b:zZ0} {m:z08} (f:zG w.Gateway=some a)
  (c:zA ⟨a.2,⟨w.zZT.z0B,w.zZT.z0n,w.zZT.z0R,true,w.zZT.z0m,w.zZT.z07,w.zZT.z1c⟩,w.zZS,m⟩=some b):Vw b∧QW (NF (ab w)) (NF (ab b))∧Al w b:=by
 obtain ⟨q,i0,H⟩:=sF_i l;have j:=Vw_c h
 have i:ends w.zZT=true:=by unfold ends; rw [g,hd]; rfl
 have d:ends (⟨w.zZT.z0B,w.zZT.z0n,w.zZT.z0R,true,w.zZT.z0m,w.zZT.z07,w.zZT.z1c⟩:z0M)=false:=by unfold ends; rw [g]; rfl
 rw [i] at j;obtain ⟨⟨x,D,F,y,n,r,v,o,u,p,k⟩,v2,v3,v4⟩:=h;obtain ⟨r',e,s,E,G,_⟩:=(ceP w.Gateway).ok ⟨x,by omega⟩;rw [f] at e;cases e;obtain ⟨C,t,z,A⟩:=ce_nf j (dr w.zZS.z0B w.zZS.z0n) (ends w.zZS) f;obtain ⟨B,z2,z3⟩:=Vw_t c (by show Vc a.2.z0c; rw [A]; exact v2) (by rw [d]; exact t) z;refine ⟨⟨Wr_t c s ⟨y,n,r,v,o,u,?_,?_⟩,B,z2,z3⟩,?_,by have:=Al_t c; exact this⟩
 ·show kc a.2+uc w≤3000; omega
 ·show ku a.2+uu w≤3000; omega
 ·rw [ab_t c];unfold ab;rw [i,d];show QW (NF (pxW w.zZT.z0m w.zZS.z0m ⟨w.Gateway,dr w.zZT.z0B w.zZT.z0n,_,true,_⟩)) (NF (pxW w.zZT.z0m w.zZS.z0m ⟨a.2,dr w.zZT.z0B w.zZT.z0n,_,false,_⟩));rw [← q];have:=QW_p w.zZT.z0m w.zZS.z0m C;rw [← zFZ, ← zFZ] at this;exact this
theorem enU {w:zZ0} (h:Vw w) (f:w.zZS.z0R=true) (hd:w.zZS.z0U=false) (i:zas w.zZS.z0B w.zZS.z0n=some []) {a:Int × zZR} {b:zZ0} {m:z08} (e:zn w.Gateway=some a)
  (c:zA ⟨a.2,w.zZT,⟨w.zZS.z0B,w.zZS.z0n,w.zZS.z0R,true,w.zZS.z0m,w.zZS.z07,w.zZS.z1c⟩,m⟩=some b):Vw b∧QW (NF (ab w)) (NF (ab b))∧Al w b:=by
 obtain ⟨o,i0,H⟩:=sF_i i;have C:=Vw_c h
 have x:ends w.zZS=true:=by unfold ends; rw [f,hd]; rfl
 have n:ends (⟨w.zZS.z0B,w.zZS.z0n,w.zZS.z0R,true,w.zZS.z0m,w.zZS.z07,w.zZS.z1c⟩:z0M)=false:=by unfold ends; rw [f]; rfl
 obtain ⟨⟨u,D,F,v,j,p,t,k,s,l,g⟩,v2,v3,v4⟩:=h;obtain ⟨r',d,q,E,G,_⟩:=(ueP w.Gateway).ok ⟨u,by omega⟩;rw [e] at d;cases d;obtain ⟨B,r,y,z⟩:=ue_nf C (dr w.zZT.z0B w.zZT.z0n) e;obtain ⟨A,z2,z3⟩:=Vw_t c (by show Vc a.2.z0c; rw [z]; exact v2) r y;refine ⟨⟨Wr_t c q ⟨v,j,p,t,k,s,?_,?_⟩,A,z2,z3⟩,?_,by have:=Al_t c; exact this⟩
 ·show kc a.2+uc w≤3000; omega
 ·show ku a.2+uu w≤3000; omega
 ·rw [ab_t c];unfold ab;rw [x,n];show QW (NF (pxW w.zZT.z0m w.zZS.z0m ⟨w.Gateway,_,dr w.zZS.z0B w.zZS.z0n,_,true⟩)) (NF (pxW w.zZT.z0m w.zZS.z0m ⟨a.2,_,dr w.zZS.z0B w.zZS.z0n,_,false⟩));rw [← o];have:=QW_p w.zZT.z0m w.zZS.z0m B;rw [← zFZ, ← zFZ] at this;exact this
def Ps (X w:zZ0):Prop:=Vw w∧QW (NF (ab X)) (NF (ab w))∧Al X w
theorem zHT {X w r:zZ0} (h:Ps X w) (a:Vw r) (b:QW (NF (ab w)) (NF (ab r))) (c:Al w r):Ps X r:=⟨a,h.2.1.trans b,c.1.trans h.2.2.1,c.2.trans h.2.2.2⟩
def Po (X:zZ0) (r:Int × Option zZ0):Prop:=∃v,r.2=some v∧Ps X v
section
variable {X:zZ0} {F:zZ0→Int→Int→Option (Int × Option zZ0)}
theorem fU0 (d:∀w i j,Ps X w→PC (Po X) (F w i j)) {w:zZ0} (h:Ps X w) (i:Int):PC (Po X) (zps F w i) :=
 z6 fun _ _=>za0 (fun _=>zbn ⟨w,rfl,h⟩) fun _=>z6 fun u o=>z6 fun y m=>z6 fun E t=>z6 fun D n=>z6 fun g k=>by
  obtain ⟨a,b,c⟩:=fdU h.1 o m t n k;have p:Ps X g:=zHT h a b c;refine za0 (fun B=>za0 (fun z=>z6 fun l f=>za0 (fun q=>z6 fun A e=>?_) fun _=>z6 fun _ _=>za0 (fun _=>d _ _ _ p) fun _=>d _ _ _ p) fun _=>z6 fun _ _=>za0 (fun _=>d _ _ _ p) fun _=>d _ _ _ p) fun _=>z6 fun _ _=>za0 (fun _=>d _ _ _ p) fun _=>d _ _ _ p;rw [f] at e;cases e
  have q:l=[]:=by simpa using q
  subst q;refine za0 (fun c=>by simp at c) fun _=>z6 fun v s=>z6 fun C r=>z6 fun _ _=>?_;obtain ⟨a2,G,x⟩:=enU a B (by simpa using z) f s r;exact d _ _ _ (zHT p a2 G x)
theorem fU1 (d:∀w i j,Ps X w→PC (Po X) (F w i j)) {w:zZ0} (h:Ps X w) (i j:Int):PC (Po X) (zpt F w i j) :=
 z6 fun _ _=>za0 (fun _=>zbn ⟨w,rfl,h⟩) fun _=>z6 fun u o=>z6 fun y m=>z6 fun E t=>z6 fun D n=>z6 fun g k=>by
  obtain ⟨a,b,c⟩:=fdU h.1 o m t n k;have p:Ps X g:=zHT h a b c;refine za0 (fun B=>za0 (fun z=>z6 fun l f=>za0 (fun q=>z6 fun A e=>?_) fun _=>z6 fun _ _=>z6 fun _ _=>za0 (fun _=>d _ _ _ p) fun _=>d _ _ _ p) fun _=>z6 fun _ _=>z6 fun _ _=>za0 (fun _=>d _ _ _ p) fun _=>d _ _ _ p) fun _=>z6 fun _ _=>z6 fun _ _=>za0 (fun _=>d _ _ _ p) fun _=>d _ _ _ p;rw [f] at e;cases e
  have q:l=[]:=by simpa using q
  subst q;refine za0 (fun c=>by simp at c) fun _=>z6 fun v s=>z6 fun C r=>z6 fun _ _=>z6 fun _ _=>?_;obtain ⟨a2,G,x⟩:=enU a B (by simpa using z) f s r;exact d _ _ _ (zHT p a2 G x)
theorem fCH (d:∀w i j,Ps X w→PC (Po X) (F w i j)) {w:zZ0} (h:Ps X w) (i j:Int):PC (Po X) (zru F w i j) :=
 z6 fun _ _=>za0 (fun _=>zbn ⟨w,rfl,h⟩) fun _=>z6 fun u o=>z6 fun y m=>z6 fun E t=>z6 fun D n=>z6 fun g k=>by
  obtain ⟨a,b,c⟩:=fdC h.1 o m t n k;have p:Ps X g:=zHT h a (.inl b) c;refine za0 (fun B=>za0 (fun z=>z6 fun l f=>za0 (fun q=>z6 fun A e=>?_) fun _=>z6 fun _ _=>z6 fun _ _=>za0 (fun _=>fU0 d p _) fun _=>fU1 d p _ _) fun _=>z6 fun _ _=>z6 fun _ _=>za0 (fun _=>fU0 d p _) fun _=>fU1 d p _ _) fun _=>z6 fun _ _=>z6 fun _ _=>za0 (fun _=>fU0 d p _) fun _=>fU1 d p _ _;rw [f] at e;cases e
  have q:l=[]:=by simpa using q
  subst q;refine za0 (fun c=>by simp at c) fun _=>z6 fun v s=>z6 fun C r=>z6 fun _ _=>z6 fun _ _=>?_;obtain ⟨a2,G,x⟩:=enC a B (by simpa using z) f s r;exact fU0 d (zHT p a2 G x) _
end
theorem fL0 (X:zZ0):∀(n:Nat) (w:zZ0) (i j:Int),Ps X w→PC (Po X) (zcU n w i j)
 | 0,w,i,j,h=>zJX
 | n+1,w,i,j,h=>by
  rw [L0_s];exact za0 (fun _=>fCH (fL0 X n) h i j) fun _=>zbn ⟨w,rfl,h⟩
theorem rest_n {v:zZ0} (A:Z v) (m:Wr v):NF (ab v)=ab v:=by
 rcases A with h|⟨⟨r,p⟩,⟨B,z⟩⟩
 ·exact nf_c dia (x:=ab v) h
 rcases Bool.eq_false_or_eq_true v.Gateway.zZV with hc|hc
 ·exact nf_c dia (x:=ab v) hc
 obtain ⟨G,D,F,H,E,o,w,k,t,n,j⟩:=m;have f:=zaU o w;have g:=zaU k t;refine zDd ?_ ?_ _
 ·cases e:s1 (ab v) with
  | none=>rfl
  | some y =>
   obtain ⟨_,i,b,l,u,hn,en,C,_⟩:=s1_i e
   exfalso
   cases i with
   | some x =>
    have d:dr v.zZT.z0B v.zZT.z0n=x::l:=hn.1;obtain ⟨b,a⟩:=en (by simp);have b:v.Gateway.z0y=false:=b;have a:zI v.Gateway=some true:=a;rw [d,List.length_cons] at f
    rcases r with c|c|c|c
    ·unfold uc at c; omega
    ·rw [hc] at c; cases c
    ·rw [b] at c; cases c
    ·rw [a] at c; cases c
   | none =>
    obtain ⟨h1,_,h2,_⟩:=hn;have h1:dr v.zZT.z0B v.zZT.z0n=[]:=h1;have h2:ends v.zZT=true:=h2;unfold ends at h2;rw [Bool.and_eq_true] at h2;rw [h1,List.length_nil] at f;exact p h2.1 (by simpa using h2.2) (by unfold uc; omega)
 ·cases e:s2 (ab v) with
  | none=>rfl
  | some y =>
   obtain ⟨_,i,b,l,u,hn,en,C,_⟩:=s2_i e
   exfalso
   cases i with
   | some x =>
    have d:dr v.zZS.z0B v.zZS.z0n=x::l:=hn.1;obtain ⟨b,a⟩:=en (by simp);have b:v.Gateway.z0J=false:=b;have a:0<ql v.Gateway:=a;rw [d,List.length_cons] at g
    rcases B with c|c|c|c|⟨q,s,c⟩
    ·unfold uu at c; omega
    ·rw [hc] at c; cases c
    ·rw [b] at c; cases c
    ·unfold ql at a; rw [c] at a; exact absurd a (by simp)
    ·unfold ql at a; rw [s] at a;have a:0<q.z0l.z0N.length:=a;omega
   | none =>
    obtain ⟨h1,_,h2,_⟩:=hn;have h1:dr v.zZS.z0B v.zZS.z0n=[]:=h1;have h2:ends v.zZS=true:=h2;unfold ends at h2;rw [Bool.and_eq_true] at h2;rw [h1,List.length_nil] at g;exact z h2.1 (by simpa using h2.2) (by unfold uu; omega)
theorem Fin_n {w:zZ0} (h:Vw w) (c:Iv w 9900000000000):∃n v,zgs (some w)=some (n,some v)∧QW (NF (ab w)) (ab v)∧Wr v∧Al w v:=by
 obtain ⟨⟨n,o⟩,e,b⟩:=Fin1 c
 cases o with
 | none=>exact b.elim
 | some v =>
  obtain ⟨g,a,d,f⟩:=b;obtain ⟨i,ev,p⟩:=fL0 w fuel w 0 0 ⟨h,.inl rfl,rfl,rfl⟩ _ e;cases ev;exact ⟨n,v,e,by have:=p.2.1; rw [rest_n d a] at this; exact this,a,p.2.2⟩
theorem Do_n {X w:zZ0} (h:Ps X w) (x:zZ2) (p:x.Kind=1∨x.Kind=3):PC (fun r:Int × Int × Option zZ0=>∃v,r.2.2=some v∧Ps X v) (zfx (some w) x) :=
 z6 fun _ _=>za0 (fun _=>zbn ⟨w,rfl,h⟩) fun _=>za0 (fun _=>z6 fun l d=>z6 fun n j=>z6 fun o g=>z6 fun m f=>z6 fun e i=>by
  obtain ⟨a,b,c⟩:=fdC h.1 d j g f i
  exact zbn ⟨e,rfl,zHT h a (.inl b) c⟩) fun c=>za0 (fun _=>z6 fun l d=>z6 fun n j=>z6 fun o g=>z6 fun m f=>z6 fun e i=>by
  obtain ⟨a,b,c⟩:=fdU h.1 d j g f i
  exact zbn ⟨e,rfl,zHT h a b c⟩) fun k=>by
  have c:x.Kind≠1:=by simpa using c
  have k:x.Kind≠3:=by simpa using k
  omega
end Go.Dm
end
section
namespace Go.Dm
def Gp (c:z0Q) (g:zZR):Prop:=g.z0c=c∧(∃m,g.Queue=some ⟨⟨[],m⟩,false⟩∧1≤m∧m≤64)∧g.z0I=0∧g.z0y=false∧g.z0r=false∧g.zZV=false
def Gi (g:zZR):Prop:=Vc g.z0c∧(∀ea,Ig g ea)∧Lv g
def Gn (r:Option zZR × Int):Prop:=∀g,r.1=some g→Gi g
theorem gn_n {e:Int}:Gn (none,e):=fun _ h=>by cases h
theorem nw0 {c:z0Q} (hc:Vc c) (l:List zZ1) (m:Int):∀(n:Nat) (v:zZR) (i:Int),Gp c v→PC Gn (zcz c l m n v i)
 | 0,_,_,_=>zJX
 | n+1,v,i,h=>by
  unfold zcz;refine za0 (fun _=>z6 fun x _=>z6 fun u _=>za0 (fun _=>z6 fun o _=>nw0 hc l m n _ o h) fun _=>zJX) fun _=>z6 fun b j=>z6 fun e p=>zbn fun g a=>?_;have a:(⟨v.Queue,v.z0O,v.z0c,v.z0C,b,e,v.zZ5,v.z0H,v.z0I,v.z0f,v.z0y,v.z0J,v.z0r,v.z0t,v.z0u,v.zZV⟩:zZR)=g:=Option.some.inj a;subst a;obtain ⟨h1,⟨q,h2,t,k⟩,f,d,r,w⟩:=h
  have q0:∀g:zZR,g.Queue=some ⟨⟨[],q⟩,false⟩→ql g=0:=fun g a=>by unfold ql; rw [a]; rfl
  have s:=q0 ⟨v.Queue,v.z0O,v.z0c,v.z0C,b,e,v.zZ5,v.z0H,v.z0I,v.z0f,v.z0y,v.z0J,v.z0r,v.z0t,v.z0u,v.zZV⟩ h2;refine ⟨by show Vc v.z0c; rw [h1]; exact hc,fun ea => .inr ⟨_,h2,k,by show ((([]:List zZZ).length:Nat):Int)≤q; simp; omega,fun c=>by omega,fun _=>⟨f,d,r⟩,fun c=>absurd f c,fun c=>?_,fun c=>absurd (zKN j) c,fun _=>d⟩,.inr ⟨.inl (zqP (.inl rfl) hc.1 hc.2.1 b j),.inr (zqP (.inr rfl) hc.1 hc.2.1 e p)⟩⟩;have c:v.z0y=true:=c;rw [d] at c; cases c
theorem nw1 {l:List zZ1} {e:z0g} {c:z0Q} {b a:Int} {o:Option z0a} (h1:b=0→1≤c.Chunk∧c.Chunk≤65536) (h2:a=0→∃m,o=some ⟨⟨[],m⟩,false⟩∧1≤m∧m≤64):PC Gn (zcA l e c b o a) :=
 za0 (fun _=>zbn gn_n) fun j=>za0 (fun _=>zbn gn_n) fun i=>za0 (fun _=>zbn gn_n) fun g=>za0 (fun _=>zbn gn_n) fun h=>z6 fun _ _=>za0 (fun _=>zbn gn_n) fun _=>z6 fun _ _=>z6 fun _ _=>by
  have d:=h1 (by simpa using j);have f:=h2 (by simpa using i)
  have n:¬ c.Head<1:=by simpa using g
  have k:¬ 65536<c.Head:=by simpa using h
  exact nw0 ⟨by omega,by omega,d.1,d.2⟩ _ _ _ _ _ ⟨rfl,f,rfl,rfl,rfl,rfl⟩
theorem nw2 {l:List zZ1} {e:z0g} {c:z0Q} {b:Int} (h1:b=0→1≤c.Chunk∧c.Chunk≤65536):PC Gn (zcB l e c b):=by
 refine z6 fun g a=>?_
 have:g.2=0→∃q,g.1=some q∧∃m,q=⟨⟨[],m⟩,false⟩∧1≤m∧m≤64:=fun h=>by
  unfold zic at a
  split at a
  ·cases a; cases h
  rename_i j
  split at a
  ·cases a; cases h
  rename_i k
  cases a;exact ⟨_,rfl,_,rfl,by simpa using j,by simpa using k⟩
 refine zqO (fun c=>nw1 h1 fun h=>?_) fun q f=>nw1 h1 fun h=>?_
 ·obtain ⟨q,f,_⟩:=this h;rw [c] at f; cases f
 ·obtain ⟨n,d,m,i⟩:=this h;rw [f] at d;cases d;exact ⟨m,by rw [i.1],i.2⟩
theorem nw (e:z0g) (c:z0Q) (l:List zZ1):PC Gn (zem e c l) :=
 z6 fun _ _=>za0 (fun _=>zbn gn_n) fun _=>z6 fun f a=>by
  have h:f.2=0→1≤c.Chunk∧c.Chunk≤65536:=fun h=>by
   unfold zdx at a
   split at a
   ·cases a; cases h
   rename_i b
   split at a
   ·cases a; cases h
   rename_i d
   exact ⟨by simpa using b,by simpa using d⟩
  exact zqO (fun _=>nw2 h) fun _ _=>nw2 h
theorem new_v {s:z0q} {w:zZ0} {e k:Int} (h:zeI s=some (some w,e)) (d:Iv w k):Vw w:=by
 unfold zeI at h;obtain ⟨⟨o,a⟩,b,h⟩:=bi h;have g:=nw _ _ _ _ b
 cases o with
 | none =>
  change (if (!(a==0))=true then some (none,a) else _)=_ at h
  split at h
  ·cases h
  ·split at h
   ·cases h
   ·split at h<;>cases h
 | some x =>
  obtain ⟨f,i,c⟩:=g x rfl
  change (if (!(a==0))=true then some (none,a) else _)=_ at h
  split at h
  ·cases h
  ·split at h
   ·cases h
   ·split at h
    ·cases h
    ·cases h;exact ⟨d.1,f,i _,c⟩
def Same (x y:z01):Prop:=x.Client=y.Client∧x.Closed=y.Closed∧(x.Closed=true∨x.Upstream=y.Upstream∧x.ReadClient=y.ReadClient∧x.ReadUpstream=y.ReadUpstream)
theorem QW_r {v u:zZ0} (t:Wr v) (z:Wr u) (hc:v.zZT.z0B=u.zZT.z0B) (hp:v.zZS.z0B=u.zZS.z0B) (h:QW (ab v) (ab u)):Same (rsO v) (rsO u):=by
 obtain ⟨K,v2,v3,v4,v5,r,C,y,v9,G,n⟩:=t;obtain ⟨N,D,o,I,L,w,s,u8,H,E,p⟩:=z;have j:∀g:zZR,tc g=0→g.zZ5=[]:=fun g h=>List.length_eq_zero_iff.1 (by unfold tc at h; omega);have m:∀g:zZR,tu g=0→g.z0H=[]:=fun g h=>List.length_eq_zero_iff.1 (by unfold tu at h; omega)
 have i:(ab v).g.zZ5=v.zZT.z0m:=by show v.zZT.z0m++v.Gateway.zZ5=_; rw [j _ v2,List.append_nil]
 have l:(ab u).g.zZ5=u.zZT.z0m:=by show u.zZT.z0m++u.Gateway.zZ5=_; rw [j _ D,List.append_nil]
 have B:(ab v).g.z0H=v.zZS.z0m:=by show v.zZS.z0m++v.Gateway.z0H=_; rw [m _ v3,List.append_nil]
 have A:(ab u).g.z0H=u.zZS.z0m:=by show u.zZS.z0m++u.Gateway.z0H=_; rw [m _ o,List.append_nil]
 rcases h with h|⟨h1,h2,c⟩
 ·have x:v.zZT.z0m=u.zZT.z0m:=by rw [← i, ← l,h]
  have F:v.zZS.z0m=u.zZS.z0m:=by rw [← B, ← A,h]
  have q:(ab v).g.zZV=(ab u).g.zZV:=by rw [h]
  have e:(ab v).a=(ab u).a:=by rw [h]
  have d:(ab v).b=(ab u).b:=by rw [h]
  have f:=zaU r C;have M:=zaU w s;have k:=zaU y v9;have J:=zaU u8 H;have e:dr v.zZT.z0B v.zZT.z0n=dr u.zZT.z0B u.zZT.z0n:=e;have d:dr v.zZS.z0B v.zZS.z0n=dr u.zZS.z0B u.zZS.z0n:=d;rw [e] at f;rw [d] at k;rw [hc] at f;rw [hp] at k;exact ⟨x,q,.inr ⟨F,by show v.zZT.z0n=u.zZT.z0n; omega,by show v.zZS.z0n=u.zZS.z0n; omega⟩⟩
 ·have h1:v.Gateway.zZV=true:=h1;have h2:u.Gateway.zZV=true:=h2;have c:(ab v).g.zZ5=(ab u).g.zZ5:=c;exact ⟨by show v.zZT.z0m=u.zZT.z0m; rw [← i, ← l,c],by show v.Gateway.zZV=u.Gateway.zZV; rw [h1,h2],.inl h1⟩
end Go.Dm
end
section
namespace Go.Dm
variable {s:z0q} {w:zZ0}
def By (l:List zZ2):Prop:=∀x∈l,x.Kind=1∨x.Kind=3
theorem Dos_p {X:zZ0}:∀(l:List zZ2) (w u:zZ0),By l→Dos l w u→Ps X w→Ps X u
 | [],w,u,_,d,h=>by rw [Dos_n d]; exact h
 | e::l,w,u,c,d,h=>by
  obtain ⟨a,b,v,f,d⟩:=Dos_i d;obtain ⟨i,ev,p⟩:=Do_n h e (c e (by simp)) _ f;cases ev;exact Dos_p l v u (fun x g=>c x (by simp [g])) d p
theorem run_d (l:List zZ2) (c:l.length≤100000):∀(n:Nat) (i:Int) (w u:zZ0),0≤i→i≤l.length→(l.length:Int)<i+n→Dos (l.drop i.toNat) w u →
  zkd l (l.length:Int) n (some w) i=(zgs (some u)).bind fun j=>(zly j.2).bind fun k=>some (k.1,0)
 | 0,i,w,u,h0,h1,h2,_=>by omega
 | n+1,i,w,u,h0,h1,h2,d=>by
  unfold zkd
  by_cases h:i<l.length
  ·obtain ⟨x,g,m⟩:=zFR h0 h;rw [m] at d;obtain ⟨a,b,v,hd,d⟩:=Dos_i d
   have f:zh i 1=some (i+1):=by simp [zh,inI]; omega
   rw [if_pos (by simpa using h),g];show (zfx (some w) x).bind _=_;rw [hd];show (zh i 1).bind _=_;rw [f];exact run_d l c n (i+1) v u (by omega) (by omega) (by omega) d
  ·have e:l.drop i.toNat=[]:=List.drop_eq_nil_of_le (by omega);rw [e] at d;rw [Dos_n d,if_neg (by simpa using h)]
def wE (s:z0q) (l:List zZ2):z0q:=⟨s.Env,s.Caps,s.Rules,s.Client,s.Upstream,s.ClientEnds,s.UpstreamEnds,l⟩
theorem zIu (s:z0q) {l:List zZ2} (b:l.length≤100000):zqj s l=some (wE s l):=by
 have f:zf 0 l.length 16=true:=by simp [zf]; omega
 unfold zqj;show ((if zf 0 l.length 16=true then some l else none).bind fun a=>some (wE s a))=_;rw [if_pos f]; rfl
theorem Run_e {e:Int} (h:zeI s=some (none,e)) (a:e≠0) (l:List zZ2):∃r,zoc (wE s l)=some (r,e):=by
 have h:zeI (wE s l)=some (none,e):=h;refine ⟨⟨[],[],0,0,⟨0,0⟩,false⟩,?_⟩;unfold zoc;rw [h];show zir _ none e=_;unfold zir;rw [if_pos (by simpa using a)]
theorem Run_n (h:zeI s=some (some w,0)) (e:Iv w 1000000000000) {l:List zZ2} (i:l.length≤100000) (k:By l):∃v,zoc (wE s l)=some (rsO v,0)∧QW (NF (ab w)) (ab v)∧Wr v∧Al w v:=by
 have vw:=new_v h e;obtain ⟨u,d,a⟩:=Dos_t l w 1000000000000 e (by omega);obtain ⟨j,g,c⟩:=Dos_p l w u k d ⟨vw,.inl rfl,rfl,rfl⟩;obtain ⟨n,v,f,o,m,b⟩:=Fin_n j ⟨a.1,a.2.1,⟨Int.le_trans a.2.2.1 (by omega),Int.le_trans a.2.2.2 (by omega)⟩⟩;have h:zeI (wE s l)=some (some w,0):=h
 have p:1000000≤fuel:=by simp [fuel]
 refine ⟨v,?_,g.trans o,m,b.1.trans c.1,b.2.trans c.2⟩;unfold zoc;rw [h];show zir (wE s l) (some w) 0=_;unfold zir;rw [if_neg (by simp)];show zkd l (l.length:Int) fuel (some w) 0=_;rw [run_d l i fuel 0 w u (by omega) (by omega) (by omega) d,f];rfl
theorem zMy (h:zeI s=some (some w,0)) (f:Iv w 1000000000000) {l m:List zZ2} (d:l.length≤100000) (n:By l) (a:m.length≤100000) (b:By m):zis s l m=some (true,0):=by
 obtain ⟨v,q,A,x,e⟩:=Run_n h f d n;obtain ⟨u,z,i,g,a2⟩:=Run_n h f a b;obtain ⟨s1,s2,k⟩:=QW_r x g (e.1.trans a2.1.symm) (e.2.trans a2.2.symm) (A.symm.trans i);unfold zis;rw [zIu s d];simp only [Option.bind_some];rw [q];simp only [Option.bind_some];rw [if_neg (by simp),zIu s a];simp only [Option.bind_some];rw [z];simp only [Option.bind_some];rw [if_neg (by simp),if_pos (by simpa using s1),s2]
 have j:∀t,((rsO v).Closed=true∨t=true)→zhu (rsO v) true t=some (true,0):=fun t y=>by
  unfold zhu;rw [if_pos rfl]
  by_cases c:(rsO v).Closed=true
  ·rw [if_pos c]
  ·rw [if_neg c,y.resolve_left c]
 show zjp (rsO v) (rsO u) ((rsO u).Closed==(rsO u).Closed)=_;rw [beq_self_eq_true];unfold zjp
 rcases k with c|⟨p,o,r⟩
 ·split
  ·split
   ·exact j _ (.inl c)
   ·exact j _ (.inl c)
  ·exact j _ (.inl c)
 ·rw [if_pos (by simpa using p),if_pos (by simpa using o)];exact j _ (.inr (by simpa using r))
theorem zMz {e:Int} (h:zeI s=some (none,e)) (a:e≠0) {l m:List zZ2} (c:l.length≤100000):zis s l m=some (false,e):=by
 obtain ⟨r,b⟩:=Run_e h a l;unfold zis;rw [zIu s c];simp only [Option.bind_some];rw [b];simp only [Option.bind_some];rw [if_pos (by simpa using a)]
theorem ev_l {k:Int} (r:1≤k) (g:k≤1048576):∀(n:Nat) (a b:Int) (l:List zZ2),0≤a→0≤b→a+b<n→a+b+l.length≤6000→By l→∃e,zfg k n a b l=some (e,0)∧e.length≤6000∧By e
 | 0,a,b,l,h0,h1,h2,_,_=>by omega
 | n+1,a,b,l,h0,h1,h2,v,i=>by
  have o:∀x:Int,0≤x→x≤6000→znY x k=some (min x k,x-min x k):=fun x h h'=>by
   have:zbh x (min x k)=some (x-min x k):=by simp [zbh,inI]; omega
   unfold znY; rw [this]; rfl
  have ft:∀(l:List zZ2) (x:zZ2),l.length≤6001→zf l.length ([x]:List zZ2).length 16=true:=fun l x h=>by simp [zf]; omega
  have p:∀(l:List zZ2) (x:zZ2),By l→(x.Kind=1∨x.Kind=3)→By (l++[x]):=fun l x h t y u=>by
   rcases List.mem_append.1 u with c|c
   ·exact h y c
   ·have:=List.mem_singleton.1 c;subst this; exact t
  have s:zh a b=some (a+b):=by simp [zh,inI]; omega
  unfold zfg;rw [s];show ∃e,(if decide ((0:Int)<a+b)=true then _ else _)=some (e,0)∧_
  by_cases c:0<a+b
  ·rw [if_pos (by simpa using c),o a h0 (by omega)]
   have j:∀(f:Int) (l:List zZ2),0≤f→f+b<n∨f+b≤n∧0<b→f+b+l.length≤6000→By l→∃e,zkD (zfg k n) k f b l=some (e,0)∧e.length≤6000∧By e:=fun f l q w z m=>by
    unfold zkD;rw [o b h1 (by omega)];show ∃e,(if decide ((0:Int)<min b k)=true then _ else _)=some (e,0)∧_
    by_cases d:0<min b k
    ·rw [if_pos (by simpa using d)];show ∃e,(if zf l.length ([(⟨3,min b k⟩:zZ2)]:List zZ2).length 16=true then _ else _)=some (e,0)∧_;rw [if_pos (ft l _ (by omega))];exact ev_l r g n f (b-min b k) (l++[⟨3,min b k⟩]) q (by omega) (by omega) (by rw [List.length_append]; simp; omega) (p l _ m (.inr rfl))
    ·rw [if_neg (by simpa using d)];exact ev_l r g n f (b-min b k) l q (by omega) (by omega) (by omega) m
   show ∃e,(if decide ((0:Int)<min a k)=true then _ else _)=some (e,0)∧_
   by_cases d:0<min a k
   ·rw [if_pos (by simpa using d)];show ∃e,(if zf l.length ([(⟨1,min a k⟩:zZ2)]:List zZ2).length 16=true then _ else _)=some (e,0)∧_;rw [if_pos (ft l _ (by omega))];exact j (a-min a k) (l++[⟨1,min a k⟩]) (by omega) (.inl (by omega)) (by rw [List.length_append]; simp; omega) (p l _ i (.inl rfl))
   ·rw [if_neg (by simpa using d)];exact j (a-min a k) l (by omega) (.inr (by omega)) (by omega) i
  ·rw [if_neg (by simpa using c)];exact ⟨l,rfl,by omega,i⟩
theorem Even_1 (h1:s.Client.length≤3000) (h2:s.Upstream.length≤3000) {k:Int} (b:1≤k) (a:k≤1048576):∃l,zlu s k=some (l,0)∧l.length≤6000∧By l:=by
 unfold zlu;rw [if_neg (by simpa using b),if_neg (by simpa using a),if_neg (by simp; omega),if_neg (by simp; omega)]
 exact ev_l b a fuel _ _ [] (by omega) (by omega) (by simp [fuel]; omega) (by simp; omega) fun x c=>by cases c
theorem zIv {l:List zZ1} {e:z0g} {c:z0Q} {d b:Int} {o:Option z0a} {g:zZR} {k:Int} (r:Rl l) (h0:stC e=0) (h1:d=if c.Chunk<1∨65536<c.Chunk then 1 else 0) (h2:b=if c.Queue<1∨64<c.Queue then 1 else 0)
  (h:zcA l e c d o b=some (some g,k)):gwC e c l=0:=by
 unfold zcA at h;unfold gwC;rw [if_neg (by simpa using h0)]
 split at h
 ·cases h
 rename_i t
 split at h
 ·cases h
 rename_i s
 split at h
 ·cases h
 rename_i u
 split at h
 ·cases h
 rename_i m
 have hc:¬ (c.Chunk<1∨65536<c.Chunk):=fun q=>t (by rw [if_pos q] at h1; subst h1; rfl);have j:¬ (c.Queue<1∨64<c.Queue):=fun q=>s (by rw [if_pos q] at h2; subst h2; rfl)
 have p:¬ c.Head<1:=by simpa using u
 have v:¬ 65536<c.Head:=by simpa using m
 rw [if_neg (by
  rintro (a|a|a|a|a|a)
  ·exact p a
  ·exact v a
  ·exact hc (.inl a)
  ·exact hc (.inr a)
  ·exact j (.inl a)
  ·exact j (.inr a))]
 obtain ⟨k,n,i,f⟩:=(inferInstance:T (zie l) _ _).ok r;rw [n] at h
 change (if (!(k.2==0))=true then some (none,k.2) else _)=_ at h
 split at h
 ·cases h
 ·rename_i z
  have z:k.2=0:=by simpa using z
  by_cases hp:zod l
  ·rw [if_pos hp, ← i hp,z]
  ·exact absurd (f hp) (by rw [z]; decide)
theorem New_0 {k:Int} (p:Bd s) (x:s.Client.length≤3000) (z:s.Upstream.length≤3000) (h:zeI s=some (some w,k)):zgz s=some 0:=by
 have b:∃g e,zem s.Env s.Caps s.Rules=some (some g,e):=by
  unfold zeI at h;obtain ⟨⟨o,e⟩,v,h⟩:=bi h
  cases o with
  | some g=>exact ⟨g,e,v⟩
  | none =>
   change (if (!(e==0))=true then some (none,e) else _)=_ at h
   split at h
   ·cases h
   ·split at h
    ·cases h
    ·split at h<;>cases h
 obtain ⟨g,e,b⟩:=b
 have q:gwC s.Env s.Caps s.Rules=0:=by
  obtain ⟨l,n,m,j,i⟩:=p;obtain ⟨k,y,B⟩:=(inferInstance:T (zj9 s.Env) _ _).ok ⟨l,n,m,j⟩;unfold zem at b;rw [y] at b
  change (if (!(k==0))=true then some (none,k) else _)=_ at b
  split at b
  ·cases b
  rename_i t
  have h0:stC s.Env=0:=by rw [← B]; simpa using t
  have key:∀f:Int,f=(if s.Caps.Chunk<1∨65536<s.Caps.Chunk then 1 else 0)→zcB s.Rules s.Env s.Caps f=some (some g,e)→gwC s.Env s.Caps s.Rules=0:=by
   intro f h1 h;unfold zcB zic at h
   by_cases d:s.Caps.Queue<1
   ·rw [if_pos (by simpa using d)] at h;exact zIv i h0 h1 (by rw [if_pos (.inl d)]) h
   ·rw [if_neg (by simpa using d)] at h
    by_cases c:64<s.Caps.Queue
    ·rw [if_pos (by simpa using c)] at h;exact zIv i h0 h1 (by rw [if_pos (.inr c)]) h
    ·rw [if_neg (by simpa using c)] at h;exact zIv i h0 h1 (by rw [if_neg (by rintro (a|a); exact d a; exact c a)]) h
  unfold zdx at b
  by_cases d:s.Caps.Chunk<1
  ·rw [if_pos (by simpa using d)] at b;exact key 1 (by rw [if_pos (.inl d)]) b
  ·rw [if_neg (by simpa using d)] at b
   by_cases c:65536<s.Caps.Chunk
   ·rw [if_pos (by simpa using c)] at b;exact key 1 (by rw [if_pos (.inr c)]) b
   ·rw [if_neg (by simpa using c)] at b;exact key 0 (by rw [if_neg (by rintro (a|a); exact d a; exact c a)]) b
 obtain ⟨l,n,m,j,i⟩:=p;obtain ⟨r,u,A⟩:=(inferInstance:T (zgz s) _ _).ok ⟨l,n,m,j,i,x,z⟩;rw [u,A,q]
end Go.Dm
end
section
namespace Go.Dm
variable {l:List zZ2}
theorem By_a {x:zZ2} (h:By l) (b:x.Kind=1∨x.Kind=3):By (l++[x]):=fun y a=>by
 rcases List.mem_append.1 a with c|c
 ·exact h y c
 ·have:=List.mem_singleton.1 c;subst this; exact b
theorem ft_e (h:l.length≤10000) (x:zZ2):zf l.length ([x]:List zZ2).length 16=true:=by
 simp [zf]; omega
theorem turn_1 (x:zZ2):∃b,zow x=some b∧(b=true→x.Kind=1∨x.Kind=3):=by
 obtain ⟨r,a,_⟩:=(evP x).ok trivial;unfold zow;rw [a];show ∃b,(if (r==0)=true then _ else _)=some b∧_
 split
 ·split
  ·rename_i c
   exact ⟨true,rfl,fun _ => .inl (by simpa using c)⟩
  ·exact ⟨_,rfl,fun c => .inr (by simpa using c)⟩
 ·exact ⟨false,rfl,fun c=>by cases c⟩
theorem zJ1 (l:List zZ2) (d:l.length≤1000):∀(n:Nat) (a:List zZ2) (i:Int),0≤i→i≤l.length→(l.length:Int)<i+n→(a.length:Int)≤i→By a→∃r,zf8 l (l.length:Int) n a i=some r∧r.length≤1000∧By r
 | 0,a,i,h0,h1,h2,_,_=>by omega
 | n+1,a,i,h0,h1,h2,k,c=>by
  unfold zf8
  by_cases h:i<l.length
  ·obtain ⟨x,f,_⟩:=zFR h0 h;obtain ⟨b,j,g⟩:=turn_1 x
   have e:zh i 1=some (i+1):=by simp [zh,inI]; omega
   rw [if_pos (by simpa using h),f];simp only [Option.bind_some];rw [j];simp only [Option.bind_some]
   cases b with
   | true =>
    rw [if_pos rfl,if_pos (ft_e (by omega) x),e];exact zJ1 l d n (a++[x]) (i+1) (by omega) (by omega) (by omega) (by rw [List.length_append]; simp; omega) (By_a c (g rfl))
   | false =>
    rw [if_neg Bool.false_ne_true,e];exact zJ1 l d n a (i+1) (by omega) (by omega) (by omega) (by omega) c
  ·rw [if_neg (by simpa using h)];exact ⟨a,rfl,by omega,c⟩
theorem set_b {i:Int} {x:zZ2} (a:By l) (d:x.Kind=1∨x.Kind=3) (h0:0≤i) (h1:i<l.length):∃r,ztp l i x=some r∧r.length=l.length∧By r:=by
 refine ⟨l.set i.toNat x,?_,by simp,fun y b=>?_⟩
 ·unfold ztp; rw [if_pos ⟨h0,h1⟩]
 ·rcases List.mem_or_eq_of_mem_set b with c|c
  ·exact a y c
  ·rw [c]; exact d
theorem at_b {i:Int} (a:By l) (h0:0≤i) (h1:i<l.length):∃x,lAt l i=some x∧(x.Kind=1∨x.Kind=3):=by
 obtain ⟨x,e,_⟩:=zFR h0 h1;refine ⟨x,e,a x ?_⟩;unfold lAt at e;rw [if_pos h0] at e;exact List.mem_of_getElem? e
theorem rev_l:∀(n:Nat) (l:List zZ2) (i j:Int),l.length≤1000→0≤i→j<l.length→j<i+n→1≤n→By l→∃r,zaj n l i j=some r∧r.length≤1000∧By r
 | 0,l,i,j,_,_,_,_,h,_=>by omega
 | n+1,l,i,j,e,h0,h1,h2,_,a=>by
  unfold zaj
  by_cases h:i<j
  ·obtain ⟨x,k,g⟩:=at_b (i:=j) a (by omega) h1;obtain ⟨y,s,d⟩:=at_b (i:=i) a h0 (by omega);obtain ⟨u,c,t,b⟩:=set_b (i:=i) a g h0 (by omega);obtain ⟨z,q,w⟩:=at_b (i:=j) b (by omega) (by omega);obtain ⟨m,o,v,p⟩:=set_b (i:=j) b d (by omega) (by omega)
   have f:zh i 1=some (i+1):=by simp [zh,inI]; omega
   have a2:zbh j 1=some (j-1):=by simp [zbh,inI]; omega
   rw [if_pos (by simpa using h)];simp only [k,s,c,q,o,f,a2,Option.bind_some];exact rev_l n m (i+1) (j-1) (by omega) (by omega) (by omega) (by omega) (by omega) p
  ·rw [if_neg (by simpa using h)];exact ⟨l,rfl,e,a⟩
theorem zO8 (l:List zZ2) (c:l.length≤1000):∃r,znx l=some r∧r.length≤1000∧By r:=by
 have j:1000000≤fuel:=by simp [fuel]
 obtain ⟨m,a,b,g⟩:=zJ1 l c fuel [] 0 (by omega) (by omega) (by omega) (by simp) fun x h=>by cases h
 have i:zbh (m.length:Int) 1=some ((m.length:Int)-1):=by simp [zbh,inI]; omega
 obtain ⟨r,e,f,d⟩:=rev_l fuel m 0 ((m.length:Int)-1) b (by omega) (by omega) (by omega) (by omega) g;refine ⟨r,?_,f,d⟩;unfold znx zth;rw [a];simp only [Option.bind_some];unfold zbF;rw [i];simp only [Option.bind_some];rw [e]; rfl
theorem zqT (l:List zZ2) (e:l.length≤1000) (b:By l):∀(n:Nat) (a:List zZ2) (i:Int),0≤i→i≤l.length→(l.length:Int)<i+n→(a.length:Int)≤i→By a→∃r,zev l (l.length:Int) n a i=some r∧r.length≤1000∧By r
 | 0,a,i,h0,h1,h2,_,_=>by omega
 | n+1,a,i,h0,h1,h2,k,d=>by
  unfold zev
  by_cases h:i<l.length
  ·obtain ⟨x,g,j⟩:=at_b b h0 h
   have f:zh i 1=some (i+1):=by simp [zh,inI]; omega
   rw [if_pos (by simpa using h),g];simp only [Option.bind_some];unfold zpu;simp only [Option.bind_some]
   by_cases c:decide ((0:Int)<x.N)=true
   ·rw [if_pos c,if_pos (ft_e (by omega) x),f];exact zqT l e b n (a++[x]) (i+1) (by omega) (by omega) (by omega) (by rw [List.length_append]; simp; omega) (By_a d j)
   ·rw [if_neg c,f];exact zqT l e b n a (i+1) (by omega) (by omega) (by omega) (by omega) d
  ·rw [if_neg (by simpa using h)];exact ⟨a,rfl,by omega,d⟩
theorem zO9 (s:z0q):∃r,zo1 s=some r∧r.length≤1000∧By r:=by
 have c:1000000≤fuel:=by simp [fuel]
 obtain ⟨r,e,m,b⟩:=zqT [(⟨1,min (s.Client.length:Int) 1048576⟩:zZ2),(⟨3,min (s.Upstream.length:Int) 1048576⟩:zZ2)] (by simp) (fun x a=>by
  rcases List.mem_cons.1 a with rfl|a
  ·exact .inl rfl
  ·have:=List.mem_singleton.1 a
   subst this; exact .inr rfl) fuel [] 0 (by omega) (by simp) (by simp; omega) (by simp) fun x a=>by cases a
 refine ⟨r,?_,m,b⟩;unfold zo1 zpv;rw [e]; rfl
theorem Even_b {s:z0q} (h1:s.Client.length≤3000) (h2:s.Upstream.length≤3000) (k:Int):∃l e,zlu s k=some (l,e)∧l.length≤6000∧By l:=by
 by_cases c:1≤k∧k≤1048576
 ·obtain ⟨l,e,a,b⟩:=Even_1 h1 h2 c.1 c.2;exact ⟨l,0,e,a,b⟩
 ·refine ⟨[],1,?_,by simp,fun x f=>by cases f⟩;unfold zlu
  by_cases d:k<1
  ·rw [if_pos (by simpa using d)]
  ·rw [if_neg (by simpa using d),if_pos (by simp; omega)]
theorem zIe {s:z0q} (h:s.Client.length≤3000) (c:s.Upstream.length≤3000) {o:Option zZ0} {e:Int} (b:zeI s=some (o,e)) (a:Wn s (o,e)) (j:Bd s) {l m:List zZ2} (r:l.length≤1000) (i:By l) (v:m.length≤6000) (g:By m):zd1 s l m=some true:=by
 obtain ⟨t,k,x,q⟩:=zO8 l r;obtain ⟨f,n,u,p⟩:=zO9 s;unfold zd1
 cases o with
 | none =>
  have a:e≠0:=a;rw [New_e j h c b a];simp only [Option.bind_some];rw [k];simp only [Option.bind_some];rw [zMz b a (by omega)];simp only [Option.bind_some];rw [n];simp only [Option.bind_some];rw [zMz b a (by omega),zMz b a (by omega)];simp only [Option.bind_some];rw [if_pos (by simpa using a)];simp
 | some w =>
  obtain ⟨h0,d,_⟩:=a;subst h0;rw [New_0 j h c b];simp only [Option.bind_some];rw [k];simp only [Option.bind_some];rw [zMy b d (by omega) i (by omega) q];simp only [Option.bind_some];rw [n];simp only [Option.bind_some];rw [zMy b d (by omega) g (by omega) p,zMy b d (by omega) i (by omega) g];simp
theorem zJ2 (x:z0q) (n:Int):ziX x n=some true:=by
 obtain ⟨s,q,h1,h2,z,A,f,j,B,h,b,a,u⟩:=(inferInstance:T (znw x) _ _).ok trivial;obtain ⟨⟨o,e⟩,i,g⟩:=(iNew s).ok ⟨⟨by omega,by omega,by omega,by omega,f,j⟩,by omega,h,b,a⟩;have d:Bd s:=⟨by omega,by omega,f,j,by omega,h⟩;obtain ⟨t,r,m,c⟩:=zO8 s.Events (by omega);obtain ⟨l,k,w,p,y⟩:=Even_b b a n;unfold ziX
 change Option.bind (some true) _=_
 show (znw x).bind _=_;rw [q];show (znx s.Events).bind _=_;rw [r];show (zlu s n).bind _=_;rw [w];show (if (!(k==0))=true then _ else _)=_
 split
 ·exact zIe b a i g d m c (by simp) fun x v=>by cases v
 ·exact zIe b a i g d m c p y
end Go.Dm
end
