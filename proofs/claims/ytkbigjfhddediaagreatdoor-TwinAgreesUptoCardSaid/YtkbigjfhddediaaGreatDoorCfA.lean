/- When the models come to something: printed by a program (wip/gen/yt.py) off the models and a table. No program in sight. -/
import Derived.Test.YtkbigjfhddediaaGreatDoorU5
set_option linter.unusedVariables false
set_option linter.unusedSimpArgs false
set_option linter.unusedVariables false
set_option maxRecDepth 10000
set_option maxHeartbeats 4000000
section
namespace Go.Dm
instance (a:z0h):T (znX a) (True) (fun r=>r.From.length≤60∧r.To.length≤60):=⟨by unfold znX; exact gu1⟩
instance (v1:z0g) (n:Nat) (v5:z0g) (a:Int):T (zgG v1 n v5 a) (0≤a∧a≤6∧a≤v1.Locations.length∧7<a+n∧v5.Locations.length≤a) (fun r=>r.Client=v5.Client∧r.Host=v5.Host∧r.Scheme=v5.Scheme∧r.By=v5.By):=by
 induction n generalizing v5 a
 ·exact ⟨goz⟩
 exact ⟨by unfold zgG znd; exact zCy⟩
instance (v1:z0g) (n:Nat) (v5:z0g) (a:Int):T (zd6 v1 n v5 a) (0≤a∧a≤6∧a≤v1.Domains.length∧7<a+n∧v5.Domains.length≤a∧v5.Locations.length=0) (fun r=>r.Client=v5.Client∧r.Host=v5.Host∧r.Scheme=v5.Scheme∧r.By=v5.By):=by
 induction n generalizing v5 a
 ·exact ⟨goz⟩
 exact ⟨by unfold zd6 zne; exact zCy⟩
theorem s60 (l:Str):sTo l (min (l.length:Int) 60)=some (l.take 60):=by
 unfold sTo;rw [if_pos (by omega),show (min (l.length:Int) (60:Int)).toNat=min 60 l.length by omega, ← List.take_take,List.take_length]
theorem zqL (x:z0g) (n:Nat) (a b c d:Str):zaX x (n+1) (a,b,c,d) 0=zaX x n (a.take 60,b,c,d) 1:=by
 show ((sTo a (min (a.length:Int) 60)).bind fun r=>(zh 0 1).bind fun e=>zaX x n (r,b,c,d) e)=_;rw [s60]; rfl
theorem zym (x:z0g) (n:Nat) (a b c d:Str):zaX x (n+1) (a,b,c,d) 1=zaX x n (a,b.take 60,c,d) 2:=by
 show ((sTo b (min (b.length:Int) 60)).bind fun r=>(zh 1 1).bind fun e=>zaX x n (a,r,c,d) e)=_;rw [s60]; rfl
theorem zyn (x:z0g) (n:Nat) (a b c d:Str):zaX x (n+1) (a,b,c,d) 2=zaX x n (a,b,c.take 60,d) 3:=by
 show ((sTo c (min (c.length:Int) 60)).bind fun r=>(zh 2 1).bind fun e=>zaX x n (a,b,r,d) e)=_;rw [s60]; rfl
theorem zyo (x:z0g) (n:Nat) (a b c d:Str):zaX x (n+1) (a,b,c,d) 3=zaX x n (a,b,c,d.take 60) 4:=by
 show ((sTo d (min (d.length:Int) 60)).bind fun r=>(zh 3 1).bind fun e=>zaX x n (a,b,c,r) e)=_;rw [s60]; rfl
theorem zF0 (x:z0g) (n:Nat) (a b c d:Str):zaX x (n+1) (a,b,c,d) 4=zd6 x fuel ⟨a,b,c,d,[],[]⟩ 0:=rfl
instance (x_a0:z0g):T (ztC x_a0) True (fun r=>r.Client.length≤60∧r.Host.length≤60∧r.Scheme.length≤60∧r.By.length≤60):=⟨fun _=>by
 unfold ztC;obtain ⟨n,hn⟩:∃n,fuel=n+1+1+1+1+1:=⟨999999999999999995,rfl⟩;have e:=zF0 x_a0 n (x_a0.Client.take 60) (x_a0.Host.take 60) (x_a0.Scheme.take 60) (x_a0.By.take 60);obtain ⟨r,c,h1,h2,a,b⟩:=(inferInstance:T (zd6 x_a0 fuel ⟨x_a0.Client.take 60,x_a0.Host.take 60,x_a0.Scheme.take 60,x_a0.By.take 60,[],[]⟩ 0) _ _).ok ⟨by omega,by omega,by omega,by unfold fuel; omega,by simp,by simp⟩;rw [c] at e;rw [show zaX x_a0 fuel (x_a0.Client,x_a0.Host,x_a0.Scheme,x_a0.By) 0=some r by rw [hn,zqL,zym,zyn,zyo,e]]
 exact ⟨r,rfl,by rw [h1]; simp; omega,by rw [h2]; simp; omega,by rw [a]; simp; omega,by rw [b]; simp; omega⟩⟩
instance (b:List z0h) (n:Nat) (a:List z0h) (i4:Int):T (zgH b n a i4) (0≤i4∧i4≤70∧i4≤b.length∧71<i4+n∧a.length≤i4∧(∀x∈a,x.From.length≤60∧x.To.length≤60)) (fun r=>r.length≤70∧∀x∈r,x.From.length≤60∧x.To.length≤60):=by
 induction n generalizing a i4
 ·exact ⟨goz⟩
 exact ⟨by unfold zgH znf; exact gu1⟩
instance (a:List z0h):T (zqg a) (True) (fun r=>r.length≤70∧∀x∈r,x.From.length≤60∧x.To.length≤60):=⟨by unfold zqg; exact gu1⟩
instance (a:z0g):T (ztD a) (True) (fun r=>r.Client.length≤60∧r.Host.length≤60∧r.Scheme.length≤60∧r.By.length≤60∧Swm r.Domains∧Swm r.Locations):=⟨by unfold ztD; exact zCy⟩
instance (b:List zZX) (n:Nat) (a:List zZX) (i4:Int):T (zgI b n a i4) (0≤i4∧i4≤40∧i4≤b.length∧41<i4+n∧a.length≤i4∧∀p∈a,p.Text.length≤60) (fun r=>r.length≤40∧∀p∈r,p.Text.length≤60):=by
 induction n generalizing a i4
 ·exact ⟨goz⟩
 exact ⟨by unfold zgI zng; exact zCy⟩
instance (a:List zZX):T (zqh a) (True) (fun r=>r.length≤40∧∀p∈r,p.Text.length≤60):=⟨by unfold zqh; exact zCy⟩
theorem zyp (x:zZ1) (n:Nat) (a b c d:Str):za4 x (n+1) (a,b,c,d) 0=za4 x n (a.take 60,b,c,d) 1:=by
 show ((sTo a (min (a.length:Int) 60)).bind fun r=>(zh 0 1).bind fun e=>za4 x n (r,b,c,d) e)=_;rw [s60]; rfl
theorem zyq (x:zZ1) (n:Nat) (a b c d:Str):za4 x (n+1) (a,b,c,d) 1=za4 x n (a,b.take 60,c,d) 2:=by
 show ((sTo b (min (b.length:Int) 60)).bind fun r=>(zh 1 1).bind fun e=>za4 x n (a,r,c,d) e)=_;rw [s60]; rfl
theorem zyr (x:zZ1) (n:Nat) (a b c d:Str):za4 x (n+1) (a,b,c,d) 2=za4 x n (a,b,c.take 60,d) 3:=by
 show ((sTo c (min (c.length:Int) 60)).bind fun r=>(zh 2 1).bind fun e=>za4 x n (a,b,r,d) e)=_;rw [s60]; rfl
theorem zys (x:zZ1) (n:Nat) (a b c d:Str):za4 x (n+1) (a,b,c,d) 3=za4 x n (a,b,c,d.take 60) 4:=by
 show ((sTo d (min (d.length:Int) 60)).bind fun r=>(zh 3 1).bind fun e=>za4 x n (a,b,c,r) e)=_;rw [s60]; rfl
theorem zF1 (x:zZ1) (n:Nat) (a b c d:Str):za4 x (n+1) (a,b,c,d) 4=znh ⟨x.Side,⟨x.Guard.Kind,c,d⟩,x.Kind,a,b,x.Parts⟩:=rfl
instance (x_r:zZ1):T (ztE x_r) True Rm:=⟨fun _=>by
 unfold ztE;obtain ⟨n,hn⟩:∃n,fuel=n+1+1+1+1+1:=⟨999999999999999995,rfl⟩;obtain ⟨r,a,h1,h2⟩:=(inferInstance:T (zqh x_r.Parts) _ _).ok trivial;rw [hn,zyp,zyq,zyr,zys,zF1];unfold znh;rw [a];refine ⟨_,rfl,?_⟩;unfold Rm Tp;simp only [List.length_take]
 exact ⟨by omega,by omega,by omega,by omega,by omega,fun p hp=>by have:=h2 p hp; omega⟩⟩
instance (b:List zZ1) (n:Nat) (a:List zZ1) (i4:Int):T (zgJ b n a i4) (0≤i4∧i4≤70∧i4≤b.length∧71<i4+n∧a.length≤i4∧∀x∈a,Rm x) (fun r=>r.length≤70∧∀x∈r,Rm x):=by
 induction n generalizing a i4
 ·exact ⟨goz⟩
 exact ⟨by unfold zgJ zni; exact zCy⟩
instance (a:List zZ1):T (ztF a) (True) (fun r=>r.length≤70∧∀x∈r,Rm x):=⟨by unfold ztF; exact zCy⟩
instance  (n:Nat) (a:List zZ1) (i4:Int):T (zkC n a i4) (0≤i4∧i4≤a.length∧a.length<i4+n∧a.length≤70∧∀x∈a,Rm x) (fun r=>r.length≤70∧∀x∈r,Rm x):=by
 induction n generalizing a i4
 ·exact ⟨goz⟩
 exact ⟨by unfold zkC; exact zCy⟩
instance (a:List zZ1):T (ztG a) (True) (fun r=>r.length≤70∧∀x∈r,Rm x):=⟨by unfold ztG; exact zCy⟩
instance (a:z0q):T (znw a) (True) (fun r=>r.Env.Client.length≤60∧r.Env.Host.length≤60∧r.Env.Scheme.length≤60∧r.Env.By.length≤60∧Swm r.Env.Domains∧Swm r.Env.Locations∧r.Rules.length≤70∧(∀x∈r.Rules,Rm x)∧r.Client.length≤3000∧r.Upstream.length≤3000∧r.Events.length≤150):=⟨by unfold znw; exact zCy⟩
end Go.Dm
end
section
namespace Go.Dm
variable {G:Prop} {i:Int} {l:List Str}
theorem lAt_a {α:Type} {l m:List α} (h:i<l.length):lAt (l++m) i=lAt l i:=by
 unfold lAt
 split
 ·rw [List.getElem?_append_left (by omega)]
 ·rfl
theorem lAt_e {α:Type} {l:List α} {x:α} (h:i=l.length):lAt (l++[x]) i=some x:=by
 unfold lAt;rw [if_pos (by omega),List.getElem?_append_right (by omega)];simp [h]
def dq (l:List Str) (i:Int):List Str:=l.drop i.toNat
theorem dq_0 (l:List Str):dq l 0=l:=rfl
theorem dq_c {x:Str} (h0:0≤i) (h:lAt l i=some x):dq l i=x::dq l (i+1):=by
 unfold lAt at h;rw [if_pos h0] at h;obtain ⟨h1,h2⟩:=List.getElem?_eq_some_iff.1 h;unfold dq;rw [List.drop_eq_getElem_cons h1,h2]
 congr 2
 omega
theorem dq_e (h:i=l.length):dq l i=[]:=by
 unfold dq; exact List.drop_eq_nil_of_le (by omega)
theorem dq_s {x:Str} (h:lAt l i=some x) (h0:0≤i):sl (dq l i)=x.length+sl (dq l (i+1)):=by rw [dq_c h0 h,zaG]
def Hd (h:zZY):Prop:=h.Fields.length≤100∧(∀f∈h.Fields,f.Name.length≤3000∧f.Value.length≤3000)∧h.Method.length≤3000∧h.Target.length≤3000∧h.Reason.length≤3000∧0≤h.Code∧h.Code≤599∧0≤h.Minor∧h.Minor≤255
def Fr (a:zZ8):Prop:=0≤a.z1a∧a.z1a≤a.z0D.length∧(a.z1a=0∨lAt a.z0D (a.z1a-1)=some 10)
def Am (a:zZ8):Prop:=a.z0D.length≤3000∧Hd a.z1d∧(a.z1h=0→a.f_whole=false→Fr a)
def oA:Option zZ8→Prop
 | none=>True
 | some a=>Am a
def kb:Option zZ8→Int
 | none=>0
 | some a=>a.z0D.length
def Dn (d:zZW):Prop:=d.z1f.length≤4098∧0≤d.z1m∧d.z1m≤1099511627776∧0≤d.z1g∧d.z1g≤70000∧d.z1b≤65536∧d.z09.length≤100∧∀f∈d.z09,f.Name.length≤4098∧f.Value.length≤4098
def Dg (d:zZW):Prop:=d.z1g≤d.z1b∧d.z0A≠4∧(d.z0A=1∨d.z0A=2→1≤d.zZ9∧d.zZ9≤1099511627776)
def Dm (d:zZW):Prop:=Dn d∧(d.z0A=4∨Dg d)
def oD:Option zZW→Prop
 | none=>True
 | some d=>Dm d
def Bm (b:z0i):Prop:=oD b.Decoder∧0≤b.zZ9∧b.zZ9≤1099511627776∧(b.z0v.Kind=2→b.z0V=false→1≤b.zZ9)
def oB:Option z0i→Prop
 | none=>True
 | some b=>Bm b
def Em (c:z0e):Prop:=1≤c.z1e∧c.z1e≤65536∧c.z0D.length≤65536
def oE:Option z0e→Prop
 | none=>True
 | some c=>Em c
def Ww (w:zZ7):Prop:=oE w.Encoder∧w.zZ9≤1099511627776
def oW:Option zZ7→Prop
 | none=>True
 | some w=>Ww w
def Tl (l:List zZU):Prop:=l.length≤100∧∀f∈l,f.Name.length≤4098∧f.Value.length≤4098
def Sd (s:zZ3):Prop:=oA s.Accum∧oB s.z00∧oW s.z0b
def Qm (q:z0a):Prop:=q.z0l.z0N.length≤64∧1≤q.z0l.z0d∧q.z0l.z0d≤64
def oQ:Option z0a→Prop
 | none=>True
 | some q=>Qm q
def En (e:z0g):Prop:=e.Client.length≤1000∧e.Host.length≤1000∧e.Scheme.length≤1000∧e.By.length≤1000∧Swm e.Domains∧Swm e.Locations
def Ca (c:z0Q):Prop:=c.Head≤65536
def Rg (l:List zZ1):Prop:=Rl l∧l.length≤400
def Cd (c:Int):Prop:=c=0∨c=400∨c=431
def Gw (g:zZR):Prop:=oQ g.Queue∧En g.z0O∧Ca g.z0c∧Rg g.z0C∧Sd g.zZT∧Sd g.zZS∧Cd g.z0I
def kc (g:zZR):Int:=kb g.zZT.Accum
def ku (g:zZR):Int:=kb g.zZS.Accum
def tc (g:zZR):Int:=g.zZ5.length
def tu (g:zZR):Int:=g.z0H.length
def kn:Option zZ8→Nat
 | none=>0
 | some a=>a.z0D.length
theorem zqM (a:Option zZ8):kb a=(kn a:Int):=by cases a<;>rfl
def Rs1 (g r:zZR):Prop:=r.Queue=g.Queue∧r.z0O=g.z0O∧r.z0c=g.z0c∧r.z0C=g.z0C∧r.zZT=g.zZT∧r.zZS=g.zZS∧r.z0I=g.z0I∧r.z0f=g.z0f∧r.z0y=g.z0y∧r.z0J=g.z0J∧r.z0r=g.z0r∧r.z0t=g.z0t∧r.z0u=g.z0u∧r.zZV=g.zZV
def st (b:Bool):Int:=if b=true then 0 else 1
theorem goG (h:G:=by
 (with_reducible repeat' first|intro _|refine And.intro ?_ ?_|refine Wf ?_ ?_|refine Wi ?_ ?_|refine Ws ?_|refine Wc ?_ ?_|refine Wo ?_ ?_|refine Wk ?_|refine We ?_ ?_)
 all_goals (try simp only [List.length_cons,List.length_nil])
 all_goals grind (gen:=12) (ematch:=12) [lAt_a,lAt_e,dq_0, → dq_s,dq_e,Hd,Fr,Am,oA,kb, = zqM,Dn,Dg,Dm,oD,Bm,oB,Em,oE,Ww,oW,Tl,fuel,zb5,zcV,zbk,zaG,zfC,Sm,Ss,Fv,Fm,Cw]):G:=h
theorem goH (h:G:=by
 (with_reducible repeat' first|intro _|refine And.intro ?_ ?_|refine Wf ?_ ?_|refine Wi ?_ ?_|refine Ws ?_|refine Wc ?_ ?_|refine Wo ?_ ?_|refine Wk ?_|refine We ?_ ?_)
 all_goals (try simp only [List.length_cons,List.length_nil])
 all_goals grind (gen:=8) (ematch:=8) [oA,kb, = zqM,oB,oW,Sd,Qm,oQ,Gw,Cd,Ca,kc,ku,tc,tu,Rs1,st,fuel,zbk,zaG]):G:=h
def Gf (g:zZR):Prop:=Gw g∧kc g=0∧ku g=0∧tc g=0∧tu g=0∧g.zZV=false
def Nw:Option zZR × Int→Prop
 | (none,e)=>e≠0
 | (some g,_)=>Gf g
theorem rtx {x:Option Str} (h:(match x with|some s=>decide (s.length≤1000)|none=>false)=true):W x (fun r=>r.length≤1000):=by
 cases x with
 | none=>cases h
 | some s=>exact ⟨s,rfl,by simpa using h⟩
theorem goF2 (h:G:=by
 (with_reducible repeat' first|intro _|refine And.intro ?_ ?_|refine Wf ?_ ?_|refine Wi ?_ ?_|refine Ws ?_|refine Wc ?_ ?_|refine Wo ?_ ?_|refine Wk ?_|refine We ?_ ?_)
 all_goals (try simp only [List.length_cons,List.length_nil])
 all_goals grind (gen:=8) (ematch:=8) [dq_0, → dq_s,dq_e,tc,tu,Rs1,fuel,zbk,zaG]):G:=h
theorem goJ (h:G:=by
 (with_reducible repeat' first|intro _|refine And.intro ?_ ?_|refine Wf ?_ ?_|refine Wi ?_ ?_|refine Ws ?_|refine Wc ?_ ?_|refine Wo ?_ ?_|refine Wk ?_|refine We ?_ ?_)
 all_goals (try simp only [List.length_cons,List.length_nil])
 all_goals grind (gen:=8) (ematch:=8) [oA,kb, = zqM,oB,oW,Sd,oQ,Gw,Cd,kc,ku,tc,tu,Rs1,st,fuel,zbk,zaG]):G:=h
theorem goO (h:G:=by
 (with_reducible repeat' first|intro _|refine And.intro ?_ ?_|refine Wf ?_ ?_|refine Wi ?_ ?_|refine Ws ?_|refine Wc ?_ ?_|refine Wo ?_ ?_|refine Wk ?_|refine We ?_ ?_)
 all_goals (try simp only [List.length_cons,List.length_nil])
 all_goals grind (gen:=8) (ematch:=8) [Hd,En,Ca,Rg,Fm,Fv,oA,kb, = zqM,oB,oW,Sd,oQ,Gw,Cd,kc,ku,tc,tu,Rs1,st,fuel,zbk,zaG]):G:=h
theorem goN2 (h:G:=by
 (with_reducible repeat' first|intro _|refine And.intro ?_ ?_|refine Wf ?_ ?_|refine Wi ?_ ?_|refine Ws ?_|refine Wc ?_ ?_|refine Wo ?_ ?_|refine Wk ?_|refine We ?_ ?_)
 all_goals (try simp only [List.length_cons,List.length_nil])
 all_goals grind (gen:=8) (ematch:=8) [Nw,Gf,Rm,Rl,Tp,Swm,Hd,En,Ca,Rg,Qm,oA,kb, = zqM,oB,oW,Sd,oQ,Gw,Cd,kc,ku,tc,tu,Rs1,st,fuel,zbk,zaG,zcV]):G:=h
end Go.Dm
end
section
namespace Go.Dm
instance (a:Int):T (zdx a) (True) (fun r=>oE r.1):=⟨by unfold zdx; exact goG⟩
instance (a:Int):T (zic a) (True) (fun r=>oQ r.1):=⟨by unfold zic; exact goH⟩
end Go.Dm
end
section
namespace Go.Dm
instance (b:Int) (a:Int):T (ziH b a) (True) (fun r=>oA r.1∧kb r.1=0):=⟨by unfold ziH zdn; exact goG⟩
instance (b:Int) (a:Int):T (zbO b a) (True) (fun r=>Sd r∧kb r.Accum=0):=⟨by unfold zbO; exact goH⟩
instance (v4:z0Q) (c:List zZ1) (b:Int) (n:Nat) (v15:zZR) (a:Int):T (zcz v4 c b n v15 a) (c.length≤400∧(∀r∈c,Rm r)∧b=c.length∧0≤a∧a≤b∧b<a+n∧v15.z0C.length≤a∧(∀r∈v15.z0C,Rm r)∧oQ v15.Queue∧En v15.z0O∧Ca v15.z0c∧v15.z0I=0∧tc v15=0∧tu v15=0∧v15.zZV=false) (fun r=>Nw r):=by
 induction n generalizing v15 a
 ·exact ⟨goz⟩
 exact ⟨by unfold zcz; exact goN2⟩
instance (b:z0g) (c:z0Q) (a:List zZ1):T (zem b c a) (En b∧a.length≤400∧∀r∈a,Rm r) (fun r=>Nw r):=⟨by unfold zem zcB zcA; exact goN2⟩
end Go.Dm
end
section
namespace Go.Dm
instance (x_e:zZ2):T (zff x_e) (True) (fun r=>r=0→0≤x_e.N):=⟨by unfold zff zg3; exact gu⟩
instance  : T (zhA) (True) (fun r=>True):=⟨by unfold zhA; exact gu⟩
instance (a:zZ8):T (zfQ a) (True) (fun r=>True):=⟨by unfold zfQ; exact gu⟩
instance (a:zZ3):T (zfm a) (True) (fun r=>True):=⟨by unfold zfm; exact gu⟩
instance  : T (zgO) (True) (fun r=>True):=⟨by unfold zgO; exact gu⟩
instance (a:z0X):T (zgj a) (a.z0d≤64∧a.z0N.length≤64∧0≤a.z0d) (fun r=>True):=⟨by unfold zgj; exact gu⟩
instance (a:z0a):T (zcp a) (Qm a) (fun r=>True):=⟨by unfold zcp; exact goH⟩
instance (a:zZR):T (zI a) (Gw a) (fun r=>r=true→a.zZV=false∧a.z0f=false):=⟨by unfold zI; exact goH⟩
instance (a:Str):T (zgk a) (True) (fun r=>r.1=0∧r.2.1=false∧r.2.2=5):=⟨by unfold zgk; exact gu⟩
instance (a:Int):T (zrh a) (True) (fun r=>Cd r):=⟨by unfold zrh; exact goH⟩
instance  : T (zes) (True) (fun r=>Hd r.1):=⟨by unfold zes; exact goG⟩
instance (a:zZR):T (zbm a) (True) (fun r=>r=a.zZV):=⟨by unfold zbm; exact gu⟩
end Go.Dm
end
section
namespace Go.Dm
instance (x_p:z0P):T (zdA x_p) (Cw x_p.Scanner) (fun r=>0≤r.1∧r.1≤255∧Cw r.2.2∧r.2.2.z03=x_p.Scanner.z03∧x_p.Scanner.z0A≤r.2.2.z0A):=⟨by unfold zdA; exact gu1⟩
instance (x_p:z0P):T (zcD x_p) (Cw x_p.Scanner) (fun r=>0≤r.2.1∧r.2.1≤255∧Cw r.2.2.2∧r.2.2.2.z03=x_p.Scanner.z03∧x_p.Scanner.z0A≤r.2.2.2.z0A):=⟨by unfold zcD; exact gu1⟩
instance (a:Str):T (zhg a) (a.length<1000000000) (fun r=>True):=⟨by unfold zhg; exact gu1⟩
instance (b:UInt8):T (zdZ b) True (fun r=>r=nsp b):=bt (by decide +kernel) b
instance (x_p:z0P):T (zdB x_p) (Cw x_p.Scanner) (fun r=>0≤r.1∧r.1≤255∧Cw r.2.2∧r.2.2.z03=x_p.Scanner.z03∧x_p.Scanner.z0A≤r.2.2.z0A):=⟨by unfold zdB; exact gu1⟩
instance (a:Str):T (zhD a) (a.length≤10000000) (fun r=>r.1.Fields=[]∧r.1.Method.length≤a.length∧r.1.Target.length≤a.length∧r.1.Reason.length≤a.length∧0≤r.1.Code∧r.1.Code≤599∧0≤r.1.Minor∧r.1.Minor≤255):=⟨by unfold zhD; exact gu1⟩
instance (a:Str):T (ziS a) (a.length≤10000000) (fun r=>r.1.Fields=[]∧r.1.Method.length≤a.length∧r.1.Target.length≤a.length∧r.1.Reason.length≤a.length∧0≤r.1.Code∧r.1.Code≤599∧0≤r.1.Minor∧r.1.Minor≤255):=⟨by unfold ziS; exact gu1⟩
instance (b:Int) (a:Str):T (zdT b a) (a.length≤10000000) (fun r=>r.1.Fields=[]∧r.1.Method.length≤a.length∧r.1.Target.length≤a.length∧r.1.Reason.length≤a.length∧0≤r.1.Code∧r.1.Code≤599∧0≤r.1.Minor∧r.1.Minor≤255):=⟨by unfold zdT zgT; exact gu1⟩
instance (x_a0:zZY):T (zik x_a0) (x_a0.Method.length≤10000∧x_a0.Target.length≤30000∧x_a0.Reason.length≤10000∧x_a0.Code≤1000∧x_a0.Minor≤1000) (fun r=>r.1.length≤60000):=⟨by unfold zik zhE zcE; exact gu1⟩
instance (c:List Str) (b:Int) (n:Nat) (a:Int):T (zfM c b n a) (Ss c∧b=c.length∧0≤a∧a≤b∧b<a+n) (fun r=>True):=by
 induction n generalizing a
 ·exact ⟨goz⟩
 exact ⟨by unfold zfM zl3; exact gu1⟩
instance (x_h:zZY):T (zrq x_h) (Fm x_h.Fields) (fun r=>True):=⟨by unfold zrq; exact gu1⟩
instance (x_h:zZY):T (zn7 x_h) (Fm x_h.Fields) (fun r=>r=0→x_h.Fields.length≤100):=⟨by unfold zn7; exact gu1⟩
instance (v1:zZY) (c:List zZU) (b:Int) (n:Nat) (a:Int):T (zjk v1 c b n a) (Fm c∧Fm v1.Fields∧b=c.length∧0≤a∧a≤b∧b<a+n) (fun r=>r=0→v1.Fields.length≤100):=by
 induction n generalizing a
 ·exact ⟨goz⟩
 exact ⟨by unfold zjk; exact gu1⟩
instance (x_h:zZY):T (zn8 x_h) (Fm x_h.Fields∧x_h.Method.length≤10000∧x_h.Target.length≤30000∧x_h.Reason.length≤10000∧x_h.Code≤1000∧x_h.Minor≤1000) (fun r=>r=0→x_h.Fields.length≤100):=⟨by unfold zn8; exact gu1⟩
instance (a:Int):T (ztS a) (True) (fun r=>r.z1o=[]∧r.z0d=max a 0):=⟨by unfold ztS; exact gu⟩
instance (a:z0L):T (ziT a) (0≤a.z0d∧a.z0d≤65536∧a.z1o.length≤a.z0d) (fun r=>r=a.z0d-a.z1o.length):=⟨by unfold ziT; exact gu⟩
instance (c:List Str) (d:Int) (n:Nat) (b:z0L) (a:Int):T (zdC c d n b a) (d=c.length∧0≤a∧a≤d∧d<a+n∧c.length≤1000∧b.z1o.length+sl (dq c a)≤65536) (fun r=>r.2.z0d=b.z0d∧r.2.z1o.length=b.z1o.length+sl (dq c a)):=by
 induction n generalizing b a
 ·exact ⟨goz⟩
 exact ⟨by unfold zdC; exact goG⟩
instance (a:z0L) (e:List Str) (c:List Str) (d:Int) (n:Nat) (i5:Int) (b:Int):T (zdD a e c d n i5 b) (c=e∧d=c.length∧0≤b∧b≤d∧d<b+n∧e.length≤1000∧a.z0d≤65536∧0≤i5∧i5≤65536∧a.z1o.length+sl e=a.z0d-i5+sl (dq c b)∧a.z1o.length≤a.z0d) (fun r=>r.2.z0d=a.z0d∧r.2.z1o.length≤a.z0d):=by
 induction n generalizing i5 b
 ·exact ⟨goz⟩
 exact ⟨by unfold zdD; exact goG⟩
instance (a:z0L) (b:List Str):T (zhF a b) (0≤a.z0d∧a.z0d≤65536∧a.z1o.length≤a.z0d∧b.length≤1000) (fun r=>r.2.z0d=a.z0d∧r.2.z1o.length≤a.z0d):=⟨by unfold zhF; exact goG⟩
instance (a:z0L) (b:List Str):T (zgU a b) (0≤a.z0d∧a.z0d≤65536∧a.z1o.length≤a.z0d∧b.length≤100) (fun r=>r.2.z0d=a.z0d∧r.2.z1o.length≤a.z0d):=⟨by unfold zgU; exact goG⟩
instance (x_p:z05) (a:Str):T (zcS x_p a) (0≤x_p.Quill.z0d∧x_p.Quill.z0d≤65536∧x_p.Quill.z1o.length≤x_p.Quill.z0d) (fun r=>r.Quill.z0d=x_p.Quill.z0d∧r.Quill.z1o.length≤x_p.Quill.z0d):=⟨by unfold zcS; exact goG⟩
instance (x_f:zZU):T (zil x_f) (x_f.Name.length≤100000000∧x_f.Value.length≤100000000) (fun r=>r.1.length≤x_f.Name.length+x_f.Value.length+2):=⟨by unfold zil; exact gu⟩
instance (a:z0L):T (ziU a) (True) (fun r=>r=a.z1o):=⟨by unfold ziU; exact gu⟩
instance (c:List zZU) (b:Int) (n:Nat) (v7:z05) (a:Int):T (zjl c b n v7 a) (Fm c∧b=c.length∧0≤a∧a≤b∧b<a+n∧0≤v7.Quill.z0d∧v7.Quill.z0d≤65536∧v7.Quill.z1o.length≤v7.Quill.z0d) (fun r=>r.1.length≤65536):=by
 induction n generalizing v7 a
 ·exact ⟨goz⟩
 exact ⟨by unfold zjl; exact goG⟩
instance (x_h:zZY) (a:Int):T (zjV x_h a) (Fm x_h.Fields∧x_h.Method.length≤10000∧x_h.Target.length≤30000∧x_h.Reason.length≤10000∧x_h.Code≤1000∧x_h.Minor≤1000∧a≤65536) (fun r=>r.1.length≤65536):=⟨by unfold zjV; exact goG⟩
end Go.Dm
end
section
namespace Go.Dm
instance (a:zZR) (b:zZY):T (zbQ a b) (Gw a∧Hd b) (fun r=>r.1.length≤65536∧0≤r.2.1.N∧r.2.1.N≤1099511627776):=⟨by unfold zbQ; exact goO⟩
instance (a:Int):T (zkb a) (True) (fun r=>oD r.1):=⟨by unfold zkb; exact goG⟩
instance (a:zZ4) (b:Int):T (zn9 a b) (True) (fun r=>oB r.1):=⟨by unfold zn9 zkc zmz zmy; exact goG⟩
instance (a:zZ8):T (zbH a) (Am a) (fun r=>Hd r.1):=⟨by unfold zbH; exact goG⟩
instance (a:Str):T (zim a) (True) (fun r=>r.1=0∧r.2.1.length=0∧r.2.2.1=false∧r.2.2.2=5):=⟨by unfold zim; exact gu⟩
instance  : T (zdE) (True) (fun r=>r=5):=⟨by unfold zdE; exact gu⟩
instance (a:Str):T (zeM a) (True) (fun r=>r.1.length=0):=⟨by unfold zeM; exact gu⟩
instance  : T (zch) (True) (fun r=>Tl r):=⟨by unfold zch; exact goG⟩
instance (a:List zZU):T (zci a) (True) (fun r=>r.1.length=0):=⟨by unfold zci; exact gu⟩
end Go.Dm
end
section
namespace Go.Dm
instance {P:Bool→Prop} (f:Int→Option Bool) (g:Str) (c:Int) (d:List Str) (b:Int) (n:Nat) (a:Int):K (zjm f g c d b n a) P ((Sm d∧b=d.length∧0≤a∧a≤b∧b<a+n∧g.length<1000000∧d.length≤4000000000000∧0≤c∧c≤10000∧P true)∧(∀i,i=c+1→W (f i) P)):=by
 induction n generalizing a
 ·exact ⟨goz⟩
 exact ⟨fun ⟨h,e⟩=>by have e:=fun a0=>K.mk (e a0); unfold zjm; exact gu⟩
instance (d:Str) (c:List Str) (b:Int) (n:Nat) (a:Int):T (zht d c b n a) (Ss c∧b=c.length∧0≤a∧a≤b∧b<a+n∧d.length<1000000) (fun r=>True):=by
 induction n generalizing a
 ·exact ⟨goz⟩
 exact ⟨by unfold zht; exact gu⟩
instance (a:Str) (b:List Str):T (zoa a b) (Ss b∧a.length<1000000) (fun r=>True):=⟨by unfold zoa; exact gu⟩
instance (x_h:zZY):T (zqn x_h) (Fm x_h.Fields) (fun r=>True):=⟨by unfold zqn; exact gu⟩
instance (x_h:zZY):T (zrr x_h) (Fm x_h.Fields) (fun r=>True):=⟨by unfold zrr; exact gu⟩
instance (a:List zZZ):T (zgV a) (True) (fun r=>True):=⟨by unfold zgV; exact gu⟩
instance (a:zZZ):T (zjH a) (True) (fun r=>True):=⟨by unfold zjH; exact gu⟩
instance (c:List zZZ) (b:Int) (n:Nat) (a:Int):T (zS c b n a) (b=c.length∧0≤a∧a≤b∧b<a+n∧c.length≤1000) (fun r => -1≤r∧r<c.length):=by
 induction n generalizing a
 ·exact ⟨goz⟩
 exact ⟨by unfold zS; exact gu⟩
instance (a:List zZZ):T (zap a) (a.length≤1000) (fun r => -1≤r∧r<a.length):=⟨by unfold zap; exact gu⟩
instance (a:List zZZ):T (zl4 a) (a.length≤1000) (fun r=>True):=⟨by unfold zl4; exact gu⟩
instance  : T (zds) (True) (fun r=>Tl r):=⟨by unfold zds; exact goG⟩
instance (a:zZW):T (zcF a) (Dm a) (fun r=>Tl r):=⟨by unfold zcF; exact goG⟩
end Go.Dm
end
section
namespace Go.Dm
instance (a:z0i):T (zbI a) (Bm a) (fun r=>Tl r):=⟨by unfold zbI; exact goG⟩
instance (a:zZ7):T (za6 a) (True) (fun r=>r=0∨r=8):=⟨by unfold za6; exact gu⟩
instance  : T (zc6) (True) (fun r=>r=5):=⟨by unfold zc6; exact gu⟩
instance (e:List zZU) (c:List zZU) (b:Int) (n:Nat) (d:List Str) (a:Int):T (zfq e c b n d a) (Tl e∧Tl c∧b=c.length∧0≤a∧a≤b∧b<a+n∧d.length≤a+1∧sl d≤10000*a+1) (fun r=>r.1.length≤1100000):=by
 induction n generalizing d a
 ·exact ⟨goz⟩
 exact ⟨by unfold zfq; exact goG⟩
instance (a:List zZU):T (zeN a) (Tl a) (fun r=>r.1.length≤1100000):=⟨by unfold zeN; exact goG⟩
instance (a:List zZU):T (zfU a) (Tl a) (fun r=>r.1.length=0):=⟨by unfold zfU; exact goG⟩
instance (a:z0e):T (zbB a) (True) (fun r=>r=0∨r=8):=⟨by unfold zbB; exact gu⟩
instance (a:Int):T (zjI a) (a<1048576) (fun r=>r.length≤21):=⟨by unfold zjI; exact gu⟩
instance (a:Int):T (zk5 a) (a<1048576) (fun r=>r.length≤21):=⟨by unfold zk5; exact gu⟩
instance (a:Str):T (zaJ a) (a.length<1000000) (fun r=>r.length≤a.length+60):=⟨by unfold zaJ; exact gu⟩
instance (a:Str):T (zfV a) (True) (fun r=>r.1.length=0):=⟨by unfold zfV; exact gu⟩
instance (a:Str):T (zfr a) (True) (fun r=>r.1=0∧r.2.1.length=0∧r.2.2.1=false∧r.2.2.2=5):=⟨by unfold zfr; exact gu⟩
instance  : T (zfs) (True) (fun r=>r=0):=⟨by unfold zfs; exact gu⟩
end Go.Dm
end
section
namespace Go.Dm
instance (a:Str) (b:Int):T (zjJ a b) (True) (fun r=>True):=⟨by unfold zjJ; exact gu2⟩
instance (a:Str) (x_h:zZY):T (zdU a x_h) (Fm x_h.Fields) (fun r=>0≤r.1.N∧r.1.N≤1099511627776):=⟨by unfold zdU; exact gu2⟩
end Go.Dm
end
section
namespace Go.Dm
set_option maxRecDepth 100000 in
instance (a:Int):T (zrs a) (a=400∨a=431∨a=502) (fun r=>r.length≤1000):=⟨fun h=>by
 rcases h with rfl|rfl|rfl
 ·exact rtx (by decide +kernel)
 ·exact rtx (by decide +kernel)
 ·exact rtx (by decide +kernel)⟩
instance (a:z0a):T (zd0 a) (True) (fun r=>r=a.z0l.z0N.length):=⟨by unfold zd0; exact gu⟩
instance (a:zZR) (b:Int):T (zV a b) (Gw a) (fun r=>Gw r∧kc r=0∧ku r=ku a∧tc r=tc a∧tu r=tu a∧r.z0f=true):=⟨by unfold zV; exact goH⟩
instance (c:List Str) (d:Int) (n:Nat) (a:zZR) (b:Int):T (zD c d n a b) (d=c.length∧c.length≤1000∧0≤b∧b≤d∧d<b+n∧tu a+sl (dq c b)≤100000000000000) (fun r=>Rs1 a r∧tc r=tc a∧tu r=tu a+sl (dq c b)):=by
 induction n generalizing a b
 ·exact ⟨goz⟩
 exact ⟨by unfold zD; exact goF2⟩
instance (a:zZR) (b:List Str):T (zae a b) (b.length≤1000∧tu a+sl b≤100000000000000) (fun r=>Rs1 a r∧tc r=tc a∧tu r=tu a+sl b):=⟨by unfold zae; exact goF2⟩
instance (x_f:zZ4) (a:Int):T (zin x_f a) (x_f.N≤1099511627776) (fun r=>oW r.1):=⟨by unfold zin zgo; exact goG⟩
instance  : T (zio) (True) (fun r=>True):=⟨by unfold zio; exact gu⟩
instance (a:z0a) (b:List zZZ):T (zbJ a b) (Qm a∧b.length≤1) (fun r=>Qm r.2):=⟨by unfold zbJ zdJ; exact goH⟩
instance (b:z0e) (a:List zZU):T (ze0 b a) (Em b∧Tl a) (fun r=>r.1.length≤1200000∧Em r.2.2):=⟨by unfold ze0; exact goG⟩
instance (b:zZ7) (a:List zZU):T (zbK b a) (Ww b∧Tl a) (fun r=>r.1.length≤1200000∧Ww r.2.2):=⟨by unfold zbK zbC; exact goG⟩
instance (a:zZR) (b:zZZ):T (zaw a b) (Gw a) (fun r=>Gw r∧kc r=0∧ku r=ku a∧tc r=tc a∧tu r=tu a):=⟨by unfold zaw; exact goH⟩
instance (a:zZR) (v4:zZY):T (zax a v4) (Gw a∧Hd v4) (fun r=>Gw r∧kc r=0∧ku r=ku a∧tc r=tc a∧tu r=tu a):=⟨by unfold zax; exact goO⟩
instance (a:zZR) (s2:Str):T (z8 a s2) (Gw a∧s2.length≤1200000∧tu a≤50000000000000) (fun r=>Gw r∧kc r=0∧ku r=ku a∧tc r=tc a∧tu r≤tu a+1200000):=⟨by unfold z8; exact goJ⟩
instance (a:zZR):T (zao a) (Gw a∧tu a≤50000000000000) (fun r=>Gw r∧kc r=0∧ku r=ku a∧tc r=tc a∧tu r≤tu a+1200000):=⟨by unfold zao; exact goJ⟩
end Go.Dm
end
section
namespace Go.Dm
instance (a:z0i):T (zgp a) (True) (fun r=>True):=⟨by unfold zgp; exact gu⟩
instance (a:zZR) (b:Bool):T (zay a b) (Gw a∧tu a≤50000000000000) (fun r=>Gw r∧kc r≤kc a∧ku r=ku a∧tc r=tc a∧tu r≤tu a+1200000):=⟨by unfold zay; exact goJ⟩
instance (a:zZR):T (zaz a) (Gw a∧tu a≤50000000000000) (fun r=>Gw r∧kc r≤kc a∧ku r=ku a∧tc r=tc a∧tu r≤tu a+1200000):=⟨by unfold zaz; exact goJ⟩
instance (a:zZR) (v5:zZ4):T (zaA a v5) (Gw a∧v5.N≤1099511627776∧tu a≤50000000000000) (fun r=>Gw r∧kc r≤kc a∧ku r=ku a∧tc r=tc a∧tu r≤tu a+1200000):=⟨by unfold zaA; exact goJ⟩
instance (a:zZR) (v2:zZY):T (zaB a v2) (Gw a∧Hd v2∧tu a≤40000000000000) (fun r=>Gw r∧kc r≤kc a∧ku r=ku a∧tc r=tc a∧tu r≤tu a+1300000):=⟨by unfold zaB; exact goJ⟩
instance (a:zZR):T (zaY a) (Gw a∧tu a≤40000000000000) (fun r=>Gw r∧kc r≤kc a∧ku r=ku a∧tc r=tc a∧tu r≤tu a+1300000):=⟨by unfold zaY; exact goJ⟩
instance (a:zZ8):T (ziV a) (1≤a.z0D.length∧a.z0D.length≤1000000) (fun r=>r=false→lAt a.z0D (a.z0D.length-1)=some 10→1<a.z0D.length∧lAt a.z0D (a.z0D.length-2)=some 13):=⟨by unfold ziV zfW; exact goG⟩
instance (a:zZ6):T (zc7 a) (Cw a) (fun r=>Cw r.2∧r.2.z03=a.z03∧a.z0A≤r.2.z0A∧r.1.length≤a.z03.length):=⟨by unfold zc7; exact gu⟩
instance (a:Str):T (zfb a) (a.length≤10000) (fun r=>r.1.Name.length≤a.length∧r.1.Value.length≤a.length):=⟨by unfold zfb; exact gu⟩
instance (b:List Str) (c:Int) (n:Nat) (v12:zZY) (a:Int):T (zjn b c n v12 a) (b.length≤9000∧(∀s∈b,s.length≤3000)∧c=b.length∧0≤a∧a≤c∧c<a+n∧v12.Fields.length≤a∧(∀f∈v12.Fields,f.Name.length≤3000∧f.Value.length≤3000)∧v12.Method.length≤3000∧v12.Target.length≤3000∧v12.Reason.length≤3000∧0≤v12.Code∧v12.Code≤599∧0≤v12.Minor∧v12.Minor≤255) (fun r=>Hd r.1):=by
 induction n generalizing v12 a
 ·exact ⟨goz⟩
 exact ⟨by unfold zjn; exact goG⟩
instance (b:Int) (a:Str) (c:Int):T (zrt b a c) (a.length≤3000) (fun r=>Hd r.1):=⟨by unfold zrt; exact goG⟩
end Go.Dm
end
section
namespace Go.Dm
instance (a:zZ8) (b:Str):T (zeO a b) (a.z0D.length≤3000∧b.length≤3000∧Hd a.z1d) (fun r=>r.2.2.z0D=a.z0D∧Hd r.2.2.z1d∧(r.1=false→r.2.1=0→r.2.2.z1a=a.z0D.length)):=⟨by unfold zeO ze1; exact goG⟩
instance (a:zZ8) (b:UInt8):T (zcj a b) (a.z0D.length<3000∧Hd a.z1d∧Fr a) (fun r=>r.2.2.z0D.length≤a.z0D.length+1∧Hd r.2.2.z1d∧(r.1=false→r.2.1=0→Fr r.2.2)):=⟨by unfold zcj; exact goG⟩
instance (s1:Str) (c:Int) (n:Nat) (b:zZ8) (a:Int):T (zaH s1 c n b a) (c=s1.length∧s1.length≤3000∧0≤a∧a≤c∧c<a+n∧b.z0D.length+(c-a)≤3000∧Hd b.z1d∧Fr b∧b.z1h=0∧b.f_whole=false) (fun r=>Am r.2.2.2∧a≤r.1∧r.1≤c∧(a<c→a<r.1)∧r.2.2.2.z0D.length≤b.z0D.length+(r.1-a)):=by
 induction n generalizing b a
 ·exact ⟨goz⟩
 exact ⟨by unfold zaH zc8; exact goG⟩
instance (a:zZ8) (b:Str):T (zaV a b) (Am a∧a.z0D.length+b.length≤3000) (fun r=>Am r.2.2.2∧0≤r.1∧r.1≤b.length∧(r.1=0→b.length=0∨r.2.2.1≠0)∧r.2.2.2.z0D.length≤a.z0D.length+r.1):=⟨by unfold zaV; exact goG⟩
instance  (n:Nat) (a:z0e) (b:List Str):T (zaT n a b) (1≤a.z1e∧a.z1e≤65536∧a.z0D.length≤70000∧a.z0D.length<n∧b.length+a.z0D.length≤70000∧sl b+70*a.z0D.length≤4900000) (fun r=>r.1.length≤7000000∧Em r.2.2):=by
 induction n generalizing a b
 ·exact ⟨goz⟩
 exact ⟨by unfold zaT; exact goG⟩
instance (b:z0e) (a:Str):T (zbs b a) (Em b∧a.length≤3000) (fun r=>r.1.length≤7000000∧Em r.2.2):=⟨by unfold zbs; exact goG⟩
end Go.Dm
end
section
namespace Go.Dm
instance (a:zZ7) (b:Str):T (zk a b) (Ww a∧b.length≤3000) (fun r=>r.1.length≤7000000∧Ww r.2.2):=⟨by unfold zk zdK zbD zdL; exact goG⟩
instance (b:zZW) (a:Str):T (zcG b a) (Dn b∧Dg b∧b.z0A=1∧1≤a.length∧a.length≤3000) (fun r=>Dn r.2∧Dg r.2∧1≤r.1.length∧r.1.length≤a.length):=⟨by unfold zcG zbT; exact goG⟩
instance (a:zZW) (b:UInt8):T (zdM a b) (Dn a∧Dg a∧a.z0A=2) (fun r=>Dn r.2∧(r.1=0→Dg r.2)):=⟨by unfold zdM zcI zcH; exact goG⟩
instance (b:Str) (a:Int):T (zo0 b a) (b.length<1000000000∧0≤a∧a≤9223372036854775807) (fun r=>0≤r.1∧r.1≤a):=⟨by unfold zo0; exact gu⟩
instance (a:zZ6):T (zl5 a) (Cw a) (fun r=>Cw r.2.2∧r.2.2.z03=a.z03∧a.z0A≤r.2.2.z0A):=⟨by unfold zl5; exact gu⟩
instance (x_r:z0W):T (zft x_r) (Cw x_r.Scanner) (fun r=>Cw r.2.2∧r.2.2.z03=x_r.Scanner.z03∧x_r.Scanner.z0A≤r.2.2.z0A):=⟨by unfold zft; exact gu⟩
instance (a:Int) (c:Int) (n:Nat) (v5:z0W) (b:List z0K):T (zeP a c n v5 b) (Cw v5.Scanner∧v5.Scanner.z03.length<v5.Scanner.z0A+n∧b.length≤v5.Scanner.z0A∧0≤a∧a≤1099511627776∧v5.Scanner.z03.length≤1000000) (fun r=>0≤r.1∧r.1≤1099511627776):=by
 induction n generalizing v5 b
 ·exact ⟨goz⟩
 exact ⟨by unfold zeP; exact gu⟩
instance (a:Str):T (zjK a) (a.length≤1000000) (fun r=>0≤r.1∧r.1≤1099511627776):=⟨by unfold zjK; exact gu⟩
instance (a:zZW) (b:Str):T (zef a b) (Dn a∧Dg a∧b.length≤5000∧a.z0A=0) (fun r=>Dn r.2∧(r.1=0→Dg r.2)):=⟨by unfold zef; exact goG⟩
instance (a:zZW) (b:Str):T (zc1 a b) (Dn a∧b.length≤4098) (fun r=>Dn r.2.2∧r.2.2.z0A=a.z0A∧r.2.2.z1g=a.z1g∧r.2.2.z1b=a.z1b∧r.2.2.zZ9=a.zZ9):=⟨by unfold zc1; exact goG⟩
instance (a:zZW) (b:UInt8):T (zdN a b) (Dn a∧Dg a∧a.z0A≠1∧a.z0A≠2) (fun r=>Dn r.2.2∧(r.1=false→r.2.1=0→Dg r.2.2)):=⟨by unfold zdN zcL zcK zcJ; exact goG⟩
instance (b:zZW) (a:Str):T (zt b a) (Dn b∧Dg b∧1≤a.length∧a.length≤3000) (fun r=>1≤r.1∧r.1≤a.length∧r.2.1.length≤r.1∧Dn r.2.2.2.2∧(r.2.2.1=false→r.2.2.2.1=0→Dg r.2.2.2.2)):=⟨by unfold zt; exact goG⟩
end Go.Dm
end
section
namespace Go.Dm
instance (s1:Str) (n:Nat) (a:zZW) (i4:Int) (c:Bool) (b:Int) (d:List UInt8):T (zq s1 n a i4 c b d) (0≤i4∧i4≤s1.length∧s1.length<i4+n∧s1.length≤3000∧d.length≤i4∧Dn a∧(c=false→b=0→Dg a)) (fun r=>i4≤r.1∧r.1≤s1.length∧r.2.1.length≤r.1∧Dm r.2.2.2.2∧(c=false→b=0→i4<s1.length→i4<r.1)):=by
 induction n generalizing a i4 c b d
 ·exact ⟨goz⟩
 exact ⟨by unfold zq zaK zbV zbU; exact goG⟩
instance (b:zZW) (a:Str):T (za7 b a) (Dm b∧a.length≤3000) (fun r=>0≤r.1∧r.1≤a.length∧r.2.1.length≤r.1∧Dm r.2.2.2.2∧(r.1=0→a.length=0∨r.2.2.2.1≠0)):=⟨by unfold za7; exact goG⟩
instance (b:z0i) (a:Str):T (zo b a) (Bm b∧a.length≤3000) (fun r=>0≤r.1∧r.1≤a.length∧r.2.1.length≤3000∧Bm r.2.2.2.2∧(r.1=0→a.length=0∨r.2.2.2.1≠0)):=⟨by unfold zo zfX zfY; exact goG⟩
end Go.Dm
end
section
namespace Go.Dm
instance (a:zZR) (i5:Int) (c:Bool) (b:Int):T (zp a i5 c b) (Gw a∧tu a≤40000000000000) (fun r=>r.1=i5∧Gw r.2∧kc r.2≤kc a∧ku r.2=ku a∧tc r.2=tc a∧tu r.2≤tu a+1300000∧(b≠0→r.2.z0f=true)):=⟨by unfold zp; exact goJ⟩
instance (a:zZR) (e:Int) (d:Bool) (c:Int) (b:Str):T (zy a e d c b) (Gw a∧b.length≤7000000∧tu a≤30000000000000) (fun r=>r.1=e∧Gw r.2∧kc r.2≤kc a∧ku r.2=ku a∧tc r.2=tc a∧tu r.2≤tu a+8200000∧(c≠0→r.2.z0f=true)):=⟨by unfold zy; exact goJ⟩
instance (a:zZR) (d:Int) (e:Str) (c:Bool) (b:Int):T (zW a d e c b) (Gw a∧e.length≤3000∧tu a≤30000000000000) (fun r=>r.1=d∧Gw r.2∧kc r.2≤kc a∧ku r.2=ku a∧tc r.2=tc a∧tu r.2≤tu a+8200000∧(b≠0→r.2.z0f=true)):=⟨by unfold zW; exact goJ⟩
instance (a:zZR) (s1:Str) (b:Bool):T (zK a s1 b) (Gw a∧kc a+s1.length≤3000∧tu a≤30000000000000) (fun r=>0≤r.1∧r.1≤s1.length∧Gw r.2∧kc r.2≤kc a+r.1∧ku r.2=ku a∧tc r.2=tc a∧tu r.2≤tu a+8200000∧(r.1=0→s1.length=0∨r.2.z0f=true)):=⟨by unfold zK; exact goJ⟩
instance (a:zZR) (b:Str):T (ze a b) (Gw a∧kc a+b.length≤3000∧tu a≤30000000000000) (fun r=>0≤r.1∧r.1≤b.length∧Gw r.2∧kc r.2≤kc a+r.1∧ku r.2=ku a∧tc r.2=tc a∧tu r.2≤tu a+8200000∧(r.1=0→b.length=0∨r.2.z0f=true)):=⟨by unfold ze; exact goJ⟩
instance (c:List Str) (d:Int) (n:Nat) (a:zZR) (b:Int):T (zC c d n a b) (d=c.length∧c.length≤1000∧0≤b∧b≤d∧d<b+n∧tc a+sl (dq c b)≤100000000000000) (fun r=>Rs1 a r∧tu r=tu a∧tc r=tc a+sl (dq c b)):=by
 induction n generalizing a b
 ·exact ⟨goz⟩
 exact ⟨by unfold zC; exact goF2⟩
instance (a:zZR) (b:List Str):T (zY a b) (b.length≤1000∧tc a+sl b≤100000000000000) (fun r=>Rs1 a r∧tu r=tu a∧tc r=tc a+sl b):=⟨by unfold zY; exact goF2⟩
instance (a:zZR):T (zT a) (Gw a) (fun r=>Gw r∧kc r=0∧ku r=0∧tc r=tc a∧tu r=tu a∧r.zZV=true∧r.z0f=a.z0f∧r.z0J=a.z0J):=⟨by unfold zT; exact goH⟩
instance (b:zZR) (a:Int):T (zO b a) (Gw b∧(a=400∨a=431∨a=502)∧tc b≤50000000000000) (fun r=>Gw r∧kc r=0∧ku r=0∧tc r≤tc b+1000∧tu r=tu b∧r.zZV=true∧r.z0f=b.z0f∧r.z0J=b.z0J):=⟨by unfold zO; exact goJ⟩
instance (a:zZR) (i2:Int) (b:Bool):T (zar a i2 b) (Gw a∧tc a≤50000000000000) (fun r=>Gw r∧kc r≤kc a∧ku r≤ku a∧tc r≤tc a+1000∧tu r=tu a∧(a.z0f=true→r.z0f=true)∧(a.zZV=true→r.zZV=true)∧(a.z0J=true→r.z0J=true)):=⟨by unfold zar; exact goJ⟩
instance (a:zZR) (i2:Int):T (zaf a i2) (Gw a∧tc a≤50000000000000) (fun r=>Gw r∧kc r≤kc a∧ku r≤ku a∧tc r≤tc a+1000∧tu r=tu a∧(a.z0f=true→r.z0f=true)∧(a.zZV=true→r.zZV=true)∧(a.z0J=true→r.z0J=true)):=⟨by unfold zaf; exact goJ⟩
instance (a:zZR):T (zg a) (Gw a∧tc a≤50000000000000) (fun r=>Gw r∧kc r≤kc a∧ku r≤ku a∧tc r≤tc a+1000∧tu r=tu a∧(a.z0f=true→r.z0f=true)∧(a.zZV=true→r.zZV=true)∧(a.z0J=true→r.z0J=true)):=⟨by unfold zg; exact goJ⟩
end Go.Dm
end
section
namespace Go.Dm
instance (s1:Str) (n:Nat) (a:zZR) (b:Int):T (zi s1 n a b) (Gw a∧0≤b∧b≤s1.length∧s1.length≤3000∧kc a+(s1.length-b)≤3000∧(s1.length-b)+2*st a.z0f+1≤n∧tu a+10000000*(s1.length-b)+10000000*st a.z0f≤30000000000000∧tc a+10000*(s1.length-b)+10000*st a.z0f≤30000000000000) (fun r=>Gw r.2.2∧b≤r.1∧r.1≤s1.length∧kc r.2.2≤kc a+(r.1-b)∧ku r.2.2≤ku a∧tu r.2.2≤tu a+10000000*(r.1-b)+10000000*st a.z0f∧tc r.2.2≤tc a+10000*(r.1-b)+10000*st a.z0f):=by
 induction n generalizing a b
 ·exact ⟨goJ⟩
 exact ⟨by unfold zi zaO; exact goJ⟩
instance (a:zZR) (b:Str):T (zM a b) (Gw a∧b.length≤3000∧kc a+b.length≤3000∧tc a=0∧tu a=0) (fun r=>Gw r.2.2∧0≤r.1∧r.1≤b.length∧kc r.2.2≤kc a+r.1∧ku r.2.2≤ku a∧tu r.2.2≤10000000*r.1+10000000∧tc r.2.2≤10000000*r.1+10000000∧(a.zZV=true→r.2.2.zZV=true)):=⟨by unfold zM; exact goJ⟩
instance (a:zZR):T (zbL a) (True) (fun r=>r.1=a.zZ5∧Rs1 a r.2∧tc r.2=0∧tu r.2=tu a):=⟨by unfold zbL; exact goH⟩
instance (a:zZR):T (zbo a) (True) (fun r=>r.1=a.z0H∧Rs1 a r.2∧tu r.2=0∧tc r.2=tc a):=⟨by unfold zbo; exact goH⟩
instance  : T (ziW) (True) (fun r=>r=0):=⟨by unfold ziW; exact gu⟩
instance  : T (ziq) (True) (fun r=>r=0):=⟨by unfold ziq; exact gu⟩
instance  : T (zbZ) (True) (fun r=>r=0):=⟨by unfold zbZ; exact gu⟩
instance  : T (zfu) (True) (fun r=>r=0):=⟨by unfold zfu; exact gu⟩
instance (a:z0e):T (zeg a) (Em a) (fun r=>0≤r∧r≤65536):=⟨by unfold zeg; exact goG⟩
instance (a:zZ7):T (zbt a) (Ww a) (fun r=>0≤r∧r≤65536):=⟨by unfold zbt; exact goG⟩
instance  : T (zfv) (True) (fun r=>r=0):=⟨by unfold zfv; exact gu⟩
instance (a:zZW):T (zeh a) (Dm a) (fun r=>0≤r∧r≤5000):=⟨by unfold zeh; exact goG⟩
instance (a:z0i):T (zgq a) (Bm a) (fun r=>0≤r∧r≤5000):=⟨by unfold zgq; exact goG⟩
instance (a:zZ8):T (zgW a) (Am a) (fun r=>0≤r∧r≤3000):=⟨by unfold zgW; exact goG⟩
instance (a:zZ3):T (zfw a) (Sd a) (fun r=>True):=⟨by unfold zfw; exact goH⟩
instance (a:zZR):T (zcT a) (Gw a) (fun r=>True):=⟨by unfold zcT; exact goH⟩
end Go.Dm
end
section
namespace Go.Dm
instance  : T (zfZ) (True) (fun r=>True):=⟨by unfold zfZ; exact gu⟩
instance (x_f:zZ4) (a:Int):T (zmA x_f a) (x_f.N≤1099511627776∧0≤x_f.N) (fun r=>0≤r.N∧r.N≤1099511627776):=⟨by unfold zmA; exact gu⟩
instance (a:z0X):T (zdO a) (a.z0N.length≤1000) (fun r=>True):=⟨by unfold zdO; exact gu⟩
instance (a:z0a):T (zaI a) (Qm a) (fun r=>True):=⟨by unfold zaI; exact goH⟩
instance  : T (zhG) (True) (fun r=>True):=⟨by unfold zhG; exact gu⟩
instance (a:zZR) (b:Int):T (zal a b) (Gw a) (fun r=>Gw r.2∧kc r.2≤kc a∧ku r.2≤ku a∧tc r.2≤tc a+0∧tu r.2=tu a):=⟨by unfold zal; exact goH⟩
instance (a:zZR) (d:Int) (c:Str) (b:Bool):T (zam a d c b) (Gw a∧c.length≤65536∧tc a≤50000000000000) (fun r=>Gw r.2∧kc r.2≤kc a∧ku r.2≤ku a∧tc r.2≤tc a+65536∧tu r.2=tu a):=⟨by unfold zam; exact goJ⟩
instance (a:zZR) (b:zZY) (c:zZZ):T (za3 a b c) (Gw a∧Hd b∧tc a≤50000000000000) (fun r=>Gw r.2∧kc r.2≤kc a∧ku r.2≤ku a∧tc r.2≤tc a+65536∧tu r.2=tu a):=⟨by unfold za3; exact goO⟩
instance (x_h:zZY) (b:Bool) (a:Int):T (zl6 x_h b a) (Fm x_h.Fields∧x_h.Fields.length≤9500∧x_h.Method.length≤10000∧x_h.Target.length≤30000∧x_h.Reason.length≤10000∧x_h.Code≤1000∧x_h.Minor≤1000) (fun r=>Fm r.Fields∧r.Method.length≤10000∧r.Target.length≤30000∧r.Reason.length≤10000∧r.Code≤1000∧r.Minor≤1000):=⟨by unfold zl6 zgr; exact gu2⟩
instance (a:z0a):T (zaZ a) (Qm a) (fun r=>Qm r.2):=⟨by unfold zaZ; exact goH⟩
instance (a:zZR):T (zag a) (Gw a) (fun r=>Gw r∧kc r≤kc a∧ku r≤ku a∧tc r≤tc a+0∧tu r=tu a):=⟨by unfold zag; exact goJ⟩
instance (a:zZR):T (zah a) (Gw a) (fun r=>Gw r∧kc r≤kc a∧ku r≤ku a∧tc r≤tc a+0∧tu r=tu a):=⟨by unfold zah; exact goJ⟩
instance (a:zZR) (s2:Str):T (zQ a s2) (Gw a∧s2.length≤1200000∧tc a≤50000000000000) (fun r=>Gw r∧kc r≤kc a∧ku r≤ku a∧tc r≤tc a+1200000∧tu r=tu a):=⟨by unfold zQ; exact goJ⟩
instance (a:zZR):T (zL a) (Gw a∧tc a≤50000000000000) (fun r=>Gw r∧kc r≤kc a∧ku r≤ku a∧tc r≤tc a+1200000∧tu r=tu a):=⟨by unfold zL; exact goJ⟩
end Go.Dm
end
section
namespace Go.Dm
instance (a:zZR) (b:Bool):T (zaC a b) (Gw a∧tc a≤50000000000000) (fun r=>Gw r.2∧kc r.2≤kc a∧ku r.2≤ku a∧tc r.2≤tc a+1200000∧tu r.2=tu a):=⟨by unfold zaC; exact goJ⟩
instance (a:zZR):T (zaD a) (Gw a∧tc a≤50000000000000) (fun r=>Gw r.2∧kc r.2≤kc a∧ku r.2≤ku a∧tc r.2≤tc a+1200000∧tu r.2=tu a):=⟨by unfold zaD; exact goJ⟩
instance (a:zZR) (v9:zZ4):T (zaE a v9) (Gw a∧v9.N≤1099511627776∧tc a≤50000000000000) (fun r=>Gw r.2∧kc r.2≤kc a∧ku r.2≤ku a∧tc r.2≤tc a+1200000∧tu r.2=tu a):=⟨by unfold zaE; exact goJ⟩
instance (a:zZR) (v5:zZZ) (b:zZ4) (v9:zZ4) (v10:zZY):T (zaF a v5 b v9 v10) (Gw a∧v9.N≤1099511627776∧Fm v10.Fields∧v10.Fields.length≤9500∧v10.Method.length≤10000∧v10.Target.length≤30000∧v10.Reason.length≤10000∧v10.Code≤1000∧v10.Minor≤1000∧tc a≤40000000000000) (fun r=>Gw r.2∧kc r.2≤kc a∧ku r.2≤ku a∧tc r.2≤tc a+1300000∧tu r.2=tu a):=⟨by unfold zaF; exact goO⟩
instance (a:zZR) (v4:zZY) (v5:zZZ) (b:zZ4) (v9:zZ4) (v10:zZY):T (zaW a v4 v5 b v9 v10) (Gw a∧Hd v4∧v9.N≤1099511627776∧Fm v10.Fields∧v10.Fields.length≤9500∧v10.Method.length≤10000∧v10.Target.length≤30000∧v10.Reason.length≤10000∧v10.Code≤1000∧v10.Minor≤1000∧tc a≤40000000000000) (fun r=>Gw r.2∧kc r.2≤kc a∧ku r.2≤ku a∧tc r.2≤tc a+1300000∧tu r.2=tu a):=⟨by unfold zaW; exact goO⟩
instance (a:zZR) (b:zZY) (c:zZZ):T (zbe a b c) (Gw a∧Hd b∧tc a≤40000000000000) (fun r=>Gw r.2∧kc r.2≤kc a∧ku r.2≤ku a∧tc r.2≤tc a+1300000∧tu r.2=tu a):=⟨by unfold zbe; exact goO⟩
instance (a:zZR) (b:Int):T (zab a b) (Gw a∧tc a≤50000000000000) (fun r=>Gw r∧kc r≤kc a∧ku r≤ku a∧tc r≤tc a+1000∧tu r=tu a):=⟨by unfold zab; exact goJ⟩
instance (a:zZR) (v2:zZY) (v4:zZZ):T (zan a v2 v4) (Gw a∧Hd v2∧tc a≤40000000000000) (fun r=>Gw r∧kc r≤kc a∧ku r≤ku a∧tc r≤tc a+1310000∧tu r=tu a):=⟨by unfold zan; exact goJ⟩
instance (a:zZR) (v2:zZY):T (zac a v2) (Gw a∧Hd v2∧tc a≤40000000000000) (fun r=>Gw r∧kc r≤kc a∧ku r≤ku a∧tc r≤tc a+1310000∧tu r=tu a):=⟨by unfold zac; exact goJ⟩
instance (a:zZR):T (zaL a) (Gw a∧tc a≤40000000000000) (fun r=>Gw r∧kc r≤kc a∧ku r≤ku a∧tc r≤tc a+1310000∧tu r=tu a):=⟨by unfold zaL; exact goO⟩
instance (a:zZR) (i5:Int) (c:Bool) (b:Int):T (zm a i5 c b) (Gw a∧tc a≤40000000000000) (fun r=>r.1=i5∧Gw r.2∧kc r.2≤kc a∧ku r.2≤ku a∧tc r.2≤tc a+1310000∧tu r.2=tu a∧(b≠0→r.2.zZV=true)):=⟨by unfold zm; exact goJ⟩
instance (a:zZR) (e:Int) (d:Bool) (c:Int) (b:Str):T (zu a e d c b) (Gw a∧b.length≤7000000∧tc a≤30000000000000) (fun r=>r.1=e∧Gw r.2∧kc r.2≤kc a∧ku r.2≤ku a∧tc r.2≤tc a+8200000∧tu r.2=tu a∧(c≠0→r.2.zZV=true)):=⟨by unfold zu; exact goJ⟩
instance (a:zZR) (d:Int) (e:Str) (c:Bool) (b:Int):T (zR a d e c b) (Gw a∧e.length≤3000∧tc a≤30000000000000) (fun r=>r.1=d∧Gw r.2∧kc r.2≤kc a∧ku r.2≤ku a∧tc r.2≤tc a+8200000∧tu r.2=tu a∧(b≠0→r.2.zZV=true)):=⟨by unfold zR; exact goJ⟩
instance (a:zZR) (s1:Str) (b:Bool):T (zH a s1 b) (Gw a∧ku a+s1.length≤3000∧tc a≤30000000000000) (fun r=>0≤r.1∧r.1≤s1.length∧Gw r.2∧ku r.2≤ku a+r.1∧kc r.2≤kc a∧tu r.2=tu a∧tc r.2≤tc a+8200000∧(r.1=0→s1.length=0∨r.2.zZV=true)):=⟨by unfold zH; exact goJ⟩
instance (a:zZR) (b:Str):T (zj a b) (Gw a∧ku a+b.length≤3000∧tc a≤30000000000000) (fun r=>0≤r.1∧r.1≤b.length∧Gw r.2∧ku r.2≤ku a+r.1∧kc r.2≤kc a∧tu r.2=tu a∧tc r.2≤tc a+8200000∧(r.1=0→b.length=0∨r.2.zZV=true)):=⟨by unfold zj; exact goJ⟩
instance (s1:Str) (n:Nat) (a:zZR) (b:Int):T (za s1 n a b) (Gw a∧0≤b∧b≤s1.length∧s1.length≤3000∧ku a+(s1.length-b)≤3000∧(s1.length-b)+2*st a.zZV+1≤n∧tc a+10000000*(s1.length-b)+10000000*st a.zZV≤30000000000000) (fun r=>Gw r.2.2∧b≤r.1∧r.1≤s1.length∧ku r.2.2≤ku a+(r.1-b)∧kc r.2.2≤kc a∧tc r.2.2≤tc a+10000000*(r.1-b)+10000000*st a.zZV∧tu r.2.2=tu a):=by
 induction n generalizing a b
 ·exact ⟨goJ⟩
 exact ⟨by unfold za zw; exact goJ⟩
instance (a:zZR) (b:Str):T (zr a b) (Gw a∧b.length≤3000∧ku a+b.length≤3000∧tc a=0∧tu a=0) (fun r=>Gw r.2.2∧0≤r.1∧r.1≤b.length∧ku r.2.2≤ku a+r.1∧kc r.2.2≤kc a∧tc r.2.2≤10000000*r.1+10000000∧tu r.2.2≤10000000*r.1+10000000∧(a.zZV=true→r.2.2.zZV=true)):=⟨by unfold zr; exact goJ⟩
end Go.Dm
end
section
namespace Go.Dm
instance (a:zZR):T (zG a) (Gw a∧tc a≤40000000000000) (fun r=>Gw r.2∧kc r.2≤kc a∧ku r.2≤ku a∧tc r.2≤tc a+1310000∧tu r.2=tu a∧(a.zZV=true→r.2.zZV=true)):=⟨by unfold zG; exact goJ⟩
instance  : T (zjo) (True) (fun r=>True):=⟨by unfold zjo; exact gu⟩
instance (a:z0i):T (zfc a) (Bm a) (fun r=>Bm r.2.2):=⟨by unfold zfc zgX; exact goG⟩
instance (a:zZR) (t3:Bool):T (zP a t3) (Gw a∧tc a≤40000000000000) (fun r=>Gw r.2∧kc r.2≤kc a∧ku r.2≤ku a∧tc r.2≤tc a+1310000∧tu r.2=tu a):=⟨by unfold zP; exact goJ⟩
instance (a:zZR):T (zn a) (Gw a∧tc a≤40000000000000) (fun r=>Gw r.2∧kc r.2≤kc a∧ku r.2≤ku a∧tc r.2≤tc a+1310000∧tu r.2=tu a∧(a.zZV=true→r.2.zZV=true)):=⟨by unfold zn; exact goJ⟩
end Go.Dm
end
section
namespace Go.Dm
theorem L0_s (n:Nat) (w:zZ0) (i3 i4:Int):zcU (n+1) w i3 i4=if (decide (i4<2)) then zru (zcU n) w i3 i4 else some (i3,some w):=rfl
def uc (w:zZ0):Int:=w.zZT.z0B.length-w.zZT.z0n
def uu (w:zZ0):Int:=w.zZS.z0B.length-w.zZS.z0n
def Mz (w:zZ0):Int:=uc w+uu w+st w.zZT.z0U+st w.zZS.z0U
def Bz (w:zZ0):Int:=10000000*(uc w+uu w)+30000000*Mz w
def Wr (w:zZ0):Prop:=Gw w.Gateway∧tc w.Gateway=0∧tu w.Gateway=0∧w.zZT.z0B.length≤3000∧w.zZS.z0B.length≤3000∧0≤w.zZT.z0n∧w.zZT.z0n≤w.zZT.z0B.length∧0≤w.zZS.z0n∧w.zZS.z0n≤w.zZS.z0B.length∧kc w.Gateway+uc w≤3000∧ku w.Gateway+uu w≤3000
def Sn (w:zZ0) (k:Int):Prop:=w.zZT.z0m.length+Bz w≤k∧w.zZS.z0m.length+Bz w≤k
def Gr (a b:List UInt8) (m:z08) (w:zZ0):Prop:=a <+: w.zZT.z0m∧b <+: w.zZS.z0m∧m.Client≤w.z0d.Client∧m.Upstream≤w.z0d.Upstream
theorem goTk {G:Prop} (h:G:=by
 (with_reducible repeat' first|intro _|refine And.intro ?_ ?_|refine Wf ?_ ?_|refine Wi ?_ ?_|refine Ws ?_|refine Wc ?_ ?_|refine Wo ?_ ?_|refine Wk ?_|refine We ?_ ?_)
 all_goals (try simp only [List.length_cons,List.length_nil])
 all_goals grind (gen:=8) (ematch:=8) [List.prefix_append,oA,kb, = zqM,oB,oW,Sd,oQ,Gw,Cd,kc,ku,tc,tu,Rs1,st,fuel,zbk,zaG]):G:=h
instance takeG (x_w:zZ0):T (zA x_w) (Gw x_w.Gateway∧0≤tc x_w.Gateway∧x_w.zZT.z0m.length+tc x_w.Gateway≤100000000000000∧x_w.zZS.z0m.length+tu x_w.Gateway≤100000000000000) (fun r=>(Gw r.Gateway∧kc r.Gateway=kc x_w.Gateway∧ku r.Gateway=ku x_w.Gateway∧tc r.Gateway=0∧tu r.Gateway=0∧r.zZT.z0B=x_w.zZT.z0B∧r.zZT.z0n=x_w.zZT.z0n∧r.zZT.z0R=x_w.zZT.z0R∧r.zZT.z0U=x_w.zZT.z0U∧r.zZT.z0m.length=x_w.zZT.z0m.length+tc x_w.Gateway∧r.zZS.z0B=x_w.zZS.z0B∧r.zZS.z0n=x_w.zZS.z0n∧r.zZS.z0R=x_w.zZS.z0R∧r.zZS.z0U=x_w.zZS.z0U∧r.zZS.z0m.length=x_w.zZS.z0m.length+tu x_w.Gateway)∧x_w.zZT.z0m <+: r.zZT.z0m∧x_w.zZS.z0m <+: r.zZS.z0m∧x_w.z0d.Client≤r.z0d.Client∧x_w.z0d.Upstream≤r.z0d.Upstream∧r.Gateway.zZV=x_w.Gateway.zZV):=⟨fun h=>by unfold zA; exact goTk⟩
section
variable {a b:List UInt8} {m:z08} {F:zZ0→Int→Int→Option (Int × Option zZ0)} {n:Int}
end
theorem Mz_0 {w:zZ0} (h:Wr w):0≤Mz w:=by grind [Wr,Mz,uc,uu,st]
def Iv (w:zZ0) (k:Int):Prop:=Wr w∧uc w+uu w≤6000∧Sn w k
def Dq (v:zZ0) (k:Int):Option zZ0→Prop
 | none=>False
 | some w=>Iv w k∧Gr v.zZT.z0m v.zZS.z0m v.z0d w∧(v.Gateway.zZV=true→w.Gateway.zZV=true)
theorem Gr_r (w:zZ0):Gr w.zZT.z0m w.zZS.z0m w.z0d w:=⟨List.prefix_refl _,List.prefix_refl _,Int.le_refl _,Int.le_refl _⟩
theorem goWd {G:Prop} (h:G:=by
 (with_reducible repeat' first|intro _|refine And.intro ?_ ?_|refine Wf ?_ ?_|refine Wi ?_ ?_|refine Ws ?_|refine Wc ?_ ?_|refine Wo ?_ ?_|refine Wk ?_|refine We ?_ ?_)
 all_goals (try simp only [List.length_cons,List.length_nil])
 all_goals grind (gen:=8) (ematch:=8) [Gr_r,Iv,Dq,Gr,tc,tu,Wr,Sn,Bz,uc,uu,Mz,st,fuel]):G:=h
theorem Do_w (w:zZ0) (e:zZ2) (k:Int) (h:Iv w k) (b:k≤9000000000000):W (zfx (some w) e) (fun r=>Dq w (k+10000000) r.2.2):=by
 have a:=Gr_r w;unfold zfx zhh;show W ((zff e).bind _) _;exact goWd
inductive Dos:List zZ2→zZ0→zZ0→Prop
 | nil (w:zZ0):Dos [] w w
 | cons {e:zZ2} {l:List zZ2} {w v u:zZ0} {a b:Int} (h:zfx (some w) e=some (a,b,some v)) (d:Dos l v u):Dos (e::l) w u
theorem Dos_i {e:zZ2} {l:List zZ2} {w u:zZ0} (d:Dos (e::l) w u):∃a b v,zfx (some w) e=some (a,b,some v)∧Dos l v u:=by
 cases d with
 | cons h d=>exact ⟨_,_,_,h,d⟩
theorem Dos_n {w u:zZ0} (d:Dos [] w u):u=w:=by cases d; rfl
theorem Dos_t:∀(l:List zZ2) (w:zZ0) (k:Int),Iv w k→k+10000000*l.length≤9000000000000→∃u,Dos l w u∧Iv u (k+10000000*l.length)
 | [],w,k,h,_=>⟨w,.nil w,by simpa using h⟩
 | e::l,w,k,h,g=>by
  rw [List.length_cons] at g;obtain ⟨⟨a,b,o⟩,c,h1⟩:=Do_w w e k h (by omega)
  cases o with
  | none=>exact h1.elim
  | some v =>
   obtain ⟨u,d,f⟩:=Dos_t l v (k+10000000) h1.1 (by omega);refine ⟨u,.cons c d,?_⟩;rw [List.length_cons]
   have:k+10000000+10000000*(l.length:Int)=k+10000000*((l.length+1:Nat):Int):=by omega
   rw [← this]; exact f
theorem zFR {α:Type} {l:List α} {i:Int} (h0:0≤i) (h:i<l.length):∃x,lAt l i=some x∧l.drop i.toNat=x::l.drop (i+1).toNat:=by
 have hi:i.toNat<l.length:=by omega
 have e:(i+1).toNat=i.toNat+1:=by omega
 exact ⟨l[i.toNat],by simp [lAt,h0,hi],by rw [e]; exact List.drop_eq_getElem_cons hi⟩
def rsO (w:zZ0):z01:=⟨w.zZT.z0m,w.zZS.z0m,w.zZT.z0n,w.zZS.z0n,w.z0d,w.Gateway.zZV⟩
def Wn (s:z0q):Option zZ0 × Int→Prop
 | (none,e)=>e≠0
 | (some w,e)=>e=0∧Iv w 1000000000000∧w.zZT.z0U=false∧w.zZT.z0B=s.Client∧w.zZS.z0B=s.Upstream∧w.Gateway.zZV=false
instance iNew (s:z0q):T (zeI s) (En s.Env∧s.Rules.length≤400∧(∀r∈s.Rules,Rm r)∧s.Client.length≤3000∧s.Upstream.length≤3000) (Wn s):=⟨fun ⟨h1,h2,d,f,h⟩=>by
 obtain ⟨⟨o,e⟩,k,a⟩:=(inferInstance:T (zem s.Env s.Caps s.Rules) _ _).ok ⟨h1,h2,d⟩;unfold zeI;rw [k]
 cases o with
 | none =>
  have a:e≠0:=a;exact ⟨(none,e),by simp [Go.Rk.optK,a],a⟩
 | some g =>
  have a:Gf g:=a
  by_cases c:e=0
  ·refine ⟨(some ⟨g,⟨s.Client,0,s.ClientEnds,false,[],(),()⟩,⟨s.Upstream,0,s.UpstreamEnds,false,[],(),()⟩,⟨0,0⟩⟩,0),?_,?_⟩
   ·simp only [Go.Rk.optK,Option.bind,c];rw [if_neg (by simp),if_neg (by simp; omega),if_neg (by simp; omega)]
   ·obtain ⟨n,i,l,m,j,b⟩:=a;simp only [Wn,Iv,Wr,Sn,Bz,uc,uu,Mz,st,List.length_nil,n,i,l,m,j,b];refine ⟨trivial,⟨⟨trivial,trivial,trivial,f,h,?_⟩,?_,?_⟩,trivial,trivial,trivial,trivial⟩<;>simp<;>omega
  ·exact ⟨(none,e),by simp [Go.Rk.optK,c],c⟩⟩
end Go.Dm
end
section
namespace Go.Dm
theorem NL0 (c:z0Q) (l:List zZ1) (k:Int):∀(n:Nat) (g:zZR) (i:Int) (r:Option zZR × Int),zcz c l k n g i=some r→r.2=0
 | 0,g,i,r,h=>by cases h
 | n+1,g,i,r,h=>by
  unfold zcz at h
  split at h
  ·obtain ⟨a,_,h⟩:=Option.bind_eq_some_iff.1 h;obtain ⟨b,_,h⟩:=Option.bind_eq_some_iff.1 h
   split at h
   ·obtain ⟨d,_,h⟩:=Option.bind_eq_some_iff.1 h;exact NL0 c l k n _ _ r h
   ·cases h
  ·obtain ⟨a,_,h⟩:=Option.bind_eq_some_iff.1 h;obtain ⟨b,_,h⟩:=Option.bind_eq_some_iff.1 h;cases h; rfl
def Bd (s:z0q):Prop:=s.Env.By.length≤1000∧s.Env.Host.length≤1000∧Swm s.Env.Domains∧Swm s.Env.Locations∧Rl s.Rules
theorem zOT {l:List zZ1} {e:z0g} {c:z0Q} {g f:Int} {o:Option z0a} {r:Option zZR × Int} (s:Rl l) (h0:stC e=0) (h1:g=if c.Chunk<1∨65536<c.Chunk then 1 else 0) (h2:f=if c.Queue<1∨64<c.Queue then 1 else 0)
  (h:zcA l e c g o f=some r) (t:r.2≠0):gwC e c l=r.2:=by
 unfold zcA at h;unfold gwC;rw [if_neg (by simpa using h0)]
 split at h
 ·rename_i hc
  cases h
  have:c.Chunk<1∨65536<c.Chunk:=by
   by_cases q:c.Chunk<1∨65536<c.Chunk
   ·exact q
   ·rw [if_neg q] at h1; subst h1; simp at hc
  rw [if_pos (by rcases this with q|q<;>simp [q])]
 ·rename_i hc
  have hc:¬ (c.Chunk<1∨65536<c.Chunk):=fun q=>hc (by rw [if_pos q] at h1; subst h1; rfl)
  split at h
  ·rename_i d
   cases h
   have:c.Queue<1∨64<c.Queue:=by
    by_cases q:c.Queue<1∨64<c.Queue
    ·exact q
    ·rw [if_neg q] at h2; subst h2; simp at d
   rw [if_pos (by rcases this with q|q<;>simp [q])]
  ·rename_i d
   have d:¬ (c.Queue<1∨64<c.Queue):=fun q=>d (by rw [if_pos q] at h2; subst h2; rfl)
   split at h
   ·rename_i q
    cases h
    have q:c.Head<1:=by simpa using q
    rw [if_pos (.inl q)]
   ·rename_i j
    split at h
    ·rename_i q
     cases h
     have q:65536<c.Head:=by simpa using q
     rw [if_pos (.inr (.inl q))]
    ·rename_i n
     have j:¬ c.Head<1:=by simpa using j
     have n:¬ 65536<c.Head:=by simpa using n
     rw [if_neg (by
      rintro (a|a|a|a|a|a)
      ·exact j a
      ·exact n a
      ·exact hc (.inl a)
      ·exact hc (.inr a)
      ·exact d (.inl a)
      ·exact d (.inr a))]
     obtain ⟨k,p,m,i⟩:=(inferInstance:T (zie l) _ _).ok s;rw [p] at h
     change (if (!(k.2==0))=true then some (none,k.2) else _)=some r at h
     split at h
     ·cases h
      by_cases hp:zod l
      ·rw [if_pos hp,m hp]
      ·rw [if_neg hp,i hp]
     ·obtain ⟨a,_,h⟩:=Option.bind_eq_some_iff.1 h;obtain ⟨b,_,h⟩:=Option.bind_eq_some_iff.1 h;exact absurd (NL0 _ _ _ _ _ _ _ h) t
theorem New_2 {s:z0q} {r:Option zZR × Int} (n:Bd s) (h:zem s.Env s.Caps s.Rules=some r) (e:r.2≠0):gwC s.Env s.Caps s.Rules=r.2:=by
 obtain ⟨l,p,o,j,g⟩:=n;obtain ⟨k,m,i⟩:=(inferInstance:T (zj9 s.Env) _ _).ok ⟨l,p,o,j⟩;unfold zem at h;rw [m] at h
 change (if (!(k==0))=true then some (none,k) else _)=some r at h
 split at h
 ·cases h;have e:k≠0:=e;unfold gwC;rw [if_pos (by rw [← i]; exact e),i]
 ·rename_i f
  have f:k=0:=by simpa using f
  have h0:stC s.Env=0:=by rw [← i]; exact f
  have key:∀d:Int,d=(if s.Caps.Chunk<1∨65536<s.Caps.Chunk then 1 else 0)→zcB s.Rules s.Env s.Caps d=some r→gwC s.Env s.Caps s.Rules=r.2:=by
   intro d h1 h;unfold zcB zic at h
   by_cases c:s.Caps.Queue<1
   ·rw [if_pos (by simpa using c)] at h;exact zOT g h0 h1 (by rw [if_pos (.inl c)]) h e
   ·rw [if_neg (by simpa using c)] at h
    by_cases b:64<s.Caps.Queue
    ·rw [if_pos (by simpa using b)] at h;exact zOT g h0 h1 (by rw [if_pos (.inr b)]) h e
    ·rw [if_neg (by simpa using b)] at h;exact zOT g h0 h1 (by rw [if_neg (by rintro (a|a); exact c a; exact b a)]) h e
  unfold zdx at h
  by_cases c:s.Caps.Chunk<1
  ·rw [if_pos (by simpa using c)] at h;exact key 1 (by rw [if_pos (.inl c)]) h
  ·rw [if_neg (by simpa using c)] at h
   by_cases b:65536<s.Caps.Chunk
   ·rw [if_pos (by simpa using b)] at h;exact key 1 (by rw [if_pos (.inr b)]) h
   ·rw [if_neg (by simpa using b)] at h;exact key 0 (by rw [if_neg (by rintro (a|a); exact c a; exact b a)]) h
theorem New_e {s:z0q} {e:Int} (b:Bd s) (m:s.Client.length≤3000) (n:s.Upstream.length≤3000) (h:zeI s=some (none,e)) (t:e≠0):zgz s=some e:=by
 have a:∃o,zem s.Env s.Caps s.Rules=some (o,e):=by
  unfold zeI at h;obtain ⟨⟨o,k⟩,l,h⟩:=Option.bind_eq_some_iff.1 h;refine ⟨o,?_⟩;rw [l]
  have d:¬ decide ((1048576:Int)<(s.Client.length:Int))=true:=by simp; omega
  have c:¬ decide ((1048576:Int)<(s.Upstream.length:Int))=true:=by simp; omega
  cases o with
  | none =>
   change (if (!(k==0))=true then some (none,k) else _)=_ at h
   split at h
   ·cases h; rfl
   ·first|cases h|(rw [if_neg d,if_neg c] at h; cases h)
  | some g =>
   change (if (!(k==0))=true then some (none,k) else _)=_ at h
   split at h
   ·cases h; rfl
   ·first|cases h|(rw [if_neg d,if_neg c] at h; cases h)
 obtain ⟨o,a⟩:=a;have:=New_2 b a t;obtain ⟨i,v,q,f,u⟩:=b;obtain ⟨r,j,p⟩:=(inferInstance:T (zgz s) _ _).ok ⟨i,v,q,f,u,m,n⟩;rw [j,p,this]
end Go.Dm
end
section
namespace Go.Dm
def Rs2 (g r:zZR):Prop:=r.Queue=g.Queue∧r.zZT=g.zZT∧r.z0f=g.z0f∧r.z0y=g.z0y∧r.zZV=g.zZV∧r.z0J=g.z0J
def Cr (g:zZR):Prop:=g.zZV=true∨g.z0y=true∨zI g=some false
def Ur (g:zZR):Prop:=g.zZV=true∨g.z0J=true∨g.Queue=none∨∃q,g.Queue=some q∧q.z0l.z0N.length=0
theorem Cr_s {g r:zZR} (h:Rs2 g r) (c:Cr g):Cr r:=by
 obtain ⟨h1,h2,b,d,a,f⟩:=h
 have e:zI r=zI g:=by unfold zI; rw [h1,h2,b,a]
 unfold Cr at *
 rw [e,d,a]; exact c
theorem Ur_s {g r:zZR} (h:Rs2 g r) (c:Ur g):Ur r:=by
 obtain ⟨h1,h2,d,e,b,a⟩:=h
 unfold Ur at *
 rw [h1,b,a]; exact c
theorem bi {α β:Type} {x:Option α} {f:α→Option β} {r:β} (h:x.bind f=some r):∃a,x=some a∧f a=some r:=by
 cases x with
 | none=>cases h
 | some a=>exact ⟨a,rfl,h⟩
theorem zJY (s:Str):∀(n:Nat) (g:zZR) (i:Int) (r:Int × Int × zZR),zi s n g i=some r→((s.length:Int)≤r.1∨Cr r.2.2)∧r.2.1=0
 | 0,_,_,_,h=>by cases h
 | n+1,g,i,r,h=>by
  unfold zi zaO at h
  split at h
  ·obtain ⟨b,c,h⟩:=bi h
   cases b with
   | false=>cases h; exact ⟨.inr (.inr (.inr c)),rfl⟩
   | true =>
    obtain ⟨k,e,h⟩:=bi h;obtain ⟨f,m,h⟩:=bi h;obtain ⟨d,l,h⟩:=bi h;obtain ⟨a,j,h⟩:=bi h;exact zJY s n a d r h
  ·rename_i hc
   cases h;exact ⟨.inl (by simpa using hc),rfl⟩
theorem fu1:∃k,fuel=k+1:=⟨fuel-1,by unfold fuel; rfl⟩
def Co (g:zZR) (s:Str) (r:Int × Int × zZR):Prop:=(g.zZV=true→r=(0,8,g))∧((s.length:Int)≤r.1∨Cr r.2.2)∧(r.2.1=0∨r.2.1=8∧r.1=0)∧(s=[]∨Cr g→r.1=0∧r.2.2=g)
theorem cl_o {g:zZR} {s:Str} {r:Int × Int × zZR} (h:zM g s=some r):Co g s r:=by
 unfold zM at h
 split at h
 ·cases h; exact ⟨fun _=>rfl,.inr (.inl ‹_›),.inr ⟨rfl,rfl⟩,fun _=>⟨rfl,rfl⟩⟩
 split at h
 ·cases h; exact ⟨fun _=>rfl,.inr (.inr (.inl ‹_›)),.inr ⟨rfl,rfl⟩,fun _=>⟨rfl,rfl⟩⟩
 rename_i hc d
 refine ⟨fun c=>absurd c hc,(zJY s _ _ _ _ h).1,.inl (zJY s _ _ _ _ h).2,fun c=>?_⟩;obtain ⟨k,e⟩:=fu1;rw [e] at h;unfold zi zaO at h
 split at h
 ·rename_i h0
  obtain ⟨b,a,h⟩:=bi h
  rcases c with rfl|c|c|c
  ·simp at h0
  ·exact absurd c hc
  ·exact absurd c d
  ·rw [c] at a; cases a; cases h; exact ⟨rfl,rfl⟩
 ·cases h; exact ⟨rfl,rfl⟩
theorem zqN (s:Str):∀(n:Nat) (g:zZR) (i:Int) (r:Int × Int × zZR),za s n g i=some r→((s.length:Int)≤r.1∨Ur r.2.2)∧r.2.1=0
 | 0,_,_,_,h=>by cases h
 | n + 1,g,i,r,h=>by
  unfold za zw at h
  split at h
  ·split at h
   ·split at h
    ·cases hq:g.Queue with
     | none =>
      rw [hq] at h;cases h;exact ⟨.inr (.inr (.inr (.inl rfl))),rfl⟩
     | some q =>
      rw [hq] at h;obtain ⟨l,a,h⟩:=bi h;cases a
      split at h
      ·obtain ⟨k,f,h⟩:=bi h;obtain ⟨e,m,h⟩:=bi h;obtain ⟨b,d,h⟩:=bi h;obtain ⟨c,j,h⟩:=bi h;exact zqN s n c b r h
      ·rename_i a
       cases h;exact ⟨.inr (.inr (.inr (.inr ⟨q,rfl,by simpa using a⟩))),rfl⟩
    ·rename_i hd
     cases h;exact ⟨.inr (.inr (.inl (by simpa using hd))),rfl⟩
   ·rename_i hd
    cases h;exact ⟨.inr (.inl (by simpa using hd)),rfl⟩
  ·rename_i hc
   cases h;exact ⟨.inl (by simpa using hc),rfl⟩
def Uo (g:zZR) (s:Str) (r:Int × Int × zZR):Prop:=(g.zZV=true→r=(0,8,g))∧((s.length:Int)≤r.1∨Ur r.2.2)∧(r.2.1=0∨r.2.1=8∧r.1=0)∧(s=[]∨Ur g→r.1=0∧Rs2 g r.2.2)
theorem up_o {g:zZR} {s:Str} {r:Int × Int × zZR} (h:zr g s=some r):Uo g s r:=by
 have rr:Rs2 g g:=⟨rfl,rfl,rfl,rfl,rfl,rfl⟩;unfold zr at h
 split at h
 ·cases h; exact ⟨fun _=>rfl,.inr (.inl ‹_›),.inr ⟨rfl,rfl⟩,fun _=>⟨rfl,rr⟩⟩
 split at h
 ·cases h; exact ⟨fun _=>rfl,.inr (.inr (.inl ‹_›)),.inr ⟨rfl,rfl⟩,fun _=>⟨rfl,rr⟩⟩
 rename_i hc b
 refine ⟨fun c=>absurd c hc,(zqN s _ _ _ _ h).1,.inl (zqN s _ _ _ _ h).2,fun c=>?_⟩;obtain ⟨k,e⟩:=fu1;rw [e] at h;unfold za zw at h
 split at h
 ·rename_i h0
  split at h
  ·split at h
   ·cases hq:g.Queue with
    | none =>
     rw [hq] at h;cases h;exact ⟨rfl,hq.symm,rfl,rfl,rfl,rfl,rfl⟩
    | some q =>
     rw [hq] at h;obtain ⟨l,a,h⟩:=bi h;cases a
     split at h
     ·rename_i a
      rcases c with rfl|c|c|c|⟨f,c,d⟩
      ·simp at h0
      ·exact absurd c hc
      ·exact absurd c b
      ·rw [hq] at c; cases c
      ·rw [hq] at c; cases c; rw [d] at a; simp at a
     ·cases h;exact ⟨rfl,hq.symm,rfl,rfl,rfl,rfl,rfl⟩
   ·cases h; exact ⟨rfl,rr⟩
  ·cases h; exact ⟨rfl,rr⟩
 ·cases h; exact ⟨rfl,rr⟩
def Qt (g:zZR) (m:z08):Prop:=g.zZ5=[]∧g.z0H=[]∧∃u,zcT g=some u∧u.Client≤m.Client∧u.Upstream≤m.Upstream
def To (w v:zZ0):Prop:=Rs2 w.Gateway v.Gateway∧Qt v.Gateway v.z0d∧(Qt w.Gateway w.z0d→v.zZT.z0m=w.zZT.z0m∧v.zZS.z0m=w.zZS.z0m∧v.z0d=w.z0d)
theorem take_o {w v:zZ0} (h:zA w=some v):To w v:=by
 unfold zA zbL zbo at h;obtain ⟨l,b,h⟩:=bi h;cases b
 split at h
 ·obtain ⟨k,f,h⟩:=bi h;cases f
  split at h
  ·obtain ⟨u,a,h⟩:=bi h;cases h;refine ⟨⟨rfl,rfl,rfl,rfl,rfl,rfl⟩,⟨rfl,rfl,u,a,Int.le_max_right ..,Int.le_max_right ..⟩,fun ⟨g,c,x,j,i,d⟩=>?_⟩
   have:x=u:=by
    have e:zcT w.Gateway=some u:=a;rw [j] at e; exact Option.some.inj e
   subst this;refine ⟨by simp [g],by simp [c],?_⟩;show (⟨max w.z0d.Client x.Client,max w.z0d.Upstream x.Upstream⟩:z08)=w.z0d;rw [Int.max_eq_left i,Int.max_eq_left d]
  ·cases h
 ·cases h
end Go.Dm
end
section
namespace Go.Dm
def acN (r:Bool × Int × zZ8):zZ8:=⟨r.2.2.z1l,r.2.2.z1b,r.2.2.z0D,r.2.2.z1a,r.2.2.z1i,r.2.1,r.1,r.2.2.z1d⟩
def acE (a:zZ8):zZ8:=⟨a.z1l,a.z1b,[],a.z1a,a.z1i,a.z1h,a.f_whole,a.z1d⟩
noncomputable def acT (a:zZ8) (x:UInt8):Option (Bool × Int × zZ8):=zcj ⟨a.z1l,a.z1b,a.z0D,a.z1a,true,a.z1h,a.f_whole,a.z1d⟩ x
noncomputable def acF:List UInt8→zZ8→Option (Int × Bool × Int × zZ8)
 | [],a=>some (0,false,0,a)
 | x::s,a=>(acT a x).bind fun r=>if r.1=true∨r.2.1≠0 then some (1,r.1,r.2.1,acE (acN r)) else (acF s (acN r)).bind fun q=>some (q.1+1,q.2)
theorem dr_c {s:Str} {i:Int} (h0:0≤i) (h:i<s.length):∃x,sAt s i=some x∧dr s i=x::dr s (i+1):=by
 obtain ⟨x,a,b⟩:=zFR (l:=s) h0 h;refine ⟨x,?_,b⟩;simpa [sAt,lAt] using a
theorem ac_l (s:Str) (j:s.length≤1000000):∀(n:Nat) (a:zZ8) (i:Int),0≤i→i≤s.length→(s.length:Int)<i+n →
  zaH s (s.length:Int) n a i=(acF (dr s i) a).bind fun q=>some (i+q.1,q.2)
 | 0,a,i,h0,h1,h2=>by omega
 | n + 1,a,i,h0,h1,h2=>by
  unfold zaH
  by_cases h:i<s.length
  ·obtain ⟨x,g,k⟩:=dr_c h0 h;rw [if_pos (by simpa using h),g,k]
   have f:zh i 1=some (i+1):=by simp [zh,inI]; omega
   show (acT a x).bind _=((acT a x).bind _).bind _
   cases hx:acT a x with
   | none=>rfl
   | some r =>
    obtain ⟨d,e,b⟩:=r;show (if d=true then _ else _)=(if d=true∨e≠0 then _ else _:Option _).bind _;unfold zc8
    cases d with
    | true =>
     rw [if_pos rfl,if_pos rfl,if_pos (.inl rfl),f]; rfl
    | false =>
     by_cases c:e=0
     ·subst c;rw [if_neg Bool.false_ne_true,if_neg (by simp),if_neg (by simp),f];show zaH s _ n (acN (false,0,b)) (i+1)=_;rw [ac_l s j n _ (i+1) (by omega) (by omega) (by omega)]
      cases acF (dr s (i+1)) (acN (false,0,b)) with
      | none=>rfl
      | some q=>show some (i+1+q.1,q.2)=some (i+(q.1+1),q.2); congr 2; omega
     ·rw [if_neg Bool.false_ne_true,if_pos (by simpa using c),if_pos (.inr c),f]; rfl
  ·have e:dr s i=[]:=List.drop_eq_nil_of_le (by omega);rw [if_neg (by simpa using h),e];show some ((s.length:Int),_)=some (i+0,_)
   congr 2; omega
theorem ac_f {s:Str} (b:s.length≤1000000) {a:zZ8} (h:a.z1h=0) (h2:a.f_whole=false):zaV a s=acF s a:=by
 unfold zaV;rw [if_neg (by simp [h]),if_neg (by simp [h2]),ac_l s b fuel a 0 (by omega) (by omega) (by simp [fuel]; omega)];show (acF s a).bind _=_
 cases acF s a with
 | none=>rfl
 | some q=>show some (0+q.1,q.2)=some q; rw [Int.zero_add]
theorem ac_n:∀(s:List UInt8) (a:zZ8) (q:Int × Bool × Int × zZ8),acF s a=some q→0≤q.1∧q.1≤s.length∧(q.2.1=false→q.2.2.1=0→q.1=s.length∧(q.2.2.2.z1h=0∨s=[])∧(q.2.2.2.f_whole=false∨s=[]))
 | [],a,q,h=>by cases h; simp
 | x::s,a,q,h=>by
  obtain ⟨r,m,h⟩:=bi h
  split at h
  ·rename_i c
   cases h;refine ⟨by omega,by simp; omega,fun h1 h2=>?_⟩
   rcases c with c|c
   ·rw [c] at h1; cases h1
   ·exact absurd h2 c
  ·rename_i c
   obtain ⟨p,f,h⟩:=bi h;cases h;obtain ⟨l,k,j⟩:=ac_n s _ p f
   have i:r.1=false:=by cases e:r.1<;>simp_all
   have g:r.2.1=0:=by
    by_cases e:r.2.1=0
    ·exact e
    ·exact absurd (.inr e) c
   refine ⟨by show 0≤p.1+1; omega,by show p.1+1≤_; simp; omega,fun h1 h2=>?_⟩;obtain ⟨n,b,d⟩:=j h1 h2;refine ⟨by show p.1+1=_; simp; omega,?_,?_⟩
   ·rcases b with b|rfl
    ·exact .inl b
    ·cases f; exact .inl g
   ·rcases d with d|rfl
    ·exact .inl d
    ·cases f; exact .inl i
end Go.Dm
end
section
namespace Go.Dm
variable {d:zZW}
def dkE (d:zZW):zZW:=⟨d.z1b,4,[],d.zZ9,d.z1m,d.z1g,d.z09⟩
noncomputable def dkF:List UInt8→zZW→Option (Int × Str × Bool × Int × zZW)
 | [],d=>some (0,[],false,0,d)
 | x::s,d=>(zt d [x]).bind fun r=>if r.2.2.1=true∨r.2.2.2.1≠0 then some (1,r.2.1,r.2.2.1,r.2.2.2.1,dkE r.2.2.2.2) else (dkF s r.2.2.2.2).bind fun q=>some (q.1+1,r.2.1++q.2.1,q.2.2)
def dkA (d:zZW) (k:Int):zZW:=if k=0 then d else if d.zZ9=k then ⟨d.z1b,2,d.z1f,2,d.z1m,d.z1g,d.z09⟩ else ⟨d.z1b,d.z0A,d.z1f,d.zZ9-k,d.z1m,d.z1g,d.z09⟩
theorem dk_0 (h:d.z0A≠1) (x:UInt8) (s:Str):zt d (x::s)=zt d [x]:=by
 have c:(d.z0A==1)=false:=by simpa using h
 have e:sAt (x::s) 0=sAt [x] 0:=by simp [sAt]
 unfold zt;rw [c,e]; rfl
theorem dk_1 (h:d.z0A=1) (h1:1≤d.zZ9) (h2:d.zZ9≤1099511627776) {u:Str} (i:u≠[]) (k:u.length≤1000000) :
  zt d u=some (min d.zZ9 (u.length:Int),u.take (min d.zZ9 (u.length:Int)).toNat,false,0,dkA d (min d.zZ9 (u.length:Int))):=by
 have hp:1≤u.length:=zb5 u i
 have m0:1≤min d.zZ9 (u.length:Int):=by omega
 have j:¬ min d.zZ9 (u.length:Int)=0:=by omega
 have g:zbh d.zZ9 (min d.zZ9 (u.length:Int))=some (d.zZ9-min d.zZ9 (u.length:Int)):=by simp [zbh,inI]; omega
 have f:sTo u (min d.zZ9 (u.length:Int))=some (u.take (min d.zZ9 (u.length:Int)).toNat):=by
  have a:0≤min d.zZ9 (u.length:Int):=by omega
  have b:min d.zZ9 (u.length:Int)≤u.length:=by omega
  unfold sTo; rw [if_pos ⟨a,b⟩]
 have e:((u.take (min d.zZ9 (u.length:Int)).toNat).length:Int)=min d.zZ9 (u.length:Int):=by simp; omega
 unfold zt zcG zbT;rw [if_pos (by simpa using h),g];show ((if _ then _ else _:Option _).bind _)=_;unfold dkA;rw [if_neg j]
 by_cases c:d.zZ9=min d.zZ9 (u.length:Int)
 ·rw [if_pos (by rw [beq_iff_eq]; omega),if_pos c,f];show some (((u.take (min d.zZ9 (u.length:Int)).toNat).length:Int),_)=_;rw [e]
 ·rw [if_neg (by rw [beq_iff_eq]; omega),if_neg c,f];show some (((u.take (min d.zZ9 (u.length:Int)).toNat).length:Int),_)=_;rw [e]
theorem dkA_1 (h:d.zZ9≠1):dkA d 1=⟨d.z1b,d.z0A,d.z1f,d.zZ9-1,d.z1m,d.z1g,d.z09⟩:=by
 unfold dkA; rw [if_neg (by omega),if_neg h]
theorem dkA_t {k:Int} (g:0≤k) (f:1+k≤d.zZ9):dkA (dkA d 1) k=dkA d (1+k):=by
 by_cases c:k=0
 ·subst c; simp [dkA]
 ·have e:d.zZ9≠1:=by omega
  have b:¬ 1+k=0:=by omega
  rw [dkA_1 e];unfold dkA;rw [if_neg c,if_neg b]
  by_cases a:d.zZ9=1+k
  ·rw [if_pos (show d.zZ9-1=k by omega),if_pos a]
  ·rw [if_neg (show ¬ d.zZ9-1=k by omega),if_neg a];show (⟨_,_,_,d.zZ9-1-k,_,_,_⟩:zZW)=⟨_,_,_,d.zZ9-(1+k),_,_,_⟩;rw [show d.zZ9-1-k=d.zZ9-(1+k) by omega]
theorem dk_d:∀(u t:List UInt8) (d:zZW),d.z0A=1→1≤d.zZ9→d.zZ9≤1099511627776→(u.length:Int)≤d.zZ9→dkF (u++t) d=(dkF t (dkA d u.length)).bind fun q=>some ((u.length:Int)+q.1,u++q.2.1,q.2.2)
 | [],t,d,_,_,_,_=>by
  show dkF t d=(dkF t d).bind _
  cases dkF t d with
  | none=>rfl
  | some q=>show some q=some (((0:Nat):Int)+q.1,[]++q.2.1,q.2.2); simp
 | x::u,t,d,h,h1,h2,a=>by
  rw [List.length_cons] at a;show (zt d [x]).bind _=_;rw [dk_1 h h1 h2 (u:=[x]) (by simp) (by simp)]
  have e:min d.zZ9 (([x]:Str).length:Int)=1:=by simp; omega
  rw [e];show (if (false=true∨(0:Int)≠0) then some ((1:Int),([x]:Str),false,(0:Int),dkE (dkA d 1)) else (dkF (u++t) (dkA d 1)).bind fun q=>some (q.1+1,[x]++q.2.1,q.2.2))=_;rw [if_neg (by simp)]
  have fin:((dkF t (dkA d (1+(u.length:Int)))).bind fun q=>some ((u.length:Int)+q.1,u++q.2.1,q.2.2)).bind (fun q=>some (q.1+1,[x]++q.2.1,q.2.2))=(dkF t (dkA d ((x::u).length:Int))).bind fun q=>some (((x::u).length:Int)+q.1,(x::u)++q.2.1,q.2.2):=by
   have g:((x::u).length:Int)=1+(u.length:Int):=by simp; omega
   rw [g]
   cases dkF t (dkA d (1+(u.length:Int))) with
   | none=>rfl
   | some q =>
    show some ((u.length:Int)+q.1+1,[x]++(u++q.2.1),q.2.2)=some (1+(u.length:Int)+q.1,(x::u)++q.2.1,q.2.2);rw [show (u.length:Int)+q.1+1=1+(u.length:Int)+q.1 by omega]; rfl
  cases u with
  | nil =>
   have f:(1+(([]:List UInt8).length:Int))=1:=rfl;rw [← fin,f];show (dkF t (dkA d 1)).bind _=((dkF t (dkA d 1)).bind _).bind _
   cases dkF t (dkA d 1) with
   | none=>rfl
   | some q=>show some (q.1+1,[x]++q.2.1,q.2.2)=some (((0:Nat):Int)+q.1+1,[x]++([]++q.2.1),q.2.2); simp
  | cons y v =>
   have i:2≤d.zZ9:=by simp at a; omega
   have b:=dkA_1 (d:=d) (by omega)
   have c:(dkA d 1).z0A=1:=by rw [b]; exact h
   have j:(dkA d 1).zZ9=d.zZ9-1:=by rw [b]
   rw [dk_d (y::v) t (dkA d 1) c (by omega) (by omega) (by omega),dkA_t (by omega) (by omega)];exact fin
theorem dk_T (h:Dn d∧Dg d) {s:Str} (h0:s≠[]) (b:s.length≤3000) {r:Int × Str × Bool × Int × zZW} (e:zt d s=some r):Dn r.2.2.2.2∧(r.2.2.1=false→r.2.2.2.1=0→Dg r.2.2.2.2):=by
 obtain ⟨c,a,h2⟩:=(inferInstance:T (zt d s) _ _).ok ⟨h.1,h.2,zb5 s h0,b⟩;rw [e] at a;cases a;exact ⟨h2.2.2.2.1,h2.2.2.2.2⟩
theorem zOU (s:Str) (n:Nat) (d:zZW) (i:Int) (t:Bool) (e:Int) (l:List UInt8) (h:(s.length:Int)≤i∨t=true∨e≠0):zq s (n+1) d i t e l=some (i,l,t,e,if t=true∨e≠0 then dkE d else d):=by
 have j (b:Bool) (f:b=false):zaK (zq s n) d s i t e l b=some (i,l,t,e,if t=true∨e≠0 then dkE d else d):=by
  subst f;unfold zaK zbV zbU;rw [if_neg (by simp)]
  cases t with
  | true=>rw [if_pos rfl,if_pos rfl,if_pos (.inl rfl)]; rfl
  | false =>
   rw [if_neg (by simp)]
   by_cases c:e=0
   ·rw [if_neg (by simp [c]),if_neg (by simp [c])]
   ·rw [if_pos (by simpa using c),if_pos (.inr c)]; rfl
 unfold zq
 split
 ·rename_i hi
  split
  ·rename_i a
   refine j _ ?_
   rcases h with h|h|h
   ·simp at hi; omega
   ·rw [h] at a; cases a
   ·simpa using h
  ·exact j _ rfl
 ·exact j _ rfl
end Go.Dm
end
section
namespace Go.Dm
theorem dk_l (s:Str) (z:s.length≤3000):∀(n:Nat) (d:zZW) (i:Int) (l:List UInt8),Dn d∧Dg d→0≤i→i≤s.length→(s.length:Int)<i+n→(l.length:Int)≤i →
  zq s n d i false 0 l=(dkF (dr s i) d).bind fun q=>some (i+q.1,l++q.2.1,q.2.2)
 | 0,d,i,l,hd,h0,h1,h2,C=>by omega
 | n + 1,d,i,l,hd,h0,h1,h2,C=>by
  by_cases h:i<s.length
  ·obtain ⟨x,N,B⟩:=dr_c h0 h
   have E:zas s i=some (dr s i):=by unfold zas; rw [if_pos ⟨h0,h1⟩]; rfl
   have O:((dr s i).length:Int)=s.length-i:=zaU h0 h1;unfold zq;rw [if_pos (by simpa using h),if_pos (by simp)];unfold zaK;rw [if_pos (by simp),E];show (zt d (dr s i)).bind _=_
   by_cases c:d.z0A=1
   ·obtain ⟨j,v⟩:=hd.2.2.2 (.inl c)
    have a:dr s i≠[]:=by rw [B]; simp
    have hp:1≤(dr s i).length:=zb5 _ a;rw [dk_1 c j v a (by omega)];have b:=dk_T hd a (by omega) (dk_1 c j v a (by omega))
    generalize M:min d.zZ9 ((dr s i).length:Int)=m at *
    have P:1≤m:=by omega
    have K:m≤d.zZ9:=by omega
    have H:m≤(dr s i).length:=by omega
    have tl:(((dr s i).take m.toNat).length:Int)=m:=by simp; omega
    have u:((dr s i).take m.toNat).length=m.toNat:=by simp; omega
    have ft:zf l.length ((dr s i).take m.toNat).length 1=true:=zAi (by omega) (by omega)
    have g:zh i m=some (i+m):=by simp [zh,inI]; omega
    show (if zf l.length ((dr s i).take m.toNat).length 1=true then (zh i m).bind fun p=>zq s n (dkA d m) p false 0 (l++(dr s i).take m.toNat) else none)=_;rw [if_pos ft,g];show zq s n (dkA d m) (i+m) false 0 (l++(dr s i).take m.toNat)=_
    have F:dr s (i+m)=(dr s i).drop m.toNat:=by
     unfold dr; rw [List.drop_drop]; congr 1; omega
    rw [dk_l s z n (dkA d m) (i+m) _ ⟨b.1,b.2 rfl rfl⟩ (by omega) (by omega) (by omega) (by rw [List.length_append,u]; omega),F];have f:=dk_d ((dr s i).take m.toNat) ((dr s i).drop m.toNat) d c j v (by omega);rw [List.take_append_drop,tl] at f;rw [f]
    cases dkF ((dr s i).drop m.toNat) (dkA d m) with
    | none=>rfl
    | some q =>
     show some (i+m+q.1,(l++(dr s i).take m.toNat)++q.2.1,q.2.2)=some (i+(m+q.1),l++((dr s i).take m.toNat++q.2.1),q.2.2);rw [List.append_assoc,show i+m+q.1=i+(m+q.1) by omega]
   ·rw [B,dk_0 c];show _=((zt d [x]).bind _).bind _
    cases e3:zt d [x] with
    | none=>rfl
    | some r =>
     have b:=dk_T hd (s:=[x]) (by simp) (by simp) e3;obtain ⟨I,A,J,D,L,_⟩:=(inferInstance:T (zt d [x]) _ _).ok ⟨hd.1,hd.2,by simp,by simp⟩;rw [e3] at A;cases A
     have G:r.1=1:=by simp at D; omega
     have ft:zf l.length r.2.1.length 1=true:=zAi (by omega) (by omega)
     have g:zh i r.1=some (i+1):=by rw [G]; simp [zh,inI]; omega
     show (if zf l.length r.2.1.length 1=true then (zh i r.1).bind fun p=>zq s n r.2.2.2.2 p r.2.2.1 r.2.2.2.1 (l++r.2.1) else none)=(if r.2.2.1=true∨r.2.2.2.1≠0 then some ((1:Int),r.2.1,r.2.2.1,r.2.2.2.1,dkE r.2.2.2.2) else (dkF (dr s (i+1)) r.2.2.2.2).bind fun q=>some (q.1+1,r.2.1++q.2.1,q.2.2)).bind fun q=>some (i+q.1,l++q.2.1,q.2.2);rw [if_pos ft,g];show zq s n r.2.2.2.2 (i+1) r.2.2.1 r.2.2.2.1 (l++r.2.1)=_
     by_cases k:r.2.2.1=true∨r.2.2.2.1≠0
     ·obtain ⟨o,rfl⟩:∃o,n=o+1:=⟨n-1,by omega⟩;rw [zOU s o _ _ _ _ _ (.inr k),if_pos k,if_pos k]; rfl
     ·have y:r.2.2.1=false:=by cases t:r.2.2.1<;>simp_all
      have w:r.2.2.2.1=0:=by
       by_cases t:r.2.2.2.1=0
       ·exact t
       ·exact absurd (.inr t) k
      rw [if_neg k,y,w,dk_l s z n r.2.2.2.2 (i+1) _ ⟨b.1,b.2 y w⟩ (by omega) (by omega) (by omega) (by rw [List.length_append]; omega)]
      cases dkF (dr s (i+1)) r.2.2.2.2 with
      | none=>rfl
      | some q =>
       show some (i+1+q.1,(l++r.2.1)++q.2.1,q.2.2)=some (i+(q.1+1),l++(r.2.1++q.2.1),q.2.2);rw [List.append_assoc,show i+1+q.1=i+(q.1+1) by omega]
  ·have e:dr s i=[]:=List.drop_eq_nil_of_le (by omega);rw [zOU s n d i false 0 l (.inl (by omega)),e,if_neg (by simp)];show some (i,l,false,0,d)=some (i+0,l++[],false,0,d);simp
end Go.Dm
end
section
namespace Go.Dm
noncomputable def ekF (k:Nat):Nat→List UInt8→Option (List Str × Str)
 | 0,b=>some ([],b)
 | n+1,b=>if k≤b.length then (zaJ (b.take k)).bind fun p=>(ekF k n (b.drop k)).bind fun q=>some (p::q.1,q.2) else some ([],b)
theorem ek_n {k:Nat} (a:1≤k):∀(n m:Nat) (b:List UInt8),b.length≤n→b.length≤m→ekF k n b=ekF k m b
 | 0,m,b,h,h2=>by
  cases m with
  | zero=>rfl
  | succ m =>
   unfold ekF; rw [if_neg (by omega)]
 | n+1,m,b,h,h2=>by
  cases m with
  | zero=>unfold ekF; rw [if_neg (by omega)]
  | succ m =>
   unfold ekF
   by_cases c:k≤b.length
   ·rw [if_pos c,if_pos c,ek_n a n m (b.drop k) (by rw [List.length_drop]; omega) (by rw [List.length_drop]; omega)]
   ·rw [if_neg c,if_neg c]
theorem zNl {k:Nat} (d:1≤k):∀(n:Nat) (b t:List UInt8),b.length≤n→ekF k (n+t.length) (b++t)=(ekF k n b).bind fun q=>(ekF k (n+t.length) (q.2++t)).bind fun p=>some (q.1++p.1,p.2)
 | 0,b,t,h=>by
  have:b=[]:=List.length_eq_zero_iff.1 (by omega);subst this;show ekF k (0+t.length) t=(ekF k (0+t.length) t).bind _;cases ekF k (0+t.length) t<;>rfl
 | n + 1,b,t,h=>by
  by_cases c:k≤b.length
  ·have i:ekF k (n+1+t.length) (b++t)=(zaJ (b.take k)).bind fun p=>(ekF k (n+t.length) (b.drop k++t)).bind fun q=>some (p::q.1,q.2):=by
    rw [show n+1+t.length=(n+t.length)+1 by omega]
    conv=>lhs; unfold ekF
    rw [if_pos (by rw [List.length_append]; omega),List.take_append_of_le_length c,List.drop_append_of_le_length c]
   have a:ekF k (n+1) b=(zaJ (b.take k)).bind fun p=>(ekF k n (b.drop k)).bind fun q=>some (p::q.1,q.2):=by
    conv=>lhs; unfold ekF
    rw [if_pos c]
   rw [i,a,zNl d n (b.drop k) t (by rw [List.length_drop]; omega)]
   cases zaJ (b.take k) with
   | none=>rfl
   | some p =>
    show ((ekF k n (b.drop k)).bind _).bind _=((ekF k n (b.drop k)).bind _).bind _
    cases hq:ekF k n (b.drop k) with
    | none=>rfl
    | some q =>
     have j:q.2.length≤n:=by
      have:∀(n:Nat) (b:List UInt8) (q:List Str × Str),ekF k n b=some q→q.2.length≤b.length:=fun n=>by
       induction n with
       | zero=>intro b q h; cases h; exact Nat.le_refl _
       | succ n f =>
        intro b q h;unfold ekF at h
        split at h
        ·obtain ⟨p,_,h⟩:=bi h;obtain ⟨g,e,h⟩:=bi h;cases h;have:=f _ _ e;rw [List.length_drop] at this;show g.2.length≤_;omega
        ·cases h; exact Nat.le_refl _
      have:=this _ _ _ hq;rw [List.length_drop] at this;omega
     show ((ekF k (n+t.length) (q.2++t)).bind _).bind _=(ekF k (n+1+t.length) (q.2++t)).bind _;rw [ek_n d (n+1+t.length) (n+t.length) (q.2++t) (by rw [List.length_append]; omega) (by rw [List.length_append]; omega)]
     cases ekF k (n+t.length) (q.2++t) with
     | none=>rfl
     | some r=>rfl
  ·have a:ekF k (n+1) b=some ([],b):=by
    unfold ekF; rw [if_neg c]
   rw [a];show _=(ekF k (n+1+t.length) (b++t)).bind _;cases ekF k (n+1+t.length) (b++t)<;>rfl
end Go.Dm
end
section
namespace Go.Dm
theorem ek_l {k:Nat} (f:1≤k) (a:Bool):∀(n:Nat) (b:Str) (l:List Str),b.length<n→l.length+b.length≤1000000 →
  zaT n ⟨(k:Int),b,a⟩ l=(ekF k n b).bind fun q=>(zaN [] (l++q.1)).bind fun o=>some (o,0,(⟨(k:Int),q.2,a⟩:z0e))
 | 0,b,l,h,h2=>by omega
 | n + 1,b,l,h,h2=>by
  unfold zaT ekF
  by_cases c:k≤b.length
  ·have d:sTo b (k:Int)=some (b.take k):=by unfold sTo; rw [if_pos ⟨by omega,by omega⟩]; rfl
   have e:zas b (k:Int)=some (b.drop k):=by unfold zas; rw [if_pos ⟨by omega,by omega⟩]; rfl
   rw [if_pos c];show (if decide ((k:Int)≤(b.length:Int))=true then (sTo b (k:Int)).bind _ else _)=_;rw [if_pos (by simpa using c),d];show (zaJ (b.take k)).bind _=((zaJ (b.take k)).bind _).bind _
   cases zaJ (b.take k) with
   | none=>rfl
   | some p =>
    have ft:zf l.length ([p]:List Str).length 16=true:=zAi (by simp; omega) (by simp; omega);show (if zf l.length ([p]:List Str).length 16=true then (zas b (k:Int)).bind _ else none)=_;rw [if_pos ft,e];show zaT n ⟨(k:Int),b.drop k,a⟩ (l++[p])=((ekF k n (b.drop k)).bind fun q=>some (p::q.1,q.2)).bind _;rw [ek_l f a n (b.drop k) (l++[p]) (by rw [List.length_drop]; omega) (by rw [List.length_drop,List.length_append]; simp; omega)]
    cases ekF k n (b.drop k) with
    | none=>rfl
    | some q =>
     show (zaN [] (l++[p]++q.1)).bind _=(zaN [] (l++(p::q.1))).bind _;rw [List.append_assoc]; rfl
  ·rw [if_neg c];show (if decide ((k:Int)≤(b.length:Int))=true then _ else (zaN [] l).bind _)=(zaN [] (l++[])).bind _;rw [if_neg (by simpa using c),List.append_nil]
end Go.Dm
end
section
namespace Go.Dm
variable {s:Str} {b:z0i} {w:zZ7}
theorem jn:∀(l:List (List UInt8)),Go.Lib.join l []=l.flatten
 | []=>rfl
 | [x]=>by simp [Go.Lib.join,List.intercalate]
 | x::y::l=>by
  have:=jn (y::l)
  unfold Go.Lib.join at *
  simp [List.intercalate] at *
  rw [this]
theorem dk_F {d:zZW} (a:s.length≤3000) (h:Dn d∧Dg d):za7 d s=dkF s d:=by
 unfold za7;rw [if_neg (by simpa using h.2.2.1),dk_l s a fuel d 0 [] h (by omega) (by omega) (by simp [fuel]; omega) (by simp)];show (dkF s d).bind _=_
 cases dkF s d with
 | none=>rfl
 | some q=>show some (0+q.1,[]++q.2.1,q.2.2)=some q; rw [Int.zero_add]; rfl
def Lb (b:z0i):Prop:=b.z0V=false∧b.z1h=false∧(b.z0v.Kind=3→∃d,b.Decoder=some d∧Dn d∧Dg d)∧(b.z0v.Kind=2→1≤b.zZ9∧b.zZ9≤1099511627776)
theorem bd_F {d:zZW} (h1:b.z0V=false) (h2:b.z1h=false) (c:b.z0v.Kind=3) (e:b.Decoder=some d) (f:Dn d∧Dg d) (a:s.length≤3000):zo b s=(dkF s d).bind fun q=>some (q.1,q.2.1,q.2.2.1,q.2.2.2.1,(⟨some q.2.2.2.2,b.z0v,b.zZ9,q.2.2.1, !(q.2.2.2.1==0)⟩:z0i)):=by
 unfold zo;rw [if_neg (by rw [h1]; simp),if_neg (by rw [h2]; simp),if_pos (by rw [c]; rfl),e];show ((za7 d s).bind _)=_;rw [dk_F a f]; rfl
theorem bd_L (h1:b.z0V=false) (h2:b.z1h=false) (a:b.z0v.Kind=2) (e:0≤b.zZ9) (f:b.zZ9≤1099511627776) (d:s.length≤3000):zo b s=some (min (s.length:Int) b.zZ9,s.take (min (s.length:Int) b.zZ9).toNat,b.zZ9-min (s.length:Int) b.zZ9==0,0,(⟨b.Decoder,b.z0v,b.zZ9-min (s.length:Int) b.zZ9,b.zZ9-min (s.length:Int) b.zZ9==0,b.z1h⟩:z0i)):=by
 have c:zbh b.zZ9 (min (s.length:Int) b.zZ9)=some (b.zZ9-min (s.length:Int) b.zZ9):=by simp [zbh,inI]; omega
 have a2:sTo s (min (s.length:Int) b.zZ9)=some (s.take (min (s.length:Int) b.zZ9).toNat):=by unfold sTo; rw [if_pos ⟨by omega,by omega⟩]
 unfold zo;rw [if_neg (by rw [h1]; simp),if_neg (by rw [h2]; simp),if_neg (by rw [a]; decide),if_pos (by rw [a]; rfl),c];show ((sTo s (min (s.length:Int) b.zZ9)).bind _)=_;rw [a2]; rfl
theorem bd_C (h1:b.z0V=false) (h2:b.z1h=false) (a:b.z0v.Kind≠3) (c:b.z0v.Kind≠2):zo b s=some ((s.length:Int),s,false,0,b):=by
 have a2:sTo s (s.length:Int)=some s:=by unfold sTo; rw [if_pos ⟨by omega,by omega⟩]; simp
 unfold zo;rw [if_neg (by rw [h1]; simp),if_neg (by rw [h2]; simp),if_neg (by simpa using a),if_neg (by simpa using c)];show ((sTo s (s.length:Int)).bind _)=_;rw [a2, ← h1]; rfl
def B1 (b:z0i) (x:UInt8) (r:Int × Str × Bool × Int × z0i):Prop:=r.1=1∧r.2.2.2.2.z0v=b.z0v∧(b.z0v.Kind=2→r.2.1.length=1∧r.2.2.2.2.zZ9=b.zZ9-1) ∧
 ((r.2.2.1=true∨r.2.2.2.1≠0)∧(∀s,s.length≤2999→zo b (x::s)=some r)∨r.2.2.1=false∧r.2.2.2.1=0∧Lb r.2.2.2.2∧∀s,s.length≤2999→zo b (x::s)=(zo r.2.2.2.2 s).bind fun q=>some (q.1+1,r.2.1++q.2.1,q.2.2))
theorem bd_1 (h:Lb b) {x:UInt8} {r:Int × Str × Bool × Int × z0i} (e:zo b [x]=some r):B1 b x r:=by
 obtain ⟨h1,h2,p,u⟩:=h
 by_cases g:b.z0v.Kind=3
 ·obtain ⟨d,hd,hn⟩:=p g
  have a:b.z0v.Kind≠2:=by omega
  have F:=fun (s:Str) (f:s.length≤3000)=>bd_F (s:=s) h1 h2 g hd hn f;rw [F [x] (by simp)] at e;obtain ⟨q,w,e⟩:=bi e;cases e;have B:(zt d [x]).bind (fun r=>if r.2.2.1=true∨r.2.2.2.1≠0 then some ((1:Int),r.2.1,r.2.2.1,r.2.2.2.1,dkE r.2.2.2.2) else (dkF [] r.2.2.2.2).bind fun q=>some (q.1+1,r.2.1++q.2.1,q.2.2))=some q:=w;obtain ⟨r0,m,j⟩:=bi B
  have G:∀s,dkF (x::s) d=if r0.2.2.1=true∨r0.2.2.2.1≠0 then some ((1:Int),r0.2.1,r0.2.2.1,r0.2.2.2.1,dkE r0.2.2.2.2) else (dkF s r0.2.2.2.2).bind fun q=>some (q.1+1,r0.2.1++q.2.1,q.2.2):=fun s=>by
   show (zt d [x]).bind _=_;rw [m]; rfl
  by_cases st:r0.2.2.1=true∨r0.2.2.2.1≠0
  ·rw [if_pos st] at j;cases j;refine ⟨rfl,rfl,fun c=>absurd c a,.inl ⟨st,fun s f=>?_⟩⟩;rw [F (x::s) (by simp; omega),G s,if_pos st]; rfl
  ·rw [if_neg st] at j;cases j
   have v:r0.2.2.1=false:=by cases l:r0.2.2.1<;>simp_all
   have o:r0.2.2.2.1=0:=by
    by_cases l:r0.2.2.2.1=0
    ·exact l
    ·exact absurd (.inr l) st
   have n:=dk_T hn (s:=[x]) (by simp) (by simp) m;have i:Dn r0.2.2.2.2∧Dg r0.2.2.2.2:=⟨n.1,n.2 v o⟩;refine ⟨rfl,rfl,fun c=>absurd c a,.inr ⟨rfl,rfl,⟨rfl,rfl,fun _=>⟨_,rfl,i⟩,fun c=>absurd c a⟩,fun s f=>?_⟩⟩;rw [F (x::s) (by simp; omega),G s,if_neg st,bd_F (b:=⟨some r0.2.2.2.2,b.z0v,b.zZ9,false, !((0:Int)==0)⟩) (s:=s) rfl rfl g rfl i (by omega)]
   cases dkF s r0.2.2.2.2 with
   | none=>rfl
   | some q=>show some (q.1+1,r0.2.1++q.2.1,_)=some (q.1+1,(r0.2.1++[])++q.2.1,_); rw [List.append_nil]
 ·by_cases a:b.z0v.Kind=2
  ·obtain ⟨C,y⟩:=u a;have F:=fun (s:Str) (f:s.length≤3000)=>bd_L (s:=s) h1 h2 a (by omega) y f
   have A:min ((([x]:Str)).length:Int) b.zZ9=1:=by simp; omega
   rw [F [x] (by simp),A] at e;cases e;refine ⟨rfl,rfl,fun _=>⟨rfl,rfl⟩,?_⟩
   by_cases st:b.zZ9=1
   ·have z:(b.zZ9-1==0)=true:=by simp [st]
    refine .inl ⟨.inl z,fun s f=>?_⟩
    have k:min ((x::s).length:Int) b.zZ9=1:=by rw [List.length_cons]; omega
    rw [F (x::s) (by simp; omega),k]; rfl
   ·have z:(b.zZ9-1==0)=false:=by rw [beq_eq_false_iff_ne]; omega
    refine .inr ⟨z,rfl,⟨z,h2,fun c=>absurd c g,fun _=>⟨by show 1≤b.zZ9-1; omega,by show b.zZ9-1≤_; omega⟩⟩,fun s f=>?_⟩
    have k:min ((x::s).length:Int) b.zZ9=min (s.length:Int) (b.zZ9-1)+1:=by rw [List.length_cons]; omega
    rw [F (x::s) (by simp; omega),k,bd_L (b:=⟨b.Decoder,b.z0v,b.zZ9-1,b.zZ9-1==0,b.z1h⟩) (s:=s) z h2 a (by show 0≤b.zZ9-1; omega) (by show b.zZ9-1≤_; omega) (by omega)]
    have m0:0≤min (s.length:Int) (b.zZ9-1):=by omega
    have t:(x::s).take (min (s.length:Int) (b.zZ9-1)+1).toNat=[x]++s.take (min (s.length:Int) (b.zZ9-1)).toNat:=by
     rw [show (min (s.length:Int) (b.zZ9-1)+1).toNat=(min (s.length:Int) (b.zZ9-1)).toNat+1 by omega]; rfl
    have t2:b.zZ9-(min (s.length:Int) (b.zZ9-1)+1)=b.zZ9-1-min (s.length:Int) (b.zZ9-1):=by omega
    rw [t,t2]; rfl
  ·have F:=fun (s:Str)=>bd_C (s:=s) h1 h2 g a;rw [F [x]] at e;cases e;refine ⟨rfl,rfl,fun c=>absurd c a,.inr ⟨rfl,rfl,⟨h1,h2,fun c=>absurd c g,fun c=>absurd c a⟩,fun s f=>?_⟩⟩;rw [F (x::s),F s];show some (((x::s).length:Int),x::s,_)=some ((s.length:Int)+1,[x]++s,_);rw [List.length_cons]; rfl
def Lw (w:zZ7):Prop:=w.z0V=false∧(w.z0v.Kind=3→∃c,w.Encoder=some c∧c.z0V=false∧1≤c.z1e∧c.z1e≤65536∧(c.z0D.length:Int)<c.z1e)
theorem ek_s {k:Nat} (l:1≤k) (d:k≤65536):∀(n:Nat) (b:List UInt8) (q:List Str × Str),ekF k n b=some q→sl q.1≤70*b.length∧q.1.length≤b.length∧(b.length≤n→q.2.length<k)
 | 0,b,q,h=>by cases h; exact ⟨by simp [sl],by simp,fun c=>by show b.length<k; omega⟩
 | n+1,b,q,h=>by
  unfold ekF at h
  split at h
  ·rename_i f
   obtain ⟨p,i,h⟩:=bi h;obtain ⟨e,j,h⟩:=bi h;cases h;obtain ⟨g,a2,a3⟩:=ek_s l d n (b.drop k) e j;rw [List.length_drop] at g a2 a3;obtain ⟨m,a,hp⟩:=(inferInstance:T (zaJ (b.take k)) _ _).ok (show (b.take k).length<1000000 by rw [List.length_take]; omega);rw [i] at a;cases a;rw [List.length_take] at hp;refine ⟨?_,?_,fun c=>a3 (by omega)⟩
   ·show p.length+sl e.1≤_;omega
   ·show e.1.length+1≤_;omega
  ·rename_i f
   cases h;exact ⟨by simp [sl],by simp,fun _=>by show b.length<k; omega⟩
theorem qj {l:List Str} (h:sl l+10*l.length≤100000000000000):zaN [] l=some l.flatten:=by
 obtain ⟨r,e,h1⟩:=(inferInstance:T (zaN [] l) _ _).ok ⟨by simp,h⟩;rw [e,h1.2,jn]
theorem ec_F {c:z0e} {k:Nat} (h1:w.z0V=false) (h2:w.z0v.Kind=3) (l:w.Encoder=some c) (g:c.z0V=false) (i:c.z1e=(k:Int)) (f:1≤k) (b:k≤65536) {s:Str} (p:c.z0D.length+s.length≤100000) :
  zk w s=(ekF k (c.z0D++s).length (c.z0D++s)).bind fun q=>some (q.1.flatten,0,(⟨some ⟨(k:Int),q.2,false⟩,w.z0v,w.zZ9,false⟩:zZ7)):=by
 have d:zck c.z0D s=some (c.z0D++s):=by unfold zck; rw [if_pos (by omega)]
 have h:(c.z0D++s).length≤100000:=by rw [List.length_append]; omega
 obtain ⟨sz,a,m⟩:=c
 change m=false at g
 change sz=(k:Int) at i
 subst g; subst i
 have e:zbs ⟨(k:Int),a,false⟩ s=(ekF k (a++s).length (a++s)).bind fun q=>some (q.1.flatten,0,(⟨(k:Int),q.2,false⟩:z0e)):=by
  have j:1000000≤fuel:=by simp [fuel]
  have h:(a++s).length≤100000:=h;have d:zck a s=some (a++s):=d;unfold zbs zbB;generalize fuel=n at j ⊢;rw [if_neg (by simp)];simp only [Option.bind_some];rw [if_neg (by simp),d];simp only [Option.bind_some];rw [ek_l f false n (a++s) [] (by omega) (by simp only [List.length_nil]; omega),ek_n f n (a++s).length (a++s) (by omega) (Nat.le_refl _)]
  cases hq:ekF k (a++s).length (a++s) with
  | none=>rfl
  | some q =>
   obtain ⟨o,r,_⟩:=ek_s f b _ _ _ hq;show (zaN [] ([]++q.1)).bind _=_;rw [List.nil_append,qj (by omega)]; rfl
 unfold zk za6;rw [if_neg (by rw [h1]; simp)];simp only [Option.bind_some];rw [if_neg (by simp),if_pos (by rw [h2]; rfl),l];show ((zbs ⟨(k:Int),a,false⟩ s).bind _)=_;rw [e,h1];cases ekF k (a++s).length (a++s)<;>rfl
theorem wr_L (h1:w.z0V=false) (h2:w.z0v.Kind=1∨w.z0v.Kind=2) {s:Str} (a:(s.length:Int)≤w.zZ9) (c:w.zZ9≤1099511627776):zk w s=some (s,0,(⟨w.Encoder,w.z0v,w.zZ9-s.length,w.z0V⟩:zZ7)):=by
 have b:zbh w.zZ9 (s.length:Int)=some (w.zZ9-s.length):=by simp [zbh,inI]; omega
 have j:zbD w s true=some (s,0,(⟨w.Encoder,w.z0v,w.zZ9-s.length,w.z0V⟩:zZ7)):=by
  unfold zbD;rw [if_pos rfl,if_neg (by simpa using a),b]; rfl
 unfold zk za6;rw [if_neg (by rw [h1]; simp)];simp only [Option.bind_some];rw [if_neg (by simp),if_neg (by rcases h2 with h2|h2<;>rw [h2]<;>decide)]
 rcases h2 with h2|h2
 ·rw [if_pos (by rw [h2]; rfl),j]
 ·rw [if_neg (by rw [h2]; decide),h2];exact j
theorem wr_C (h1:w.z0V=false) (h2:w.z0v.Kind≠1) (a:w.z0v.Kind≠2) (b:w.z0v.Kind≠3) {s:Str}:zk w s=some (s,0,w):=by
 unfold zk za6;rw [if_neg (by rw [h1]; simp)];simp only [Option.bind_some];rw [if_neg (by simp),if_neg (by simpa using b),if_neg (by simpa using h2)]
 have:(w.z0v.Kind==2)=false:=by simpa using a
 rw [this]; rfl
theorem wr_app (h:Lw w) {a b:Str} (H:a.length≤3000) (I:b.length≤3000) (v:w.z0v.Kind=1∨w.z0v.Kind=2→((a.length+b.length:Nat):Int)≤w.zZ9∧w.zZ9≤1099511627776) {r:Str × Int × zZ7} (e:zk w a=some r) :
  Lw r.2.2∧r.2.2.z0v=w.z0v∧(w.z0v.Kind=1∨w.z0v.Kind=2→r.2.2.zZ9=w.zZ9-a.length)∧zk w (a++b)=(zk r.2.2 b).bind fun q=>some (r.1++q.1,q.2):=by
 obtain ⟨h1,h2⟩:=h
 by_cases f:w.z0v.Kind=3
 ·obtain ⟨c,y,x,J,E,K⟩:=h2 f;obtain ⟨k,C⟩:∃k:Nat,c.z1e=(k:Int):=⟨c.z1e.toNat,by omega⟩;have F:=fun (s:Str) (A:c.z0D.length+s.length≤100000)=>ec_F h1 f y x C (by omega) (by omega) A;rw [F a (by omega)] at e;obtain ⟨q,i,e⟩:=bi e;cases e;obtain ⟨s1,s2,m⟩:=ek_s (k:=k) (by omega) (by omega) _ _ _ i;have m:=m (Nat.le_refl _);refine ⟨⟨rfl,fun _=>⟨_,rfl,rfl,by show (1:Int)≤(k:Int); omega,by show (k:Int)≤_; omega,by show (q.2.length:Int)<(k:Int); omega⟩⟩,rfl,fun c=>by omega,?_⟩;have G:=ec_F (w:=⟨some ⟨(k:Int),q.2,false⟩,w.z0v,w.zZ9,false⟩) (c:=⟨(k:Int),q.2,false⟩) (k:=k) rfl f rfl rfl rfl (by omega) (by omega) (s:=b) (by show q.2.length+b.length≤_; omega);rw [F (a++b) (by rw [List.length_append]; omega),G];have ap:=zNl (k:=k) (by omega) (c.z0D++a).length (c.z0D++a) b (Nat.le_refl _);rw [i] at ap;have ap:ekF k ((c.z0D++a).length+b.length) (c.z0D++a++b)=(ekF k ((c.z0D++a).length+b.length) (q.2++b)).bind fun p=>some (q.1++p.1,p.2):=ap
  have B:(q.2++b).length≤(c.z0D++a).length+b.length:=by
   have j:∀(n:Nat) (z:List UInt8) (q:List Str × Str),ekF k n z=some q→q.2.length≤z.length:=fun n=>by
    induction n with
    | zero=>intro z q h; cases h; exact Nat.le_refl _
    | succ n t =>
     intro z q h;unfold ekF at h
     split at h
     ·obtain ⟨p,_,h⟩:=bi h;obtain ⟨u,e,h⟩:=bi h;cases h;have:=t _ _ e;rw [List.length_drop] at this;show u.2.length≤_;omega
     ·cases h; exact Nat.le_refl _
   have:=j _ _ _ i;rw [List.length_append]; omega
  rw [show c.z0D++(a++b)=c.z0D++a++b by rw [List.append_assoc],show (c.z0D++a++b).length=(c.z0D++a).length+b.length by rw [List.length_append],ap,ek_n (k:=k) (by omega) ((c.z0D++a).length+b.length) (q.2++b).length (q.2++b) B (Nat.le_refl _)];show _=((ekF k (q.2++b).length (q.2++b)).bind _).bind _
  cases ekF k (q.2++b).length (q.2++b) with
  | none=>rfl
  | some p=>show some ((q.1++p.1).flatten,_)=some (q.1.flatten++p.1.flatten,_); rw [List.flatten_append]
 ·by_cases d:w.z0v.Kind=1∨w.z0v.Kind=2
  ·obtain ⟨D,o⟩:=v d;rw [wr_L h1 d (by omega) o] at e;cases e;refine ⟨⟨h1,fun c=>absurd c f⟩,rfl,fun _=>rfl,?_⟩;rw [wr_L h1 d (s:=a++b) (by rw [List.length_append]; omega) o,wr_L (w:=⟨w.Encoder,w.z0v,w.zZ9-a.length,w.z0V⟩) h1 d (s:=b) (by show _≤w.zZ9-a.length; omega) (by show w.zZ9-a.length≤_; omega)];show some (a++b,0,_)=some (a++b,0,_);rw [List.length_append,show w.zZ9-((a.length+b.length:Nat):Int)=w.zZ9-a.length-b.length by omega]
  ·have l:w.z0v.Kind≠1:=fun c=>d (.inl c);have g:w.z0v.Kind≠2:=fun c=>d (.inr c);rw [wr_C h1 l g f] at e;cases e;refine ⟨⟨h1,fun c=>absurd c f⟩,rfl,fun c=>absurd c d,?_⟩;rw [wr_C h1 l g f,wr_C h1 l g f]; rfl
end Go.Dm
end
