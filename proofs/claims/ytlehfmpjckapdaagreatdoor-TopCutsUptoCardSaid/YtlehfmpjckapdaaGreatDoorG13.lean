/- When the models come to something: printed by a program (wip/gen/yt.py) off the models and a table. No program in sight. -/
import Derived.Test.YtlehfmpjckapdaaGreatDoorU3
set_option linter.unusedVariables false
set_option linter.unusedSimpArgs false
set_option linter.unusedVariables false
set_option maxRecDepth 10000
set_option maxHeartbeats 2000000
section
namespace Go.Dm
instance (b:Str) (a:Str):T (zdo b a) (True) (fun r=>r=⟨b,a⟩):=⟨by unfold zdo; exact gu1⟩
instance (x_env:zZI) (x_h:zZr):T (zo4 x_env x_h) (x_env.Client.length≤70000000∧x_env.Host.length≤70000000∧x_env.Scheme.length≤70000000∧x_h.Target.length≤70000000∧x_h.Method.length≤70000000∧x_h.Code≤9223372036854775807) (fun r=>Pm r):=⟨by unfold zo4; exact gu1⟩
instance (a:zZu):T (zo5 a) (Rm a) (fun r=>r.length≤2):=⟨by unfold zo5; exact gu1⟩
instance (a:List zZu) (v3:z0m) (n:Nat) (i4:Int):T (zdx a v3 n i4) (Rl a∧Gm v3∧1≤i4∧i4≤a.length∧a.length<i4+n) (fun r=>1≤r∧r≤a.length):=by
 induction n generalizing i4
 ·exact ⟨goz⟩
 exact ⟨by unfold zdx zh9; exact gu1⟩
instance (a:List zZu):T (zo6 a) (Rl a∧1≤a.length) (fun r=>1≤r∧r≤a.length):=⟨by unfold zo6; exact gu1⟩
instance (x_g:z0m) (a:Int):T (zma x_g a) (True) (fun r=>r.N=a∧r.Name=x_g.Name∧r.Text.length≤x_g.Value.length∧r.Parts=[]):=⟨by unfold zma; exact gu1⟩
instance (a:zZu):T (zo7 a) (Rm a) (fun r=>Om r):=⟨by unfold zo7; exact gu1⟩
instance (d:List zZu) (c:Int) (n:Nat) (a:zZ0) (b:Int):T (zbQ d c n a b) (Rl d∧c=d.length∧0≤b∧b≤c∧c<b+n∧Ol a.zZD∧a.zZD.length≤1000000+b) (fun r=>Ol r.zZD∧r.zZD.length≤a.zZD.length+c-b):=by
 induction n generalizing a b
 ·exact ⟨goz⟩
 exact ⟨by unfold zbQ; exact gu1⟩
instance (a:zZ0) (b:List zZu):T (zea a b) (Rl b∧Ol a.zZD∧a.zZD.length≤1000000) (fun r=>Ol r.zZD∧r.zZD.length≤a.zZD.length+b.length):=⟨by unfold zea; exact gu1⟩
instance  (n:Nat) (a:zZ0) (b:List zZu):T (za1 n a b) (Rl b∧b.length<n∧Ol a.zZD∧a.zZD.length+2*b.length≤100000) (fun r=>Ol r.zZD∧r.zZD.length≤a.zZD.length+2*b.length):=by
 induction n generalizing a b
 ·exact ⟨goz⟩
 exact ⟨by unfold za1 zcY; exact gu1⟩
instance (b:zZ0) (a:List zZu):T (zeb b a) (Rl a∧b.zZD=[]) (fun r=>Ol r.zZD∧r.zZD.length≤2*a.length):=⟨by unfold zeb; exact gu1⟩
instance (i0:Int) (b:List zZu) (c:Int) (n:Nat) (d:List zZu) (a:Int):T (zde i0 b c n d a) (Rl b∧c=b.length∧0≤a∧a≤c∧c<a+n∧d.length≤a∧∀r∈d,Rm r) (fun r=>Ol r.1∧r.1.length≤2*b.length):=by
 induction n generalizing d a
 ·exact ⟨goz⟩
 exact ⟨by unfold zde; exact gu1⟩
instance (a:Int) (b:List zZu):T (zjF a b) (Rl b) (fun r=>Ol r.1∧r.1.length≤2*b.length):=⟨by unfold zjF zgM; exact gu1⟩
instance (x_m:zZS) (x_op:z0r):T (zeV x_m x_op) (Fm x_m.Bag.z0g∧x_op.Name.length<1000000000) (fun r=>True):=⟨by unfold zeV; exact gu1⟩
instance (s1:Str) (b:List zZ2) (a:Int) (n:Nat) (i9:Int):T (zkZ s1 b a n i9) (Pm b∧a=b.length∧0≤i9∧i9≤a∧a<i9+n) (fun r=>r.length≤70000000):=by
 induction n generalizing i9
 ·exact ⟨goz⟩
 exact ⟨by unfold zkZ; exact gu1⟩
instance (a:List zZ2) (b:Str):T (ztG a b) (Pm a) (fun r=>r.length≤70000000):=⟨by unfold ztG; exact gu1⟩
instance (a:Str) (n:Nat) (b:List UInt8) (i4:Int):T (zfG a n b i4) (a.length<100000000000∧0≤i4∧i4≤a.length∧a.length<i4+n∧b.length≤65536) (fun r=>r.length≤65536):=by
 induction n generalizing b i4
 ·exact ⟨goz⟩
 exact ⟨by unfold zfG zmb; exact gu1⟩
instance (a:Str):T (zqU a) (a.length<100000000000) (fun r=>r.length≤65536):=⟨by unfold zqU; exact gu1⟩
instance (f:List zZ2) (e:zZZ) (c:List zZq) (b:Int) (n:Nat) (d:List Str) (a:Int):T (zfk f e c b n d a) (Pm f∧Fm e.z0g∧Tp c∧b=c.length∧0≤a∧a≤b∧b<a+n∧d.length≤a∧sl d≤a*70000000) (fun r=>r.length≤65536):=by
 induction n generalizing d a
 ·exact ⟨goz⟩
 exact ⟨by unfold zfk; exact gu1⟩
instance (b:List zZ2) (a:List zZn) (c:List zZq):T (ztH b a c) (Pm b∧Fm a∧Tp c) (fun r=>r.length≤65536):=⟨by unfold ztH; exact gu1⟩
instance (x_m:zZS) (a:List zZq):T (zc3 x_m a) (Pm x_m.z0N∧Fm x_m.Bag.z0g∧Tp a) (fun r=>r.length≤65536):=⟨by unfold zc3; exact gu1⟩
instance (s1:Str) (s2:Str) (c:Int) (n:Nat) (a:zZZ) (d:Int) (b:Int):T (zcQ s1 s2 c n a d b) (Fm a.z0g∧c=a.z0g.length∧0≤b∧b≤c∧c<b+n∧0≤d∧d≤b∧s1.length≤70000000∧s2.length≤70000000) (fun r=>(Fm r.2.z0g∧r.2.z0g.length=a.z0g.length)∧(∀k,Vb k a.z0g→Vb k r.2.z0g)):=by
 induction n generalizing a d b
 ·exact ⟨goz⟩
 exact ⟨by unfold zcQ; exact zyZ⟩
instance (b:zZZ) (a:Str) (c:Str):T (ziM b a c) (Fm b.z0g∧a.length≤70000000∧c.length≤70000000) (fun r=>(Fm r.2.z0g∧r.2.z0g.length=b.z0g.length)∧(∀k,Vb k b.z0g→Vb k r.2.z0g)):=⟨by unfold ziM; exact zyZ⟩
instance (x_m:zZS) (a:z0r):T (zfl x_m a) (Pm x_m.z0N∧Fm x_m.Bag.z0g∧Om a) (fun r=>(r.z0N=x_m.z0N∧r.z0M=x_m.z0M∧Fv r.Bag.z0g∧r.Bag.z0g.length≤x_m.Bag.z0g.length+1)∧(Vb 66000000 x_m.Bag.z0g→Vb 66000000 r.Bag.z0g)):=⟨by unfold zfl; exact zyZ⟩
instance (a:List z0r) (n:Nat) (vp0:zZS) (i4:Int):T (za7 a n vp0 i4) (Ol a∧a.length≤1000∧0≤i4∧i4≤2*a.length+1∧1≤n∧a.length<i4+n∧Pm vp0.z0N∧Fm vp0.Bag.z0g∧vp0.Bag.z0g.length+a.length≤10000+i4∧0≤vp0.z0M∧vp0.z0M≤i4) (fun r=>(Fm r.Bag.z0g∧(r.Bag.z0g.length+i4≤vp0.Bag.z0g.length+a.length∨r.Bag.z0g.length≤vp0.Bag.z0g.length))∧(Vb 66000000 vp0.Bag.z0g→Vb 66000000 r.Bag.z0g)):=by
 induction n generalizing vp0 i4
 ·exact ⟨goz⟩
 exact ⟨by unfold za7 zdp; exact zyZ⟩
instance (x_m:zZS) (a:List z0r):T (zeW x_m a) (Ol a∧a.length≤1000∧Pm x_m.z0N∧Fm x_m.Bag.z0g∧x_m.Bag.z0g.length≤9000∧x_m.z0M=0) (fun r=>(Fm r.Bag.z0g∧r.Bag.z0g.length≤x_m.Bag.z0g.length+a.length)∧(Vb 66000000 x_m.Bag.z0g→Vb 66000000 r.Bag.z0g)):=⟨by unfold zeW; exact zyZ⟩
instance (b:List zZ2) (a:List zZn) (c:List z0r):T (zo8 b a c) (Pm b∧Fm a∧a.length≤9000∧Ol c∧c.length≤1000) (fun r=>(Fm r∧r.length≤a.length+c.length)∧(Vb 66000000 a→Vb 66000000 r)):=⟨by unfold zo8; exact zyZ⟩
instance (b:List zZ2) (a:List zZn) (d:Int) (c:List zZu):T (zmc b a d c) (Pm b∧Fm a∧a.length≤9000∧Rl c∧c.length≤500) (fun r=>(Fv r.1∧r.1.length≤a.length+2*c.length)∧(Vb 66000000 a→Vb 66000000 r.1)):=⟨by unfold zmc; exact zyZ⟩
instance (a:List Str):T (zmH a) (sl a+10*a.length≤100000000000000) (fun r=>r.length≤sl a+10*a.length):=⟨by unfold zmH; exact gu⟩
end Go.Dm
end
section
namespace Go.Dm
instance (priority:=high) (x_v:zZR):T (zn2 x_v) (x_v.Proto.length≤1000∧x_v.Version.length≤1000∧x_v.By.length≤1000∧x_v.Comment.length≤1000) (fun r=>r.1.length≤5000):=⟨by unfold zn2 zmC zmB; exact gu1⟩
instance (b:Str) (a:List Str):T (zmd b a) (b.length<1000000000∧a.length≤1000∧sl a≤1000000000) (fun r=>r.length≤b.length+sl a+10*a.length+10):=⟨by unfold zmd; exact gu⟩
instance (a:zZZ) (s1:Str) (s2:Str) (n:Nat) (b:Int):T (zdY a s1 s2 n b) (Fm a.z0g ∧ -1≤b∧b<a.z0g.length∧b+1<n∧s1.length≤70000000∧s2.length≤1000000) (fun r=>r.z0g.length≤a.z0g.length+1∧∀f∈r.z0g,f∈a.z0g∨(f.Name=s1∧f.Value=s2)∨∃g∈a.z0g,f.Name=g.Name∧f.Value.length≤g.Value.length+s2.length+20):=by
 induction n generalizing b
 ·exact ⟨goz⟩
 exact ⟨by unfold zdY; exact gu⟩
instance (c:zZZ) (b:Str) (a:Str):T (zes c b a) (Fm c.z0g∧b.length≤70000000∧a.length≤1000000) (fun r=>r.z0g.length≤c.z0g.length+1∧∀f∈r.z0g,f∈c.z0g∨(f.Name=b∧f.Value=a)∨∃g∈c.z0g,f.Name=g.Name∧f.Value.length≤g.Value.length+a.length+20):=⟨by unfold zes; exact gu⟩
instance (x_v:zZR) (a:List zZn):T (zqV x_v a) (Fm a∧a.length≤9000∧(∀f∈a,f.Value.length≤66000000)∧x_v.Proto.length≤1000∧x_v.Version.length≤1000∧x_v.By.length≤1000∧x_v.Comment.length≤1000) (fun r=>r.1.length≤a.length+1∧∀f∈r.1,f∈a∨(f.Name.length≤10∧f.Value.length≤5000)∨∃g∈a,f.Name=g.Name∧f.Value.length≤g.Value.length+5020):=⟨by unfold zqV; exact gu1⟩
instance (a:Str):T (zk0 a) (a.length≤1000) (fun r=>r.length≤1100):=⟨by unfold zk0; exact gu2⟩
instance (x_env:zZI):T (zk1 x_env) (x_env.Client.length≤1000∧x_env.Host.length≤1000∧x_env.Scheme.length≤1000) (fun r=>r.length≤3∧∀p∈r,p.Name.length≤10∧p.Value.length≤1100):=⟨by unfold zk1 zhA zhz; exact gu2⟩
instance (c:Str) (b:Int) (n:Nat) (d:List UInt8) (a:Int):T (zcV c b n d a) (b=c.length∧0≤a∧a≤b∧b<a+n∧c.length<1000000000∧d.length≤2*a+1) (fun r=>r.1.length≤2*c.length+2):=by
 induction n generalizing d a
 ·exact ⟨goz⟩
 exact ⟨by unfold zcV zjH zjG; exact gu⟩
instance (a:Str):T (znw a) (a.length<1000000000) (fun r=>r.1.length≤2*a.length+2):=⟨by unfold znw; exact gu⟩
instance (a:Str):T (zme a) (a.length<1000000000) (fun r=>r.1.length≤2*a.length+2):=⟨by unfold zme; exact gu⟩
instance (c:List zZ2) (b:Int) (n:Nat) (d:List Str) (a:Int):T (zia c b n d a) (b=c.length∧0≤a∧a≤b∧b<a+n∧c.length≤3∧(∀p∈c,p.Name.length≤10∧p.Value.length≤1100)∧d.length≤a∧sl d≤a*2300) (fun r=>r.1.length≤7000):=by
 induction n generalizing d a
 ·exact ⟨goz⟩
 exact ⟨by unfold zia; exact gu⟩
instance (a:List zZ2):T (zo9 a) (a.length≤3∧(∀p∈a,p.Name.length≤10∧p.Value.length≤1100)) (fun r=>r.1.length≤7000):=⟨by unfold zo9; exact gu⟩
instance (x_env:zZI) (a:List zZn):T (ziN x_env a) (Fm a∧a.length≤9100∧(∀f∈a,f.Value.length≤67000000)∧x_env.Client.length≤1000∧x_env.Host.length≤1000∧x_env.Scheme.length≤1000) (fun r=>r.1.length≤a.length+1∧∀f∈r.1,f∈a∨(f.Name.length≤10∧f.Value.length≤7000)∨∃g∈a,f.Name=g.Name∧f.Value.length≤g.Value.length+7020):=⟨by unfold ziN; exact gu2⟩
instance (a:Str):T (zv3 a) (a.length<1000000000) (fun r=>True):=⟨by unfold zv3; exact gu2⟩
instance (a:Str) (b:List zZn):T (zqW a b) (Fm b∧b.length≤9200∧(∀f∈b,f.Value.length≤68000000)∧a.length≤1000) (fun r=>r.length≤b.length+1∧Fv r):=⟨by unfold zqW zmf; exact gu2⟩
instance (x_a0:zZI) (a:Int) (x_a2:zZr):T (zqX x_a0 a x_a2) (Fm x_a2.Fields∧x_a2.Fields.length≤9000∧(∀f∈x_a2.Fields,f.Value.length≤66000000)∧x_a0.Client.length≤1000∧x_a0.Host.length≤1000∧x_a0.Scheme.length≤1000∧x_a0.By.length≤1000∧a≤9223372036854775807) (fun r=>(Fv r.1.Fields∧r.1.Fields.length≤x_a2.Fields.length+3)∧r.1.Target.length≤x_a2.Target.length∧r.1.Method.length≤x_a2.Method.length∧r.1.Reason.length≤x_a2.Reason.length∧(r.1.Code=x_a2.Code∨r.1.Code=0)∧(r.1.Minor=x_a2.Minor∨r.1.Minor=0)):=⟨by unfold zqX zfH zmh zmg; exact gu2⟩
instance (x_f:zZw):T (zmi x_f) (x_f.N≤9223372036854775807) (fun r=>r.length≤1∧Fv r):=⟨by unfold zmi; exact gu2⟩
instance (x_env:zZI) (x_f:zZw) (x_h:zZr) (a:List zZu):T (ziO x_env x_f x_h a) (Fm x_h.Fields∧x_h.Fields.length≤8000∧(∀f∈x_h.Fields,f.Value.length≤3000)∧x_h.Method.length≤10000∧x_h.Target.length≤10000∧x_h.Reason.length≤10000∧x_h.Code≤1000∧x_h.Minor≤1000∧0≤x_f.N∧x_f.N≤1099511627776∧x_env.Client.length≤1000∧x_env.Host.length≤1000∧x_env.Scheme.length≤1000∧x_env.By.length≤1000∧Swm x_env.Domains∧Swm x_env.Locations∧Rl a∧a.length≤400) (fun r=>Fm r.1.Fields∧r.1.Fields.length≤9500∧r.1.Method.length≤10000∧r.1.Target.length≤30000∧r.1.Reason.length≤10000∧r.1.Code≤1000∧r.1.Minor≤1000):=⟨by unfold ziO; exact zyZ⟩
end Go.Dm
end
section
namespace Go.Dm
instance (a:zZJ):T (znW a) (True) (fun r=>r.From.length≤60∧r.To.length≤60):=⟨by unfold znW; exact gu1⟩
instance (v1:zZI) (n:Nat) (v5:zZI) (a:Int):T (zgA v1 n v5 a) (0≤a∧a≤6∧a≤v1.Locations.length∧7<a+n∧v5.Locations.length≤a) (fun r=>r.Client=v5.Client∧r.Host=v5.Host∧r.Scheme=v5.Scheme∧r.By=v5.By):=by
 induction n generalizing v5 a
 ·exact ⟨goz⟩
 exact ⟨by unfold zgA zng; exact zCA⟩
instance (v1:zZI) (n:Nat) (v5:zZI) (a:Int):T (zd3 v1 n v5 a) (0≤a∧a≤6∧a≤v1.Domains.length∧7<a+n∧v5.Domains.length≤a∧v5.Locations.length=0) (fun r=>r.Client=v5.Client∧r.Host=v5.Host∧r.Scheme=v5.Scheme∧r.By=v5.By):=by
 induction n generalizing v5 a
 ·exact ⟨goz⟩
 exact ⟨by unfold zd3 znh; exact zCA⟩
theorem s60 (l:Str):sTo l (min (l.length:Int) 60)=some (l.take 60):=by
 unfold sTo;rw [if_pos (by omega),show (min (l.length:Int) (60:Int)).toNat=min 60 l.length by omega, ← List.take_take,List.take_length]
theorem zye (x:zZI) (n:Nat) (a b c d:Str):zaW x (n+1) (a,b,c,d) 0=zaW x n (a.take 60,b,c,d) 1:=by
 show ((sTo a (min (a.length:Int) 60)).bind fun r=>(zi 0 1).bind fun e=>zaW x n (r,b,c,d) e)=_;rw [s60]; rfl
theorem zyf (x:zZI) (n:Nat) (a b c d:Str):zaW x (n+1) (a,b,c,d) 1=zaW x n (a,b.take 60,c,d) 2:=by
 show ((sTo b (min (b.length:Int) 60)).bind fun r=>(zi 1 1).bind fun e=>zaW x n (a,r,c,d) e)=_;rw [s60]; rfl
theorem zyg (x:zZI) (n:Nat) (a b c d:Str):zaW x (n+1) (a,b,c,d) 2=zaW x n (a,b,c.take 60,d) 3:=by
 show ((sTo c (min (c.length:Int) 60)).bind fun r=>(zi 2 1).bind fun e=>zaW x n (a,b,r,d) e)=_;rw [s60]; rfl
theorem zyh (x:zZI) (n:Nat) (a b c d:Str):zaW x (n+1) (a,b,c,d) 3=zaW x n (a,b,c,d.take 60) 4:=by
 show ((sTo d (min (d.length:Int) 60)).bind fun r=>(zi 3 1).bind fun e=>zaW x n (a,b,c,r) e)=_;rw [s60]; rfl
theorem zFG (x:zZI) (n:Nat) (a b c d:Str):zaW x (n+1) (a,b,c,d) 4=zd3 x fuel ⟨a,b,c,d,[],[]⟩ 0:=rfl
instance (x_a0:zZI):T (zts x_a0) True (fun r=>r.Client.length≤60∧r.Host.length≤60∧r.Scheme.length≤60∧r.By.length≤60):=⟨fun _=>by
 unfold zts;obtain ⟨n,hn⟩:∃n,fuel=n+1+1+1+1+1:=⟨999999999999999995,rfl⟩;have e:=zFG x_a0 n (x_a0.Client.take 60) (x_a0.Host.take 60) (x_a0.Scheme.take 60) (x_a0.By.take 60);obtain ⟨r,a,h1,h2,c,b⟩:=(inferInstance:T (zd3 x_a0 fuel ⟨x_a0.Client.take 60,x_a0.Host.take 60,x_a0.Scheme.take 60,x_a0.By.take 60,[],[]⟩ 0) _ _).ok ⟨by omega,by omega,by omega,by unfold fuel; omega,by simp,by simp⟩;rw [a] at e;rw [show zaW x_a0 fuel (x_a0.Client,x_a0.Host,x_a0.Scheme,x_a0.By) 0=some r by rw [hn,zye,zyf,zyg,zyh,e]]
 exact ⟨r,rfl,by rw [h1]; simp; omega,by rw [h2]; simp; omega,by rw [c]; simp; omega,by rw [b]; simp; omega⟩⟩
instance (b:List zZJ) (n:Nat) (a:List zZJ) (i4:Int):T (zgB b n a i4) (0≤i4∧i4≤70∧i4≤b.length∧71<i4+n∧a.length≤i4∧(∀x∈a,x.From.length≤60∧x.To.length≤60)) (fun r=>r.length≤70∧∀x∈r,x.From.length≤60∧x.To.length≤60):=by
 induction n generalizing a i4
 ·exact ⟨goz⟩
 exact ⟨by unfold zgB zni; exact gu1⟩
instance (a:List zZJ):T (zpS a) (True) (fun r=>r.length≤70∧∀x∈r,x.From.length≤60∧x.To.length≤60):=⟨by unfold zpS; exact gu1⟩
instance (a:zZI):T (ztt a) (True) (fun r=>r.Client.length≤60∧r.Host.length≤60∧r.Scheme.length≤60∧r.By.length≤60∧Swm r.Domains∧Swm r.Locations):=⟨by unfold ztt; exact zCA⟩
instance (b:List zZq) (n:Nat) (a:List zZq) (i4:Int):T (zgC b n a i4) (0≤i4∧i4≤40∧i4≤b.length∧41<i4+n∧a.length≤i4∧∀p∈a,p.Text.length≤60) (fun r=>r.length≤40∧∀p∈r,p.Text.length≤60):=by
 induction n generalizing a i4
 ·exact ⟨goz⟩
 exact ⟨by unfold zgC znj; exact zCA⟩
instance (a:List zZq):T (zpT a) (True) (fun r=>r.length≤40∧∀p∈r,p.Text.length≤60):=⟨by unfold zpT; exact zCA⟩
theorem zyi (x:zZu) (n:Nat) (a b c d:Str):za3 x (n+1) (a,b,c,d) 0=za3 x n (a.take 60,b,c,d) 1:=by
 show ((sTo a (min (a.length:Int) 60)).bind fun r=>(zi 0 1).bind fun e=>za3 x n (r,b,c,d) e)=_;rw [s60]; rfl
theorem zyj (x:zZu) (n:Nat) (a b c d:Str):za3 x (n+1) (a,b,c,d) 1=za3 x n (a,b.take 60,c,d) 2:=by
 show ((sTo b (min (b.length:Int) 60)).bind fun r=>(zi 1 1).bind fun e=>za3 x n (a,r,c,d) e)=_;rw [s60]; rfl
theorem zyk (x:zZu) (n:Nat) (a b c d:Str):za3 x (n+1) (a,b,c,d) 2=za3 x n (a,b,c.take 60,d) 3:=by
 show ((sTo c (min (c.length:Int) 60)).bind fun r=>(zi 2 1).bind fun e=>za3 x n (a,b,r,d) e)=_;rw [s60]; rfl
theorem zyl (x:zZu) (n:Nat) (a b c d:Str):za3 x (n+1) (a,b,c,d) 3=za3 x n (a,b,c,d.take 60) 4:=by
 show ((sTo d (min (d.length:Int) 60)).bind fun r=>(zi 3 1).bind fun e=>za3 x n (a,b,c,r) e)=_;rw [s60]; rfl
theorem zFH (x:zZu) (n:Nat) (a b c d:Str):za3 x (n+1) (a,b,c,d) 4=znk ⟨x.Side,⟨x.Guard.Kind,c,d⟩,x.Kind,a,b,x.Parts⟩:=rfl
instance (x_r:zZu):T (ztu x_r) True Rm:=⟨fun _=>by
 unfold ztu;obtain ⟨n,hn⟩:∃n,fuel=n+1+1+1+1+1:=⟨999999999999999995,rfl⟩;obtain ⟨r,a,h1,h2⟩:=(inferInstance:T (zpT x_r.Parts) _ _).ok trivial;rw [hn,zyi,zyj,zyk,zyl,zFH];unfold znk;rw [a];refine ⟨_,rfl,?_⟩;unfold Rm Tp;simp only [List.length_take]
 exact ⟨by omega,by omega,by omega,by omega,by omega,fun p hp=>by have:=h2 p hp; omega⟩⟩
instance (b:List zZu) (n:Nat) (a:List zZu) (i4:Int):T (zgD b n a i4) (0≤i4∧i4≤70∧i4≤b.length∧71<i4+n∧a.length≤i4∧∀x∈a,Rm x) (fun r=>r.length≤70∧∀x∈r,Rm x):=by
 induction n generalizing a i4
 ·exact ⟨goz⟩
 exact ⟨by unfold zgD znl; exact zCA⟩
instance (a:List zZu):T (ztv a) (True) (fun r=>r.length≤70∧∀x∈r,Rm x):=⟨by unfold ztv; exact zCA⟩
instance  (n:Nat) (a:List zZu) (i4:Int):T (zky n a i4) (0≤i4∧i4≤a.length∧a.length<i4+n∧a.length≤70∧∀x∈a,Rm x) (fun r=>r.length≤70∧∀x∈r,Rm x):=by
 induction n generalizing a i4
 ·exact ⟨goz⟩
 exact ⟨by unfold zky; exact zCA⟩
instance (a:List zZu):T (ztw a) (True) (fun r=>r.length≤70∧∀x∈r,Rm x):=⟨by unfold ztw; exact zCA⟩
instance (a:zZV):T (znL a) (True) (fun r=>r.Env.Client.length≤60∧r.Env.Host.length≤60∧r.Env.Scheme.length≤60∧r.Env.By.length≤60∧Swm r.Env.Domains∧Swm r.Env.Locations∧r.Rules.length≤70∧(∀x∈r.Rules,Rm x)∧r.Client.length≤3000∧r.Upstream.length≤3000∧r.Events.length≤150):=⟨by unfold znL; exact zCA⟩
end Go.Dm
end
section
namespace Go.Dm
variable {G:Prop} {i:Int} {l:List Str}
theorem lAt_a {α:Type} {l m:List α} (h:i<l.length):lAt (l++m) i=lAt l i:=by
 unfold lAt
 split
 ·rw [List.getElem?_append_left (by omega)]
 ·rfl
theorem lAt_e {α:Type} {l:List α} {x:α} (h:i=l.length):lAt (l++[x]) i=some x:=by
 unfold lAt;rw [if_pos (by omega),List.getElem?_append_right (by omega)];simp [h]
def dq (l:List Str) (i:Int):List Str:=l.drop i.toNat
theorem dq_0 (l:List Str):dq l 0=l:=rfl
theorem dq_c {x:Str} (h0:0≤i) (h:lAt l i=some x):dq l i=x::dq l (i+1):=by
 unfold lAt at h;rw [if_pos h0] at h;obtain ⟨h1,h2⟩:=List.getElem?_eq_some_iff.1 h;unfold dq;rw [List.drop_eq_getElem_cons h1,h2]
 congr 2
 omega
theorem dq_e (h:i=l.length):dq l i=[]:=by
 unfold dq; exact List.drop_eq_nil_of_le (by omega)
theorem dq_s {x:Str} (h:lAt l i=some x) (h0:0≤i):sl (dq l i)=x.length+sl (dq l (i+1)):=by rw [dq_c h0 h,zaF]
def Hd (h:zZr):Prop:=h.Fields.length≤100∧(∀f∈h.Fields,f.Name.length≤3000∧f.Value.length≤3000)∧h.Method.length≤3000∧h.Target.length≤3000∧h.Reason.length≤3000∧0≤h.Code∧h.Code≤599∧0≤h.Minor∧h.Minor≤255
def Fr (a:zZA):Prop:=0≤a.z0C∧a.z0C≤a.zZ6.length∧(a.z0C=0∨lAt a.zZ6 (a.z0C-1)=some 10)
def Am (a:zZA):Prop:=a.zZ6.length≤3000∧Hd a.z0G∧(a.z0K=0→a.f_whole=false→Fr a)
def oA:Option zZA→Prop
 | none=>True
 | some a=>Am a
def kb:Option zZA→Int
 | none=>0
 | some a=>a.zZ6.length
def Dn (d:zZp):Prop:=d.z0I.length≤4098∧0≤d.z0P∧d.z0P≤1099511627776∧0≤d.z0J∧d.z0J≤70000∧d.z0E≤65536∧d.z0B.length≤100∧∀f∈d.z0B,f.Name.length≤4098∧f.Value.length≤4098
def Dg (d:zZp):Prop:=d.z0J≤d.z0E∧d.zZ4≠4∧(d.zZ4=1∨d.zZ4=2→1≤d.zZB∧d.zZB≤1099511627776)
def Dm (d:zZp):Prop:=Dn d∧(d.zZ4=4∨Dg d)
def oD:Option zZp→Prop
 | none=>True
 | some d=>Dm d
def Bm (b:zZK):Prop:=oD b.Decoder∧0≤b.zZB∧b.zZB≤1099511627776∧(b.zZY.Kind=2→b.z0n=false→1≤b.zZB)
def oB:Option zZK→Prop
 | none=>True
 | some b=>Bm b
def Em (c:zZG):Prop:=1≤c.z0H∧c.z0H≤65536∧c.zZ6.length≤65536
def oE:Option zZG→Prop
 | none=>True
 | some c=>Em c
def Ww (w:zZz):Prop:=oE w.Encoder∧w.zZB≤1099511627776
def oW:Option zZz→Prop
 | none=>True
 | some w=>Ww w
def Tl (l:List zZn):Prop:=l.length≤100∧∀f∈l,f.Name.length≤4098∧f.Value.length≤4098
def Sd (s:zZv):Prop:=oA s.Accum∧oB s.z0t∧oW s.zZD
def Qm (q:zZC):Prop:=q.zZQ.z0g.length≤64∧1≤q.zZQ.zZE∧q.zZQ.zZE≤64
def oQ:Option zZC→Prop
 | none=>True
 | some q=>Qm q
def En (e:zZI):Prop:=e.Client.length≤1000∧e.Host.length≤1000∧e.Scheme.length≤1000∧e.By.length≤1000∧Swm e.Domains∧Swm e.Locations
def Ca (c:z0l):Prop:=c.Head≤65536
def Rg (l:List zZu):Prop:=Rl l∧l.length≤400
def Cd (c:Int):Prop:=c=0∨c=400∨c=431
def Gw (g:zZk):Prop:=oQ g.Queue∧En g.z0h∧Ca g.zZF∧Rg g.zZ5∧Sd g.zZm∧Sd g.zZl∧Cd g.z0b
def kc (g:zZk):Int:=kb g.zZm.Accum
def ku (g:zZk):Int:=kb g.zZl.Accum
def tc (g:zZk):Int:=g.zZx.length
def tu (g:zZk):Int:=g.z0a.length
def kn:Option zZA→Nat
 | none=>0
 | some a=>a.zZ6.length
theorem zI8 (a:Option zZA):kb a=(kn a:Int):=by cases a<;>rfl
def Rs1 (g r:zZk):Prop:=r.Queue=g.Queue∧r.z0h=g.z0h∧r.zZF=g.zZF∧r.zZ5=g.zZ5∧r.zZm=g.zZm∧r.zZl=g.zZl∧r.z0b=g.z0b∧r.zZH=g.zZH∧r.zZ3=g.zZ3∧r.z0c=g.z0c∧r.zZU=g.zZU∧r.zZW=g.zZW∧r.zZX=g.zZX∧r.zZo=g.zZo
def st (b:Bool):Int:=if b=true then 0 else 1
theorem goG (h:G:=by
 (with_reducible repeat' first|intro _|refine And.intro ?_ ?_|refine Wf ?_ ?_|refine Wi ?_ ?_|refine Ws ?_|refine Wc ?_ ?_|refine Wo ?_ ?_|refine Wk ?_|refine We ?_ ?_)
 all_goals (try simp only [List.length_cons,List.length_nil])
 all_goals grind (gen:=12) (ematch:=12) [lAt_a,lAt_e,dq_0, → dq_s,dq_e,Hd,Fr,Am,oA,kb, = zI8,Dn,Dg,Dm,oD,Bm,oB,Em,oE,Ww,oW,Tl,fuel,zb5,zcW,zbg,zaF,zfK,Sm,Ss,Fv,Fm,Cw]):G:=h
theorem goH (h:G:=by
 (with_reducible repeat' first|intro _|refine And.intro ?_ ?_|refine Wf ?_ ?_|refine Wi ?_ ?_|refine Ws ?_|refine Wc ?_ ?_|refine Wo ?_ ?_|refine Wk ?_|refine We ?_ ?_)
 all_goals (try simp only [List.length_cons,List.length_nil])
 all_goals grind (gen:=8) (ematch:=8) [oA,kb, = zI8,oB,oW,Sd,Qm,oQ,Gw,Cd,Ca,kc,ku,tc,tu,Rs1,st,fuel,zbg,zaF]):G:=h
def Gf (g:zZk):Prop:=Gw g∧kc g=0∧ku g=0∧tc g=0∧tu g=0∧g.zZo=false
def Nw:Option zZk × Int→Prop
 | (none,e)=>e≠0
 | (some g,_)=>Gf g
theorem rtx {x:Option Str} (h:(match x with|some s=>decide (s.length≤1000)|none=>false)=true):W x (fun r=>r.length≤1000):=by
 cases x with
 | none=>cases h
 | some s=>exact ⟨s,rfl,by simpa using h⟩
theorem goF2 (h:G:=by
 (with_reducible repeat' first|intro _|refine And.intro ?_ ?_|refine Wf ?_ ?_|refine Wi ?_ ?_|refine Ws ?_|refine Wc ?_ ?_|refine Wo ?_ ?_|refine Wk ?_|refine We ?_ ?_)
 all_goals (try simp only [List.length_cons,List.length_nil])
 all_goals grind (gen:=8) (ematch:=8) [dq_0, → dq_s,dq_e,tc,tu,Rs1,fuel,zbg,zaF]):G:=h
theorem goJ (h:G:=by
 (with_reducible repeat' first|intro _|refine And.intro ?_ ?_|refine Wf ?_ ?_|refine Wi ?_ ?_|refine Ws ?_|refine Wc ?_ ?_|refine Wo ?_ ?_|refine Wk ?_|refine We ?_ ?_)
 all_goals (try simp only [List.length_cons,List.length_nil])
 all_goals grind (gen:=8) (ematch:=8) [oA,kb, = zI8,oB,oW,Sd,oQ,Gw,Cd,kc,ku,tc,tu,Rs1,st,fuel,zbg,zaF]):G:=h
theorem goO (h:G:=by
 (with_reducible repeat' first|intro _|refine And.intro ?_ ?_|refine Wf ?_ ?_|refine Wi ?_ ?_|refine Ws ?_|refine Wc ?_ ?_|refine Wo ?_ ?_|refine Wk ?_|refine We ?_ ?_)
 all_goals (try simp only [List.length_cons,List.length_nil])
 all_goals grind (gen:=8) (ematch:=8) [Hd,En,Ca,Rg,Fm,Fv,oA,kb, = zI8,oB,oW,Sd,oQ,Gw,Cd,kc,ku,tc,tu,Rs1,st,fuel,zbg,zaF]):G:=h
theorem goN2 (h:G:=by
 (with_reducible repeat' first|intro _|refine And.intro ?_ ?_|refine Wf ?_ ?_|refine Wi ?_ ?_|refine Ws ?_|refine Wc ?_ ?_|refine Wo ?_ ?_|refine Wk ?_|refine We ?_ ?_)
 all_goals (try simp only [List.length_cons,List.length_nil])
 all_goals grind (gen:=8) (ematch:=8) [Nw,Gf,Rm,Rl,Tp,Swm,Hd,En,Ca,Rg,Qm,oA,kb, = zI8,oB,oW,Sd,oQ,Gw,Cd,kc,ku,tc,tu,Rs1,st,fuel,zbg,zaF,zcW]):G:=h
end Go.Dm
end
section
namespace Go.Dm
instance (a:Int):T (zdu a) (True) (fun r=>oE r.1):=⟨by unfold zdu; exact goG⟩
instance (a:Int):T (zh3 a) (True) (fun r=>oQ r.1):=⟨by unfold zh3; exact goH⟩
end Go.Dm
end
section
namespace Go.Dm
instance (b:Int) (a:Int):T (ziE b a) (True) (fun r=>oA r.1∧kb r.1=0):=⟨by unfold ziE zdl; exact goG⟩
instance (b:Int) (a:Int):T (zbN b a) (True) (fun r=>Sd r∧kb r.Accum=0):=⟨by unfold zbN; exact goH⟩
instance (v4:z0l) (b:List zZu) (c:Int) (n:Nat) (v15:zZk) (a:Int):T (zcw v4 b c n v15 a) (b.length≤400∧(∀r∈b,Rm r)∧c=b.length∧0≤a∧a≤c∧c<a+n∧v15.zZ5.length≤a∧(∀r∈v15.zZ5,Rm r)∧oQ v15.Queue∧En v15.z0h∧Ca v15.zZF∧v15.z0b=0∧tc v15=0∧tu v15=0∧v15.zZo=false) (fun r=>Nw r):=by
 induction n generalizing v15 a
 ·exact ⟨goz⟩
 exact ⟨by unfold zcw; exact goN2⟩
instance (b:zZI) (c:z0l) (a:List zZu):T (zdv b c a) (En b∧a.length≤400∧∀r∈a,Rm r) (fun r=>Nw r):=⟨by unfold zdv zcy zcx; exact goN2⟩
end Go.Dm
end
section
namespace Go.Dm
instance (x_e:zZL):T (zkQ x_e) (True) (fun r=>r=0→0≤x_e.N):=⟨by unfold zkQ zjA; exact gu⟩
instance  : T (zhy) (True) (fun r=>True):=⟨by unfold zhy; exact gu⟩
instance (a:zZA):T (zfO a) (True) (fun r=>True):=⟨by unfold zfO; exact gu⟩
instance (a:zZv):T (zfi a) (True) (fun r=>True):=⟨by unfold zfi; exact gu⟩
instance  : T (zgI) (True) (fun r=>True):=⟨by unfold zgI; exact gu⟩
instance (a:z0q):T (zgc a) (a.zZE≤64∧a.z0g.length≤64∧0≤a.zZE) (fun r=>True):=⟨by unfold zgc; exact gu⟩
instance (a:zZC):T (zcn a) (Qm a) (fun r=>True):=⟨by unfold zcn; exact goH⟩
instance (a:zZk):T (zI a) (Gw a) (fun r=>r=true→a.zZo=false∧a.zZH=false):=⟨by unfold zI; exact goH⟩
instance (a:Str):T (zgd a) (True) (fun r=>r.1=0∧r.2.1=false∧r.2.2=5):=⟨by unfold zgd; exact gu⟩
instance (a:Int):T (zqP a) (True) (fun r=>Cd r):=⟨by unfold zqP; exact goH⟩
instance  : T (zeq) (True) (fun r=>Hd r.1):=⟨by unfold zeq; exact goG⟩
instance (a:zZk):T (zbk a) (True) (fun r=>r=a.zZo):=⟨by unfold zbk; exact gu⟩
end Go.Dm
end
section
namespace Go.Dm
instance (x_p:z0i):T (zdy x_p) (Cw x_p.Scanner) (fun r=>0≤r.1∧r.1≤255∧Cw r.2.2∧r.2.2.z0w=x_p.Scanner.z0w∧x_p.Scanner.zZ4≤r.2.2.zZ4):=⟨by unfold zdy; exact gu1⟩
instance (x_p:z0i):T (zcA x_p) (Cw x_p.Scanner) (fun r=>0≤r.2.1∧r.2.1≤255∧Cw r.2.2.2∧r.2.2.2.z0w=x_p.Scanner.z0w∧x_p.Scanner.zZ4≤r.2.2.2.zZ4):=⟨by unfold zcA; exact gu1⟩
instance (a:Str):T (zhd a) (a.length<1000000000) (fun r=>True):=⟨by unfold zhd; exact gu1⟩
instance (b:UInt8):T (zdZ b) True (fun r=>r=nsp b):=bt (by decide +kernel) b
instance (x_p:z0i):T (zdz x_p) (Cw x_p.Scanner) (fun r=>0≤r.1∧r.1≤255∧Cw r.2.2∧r.2.2.z0w=x_p.Scanner.z0w∧x_p.Scanner.zZ4≤r.2.2.zZ4):=⟨by unfold zdz; exact gu1⟩
instance (a:Str):T (zhB a) (a.length≤10000000) (fun r=>r.1.Fields=[]∧r.1.Method.length≤a.length∧r.1.Target.length≤a.length∧r.1.Reason.length≤a.length∧0≤r.1.Code∧r.1.Code≤599∧0≤r.1.Minor∧r.1.Minor≤255):=⟨by unfold zhB; exact gu1⟩
instance (a:Str):T (ziP a) (a.length≤10000000) (fun r=>r.1.Fields=[]∧r.1.Method.length≤a.length∧r.1.Target.length≤a.length∧r.1.Reason.length≤a.length∧0≤r.1.Code∧r.1.Code≤599∧0≤r.1.Minor∧r.1.Minor≤255):=⟨by unfold ziP; exact gu1⟩
instance (b:Int) (a:Str):T (zdQ b a) (a.length≤10000000) (fun r=>r.1.Fields=[]∧r.1.Method.length≤a.length∧r.1.Target.length≤a.length∧r.1.Reason.length≤a.length∧0≤r.1.Code∧r.1.Code≤599∧0≤r.1.Minor∧r.1.Minor≤255):=⟨by unfold zdQ zgN; exact gu1⟩
instance (x_a0:zZr):T (zib x_a0) (x_a0.Method.length≤10000∧x_a0.Target.length≤30000∧x_a0.Reason.length≤10000∧x_a0.Code≤1000∧x_a0.Minor≤1000) (fun r=>r.1.length≤60000):=⟨by unfold zib zhC zcB; exact gu1⟩
instance (c:List Str) (b:Int) (n:Nat) (a:Int):T (zfI c b n a) (Ss c∧b=c.length∧0≤a∧a≤b∧b<a+n) (fun r=>True):=by
 induction n generalizing a
 ·exact ⟨goz⟩
 exact ⟨by unfold zfI zmj; exact gu1⟩
instance (x_h:zZr):T (zqY x_h) (Fm x_h.Fields) (fun r=>True):=⟨by unfold zqY; exact gu1⟩
instance (x_h:zZr):T (zn6 x_h) (Fm x_h.Fields) (fun r=>r=0→x_h.Fields.length≤100):=⟨by unfold zn6; exact gu1⟩
instance (v1:zZr) (c:List zZn) (b:Int) (n:Nat) (a:Int):T (zji v1 c b n a) (Fm c∧Fm v1.Fields∧b=c.length∧0≤a∧a≤b∧b<a+n) (fun r=>r=0→v1.Fields.length≤100):=by
 induction n generalizing a
 ·exact ⟨goz⟩
 exact ⟨by unfold zji; exact gu1⟩
instance (x_h:zZr):T (zn7 x_h) (Fm x_h.Fields∧x_h.Method.length≤10000∧x_h.Target.length≤30000∧x_h.Reason.length≤10000∧x_h.Code≤1000∧x_h.Minor≤1000) (fun r=>r=0→x_h.Fields.length≤100):=⟨by unfold zn7; exact gu1⟩
instance (a:Int):T (ztI a) (True) (fun r=>r.z0R=[]∧r.zZE=max a 0):=⟨by unfold ztI; exact gu⟩
instance (a:z0e):T (ziQ a) (0≤a.zZE∧a.zZE≤65536∧a.z0R.length≤a.zZE) (fun r=>r=a.zZE-a.z0R.length):=⟨by unfold ziQ; exact gu⟩
instance (c:List Str) (d:Int) (n:Nat) (b:z0e) (a:Int):T (zdA c d n b a) (d=c.length∧0≤a∧a≤d∧d<a+n∧c.length≤1000∧b.z0R.length+sl (dq c a)≤65536) (fun r=>r.2.zZE=b.zZE∧r.2.z0R.length=b.z0R.length+sl (dq c a)):=by
 induction n generalizing b a
 ·exact ⟨goz⟩
 exact ⟨by unfold zdA; exact goG⟩
instance (a:z0e) (e:List Str) (c:List Str) (d:Int) (n:Nat) (i5:Int) (b:Int):T (zdB a e c d n i5 b) (c=e∧d=c.length∧0≤b∧b≤d∧d<b+n∧e.length≤1000∧a.zZE≤65536∧0≤i5∧i5≤65536∧a.z0R.length+sl e=a.zZE-i5+sl (dq c b)∧a.z0R.length≤a.zZE) (fun r=>r.2.zZE=a.zZE∧r.2.z0R.length≤a.zZE):=by
 induction n generalizing i5 b
 ·exact ⟨goz⟩
 exact ⟨by unfold zdB; exact goG⟩
instance (a:z0e) (b:List Str):T (zhD a b) (0≤a.zZE∧a.zZE≤65536∧a.z0R.length≤a.zZE∧b.length≤1000) (fun r=>r.2.zZE=a.zZE∧r.2.z0R.length≤a.zZE):=⟨by unfold zhD; exact goG⟩
instance (a:z0e) (b:List Str):T (zgO a b) (0≤a.zZE∧a.zZE≤65536∧a.z0R.length≤a.zZE∧b.length≤100) (fun r=>r.2.zZE=a.zZE∧r.2.z0R.length≤a.zZE):=⟨by unfold zgO; exact goG⟩
instance (x_p:z0y) (a:Str):T (zcR x_p a) (0≤x_p.Quill.zZE∧x_p.Quill.zZE≤65536∧x_p.Quill.z0R.length≤x_p.Quill.zZE) (fun r=>r.Quill.zZE=x_p.Quill.zZE∧r.Quill.z0R.length≤x_p.Quill.zZE):=⟨by unfold zcR; exact goG⟩
instance (x_f:zZn):T (zic x_f) (x_f.Name.length≤100000000∧x_f.Value.length≤100000000) (fun r=>r.1.length≤x_f.Name.length+x_f.Value.length+2):=⟨by unfold zic; exact gu⟩
instance (a:z0e):T (ziR a) (True) (fun r=>r=a.z0R):=⟨by unfold ziR; exact gu⟩
instance (c:List zZn) (b:Int) (n:Nat) (v7:z0y) (a:Int):T (zjj c b n v7 a) (Fm c∧b=c.length∧0≤a∧a≤b∧b<a+n∧0≤v7.Quill.zZE∧v7.Quill.zZE≤65536∧v7.Quill.z0R.length≤v7.Quill.zZE) (fun r=>r.1.length≤65536):=by
 induction n generalizing v7 a
 ·exact ⟨goz⟩
 exact ⟨by unfold zjj; exact goG⟩
instance (x_h:zZr) (a:Int):T (zjV x_h a) (Fm x_h.Fields∧x_h.Method.length≤10000∧x_h.Target.length≤30000∧x_h.Reason.length≤10000∧x_h.Code≤1000∧x_h.Minor≤1000∧a≤65536) (fun r=>r.1.length≤65536):=⟨by unfold zjV; exact goG⟩
end Go.Dm
end
section
namespace Go.Dm
instance (a:zZk) (b:zZr):T (zbP a b) (Gw a∧Hd b) (fun r=>r.1.length≤65536∧0≤r.2.1.N∧r.2.1.N≤1099511627776):=⟨by unfold zbP; exact goO⟩
instance (a:Int):T (zkd a) (True) (fun r=>oD r.1):=⟨by unfold zkd; exact goG⟩
instance (a:zZw) (b:Int):T (zn8 a b) (True) (fun r=>oB r.1):=⟨by unfold zn8 zke zmJ zmI; exact goG⟩
instance (a:zZA):T (zbG a) (Am a) (fun r=>Hd r.1):=⟨by unfold zbG; exact goG⟩
instance (a:Str):T (zid a) (True) (fun r=>r.1=0∧r.2.1.length=0∧r.2.2.1=false∧r.2.2.2=5):=⟨by unfold zid; exact gu⟩
instance  : T (zdC) (True) (fun r=>r=5):=⟨by unfold zdC; exact gu⟩
instance (a:Str):T (zeG a) (True) (fun r=>r.1.length=0):=⟨by unfold zeG; exact gu⟩
instance  : T (zcf) (True) (fun r=>Tl r):=⟨by unfold zcf; exact goG⟩
instance (a:List zZn):T (zcg a) (True) (fun r=>r.1.length=0):=⟨by unfold zcg; exact gu⟩
end Go.Dm
end
section
namespace Go.Dm
instance {P:Bool→Prop} (g:Int→Option Bool) (f:Str) (d:Int) (c:List Str) (b:Int) (n:Nat) (a:Int):K (zjk g f d c b n a) P ((Sm c∧b=c.length∧0≤a∧a≤b∧b<a+n∧f.length<1000000∧c.length≤4000000000000∧0≤d∧d≤10000∧P true)∧(∀i,i=d+1→W (g i) P)):=by
 induction n generalizing a
 ·exact ⟨goz⟩
 exact ⟨fun ⟨h,e⟩=>by have e:=fun a0=>K.mk (e a0); unfold zjk; exact gu⟩
instance (d:Str) (c:List Str) (b:Int) (n:Nat) (a:Int):T (zhq d c b n a) (Ss c∧b=c.length∧0≤a∧a≤b∧b<a+n∧d.length<1000000) (fun r=>True):=by
 induction n generalizing a
 ·exact ⟨goz⟩
 exact ⟨by unfold zhq; exact gu⟩
instance (a:Str) (b:List Str):T (zn9 a b) (Ss b∧a.length<1000000) (fun r=>True):=⟨by unfold zn9; exact gu⟩
instance (x_h:zZr):T (zpZ x_h) (Fm x_h.Fields) (fun r=>True):=⟨by unfold zpZ; exact gu⟩
instance (x_h:zZr):T (zqZ x_h) (Fm x_h.Fields) (fun r=>True):=⟨by unfold zqZ; exact gu⟩
instance (a:List zZs):T (zgP a) (True) (fun r=>True):=⟨by unfold zgP; exact gu⟩
instance (a:zZs):T (zjI a) (True) (fun r=>True):=⟨by unfold zjI; exact gu⟩
instance (c:List zZs) (b:Int) (n:Nat) (a:Int):T (zS c b n a) (b=c.length∧0≤a∧a≤b∧b<a+n∧c.length≤1000) (fun r => -1≤r∧r<c.length):=by
 induction n generalizing a
 ·exact ⟨goz⟩
 exact ⟨by unfold zS; exact gu⟩
instance (a:List zZs):T (zao a) (a.length≤1000) (fun r => -1≤r∧r<a.length):=⟨by unfold zao; exact gu⟩
instance (a:List zZs):T (zmk a) (a.length≤1000) (fun r=>True):=⟨by unfold zmk; exact gu⟩
instance  : T (zdq) (True) (fun r=>Tl r):=⟨by unfold zdq; exact goG⟩
instance (a:zZp):T (zcC a) (Dm a) (fun r=>Tl r):=⟨by unfold zcC; exact goG⟩
end Go.Dm
end
section
namespace Go.Dm
instance (a:zZK):T (zbH a) (Bm a) (fun r=>Tl r):=⟨by unfold zbH; exact goG⟩
instance (a:zZz):T (za5 a) (True) (fun r=>r=0∨r=8):=⟨by unfold za5; exact gu⟩
instance  : T (zc4) (True) (fun r=>r=5):=⟨by unfold zc4; exact gu⟩
instance (e:List zZn) (c:List zZn) (b:Int) (n:Nat) (d:List Str) (a:Int):T (zfm e c b n d a) (Tl e∧Tl c∧b=c.length∧0≤a∧a≤b∧b<a+n∧d.length≤a+1∧sl d≤10000*a+1) (fun r=>r.1.length≤1100000):=by
 induction n generalizing d a
 ·exact ⟨goz⟩
 exact ⟨by unfold zfm; exact goG⟩
instance (a:List zZn):T (zeH a) (Tl a) (fun r=>r.1.length≤1100000):=⟨by unfold zeH; exact goG⟩
instance (a:List zZn):T (zfS a) (Tl a) (fun r=>r.1.length=0):=⟨by unfold zfS; exact goG⟩
instance (a:zZG):T (zbB a) (True) (fun r=>r=0∨r=8):=⟨by unfold zbB; exact gu⟩
instance (a:Int):T (zjJ a) (a<1048576) (fun r=>r.length≤21):=⟨by unfold zjJ; exact gu⟩
instance (a:Int):T (zk2 a) (a<1048576) (fun r=>r.length≤21):=⟨by unfold zk2; exact gu⟩
instance (a:Str):T (zaI a) (a.length<1000000) (fun r=>r.length≤a.length+60):=⟨by unfold zaI; exact gu⟩
instance (a:Str):T (zfT a) (True) (fun r=>r.1.length=0):=⟨by unfold zfT; exact gu⟩
instance (a:Str):T (zfn a) (True) (fun r=>r.1=0∧r.2.1.length=0∧r.2.2.1=false∧r.2.2.2=5):=⟨by unfold zfn; exact gu⟩
instance  : T (zfo) (True) (fun r=>r=0):=⟨by unfold zfo; exact gu⟩
end Go.Dm
end
section
namespace Go.Dm
instance (a:Str) (b:Int):T (zjK a b) (True) (fun r=>True):=⟨by unfold zjK; exact gu2⟩
instance (a:Str) (x_h:zZr):T (zdR a x_h) (Fm x_h.Fields) (fun r=>0≤r.1.N∧r.1.N≤1099511627776):=⟨by unfold zdR; exact gu2⟩
end Go.Dm
end
section
namespace Go.Dm
set_option maxRecDepth 100000 in
instance (a:Int):T (zq0 a) (a=400∨a=431∨a=502) (fun r=>r.length≤1000):=⟨fun h=>by
 rcases h with rfl|rfl|rfl
 ·exact rtx (by decide +kernel)
 ·exact rtx (by decide +kernel)
 ·exact rtx (by decide +kernel)⟩
instance (a:zZC):T (zd0 a) (True) (fun r=>r=a.zZQ.z0g.length):=⟨by unfold zd0; exact gu⟩
instance (a:zZk) (b:Int):T (zV a b) (Gw a) (fun r=>Gw r∧kc r=0∧ku r=ku a∧tc r=tc a∧tu r=tu a∧r.zZH=true):=⟨by unfold zV; exact goH⟩
instance (c:List Str) (d:Int) (n:Nat) (a:zZk) (b:Int):T (zD c d n a b) (d=c.length∧c.length≤1000∧0≤b∧b≤d∧d<b+n∧tu a+sl (dq c b)≤100000000000000) (fun r=>Rs1 a r∧tc r=tc a∧tu r=tu a+sl (dq c b)):=by
 induction n generalizing a b
 ·exact ⟨goz⟩
 exact ⟨by unfold zD; exact goF2⟩
instance (a:zZk) (b:List Str):T (zae a b) (b.length≤1000∧tu a+sl b≤100000000000000) (fun r=>Rs1 a r∧tc r=tc a∧tu r=tu a+sl b):=⟨by unfold zae; exact goF2⟩
instance (x_f:zZw) (a:Int):T (zie x_f a) (x_f.N≤1099511627776) (fun r=>oW r.1):=⟨by unfold zie zgh; exact goG⟩
instance  : T (zif) (True) (fun r=>True):=⟨by unfold zif; exact gu⟩
instance (a:zZC) (b:List zZs):T (zbI a b) (Qm a∧b.length≤1) (fun r=>Qm r.2):=⟨by unfold zbI zdG; exact goH⟩
instance (b:zZG) (a:List zZn):T (zeX b a) (Em b∧Tl a) (fun r=>r.1.length≤1200000∧Em r.2.2):=⟨by unfold zeX; exact goG⟩
instance (b:zZz) (a:List zZn):T (zbJ b a) (Ww b∧Tl a) (fun r=>r.1.length≤1200000∧Ww r.2.2):=⟨by unfold zbJ zbC; exact goG⟩
instance (a:zZk) (b:zZs):T (zav a b) (Gw a) (fun r=>Gw r∧kc r=0∧ku r=ku a∧tc r=tc a∧tu r=tu a):=⟨by unfold zav; exact goH⟩
instance (a:zZk) (v4:zZr):T (zaw a v4) (Gw a∧Hd v4) (fun r=>Gw r∧kc r=0∧ku r=ku a∧tc r=tc a∧tu r=tu a):=⟨by unfold zaw; exact goO⟩
instance (a:zZk) (s2:Str):T (z8 a s2) (Gw a∧s2.length≤1200000∧tu a≤50000000000000) (fun r=>Gw r∧kc r=0∧ku r=ku a∧tc r=tc a∧tu r≤tu a+1200000):=⟨by unfold z8; exact goJ⟩
instance (a:zZk):T (zan a) (Gw a∧tu a≤50000000000000) (fun r=>Gw r∧kc r=0∧ku r=ku a∧tc r=tc a∧tu r≤tu a+1200000):=⟨by unfold zan; exact goJ⟩
end Go.Dm
end
section
namespace Go.Dm
instance (a:zZK):T (zgi a) (True) (fun r=>True):=⟨by unfold zgi; exact gu⟩
instance (a:zZk) (b:Bool):T (zax a b) (Gw a∧tu a≤50000000000000) (fun r=>Gw r∧kc r≤kc a∧ku r=ku a∧tc r=tc a∧tu r≤tu a+1200000):=⟨by unfold zax; exact goJ⟩
instance (a:zZk):T (zay a) (Gw a∧tu a≤50000000000000) (fun r=>Gw r∧kc r≤kc a∧ku r=ku a∧tc r=tc a∧tu r≤tu a+1200000):=⟨by unfold zay; exact goJ⟩
instance (a:zZk) (v5:zZw):T (zaz a v5) (Gw a∧v5.N≤1099511627776∧tu a≤50000000000000) (fun r=>Gw r∧kc r≤kc a∧ku r=ku a∧tc r=tc a∧tu r≤tu a+1200000):=⟨by unfold zaz; exact goJ⟩
instance (a:zZk) (v2:zZr):T (zaA a v2) (Gw a∧Hd v2∧tu a≤40000000000000) (fun r=>Gw r∧kc r≤kc a∧ku r=ku a∧tc r=tc a∧tu r≤tu a+1300000):=⟨by unfold zaA; exact goJ⟩
instance (a:zZk):T (zaX a) (Gw a∧tu a≤40000000000000) (fun r=>Gw r∧kc r≤kc a∧ku r=ku a∧tc r=tc a∧tu r≤tu a+1300000):=⟨by unfold zaX; exact goJ⟩
instance (a:zZA):T (ziS a) (1≤a.zZ6.length∧a.zZ6.length≤1000000) (fun r=>r=false→lAt a.zZ6 (a.zZ6.length-1)=some 10→1<a.zZ6.length∧lAt a.zZ6 (a.zZ6.length-2)=some 13):=⟨by unfold ziS zfU; exact goG⟩
instance (a:zZy):T (zc5 a) (Cw a) (fun r=>Cw r.2∧r.2.z0w=a.z0w∧a.zZ4≤r.2.zZ4∧r.1.length≤a.z0w.length):=⟨by unfold zc5; exact gu⟩
instance (a:Str):T (ze9 a) (a.length≤10000) (fun r=>r.1.Name.length≤a.length∧r.1.Value.length≤a.length):=⟨by unfold ze9; exact gu⟩
instance (b:List Str) (c:Int) (n:Nat) (v12:zZr) (a:Int):T (zjl b c n v12 a) (b.length≤9000∧(∀s∈b,s.length≤3000)∧c=b.length∧0≤a∧a≤c∧c<a+n∧v12.Fields.length≤a∧(∀f∈v12.Fields,f.Name.length≤3000∧f.Value.length≤3000)∧v12.Method.length≤3000∧v12.Target.length≤3000∧v12.Reason.length≤3000∧0≤v12.Code∧v12.Code≤599∧0≤v12.Minor∧v12.Minor≤255) (fun r=>Hd r.1):=by
 induction n generalizing v12 a
 ·exact ⟨goz⟩
 exact ⟨by unfold zjl; exact goG⟩
instance (c:Int) (a:Str) (b:Int):T (zq1 c a b) (a.length≤3000) (fun r=>Hd r.1):=⟨by unfold zq1; exact goG⟩
end Go.Dm
end
section
namespace Go.Dm
instance (a:zZA) (b:Str):T (zeI a b) (a.zZ6.length≤3000∧b.length≤3000∧Hd a.z0G) (fun r=>r.2.2.zZ6=a.zZ6∧Hd r.2.2.z0G∧(r.1=false→r.2.1=0→r.2.2.z0C=a.zZ6.length)):=⟨by unfold zeI zeY; exact goG⟩
instance (a:zZA) (b:UInt8):T (zch a b) (a.zZ6.length<3000∧Hd a.z0G∧Fr a) (fun r=>r.2.2.zZ6.length≤a.zZ6.length+1∧Hd r.2.2.z0G∧(r.1=false→r.2.1=0→Fr r.2.2)):=⟨by unfold zch; exact goG⟩
instance (s1:Str) (c:Int) (n:Nat) (b:zZA) (a:Int):T (zaG s1 c n b a) (c=s1.length∧s1.length≤3000∧0≤a∧a≤c∧c<a+n∧b.zZ6.length+(c-a)≤3000∧Hd b.z0G∧Fr b∧b.z0K=0∧b.f_whole=false) (fun r=>Am r.2.2.2∧a≤r.1∧r.1≤c∧(a<c→a<r.1)∧r.2.2.2.zZ6.length≤b.zZ6.length+(r.1-a)):=by
 induction n generalizing b a
 ·exact ⟨goz⟩
 exact ⟨by unfold zaG zc6; exact goG⟩
instance (a:zZA) (b:Str):T (zaT a b) (Am a∧a.zZ6.length+b.length≤3000) (fun r=>Am r.2.2.2∧0≤r.1∧r.1≤b.length∧(r.1=0→b.length=0∨r.2.2.1≠0)∧r.2.2.2.zZ6.length≤a.zZ6.length+r.1):=⟨by unfold zaT; exact goG⟩
instance  (n:Nat) (a:zZG) (b:List Str):T (zaS n a b) (1≤a.z0H∧a.z0H≤65536∧a.zZ6.length≤70000∧a.zZ6.length<n∧b.length+a.zZ6.length≤70000∧sl b+70*a.zZ6.length≤4900000) (fun r=>r.1.length≤7000000∧Em r.2.2):=by
 induction n generalizing a b
 ·exact ⟨goz⟩
 exact ⟨by unfold zaS; exact goG⟩
instance (a:zZG) (b:Str):T (zbr a b) (Em a∧b.length≤3000) (fun r=>r.1.length≤7000000∧Em r.2.2):=⟨by unfold zbr; exact goG⟩
end Go.Dm
end
section
namespace Go.Dm
instance (a:zZz) (b:Str):T (zk a b) (Ww a∧b.length≤3000) (fun r=>r.1.length≤7000000∧Ww r.2.2):=⟨by unfold zk zdH zbD zdI; exact goG⟩
instance (a:zZp) (b:Str):T (zcD a b) (Dn a∧Dg a∧a.zZ4=1∧1≤b.length∧b.length≤3000) (fun r=>Dn r.2∧Dg r.2∧1≤r.1.length∧r.1.length≤b.length):=⟨by unfold zcD zbR; exact goG⟩
instance (a:zZp) (b:UInt8):T (zdJ a b) (Dn a∧Dg a∧a.zZ4=2) (fun r=>Dn r.2∧(r.1=0→Dg r.2)):=⟨by unfold zdJ zcF zcE; exact goG⟩
instance (b:Str) (a:Int):T (zpa b a) (b.length<1000000000∧0≤a∧a≤9223372036854775807) (fun r=>0≤r.1∧r.1≤a):=⟨by unfold zpa; exact gu⟩
instance (a:zZy):T (zml a) (Cw a) (fun r=>Cw r.2.2∧r.2.2.z0w=a.z0w∧a.zZ4≤r.2.2.zZ4):=⟨by unfold zml; exact gu⟩
instance (x_r:z0p):T (zfp x_r) (Cw x_r.Scanner) (fun r=>Cw r.2.2∧r.2.2.z0w=x_r.Scanner.z0w∧x_r.Scanner.zZ4≤r.2.2.zZ4):=⟨by unfold zfp; exact gu⟩
instance (b:Int) (c:Int) (n:Nat) (v5:z0p) (a:List z0d):T (zeJ b c n v5 a) (Cw v5.Scanner∧v5.Scanner.z0w.length<v5.Scanner.zZ4+n∧a.length≤v5.Scanner.zZ4∧0≤b∧b≤1099511627776∧v5.Scanner.z0w.length≤1000000) (fun r=>0≤r.1∧r.1≤1099511627776):=by
 induction n generalizing v5 a
 ·exact ⟨goz⟩
 exact ⟨by unfold zeJ; exact gu⟩
instance (a:Str):T (zjL a) (a.length≤1000000) (fun r=>0≤r.1∧r.1≤1099511627776):=⟨by unfold zjL; exact gu⟩
instance (a:zZp) (b:Str):T (zec a b) (Dn a∧Dg a∧b.length≤5000∧a.zZ4=0) (fun r=>Dn r.2∧(r.1=0→Dg r.2)):=⟨by unfold zec; exact goG⟩
instance (a:zZp) (b:Str):T (zcZ a b) (Dn a∧b.length≤4098) (fun r=>Dn r.2.2∧r.2.2.zZ4=a.zZ4∧r.2.2.z0J=a.z0J∧r.2.2.z0E=a.z0E∧r.2.2.zZB=a.zZB):=⟨by unfold zcZ; exact goG⟩
instance (a:zZp) (b:UInt8):T (zdK a b) (Dn a∧Dg a∧a.zZ4≠1∧a.zZ4≠2) (fun r=>Dn r.2.2∧(r.1=false→r.2.1=0→Dg r.2.2)):=⟨by unfold zdK zcI zcH zcG; exact goG⟩
instance (b:zZp) (a:Str):T (zt b a) (Dn b∧Dg b∧1≤a.length∧a.length≤3000) (fun r=>1≤r.1∧r.1≤a.length∧r.2.1.length≤r.1∧Dn r.2.2.2.2∧(r.2.2.1=false→r.2.2.2.1=0→Dg r.2.2.2.2)):=⟨by unfold zt; exact goG⟩
end Go.Dm
end
section
namespace Go.Dm
instance (s1:Str) (n:Nat) (a:zZp) (i4:Int) (c:Bool) (b:Int) (d:List UInt8):T (zq s1 n a i4 c b d) (0≤i4∧i4≤s1.length∧s1.length<i4+n∧s1.length≤3000∧d.length≤i4∧Dn a∧(c=false→b=0→Dg a)) (fun r=>i4≤r.1∧r.1≤s1.length∧r.2.1.length≤r.1∧Dm r.2.2.2.2∧(c=false→b=0→i4<s1.length→i4<r.1)):=by
 induction n generalizing a i4 c b d
 ·exact ⟨goz⟩
 exact ⟨by unfold zq zaJ zbT zbS; exact goG⟩
instance (b:zZp) (a:Str):T (za6 b a) (Dm b∧a.length≤3000) (fun r=>0≤r.1∧r.1≤a.length∧r.2.1.length≤r.1∧Dm r.2.2.2.2∧(r.1=0→a.length=0∨r.2.2.2.1≠0)):=⟨by unfold za6; exact goG⟩
instance (b:zZK) (a:Str):T (zo b a) (Bm b∧a.length≤3000) (fun r=>0≤r.1∧r.1≤a.length∧r.2.1.length≤3000∧Bm r.2.2.2.2∧(r.1=0→a.length=0∨r.2.2.2.1≠0)):=⟨by unfold zo zfV zfW; exact goG⟩
end Go.Dm
end
section
namespace Go.Dm
instance (a:zZk) (i5:Int) (c:Bool) (b:Int):T (zp a i5 c b) (Gw a∧tu a≤40000000000000) (fun r=>r.1=i5∧Gw r.2∧kc r.2≤kc a∧ku r.2=ku a∧tc r.2=tc a∧tu r.2≤tu a+1300000∧(b≠0→r.2.zZH=true)):=⟨by unfold zp; exact goJ⟩
instance (a:zZk) (e:Int) (d:Bool) (c:Int) (b:Str):T (zA a e d c b) (Gw a∧b.length≤7000000∧tu a≤30000000000000) (fun r=>r.1=e∧Gw r.2∧kc r.2≤kc a∧ku r.2=ku a∧tc r.2=tc a∧tu r.2≤tu a+8200000∧(c≠0→r.2.zZH=true)):=⟨by unfold zA; exact goJ⟩
instance (a:zZk) (d:Int) (e:Str) (c:Bool) (b:Int):T (zW a d e c b) (Gw a∧e.length≤3000∧tu a≤30000000000000) (fun r=>r.1=d∧Gw r.2∧kc r.2≤kc a∧ku r.2=ku a∧tc r.2=tc a∧tu r.2≤tu a+8200000∧(b≠0→r.2.zZH=true)):=⟨by unfold zW; exact goJ⟩
instance (a:zZk) (s1:Str) (b:Bool):T (zK a s1 b) (Gw a∧kc a+s1.length≤3000∧tu a≤30000000000000) (fun r=>0≤r.1∧r.1≤s1.length∧Gw r.2∧kc r.2≤kc a+r.1∧ku r.2=ku a∧tc r.2=tc a∧tu r.2≤tu a+8200000∧(r.1=0→s1.length=0∨r.2.zZH=true)):=⟨by unfold zK; exact goJ⟩
instance (a:zZk) (b:Str):T (ze a b) (Gw a∧kc a+b.length≤3000∧tu a≤30000000000000) (fun r=>0≤r.1∧r.1≤b.length∧Gw r.2∧kc r.2≤kc a+r.1∧ku r.2=ku a∧tc r.2=tc a∧tu r.2≤tu a+8200000∧(r.1=0→b.length=0∨r.2.zZH=true)):=⟨by unfold ze; exact goJ⟩
instance (c:List Str) (d:Int) (n:Nat) (a:zZk) (b:Int):T (zC c d n a b) (d=c.length∧c.length≤1000∧0≤b∧b≤d∧d<b+n∧tc a+sl (dq c b)≤100000000000000) (fun r=>Rs1 a r∧tu r=tu a∧tc r=tc a+sl (dq c b)):=by
 induction n generalizing a b
 ·exact ⟨goz⟩
 exact ⟨by unfold zC; exact goF2⟩
instance (a:zZk) (b:List Str):T (zY a b) (b.length≤1000∧tc a+sl b≤100000000000000) (fun r=>Rs1 a r∧tu r=tu a∧tc r=tc a+sl b):=⟨by unfold zY; exact goF2⟩
instance (a:zZk):T (zT a) (Gw a) (fun r=>Gw r∧kc r=0∧ku r=0∧tc r=tc a∧tu r=tu a∧r.zZo=true∧r.zZH=a.zZH∧r.z0c=a.z0c):=⟨by unfold zT; exact goH⟩
instance (b:zZk) (a:Int):T (zO b a) (Gw b∧(a=400∨a=431∨a=502)∧tc b≤50000000000000) (fun r=>Gw r∧kc r=0∧ku r=0∧tc r≤tc b+1000∧tu r=tu b∧r.zZo=true∧r.zZH=b.zZH∧r.z0c=b.z0c):=⟨by unfold zO; exact goJ⟩
instance (a:zZk) (i2:Int) (b:Bool):T (zaq a i2 b) (Gw a∧tc a≤50000000000000) (fun r=>Gw r∧kc r≤kc a∧ku r≤ku a∧tc r≤tc a+1000∧tu r=tu a∧(a.zZH=true→r.zZH=true)∧(a.zZo=true→r.zZo=true)∧(a.z0c=true→r.z0c=true)):=⟨by unfold zaq; exact goJ⟩
instance (a:zZk) (i2:Int):T (zaf a i2) (Gw a∧tc a≤50000000000000) (fun r=>Gw r∧kc r≤kc a∧ku r≤ku a∧tc r≤tc a+1000∧tu r=tu a∧(a.zZH=true→r.zZH=true)∧(a.zZo=true→r.zZo=true)∧(a.z0c=true→r.z0c=true)):=⟨by unfold zaf; exact goJ⟩
instance (a:zZk):T (zg a) (Gw a∧tc a≤50000000000000) (fun r=>Gw r∧kc r≤kc a∧ku r≤ku a∧tc r≤tc a+1000∧tu r=tu a∧(a.zZH=true→r.zZH=true)∧(a.zZo=true→r.zZo=true)∧(a.z0c=true→r.z0c=true)):=⟨by unfold zg; exact goJ⟩
end Go.Dm
end
