/- When the models come to something: printed by a program (wip/gen/yt.py) off the models and a table. No program in sight. -/
import Derived.Test.YtlehfmpjckapdaaGreatDoorTXU
import Derived.Test.YtlehfmpjckapdaaGreatDoorR3
import Derived.Test.YtlehfmpjckapdaaGreatDoorD0
set_option linter.unusedVariables false
set_option linter.unusedSimpArgs false
set_option linter.unusedVariables false
set_option maxRecDepth 10000
set_option maxHeartbeats 2000000
section
namespace Go.Dm
instance (x_env:zZI):T (zoN x_env) (x_env.By.length≤1000∧x_env.Host.length≤1000∧Swm x_env.Domains∧Swm x_env.Locations) (fun r=>r=stC x_env):=⟨by unfold zoN zkG zhW; exact goEA⟩
instance (a:Str) (n:Nat) (i3:Int):T (zg1 a n i3) (0≤i3∧i3≤a.length∧a.length<i3+n∧a.length<1000000000) (fun r=>r=vls (dr a i3)):=by
 induction n generalizing i3
 ·exact ⟨goz⟩
 exact ⟨by unfold zg1; exact goV⟩
instance (a:Str):T (znp a) (a.length<1000000000) (fun r=>r=vls a):=⟨by unfold znp; exact goV⟩
instance (b:UInt8):T (zj9 b) True (fun r=>r=zok b):=bt (by decide +kernel) b
instance  (n:Nat) (a:Str):T (zfz n a) (a.length<n∧a.length<1000000000) (fun r=>r=zon a):=by
 induction n generalizing a
 ·exact ⟨goz⟩
 exact ⟨by unfold zfz zlV; exact goV⟩
instance  (n:Nat) (a:Str):T (zfA n a) (a.length<n∧a.length<1000000000) (fun r=>r=zon (zm8 a)):=by
 induction n generalizing a
 ·exact ⟨goz⟩
 exact ⟨by unfold zfA zlW; exact goV⟩
instance (a:Str):T (zqH a) (a.length<1000000000) (fun r=>r=zI5 a):=⟨by unfold zqH; exact goV⟩
instance (x_f:zZn):T (zoO x_f) (x_f.Name.length<1000000000∧x_f.Value.length<1000000000) (fun r=>r=0↔fokB x_f.Name x_f.Value=true):=⟨by unfold zoO; exact gr4⟩
instance (a:z0m):T (zmz a) (Gm a) (fun r=>r=true↔guaP a):=⟨by unfold zmz; exact gr4⟩
instance {P:Str→Prop} (g:Str→Int→Option Str) (b:Str) (a:Str) (i4:Int) (n:Nat) (f:Str) (h:Int):K (zfB g b a i4 n f h) P ((∃c,f=[c]∧dr b i4=c::dr b (i4+1))∧h=0∧n=fuel∧0≤i4∧i4<1000000000∧a.length<1000000000∧∀t i,t=a++low f∧i=i4+1→W (g t i) P):=⟨fun ⟨⟨c,q,d⟩,k,o,h0,h1,h2,j⟩=>by
 have l:=zla h0 d
 have e:sAt b i4=some c:=by
  obtain ⟨r,e,m⟩:=(inferInstance:T (sAt b i4) _ _).ok ⟨h0,l⟩;rw [m.2.2] at d;rw [e,(List.cons.inj d).1]
 subst q k o;rw [zMP g b a i4 c e,fl_v]
 have p:zci a [zlJ c]=some (a++[zlJ c]):=by simp [zci]; omega
 have a2:zi i4 1=some (i4+1):=by simp [zi,inI]; omega
 show W ((zci a [zlJ c]).bind _) P;rw [p];show W ((zi i4 1).bind _) P;rw [a2]
 exact j _ _ ⟨rfl,rfl⟩⟩
instance (a:Str) (n:Nat) (b:Str) (i4:Int):T (zhk a n b i4) (0≤i4∧i4≤a.length∧a.length<i4+n∧a.length<1000000000∧b.length=i4) (fun r=>r=b++low (dr a i4)):=by
 induction n generalizing b i4
 ·exact ⟨goz⟩
 exact ⟨by unfold zhk; exact goF⟩
instance (a:Str):T (zn0 a) (a.length<1000000000) (fun r=>r=low a):=⟨by unfold zn0; exact goF⟩
instance (a:Str):T (zoP a) (a.length<1000000000) (fun r=>r=decide (low a∈zIr)):=⟨by unfold zoP; exact gr4⟩
instance (a:Str):T (zlB a) (a.length<1000000000) (fun r=>r=zCZ a):=⟨by unfold zlB; exact gr4⟩
instance (a:Int):T (zoQ a) (True) (fun r=>r=kns a∧r.length≤10):=⟨by unfold zoQ; exact gr5⟩
end Go.Dm
end
section
namespace Go.Dm
instance {P:(List Str)→Prop} (e:List Str→Int→Option (List Str)) (c:List zZq) (a:List Str) (i4:Int) (n:Nat) (t5:Bool) (b:Int):K (zf5 e c a i4 n t5 b) P ((c.length≤10000∧a.length≤i4∧0≤i4∧i4<c.length∧0≤b∧b≤a.length∧a.length<b+n)∧(∀l i,i=i4+1∧l=(if t5=true∨(pe c i4).Text∈dr a b then a else a++[(pe c i4).Text])→W (e l i) P)):=by
 induction n generalizing t5 b
 ·exact ⟨goz⟩
 exact ⟨fun ⟨h,d⟩=>by have d:=fun a0 f=>K.mk (d a0 f); unfold zf5; exact gr5⟩
instance (a:List zZq) (n:Nat) (b:List Str) (i4:Int):T (zf6 a n b i4) (a.length≤10000∧0≤i4∧i4≤a.length∧a.length<i4+n∧b.length≤i4) (fun r=>r=nmF b (dr a i4)∧r.length≤a.length):=by
 induction n generalizing b i4
 ·exact ⟨goz⟩
 exact ⟨by unfold zf6; exact gr5⟩
instance (a:List zZq):T (zoR a) (a.length≤10000) (fun r=>r=nmF [] a∧r.length≤a.length):=⟨by unfold zoR; exact gr5⟩
instance (i4:Int) (a:Str) (n:Nat) (b:Int):T (zkH i4 a n b) (0≤b∧b≤a.length∧a.length<b+n∧a.length<1000000000∧0≤i4∧i4<1000000000) (fun r=>r=if sms (dr a b)=true then (⟨2,a⟩,i4+1) else (⟨0,[]⟩,0)):=by
 induction n generalizing b
 ·exact ⟨goz⟩
 exact ⟨by unfold zkH; exact gr0⟩
instance (a:Str) (n:Nat) (i4:Int):T (zgF a n i4) (0≤i4∧i4≤a.length∧a.length<i4+n∧a.length<1000000000∧dr a 0=36::dr a (0+1)∧N36 a∧125∉tk a i4) (fun r=>PRo a r.1 r.2∧0≤r.2∧r.2≤a.length∧r.1.Text.length≤r.2):=by
 induction n generalizing i4
 ·exact ⟨goz⟩
 exact ⟨by unfold zgF znq; exact gr1⟩
instance (a:Str):T (zty a) (1≤a.length∧a.length<1000000000) (fun r=>PRo a r.1 r.2∧0≤r.2∧r.2≤a.length∧r.1.Text.length≤r.2):=⟨by unfold zty znr; exact gr1⟩
instance  (n:Nat) (a:Str) (b:List zZq):T (zdt n a b) (a.length<n∧b.length+a.length≤90000000∧(∀p∈b,p.Text.length+a.length≤90000000)) (fun r=>r.1.length≤32∧∀l,r=(l,0)↔PR b a l∧l.length≤32):=by
 induction n generalizing a b
 ·exact ⟨goz⟩
 exact ⟨by unfold zdt zhX; exact gr2⟩
instance (a:Str):T (zoS a) (a.length≤90000000) (fun r=>r.1.length≤32∧∀l,r=(l,0)↔PR [] a l∧l.length≤32):=⟨by unfold zoS; exact gr2⟩
instance (a:List zZq) (b:List zZq) (n:Nat) (i5:Int):T (zjd a b n i5) (a.length=b.length∧a.length<1000000000∧0≤i5∧i5≤a.length∧a.length<i5+n) (fun r=>r=true↔dr a i5=dr b i5):=by
 induction n generalizing i5
 ·exact ⟨goz⟩
 exact ⟨by unfold zjd; exact goR5⟩
instance (a:List zZq) (b:List zZq):T (zqI a b) (a.length<1000000000) (fun r=>r=true↔a=b):=⟨by unfold zqI; exact goR5⟩
instance {P:(Str × Int)→Prop} (e:Str→Int→Option (Str × Int)) (b:List zZq) (i5:Int) (n:Nat) (d:Str) (a:Int):K (zfC e b i5 n d a) P ((Tp b∧0≤i5∧i5<b.length∧0≤a∧a≤(pe b i5).Text.length∧(pe b i5).Text.length<a+n∧d.length≤20010*i5+2*a)∧(∀s i,i=i5+1∧s.length≤20010*i∧s=d++dbl (dr (pe b i5).Text a)→W (e s i) P)):=by
 induction n generalizing d a
 ·exact ⟨goz⟩
 exact ⟨fun ⟨h,c⟩=>by have c:=fun a0 f=>K.mk (c a0 f); unfold zfC zlX; exact gr7⟩
instance (a:List zZq) (n:Nat) (b:Str) (i5:Int):T (zct a n b i5) (Tp a∧0≤i5∧i5≤a.length∧a.length<i5+n∧b.length≤20010*i5) (fun r=>(r.2=0↔zA3 a (b++prA (dr a i5)))∧(r.2=0∨r.2=2)):=by
 induction n generalizing b i5
 ·exact ⟨goz⟩
 exact ⟨by unfold zct; exact gr3⟩
instance (a:List zZq):T (zqJ a) (Tp a) (fun r=>(r.2=0↔zA3 a (prA a))∧(r.2=0∨r.2=2)):=⟨by unfold zqJ; exact gr3⟩
end Go.Dm
end
section
namespace Go.Dm
instance (x_s:zZV):T (zoH x_s) (True) (fun r=>r.Env=x_s.Env∧r.Caps=x_s.Caps∧r.Rules=x_s.Rules):=⟨by unfold zoH; exact go⟩
end Go.Dm
end
section
namespace Go.Dm
instance {P:Int→Prop} (j:Bool→Int→Option Int) (t3:Bool) (e:List Str) (f:List Str) (d:Int) (n:Nat) (g:Bool) (a:Int):K (zf7 j t3 e f d n g a) P ((0≤a∧a≤e.length∧e.length<a+n∧e.length≤10∧0≤d∧d<f.length∧f.length≤10000)∧(∀b i,i=d+1∧(b=true↔t3=true∧(g=true∨elt f d∈dr e a))→W (j b i) P)):=by
 induction n generalizing g a
 ·exact ⟨goz⟩
 exact ⟨fun ⟨h,c⟩=>by have c:=fun a0 k=>K.mk (c a0 k); unfold zf7; exact gr5⟩
instance (d:zZu) (c:List Str) (b:List Str) (n:Nat) (t3:Bool) (a:Int):T (zf8 d c b n t3 a) (Rm d∧c.length≤10∧b.length≤1000∧0≤a∧a≤b.length∧b.length<a+n) (fun r=>(r=0↔t3=true∧zFi c (dr b a)∧actR d)∧(r=0∨r=9)):=by
 induction n generalizing t3 a
 ·exact ⟨goz⟩
 exact ⟨by unfold zf8 zkI; exact gr5⟩
instance (v1:zZu) (t3:Bool):T (zb3 v1 t3) (Rm v1) (fun r=>(r=0↔t3=true∧zFi (kns v1.Side) (nmF [] v1.Parts)∧actR v1)∧(r=0∨r=9)):=⟨by unfold zb3; exact gr5⟩
instance (a:zZu):T (zoT a) (Rm a) (fun r=>(r=0↔zHu a)∧(r=0∨r=9)):=⟨by unfold zoT; exact gr5⟩
instance (a:List zZu) (n:Nat) (i4:Int):T (zhY a n i4) (Rl a∧0≤i4∧i4≤a.length∧a.length<i4+n) (fun r=>(zom (dr a i4)→r.2=if 64<a.length then 3 else 0)∧(¬ zom (dr a i4)→r.2=9)):=by
 induction n generalizing i4
 ·exact ⟨goz⟩
 exact ⟨by unfold zhY; exact gr5⟩
instance (a:List zZu):T (zoU a) (Rl a) (fun r=>(zom a→r.2=if 64<a.length then 3 else 0)∧(¬ zom a→r.2=9)):=⟨by unfold zoU; exact gr5⟩
instance (x_s:ref44_Setup):T (zoV x_s) (x_s.Env.By.length≤1000∧x_s.Env.Host.length≤1000∧Swm x_s.Env.Domains∧Swm x_s.Env.Locations∧Rl x_s.Rules) (fun r=>r=gwC x_s.Env x_s.Caps x_s.Rules):=⟨by unfold zoV; exact gr6⟩
instance (x_s:zZV):T (zei x_s) (x_s.Env.By.length≤1000∧x_s.Env.Host.length≤1000∧Swm x_s.Env.Domains∧Swm x_s.Env.Locations∧Rl x_s.Rules∧x_s.Client.length≤3000∧x_s.Upstream.length≤3000) (fun r=>r=gwC x_s.Env x_s.Caps x_s.Rules):=⟨by unfold zei zhZ; exact gr6⟩
end Go.Dm
end
section
namespace Go.Dm
instance (a:Str) (b:List Str):T (zaM a b) (a.length≤10∧sl b+10*b.length≤100000000000000) (fun r=>r.length≤sl b+10*b.length∧r=Go.Lib.join b a):=⟨by unfold zaM; exact go1⟩
instance (a:Str):T (zg2 a) (True) (fun r=>r.z0w=a∧r.zZ4=0):=⟨by unfold zg2; exact go1⟩
instance (b:UInt8):T (zck b) True (fun r=>r=zlJ b):=bt (by decide +kernel) b
instance (b:UInt8):T (zej b) True (fun r=>r=zlK b):=bt (by decide +kernel) b
instance (b:UInt8):T (zbL b) True (fun r=>r=zcj b):=bt (by decide +kernel) b
instance (b:UInt8):T (zhl b) True (fun r=>r=zpv b):=bt (by decide +kernel) b
instance (a:zZy):T (zcT a) (True) (fun r=>r=a.zZ4):=⟨by unfold zcT; exact go1⟩
instance (a:zZy):T (zbe a) (Cw a) (fun r=>r=dr a.z0w a.zZ4∧(r.length:Int)=a.z0w.length-a.zZ4∧(r=[]↔a.zZ4=a.z0w.length)):=⟨by unfold zbe; exact go1⟩
instance (a:zZy):T (zbb a) (Cw a) (fun r=>r=decide (a.zZ4=a.z0w.length)):=⟨by unfold zbb; exact go1⟩
instance (a:zZy):T (zbf a) (Cw a) (fun r=>r.2=decide (a.zZ4<a.z0w.length)∧(r.2=true→dr a.z0w a.zZ4=r.1::dr a.z0w (a.zZ4+1))∧(r.2=true→sAt a.z0w a.zZ4=some r.1)):=⟨by unfold zbf; exact go1⟩
instance (c:(UInt8→Option Bool)) (i5:Int) (n:Nat) (a:zZy) {g:UInt8→Bool} [∀b,T (c b) True (fun r=>r=g b)]:T (zcl c i5 n a) (Cw a∧0≤i5∧i5≤a.zZ4∧a.z0w.length<a.zZ4+n) (fun r=>Cw r.2∧r.2.z0w=a.z0w∧a.zZ4≤r.2.zZ4∧r.1.length≤a.z0w.length∧(r.1.length:Int)=r.2.zZ4-i5∧r.1=sb a.z0w i5 a.zZ4++(dr a.z0w a.zZ4).takeWhile g∧dr r.2.z0w r.2.zZ4=(dr a.z0w a.zZ4).dropWhile g):=by
 induction n generalizing a
 ·exact ⟨goz⟩
 exact ⟨by unfold zcl; exact goW⟩
instance (a:zZy) (c:(UInt8→Option Bool)) {g:UInt8→Bool} [∀b,T (c b) True (fun r=>r=g b)]:T (zaj a c) (Cw a) (fun r=>Cw r.2∧r.2.z0w=a.z0w∧a.zZ4≤r.2.zZ4∧r.1.length≤a.z0w.length∧(r.1.length:Int)=r.2.zZ4-a.zZ4∧r.1=(dr a.z0w a.zZ4).takeWhile g∧dr r.2.z0w r.2.zZ4=(dr a.z0w a.zZ4).dropWhile g):=⟨by unfold zaj; exact goW⟩
instance (a:zZy):T (zat a) (Cw a) (fun r=>Cw r.2.2∧r.2.2.z0w=a.z0w∧a.zZ4≤r.2.2.zZ4∧r.1.length≤a.z0w.length∧(r.1.length:Int)=r.2.2.zZ4-a.zZ4∧r.2.1 = !(r.1==[])∧r.1=(dr a.z0w a.zZ4).takeWhile zpv∧dr r.2.2.z0w r.2.2.zZ4=(dr a.z0w a.zZ4).dropWhile zpv):=⟨by unfold zat; exact goW⟩
instance (a:zZy) (b:UInt8):T (zl a b) (Cw a) (fun r=>Cw r.2∧r.2.z0w=a.z0w∧(if r.1=true then r.2.zZ4=a.zZ4+1∧dr a.z0w a.zZ4=b::dr a.z0w (a.zZ4+1) else r.2=a∧∀t,dr a.z0w a.zZ4≠b::t)∧(sAt a.z0w a.zZ4=some b→a.zZ4<a.z0w.length→r.1=true)):=⟨by unfold zl; exact go1⟩
instance (x_r:z0u) (a:zZR):T (zeQ x_r a) (Cw x_r.Scanner∧a=⟨[],[],[],[]⟩) (fun r=>Cw r.2.2∧r.2.2.z0w=x_r.Scanner.z0w∧∀b,dr x_r.Scanner.z0w x_r.Scanner.zZ4=49::46::49::32::b→r.1=true∧r.2.1=⟨[],[49,46,49],[],[]⟩∧dr r.2.2.z0w r.2.2.zZ4=32::b):=⟨by unfold zeQ zdj zdi; exact zDR⟩
instance (b:UInt8):T (zg3 b) True (fun r=>r=nsp b):=bt (by decide +kernel) b
instance {P:Bool→Prop} (k:Int→Option Bool) (j:(UInt8→Option Bool)) (f:Str) (d:Int) (c:Int) (n:Nat) (a:Int) {g:UInt8→Bool} [∀b,T (j b) True (fun r=>r=g b)]:K (zkK k j f d c n a) P ((c=f.length∧0≤a∧a≤c∧c<a+n∧f.length≤4611686018427387904∧0≤d∧d≤4611686018427387904∧((dr f a).all g=false→P false))∧(∀i,i=d+1∧(dr f a).all g=true→W (k i) P)):=by
 induction n generalizing a
 ·exact ⟨goz⟩
 exact ⟨fun ⟨h,e⟩=>by have e:=fun a0=>K.mk (e a0); unfold zkK; exact goN⟩
instance (d:(UInt8→Option Bool)) (c:List Str) (i9:Int) (n:Nat) (a:Int) {g:UInt8→Bool} [∀b,T (d b) True (fun r=>r=g b)]:T (ziz d c i9 n a) (i9=c.length∧0≤a∧a≤i9∧i9<a+n∧Sm c) (fun r=>r=(dr c a).all fun s=>s.all g):=by
 induction n generalizing a
 ·exact ⟨goz⟩
 exact ⟨by unfold ziz; exact goN⟩
instance (a:(UInt8→Option Bool)) (c:List Str) {g:UInt8→Bool} [∀b,T (a b) True (fun r=>r=g b)]:T (zcm a c) (Sm c) (fun r=>r=c.all fun s=>s.all g):=⟨by unfold zcm; exact goN⟩
end Go.Dm
end
section
namespace Go.Dm
instance (a:UInt8):T (zlY a) True (fun r=>0≤r∧r≤265∧(zcj a=true→r=(a.toNat:Int)-48)):=⟨fun _=>by
 have:=zqh (p:=fun b=>match zlY b with|some r=>decide (0≤r∧r≤265∧(zcj b=true→r=(b.toNat:Int)-48))|none=>false) (by decide +kernel) a
 split at this
 ·rename_i r e; exact ⟨r,e,of_decide_eq_true this⟩
 ·cases this⟩
instance (d:Str) (e:Int) (i2:Int) (c:Int) (n:Nat) (b:Int) (a:Int):T (zg4 d e i2 c n b a) (c=d.length∧0≤a∧a≤c∧c<a+n∧c<1000000000∧1≤e∧0≤i2∧i2≤9223372036854775807∧0≤b∧b≤i2) (fun r=>0≤r.1∧r.1≤i2∧(e=10→dgs (dr d a)=true→dvI b (dr d a)≤i2→r=(dvI b (dr d a),0))):=by
 induction n generalizing b a
 ·exact ⟨goz⟩
 exact ⟨fun h=>by rcases Decidable.em (e=10) with f|f<;>(try subst f)<;>(unfold zg4; exact goD)⟩
instance (d:Str) (c:Int) (a:Int) (e:(UInt8→Option Bool)) {g:UInt8→Bool} [∀b,T (e b) True (fun r=>r=g b)]:T (zkL d c a e) (d.length<1000000000∧1≤c∧0≤a∧a≤9223372036854775807) (fun r=>0≤r.1∧r.1≤a∧(c=10→g=zcj→dgs d=true→d≠[]→dvI 0 d≤a→r=(dvI 0 d,0))):=⟨by unfold zkL; exact goD⟩
instance (b:Str) (a:Int):T (zdP b a) (b.length<1000000000∧0≤a∧a≤9223372036854775807) (fun r=>0≤r.1∧r.1≤a∧(dgs b=true→b≠[]→dvI 0 b≤a→r=(dvI 0 b,0))):=⟨by unfold zdP; exact goA⟩
instance (b:Int) (a:Int):T (zkM b a) ((a=10∨a=16∧b<1048576)∧b≤9223372036854775807) (fun r=>r.length≤21∧(a=10→if 0≤b then r=Go.Lib.decDigits b.toNat else r=[])):=⟨by unfold zkM; exact goA⟩
instance (a:Int):T (zdk a) (a≤9223372036854775807) (fun r=>r.length≤21∧if 0≤a then r=Go.Lib.decDigits a.toNat else r=[]):=⟨by unfold zdk; exact goA⟩
instance (b:Str) (a:Int):T (zb4 b a) (b.length<1000000000∧0≤a∧a≤9223372036854775807) (fun r=>r=true↔zhw b a):=⟨by unfold zb4; exact goA⟩
instance (s:Str):T (zbM s) (s.length<1000000000) (fun r=>r=true↔zmR s):=⟨fun h=>by
 have g:∀x∈zy 46 s, ∃b,zb4 x 255=some b∧(b=true↔zhw x 255):=fun x c =>
  (inferInstance:T (zb4 x 255) _ _).ok (by have:=(zxH 46 s).2 x c; omega)
 have key:∀l:List Str,(∀x∈l, ∃b,zb4 x 255=some b∧(b=true↔zhw x 255))→∃bs,l.mapM (fun x=>zb4 x 255)=some bs∧bs.length=l.length∧(bs.all id=true↔∀x∈l,zhw x 255):=by
  intro l d
  induction l with
  | nil=>exact ⟨[],rfl,rfl,by simp⟩
  | cons x l f =>
   obtain ⟨bs,e,h1,h2⟩:=f fun x c=>d x (List.mem_cons_of_mem _ c);obtain ⟨b,eb,i⟩:=d x List.mem_cons_self;exact ⟨b::bs,by simp [List.mapM_cons,e,eb],by simp [h1],by simp [i, ← h2]⟩
 obtain ⟨bs,e,h1,h2⟩:=key _ g;refine ⟨_,by rw [zbM,if_pos h,e]; rfl,?_⟩;show _=true↔_;rw [Bool.and_eq_true,h2,decide_eq_true_eq,h1];unfold zmR;constructor
 ·rintro ⟨a,b⟩; exact ⟨by omega,a⟩
 ·rintro ⟨a,b⟩; exact ⟨b,by omega⟩⟩
instance (b:UInt8):T (zek b) True (fun r=>r=zlL b):=bt (by decide +kernel) b
end Go.Dm
end
section
namespace Go.Dm
instance (e:Bool) (c:List Str) (b:Int) (n:Nat) (d:Int) (a:Int):T (zbj e c b n d a) (Sm c∧b=c.length∧0≤a∧a≤b∧b<a+n∧0≤d∧d≤2*a) (fun r => -1≤r∧r≤2*c.length∧(∀k,Grp e (dr c a) k→r=d+k)∧(0≤r→zIp e (dr c a))):=by
 induction n generalizing d a
 ·exact ⟨goz⟩
 exact ⟨by unfold zbj zeA zez; exact goA2⟩
instance (b:Str) (a:Bool):T (ze6 b a) (b.length<1000000000) (fun r => -1≤r∧r≤4000000000000∧(∀k,Grp a (spt b) k→r=k)∧(0≤r→zIp a (spt b))):=⟨by unfold ze6; exact goA2⟩
instance (a:Str):T (ziA a) (a.length<1000000000) (fun r=>r=true↔zvr a):=⟨by unfold ziA; exact goA2⟩
instance (a:Str):T (ziB a) (True) (fun r=>r=pct a∧(r=true→3≤a.length)):=⟨by unfold ziB; exact goQ⟩
instance (b:UInt8):T (zc7 b) True (fun r=>r=zrp b):=bt (by decide +kernel) b
instance (b:UInt8):T (zka b) True (fun r=>r=zE7 b):=bt (by decide +kernel) b
instance  (n:Nat) (a:Str):T (zc8 n a) (a.length<n∧a.length<1000000000) (fun r=>r=zjs a):=by
 induction n generalizing a
 ·exact ⟨goz⟩
 exact ⟨by unfold zc8; exact goQ⟩
instance (a:Str):T (zfD a) (a.length<1000000000) (fun r=>r=true↔a≠[]∧zjs a=true):=⟨by unfold zfD; exact goQ⟩
instance (a:Str):T (zmA a) (a.length<1000000000) (fun r=>r.1.Name.length≤a.length∧r.1.Port = -1∧(zrQ a↔r.2=true)∧(r.2=true→58∈a→∃m,a=m++[93])):=⟨by unfold zmA zf9; exact goA2⟩
theorem lib_w (s:Str) (b:UInt8):∀(n:Nat) (i:Int), -1≤i→i<s.length→i+1<n→i<1000000000 →
  ∃r,zbc s b n i=some r∧((r = -1∧b∉tk s (i+1))∨(0≤r∧r≤i∧dr s r=b::dr s (r+1)∧b∉sb s (r+1) (i+1)))
 | 0,i,h1,h2,j,_=>by omega
 | n + 1,i,h1,h2,j,m=>by
  unfold zbc
  by_cases h0:0≤i
  ·obtain ⟨x,e,f⟩:=(inferInstance:T (sAt s i) _ _).ok ⟨h0,h2⟩;have f:=f.2.2;rw [if_pos (by simpa using h0),e]
   by_cases g:x=b
   ·subst g;exact ⟨i,by simp,.inr ⟨h0,Int.le_refl _,f,by rw [zy1]; simp⟩⟩
   ·obtain ⟨r,k,h⟩:=lib_w s b n (i-1) (by omega) (by omega) (by omega) (by omega)
    have l:zbt i 1=some (i-1):=by simp [zbt,inI]; omega
    refine ⟨r,by simp [g,l,k],?_⟩;rw [Int.sub_add_cancel] at h
    rcases h with ⟨a,c⟩|⟨a,a2,c,d⟩
    ·left; refine ⟨a,?_⟩; rw [zy0 h0 f]; simp; exact ⟨c,fun e=>g e.symm⟩
    ·right; refine ⟨a,by omega,c,?_⟩
     rw [zI7 (by omega) (by omega:r+1≤i) (by omega:i≤i+1) (by omega),f]
     simp; exact ⟨d,fun e=>g e.symm⟩
  ·have hi:i = -1:=by omega
   subst hi;exact ⟨-1,by simp,.inl ⟨rfl,by rw [show (-1:Int)+1=0 from rfl,zxF]; simp⟩⟩
instance (f:Str) (g:UInt8):T (zbu f g) (f.length<1000000000) (fun r => -1≤r∧r<f.length∧(r = -1→g∉f)∧(0≤r→dr f r=g::dr f (r+1)∧g∉dr f (r+1))):=⟨fun h=>by
 obtain ⟨r,e,i⟩:=lib_w f g fuel ((f.length:Int)-1) (by omega) (by omega) (by unfold fuel; omega) (by omega)
 have j:zbt (f.length:Int) 1=some ((f.length:Int)-1):=by simp [zbt,inI]; omega
 rw [Int.sub_add_cancel,zI6 (Int.le_refl _),sb_e (Int.le_refl _)] at i
 rcases i with ⟨a,c⟩|⟨a,b,c,d⟩
 ·exact ⟨r,by rw [zbu,j]; exact e,by omega,by omega,fun _=>c,fun h=>by omega⟩
 ·exact ⟨r,by rw [zbu,j]; exact e,by omega,by omega,fun h=>by omega,fun _=>⟨c,d⟩⟩⟩
instance (a:Str) (b:UInt8):T (zc0 a b) (a.length<1000000000) (fun r => -1≤r∧r<a.length∧(r = -1→b∉a)∧(0≤r→dr a r=b::dr a (r+1)∧b∉dr a (r+1))):=⟨by unfold zc0; exact goA⟩
instance (a:Str):T (zcv a) (a.length<1000000000) (fun r=>r.1.Name.length≤a.length ∧ -1≤r.1.Port∧r.1.Port≤65535∧((zrQ a∨zuF a)↔r.2=0)∧(zuF a→0≤r.1.Port)∧(r.2=0∨r.2=27)):=⟨by unfold zcv; exact goA2⟩
instance (a:Str):T (zel a) (a.length<1000000000) (fun r=>r=zij a):=⟨by unfold zel; exact goN⟩
instance (b:Str) (a:Str):T (zbW b a) (b.length<1000000000∧a.length<1000000000∧a.all (fun c=>c.toNat<128)=true) (fun r=>r=zvQ a b):=⟨by unfold zbW; exact zDR⟩
end Go.Dm
end
