/- When the models come to something: printed by a program (wip/gen/yt.py) off the models and a table. No program in sight. -/
import Derived.Test.YtlehfmpjckapdaaGreatDoorTXU
import Derived.Test.YtlehfmpjckapdaaGreatDoorD0
import Derived.Test.YtlehfmpjckapdaaGreatDoorXC2
set_option linter.unusedVariables false
set_option linter.unusedSimpArgs false
set_option linter.unusedVariables false
set_option maxRecDepth 10000
set_option maxHeartbeats 2000000
section
namespace Go.Dm
instance (x_r:z0u) (x_v:zZR):T (zjw x_r x_v) (Cw x_r.Scanner) (fun r=>Cw r.2.2∧r.2.2.z0w=x_r.Scanner.z0w∧(r.1=true↔byP ((dr x_r.Scanner.z0w x_r.Scanner.zZ4).takeWhile nsp))∧r.2.1=⟨x_v.Proto,x_v.Version,(dr x_r.Scanner.z0w x_r.Scanner.zZ4).takeWhile nsp,x_v.Comment⟩∧dr r.2.2.z0w r.2.2.zZ4=(dr x_r.Scanner.z0w x_r.Scanner.zZ4).dropWhile nsp):=⟨by unfold zjw zeB; exact zDR⟩
instance (b:Str) (a:Str):T (zb2 b a) (True) (fun r=>r=a.isPrefixOf b∧(r=true→a.length≤b.length)):=⟨by unfold zb2; exact goP⟩
instance (b:Str) (a:Str):T (zeR b a) (True) (fun r=>r.1.length≤b.length):=⟨by unfold zeR; exact go1⟩
instance (b:Str) (a:Str):T (zdE b a) (True) (fun r=>r.1.length≤b.length):=⟨by unfold zdE; exact go1⟩
instance (b:Str) (a:Str):T (zc1 b a) (b.length<1000000000) (fun r=>r=true→a.length≤b.length):=⟨by unfold zc1; exact go1⟩
instance (b:Str) (a:Str):T (zeS b a) (b.length<1000000000) (fun r=>r.1.length≤b.length):=⟨by unfold zeS; exact go1⟩
instance (b:Str) (a:Str):T (zff b a) (b.length<1000000000) (fun r=>r.1.length≤b.length):=⟨by unfold zff; exact go1⟩
instance (b:UInt8):T (zhm b) True (fun r=>r=zok b):=bt (by decide +kernel) b
instance (b:UInt8):T (zbn b) True (fun r=>r=zE8 b):=bt (by decide +kernel) b
instance (a:Str) (n:Nat) (i3:Int) (i4:Int):T (zb9 a n i3 i4) (0≤i4∧i4≤a.length∧a.length<i4+n∧a.length<1000000000∧0≤i3∧i3≤i4) (fun r=>True):=by
 induction n generalizing i3 i4
 ·exact ⟨goz⟩
 exact ⟨by unfold zb9 ze7; exact go1⟩
instance (a:Str):T (zns a) (a.length<1000000000) (fun r=>True):=⟨by unfold zns; exact go1⟩
instance (x_r:z0u) (x_v:zZR):T (zfg x_r x_v) (Cw x_r.Scanner) (fun r=>r.2.1.By=x_v.By∧(dr x_r.Scanner.z0w x_r.Scanner.zZ4=[]→r=(true,x_v,x_r.Scanner))):=⟨by unfold zfg zbA; exact zDR⟩
instance (a:Str):T (ztz a) (a.length<1000000000) (fun r=>∀b,a=49::46::49::32::b→((r.2=0∧r.1=⟨[],[49,46,49],b,[]⟩)↔zzX b)):=⟨by unfold ztz; exact zDR⟩
instance (x_v:zZR):T (zn2 x_v) (x_v.By.length<100000000∧x_v=⟨[],[49,46,49],x_v.By,[]⟩) (fun r=>(zzX x_v.By→r.2=0)∧(¬ zzX x_v.By→r.2=2)):=⟨by unfold zn2 zmC zmB; exact zDR⟩
instance (a:Str):T (zkN a) (a.length<1000000000) (fun r=>r=true↔dnP a):=⟨by unfold zkN; exact zDR⟩
instance (d:List zZJ) (b:List zZJ) (c:Int) (n:Nat) (a:Int):T (zga d b c n a) (Swm b∧d=b∧c=b.length∧0≤a∧a≤c∧c<a+n) (fun r=>(zw8 (dr b a)→r=if 64<d.length then 3 else 0)∧(¬ zw8 (dr b a)→r=27)):=by
 induction n generalizing a
 ·exact ⟨goz⟩
 exact ⟨by unfold zga; exact zDR⟩
instance (a:List zZJ):T (zlZ a) (Swm a) (fun r=>(zw8 a→r=if 64<a.length then 3 else 0)∧(¬ zw8 a→r=27)):=⟨by unfold zlZ; exact zDR⟩
end Go.Dm
end
section
namespace Go.Dm
instance (b:UInt8):T (zg6 b) True (fun r=>r=zuG b):=bt (by decide +kernel) b
instance (a:Str):T (zl0 a) (a.length<1000000000) (fun r=>r=zvu a):=⟨by unfold zl0; exact zyd⟩
instance (b:Str) (a:Str):T (zbv b a) (True) (fun r=>r=a.isPrefixOf b∧(r=true→a.length≤b.length)):=⟨by unfold zbv; exact goP⟩
instance (a:Str) (b:Str):T (zh0 a b) (a.length<1000001001∧b.length<1000∧b.all (fun c=>c.toNat<128)=true) (fun r=>r=upt b a∧r.1.length≤a.length∧r.2.length≤a.length):=⟨by unfold zh0; exact zyd⟩
instance (a:Str) (v3:zZT):T (zg7 a v3) (a.length<1000000000∧Um v3) (fun r=>r=rf1 a v3∧Um r):=⟨by unfold zg7 zjx; exact zyd⟩
instance (a:Str) (v3:zZT):T (zg8 a v3) (a.length<1000000000∧Um v3) (fun r=>r=rf2 a v3∧Um r):=⟨by unfold zg8; exact zyd⟩
instance (a:Str) (v3:zZT):T (zg9 a v3) (a.length<1000000000∧Um v3) (fun r=>r=rf3 a v3∧Um r):=⟨by unfold zg9; exact zyd⟩
instance (a:Str):T (znt a) (a.length<1000000000) (fun r=>r=rf4 a∧Um r):=⟨by unfold znt zjy; exact zyd⟩
instance (b:UInt8):T (ziC b) True (fun r=>r=zAT b):=bt (by decide +kernel) b
instance (a:Str) (s1:Str) (n:Nat) (i5:Int):T (zcU a s1 n i5) (0≤i5∧i5≤a.length∧a.length<i5+n∧a.length<1000000000∧37∉s1) (fun r=>r=pqM s1 (dr a i5)):=by
 induction n generalizing i5
 ·exact ⟨goz⟩
 exact ⟨by unfold zcU zjz; exact goU3⟩
instance (b:Str) (a:Str):T (zgG b a) (b.length<1000000000∧37∉a) (fun r=>r=pqM a b):=⟨by unfold zgG; exact goU3⟩
instance (a:zZT):T (zoW a) (Um a) (fun r=>r=zvv a):=⟨by unfold zoW; exact zyd⟩
instance (a:Str):T (znu a) (a.length<1000000000) (fun r=>r.2=(if zFE a=true then 0 else 2)∧Um r.1):=⟨by unfold znu; exact zyd⟩
instance (a:Str):T (zh1 a) (a.length<1000000000) (fun r=>r=zFE a):=⟨by unfold zh1; exact zyd⟩
instance (d:List zZJ) (b:List zZJ) (c:Int) (n:Nat) (a:Int):T (zfh d b c n a) (Swm b∧d=b∧c=b.length∧0≤a∧a≤c∧c<a+n) (fun r=>(zwX (dr b a)→r=if 64<d.length then 3 else 0)∧(¬ zwX (dr b a)→r=2)):=by
 induction n generalizing a
 ·exact ⟨goz⟩
 exact ⟨by unfold zfh; exact zyd⟩
instance (a:List zZJ):T (zkO a) (Swm a) (fun r=>(zwX a→r=if 64<a.length then 3 else 0)∧(¬ zwX a→r=2)):=⟨by unfold zkO; exact zyd⟩
instance (x_env:zZI):T (zkb x_env) (x_env.By.length≤1000∧x_env.Host.length≤1000∧Swm x_env.Domains∧Swm x_env.Locations) (fun r=>r=stC x_env):=⟨by unfold zkb zkP zh2; exact zyd⟩
end Go.Dm
end
section
namespace Go.Dm
instance (x_f:zZn):T (ze8 x_f) (x_f.Name.length<1000000000∧x_f.Value.length<1000000000) (fun r=>r=0↔fokB x_f.Name x_f.Value=true):=⟨by unfold ze8; exact zIn⟩
instance (a:z0m):T (zqK a) (Gm a) (fun r=>r=true↔guaP a):=⟨by unfold zqK zl1; exact zIn⟩
instance (s:Str):T (zbF s) (s.length<4294967281) (fun r=>r=low s∧r.length=s.length):=⟨fun h=>by
 have e:∀b,zck b=some (zlJ b):=fun b=>by
  obtain ⟨r,e,a⟩:=(inferInstance:T (zck b) _ _).ok trivial;rw [e,a]
 have:∀s:Str,s.mapM zck=some (low s):=by
  intro s
  induction s with
  | nil=>rfl
  | cons b s c=>simp [List.mapM_cons,e,c,low]
 unfold zbF;rw [if_pos h]
 exact ⟨_,this s,rfl,by simp [low]⟩⟩
instance (b:List Str) (s1:Str) (c:Int) (n:Nat) (a:Int):T (za8 b s1 c n a) (c=b.length∧0≤a∧a≤c∧c<a+n∧b.length<1000000000000) (fun r => -1≤r∧r<b.length∧(0≤r↔s1∈dr b a)):=by
 induction n generalizing a
 ·exact ⟨goz⟩
 exact ⟨by unfold za8; exact goN⟩
instance (a:List Str) (b:Str):T (zca a b) (a.length<1000000000000) (fun r => -1≤r∧r<a.length∧(0≤r↔b∈a)):=⟨by unfold zca; exact goN⟩
instance (a:List Str) (b:Str):T (zU a b) (a.length<1000000000000) (fun r=>r=decide (b∈a)):=⟨by unfold zU; exact goN⟩
instance (a:Str):T (ztB a) (a.length<1000000000) (fun r=>r=decide (low a∈zIr)):=⟨by unfold ztB; exact zIn⟩
instance (a:Str):T (ztC a) (a.length<1000000000) (fun r=>r=zCZ a):=⟨by unfold ztC; exact zIn⟩
instance (a:Str):T (zpX a) (a.length<1000000000) (fun r=>r=zJd a):=⟨by unfold zpX; exact zIn⟩
instance (b:List zZq) (c:Int) (n:Nat) (d:List Str) (a:Int):T (zfE b c n d a) (c=b.length∧0≤a∧a≤c∧c<a+n∧b.length≤10000∧d.length≤a) (fun r=>r=nmF d (dr b a)∧r.length≤b.length):=by
 induction n generalizing d a
 ·exact ⟨goz⟩
 exact ⟨by unfold zfE zl2; exact zIn⟩
instance (a:List zZq):T (zqL a) (a.length≤10000) (fun r=>r=nmF [] a∧r.length≤a.length):=⟨by unfold zqL; exact zIn⟩
instance (b:UInt8):T (zn4 b) True (fun r=>r=smB b):=bt (by decide +kernel) b
instance (b:UInt8):T (zn5 b) True (fun r=>r=plB b):=bt (by decide +kernel) b
instance (a:zZy) (b:Str):T (zcO a b) (Cw a∧b.length≤1000) (fun r=>Cw r.2∧r.2.z0w=a.z0w∧(if r.1=true then dr a.z0w a.zZ4=b++dr a.z0w r.2.zZ4∧r.2.zZ4=a.zZ4+b.length else r.2=a∧b.isPrefixOf (dr a.z0w a.zZ4)=false)):=⟨by unfold zcO; exact goR5⟩
instance (x_r:zZ7) (a:Str):T (zeC x_r a) (x_r.zZD.length<1000000000∧a.length<1000000000∧(∀p∈x_r.zZD,p.Text.length<1000000000)) (fun r=>r.Scanner=x_r.Scanner∧r.zZD=adT x_r.zZD a∧r.zZD.length≤x_r.zZD.length+1∧∀p∈r.zZD,p.Text.length≤a.length∨∃q∈x_r.zZD,p.Text.length≤q.Text.length+a.length):=⟨by unfold zeC zeT; exact goR2⟩
end Go.Dm
end
section
namespace Go.Dm
instance (x_r:zZ7):T (zfN x_r) (Cw x_r.Scanner∧x_r.zZD.length≤x_r.Scanner.zZ4∧(∀p∈x_r.zZD,p.Text.length≤x_r.Scanner.zZ4)) (fun r=>Cw r.2.Scanner∧r.2.Scanner.z0w=x_r.Scanner.z0w∧x_r.Scanner.zZ4≤r.2.Scanner.zZ4∧r.2.zZD.length≤x_r.zZD.length+1∧(∀p∈r.2.zZD,p.Text.length≤r.2.Scanner.zZ4)∧∀l,PRn x_r.zZD (dr x_r.Scanner.z0w x_r.Scanner.zZ4) l↔(r.1=true∧PR r.2.zZD (dr r.2.Scanner.z0w r.2.Scanner.zZ4) l)):=⟨by unfold zfN zd5 zd4; exact goR2⟩
instance (x_r:zZ7):T (zgH x_r) (Rt x_r∧x_r.Scanner.zZ4<x_r.Scanner.z0w.length) (fun r=>(r.1=true→Rt r.2∧r.2.Scanner.z0w=x_r.Scanner.z0w∧x_r.Scanner.zZ4<r.2.Scanner.zZ4)∧∀l,PR x_r.zZD (dr x_r.Scanner.z0w x_r.Scanner.zZ4) l↔(r.1=true∧PR r.2.zZD (dr r.2.Scanner.z0w r.2.Scanner.zZ4) l)):=⟨by unfold zgH; exact goR2⟩
instance  (n:Nat) (v4:zZ7):T (zje n v4) (Rt v4∧v4.Scanner.z0w.length<v4.Scanner.zZ4+n) (fun r=>r.1.length≤32∧∀l,r=(l,0)↔PR v4.zZD (dr v4.Scanner.z0w v4.Scanner.zZ4) l∧l.length≤32):=by
 induction n generalizing v4
 ·exact ⟨goz⟩
 exact ⟨by unfold zje; exact goR2⟩
instance (a:Str):T (zqM a) (a.length<1000000000) (fun r=>r.1.length≤32∧∀l,r=(l,0)↔PR [] a l∧l.length≤32):=⟨by unfold zqM; exact goR2⟩
instance (c:List zZq) (d:List zZq) (b:Int) (n:Nat) (a:Int):T (zaO c d b n a) (b=c.length∧b=d.length∧0≤a∧a≤b∧b<a+n∧c.length<1000000000000) (fun r=>r=true↔dr c a=dr d a):=by
 induction n generalizing a
 ·exact ⟨goz⟩
 exact ⟨by unfold zaO; exact goR5⟩
instance (a:List zZq) (b:List zZq):T (zbw a b) (a.length<1000000000000) (fun r=>r=true↔a=b):=⟨by unfold zbw; exact goR2⟩
instance (e:List zZq) (c:List zZq) (b:Int) (n:Nat) (d:List Str) (a:Int):T (zd6 e c b n d a) (Tp c∧e.length<1000000000000∧b=c.length∧0≤a∧a≤b∧b<a+n∧d.length≤3*a∧sl d≤a*120000) (fun r=>(r.2=0↔zA3 e (Go.Lib.join d []++prA (dr c a)))∧(r.2=0∨r.2=2)):=by
 induction n generalizing d a
 ·exact ⟨goz⟩
 exact ⟨by unfold zd6 ziD; exact zGq⟩
instance (a:List zZq):T (ztD a) (Tp a) (fun r=>(r.2=0↔zA3 a (prA a))∧(r.2=0∨r.2=2)):=⟨by unfold ztD; exact zGq⟩
instance (d:List zZq) (e:List Str) (c:List Str) (b:Int) (n:Nat) (a:Int):T (zjf d e c b n a) (Tp d∧e.length<1000000000000∧b=c.length∧0≤a∧a≤b∧b<a+n∧c.length<1000000000000) (fun r=>r=true↔zFi e (dr c a)∧zA3 d (prA d)):=by
 induction n generalizing a
 ·exact ⟨goz⟩
 exact ⟨by unfold zjf; exact zGq⟩
instance (a:Int) (b:List zZq):T (zqN a b) (Tp b) (fun r=>r=true↔parP a b):=⟨by unfold zqN zl3; exact zGq⟩
instance (a:zZu):T (zv1 a) (Rm a) (fun r=>r=true↔actP a):=⟨by unfold zv1 zoX; exact zGq⟩
instance (a:zZu):T (zqO a) (Rm a) (fun r=>(zHu a→r=0)∧(¬ zHu a→r=9)):=⟨by unfold zqO; exact zGq⟩
instance (c:List zZu) (a:List zZu) (b:Int) (n:Nat) (i9:Int):T (zh4 c a b n i9) (Rl a∧c=a∧b=a.length∧0≤i9∧i9≤b∧b<i9+n) (fun r=>(zom (dr a i9)→r.2=if 64<c.length then 3 else 0)∧(¬ zom (dr a i9)→r.2=9)):=by
 induction n generalizing i9
 ·exact ⟨goz⟩
 exact ⟨by unfold zh4; exact zGq⟩
instance (a:List zZu):T (zh5 a) (Rl a) (fun r=>(zom a→r.2=if 64<a.length then 3 else 0)∧(¬ zom a→r.2=9)):=⟨by unfold zh5; exact zGq⟩
end Go.Dm
end
section
namespace Go.Dm
variable {l:List zZn} {G:Prop} {k:Nat}
theorem gu (h:G:=by
 (with_reducible repeat' first|intro _|refine And.intro ?_ ?_|refine Wf ?_ ?_|refine Wi ?_ ?_|refine Ws ?_|refine Wc ?_ ?_|refine Wo ?_ ?_|refine Wk ?_|refine We ?_ ?_)
 all_goals (try simp only [List.length_cons,List.length_nil])
 all_goals grind [fuel,zb5,zcW,zbg,zaF,zfK,Sm,Ss,Fv,Fm,Cw,Pw,Tm,Swm,Um,Ac,Km,Gm,Pm,Rt,Tp,Rm,Rl,Om,Ol,UInt8.toNat_lt]):G:=h
theorem gu1 (h:G:=by
 (with_reducible repeat' first|intro _|refine And.intro ?_ ?_|refine Wf ?_ ?_|refine Wi ?_ ?_|refine Ws ?_|refine Wc ?_ ?_|refine Wo ?_ ?_|refine Wk ?_|refine We ?_ ?_)
 all_goals (try simp only [List.length_cons,List.length_nil])
 all_goals grind (gen:=12) (ematch:=12) [fuel,zb5,zcW,zbg,zaF,zfK,Sm,Ss,Fv,Fm,Cw,Pw,Tm,Swm,Um,Ac,Km,Gm,Pm,Rt,Tp,Rm,Rl,Om,Ol,UInt8.toNat_lt]):G:=h
theorem gu2 (h:G:=by
 (with_reducible repeat' first|intro _|refine And.intro ?_ ?_|refine Wf ?_ ?_|refine Wi ?_ ?_|refine Ws ?_|refine Wc ?_ ?_|refine Wo ?_ ?_|refine Wk ?_|refine We ?_ ?_)
 all_goals (try simp only [List.length_cons,List.length_nil])
 all_goals grind (gen:=20) (ematch:=20) (instances:=5000) [fuel,zb5,zcW,zbg,zaF,zfK,Sm,Ss,Fv,Fm,Cw,Pw,Tm,Swm,Um,Ac,Km,Gm,Pm,Rt,Tp,Rm,Rl,Om,Ol,UInt8.toNat_lt]):G:=h
theorem zPO:∀s∈zIr,s.length≤20:=by decide +kernel
@[grind →] theorem hopN_le {s:Str} (h:s∈zIr):s.length≤20:=zPO s h
def Vb (k:Nat) (l:List zZn):Prop:=∀f∈l,f.Value.length≤k
theorem Vb_n (k:Nat):Vb k []:=fun f a=>by cases a
theorem zNh {a v:Str} (h:Vb k l) (c:v.length≤k):Vb k (l++[⟨a,v⟩]):=fun f b=>by
 simp only [List.mem_append,List.mem_singleton] at b
 rcases b with b|rfl
 ·exact h f b
 ·exact c
theorem Vb_set {i:Int} {f:zZn} (h:Vb k l) (a:f.Value.length≤k):Vb k (l.set i.toNat f):=fun g b=>by
 rcases List.mem_or_eq_of_mem_set b with e|e
 ·exact h g e
 ·exact e▸a
theorem Vb_m {f:zZn} (h:Vb k l) (a:f∈l):f.Value.length≤k:=h f a
theorem Vb_i (h:∀f∈l,f.Value.length≤k):Vb k l:=h
theorem zyZ (h:G:=by
 (with_reducible repeat' first|intro _|refine And.intro ?_ ?_|refine Wf ?_ ?_|refine Wi ?_ ?_|refine Ws ?_|refine Wc ?_ ?_|refine Wo ?_ ?_|refine Wk ?_|refine We ?_ ?_)
 all_goals (try simp only [List.length_cons,List.length_nil])
 all_goals grind (gen:=12) (ematch:=12) [Vb_n,zNh,Vb_set, → Vb_m,Vb_i,fuel,zb5,zcW,zbg,zaF,zfK,Sm,Ss,Fv,Fm,Cw,Pw,Tm,Swm,Um,Ac,Km,Gm,Pm,Rt,Tp,Rm,Rl,Om,Ol,UInt8.toNat_lt]):G:=h
theorem zCA (h:G:=by
 (with_reducible repeat' first|intro _|refine And.intro ?_ ?_|refine Wf ?_ ?_|refine Wi ?_ ?_|refine Ws ?_|refine Wc ?_ ?_|refine Wo ?_ ?_|refine Wk ?_|refine We ?_ ?_)
 all_goals (try simp only [List.length_cons,List.length_nil])
 all_goals grind (gen:=12) (ematch:=12) [fuel,zb5,zcW,zbg,zaF,zfK,Sm,Ss,Fv,Fm,Cw,Pw,Tm,Swm,Um,Ac,Km,Gm,Pm,Rt,Tp,Rm,Rl,Om,Ol,UInt8.toNat_lt]):G:=h
end Go.Dm
end
section
namespace Go.Dm
instance (l:List zZJ):T (zh6 l) (l.length≤1000000) (fun r=>r=l):=⟨by unfold zh6; exact gu⟩
instance (l:List zZq):T (zgb l) (l.length≤1000000) (fun r=>r=l):=⟨by unfold zgb; exact gu⟩
end Go.Dm
end
section
namespace Go.Dm
instance (l:List zZn):T (zha l) (l.length≤1000000) (fun r=>r=l):=⟨by unfold zha; exact gu⟩
instance (a:List zZn):T (zfP a) (Fm a) (fun r=>r.z0g=a):=⟨by unfold zfP; exact gu⟩
instance (a:zZZ):T (zcb a) (Fm a.z0g) (fun r=>r=a.z0g):=⟨by unfold zcb; exact gu⟩
instance (a:Str) (b:Str):T (zbX a b) (a.length<4294967281∧b.length<4294967281) (fun r=>True):=⟨by unfold zbX; exact gu⟩
instance (s1:Str) (d:List zZn) (b:Int) (n:Nat) (c:List Str) (a:Int):T (zdF s1 d b n c a) (s1.length<1000000000∧Fm d∧b=d.length∧0≤a∧a≤b∧b<a+n∧c.length≤a∧∀s∈c,s.length≤70000000) (fun r=>Ss r):=by
 induction n generalizing c a
 ·exact ⟨goz⟩
 exact ⟨by unfold zdF; exact gu⟩
instance (b:zZZ) (a:Str):T (zcz b a) (a.length<1000000000∧Fm b.z0g) (fun r=>Ss r):=⟨by unfold zcz; exact gu⟩
instance (b:zZy) (a:Int):T (zfQ b a) (Cw b) (fun r=>Cw r.2∧r.2.z0w=b.z0w∧r.2.zZ4≤b.zZ4∧(0≤a→a≤b.zZ4→r.2.zZ4=a)):=⟨by unfold zfQ; exact gu⟩
instance (x_p:zZM) (a:Int):T (zc2 x_p a) (Cw x_p.Scanner∧x_p.z0w=x_p.Scanner.z0w∧0≤x_p.z0C∧x_p.z0C≤a∧a≤x_p.z0w.length∧x_p.zZD.length<1000000000) (fun r=>r.Scanner=x_p.Scanner∧r.z0w=x_p.z0w∧r.z0C=x_p.Scanner.zZ4∧r.zZD.length≤x_p.zZD.length+1∧∀s∈r.zZD,s∈x_p.zZD∨s.length≤x_p.z0w.length):=⟨by unfold zc2 zdm; exact gu⟩
instance  (n:Nat) (vp0:zZM) (i3:Int):T (zaa n vp0 i3) (Cw vp0.Scanner∧vp0.Scanner.z0w.length<vp0.Scanner.zZ4+n∧0≤i3∧i3≤vp0.Scanner.zZ4+1) (fun r=>Cw r.2.Scanner∧r.2.Scanner.z0w=vp0.Scanner.z0w∧vp0.Scanner.zZ4≤r.2.Scanner.zZ4∧r.2.zZD=vp0.zZD∧r.2.z0C=vp0.z0C∧r.2.z0w=vp0.z0w):=by
 induction n generalizing vp0 i3
 ·exact ⟨goz⟩
 exact ⟨by unfold zaa; exact gu⟩
instance (x_p:zZM):T (zcX x_p) (Cw x_p.Scanner) (fun r=>Cw r.2.Scanner∧r.2.Scanner.z0w=x_p.Scanner.z0w∧x_p.Scanner.zZ4≤r.2.Scanner.zZ4∧r.2.zZD=x_p.zZD∧r.2.z0C=x_p.z0C∧r.2.z0w=x_p.z0w):=⟨by unfold zcX; exact gu⟩
instance (i4:Int) (n:Nat) (v5:z0s) (a:Bool):T (zc9 i4 n v5 a) (Cw v5.Scanner∧0≤i4∧i4≤v5.Scanner.zZ4∧v5.zZD.length≤v5.Scanner.zZ4∧v5.Scanner.z0w.length<v5.Scanner.zZ4+n∧(a=true→v5.Scanner.z0w.length+1<v5.Scanner.zZ4+n)) (fun r=>Cw r.2.2∧r.2.2.z0w=v5.Scanner.z0w∧i4≤r.2.2.zZ4∧(r.2.1=true→a=true∧v5.Scanner.zZ4≤r.2.2.zZ4)∧r.1.length≤v5.Scanner.z0w.length):=by
 induction n generalizing v5 a
 ·exact ⟨goz⟩
 exact ⟨by unfold zc9 ziF; exact gu⟩
instance (a:zZy):T (zjg a) (Cw a) (fun r=>Cw r.2.2∧r.2.2.z0w=a.z0w∧a.zZ4≤r.2.2.zZ4∧(r.2.1=true→a.zZ4<r.2.2.zZ4)∧r.1.length≤a.z0w.length):=⟨by unfold zjg; exact gu⟩
instance (x_p:zZM):T (zd7 x_p) (Pw x_p∧x_p.Scanner.zZ4<x_p.Scanner.z0w.length) (fun r=>r.1=true→Pw r.2∧r.2.Scanner.z0w=x_p.Scanner.z0w∧x_p.Scanner.zZ4<r.2.Scanner.zZ4):=⟨by unfold zd7; exact gu⟩
instance (a:Str) (n:Nat) (v4:zZM):T (zhb a n v4) (Pw v4∧v4.Scanner.z0w=a∧a.length<v4.Scanner.zZ4+n) (fun r=>r.1.length≤a.length+1∧∀s∈r.1,s.length≤a.length):=by
 induction n generalizing v4
 ·exact ⟨goz⟩
 exact ⟨by unfold zhb; exact gu⟩
instance (a:Str):T (zkR a) (a.length<1000000000) (fun r=>r.1.length≤a.length+1∧∀s∈r.1,s.length≤a.length):=⟨by unfold zkR; exact gu⟩
instance {P:(List Str × Int)→Prop} (g:List Str→Int→Option (List Str × Int)) (f:List Str) (e:List Str) (b:Int) (c:Int) (n:Nat) (a:Int):K (zge g f e b c n a) P ((Sm e∧c=e.length∧0≤a∧a≤c∧c<a+n∧f.length+e.length≤4000000000000∧0≤b∧b≤10000∧P ([],2))∧(∀l i,l=f++e∧i=b+1→W (g l i) P)):=by
 induction n generalizing a
 ·exact ⟨goz⟩
 exact ⟨fun ⟨h,d⟩=>by have d:=fun a0 j=>K.mk (d a0 j); unfold zge; exact gu⟩
instance (c:List Str) (b:Int) (n:Nat) (d:List Str) (a:Int):T (zer c b n d a) (Ss c∧b=c.length∧0≤a∧a≤b∧b<a+n∧d.length≤a*70000001∧∀s∈d,s.length≤70000000) (fun r=>r.1.length≤b*70000001∧∀s∈r.1,s.length≤70000000):=by
 induction n generalizing d a
 ·exact ⟨goz⟩
 exact ⟨by unfold zer; exact gu⟩
instance (a:List Str):T (zhn a) (Ss a) (fun r=>r.1.length≤a.length*70000001∧∀s∈r.1,s.length≤70000000):=⟨by unfold zhn; exact gu⟩
instance (b:z0x) (a:List Str):T (zdw b a) (Ss a) (fun r=>r.1.N=0):=⟨by unfold zdw; exact gu2⟩
instance {P:(zZw × Int × zZZ)→Prop} (k:Int→Int→Option (zZw × Int × zZZ)) (f:zZZ) (d:Int) (g:List Str) (e:Int) (n:Nat) (j:Int) (c:Int):K (zai k f d g e n j c) P ((Sm g∧e=g.length∧0≤c∧c≤e∧e<c+n∧0≤d∧d≤10000 ∧ -1≤j∧j≤1099511627776∧P (⟨0,0⟩,28,f))∧(∀a b,b=d+1 ∧ -1≤a∧a≤1099511627776→W (k a b) P)):=by
 induction n generalizing j c
 ·exact ⟨goz⟩
 exact ⟨fun ⟨h,i⟩=>by have i:=fun a0 l=>K.mk (i a0 l); unfold zai zbo; exact gu2⟩
instance (d:zZZ) (c:List Str) (b:Int) (n:Nat) (e:Int) (a:Int):T (zaP d c b n e a) (Ss c∧b=c.length∧0≤a∧a≤b∧b<a+n ∧ -1≤e∧e≤1099511627776) (fun r=>0≤r.1.N∧r.1.N≤1099511627776):=by
 induction n generalizing e a
 ·exact ⟨goz⟩
 exact ⟨by unfold zaP; exact gu2⟩
instance (b:z0x) (a:List Str):T (zeU b a) (Ss a) (fun r=>0≤r.1.N∧r.1.N≤1099511627776):=⟨by unfold zeU; exact gu2⟩
instance (x_h:zZr) (a:Int):T (znN x_h a) (Fm x_h.Fields) (fun r=>0≤r.1.N∧r.1.N≤1099511627776):=⟨by unfold znN zkS; exact gu2⟩
instance (x_h:zZr):T (zeD x_h) (Fm x_h.Fields) (fun r=>0≤r.1.N∧r.1.N≤1099511627776):=⟨by unfold zeD; exact gu2⟩
instance {P:(List Str)→Prop} (g:List Str→Int→Option (List Str)) (b:Int) (c:List Str) (d:Int) (n:Nat) (f:List Str) (a:Int):K (zda g b c d n f a) P ((c.length≤70000001∧(∀s∈c,s.length≤70000000)∧d=c.length∧0≤a∧a≤d∧d<a+n∧f.length≤b*70000001+a∧(∀s∈f,s.length≤70000000)∧0≤b∧b≤10000)∧(∀l i,(l.length:Int)≤i*70000001∧i=b+1∧(∀s∈l,s.length≤70000000)→W (g l i) P)):=by
 induction n generalizing f a
 ·exact ⟨goz⟩
 exact ⟨fun ⟨h,e⟩=>by have e:=fun a0 j=>K.mk (e a0 j); unfold zda ziG; exact gu⟩
instance (c:List Str) (b:Int) (n:Nat) (d:List Str) (a:Int):T (zdb c b n d a) (Ss c∧b=c.length∧0≤a∧a≤b∧b<a+n∧d.length≤a*70000001∧∀s∈d,s.length≤70000000) (fun r=>r.length≤b*70000001∧∀s∈r,s.length≤70000000):=by
 induction n generalizing d a
 ·exact ⟨goz⟩
 exact ⟨by unfold zdb; exact gu⟩
instance (a:List zZn):T (zl4 a) (Fm a) (fun r=>r.length≤700000010000∧∀s∈r,s.length≤70000000):=⟨by unfold zl4; exact gu⟩
instance (b:Str) (a:Str):T (znO b a) (b.length<1000000000∧a.length<1000000000) (fun r=>True):=⟨by unfold znO; exact gu⟩
instance (c:List Str) (d:Str) (b:Int) (n:Nat) (a:Int):T (z7 c d b n a) (Sm c∧d.length<1000000000∧b=c.length∧0≤a∧a≤b∧b<a+n) (fun r => -1≤r∧r<c.length):=by
 induction n generalizing a
 ·exact ⟨goz⟩
 exact ⟨by unfold z7; exact gu⟩
instance (a:List Str) (b:Str):T (za4 a b) (Sm a∧b.length<1000000000) (fun r => -1≤r∧r<a.length):=⟨by unfold za4; exact gu⟩
instance (b:List Str) (a:Str):T (zaQ b a) (Sm b∧a.length<1000000000) (fun r=>True):=⟨by unfold zaQ; exact gu⟩
instance (b:Str) (a:List Str):T (zv2 b a) (Sm a∧b.length<1000000000) (fun r=>True):=⟨by unfold zv2; exact gu⟩
instance (x_f:zZn) (a:List Str):T (zdc x_f a) (Sm a∧x_f.Name.length<1000000000) (fun r=>True):=⟨by unfold zdc; exact gu⟩
instance (c:List zZn) (d:List Str) (b:Int) (n:Nat) (a:Int):T (zJ c d b n a) (Fm c∧Sm d∧b=c.length∧0≤a∧a≤b∧b<a+n) (fun r => -1≤r∧r<c.length):=by
 induction n generalizing a
 ·exact ⟨goz⟩
 exact ⟨by unfold zJ; exact gu⟩
instance (a:List zZn) (b:List Str):T (zau a b) (Fm a∧Sm b) (fun r => -1≤r∧r<a.length):=⟨by unfold zau; exact gu⟩
instance (c:List Str) (n:Nat) (a:List zZn) (i5:Int) (b:Int):T (zE c n a i5 b) (Fm a∧Sm c∧0≤i5∧i5≤b∧b≤a.length∧a.length<b+n) (fun r=>Fm r∧r.length≤a.length∧i5≤r.length∧∀f∈r,f∈a∨f=⟨[],[]⟩):=by
 induction n generalizing a i5 b
 ·exact ⟨goz⟩
 exact ⟨by unfold zE; exact gu⟩
instance (b:List zZn) (a:List Str):T (zZ b a) (Fm b∧Sm a) (fun r=>Fm r∧r.length≤b.length∧∀f∈r,f∈b∨f=⟨[],[]⟩):=⟨by unfold zZ; exact gu⟩
instance (b:zZZ) (a:List Str):T (zdd b a) (Fm b.z0g∧Sm a) (fun r=>Fm r.2.z0g∧0≤r.1∧r.2.z0g.length≤b.z0g.length∧∀f∈r.2.z0g,f∈b.z0g∨f=⟨[],[]⟩):=⟨by unfold zdd; exact gu⟩
end Go.Dm
end
section
namespace Go.Dm
instance (a:List zZn):T (ztE a) (Fm a) (fun r=>Fm r∧r.length≤a.length∧∀f∈r,f∈a∨f=⟨[],[]⟩):=⟨by unfold ztE; exact gu⟩
instance (a:Str) (s1:Str) (n:Nat) (i5:Int):T (zem a s1 n i5) (0≤i5∧i5≤a.length∧a.length<i5+n∧a.length<1000000000) (fun r=>True):=by
 induction n generalizing i5
 ·exact ⟨goz⟩
 exact ⟨by unfold zem zmD; exact gu⟩
instance (b:Str) (a:Str):T (zsE b a) (b.length<1000000000) (fun r=>True):=⟨by unfold zsE; exact gu⟩
instance (a:Str):T (zqQ a) (a.length<1000000000) (fun r=>True):=⟨by unfold zqQ; exact gu⟩
instance (a:Str):T (zoY a) (a.length<1000000000) (fun r=>True):=⟨by unfold zoY; exact gu⟩
instance (a:Str):T (zpY a) (a.length<1000000000) (fun r=>r.1.length≤a.length∧r.2.1.length≤a.length):=⟨by unfold zpY; exact gu⟩
instance (x_t:zZ9) (a:Str):T (zmE x_t a) (Tm x_t∧a.length≤10000000) (fun r=>Tm r.1∧r.1.Path.length≤x_t.Path.length+a.length+1∧r.1.Query.length≤x_t.Query.length+a.length+1):=⟨by unfold zmE zkU zkT; exact gu⟩
instance (a:Str):T (zjB a) (a.length≤10000000) (fun r=>Tm r.1∧r.1.Path.length≤a.length+1∧r.1.Query.length≤a.length+1):=⟨by unfold zjB zeE zgJ; exact gu⟩
instance (a:Str) (b:Str):T (ztF a b) (b.length≤10000000) (fun r=>Tm r.1∧r.1.Path.length≤b.length+1∧r.1.Query.length≤b.length+1):=⟨by unfold ztF; exact gu⟩
instance (a:Str) (b:Str):T (zkV a b) (b.length≤10000000) (fun r=>Tm r.1∧r.1.Path.length≤b.length+1∧r.1.Query.length≤b.length+1):=⟨by unfold zkV zjC; exact gu⟩
instance (b:Str) (a:Str) (c:Bool):T (zqR b a c) (b.length≤1000000000∧a.length≤1000000000) (fun r=>r.length≤b.length+a.length+1):=⟨by unfold zqR; exact gu⟩
instance (x_t:zZ9):T (zl5 x_t) (Tm x_t) (fun r=>r.length≤x_t.Path.length+x_t.Query.length+10):=⟨by unfold zl5 ziH; exact gu⟩
instance (x_h:zZ8):T (zl6 x_h) (x_h.Name.length≤70000000∧x_h.Port≤65535) (fun r=>r.1.length≤x_h.Name.length+100):=⟨by unfold zl6 ziJ ziI; exact gu⟩
instance (x_x:zZn) (a:Str):T (zho x_x a) (x_x.Name.length<1000000000∧a.length<1000000000) (fun r=>True):=⟨by unfold zho; exact gu⟩
instance (c:List zZn) (d:Str) (b:Int) (n:Nat) (a:Int):T (zF c d b n a) (Fm c∧d.length<1000000000∧b=c.length∧0≤a∧a≤b∧b<a+n) (fun r => -1≤r∧r<c.length):=by
 induction n generalizing a
 ·exact ⟨goz⟩
 exact ⟨by unfold zF; exact gu⟩
instance (a:List zZn) (b:Str):T (zap a b) (Fm a∧b.length<1000000000) (fun r => -1≤r∧r<a.length):=⟨by unfold zap; exact gu⟩
instance (b:zZZ) (a:Str):T (zkc b a) (Fm b.z0g∧a.length<1000000000) (fun r=>r.1.length≤70000000):=⟨by unfold zkc; exact gu⟩
instance (b:zZZ) (a:List zZn):T (zfF b a) (b.z0g.length+a.length≤1000000000000) (fun r=>r.z0g=b.z0g++a):=⟨by unfold zfF; exact gu⟩
theorem zK0 (a b:Str):zbX a b=zbX b a:=by
 unfold zbX;cases zbF a<;>cases zbF b<;>simp [BEq.comm]
theorem rem1 (f:zZn) (u:Str):zdc f [u]=zho f u:=by
 unfold zdc zho zv2 zaQ za4;obtain ⟨n,hn⟩:∃n,fuel=n+1+1:=⟨999999999999999998,rfl⟩;rw [hn];have c:=zK0 u f.Name
 cases h:zbX f.Name u with
 | none =>
  rw [h] at c;simp [z7,znO,lAt,c]
 | some b =>
  rw [h] at c;cases b<;>simp [z7,znO,lAt,c,zi,inI]
theorem idxR (l:List zZn) (u:Str) (k:Int):∀(n:Nat) (i:Int),zJ l [u] k n i=zF l u k n i
 | 0,_=>rfl
 | n+1,i=>by
  unfold zJ zF;simp only [rem1,idxR l u k n]
instance (c:zZZ) (a b:Str):T (zjh c a b) (Fm c.z0g∧a.length≤70000000∧b.length≤70000000) (fun r=>Fv r.z0g∧r.z0g.length≤c.z0g.length+1∧∀k,Vb k c.z0g→b.length≤k→Vb k r.z0g):=⟨fun ⟨h,hn,t⟩=>by
 obtain ⟨j,e,h1,h2⟩:=(inferInstance:T (zap c.z0g a) _ _).ok ⟨h,by omega⟩;unfold zjh;rw [e];show W (if _ then _ else _) _;refine Wi (fun s=>?_) fun s=>?_
 ·with_reducible refine Wc ?_ ?_
  ·have:=h.1;simp only [List.length_cons,List.length_nil]; omega
  ·intro r m;refine Ws ?_;rw [m]
   unfold Fm Fv at *
   refine ⟨fun f g=>?_,by simp,fun k o n=>zNh o n⟩;simp only [List.mem_append,List.mem_singleton] at g
   rcases g with g|rfl
   ·exact h.2 f g
   ·exact ⟨hn,t⟩
 ·have i:0≤j:=by simpa using s
  have w:zau c.z0g [a]=some j:=by
   rw [← e]; exact idxR _ _ _ _ _
  have u:Sm [a]:=by unfold Sm; simp; omega
  have B:=h.1;obtain ⟨d,z,l,x,p,q⟩:=(inferInstance:T (zE [a] fuel c.z0g j (j+1)) _ _).ok ⟨h,u,i,by omega,by omega,by unfold fuel; omega⟩
  have v:zZ c.z0g [a]=some d:=by
   unfold zZ;rw [w];show (if _ then _ else _)=_;rw [if_neg (by simp; omega),show zi j 1=some (j+1) by simp [zi,inI]; omega];exact z
  unfold zdd;rw [v];show W (((zbt _ _).bind fun A=>some (A,(⟨d⟩:zZZ))).bind _) _;rw [show zbt (c.z0g.length:Int) (d.length:Int)=some ((c.z0g.length:Int)-d.length) by simp [zbt,inI]; omega];show W ((zcK d j [⟨a,b⟩]).bind _) _;have y:=l.1
  with_reducible refine Wc ⟨rfl,i,p,by omega⟩ ?_
  intro r m;refine Ws ?_;refine ⟨fun f g=>?_,by show r.length≤_; omega,fun k o n f g=>?_⟩
  rotate_left
  ·rcases m.2 f g with g|g
   ·rcases q f g with g|rfl
    ·exact o f g
    ·exact Nat.zero_le _
   ·simp only [List.mem_singleton] at g;subst g; exact n
  rcases m.2 f g with g|g
  ·exact l.2 f g
  ·simp only [List.mem_singleton] at g;subst g
   exact ⟨hn,t⟩⟩
instance (x_w:z0o) (x_env:zZI) (x_t:zZ9):T (zfR x_w x_env x_t) (Fm x_w.Bag.z0g∧x_w.Bag.z0g.length≤9000∧x_env.Host.length≤70000000∧x_t.Host.Name.length≤10000000∧x_t.Host.Port≤65535) (fun r=>(r.z0Q=x_w.z0Q∧Fv r.Bag.z0g∧r.Bag.z0g.length≤x_w.Bag.z0g.length+2)∧(Vb 46000000 x_w.Bag.z0g→x_env.Host.length≤46000000→Vb 46000000 r.Bag.z0g)):=⟨by unfold zfR zd8; exact zyZ⟩
instance (x_w:z0o):T (zcP x_w) (Fm x_w.Bag.z0g) (fun r=>r.1.Kind=x_w.z0Q.Kind∧r.1.Method=x_w.z0Q.Method∧r.1.Target=x_w.z0Q.Target∧r.1.Code=x_w.z0Q.Code∧r.1.Reason=x_w.z0Q.Reason∧r.1.Minor=x_w.z0Q.Minor∧r.1.Fields=x_w.Bag.z0g∧r.2=0):=⟨by unfold zcP; exact gu1⟩
end Go.Dm
end
section
namespace Go.Dm
instance (b:Str) (a:Str):T (zfj b a) (b.length<1000000000) (fun r=>r=true→a.length≤b.length):=⟨by unfold zfj; exact gu⟩
instance (d:Str) (c:List zZJ) (b:Int) (n:Nat) (a:Int):T (zeF d c b n a) (d.length<1000000000∧Swm c∧b=c.length∧0≤a∧a≤b∧b<a+n) (fun r=>r.1.length≤d.length+1000):=by
 induction n generalizing a
 ·exact ⟨goz⟩
 exact ⟨by unfold zeF; exact gu1⟩
instance (a:Str) (b:List zZJ):T (zoZ a b) (a.length<1000000000∧Swm b) (fun r=>r.1.length≤a.length+1000):=⟨by unfold zoZ; exact gu1⟩
instance (a:Str) (b:List zZJ):T (ziK a b) (a.length≤900000000∧Swm b) (fun r=>r.length≤a.length+1000):=⟨by unfold ziK; exact gu1⟩
instance (b:UInt8):T (zhp b) True (fun r=>r=(gd zhp) b):=bt (by decide +kernel) b
instance (a:Str):T (zmF a) (a.length<1000000000) (fun r=>r.1.Name.length+r.1.Value.length≤a.length):=⟨by unfold zmF zkW; exact gu1⟩
instance (b:UInt8):T (ziL b) True (fun r=>r=(gd ziL) b):=bt (by decide +kernel) b
instance (a:Str):T (znv a) (a.length<1000000000) (fun r=>True):=⟨by unfold znv; exact gu1⟩
instance (c:List Str) (d:Int) (n:Nat) (v7:zZO) (b:Int):T (zhc c d n v7 b) (Sm c∧d=c.length∧0≤b∧b≤d∧d<b+n∧v7.Attrs.length≤b) (fun r=>r.1.Name.length≤v7.Name.length∧r.1.Value.length≤v7.Value.length∧r.1.Attrs.length≤c.length∧∀a∈r.1.Attrs,a∈v7.Attrs∨∃s∈c,a.Name.length+a.Value.length≤s.length):=by
 induction n generalizing v7 b
 ·exact ⟨goz⟩
 exact ⟨by unfold zhc; exact gu1⟩
instance (b:Str):T (zkX b) (b.length<1000000000) (fun r=>r.1.Name.length≤b.length∧r.1.Value.length≤b.length∧r.1.Attrs.length≤b.length+1∧∀a∈r.1.Attrs,a.Name.length+a.Value.length≤b.length):=⟨by unfold zkX; exact gu1⟩
instance (s1:Str) (v2:zZO) (n:Nat) (i5:Int):T (zh7 s1 v2 n i5) (-1≤i5∧i5<v2.Attrs.length∧i5+1<n∧s1.length<1000000000∧Ac v2) (fun r => -1≤r∧r<v2.Attrs.length):=by
 induction n generalizing i5
 ·exact ⟨goz⟩
 exact ⟨by unfold zh7; exact gu1⟩
instance (x_c:zZO) (a:Str):T (zmG x_c a) (a.length<1000000000∧Ac x_c) (fun r => -1≤r∧r<x_c.Attrs.length):=⟨by unfold zmG; exact gu1⟩
instance (x_c:zZO) (b:Str):T (zqS x_c b) (b.length<1000000000∧Ac x_c) (fun r=>r.1.length=0∨∃a∈x_c.Attrs,r.1=a.Value):=⟨by unfold zqS; exact gu1⟩
instance (b:Str) (a:Str):T (zd9 b a) (True) (fun r=>r.length≤b.length):=⟨by unfold zd9; exact gu⟩
instance (b:Str) (a:Str):T (zgK b a) (True) (fun r=>r.length≤b.length):=⟨by unfold zgK; exact gu⟩
instance (b:Str) (a:Str):T (zkY b a) (b.length<1000000000∧a.length<900000000) (fun r=>r=true→a.length≤b.length):=⟨by unfold zkY; exact gu⟩
instance (e:Str) (d:Str) (c:List zZJ) (b:Int) (n:Nat) (a:Int):T (zh8 e d c b n a) (d.length<1000000000∧Swm c∧b=c.length∧0≤a∧a≤b∧b<a+n) (fun r=>r.1.length≤e.length+d.length+1000):=by
 induction n generalizing a
 ·exact ⟨goz⟩
 exact ⟨by unfold zh8; exact gu1⟩
instance (a:Str) (b:List zZJ):T (zo0 a b) (a.length<1000000000∧Swm b) (fun r=>r.1.length≤2*a.length+1000):=⟨by unfold zo0; exact gu1⟩
instance (s1:Str) (s2:Str) (e:Int) (d:List z0d) (c:Int) (n:Nat) (v8:zZO) (b:Int):T (zdn s1 s2 e d c n v8 b) (s1.length≤7500∧s2.length≤7500∧c=d.length∧0≤b∧b≤c∧c<b+n∧d.length≤3001∧v8.Attrs.length≤b∧(∀a∈d,a.Name.length≤7500∧a.Value.length≤7500)∧Km v8) (fun r=>Km r):=by
 induction n generalizing v8 b
 ·exact ⟨goz⟩
 exact ⟨by unfold zdn zl8 zl7 zl9; exact gu1⟩
instance (x_c:zZO) (b:Str) (a:Str):T (zqT x_c b a) (b.length≤7500∧a.length≤7500∧Km x_c∧x_c.Attrs.length≤3001) (fun r=>Km r):=⟨by unfold zqT; exact gu1⟩
instance (c:List z0d) (d:List z0d) (b:Int) (n:Nat) (a:Int):T (zaR c d b n a) (b=c.length∧b=d.length∧0≤a∧a≤b∧b<a+n∧c.length<1000000000000) (fun r=>True):=by
 induction n generalizing a
 ·exact ⟨goz⟩
 exact ⟨by unfold zaR; exact gu⟩
instance (a:List z0d) (b:List z0d):T (zbx a b) (a.length<1000000000000) (fun r=>True):=⟨by unfold zbx; exact gu⟩
instance (x_a:zZO) (a:zZO):T (zo1 x_a a) (x_a.Attrs.length<1000000000000) (fun r=>True):=⟨by unfold zo1; exact gu1⟩
instance (e:zZO) (c:List z0d) (b:Int) (n:Nat) (d:List Str) (i20:Int):T (zgf e c b n d i20) (Km e∧b=c.length∧0≤i20∧i20≤b∧b<i20+n∧c.length≤3002∧d.length≤i20+1∧sl d≤(i20+1)*15001∧∀a∈c,a.Name.length≤7500∧a.Value.length≤7500) (fun r=>r.1.length≤46000000):=by
 induction n generalizing d i20
 ·exact ⟨goz⟩
 exact ⟨by unfold zgf; exact gu1⟩
instance (a:zZO):T (zo2 a) (Km a) (fun r=>r.1.length≤46000000):=⟨by unfold zo2; exact gu1⟩
instance (b:Str) (a:List zZJ):T (zjD b a) (b.length≤3000∧Swm a) (fun r=>r.length≤46000000):=⟨by unfold zjD; exact gu1⟩
instance (b:Int) (n:Nat) (v2:zZI) (c:List zZn) (a:Int):T (zce b n v2 c a) (b=c.length∧c.length≤10000∧0≤a∧a≤b∧b<a+n∧Swm v2.Domains∧Swm v2.Locations∧Fv c∧Vb 46000000 c∧∀k f,a≤k→lAt c k=some f→f.Value.length≤3000) (fun r=>(r.length=c.length∧Fv r)∧Vb 46000000 r):=by
 induction n generalizing v2 c a
 ·exact ⟨goz⟩
 exact ⟨by unfold zce zgL; exact zyZ⟩
instance (x_env:zZI) (a:List zZn):T (zjE x_env a) (Fm a∧Swm x_env.Domains∧Swm x_env.Locations∧∀f∈a,f.Value.length≤3000) (fun r=>(r.length=a.length∧Fv r)∧Vb 46000000 r):=⟨by unfold zjE; exact zyZ⟩
instance (x_a0:zZI) (x_a1:zZr):T (zo3 x_a0 x_a1) (Fm x_a1.Fields∧x_a1.Fields.length≤8000∧(∀f∈x_a1.Fields,f.Value.length≤3000)∧x_a1.Target.length≤9000000∧x_a0.Host.length≤46000000∧Swm x_a0.Domains∧Swm x_a0.Locations) (fun r=>(Fv r.1.Fields∧r.1.Fields.length≤x_a1.Fields.length+2)∧Vb 46000000 r.1.Fields∧r.1.Target.length≤2*x_a1.Target.length+20∧r.1.Method.length≤x_a1.Method.length∧r.1.Reason.length≤x_a1.Reason.length∧(r.1.Code=x_a1.Code∨r.1.Code=0)∧r.1.Minor≤1):=⟨by unfold zo3; exact zyZ⟩
end Go.Dm
end
