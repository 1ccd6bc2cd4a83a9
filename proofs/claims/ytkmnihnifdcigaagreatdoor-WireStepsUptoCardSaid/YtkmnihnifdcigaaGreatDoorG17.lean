/-
 When the models come to something: printed by a program (wip/gen/yt.py) off the models and a table. No program in sight.
 When the models come to something: printed by a program (wip/gen/yt.py) off the models and a table. No program in sight.
 When the models come to something: printed by a program (wip/gen/yt.py) off the models and a table. No program in sight.
 When the models come to something: printed by a program (wip/gen/yt.py) off the models and a table. No program in sight.
 When the models come to something: printed by a program (wip/gen/yt.py) off the models and a table. No program 
-/
import Derived.Test.YtkmnihnifdcigaaGreatDoorTXU
import Derived.Test.YtkmnihnifdcigaaGreatDoorXC1
set_option linter.unusedVariables false
set_option linter.unusedSimpArgs false
section
set_option linter.unusedVariables false
set_option maxRecDepth 10000
set_option maxHeartbeats 2000000
namespace Go.Dm
instance (t1:Bool) (l5:List Str) (i14:Int) (n:Nat) (i6:Int) (i15:Int):T (zaD t1 l5 i14 n i6 i15) (Sm l5∧i14=l5.length∧0≤i15∧i15≤i14∧i14<i15+n∧0≤i6∧i6≤2*i15) (fun r => -1≤r∧r≤2*l5.length∧(∀k,Grp t1 (dr l5 i15) k→r=i6+k)∧(0≤r→zJd t1 (dr l5 i15))):=by
 induction n generalizing i6 i15
 ·exact ⟨goz⟩
 exact ⟨by unfold zaD zed zec; exact goA2⟩

instance (x_s:Str) (x_last:Bool):T (zeI x_s x_last) (x_s.length<1000000000) (fun r => -1≤r∧r≤4000000000000∧(∀k,Grp x_last (spt x_s) k→r=k)∧(0≤r→zJd x_last (spt x_s))):=⟨by unfold zeI; exact goA2⟩

instance (x_s:Str):T (zh7 x_s) (x_s.length<1000000000) (fun r=>r=true↔zut x_s):=⟨by unfold zh7; exact goA2⟩

instance (x_s:Str):T (zh8 x_s) (True) (fun r=>r=pct x_s∧(r=true→3≤x_s.length)):=⟨by unfold zh8; exact goQ⟩

instance (b:UInt8):T (zcJ b) True (fun r=>r=zqD b):=bt (by decide +kernel) b

instance (b:UInt8):T (zjE b) True (fun r=>r=zDr b):=bt (by decide +kernel) b

instance  (n:Nat) (s0:Str):T (zcK n s0) (s0.length<n∧s0.length<1000000000) (fun r=>r=ziV s0):=by
 induction n generalizing s0
 ·exact ⟨goz⟩
 exact ⟨by unfold zcK; exact goQ⟩

instance (x_s:Str):T (ze8 x_s) (x_s.length<1000000000) (fun r=>r=true↔x_s≠[]∧ziV x_s=true):=⟨by unfold ze8; exact goQ⟩

instance (x_s:Str):T (zlQ x_s) (x_s.length<1000000000) (fun r=>r.1.Name.length≤x_s.length∧r.1.Port = -1∧(zoy x_s↔r.2=true)∧(r.2=true→58∈x_s→∃m,x_s=m++[93])):=⟨by unfold zlQ zfD; exact goA2⟩

theorem lib_w (s:Str) (b:UInt8):∀(n:Nat) (i:Int), -1≤i→i<s.length→i+1<n→i<1000000000 →
  ∃r,zap s b n i=some r∧((r = -1∧b∉tk s (i+1))∨(0≤r∧r≤i∧dr s r=b::dr s (r+1)∧b∉sb s (r+1) (i+1)))
 | 0,i,h1,h2,h3,_=>by omega
 | n + 1,i,h1,h2,h3,h4=>by
  unfold zap
  by_cases h0:0≤i
  ·obtain ⟨x,e,hx⟩:=(inferInstance:T (sAt s i) _ _).ok ⟨h0,h2⟩;have hx:=hx.2.2;rw [if_pos (by simpa using h0),e]
   by_cases hb:x=b
   ·subst hb;exact ⟨i,by simp, .inr ⟨h0,Int.le_refl _,hx,by rw [zx4]; simp⟩⟩
   ·obtain ⟨r,er,hr⟩:=lib_w s b n (i-1) (by omega) (by omega) (by omega) (by omega)
    have e1:za3 i 1=some (i-1):=by simp [za3,inI]; omega
    refine ⟨r,by simp [hb,e1,er],?_⟩;rw [Int.sub_add_cancel] at hr
    rcases hr with ⟨a,c⟩|⟨a,a2,c,d⟩
    ·left; refine ⟨a,?_⟩; rw [zx3 h0 hx]; simp; exact ⟨c,fun e=>hb e.symm⟩
    ·right; refine ⟨a,by omega,c,?_⟩
     rw [zH4 (by omega) (by omega:r+1≤i) (by omega:i≤i+1) (by omega),hx]
     simp; exact ⟨d,fun e=>hb e.symm⟩
  ·have hi:i = -1:=by omega
   subst hi;exact ⟨-1,by simp, .inl ⟨rfl,by rw [show (-1:Int)+1=0 from rfl,zwU]; simp⟩⟩

instance (x_s:Str) (x_c:UInt8):T (zaX x_s x_c) (x_s.length<1000000000) (fun r => -1≤r∧r<x_s.length∧(r = -1→x_c∉x_s)∧(0≤r→dr x_s r=x_c::dr x_s (r+1)∧x_c∉dr x_s (r+1))):=⟨fun h=>by
 obtain ⟨r,e,hr⟩:=lib_w x_s x_c fuel ((x_s.length:Int)-1) (by omega) (by omega) (by unfold fuel; omega) (by omega)
 have e1:za3 (x_s.length:Int) 1=some ((x_s.length:Int)-1):=by simp [za3,inI]; omega
 rw [Int.sub_add_cancel,zH3 (Int.le_refl _),sb_e (Int.le_refl _)] at hr
 rcases hr with ⟨a,c⟩|⟨a,b,c,d⟩
 ·exact ⟨r,by rw [zaX,e1]; exact e,by omega,by omega,fun _=>c,fun h=>by omega⟩
 ·exact ⟨r,by rw [zaX,e1]; exact e,by omega,by omega,fun h=>by omega,fun _=>⟨c,d⟩⟩⟩

instance (x_s:Str) (x_c:UInt8):T (zcE x_s x_c) (x_s.length<1000000000) (fun r => -1≤r∧r<x_s.length∧(r = -1→x_c∉x_s)∧(0≤r→dr x_s r=x_c::dr x_s (r+1)∧x_c∉dr x_s (r+1))):=⟨by unfold zcE; exact goA⟩

instance (x_s:Str):T (zb3 x_s) (x_s.length<1000000000) (fun r=>r.1.Name.length≤x_s.length ∧ -1≤r.1.Port∧r.1.Port≤65535∧((zoy x_s∨zpn x_s)↔r.2=0)∧(zpn x_s→0≤r.1.Port)∧(r.2=0∨r.2=27)):=⟨by unfold zb3; exact goA2⟩

instance (x_s:Str):T (zdY x_s) (x_s.length<1000000000) (fun r=>r=zfY x_s):=⟨by unfold zdY; exact goN⟩

instance (x_s:Str) (x_chars:Str):T (strings_ContainsAny x_s x_chars) (x_s.length<1000000000∧x_chars.length<1000000000∧x_chars.all (fun c=>c.toNat<128)=true) (fun r=>r=zvf x_chars x_s):=⟨by unfold strings_ContainsAny; exact zDe⟩

end Go.Dm
end
section
set_option linter.unusedVariables false
set_option maxRecDepth 10000
set_option maxHeartbeats 2000000
namespace Go.Dm
instance (x_r:zXG) (x_v:zW9):T (zi4 x_r x_v) (Cw x_r.Scanner) (fun r=>Cw r.2.2∧r.2.2.zXI=x_r.Scanner.zXI∧(r.1=true↔byP ((dr x_r.Scanner.zXI x_r.Scanner.zXj).takeWhile nsp))∧r.2.1=⟨x_v.Proto,x_v.Version,(dr x_r.Scanner.zXI x_r.Scanner.zXj).takeWhile nsp,x_v.Comment⟩∧dr r.2.2.zXI r.2.2.zXj=(dr x_r.Scanner.zXI x_r.Scanner.zXj).dropWhile nsp):=⟨by unfold zi4 zee; exact zDe⟩

instance (x_s:Str) (x_prefix:Str):T (stringslite_HasPrefix x_s x_prefix) (True) (fun r=>r=x_prefix.isPrefixOf x_s∧(r=true→x_prefix.length≤x_s.length)):=⟨by unfold stringslite_HasPrefix; exact goP⟩

instance (x_s:Str) (x_prefix:Str):T (stringslite_CutPrefix x_s x_prefix) (True) (fun r=>r.1.length≤x_s.length):=⟨by unfold stringslite_CutPrefix; exact go⟩

instance (x_s:Str) (x_prefix:Str):T (strings_CutPrefix x_s x_prefix) (True) (fun r=>r.1.length≤x_s.length):=⟨by unfold strings_CutPrefix; exact go⟩

instance (x_s:Str) (x_suffix:Str):T (stringslite_HasSuffix x_s x_suffix) (x_s.length<1000000000) (fun r=>r=true→x_suffix.length≤x_s.length):=⟨by unfold stringslite_HasSuffix; exact go⟩

instance (x_s:Str) (x_suffix:Str):T (stringslite_CutSuffix x_s x_suffix) (x_s.length<1000000000) (fun r=>r.1.length≤x_s.length):=⟨by unfold stringslite_CutSuffix; exact go⟩

instance (x_s:Str) (x_suffix:Str):T (strings_CutSuffix x_s x_suffix) (x_s.length<1000000000) (fun r=>r.1.length≤x_s.length):=⟨by unfold strings_CutSuffix; exact go⟩

instance (b:UInt8):T (zds b) True (fun r=>r=(gd zds) b):=bt (by decide +kernel) b

instance (b:UInt8):T (zg3 b) True (fun r=>r=znv b):=bt (by decide +kernel) b

instance (b:UInt8):T (zaS b) True (fun r=>r=zzx b):=bt (by decide +kernel) b

instance (s0:Str) (n:Nat) (i3:Int) (i4:Int):T (zbF s0 n i3 i4) (0≤i4∧i4≤s0.length∧s0.length<i4+n∧s0.length<1000000000∧0≤i3∧i3≤i4) (fun r=>True):=by
 induction n generalizing i3 i4
 ·exact ⟨goz⟩
 exact ⟨by unfold zbF zeJ; exact go⟩

instance (x_s:Str):T (zmN x_s) (x_s.length<1000000000) (fun r=>True):=⟨by unfold zmN; exact go⟩

instance (x_r:zXG) (x_v:zW9):T (zeP x_r x_v) (Cw x_r.Scanner) (fun r=>r.2.1.By=x_v.By∧(dr x_r.Scanner.zXI x_r.Scanner.zXj=[]→r=(true,x_v,x_r.Scanner))):=⟨by unfold zeP za4; exact zDe⟩

instance (x_s:Str):T (zth x_s) (x_s.length<1000000000) (fun r=>∀b,x_s=49::46::49::32::b→((r.2=0∧r.1=⟨[],[49,46,49],b,[]⟩)↔zzh b)):=⟨by unfold zth; exact zDe⟩

instance (x_v:zW9):T (zni x_v) (x_v.By.length<100000000∧x_v=⟨[],[49,46,49],x_v.By,[]⟩) (fun r=>(zzh x_v.By→r.2=0)∧(¬ zzh x_v.By→r.2=2)):=⟨by unfold zni zlS zlR; exact zDe⟩

instance (x_s:Str):T (zjZ x_s) (x_s.length<1000000000) (fun r=>r=true↔dnP x_s):=⟨by unfold zjZ; exact zDe⟩

instance (l0:List zW3) (l5:List zW3) (i6:Int) (n:Nat) (i7:Int):T (zfE l0 l5 i6 n i7) (Swm l5∧l0=l5∧i6=l5.length∧0≤i7∧i7≤i6∧i6<i7+n) (fun r=>(zwI (dr l5 i7)→r=if 64<l0.length then 3 else 0)∧(¬ zwI (dr l5 i7)→r=27)):=by
 induction n generalizing i7
 ·exact ⟨goz⟩
 exact ⟨by unfold zfE; exact zDe⟩

instance (x_l:List zW3):T (zli x_l) (Swm x_l) (fun r=>(zwI x_l→r=if 64<x_l.length then 3 else 0)∧(¬ zwI x_l→r=27)):=⟨by unfold zli; exact zDe⟩

end Go.Dm
end
section
set_option linter.unusedVariables false
set_option maxRecDepth 10000
set_option maxHeartbeats 2000000
namespace Go.Dm
instance (b:UInt8):T (zgJ b) True (fun r=>r=zuq b):=bt (by decide +kernel) b

instance (x_s:Str):T (zlj x_s) (x_s.length<1000000000) (fun r=>r=zvk x_s):=⟨by unfold zlj; exact zx2⟩

instance (x_s:Str) (x_prefix:Str):T (strings_HasPrefix x_s x_prefix) (True) (fun r=>r=x_prefix.isPrefixOf x_s∧(r=true→x_prefix.length≤x_s.length)):=⟨by unfold strings_HasPrefix; exact goP⟩

instance (x_s:Str) (x_l:Str):T (zhq x_s x_l) (x_s.length<1000001001∧x_l.length<1000∧x_l.all (fun c=>c.toNat<128)=true) (fun r=>r=upt x_l x_s∧r.1.length≤x_s.length∧r.2.length≤x_s.length):=⟨by unfold zhq; exact zx2⟩

instance (s0:Str) (v3:zXc):T (zgK s0 v3) (s0.length<1000000000∧Um v3) (fun r=>r=rf1 s0 v3∧Um r):=⟨by unfold zgK zi5; exact zx2⟩

instance (s0:Str) (v3:zXc):T (zgL s0 v3) (s0.length<1000000000∧Um v3) (fun r=>r=rf2 s0 v3∧Um r):=⟨by unfold zgL; exact zx2⟩

instance (s0:Str) (v3:zXc):T (zgM s0 v3) (s0.length<1000000000∧Um v3) (fun r=>r=rf3 s0 v3∧Um r):=⟨by unfold zgM; exact zx2⟩

instance (x_s:Str):T (zmO x_s) (x_s.length<1000000000) (fun r=>r=rf4 x_s∧Um r):=⟨by unfold zmO zi6; exact zx2⟩

instance (b:UInt8):T (zh9 b) True (fun r=>r=zzw b):=bt (by decide +kernel) b

instance (s0:Str) (s1:Str) (n:Nat) (i5:Int):T (zcr s0 s1 n i5) (0≤i5∧i5≤s0.length∧s0.length<i5+n∧s0.length<1000000000∧37∉s1) (fun r=>r=pqM s1 (dr s0 i5)):=by
 induction n generalizing i5
 ·exact ⟨goz⟩
 exact ⟨by unfold zcr zi7; exact goU3⟩

instance (x_s:Str) (x_more:Str):T (zgg x_s x_more) (x_s.length<1000000000∧37∉x_more) (fun r=>r=pqM x_more x_s):=⟨by unfold zgg; exact goU3⟩

instance (x_r:zXc):T (znY x_r) (Um x_r) (fun r=>r=zvl x_r):=⟨by unfold znY; exact zx2⟩

instance (x_s:Str):T (zmP x_s) (x_s.length<1000000000) (fun r=>r.2=(if zFM x_s=true then 0 else 2)∧Um r.1):=⟨by unfold zmP; exact zx2⟩

instance (x_s:Str):T (zhr x_s) (x_s.length<1000000000) (fun r=>r=zFM x_s):=⟨by unfold zhr; exact zx2⟩

instance (l0:List zW3) (l5:List zW3) (i6:Int) (n:Nat) (i7:Int):T (zeQ l0 l5 i6 n i7) (Swm l5∧l0=l5∧i6=l5.length∧0≤i7∧i7≤i6∧i6<i7+n) (fun r=>(zwL (dr l5 i7)→r=if 64<l0.length then 3 else 0)∧(¬ zwL (dr l5 i7)→r=2)):=by
 induction n generalizing i7
 ·exact ⟨goz⟩
 exact ⟨by unfold zeQ; exact zx2⟩

instance (x_l:List zW3):T (zj0 x_l) (Swm x_l) (fun r=>(zwL x_l→r=if 64<x_l.length then 3 else 0)∧(¬ zwL x_l→r=2)):=⟨by unfold zj0; exact zx2⟩

instance (x_env:zW2):T (zlT x_env) (x_env.By.length≤1000∧x_env.Host.length≤1000∧Swm x_env.Domains∧Swm x_env.Locations) (fun r=>r=stC x_env):=⟨by unfold zlT zj1 zhs; exact zx2⟩

end Go.Dm
end
section
set_option linter.unusedVariables false
set_option maxRecDepth 10000
set_option maxHeartbeats 2000000
namespace Go.Dm

instance (x_f:zWQ):T (zeK x_f) (x_f.Name.length<1000000000∧x_f.Value.length<1000000000) (fun r=>r=0↔fokB x_f.Name x_f.Value=true):=⟨by unfold zeK; exact zIH⟩

instance (x_g:zXx):T (zqc x_g) (Gm x_g) (fun r=>r=true↔guaP x_g):=⟨by unfold zqc zlk; exact zIH⟩

instance (s:Str):T (za6 s) (s.length<4294967281) (fun r=>r=low s∧r.length=s.length):=⟨fun h=>by
 have e:∀b,zbS b=some (zk1 b):=fun b=>by
  obtain ⟨r,e,hr⟩:=(inferInstance:T (zbS b) _ _).ok trivial;rw [e,hr]
 have:∀s:Str,s.mapM zbS=some (low s):=by
  intro s
  induction s with
  | nil=>rfl
  | cons b s ih=>simp [List.mapM_cons,e,ih,low]
 unfold za6;rw [if_pos h]
 exact ⟨_,this s,rfl,by simp [low]⟩⟩

instance (l0:List Str) (s1:Str) (i7:Int) (n:Nat) (i8:Int):T (zal l0 s1 i7 n i8) (i7=l0.length∧0≤i8∧i8≤i7∧i7<i8+n∧l0.length<1000000000000) (fun r => -1≤r∧r<l0.length∧(0≤r↔s1∈dr l0 i8)):=by
 induction n generalizing i8
 ·exact ⟨goz⟩
 exact ⟨by unfold zal; exact goN⟩

instance (x_s:List Str) (x_v:Str):T (zbG x_s x_v) (x_s.length<1000000000000) (fun r => -1≤r∧r<x_s.length∧(0≤r↔x_v∈x_s)):=⟨by unfold zbG; exact goN⟩

instance (x_s:List Str) (x_v:Str):T (zw x_s x_v) (x_s.length<1000000000000) (fun r=>r=decide (x_v∈x_s)):=⟨by unfold zw; exact goN⟩

instance (x_name:Str):T (ztj x_name) (x_name.length<1000000000) (fun r=>r=decide (low x_name∈zIm)):=⟨by unfold ztj; exact zIH⟩

instance (x_name:Str):T (ztk x_name) (x_name.length<1000000000) (fun r=>r=zCY x_name):=⟨by unfold ztk; exact zIH⟩

instance (x_name:Str):T (zph x_name) (x_name.length<1000000000) (fun r=>r=zIv x_name):=⟨by unfold zph; exact zIH⟩

instance (l6:List zWR) (i7:Int) (n:Nat) (l3:List Str) (i8:Int):T (ze9 l6 i7 n l3 i8) (i7=l6.length∧0≤i8∧i8≤i7∧i7<i8+n∧l6.length≤10000∧l3.length≤i8) (fun r=>r=nmF l3 (dr l6 i8)∧r.length≤l6.length):=by
 induction n generalizing l3 i8
 ·exact ⟨goz⟩
 exact ⟨by unfold ze9 zll; exact zIH⟩

instance (x_l:List zWR):T (zqd x_l) (x_l.length≤10000) (fun r=>r=nmF [] x_l∧r.length≤x_l.length):=⟨by unfold zqd; exact zIH⟩

instance (b:UInt8):T (znk b) True (fun r=>r=smB b):=bt (by decide +kernel) b

instance (b:UInt8):T (znl b) True (fun r=>r=plB b):=bt (by decide +kernel) b

instance (x_c:zWW) (x_t:Str):T (zck x_c x_t) (Cw x_c∧x_t.length≤1000) (fun r=>Cw r.2∧r.2.zXI=x_c.zXI∧(if r.1=true then dr x_c.zXI x_c.zXj=x_t++dr x_c.zXI r.2.zXj∧r.2.zXj=x_c.zXj+x_t.length else r.2=x_c∧x_t.isPrefixOf (dr x_c.zXI x_c.zXj)=false)):=⟨by unfold zck; exact goR5⟩

instance (x_r:zXl) (x_s:Str):T (zef x_r x_s) (x_r.zW8.length<1000000000∧x_s.length<1000000000∧(∀p∈x_r.zW8,p.Text.length<1000000000)) (fun r=>r.Scanner=x_r.Scanner∧r.zW8=adT x_r.zW8 x_s∧r.zW8.length≤x_r.zW8.length+1∧∀p∈r.zW8,p.Text.length≤x_s.length∨∃q∈x_r.zW8,p.Text.length≤q.Text.length+x_s.length):=⟨by unfold zef zev; exact goR2⟩

end Go.Dm
end
section
set_option linter.unusedVariables false
set_option maxRecDepth 10000
set_option maxHeartbeats 2000000
namespace Go.Dm
instance (x_r:zXl):T (zfp x_r) (Cw x_r.Scanner∧x_r.zW8.length≤x_r.Scanner.zXj∧(∀p∈x_r.zW8,p.Text.length≤x_r.Scanner.zXj)) (fun r=>Cw r.2.Scanner∧r.2.Scanner.zXI=x_r.Scanner.zXI∧x_r.Scanner.zXj≤r.2.Scanner.zXj∧r.2.zW8.length≤x_r.zW8.length+1∧(∀p∈r.2.zW8,p.Text.length≤r.2.Scanner.zXj)∧∀l,PRn x_r.zW8 (dr x_r.Scanner.zXI x_r.Scanner.zXj) l↔(r.1=true∧PR r.2.zW8 (dr r.2.Scanner.zXI r.2.Scanner.zXj) l)):=⟨by unfold zfp zdG zdF; exact goR2⟩

instance (x_r:zXl):T (zgh x_r) (Rt x_r∧x_r.Scanner.zXj<x_r.Scanner.zXI.length) (fun r=>(r.1=true→Rt r.2∧r.2.Scanner.zXI=x_r.Scanner.zXI∧x_r.Scanner.zXj<r.2.Scanner.zXj)∧∀l,PR x_r.zW8 (dr x_r.Scanner.zXI x_r.Scanner.zXj) l↔(r.1=true∧PR r.2.zW8 (dr r.2.Scanner.zXI r.2.Scanner.zXj) l)):=⟨by unfold zgh; exact goR2⟩

instance  (n:Nat) (v4:zXl):T (ziJ n v4) (Rt v4∧v4.Scanner.zXI.length<v4.Scanner.zXj+n) (fun r=>r.1.length≤32∧∀l,r=(l,0)↔PR v4.zW8 (dr v4.Scanner.zXI v4.Scanner.zXj) l∧l.length≤32):=by
 induction n generalizing v4
 ·exact ⟨goz⟩
 exact ⟨by unfold ziJ; exact goR2⟩

instance (x_s:Str):T (zqe x_s) (x_s.length<1000000000) (fun r=>r.1.length≤32∧∀l,r=(l,0)↔PR [] x_s l∧l.length≤32):=⟨by unfold zqe; exact goR2⟩

instance (l0:List zWR) (l1:List zWR) (i12:Int) (n:Nat) (i13:Int):T (zV l0 l1 i12 n i13) (i12=l0.length∧i12=l1.length∧0≤i13∧i13≤i12∧i12<i13+n∧l0.length<1000000000000) (fun r=>r=true↔dr l0 i13=dr l1 i13):=by
 induction n generalizing i13
 ·exact ⟨goz⟩
 exact ⟨by unfold zV; exact goR5⟩

instance (x_s1:List zWR) (x_s2:List zWR):T (zaY x_s1 x_s2) (x_s1.length<1000000000000) (fun r=>r=true↔x_s1=x_s2):=⟨by unfold zaY; exact goR2⟩

instance (l0:List zWR) (l10:List zWR) (i11:Int) (n:Nat) (l4:List Str) (i12:Int):T (zdH l0 l10 i11 n l4 i12) (Tp l10∧l0.length<1000000000000∧i11=l10.length∧0≤i12∧i12≤i11∧i11<i12+n∧l4.length≤3*i12∧sl l4≤i12*120000) (fun r=>(r.2=0↔zz2 l0 (Go.Lib.join l4 []++prA (dr l10 i12)))∧(r.2=0∨r.2=2)):=by
 induction n generalizing l4 i12
 ·exact ⟨goz⟩
 exact ⟨by unfold zdH zia; exact zGK⟩

instance (x_l:List zWR):T (ztl x_l) (Tp x_l) (fun r=>(r.2=0↔zz2 x_l (prA x_l))∧(r.2=0∨r.2=2)):=⟨by unfold ztl; exact zGK⟩

instance (l1:List zWR) (l5:List Str) (l13:List Str) (i14:Int) (n:Nat) (i15:Int):T (ziK l1 l5 l13 i14 n i15) (Tp l1∧l5.length<1000000000000∧i14=l13.length∧0≤i15∧i15≤i14∧i14<i15+n∧l13.length<1000000000000) (fun r=>r=true↔zDW l5 (dr l13 i15)∧zz2 l1 (prA l1)):=by
 induction n generalizing i15
 ·exact ⟨goz⟩
 exact ⟨by unfold ziK; exact zGK⟩

instance (x_side:Int) (x_l:List zWR):T (zqf x_side x_l) (Tp x_l) (fun r=>r=true↔parP x_side x_l):=⟨by unfold zqf zlm; exact zGK⟩

instance (x_r:zWU):T (zvu x_r) (Rm x_r) (fun r=>r=true↔actP x_r):=⟨by unfold zvu znZ; exact zGK⟩

instance (x_r:zWU):T (zqg x_r) (Rm x_r) (fun r=>(zGk x_r→r=0)∧(¬ zGk x_r→r=9)):=⟨by unfold zqg; exact zGK⟩

instance (l0:List zWU) (l7:List zWU) (i8:Int) (n:Nat) (i9:Int):T (zhu l0 l7 i8 n i9) (Rl l7∧l0=l7∧i8=l7.length∧0≤i9∧i9≤i8∧i8<i9+n) (fun r=>(zoC (dr l7 i9)→r.2=if 64<l0.length then 3 else 0)∧(¬ zoC (dr l7 i9)→r.2=9)):=by
 induction n generalizing i9
 ·exact ⟨goz⟩
 exact ⟨by unfold zhu; exact zGK⟩

instance (x_l:List zWU):T (zjF x_l) (Rl x_l) (fun r=>(zoC x_l→r.2=if 64<x_l.length then 3 else 0)∧(¬ zoC x_l→r.2=9)):=⟨by unfold zjF; exact zGK⟩

end Go.Dm
end
section
set_option linter.unusedVariables false
namespace Go.Dm
theorem gu {G:Prop} (h:G:=by
 (with_reducible repeat' first|intro _|refine And.intro ?_ ?_|refine Wf ?_ ?_|refine Wi ?_ ?_|refine Ws ?_|refine Wc ?_ ?_|refine Wo ?_ ?_|refine Wk ?_|refine We ?_ ?_)
 all_goals (try simp only [List.length_cons,List.length_nil])
 all_goals grind [fuel,zb0,zct,zau,zS,ze7,Sm,Ss,Fv,Fm,Cw,Pw,Tm,Swm,Um,Ac,Km,Gm,Pm,Rt,Tp,Rm,Rl,Om,Ol,UInt8.toNat_lt]):G:=h
theorem gu1 {G:Prop} (h:G:=by
 (with_reducible repeat' first|intro _|refine And.intro ?_ ?_|refine Wf ?_ ?_|refine Wi ?_ ?_|refine Ws ?_|refine Wc ?_ ?_|refine Wo ?_ ?_|refine Wk ?_|refine We ?_ ?_)
 all_goals (try simp only [List.length_cons,List.length_nil])
 all_goals grind (gen:=12) (ematch:=12) [fuel,zb0,zct,zau,zS,ze7,Sm,Ss,Fv,Fm,Cw,Pw,Tm,Swm,Um,Ac,Km,Gm,Pm,Rt,Tp,Rm,Rl,Om,Ol,UInt8.toNat_lt]):G:=h
theorem gu2 {G:Prop} (h:G:=by
 (with_reducible repeat' first|intro _|refine And.intro ?_ ?_|refine Wf ?_ ?_|refine Wi ?_ ?_|refine Ws ?_|refine Wc ?_ ?_|refine Wo ?_ ?_|refine Wk ?_|refine We ?_ ?_)
 all_goals (try simp only [List.length_cons,List.length_nil])
 all_goals grind (gen:=20) (ematch:=20) (instances:=5000) [fuel,zb0,zct,zau,zS,ze7,Sm,Ss,Fv,Fm,Cw,Pw,Tm,Swm,Um,Ac,Km,Gm,Pm,Rt,Tp,Rm,Rl,Om,Ol,UInt8.toNat_lt]):G:=h
theorem zO9:∀s∈zIm,s.length≤20:=by decide +kernel
@[grind →] theorem hopN_le {s:Str} (h:s∈zIm):s.length≤20:=zO9 s h
def Vb (k:Nat) (l:List zWQ):Prop:=∀f∈l,f.Value.length≤k
theorem Vb_n (k:Nat):Vb k []:=fun f hf=>by cases hf
theorem zNg {k:Nat} {l:List zWQ} {a v:Str} (h:Vb k l) (hv:v.length≤k):Vb k (l++[⟨a,v⟩]):=fun f hf=>by
 simp only [List.mem_append,List.mem_singleton] at hf
 rcases hf with hf|rfl
 ·exact h f hf
 ·exact hv
theorem Vb_set {k:Nat} {l:List zWQ} {i:Int} {f:zWQ} (h:Vb k l) (hv:f.Value.length≤k):Vb k (l.set i.toNat f):=fun g hg=>by
 rcases List.mem_or_eq_of_mem_set hg with e|e
 ·exact h g e
 ·exact e▸hv
theorem Vb_m {k:Nat} {l:List zWQ} {f:zWQ} (h:Vb k l) (hf:f∈l):f.Value.length≤k:=h f hf
theorem Vb_le {k m:Nat} {l:List zWQ} (h:Vb k l) (hm:k≤m):Vb m l:=fun f hf=>Nat.le_trans (h f hf) hm
theorem Vb_i {k:Nat} {l:List zWQ} (h:∀f∈l,f.Value.length≤k):Vb k l:=h
theorem Vb_sub {k:Nat} {l m:List zWQ} (h:∀f∈m,f∈l∨f=⟨[],[]⟩) (hl:Vb k l):Vb k m:=fun f hf=>by
 rcases h f hf with h1|rfl
 ·exact hl f h1
 ·exact Nat.zero_le _
theorem isN_0 (m:Int):Go.Rk.isN m 0=decide (m=0):=rfl
theorem isN_1 (m:Int):Go.Rk.isN m 1=decide (m=1):=rfl
theorem isN_2 (m:Int):Go.Rk.isN m 2=decide (m=2):=rfl
theorem isN_3 (m:Int):Go.Rk.isN m 3=decide (m=3):=rfl
theorem zx8 {G:Prop} (h:G:=by
 (with_reducible repeat' first|intro _|refine And.intro ?_ ?_|refine Wf ?_ ?_|refine Wi ?_ ?_|refine Ws ?_|refine Wc ?_ ?_|refine Wo ?_ ?_|refine Wk ?_|refine We ?_ ?_)
 all_goals (try simp only [List.length_cons,List.length_nil])
 all_goals grind (gen:=12) (ematch:=12) [Vb_n,zNg,Vb_set, → Vb_m,Vb_i,Vb_sub, → Vb_le,fuel,zb0,zct,zau,zS,ze7,Sm,Ss,Fv,Fm,Cw,Pw,Tm,Swm,Um,Ac,Km,Gm,Pm,Rt,Tp,Rm,Rl,Om,Ol,UInt8.toNat_lt]):G:=h
theorem zBi {G:Prop} (h:G:=by
 (with_reducible repeat' first|intro _|refine And.intro ?_ ?_|refine Wf ?_ ?_|refine Wi ?_ ?_|refine Ws ?_|refine Wc ?_ ?_|refine Wo ?_ ?_|refine Wk ?_|refine We ?_ ?_)
 all_goals (try simp only [List.length_cons,List.length_nil])
 all_goals grind (gen:=12) (ematch:=12) [isN_0,isN_1,isN_2,isN_3,fuel,zb0,zct,zau,zS,ze7,Sm,Ss,Fv,Fm,Cw,Pw,Tm,Swm,Um,Ac,Km,Gm,Pm,Rt,Tp,Rm,Rl,Om,Ol,UInt8.toNat_lt]):G:=h
end Go.Dm
end
section
set_option linter.unusedVariables false
set_option maxRecDepth 10000
set_option maxHeartbeats 2000000
namespace Go.Dm
instance (l:List zW3):T (zhv l) (l.length≤1000000) (fun r=>r=l):=⟨by unfold zhv; exact gu⟩

instance (l:List zWR):T (zfF l) (l.length≤1000000) (fun r=>r=l):=⟨by unfold zfF; exact gu⟩

end Go.Dm
end
section
set_option linter.unusedVariables false
set_option maxRecDepth 10000
set_option maxHeartbeats 2000000
namespace Go.Dm
instance (l:List zWQ):T (zgP l) (l.length≤1000000) (fun r=>r=l):=⟨by unfold zgP; exact gu⟩

instance (x_l:List zWQ):T (zfr x_l) (Fm x_l) (fun r=>r.zXJ=x_l):=⟨by unfold zfr; exact gu⟩

instance (x_b:zXi):T (zbI x_b) (Fm x_b.zXJ) (fun r=>r=x_b.zXJ):=⟨by unfold zbI; exact gu⟩

instance (x_a:Str) (x_b:Str):T (zbu x_a x_b) (x_a.length<4294967281∧x_b.length<4294967281) (fun r=>True):=⟨by unfold zbu; exact gu⟩

instance (s1:Str) (l9:List zWQ) (i10:Int) (n:Nat) (l5:List Str) (i11:Int):T (zdf s1 l9 i10 n l5 i11) (s1.length<1000000000∧Fm l9∧i10=l9.length∧0≤i11∧i11≤i10∧i10<i11+n∧l5.length≤i11∧∀s∈l5,s.length≤70000000) (fun r=>Ss r):=by
 induction n generalizing l5 i11
 ·exact ⟨goz⟩
 exact ⟨by unfold zdf; exact gu⟩

instance (x_b:zXi) (x_name:Str):T (zb4 x_b x_name) (x_name.length<1000000000∧Fm x_b.zXJ) (fun r=>Ss r):=⟨by unfold zb4; exact gu⟩

instance (x_c:zWW) (x_at:Int):T (zfs x_c x_at) (Cw x_c) (fun r=>Cw r.2∧r.2.zXI=x_c.zXI∧r.2.zXj≤x_c.zXj∧(0≤x_at→x_at≤x_c.zXj→r.2.zXj=x_at)):=⟨by unfold zfs; exact gu⟩

instance (x_p:zW6) (x_at:Int):T (zcF x_p x_at) (Cw x_p.Scanner∧x_p.zXI=x_p.Scanner.zXI∧0≤x_p.zXO∧x_p.zXO≤x_at∧x_at≤x_p.zXI.length∧x_p.zW8.length<1000000000) (fun r=>r.Scanner=x_p.Scanner∧r.zXI=x_p.zXI∧r.zXO=x_p.Scanner.zXj∧r.zW8.length≤x_p.zW8.length+1∧∀s∈r.zW8,s∈x_p.zW8∨s.length≤x_p.zXI.length):=⟨by unfold zcF zcZ; exact gu⟩

instance  (n:Nat) (vp0:zW6) (i3:Int):T (zD n vp0 i3) (Cw vp0.Scanner∧vp0.Scanner.zXI.length<vp0.Scanner.zXj+n∧0≤i3∧i3≤vp0.Scanner.zXj+1) (fun r=>Cw r.2.Scanner∧r.2.Scanner.zXI=vp0.Scanner.zXI∧vp0.Scanner.zXj≤r.2.Scanner.zXj∧r.2.zW8=vp0.zW8∧r.2.zXO=vp0.zXO∧r.2.zXI=vp0.zXI):=by
 induction n generalizing vp0 i3
 ·exact ⟨goz⟩
 exact ⟨by unfold zD; exact gu⟩

instance (x_p:zW6):T (zcu x_p) (Cw x_p.Scanner) (fun r=>Cw r.2.Scanner∧r.2.Scanner.zXI=x_p.Scanner.zXI∧x_p.Scanner.zXj≤r.2.Scanner.zXj∧r.2.zW8=x_p.zW8∧r.2.zXO=x_p.zXO∧r.2.zXI=x_p.zXI):=⟨by unfold zcu; exact gu⟩

instance (i4:Int) (n:Nat) (v5:zXE) (t6:Bool):T (zcL i4 n v5 t6) (Cw v5.Scanner∧0≤i4∧i4≤v5.Scanner.zXj∧v5.zW8.length≤v5.Scanner.zXj∧v5.Scanner.zXI.length<v5.Scanner.zXj+n∧(t6=true→v5.Scanner.zXI.length+1<v5.Scanner.zXj+n)) (fun r=>Cw r.2.2∧r.2.2.zXI=v5.Scanner.zXI∧i4≤r.2.2.zXj∧(r.2.1=true→t6=true∧v5.Scanner.zXj≤r.2.2.zXj)∧r.1.length≤v5.Scanner.zXI.length):=by
 induction n generalizing v5 t6
 ·exact ⟨goz⟩
 exact ⟨by unfold zcL zih; exact gu⟩

instance (x_c:zWW):T (ziP x_c) (Cw x_c) (fun r=>Cw r.2.2∧r.2.2.zXI=x_c.zXI∧x_c.zXj≤r.2.2.zXj∧(r.2.1=true→x_c.zXj<r.2.2.zXj)∧r.1.length≤x_c.zXI.length):=⟨by unfold ziP; exact gu⟩

instance (x_p:zW6):T (zdI x_p) (Pw x_p∧x_p.Scanner.zXj<x_p.Scanner.zXI.length) (fun r=>r.1=true→Pw r.2∧r.2.Scanner.zXI=x_p.Scanner.zXI∧x_p.Scanner.zXj<r.2.Scanner.zXj):=⟨by unfold zdI; exact gu⟩

instance (s0:Str) (n:Nat) (v4:zW6):T (zgQ s0 n v4) (Pw v4∧v4.Scanner.zXI=s0∧s0.length<v4.Scanner.zXj+n) (fun r=>r.1.length≤s0.length+1∧∀s∈r.1,s.length≤s0.length):=by
 induction n generalizing v4
 ·exact ⟨goz⟩
 exact ⟨by unfold zgQ; exact gu⟩

instance (x_s:Str):T (zkc x_s) (x_s.length<1000000000) (fun r=>r.1.length≤x_s.length+1∧∀s∈r.1,s.length≤x_s.length):=⟨by unfold zkc; exact gu⟩

instance {P:(List Str × Int)→Prop} (k0:List Str→Int→Option (List Str × Int)) (l4:List Str) (l7:List Str) (i13:Int) (i26:Int) (n:Nat) (i27:Int):K (zfR k0 l4 l7 i13 i26 n i27) P ((Sm l7∧i26=l7.length∧0≤i27∧i27≤i26∧i26<i27+n∧l4.length+l7.length≤4000000000000∧0≤i13∧i13≤10000∧P ([],2))∧(∀l i,l=l4++l7∧i=i13+1→W (k0 l i) P)):=by
 induction n generalizing i27
 ·exact ⟨goz⟩
 exact ⟨fun ⟨h,hk0⟩=>by have hk0:=fun a0 a1=>K.mk (hk0 a0 a1); unfold zfR; exact gu⟩

instance (l11:List Str) (i12:Int) (n:Nat) (l4:List Str) (i13:Int):T (zd6 l11 i12 n l4 i13) (Ss l11∧i12=l11.length∧0≤i13∧i13≤i12∧i12<i13+n∧l4.length≤i13*70000001∧∀s∈l4,s.length≤70000000) (fun r=>r.1.length≤i12*70000001∧∀s∈r.1,s.length≤70000000):=by
 induction n generalizing l4 i13
 ·exact ⟨goz⟩
 exact ⟨by unfold zd6; exact gu⟩

instance (x_l:List Str):T (zg5 x_l) (Ss x_l) (fun r=>r.1.length≤x_l.length*70000001∧∀s∈r.1,s.length≤70000000):=⟨by unfold zg5; exact gu⟩

instance (x_r:zXK) (x_l:List Str):T (zeU x_r x_l) (Ss x_l) (fun r=>r.1.N=0):=⟨by unfold zeU; exact gu2⟩

instance {P:(zWY × Int × zXi)→Prop} (k0:Int→Int→Option (zWY × Int × zXi)) (vp32:zXi) (i17:Int) (l29:List Str) (i30:Int) (n:Nat) (i6:Int) (i31:Int):K (zW k0 vp32 i17 l29 i30 n i6 i31) P ((Sm l29∧i30=l29.length∧0≤i31∧i31≤i30∧i30<i31+n∧0≤i17∧i17≤10000 ∧ -1≤i6∧i6≤1099511627776∧P (⟨0,0⟩,28,vp32))∧(∀a b,b=i17+1 ∧ -1≤a∧a≤1099511627776→W (k0 a b) P)):=by
 induction n generalizing i6 i31
 ·exact ⟨goz⟩
 exact ⟨fun ⟨h,hk0⟩=>by have hk0:=fun a0 a1=>K.mk (hk0 a0 a1); unfold zW zbB; exact gu2⟩

instance (vp32:zXi) (l15:List Str) (i16:Int) (n:Nat) (i6:Int) (i17:Int):T (zah vp32 l15 i16 n i6 i17) (Ss l15∧i16=l15.length∧0≤i17∧i17≤i16∧i16<i17+n ∧ -1≤i6∧i6≤1099511627776) (fun r=>0≤r.1.N∧r.1.N≤1099511627776):=by
 induction n generalizing i6 i17
 ·exact ⟨goz⟩
 exact ⟨by unfold zah; exact gu2⟩

instance (x_r:zXK) (x_l:List Str):T (zew x_r x_l) (Ss x_l) (fun r=>0≤r.1.N∧r.1.N≤1099511627776):=⟨by unfold zew; exact gu2⟩

instance (x_h:zWT) (x_none:Int):T (zpj x_h x_none) (Fm x_h.Fields) (fun r=>0≤r.1.N∧r.1.N≤1099511627776):=⟨by unfold zpj zmW; exact gu2⟩

instance (x_h:zWT):T (zhN x_h) (Fm x_h.Fields) (fun r=>0≤r.1.N∧r.1.N≤1099511627776):=⟨by unfold zhN; exact gu2⟩

instance {P:(List Str)→Prop} (k0:List Str→Int→Option (List Str)) (i14:Int) (l24:List Str) (i25:Int) (n:Nat) (l3:List Str) (i26:Int):K (zcM k0 i14 l24 i25 n l3 i26) P ((l24.length≤70000001∧(∀s∈l24,s.length≤70000000)∧i25=l24.length∧0≤i26∧i26≤i25∧i25<i26+n∧l3.length≤i14*70000001+i26∧(∀s∈l3,s.length≤70000000)∧0≤i14∧i14≤10000)∧(∀l i,(l.length:Int)≤i*70000001∧i=i14+1∧(∀s∈l,s.length≤70000000)→W (k0 l i) P)):=by
 induction n generalizing l3 i26
 ·exact ⟨goz⟩
 exact ⟨fun ⟨h,hk0⟩=>by have hk0:=fun a0 a1=>K.mk (hk0 a0 a1); unfold zcM zii; exact gu⟩

instance (l12:List Str) (i13:Int) (n:Nat) (l3:List Str) (i14:Int):T (zcN l12 i13 n l3 i14) (Ss l12∧i13=l12.length∧0≤i14∧i14≤i13∧i13<i14+n∧l3.length≤i14*70000001∧∀s∈l3,s.length≤70000000) (fun r=>r.length≤i13*70000001∧∀s∈r,s.length≤70000000):=by
 induction n generalizing l3 i14
 ·exact ⟨goz⟩
 exact ⟨by unfold zcN; exact gu⟩

instance (x_l:List zWQ):T (zlt x_l) (Fm x_l) (fun r=>r.length≤700000010000∧∀s∈r,s.length≤70000000):=⟨by unfold zlt; exact gu⟩

instance (x_s:Str) (x_a1:Str):T (znf x_s x_a1) (x_s.length<1000000000∧x_a1.length<1000000000) (fun r=>True):=⟨by unfold znf; exact gu⟩

instance (l0:List Str) (u1:Str) (i7:Int) (n:Nat) (i8:Int):T (zC l0 u1 i7 n i8) (Sm l0∧u1.length<1000000000∧i7=l0.length∧0≤i8∧i8≤i7∧i7<i8+n) (fun r => -1≤r∧r<l0.length):=by
 induction n generalizing i8
 ·exact ⟨goz⟩
 exact ⟨by unfold zC; exact gu⟩

instance (x_s:List Str) (x_f:Str):T (zaf x_s x_f) (Sm x_s∧x_f.length<1000000000) (fun r => -1≤r∧r<x_s.length):=⟨by unfold zaf; exact gu⟩

instance (x_s:List Str) (x_f:Str):T (zX x_s x_f) (Sm x_s∧x_f.length<1000000000) (fun r=>True):=⟨by unfold zX; exact gu⟩

instance (x_name:Str) (x_names:List Str):T (zvv x_name x_names) (Sm x_names∧x_name.length<1000000000) (fun r=>True):=⟨by unfold zvv; exact gu⟩

instance (x_f:zWQ) (x_a1:List Str):T (zcO x_f x_a1) (Sm x_a1∧x_f.Name.length<1000000000) (fun r=>True):=⟨by unfold zcO; exact gu⟩

instance (l0:List zWQ) (u1:List Str) (i7:Int) (n:Nat) (i8:Int):T (zn l0 u1 i7 n i8) (Fm l0∧Sm u1∧i7=l0.length∧0≤i8∧i8≤i7∧i7<i8+n) (fun r => -1≤r∧r<l0.length):=by
 induction n generalizing i8
 ·exact ⟨goz⟩
 exact ⟨by unfold zn; exact gu⟩

instance (x_s:List zWQ) (x_f:List Str):T (zQ x_s x_f) (Fm x_s∧Sm x_f) (fun r => -1≤r∧r<x_s.length):=⟨by unfold zQ; exact gu⟩

instance (u1:List Str) (n:Nat) (l0:List zWQ) (i5:Int) (i6:Int):T (zk u1 n l0 i5 i6) (Fm l0∧Sm u1∧0≤i5∧i5≤i6∧i6≤l0.length∧l0.length<i6+n) (fun r=>Fm r∧r.length≤l0.length∧i5≤r.length∧∀f∈r,f∈l0∨f=⟨[],[]⟩):=by
 induction n generalizing l0 i5 i6
 ·exact ⟨goz⟩
 exact ⟨by unfold zk; exact gu⟩

instance (x_s:List zWQ) (x_del:List Str):T (zB x_s x_del) (Fm x_s∧Sm x_del) (fun r=>Fm r∧r.length≤x_s.length∧∀f∈r,f∈x_s∨f=⟨[],[]⟩):=⟨by unfold zB; exact gu⟩

instance (x_b:zXi) (x_names:List Str):T (zcP x_b x_names) (Fm x_b.zXJ∧Sm x_names) (fun r=>Fm r.2.zXJ∧0≤r.1∧r.2.zXJ.length≤x_b.zXJ.length∧∀f∈r.2.zXJ,f∈x_b.zXJ∨f=⟨[],[]⟩):=⟨by unfold zcP; exact gu⟩

end Go.Dm
end
section
set_option linter.unusedVariables false
set_option maxRecDepth 10000
set_option maxHeartbeats 2000000
namespace Go.Dm
instance (x_l:List zWQ):T (ztp x_l) (Fm x_l) (fun r=>Fm r∧r.length≤x_l.length∧∀f∈r,f∈x_l∨f=⟨[],[]⟩):=⟨by unfold ztp; exact gu⟩

instance (s0:Str) (s1:Str) (n:Nat) (i5:Int):T (zd1 s0 s1 n i5) (0≤i5∧i5≤s0.length∧s0.length<i5+n∧s0.length<1000000000) (fun r=>True):=by
 induction n generalizing i5
 ·exact ⟨goz⟩
 exact ⟨by unfold zd1 zl4; exact gu⟩

instance (x_s:Str) (x_more:Str):T (zr3 x_s x_more) (x_s.length<1000000000) (fun r=>True):=⟨by unfold zr3; exact gu⟩

instance (x_s:Str):T (zqp x_s) (x_s.length<1000000000) (fun r=>True):=⟨by unfold zqp; exact gu⟩

instance (x_s:Str):T (zof x_s) (x_s.length<1000000000) (fun r=>True):=⟨by unfold zof; exact gu⟩

instance (x_s:Str):T (zpk x_s) (x_s.length<1000000000) (fun r=>r.1.length≤x_s.length∧r.2.1.length≤x_s.length):=⟨by unfold zpk; exact gu⟩

instance (x_t:zXm) (x_s:Str):T (zl5 x_t x_s) (Tm x_t∧x_s.length≤10000000) (fun r=>Tm r.1∧r.1.Path.length≤x_t.Path.length+x_s.length+1∧r.1.Query.length≤x_t.Query.length+x_s.length+1):=⟨by unfold zl5 zke zkd; exact gu⟩

instance (x_s:Str):T (zi8 x_s) (x_s.length≤10000000) (fun r=>Tm r.1∧r.1.Path.length≤x_s.length+1∧r.1.Query.length≤x_s.length+1):=⟨by unfold zi8 zem zgm; exact gu⟩

instance (x_method:Str) (x_s:Str):T (ztq x_method x_s) (x_s.length≤10000000) (fun r=>Tm r.1∧r.1.Path.length≤x_s.length+1∧r.1.Query.length≤x_s.length+1):=⟨by unfold ztq; exact gu⟩

instance (x_method:Str) (x_s:Str):T (zkf x_method x_s) (x_s.length≤10000000) (fun r=>Tm r.1∧r.1.Path.length≤x_s.length+1∧r.1.Query.length≤x_s.length+1):=⟨by unfold zkf zi9; exact gu⟩

instance (x_path:Str) (x_query:Str) (x_has:Bool):T (zqq x_path x_query x_has) (x_path.length≤1000000000∧x_query.length≤1000000000) (fun r=>r.length≤x_path.length+x_query.length+1):=⟨by unfold zqq; exact gu⟩

instance (x_t:zXm):T (zlu x_t) (Tm x_t) (fun r=>r.length≤x_t.Path.length+x_t.Query.length+10):=⟨by unfold zlu zij; exact gu⟩

instance (x_h:zXk):T (zlv x_h) (x_h.Name.length≤70000000∧x_h.Port≤65535) (fun r=>r.1.length≤x_h.Name.length+100):=⟨by unfold zlv zil zik; exact gu⟩

instance (x_x:zWQ) (x_a1:Str):T (zg6 x_x x_a1) (x_x.Name.length<1000000000∧x_a1.length<1000000000) (fun r=>True):=⟨by unfold zg6; exact gu⟩

instance (l0:List zWQ) (u1:Str) (i7:Int) (n:Nat) (i8:Int):T (zm l0 u1 i7 n i8) (Fm l0∧u1.length<1000000000∧i7=l0.length∧0≤i8∧i8≤i7∧i7<i8+n) (fun r => -1≤r∧r<l0.length):=by
 induction n generalizing i8
 ·exact ⟨goz⟩
 exact ⟨by unfold zm; exact gu⟩

instance (x_s:List zWQ) (x_f:Str):T (zM x_s x_f) (Fm x_s∧x_f.length<1000000000) (fun r => -1≤r∧r<x_s.length):=⟨by unfold zM; exact gu⟩

instance (x_b:zXi) (x_name:Str):T (zjK x_b x_name) (Fm x_b.zXJ∧x_name.length<1000000000) (fun r=>r.1.length≤70000000):=⟨by unfold zjK; exact gu⟩

instance (x_b:zXi) (x_l:List zWQ):T (zfe x_b x_l) (x_b.zXJ.length+x_l.length≤1000000000000) (fun r=>r.zXJ=x_b.zXJ++x_l):=⟨by unfold zfe; exact gu⟩

theorem zKM (a b:Str):zbu a b=zbu b a:=by
 unfold zbu;cases za6 a<;>cases za6 b<;>simp [BEq.comm]
theorem rem1 (f:zWQ) (u:Str):zcO f [u]=zg6 f u:=by
 unfold zcO zg6 zvv zX zaf;obtain ⟨n,hn⟩:∃n,fuel=n+1+1:=⟨999999999999999998,rfl⟩;rw [hn];have c:=zKM u f.Name
 cases h:zbu f.Name u with
 | none =>
  rw [h] at c;simp [zC,znf,lAt,c]
 | some b =>
  rw [h] at c;cases b<;>simp [zC,znf,lAt,c,zd,inI]
theorem idxR (l:List zWQ) (u:Str) (k:Int):∀(n:Nat) (i:Int),zn l [u] k n i=zm l u k n i
 | 0,_=>rfl
 | n+1,i=>by
  unfold zn zm;simp only [rem1,idxR l u k n]
instance (x_b:zXi) (x_name x_value:Str):T (ziQ x_b x_name x_value) (Fm x_b.zXJ∧x_name.length≤70000000∧x_value.length≤70000000) (fun r=>Fv r.zXJ∧r.zXJ.length≤x_b.zXJ.length+1∧∀k,Vb k x_b.zXJ→x_value.length≤k→Vb k r.zXJ):=⟨fun ⟨h,hn,hv⟩=>by
 obtain ⟨j,e,h1,h2⟩:=(inferInstance:T (zM x_b.zXJ x_name) _ _).ok ⟨h,by omega⟩;unfold ziQ;rw [e];show W (if _ then _ else _) _;refine Wi (fun hj=>?_) fun hj=>?_
 ·with_reducible refine Wc ?_ ?_
  ·have:=h.1;simp only [List.length_cons,List.length_nil]; omega
  ·intro r hr;refine Ws ?_;rw [hr]
   unfold Fm Fv at *
   refine ⟨fun f hf=>?_,by simp,fun k hk hx=>zNg hk hx⟩;simp only [List.mem_append,List.mem_singleton] at hf
   rcases hf with hf|rfl
   ·exact h.2 f hf
   ·exact ⟨hn,hv⟩
 ·have hj0:0≤j:=by simpa using hj
  have e2:zQ x_b.zXJ [x_name]=some j:=by
   rw [← e]; exact idxR _ _ _ _ _
  have hs:Sm [x_name]:=by unfold Sm; simp; omega
  have hl:=h.1;obtain ⟨d,ed,hd1,hd2,hd3,hd5⟩:=(inferInstance:T (zk [x_name] fuel x_b.zXJ j (j+1)) _ _).ok ⟨h,hs,hj0,by omega,by omega,by unfold fuel; omega⟩
  have e3:zB x_b.zXJ [x_name]=some d:=by
   unfold zB;rw [e2];show (if _ then _ else _)=_;rw [if_neg (by simp; omega),show zd j 1=some (j+1) by simp [zd,inI]; omega];exact ed
  unfold zcP;rw [e3];show W (((za3 _ _).bind fun r2=>some (r2,(⟨d⟩:zXi))).bind _) _;rw [show za3 (x_b.zXJ.length:Int) (d.length:Int)=some ((x_b.zXJ.length:Int)-d.length) by simp [za3,inI]; omega];show W ((zch d j [⟨x_name,x_value⟩]).bind _) _;have hd4:=hd1.1
  with_reducible refine Wc ⟨rfl,hj0,hd3,by omega⟩ ?_
  intro r hr;refine Ws ?_;refine ⟨fun f hf=>?_,by show r.length≤_; omega,fun k hk hx f hf=>?_⟩
  rotate_left
  ·rcases hr.2 f hf with hf|hf
   ·rcases hd5 f hf with hf|rfl
    ·exact hk f hf
    ·exact Nat.zero_le _
   ·simp only [List.mem_singleton] at hf;subst hf; exact hx
  rcases hr.2 f hf with hf|hf
  ·exact hd1.2 f hf
  ·simp only [List.mem_singleton] at hf;subst hf
   exact ⟨hn,hv⟩⟩

instance (x_w:zXy) (x_env:zW2) (x_t:zXm):T (zft x_w x_env x_t) (Fm x_w.Bag.zXJ∧x_w.Bag.zXJ.length≤9000∧x_env.Host.length≤70000000∧x_t.Host.Name.length≤10000000∧x_t.Host.Port≤65535) (fun r=>(r.zYi=x_w.zYi∧Fv r.Bag.zXJ∧r.Bag.zXJ.length≤x_w.Bag.zXJ.length+2)∧(Vb 46000000 x_w.Bag.zXJ→x_env.Host.length≤46000000→Vb 46000000 r.Bag.zXJ)):=⟨by unfold zft zdJ; exact zx8⟩

instance (x_w:zXy):T (zcl x_w) (Fm x_w.Bag.zXJ) (fun r=>r.1.Kind=x_w.zYi.Kind∧r.1.Method=x_w.zYi.Method∧r.1.Target=x_w.zYi.Target∧r.1.Code=x_w.zYi.Code∧r.1.Reason=x_w.zYi.Reason∧r.1.Minor=x_w.zYi.Minor∧r.1.Fields=x_w.Bag.zXJ∧r.2=0):=⟨by unfold zcl; exact gu1⟩

end Go.Dm
end
section
set_option linter.unusedVariables false
set_option maxRecDepth 10000
set_option maxHeartbeats 2000000
namespace Go.Dm
instance (x_s:Str) (x_suffix:Str):T (strings_HasSuffix x_s x_suffix) (x_s.length<1000000000) (fun r=>r=true→x_suffix.length≤x_s.length):=⟨by unfold strings_HasSuffix; exact gu⟩

instance (s0:Str) (l10:List zW3) (i11:Int) (n:Nat) (i12:Int):T (zen s0 l10 i11 n i12) (s0.length<1000000000∧Swm l10∧i11=l10.length∧0≤i12∧i12≤i11∧i11<i12+n) (fun r=>r.1.length≤s0.length+1000):=by
 induction n generalizing i12
 ·exact ⟨goz⟩
 exact ⟨by unfold zen; exact gu1⟩

instance (x_s:Str) (x_l:List zW3):T (zog x_s x_l) (x_s.length<1000000000∧Swm x_l) (fun r=>r.1.length≤x_s.length+1000):=⟨by unfold zog; exact gu1⟩

instance (x_s:Str) (x_l:List zW3):T (zim x_s x_l) (x_s.length≤900000000∧Swm x_l) (fun r=>r.length≤x_s.length+1000):=⟨by unfold zim; exact gu1⟩

instance (b:UInt8):T (zg7 b) True (fun r=>r=(gd zg7) b):=bt (by decide +kernel) b

instance (x_s:Str):T (zl6 x_s) (x_s.length<1000000000) (fun r=>r.1.Name.length+r.1.Value.length≤x_s.length):=⟨by unfold zl6 zkg; exact gu1⟩

instance (b:UInt8):T (zin b) True (fun r=>r=(gd zin) b):=bt (by decide +kernel) b

instance (x_s:Str):T (zmX x_s) (x_s.length<1000000000) (fun r=>True):=⟨by unfold zmX; exact gu1⟩

instance (l41:List Str) (i42:Int) (n:Nat) (v7:zW7) (i43:Int):T (zgR l41 i42 n v7 i43) (Sm l41∧i42=l41.length∧0≤i43∧i43≤i42∧i42<i43+n∧v7.Attrs.length≤i43) (fun r=>r.1.Name.length≤v7.Name.length∧r.1.Value.length≤v7.Value.length∧r.1.Attrs.length≤l41.length∧∀a∈r.1.Attrs,a∈v7.Attrs∨∃s∈l41,a.Name.length+a.Value.length≤s.length):=by
 induction n generalizing v7 i43
 ·exact ⟨goz⟩
 exact ⟨by unfold zgR; exact gu1⟩

instance (x_s:Str):T (zkh x_s) (x_s.length<1000000000) (fun r=>r.1.Name.length≤x_s.length∧r.1.Value.length≤x_s.length∧r.1.Attrs.length≤x_s.length+1∧∀a∈r.1.Attrs,a.Name.length+a.Value.length≤x_s.length):=⟨by unfold zkh; exact gu1⟩

instance (s1:Str) (v2:zW7) (n:Nat) (i5:Int):T (zhO s1 v2 n i5) (-1≤i5∧i5<v2.Attrs.length∧i5+1<n∧s1.length<1000000000∧Ac v2) (fun r => -1≤r∧r<v2.Attrs.length):=by
 induction n generalizing i5
 ·exact ⟨goz⟩
 exact ⟨by unfold zhO; exact gu1⟩

instance (x_c:zW7) (x_name:Str):T (zl7 x_c x_name) (x_name.length<1000000000∧Ac x_c) (fun r => -1≤r∧r<x_c.Attrs.length):=⟨by unfold zl7; exact gu1⟩

instance (x_c:zW7) (x_name:Str):T (zqr x_c x_name) (x_name.length<1000000000∧Ac x_c) (fun r=>r.1.length=0∨∃a∈x_c.Attrs,r.1=a.Value):=⟨by unfold zqr; exact gu1⟩

instance (x_s:Str) (x_prefix:Str):T (stringslite_TrimPrefix x_s x_prefix) (True) (fun r=>r.length≤x_s.length):=⟨by unfold stringslite_TrimPrefix; exact gu⟩

instance (x_s:Str) (x_prefix:Str):T (strings_TrimPrefix x_s x_prefix) (True) (fun r=>r.length≤x_s.length):=⟨by unfold strings_TrimPrefix; exact gu⟩

instance (x_name:Str) (x_domain:Str):T (zki x_name x_domain) (x_name.length<1000000000∧x_domain.length<900000000) (fun r=>r=true→x_domain.length≤x_name.length):=⟨by unfold zki; exact gu⟩

instance (s0:Str) (s6:Str) (l11:List zW3) (i12:Int) (n:Nat) (i13:Int):T (zhP s0 s6 l11 i12 n i13) (s6.length<1000000000∧Swm l11∧i12=l11.length∧0≤i13∧i13≤i12∧i12<i13+n) (fun r=>r.1.length≤s0.length+s6.length+1000):=by
 induction n generalizing i13
 ·exact ⟨goz⟩
 exact ⟨by unfold zhP; exact gu1⟩

instance (x_name:Str) (x_l:List zW3):T (zoh x_name x_l) (x_name.length<1000000000∧Swm x_l) (fun r=>r.1.length≤2*x_name.length+1000):=⟨by unfold zoh; exact gu1⟩

instance (s1:Str) (s2:Str) (i7:Int) (l20:List zXp) (i21:Int) (n:Nat) (v8:zW7) (i22:Int):T (zc0 s1 s2 i7 l20 i21 n v8 i22) (s1.length≤7500∧s2.length≤7500∧i21=l20.length∧0≤i22∧i22≤i21∧i21<i22+n∧l20.length≤3001∧v8.Attrs.length≤i22∧(∀a∈l20,a.Name.length≤7500∧a.Value.length≤7500)∧Km v8) (fun r=>Km r):=by
 induction n generalizing v8 i22
 ·exact ⟨goz⟩
 exact ⟨by unfold zc0 zlx zlw zly; exact gu1⟩

instance (x_c:zW7) (x_name:Str) (x_value:Str):T (zqs x_c x_name x_value) (x_name.length≤7500∧x_value.length≤7500∧Km x_c∧x_c.Attrs.length≤3001) (fun r=>Km r):=⟨by unfold zqs; exact gu1⟩

instance (l0:List zXp) (l1:List zXp) (i12:Int) (n:Nat) (i13:Int):T (zY l0 l1 i12 n i13) (i12=l0.length∧i12=l1.length∧0≤i13∧i13≤i12∧i12<i13+n∧l0.length<1000000000000) (fun r=>True):=by
 induction n generalizing i13
 ·exact ⟨goz⟩
 exact ⟨by unfold zY; exact gu⟩

instance (x_s1:List zXp) (x_s2:List zXp):T (zaZ x_s1 x_s2) (x_s1.length<1000000000000) (fun r=>True):=⟨by unfold zaZ; exact gu⟩

instance (x_a:zW7) (x_b:zW7):T (zoi x_a x_b) (x_a.Attrs.length<1000000000000) (fun r=>True):=⟨by unfold zoi; exact gu1⟩

instance (v1:zW7) (l18:List zXp) (i19:Int) (n:Nat) (l4:List Str) (i20:Int):T (zfS v1 l18 i19 n l4 i20) (Km v1∧i19=l18.length∧0≤i20∧i20≤i19∧i19<i20+n∧l18.length≤3002∧l4.length≤i20+1∧sl l4≤(i20+1)*15001∧∀a∈l18,a.Name.length≤7500∧a.Value.length≤7500) (fun r=>r.1.length≤46000000):=by
 induction n generalizing l4 i20
 ·exact ⟨goz⟩
 exact ⟨by unfold zfS; exact gu1⟩

instance (x_c:zW7):T (zoj x_c) (Km x_c) (fun r=>r.1.length≤46000000):=⟨by unfold zoj; exact gu1⟩

instance (x_s:Str) (x_l:List zW3):T (zja x_s x_l) (x_s.length≤3000∧Swm x_l) (fun r=>r.length≤46000000):=⟨by unfold zja; exact gu1⟩

instance (i12:Int) (n:Nat) (v2:zW2) (l5:List zWQ) (i13:Int):T (zbM i12 n v2 l5 i13) (i12=l5.length∧l5.length≤10000∧0≤i13∧i13≤i12∧i12<i13+n∧Swm v2.Domains∧Swm v2.Locations∧Fv l5∧Vb 46000000 l5∧∀k f,i13≤k→lAt l5 k=some f→f.Value.length≤3000) (fun r=>(r.length=l5.length∧Fv r)∧Vb 46000000 r):=by
 induction n generalizing v2 l5 i13
 ·exact ⟨goz⟩
 exact ⟨by unfold zbM zgn; exact zx8⟩

instance (x_env:zW2) (x_l:List zWQ):T (zjb x_env x_l) (Fm x_l∧Swm x_env.Domains∧Swm x_env.Locations∧∀f∈x_l,f.Value.length≤3000) (fun r=>(r.length=x_l.length∧Fv r)∧Vb 46000000 r):=⟨by unfold zjb; exact zx8⟩

instance (x_a0:zW2) (x_a1:zWT):T (zok x_a0 x_a1) (Fm x_a1.Fields∧x_a1.Fields.length≤8000∧(∀f∈x_a1.Fields,f.Value.length≤3000)∧x_a1.Target.length≤9000000∧x_a0.Host.length≤46000000∧Swm x_a0.Domains∧Swm x_a0.Locations) (fun r=>(Fv r.1.Fields∧r.1.Fields.length≤x_a1.Fields.length+2)∧Vb 46000000 r.1.Fields∧r.1.Target.length≤2*x_a1.Target.length+20∧r.1.Method.length≤x_a1.Method.length∧r.1.Reason.length≤x_a1.Reason.length∧(r.1.Code=x_a1.Code∨r.1.Code=0)∧r.1.Minor≤1):=⟨by unfold zok; exact zx8⟩

end Go.Dm
end
section
set_option linter.unusedVariables false
set_option maxRecDepth 10000
set_option maxHeartbeats 2000000
namespace Go.Dm
instance (x_name:Str) (x_value:Str):T (zc1 x_name x_value) (True) (fun r=>r=⟨x_name,x_value⟩):=⟨by unfold zc1; exact gu1⟩

instance (x_env:zW2) (x_h:zWT):T (zol x_env x_h) (x_env.Client.length≤70000000∧x_env.Host.length≤70000000∧x_env.Scheme.length≤70000000∧x_h.Target.length≤70000000∧x_h.Method.length≤70000000∧x_h.Code≤9223372036854775807) (fun r=>Pm r):=⟨by unfold zol; exact gu1⟩

instance (x_r:zWU):T (zom x_r) (Rm x_r) (fun r=>r.length≤2):=⟨by unfold zom; exact gu1⟩

instance (l0:List zWU) (v3:zXx) (n:Nat) (i4:Int):T (zc6 l0 v3 n i4) (Rl l0∧Gm v3∧1≤i4∧i4≤l0.length∧l0.length<i4+n) (fun r=>1≤r∧r≤l0.length):=by
 induction n generalizing i4
 ·exact ⟨goz⟩
 exact ⟨by unfold zc6 zhQ; exact gu1⟩

instance (x_l:List zWU):T (zon x_l) (Rl x_l∧1≤x_l.length) (fun r=>1≤r∧r≤x_l.length):=⟨by unfold zon; exact gu1⟩

instance (x_g:zXx) (x_n:Int):T (zlz x_g x_n) (True) (fun r=>r.N=x_n∧r.Name=x_g.Name∧r.Text.length≤x_g.Value.length∧r.Parts=[]):=⟨by unfold zlz; exact gu1⟩

instance (x_r:zWU):T (zoo x_r) (Rm x_r) (fun r=>Om r):=⟨by unfold zoo; exact gu1⟩

instance (l6:List zWU) (i7:Int) (n:Nat) (vp0:zXd) (i8:Int):T (zbp l6 i7 n vp0 i8) (Rl l6∧i7=l6.length∧0≤i8∧i8≤i7∧i7<i8+n∧Ol vp0.zW8∧vp0.zW8.length≤1000000+i8) (fun r=>Ol r.zW8∧r.zW8.length≤vp0.zW8.length+i7-i8):=by
 induction n generalizing vp0 i8
 ·exact ⟨goz⟩
 exact ⟨by unfold zbp; exact gu1⟩

instance (x_c:zXd) (x_l:List zWU):T (zdK x_c x_l) (Rl x_l∧Ol x_c.zW8∧x_c.zW8.length≤1000000) (fun r=>Ol r.zW8∧r.zW8.length≤x_c.zW8.length+x_l.length):=⟨by unfold zdK; exact gu1⟩

instance  (n:Nat) (vp0:zXd) (l1:List zWU):T (zaa n vp0 l1) (Rl l1∧l1.length<n∧Ol vp0.zW8∧vp0.zW8.length+2*l1.length≤100000) (fun r=>Ol r.zW8∧r.zW8.length≤vp0.zW8.length+2*l1.length):=by
 induction n generalizing vp0 l1
 ·exact ⟨goz⟩
 exact ⟨by unfold zaa zcv; exact gu1⟩

instance (x_c:zXd) (x_l:List zWU):T (zdL x_c x_l) (Rl x_l∧x_c.zW8=[]) (fun r=>Ol r.zW8∧r.zW8.length≤2*x_l.length):=⟨by unfold zdL; exact gu1⟩

instance (i0:Int) (l26:List zWU) (i27:Int) (n:Nat) (l8:List zWU) (i28:Int):T (zcQ i0 l26 i27 n l8 i28) (Rl l26∧i27=l26.length∧0≤i28∧i28≤i27∧i27<i28+n∧l8.length≤i28∧∀r∈l8,Rm r) (fun r=>Ol r.1∧r.1.length≤2*l26.length):=by
 induction n generalizing l8 i28
 ·exact ⟨goz⟩
 exact ⟨by unfold zcQ; exact gu1⟩

instance (x_side:Int) (x_l:List zWU):T (zjc x_side x_l) (Rl x_l) (fun r=>Ol r.1∧r.1.length≤2*x_l.length):=⟨by unfold zjc zgo; exact gu1⟩

instance (x_m:zXb) (x_op:zXD):T (zex x_m x_op) (Fm x_m.Bag.zXJ∧x_op.Name.length<1000000000) (fun r=>True):=⟨by unfold zex; exact gu1⟩

instance (s1:Str) (l7:List zXf) (i8:Int) (n:Nat) (i9:Int):T (zkj s1 l7 i8 n i9) (Pm l7∧i8=l7.length∧0≤i9∧i9≤i8∧i8<i9+n) (fun r=>r.length≤70000000):=by
 induction n generalizing i9
 ·exact ⟨goz⟩
 exact ⟨by unfold zkj; exact gu1⟩

instance (x_known:List zXf) (x_name:Str):T (ztr x_known x_name) (Pm x_known) (fun r=>r.length≤70000000):=⟨by unfold ztr; exact gu1⟩

instance (s0:Str) (n:Nat) (l3:List UInt8) (i4:Int):T (zff s0 n l3 i4) (s0.length<100000000000∧0≤i4∧i4≤s0.length∧s0.length<i4+n∧l3.length≤65536) (fun r=>r.length≤65536):=by
 induction n generalizing l3 i4
 ·exact ⟨goz⟩
 exact ⟨by unfold zff zlA; exact gu1⟩

instance (x_s:Str):T (zqt x_s) (x_s.length<100000000000) (fun r=>r.length≤65536):=⟨by unfold zqt; exact gu1⟩

instance (l0:List zXf) (v7:zXi) (l15:List zWR) (i16:Int) (n:Nat) (l8:List Str) (i17:Int):T (zeV l0 v7 l15 i16 n l8 i17) (Pm l0∧Fm v7.zXJ∧Tp l15∧i16=l15.length∧0≤i17∧i17≤i16∧i16<i17+n∧l8.length≤i17∧sl l8≤i17*70000000) (fun r=>r.length≤65536):=by
 induction n generalizing l8 i17
 ·exact ⟨goz⟩
 exact ⟨by unfold zeV; exact gu1⟩

instance (x_known:List zXf) (x_fields:List zWQ) (x_l:List zWR):T (zts x_known x_fields x_l) (Pm x_known∧Fm x_fields∧Tp x_l) (fun r=>r.length≤65536):=⟨by unfold zts; exact gu1⟩

instance (x_m:zXb) (x_l:List zWR):T (zcG x_m x_l) (Pm x_m.zYc∧Fm x_m.Bag.zXJ∧Tp x_l) (fun r=>r.length≤65536):=⟨by unfold zcG; exact gu1⟩

instance (s1:Str) (s2:Str) (i15:Int) (n:Nat) (vp0:zXi) (i7:Int) (i16:Int):T (zcm s1 s2 i15 n vp0 i7 i16) (Fm vp0.zXJ∧i15=vp0.zXJ.length∧0≤i16∧i16≤i15∧i15<i16+n∧0≤i7∧i7≤i16∧s1.length≤70000000∧s2.length≤70000000) (fun r=>(Fm r.2.zXJ∧r.2.zXJ.length=vp0.zXJ.length)∧(∀k,Vb k vp0.zXJ→Vb k r.2.zXJ)):=by
 induction n generalizing vp0 i7 i16
 ·exact ⟨goz⟩
 exact ⟨by unfold zcm; exact zx8⟩

instance (x_b:zXi) (x_from:Str) (x_to:Str):T (zio x_b x_from x_to) (Fm x_b.zXJ∧x_from.length≤70000000∧x_to.length≤70000000) (fun r=>(Fm r.2.zXJ∧r.2.zXJ.length=x_b.zXJ.length)∧(∀k,Vb k x_b.zXJ→Vb k r.2.zXJ)):=⟨by unfold zio; exact zx8⟩

instance (x_m:zXb) (x_op:zXD):T (zeW x_m x_op) (Pm x_m.zYc∧Fm x_m.Bag.zXJ∧Om x_op) (fun r=>(r.zYc=x_m.zYc∧r.zX5=x_m.zX5∧Fv r.Bag.zXJ∧r.Bag.zXJ.length≤x_m.Bag.zXJ.length+1)∧(Vb 66000000 x_m.Bag.zXJ→Vb 66000000 r.Bag.zXJ)):=⟨by unfold zeW; exact zx8⟩

instance (l1:List zXD) (n:Nat) (vp0:zXb) (i4:Int):T (zai l1 n vp0 i4) (Ol l1∧l1.length≤1000∧0≤i4∧i4≤2*l1.length+1∧1≤n∧l1.length<i4+n∧Pm vp0.zYc∧Fm vp0.Bag.zXJ∧vp0.Bag.zXJ.length+l1.length≤10000+i4∧0≤vp0.zX5∧vp0.zX5≤i4) (fun r=>(Fm r.Bag.zXJ∧(r.Bag.zXJ.length+i4≤vp0.Bag.zXJ.length+l1.length∨r.Bag.zXJ.length≤vp0.Bag.zXJ.length))∧(Vb 66000000 vp0.Bag.zXJ→Vb 66000000 r.Bag.zXJ)):=by
 induction n generalizing vp0 i4
 ·exact ⟨goz⟩
 exact ⟨by unfold zai zc2; exact zx8⟩

instance (x_m:zXb) (x_l:List zXD):T (zey x_m x_l) (Ol x_l∧x_l.length≤1000∧Pm x_m.zYc∧Fm x_m.Bag.zXJ∧x_m.Bag.zXJ.length≤9000∧x_m.zX5=0) (fun r=>(Fm r.Bag.zXJ∧r.Bag.zXJ.length≤x_m.Bag.zXJ.length+x_l.length)∧(Vb 66000000 x_m.Bag.zXJ→Vb 66000000 r.Bag.zXJ)):=⟨by unfold zey; exact zx8⟩

instance (x_known:List zXf) (x_fields:List zWQ) (x_l:List zXD):T (zop x_known x_fields x_l) (Pm x_known∧Fm x_fields∧x_fields.length≤9000∧Ol x_l∧x_l.length≤1000) (fun r=>(Fm r∧r.length≤x_fields.length+x_l.length)∧(Vb 66000000 x_fields→Vb 66000000 r)):=⟨by unfold zop; exact zx8⟩

instance (x_known:List zXf) (x_fields:List zWQ) (x_side:Int) (x_l:List zWU):T (zlB x_known x_fields x_side x_l) (Pm x_known∧Fm x_fields∧x_fields.length≤9000∧Rl x_l∧x_l.length≤500) (fun r=>(Fv r.1∧r.1.length≤x_fields.length+2*x_l.length)∧(Vb 66000000 x_fields→Vb 66000000 r.1)):=⟨by unfold zlB; exact zx8⟩

instance (x_l:List Str):T (zl8 x_l) (sl x_l+10*x_l.length≤100000000000000) (fun r=>r.length≤sl x_l+10*x_l.length):=⟨by unfold zl8; exact gu⟩

end Go.Dm
end
section
set_option linter.unusedVariables false
set_option maxRecDepth 10000
set_option maxHeartbeats 2000000
namespace Go.Dm
instance (priority:=high) (x_v:zW9):T (zni x_v) (x_v.Proto.length≤1000∧x_v.Version.length≤1000∧x_v.By.length≤1000∧x_v.Comment.length≤1000) (fun r=>r.1.length≤5000):=⟨by unfold zni zlS zlR; exact gu1⟩

instance (x_s:Str) (x_l:List Str):T (zlC x_s x_l) (x_s.length<1000000000∧x_l.length≤1000∧sl x_l≤1000000000) (fun r=>r.length≤x_s.length+sl x_l+10*x_l.length+10):=⟨by unfold zlC; exact gu⟩

instance (vp0:zXi) (s1:Str) (s2:Str) (n:Nat) (i6:Int):T (zdx vp0 s1 s2 n i6) (Fm vp0.zXJ ∧ -1≤i6∧i6<vp0.zXJ.length∧i6+1<n∧s1.length≤70000000∧s2.length≤1000000) (fun r=>r.zXJ.length≤vp0.zXJ.length+1∧∀f∈r.zXJ,f∈vp0.zXJ∨(f.Name=s1∧f.Value=s2)∨∃g∈vp0.zXJ,f.Name=g.Name∧f.Value.length≤g.Value.length+s2.length+20):=by
 induction n generalizing i6
 ·exact ⟨goz⟩
 exact ⟨by unfold zdx; exact gu⟩

instance (x_b:zXi) (x_name:Str) (x_element:Str):T (zd7 x_b x_name x_element) (Fm x_b.zXJ∧x_name.length≤70000000∧x_element.length≤1000000) (fun r=>r.zXJ.length≤x_b.zXJ.length+1∧∀f∈r.zXJ,f∈x_b.zXJ∨(f.Name=x_name∧f.Value=x_element)∨∃g∈x_b.zXJ,f.Name=g.Name∧f.Value.length≤g.Value.length+x_element.length+20):=⟨by unfold zd7; exact gu⟩

instance (x_v:zW9) (x_l:List zWQ):T (zqu x_v x_l) (Fm x_l∧x_l.length≤9000∧(∀f∈x_l,f.Value.length≤66000000)∧x_v.Proto.length≤1000∧x_v.Version.length≤1000∧x_v.By.length≤1000∧x_v.Comment.length≤1000) (fun r=>r.1.length≤x_l.length+1∧∀f∈r.1,f∈x_l∨(f.Name.length≤10∧f.Value.length≤5000)∨∃g∈x_l,f.Name=g.Name∧f.Value.length≤g.Value.length+5020):=⟨by unfold zqu; exact gu1⟩

instance (x_client:Str):T (zkk x_client) (x_client.length≤1000) (fun r=>r.length≤1100):=⟨by unfold zkk; exact gu2⟩

instance (x_env:zW2):T (zkl x_env) (x_env.Client.length≤1000∧x_env.Host.length≤1000∧x_env.Scheme.length≤1000) (fun r=>r.length≤3∧∀p∈r,p.Name.length≤10∧p.Value.length≤1100):=⟨by unfold zkl zhf zhe; exact gu2⟩

instance (s0:Str) (i12:Int) (n:Nat) (l4:List UInt8) (i13:Int):T (zcs s0 i12 n l4 i13) (i12=s0.length∧0≤i13∧i13≤i12∧i12<i13+n∧s0.length<1000000000∧l4.length≤2*i13+1) (fun r=>r.1.length≤2*s0.length+2):=by
 induction n generalizing l4 i13
 ·exact ⟨goz⟩
 exact ⟨by unfold zcs zje zjd; exact gu⟩

instance (x_s:Str):T (zmY x_s) (x_s.length<1000000000) (fun r=>r.1.length≤2*x_s.length+2):=⟨by unfold zmY; exact gu⟩

instance (x_s:Str):T (zlD x_s) (x_s.length<1000000000) (fun r=>r.1.length≤2*x_s.length+2):=⟨by unfold zlD; exact gu⟩

instance (l9:List zXf) (i10:Int) (n:Nat) (l4:List Str) (i11:Int):T (zhR l9 i10 n l4 i11) (i10=l9.length∧0≤i11∧i11≤i10∧i10<i11+n∧l9.length≤3∧(∀p∈l9,p.Name.length≤10∧p.Value.length≤1100)∧l4.length≤i11∧sl l4≤i11*2300) (fun r=>r.1.length≤7000):=by
 induction n generalizing l4 i11
 ·exact ⟨goz⟩
 exact ⟨by unfold zhR; exact gu⟩

instance (x_l:List zXf):T (zoq x_l) (x_l.length≤3∧(∀p∈x_l,p.Name.length≤10∧p.Value.length≤1100)) (fun r=>r.1.length≤7000):=⟨by unfold zoq; exact gu⟩

instance (x_env:zW2) (x_l:List zWQ):T (ziq x_env x_l) (Fm x_l∧x_l.length≤9100∧(∀f∈x_l,f.Value.length≤67000000)∧x_env.Client.length≤1000∧x_env.Host.length≤1000∧x_env.Scheme.length≤1000) (fun r=>r.1.length≤x_l.length+1∧∀f∈r.1,f∈x_l∨(f.Name.length≤10∧f.Value.length≤7000)∨∃g∈x_l,f.Name=g.Name∧f.Value.length≤g.Value.length+7020):=⟨by unfold ziq; exact gu2⟩

instance (x_s:Str):T (zvw x_s) (x_s.length<1000000000) (fun r=>True):=⟨by unfold zvw; exact gu2⟩

instance (x_client:Str) (x_l:List zWQ):T (zqv x_client x_l) (Fm x_l∧x_l.length≤9200∧(∀f∈x_l,f.Value.length≤68000000)∧x_client.length≤1000) (fun r=>r.length≤x_l.length+1∧Fv r):=⟨by unfold zqv zlE; exact gu2⟩

instance (x_a0:zW2) (x_a1:Int) (x_a2:zWT):T (zqw x_a0 x_a1 x_a2) (Fm x_a2.Fields∧x_a2.Fields.length≤9000∧(∀f∈x_a2.Fields,f.Value.length≤66000000)∧x_a0.Client.length≤1000∧x_a0.Host.length≤1000∧x_a0.Scheme.length≤1000∧x_a0.By.length≤1000∧x_a1≤9223372036854775807) (fun r=>(Fv r.1.Fields∧r.1.Fields.length≤x_a2.Fields.length+3)∧r.1.Target.length≤x_a2.Target.length∧r.1.Method.length≤x_a2.Method.length∧r.1.Reason.length≤x_a2.Reason.length∧(r.1.Code=x_a2.Code∨r.1.Code=0)∧(r.1.Minor=x_a2.Minor∨r.1.Minor=0)):=⟨by unfold zqw zfg zlG zlF; exact gu2⟩

instance (x_f:zWY):T (zlH x_f) (x_f.N≤9223372036854775807) (fun r=>r.length≤1∧Fv r):=⟨by unfold zlH; exact gu2⟩

instance (x_env:zW2) (x_f:zWY) (x_h:zWT) (x_l:List zWU):T (zir x_env x_f x_h x_l) (Fm x_h.Fields∧x_h.Fields.length≤8000∧(∀f∈x_h.Fields,f.Value.length≤3000)∧x_h.Method.length≤10000∧x_h.Target.length≤10000∧x_h.Reason.length≤10000∧x_h.Code≤1000∧x_h.Minor≤1000∧0≤x_f.N∧x_f.N≤1099511627776∧x_env.Client.length≤1000∧x_env.Host.length≤1000∧x_env.Scheme.length≤1000∧x_env.By.length≤1000∧Swm x_env.Domains∧Swm x_env.Locations∧Rl x_l∧x_l.length≤400) (fun r=>Fm r.1.Fields∧r.1.Fields.length≤9500∧r.1.Method.length≤10000∧r.1.Target.length≤30000∧r.1.Reason.length≤10000∧r.1.Code≤1000∧r.1.Minor≤1000):=⟨by unfold zir; exact zx8⟩

end Go.Dm
end
section
set_option linter.unusedVariables false
set_option maxRecDepth 10000
set_option maxHeartbeats 2000000
namespace Go.Dm
instance (x_x:zW3):T (znh x_x) (True) (fun r=>r.From.length≤60∧r.To.length≤60):=⟨by unfold znh; exact gu1⟩

instance (v1:zW2) (n:Nat) (v5:zW2) (i7:Int):T (zgc v1 n v5 i7) (0≤i7∧i7≤6∧i7≤v1.Locations.length∧7<i7+n∧v5.Locations.length≤i7) (fun r=>r.Client=v5.Client∧r.Host=v5.Host∧r.Scheme=v5.Scheme∧r.By=v5.By):=by
 induction n generalizing v5 i7
 ·exact ⟨goz⟩
 exact ⟨by unfold zgc zmH; exact zBi⟩

instance (v1:zW2) (n:Nat) (v5:zW2) (i6:Int):T (zdE v1 n v5 i6) (0≤i6∧i6≤6∧i6≤v1.Domains.length∧7<i6+n∧v5.Domains.length≤i6∧v5.Locations.length=0) (fun r=>r.Client=v5.Client∧r.Host=v5.Host∧r.Scheme=v5.Scheme∧r.By=v5.By):=by
 induction n generalizing v5 i6
 ·exact ⟨goz⟩
 exact ⟨by unfold zdE zmI; exact zBi⟩

theorem s60 (l:Str):sTo l (min (l.length:Int) 60)=some (l.take 60):=by
 unfold sTo;rw [if_pos (by omega),show (min (l.length:Int) (60:Int)).toNat=min 60 l.length by omega, ← List.take_take,List.take_length]
theorem zxU (x:zW2) (n:Nat) (a b c d:Str):z7 x (n+1) (a,b,c,d) 0=z7 x n (a.take 60,b,c,d) 1:=by
 show ((sTo a (min (a.length:Int) 60)).bind fun r=>(zd 0 1).bind fun r1=>z7 x n (r,b,c,d) r1)=_;rw [s60]; rfl
theorem zxV (x:zW2) (n:Nat) (a b c d:Str):z7 x (n+1) (a,b,c,d) 1=z7 x n (a,b.take 60,c,d) 2:=by
 show ((sTo b (min (b.length:Int) 60)).bind fun r=>(zd 1 1).bind fun r1=>z7 x n (a,r,c,d) r1)=_;rw [s60]; rfl
theorem zxW (x:zW2) (n:Nat) (a b c d:Str):z7 x (n+1) (a,b,c,d) 2=z7 x n (a,b,c.take 60,d) 3:=by
 show ((sTo c (min (c.length:Int) 60)).bind fun r=>(zd 2 1).bind fun r1=>z7 x n (a,b,r,d) r1)=_;rw [s60]; rfl
theorem zxX (x:zW2) (n:Nat) (a b c d:Str):z7 x (n+1) (a,b,c,d) 3=z7 x n (a,b,c,d.take 60) 4:=by
 show ((sTo d (min (d.length:Int) 60)).bind fun r=>(zd 3 1).bind fun r1=>z7 x n (a,b,c,r) r1)=_;rw [s60]; rfl
theorem zFD (x:zW2) (n:Nat) (a b c d:Str):z7 x (n+1) (a,b,c,d) 4=zdE x fuel ⟨a,b,c,d,[],[]⟩ 0:=rfl
instance (x_a0:zW2):T (ztc x_a0) True (fun r=>r.Client.length≤60∧r.Host.length≤60∧r.Scheme.length≤60∧r.By.length≤60):=⟨fun _=>by
 unfold ztc;obtain ⟨n,hn⟩:∃n,fuel=n+1+1+1+1+1:=⟨999999999999999995,rfl⟩;have e:=zFD x_a0 n (x_a0.Client.take 60) (x_a0.Host.take 60) (x_a0.Scheme.take 60) (x_a0.By.take 60);obtain ⟨r,er,h1,h2,h3,h4⟩:=(inferInstance:T (zdE x_a0 fuel ⟨x_a0.Client.take 60,x_a0.Host.take 60,x_a0.Scheme.take 60,x_a0.By.take 60,[],[]⟩ 0) _ _).ok ⟨by omega,by omega,by omega,by unfold fuel; omega,by simp,by simp⟩;rw [er] at e;rw [show z7 x_a0 fuel (x_a0.Client,x_a0.Host,x_a0.Scheme,x_a0.By) 0=some r by rw [hn,zxU,zxV,zxW,zxX,e]]
 exact ⟨r,rfl,by rw [h1]; simp; omega,by rw [h2]; simp; omega,by rw [h3]; simp; omega,by rw [h4]; simp; omega⟩⟩

instance (l0:List zW3) (n:Nat) (l3:List zW3) (i4:Int):T (zgd l0 n l3 i4) (0≤i4∧i4≤70∧i4≤l0.length∧71<i4+n∧l3.length≤i4∧(∀x∈l3,x.From.length≤60∧x.To.length≤60)) (fun r=>r.length≤70∧∀x∈r,x.From.length≤60∧x.To.length≤60):=by
 induction n generalizing l3 i4
 ·exact ⟨goz⟩
 exact ⟨by unfold zgd zmJ; exact gu1⟩

instance (x_l:List zW3):T (zpf x_l) (True) (fun r=>r.length≤70∧∀x∈r,x.From.length≤60∧x.To.length≤60):=⟨by unfold zpf; exact gu1⟩

instance (x_env:zW2):T (ztd x_env) (True) (fun r=>r.Client.length≤60∧r.Host.length≤60∧r.Scheme.length≤60∧r.By.length≤60∧Swm r.Domains∧Swm r.Locations):=⟨by unfold ztd; exact zBi⟩

instance (l0:List zWR) (n:Nat) (l3:List zWR) (i4:Int):T (zge l0 n l3 i4) (0≤i4∧i4≤40∧i4≤l0.length∧41<i4+n∧l3.length≤i4∧∀p∈l3,p.Text.length≤60) (fun r=>r.length≤40∧∀p∈r,p.Text.length≤60):=by
 induction n generalizing l3 i4
 ·exact ⟨goz⟩
 exact ⟨by unfold zge zmK; exact zBi⟩

instance (x_l:List zWR):T (zpg x_l) (True) (fun r=>r.length≤40∧∀p∈r,p.Text.length≤60):=⟨by unfold zpg; exact zBi⟩

theorem zxY (x:zWU) (n:Nat) (a b c d:Str):zad x (n+1) (a,b,c,d) 0=zad x n (a.take 60,b,c,d) 1:=by
 show ((sTo a (min (a.length:Int) 60)).bind fun r=>(zd 0 1).bind fun r1=>zad x n (r,b,c,d) r1)=_;rw [s60]; rfl
theorem zxZ (x:zWU) (n:Nat) (a b c d:Str):zad x (n+1) (a,b,c,d) 1=zad x n (a,b.take 60,c,d) 2:=by
 show ((sTo b (min (b.length:Int) 60)).bind fun r=>(zd 1 1).bind fun r1=>zad x n (a,r,c,d) r1)=_;rw [s60]; rfl
theorem zx0 (x:zWU) (n:Nat) (a b c d:Str):zad x (n+1) (a,b,c,d) 2=zad x n (a,b,c.take 60,d) 3:=by
 show ((sTo c (min (c.length:Int) 60)).bind fun r=>(zd 2 1).bind fun r1=>zad x n (a,b,r,d) r1)=_;rw [s60]; rfl
theorem zx1 (x:zWU) (n:Nat) (a b c d:Str):zad x (n+1) (a,b,c,d) 3=zad x n (a,b,c,d.take 60) 4:=by
 show ((sTo d (min (d.length:Int) 60)).bind fun r=>(zd 3 1).bind fun r1=>zad x n (a,b,c,r) r1)=_;rw [s60]; rfl
theorem zFE (x:zWU) (n:Nat) (a b c d:Str):zad x (n+1) (a,b,c,d) 4=zmL ⟨x.Side,⟨x.Guard.Kind,c,d⟩,x.Kind,a,b,x.Parts⟩:=rfl
instance (x_r:zWU):T (zte x_r) True Rm:=⟨fun _=>by
 unfold zte;obtain ⟨n,hn⟩:∃n,fuel=n+1+1+1+1+1:=⟨999999999999999995,rfl⟩;obtain ⟨r,er,h1,h2⟩:=(inferInstance:T (zpg x_r.Parts) _ _).ok trivial;rw [hn,zxY,zxZ,zx0,zx1,zFE];unfold zmL;rw [er];refine ⟨_,rfl,?_⟩;unfold Rm Tp;simp only [List.length_take]
 exact ⟨by omega,by omega,by omega,by omega,by omega,fun p hp=>by have:=h2 p hp; omega⟩⟩

instance (l0:List zWU) (n:Nat) (l3:List zWU) (i4:Int):T (zgf l0 n l3 i4) (0≤i4∧i4≤70∧i4≤l0.length∧71<i4+n∧l3.length≤i4∧∀x∈l3,Rm x) (fun r=>r.length≤70∧∀x∈r,Rm x):=by
 induction n generalizing l3 i4
 ·exact ⟨goz⟩
 exact ⟨by unfold zgf zmM; exact zBi⟩

instance (x_l:List zWU):T (ztf x_l) (True) (fun r=>r.length≤70∧∀x∈r,Rm x):=⟨by unfold ztf; exact zBi⟩

instance  (n:Nat) (l3:List zWU) (i4:Int):T (zjV n l3 i4) (0≤i4∧i4≤l3.length∧l3.length<i4+n∧l3.length≤70∧∀x∈l3,Rm x) (fun r=>r.length≤70∧∀x∈r,Rm x):=by
 induction n generalizing l3 i4
 ·exact ⟨goz⟩
 exact ⟨by unfold zjV; exact zBi⟩

instance (x_l:List zWU):T (ztg x_l) (True) (fun r=>r.length≤70∧∀x∈r,Rm x):=⟨by unfold ztg; exact zBi⟩

instance (x_s:zXo):T (znd x_s) (True) (fun r=>r.Env.Client.length≤60∧r.Env.Host.length≤60∧r.Env.Scheme.length≤60∧r.Env.By.length≤60∧Swm r.Env.Domains∧Swm r.Env.Locations∧r.Rules.length≤70∧(∀x∈r.Rules,Rm x)∧r.Client.length≤3000∧r.Upstream.length≤3000∧r.Events.length≤150):=⟨by unfold znd; exact zBi⟩

end Go.Dm
end
section
set_option linter.unusedVariables false
namespace Go.Dm
theorem lAt_a {α:Type} {l m:List α} {i:Int} (h:i<l.length):lAt (l++m) i=lAt l i:=by
 unfold lAt
 split
 ·rw [List.getElem?_append_left (by omega)]
 ·rfl
theorem lAt_e {α:Type} {l:List α} {x:α} {i:Int} (h:i=l.length):lAt (l++[x]) i=some x:=by
 unfold lAt;rw [if_pos (by omega),List.getElem?_append_right (by omega)];simp [h]
def dq (l:List Str) (i:Int):List Str:=l.drop i.toNat
theorem dq_0 (l:List Str):dq l 0=l:=rfl
theorem dq_c {l:List Str} {i:Int} {x:Str} (h0:0≤i) (h:lAt l i=some x):dq l i=x::dq l (i+1):=by
 unfold lAt at h;rw [if_pos h0] at h;obtain ⟨h1,h2⟩:=List.getElem?_eq_some_iff.1 h;unfold dq;rw [List.drop_eq_getElem_cons h1,h2]
 congr 2
 omega
theorem dq_e {l:List Str} {i:Int} (h:i=l.length):dq l i=[]:=by
 unfold dq; exact List.drop_eq_nil_of_le (by omega)
theorem dq_s {l:List Str} {i:Int} {x:Str} (h:lAt l i=some x) (h0:0≤i):sl (dq l i)=x.length+sl (dq l (i+1)):=by rw [dq_c h0 h,zS]
def Hd (h:zWT):Prop:=h.Fields.length≤100∧(∀f∈h.Fields,f.Name.length≤3000∧f.Value.length≤3000)∧h.Method.length≤3000∧h.Target.length≤3000∧h.Reason.length≤3000∧0≤h.Code∧h.Code≤599∧0≤h.Minor∧h.Minor≤255
def Fr (a:zW4):Prop:=0≤a.zXO∧a.zXO≤a.zXs.length∧(a.zXO=0∨lAt a.zXs (a.zXO-1)=some 10)
def Am (a:zW4):Prop:=a.zXs.length≤3000∧Hd a.zXX∧(a.zYf=0→a.f_whole=false→Fr a)
def oA:Option zW4→Prop
 | none=>True
 | some a=>Am a
def kb:Option zW4→Int
 | none=>0
 | some a=>a.zXs.length
def Dn (d:zWS):Prop:=d.zX2.length≤4098∧0≤d.zYk∧d.zYk≤1099511627776∧0≤d.zX8∧d.zX8≤70000∧d.zX1≤65536∧d.zXU.length≤100∧∀f∈d.zXU,f.Name.length≤4098∧f.Value.length≤4098
def Dg (d:zWS):Prop:=d.zX8≤d.zX1∧d.zXj≠4∧(d.zXj=1∨d.zXj=2→1≤d.zXF∧d.zXF≤1099511627776)
def Dm (d:zWS):Prop:=Dn d∧(d.zXj=4∨Dg d)
def oD:Option zWS→Prop
 | none=>True
 | some d=>Dm d
def Bm (b:zXn):Prop:=oD b.Decoder∧0≤b.zXF∧b.zXF≤1099511627776∧(b.zXY.Kind=2→b.zXR=false→1≤b.zXF)
def oB:Option zXn→Prop
 | none=>True
 | some b=>Bm b
def Em (c:zW1):Prop:=1≤c.zX4∧c.zX4≤65536∧c.zXs.length≤65536
def oE:Option zW1→Prop
 | none=>True
 | some c=>Em c
def Ww (w:zW5):Prop:=oE w.Encoder∧w.zXF≤1099511627776
def oW:Option zW5→Prop
 | none=>True
 | some w=>Ww w
def Tl (l:List zWQ):Prop:=l.length≤100∧∀f∈l,f.Name.length≤4098∧f.Value.length≤4098
def Sd (s:zWX):Prop:=oA s.Accum∧oB s.zXW∧oW s.zW8
def Qm (q:zXg):Prop:=q.zX0.zXJ.length≤64∧1≤q.zX0.zXa∧q.zX0.zXa≤64
def oQ:Option zXg→Prop
 | none=>True
 | some q=>Qm q
def En (e:zW2):Prop:=e.Client.length≤1000∧e.Host.length≤1000∧e.Scheme.length≤1000∧e.By.length≤1000∧Swm e.Domains∧Swm e.Locations
def Ca (c:zXH):Prop:=c.Head≤65536
def Rg (l:List zWU):Prop:=Rl l∧l.length≤400
def Cd (c:Int):Prop:=c=0∨c=400∨c=431
def Gw (g:zWN):Prop:=oQ g.Queue∧En g.zYb∧Ca g.zXV∧Rg g.zXZ∧Sd g.zWP∧Sd g.zWO∧Cd g.zYe
def kc (g:zWN):Int:=kb g.zWP.Accum
def ku (g:zWN):Int:=kb g.zWO.Accum
def tc (g:zWN):Int:=g.zXQ.length
def tu (g:zWN):Int:=g.zYd.length
def kn:Option zW4→Nat
 | none=>0
 | some a=>a.zXs.length
theorem zIL (a:Option zW4):kb a=(kn a:Int):=by cases a<;>rfl
def Rs1 (g r:zWN):Prop:=r.Queue=g.Queue∧r.zYb=g.zYb∧r.zXV=g.zXV∧r.zXZ=g.zXZ∧r.zWP=g.zWP∧r.zWO=g.zWO∧r.zYe=g.zYe∧r.zXr=g.zXr∧r.zYa=g.zYa∧r.zXT=g.zXT∧r.zX6=g.zX6∧r.zX7=g.zX7∧r.zX9=g.zX9∧r.zWZ=g.zWZ
def st (b:Bool):Int:=if b=true then 0 else 1
theorem goG {G:Prop} (h:G:=by
 (with_reducible repeat' first|intro _|refine And.intro ?_ ?_|refine Wf ?_ ?_|refine Wi ?_ ?_|refine Ws ?_|refine Wc ?_ ?_|refine Wo ?_ ?_|refine Wk ?_|refine We ?_ ?_)
 all_goals (try simp only [List.length_cons,List.length_nil])
 all_goals grind (gen:=12) (ematch:=12) [lAt_a,lAt_e,dq_0, → dq_s,dq_e,Hd,Fr,Am,oA,kb, = zIL,Dn,Dg,Dm,oD,Bm,oB,Em,oE,Ww,oW,Tl,fuel,zb0,zct,zau,zS,ze7,Sm,Ss,Fv,Fm,Cw]):G:=h
theorem goH {G:Prop} (h:G:=by
 (with_reducible repeat' first|intro _|refine And.intro ?_ ?_|refine Wf ?_ ?_|refine Wi ?_ ?_|refine Ws ?_|refine Wc ?_ ?_|refine Wo ?_ ?_|refine Wk ?_|refine We ?_ ?_)
 all_goals (try simp only [List.length_cons,List.length_nil])
 all_goals grind (gen:=8) (ematch:=8) [oA,kb, = zIL,oB,oW,Sd,Qm,oQ,Gw,Cd,Ca,kc,ku,tc,tu,Rs1,st,fuel,zau,zS]):G:=h
def Gf (g:zWN):Prop:=Gw g∧kc g=0∧ku g=0∧tc g=0∧tu g=0∧g.zWZ=false
def Nw:Option zWN × Int→Prop
 | (none,e)=>e≠0
 | (some g,_)=>Gf g
theorem rtx {x:Option Str} (h:(match x with|some s=>decide (s.length≤1000)|none=>false)=true):W x (fun r=>r.length≤1000):=by
 cases x with
 | none=>cases h
 | some s=>exact ⟨s,rfl,by simpa using h⟩
theorem goF2 {G:Prop} (h:G:=by
 (with_reducible repeat' first|intro _|refine And.intro ?_ ?_|refine Wf ?_ ?_|refine Wi ?_ ?_|refine Ws ?_|refine Wc ?_ ?_|refine Wo ?_ ?_|refine Wk ?_|refine We ?_ ?_)
 all_goals (try simp only [List.length_cons,List.length_nil])
 all_goals grind (gen:=8) (ematch:=8) [dq_0, → dq_s,dq_e,tc,tu,Rs1,fuel,zau,zS]):G:=h
theorem goJ {G:Prop} (h:G:=by
 (with_reducible repeat' first|intro _|refine And.intro ?_ ?_|refine Wf ?_ ?_|refine Wi ?_ ?_|refine Ws ?_|refine Wc ?_ ?_|refine Wo ?_ ?_|refine Wk ?_|refine We ?_ ?_)
 all_goals (try simp only [List.length_cons,List.length_nil])
 all_goals grind (gen:=8) (ematch:=8) [oA,kb, = zIL,oB,oW,Sd,oQ,Gw,Cd,kc,ku,tc,tu,Rs1,st,fuel,zau,zS]):G:=h
theorem goO {G:Prop} (h:G:=by
 (with_reducible repeat' first|intro _|refine And.intro ?_ ?_|refine Wf ?_ ?_|refine Wi ?_ ?_|refine Ws ?_|refine Wc ?_ ?_|refine Wo ?_ ?_|refine Wk ?_|refine We ?_ ?_)
 all_goals (try simp only [List.length_cons,List.length_nil])
 all_goals grind (gen:=8) (ematch:=8) [Hd,En,Ca,Rg,Fm,Fv,oA,kb, = zIL,oB,oW,Sd,oQ,Gw,Cd,kc,ku,tc,tu,Rs1,st,fuel,zau,zS]):G:=h
theorem goN2 {G:Prop} (h:G:=by
 (with_reducible repeat' first|intro _|refine And.intro ?_ ?_|refine Wf ?_ ?_|refine Wi ?_ ?_|refine Ws ?_|refine Wc ?_ ?_|refine Wo ?_ ?_|refine Wk ?_|refine We ?_ ?_)
 all_goals (try simp only [List.length_cons,List.length_nil])
 all_goals grind (gen:=8) (ematch:=8) [Nw,Gf,Rm,Rl,Tp,Swm,Hd,En,Ca,Rg,Qm,oA,kb, = zIL,oB,oW,Sd,oQ,Gw,Cd,kc,ku,tc,tu,Rs1,st,fuel,zau,zS,zct]):G:=h
end Go.Dm
end
section
set_option linter.unusedVariables false
set_option maxRecDepth 10000
set_option maxHeartbeats 2000000
namespace Go.Dm
instance (x_size:Int):T (zht x_size) (True) (fun r=>oE r.1):=⟨by unfold zht; exact goG⟩

instance (x_most:Int):T (zlU x_most) (True) (fun r=>oQ r.1):=⟨by unfold zlU; exact goH⟩

end Go.Dm
end
section
set_option linter.unusedVariables false
set_option maxRecDepth 10000
set_option maxHeartbeats 2000000
namespace Go.Dm
instance (x_kind:Int) (x_limit:Int):T (ztm x_kind x_limit) (True) (fun r=>oA r.1∧kb r.1=0):=⟨by unfold ztm zgi; exact goG⟩

instance (x_kind:Int) (x_limit:Int):T (zdZ x_kind x_limit) (True) (fun r=>Sd r∧kb r.Accum=0):=⟨by unfold zdZ; exact goH⟩

instance (v4:zXH) (l72:List zWU) (i73:Int) (n:Nat) (v15:zWN) (i74:Int):T (zeg v4 l72 i73 n v15 i74) (l72.length≤400∧(∀r∈l72,Rm r)∧i73=l72.length∧0≤i74∧i74≤i73∧i73<i74+n∧v15.zXZ.length≤i74∧(∀r∈v15.zXZ,Rm r)∧oQ v15.Queue∧En v15.zYb∧Ca v15.zXV∧v15.zYe=0∧tc v15=0∧tu v15=0∧v15.zWZ=false) (fun r=>Nw r):=by
 induction n generalizing v15 i74
 ·exact ⟨goz⟩
 exact ⟨by unfold zeg; exact goN2⟩

instance (x_a0:zW2) (x_a1:zXH) (x_a2:List zWU):T (zf7 x_a0 x_a1 x_a2) (En x_a0∧x_a2.length≤400∧∀r∈x_a2,Rm r) (fun r=>Nw r):=⟨by unfold zf7 zfH zfG; exact goN2⟩

end Go.Dm
end
section
set_option linter.unusedVariables false
set_option maxRecDepth 10000
set_option maxHeartbeats 2000000
namespace Go.Dm
instance (x_g:zWN):T (zaE x_g) (True) (fun r=>r=x_g.zWZ):=⟨by unfold zaE; exact gu⟩

instance (x_w:Option zWV):T (zd4 x_w) (True) (fun r=>True):=⟨by unfold zd4; exact gu⟩

instance (x_e:zXA):T (zae x_e) (True) (fun r=>r=0→0≤x_e.N):=⟨by unfold zae zgO; exact gu⟩

instance  : T (zhc) (True) (fun r=>True):=⟨by unfold zhc; exact gu⟩

instance (x_a:zW4):T (zfq x_a) (True) (fun r=>True):=⟨by unfold zfq; exact gu⟩

instance (x_s:zWX):T (zhd x_s) (True) (fun r=>True):=⟨by unfold zhd; exact gu⟩

instance  : T (zgl) (True) (fun r=>True):=⟨by unfold zgl; exact gu⟩

instance (x_r:zXB):T (zig x_r) (x_r.zXa≤64∧x_r.zXJ.length≤64∧0≤x_r.zXa) (fun r=>True):=⟨by unfold zig; exact gu⟩

instance (x_q:zXg):T (zeT x_q) (Qm x_q) (fun r=>True):=⟨by unfold zeT; exact goH⟩

instance (x_g:zWN):T (zan x_g) (Gw x_g) (fun r=>r=true→x_g.zWZ=false∧x_g.zXr=false):=⟨by unfold zan; exact goH⟩

instance (x_a1:Str):T (zfQ x_a1) (True) (fun r=>r.1=0∧r.2.1=false∧r.2.2=5):=⟨by unfold zfQ; exact gu⟩

instance (x_e:Int):T (zqo x_e) (True) (fun r=>Cd r):=⟨by unfold zqo; exact goH⟩

instance  : T (zd5) (True) (fun r=>Hd r.1):=⟨by unfold zd5; exact goG⟩

end Go.Dm
end
section
set_option linter.unusedVariables false
set_option maxRecDepth 10000
set_option maxHeartbeats 2000000
namespace Go.Dm
instance (x_p:zXv):T (zc7 x_p) (Cw x_p.Scanner) (fun r=>0≤r.1∧r.1≤255∧Cw r.2.2∧r.2.2.zXI=x_p.Scanner.zXI∧x_p.Scanner.zXj≤r.2.2.zXj):=⟨by unfold zc7; exact gu1⟩

instance (x_p:zXv):T (zb5 x_p) (Cw x_p.Scanner) (fun r=>0≤r.2.1∧r.2.1≤255∧Cw r.2.2.2∧r.2.2.2.zXI=x_p.Scanner.zXI∧x_p.Scanner.zXj≤r.2.2.2.zXj):=⟨by unfold zb5; exact gu1⟩

instance (x_s:Str):T (zgS x_s) (x_s.length<1000000000) (fun r=>True):=⟨by unfold zgS; exact gu1⟩

instance (b:UInt8):T (zdy b) True (fun r=>r=nsp b):=bt (by decide +kernel) b

instance (x_p:zXv):T (zc8 x_p) (Cw x_p.Scanner) (fun r=>0≤r.1∧r.1≤255∧Cw r.2.2∧r.2.2.zXI=x_p.Scanner.zXI∧x_p.Scanner.zXj≤r.2.2.zXj):=⟨by unfold zc8; exact gu1⟩

instance (x_a0:Str):T (zhg x_a0) (x_a0.length≤10000000) (fun r=>r.1.Fields=[]∧r.1.Method.length≤x_a0.length∧r.1.Target.length≤x_a0.length∧r.1.Reason.length≤x_a0.length∧0≤r.1.Code∧r.1.Code≤599∧0≤r.1.Minor∧r.1.Minor≤255):=⟨by unfold zhg; exact gu1⟩

instance (x_a0:Str):T (zis x_a0) (x_a0.length≤10000000) (fun r=>r.1.Fields=[]∧r.1.Method.length≤x_a0.length∧r.1.Target.length≤x_a0.length∧r.1.Reason.length≤x_a0.length∧0≤r.1.Code∧r.1.Code≤599∧0≤r.1.Minor∧r.1.Minor≤255):=⟨by unfold zis; exact gu1⟩

instance (x_kind:Int) (x_s:Str):T (zdt x_kind x_s) (x_s.length≤10000000) (fun r=>r.1.Fields=[]∧r.1.Method.length≤x_s.length∧r.1.Target.length≤x_s.length∧r.1.Reason.length≤x_s.length∧0≤r.1.Code∧r.1.Code≤599∧0≤r.1.Minor∧r.1.Minor≤255):=⟨by unfold zdt zgp; exact gu1⟩

instance (x_a0:zWT):T (zhS x_a0) (x_a0.Method.length≤10000∧x_a0.Target.length≤30000∧x_a0.Reason.length≤10000∧x_a0.Code≤1000∧x_a0.Minor≤1000) (fun r=>r.1.length≤60000):=⟨by unfold zhS zhh zb6; exact gu1⟩

instance (l25:List Str) (i26:Int) (n:Nat) (i27:Int):T (zfh l25 i26 n i27) (Ss l25∧i26=l25.length∧0≤i27∧i27≤i26∧i26<i27+n) (fun r=>True):=by
 induction n generalizing i27
 ·exact ⟨goz⟩
 exact ⟨by unfold zfh zlI; exact gu1⟩

instance (x_h:zWT):T (zqx x_h) (Fm x_h.Fields) (fun r=>True):=⟨by unfold zqx; exact gu1⟩

instance (x_h:zWT):T (znr x_h) (Fm x_h.Fields) (fun r=>r=0→x_h.Fields.length≤100):=⟨by unfold znr; exact gu1⟩

instance (v1:zWT) (l17:List zWQ) (i18:Int) (n:Nat) (i19:Int):T (ziR v1 l17 i18 n i19) (Fm l17∧Fm v1.Fields∧i18=l17.length∧0≤i19∧i19≤i18∧i18<i19+n) (fun r=>r=0→v1.Fields.length≤100):=by
 induction n generalizing i19
 ·exact ⟨goz⟩
 exact ⟨by unfold ziR; exact gu1⟩

instance (x_h:zWT):T (zns x_h) (Fm x_h.Fields∧x_h.Method.length≤10000∧x_h.Target.length≤30000∧x_h.Reason.length≤10000∧x_h.Code≤1000∧x_h.Minor≤1000) (fun r=>r=0→x_h.Fields.length≤100):=⟨by unfold zns; exact gu1⟩

instance (x_most:Int):T (ztt x_most) (True) (fun r=>r.zYj=[]∧r.zXa=max x_most 0):=⟨by unfold ztt; exact gu⟩

instance (x_q:zXt):T (zit x_q) (0≤x_q.zXa∧x_q.zXa≤65536∧x_q.zYj.length≤x_q.zXa) (fun r=>r=x_q.zXa-x_q.zYj.length):=⟨by unfold zit; exact gu⟩

instance (l29:List Str) (i30:Int) (n:Nat) (vp0:zXt) (i31:Int):T (zc9 l29 i30 n vp0 i31) (i30=l29.length∧0≤i31∧i31≤i30∧i30<i31+n∧l29.length≤1000∧vp0.zYj.length+sl (dq l29 i31)≤65536) (fun r=>r.2.zXa=vp0.zXa∧r.2.zYj.length=vp0.zYj.length+sl (dq l29 i31)):=by
 induction n generalizing vp0 i31
 ·exact ⟨goz⟩
 exact ⟨by unfold zc9; exact goG⟩

instance (vp0:zXt) (l1:List Str) (l14:List Str) (i15:Int) (n:Nat) (i5:Int) (i16:Int):T (zda vp0 l1 l14 i15 n i5 i16) (l14=l1∧i15=l14.length∧0≤i16∧i16≤i15∧i15<i16+n∧l1.length≤1000∧vp0.zXa≤65536∧0≤i5∧i5≤65536∧vp0.zYj.length+sl l1=vp0.zXa-i5+sl (dq l14 i16)∧vp0.zYj.length≤vp0.zXa) (fun r=>r.2.zXa=vp0.zXa∧r.2.zYj.length≤vp0.zXa):=by
 induction n generalizing i5 i16
 ·exact ⟨goz⟩
 exact ⟨by unfold zda; exact goG⟩

instance (x_q:zXt) (x_l:List Str):T (zhi x_q x_l) (0≤x_q.zXa∧x_q.zXa≤65536∧x_q.zYj.length≤x_q.zXa∧x_l.length≤1000) (fun r=>r.2.zXa=x_q.zXa∧r.2.zYj.length≤x_q.zXa):=⟨by unfold zhi; exact goG⟩

instance (x_q:zXt) (x_l:List Str):T (zgq x_q x_l) (0≤x_q.zXa∧x_q.zXa≤65536∧x_q.zYj.length≤x_q.zXa∧x_l.length≤100) (fun r=>r.2.zXa=x_q.zXa∧r.2.zYj.length≤x_q.zXa):=⟨by unfold zgq; exact goG⟩

instance (x_p:zXL) (x_s:Str):T (zcn x_p x_s) (0≤x_p.Quill.zXa∧x_p.Quill.zXa≤65536∧x_p.Quill.zYj.length≤x_p.Quill.zXa) (fun r=>r.Quill.zXa=x_p.Quill.zXa∧r.Quill.zYj.length≤x_p.Quill.zXa):=⟨by unfold zcn; exact goG⟩

instance (x_f:zWQ):T (zhT x_f) (x_f.Name.length≤100000000∧x_f.Value.length≤100000000) (fun r=>r.1.length≤x_f.Name.length+x_f.Value.length+2):=⟨by unfold zhT; exact gu⟩

instance (x_q:zXt):T (ziu x_q) (True) (fun r=>r=x_q.zYj):=⟨by unfold ziu; exact gu⟩

instance (l32:List zWQ) (i33:Int) (n:Nat) (v7:zXL) (i34:Int):T (ziS l32 i33 n v7 i34) (Fm l32∧i33=l32.length∧0≤i34∧i34≤i33∧i33<i34+n∧0≤v7.Quill.zXa∧v7.Quill.zXa≤65536∧v7.Quill.zYj.length≤v7.Quill.zXa) (fun r=>r.1.length≤65536):=by
 induction n generalizing v7 i34
 ·exact ⟨goz⟩
 exact ⟨by unfold ziS; exact goG⟩

instance (x_h:zWT) (x_limit:Int):T (zjt x_h x_limit) (Fm x_h.Fields∧x_h.Method.length≤10000∧x_h.Target.length≤30000∧x_h.Reason.length≤10000∧x_h.Code≤1000∧x_h.Minor≤1000∧x_limit≤65536) (fun r=>r.1.length≤65536):=⟨by unfold zjt; exact goG⟩

end Go.Dm
end
section
set_option linter.unusedVariables false
set_option maxRecDepth 10000
set_option maxHeartbeats 2000000
namespace Go.Dm
instance (x_g:zWN) (x_h:zWT):T (zdM x_g x_h) (Gw x_g∧Hd x_h) (fun r=>r.1.length≤65536∧0≤r.2.1.N∧r.2.1.N≤1099511627776):=⟨by unfold zdM; exact goO⟩

instance (x_limit:Int):T (zor x_limit) (True) (fun r=>oD r.1):=⟨by unfold zor; exact goG⟩

instance (x_a0:zWY) (x_a1:Int):T (zr4 x_a0 x_a1) (True) (fun r=>oB r.1):=⟨by unfold zr4 zot zos zl9; exact goG⟩

instance (x_a:zW4):T (zcR x_a) (Am x_a) (fun r=>Hd r.1):=⟨by unfold zcR; exact goG⟩

instance (x_a1:Str):T (zhU x_a1) (True) (fun r=>r.1=0∧r.2.1.length=0∧r.2.2.1=false∧r.2.2.2=5):=⟨by unfold zhU; exact gu⟩

instance  : T (zdb) (True) (fun r=>r=5):=⟨by unfold zdb; exact gu⟩

instance (x_s:Str):T (zeo x_s) (True) (fun r=>r.1.length=0):=⟨by unfold zeo; exact gu⟩

instance  : T (zbN) (True) (fun r=>Tl r):=⟨by unfold zbN; exact goG⟩

instance (x_trailers:List zWQ):T (zbO x_trailers) (True) (fun r=>r.1.length=0):=⟨by unfold zbO; exact gu⟩

end Go.Dm
end
section
set_option linter.unusedVariables false
set_option maxRecDepth 10000
set_option maxHeartbeats 2000000
namespace Go.Dm
instance {P:Bool→Prop} (k0:Int→Option Bool) (s0:Str) (i13:Int) (l23:List Str) (i24:Int) (n:Nat) (i25:Int):K (ziT k0 s0 i13 l23 i24 n i25) P ((Sm l23∧i24=l23.length∧0≤i25∧i25≤i24∧i24<i25+n∧s0.length<1000000∧l23.length≤4000000000000∧0≤i13∧i13≤10000∧P true)∧(∀i,i=i13+1→W (k0 i) P)):=by
 induction n generalizing i25
 ·exact ⟨goz⟩
 exact ⟨fun ⟨h,hk0⟩=>by have hk0:=fun a0=>K.mk (hk0 a0); unfold ziT; exact gu⟩

instance (s0:Str) (l11:List Str) (i12:Int) (n:Nat) (i13:Int):T (zg8 s0 l11 i12 n i13) (Ss l11∧i12=l11.length∧0≤i13∧i13≤i12∧i12<i13+n∧s0.length<1000000) (fun r=>True):=by
 induction n generalizing i13
 ·exact ⟨goz⟩
 exact ⟨by unfold zg8; exact gu⟩

instance (x_token:Str) (x_l:List Str):T (znt x_token x_l) (Ss x_l∧x_token.length<1000000) (fun r=>True):=⟨by unfold znt; exact gu⟩

instance (x_h:zWT):T (zpl x_h) (Fm x_h.Fields) (fun r=>True):=⟨by unfold zpl; exact gu⟩

instance (x_h:zWT):T (zqy x_h) (Fm x_h.Fields) (fun r=>True):=⟨by unfold zqy; exact gu⟩

instance (x_l:List zW0):T (zgr x_l) (True) (fun r=>True):=⟨by unfold zgr; exact gu⟩

instance (x_t:zW0):T (zjf x_t) (True) (fun r=>True):=⟨by unfold zjf; exact gu⟩

instance (l0:List zW0) (i7:Int) (n:Nat) (i8:Int):T (zt l0 i7 n i8) (i7=l0.length∧0≤i8∧i8≤i7∧i7<i8+n∧l0.length≤1000) (fun r => -1≤r∧r<l0.length):=by
 induction n generalizing i8
 ·exact ⟨goz⟩
 exact ⟨by unfold zt; exact gu⟩

instance (x_s:List zW0):T (zL x_s) (x_s.length≤1000) (fun r => -1≤r∧r<x_s.length):=⟨by unfold zL; exact gu⟩

instance (x_l:List zW0):T (zlJ x_l) (x_l.length≤1000) (fun r=>True):=⟨by unfold zlJ; exact gu⟩

instance  : T (zc3) (True) (fun r=>Tl r):=⟨by unfold zc3; exact goG⟩

instance (x_d:zWS):T (zb7 x_d) (Dm x_d) (fun r=>Tl r):=⟨by unfold zb7; exact goG⟩

end Go.Dm
end
section
set_option linter.unusedVariables false
set_option maxRecDepth 10000
set_option maxHeartbeats 2000000
namespace Go.Dm
instance (x_b:zXn):T (za7 x_b) (Bm x_b) (fun r=>Tl r):=⟨by unfold za7; exact goG⟩

instance (x_w:zW5):T (zb8 x_w) (True) (fun r=>r=0∨r=8):=⟨by unfold zb8; exact gu⟩

instance  : T (zcH) (True) (fun r=>r=5):=⟨by unfold zcH; exact gu⟩

instance (l0:List zWQ) (l10:List zWQ) (i11:Int) (n:Nat) (l4:List Str) (i12:Int):T (zeX l0 l10 i11 n l4 i12) (Tl l0∧Tl l10∧i11=l10.length∧0≤i12∧i12≤i11∧i11<i12+n∧l4.length≤i12+1∧sl l4≤10000*i12+1) (fun r=>r.1.length≤1100000):=by
 induction n generalizing l4 i12
 ·exact ⟨goz⟩
 exact ⟨by unfold zeX; exact goG⟩

instance (x_trailers:List zWQ):T (zep x_trailers) (Tl x_trailers) (fun r=>r.1.length≤1100000):=⟨by unfold zep; exact goG⟩

instance (x_trailers:List zWQ):T (zfu x_trailers) (Tl x_trailers) (fun r=>r.1.length=0):=⟨by unfold zfu; exact goG⟩

instance (x_c:zW1):T (zbV x_c) (True) (fun r=>r=0∨r=8):=⟨by unfold zbV; exact gu⟩

instance (x_n:Int):T (zjg x_n) (x_n<1048576) (fun r=>r.length≤21):=⟨by unfold zjg; exact gu⟩

instance (x_n:Int):T (zkm x_n) (x_n<1048576) (fun r=>r.length≤21):=⟨by unfold zkm; exact gu⟩

instance (x_data:Str):T (zdu x_data) (x_data.length<1000000) (fun r=>r.length≤x_data.length+60):=⟨by unfold zdu; exact gu⟩

instance (x_s:Str):T (zfv x_s) (True) (fun r=>r.1.length=0):=⟨by unfold zfv; exact gu⟩

instance (x_s:Str):T (zeY x_s) (True) (fun r=>r.1=0∧r.2.1.length=0∧r.2.2.1=false∧r.2.2.2=5):=⟨by unfold zeY; exact gu⟩

instance  : T (zeZ) (True) (fun r=>r=0):=⟨by unfold zeZ; exact gu⟩

end Go.Dm
end
section
set_option linter.unusedVariables false
set_option maxRecDepth 10000
set_option maxHeartbeats 2000000
namespace Go.Dm
instance (x_method:Str) (x_code:Int):T (zjh x_method x_code) (True) (fun r=>True):=⟨by unfold zjh; exact gu2⟩

instance (x_method:Str) (x_h:zWT):T (zgT x_method x_h) (Fm x_h.Fields) (fun r=>0≤r.1.N∧r.1.N≤1099511627776):=⟨by unfold zgT; exact gu2⟩

end Go.Dm
end
section
set_option linter.unusedVariables false
set_option maxRecDepth 10000
set_option maxHeartbeats 2000000
namespace Go.Dm
set_option maxRecDepth 100000 in
instance (x_code:Int):T (zus x_code) (x_code=400∨x_code=431∨x_code=502) (fun r=>r.length≤1000):=⟨fun h=>by
 rcases h with rfl|rfl|rfl
 ·exact rtx (by decide +kernel)
 ·exact rtx (by decide +kernel)
 ·exact rtx (by decide +kernel)⟩

instance (x_q:zXg):T (zdz x_q) (True) (fun r=>r=x_q.zX0.zXJ.length):=⟨by unfold zdz; exact gu⟩

instance (x_g:zWN) (x_e:Int):T (zaT x_g x_e) (Gw x_g) (fun r=>Gw r∧kc r=0∧ku r=ku x_g∧tc r=tc x_g∧tu r=tu x_g∧r.zXr=true):=⟨by unfold zaT; exact goH⟩

instance (l6:List Str) (i7:Int) (n:Nat) (vp0:zWN) (i8:Int):T (zaH l6 i7 n vp0 i8) (i7=l6.length∧l6.length≤1000∧0≤i8∧i8≤i7∧i7<i8+n∧tu vp0+sl (dq l6 i8)≤100000000000000) (fun r=>Rs1 vp0 r∧tc r=tc vp0∧tu r=tu vp0+sl (dq l6 i8)):=by
 induction n generalizing vp0 i8
 ·exact ⟨goz⟩
 exact ⟨by unfold zaH; exact goF2⟩

instance (x_g:zWN) (x_l:List Str):T (zaC x_g x_l) (x_l.length≤1000∧tu x_g+sl x_l≤100000000000000) (fun r=>Rs1 x_g r∧tc r=tc x_g∧tu r=tu x_g+sl x_l):=⟨by unfold zaC; exact goF2⟩

instance (x_f:zWY) (x_size:Int):T (zma x_f x_size) (x_f.N≤1099511627776) (fun r=>oW r.1):=⟨by unfold zma zkn; exact goG⟩

instance  : T (zhV) (True) (fun r=>True):=⟨by unfold zhV; exact gu⟩

instance (x_q:zXg) (x_l:List zW0):T (ze0 x_q x_l) (Qm x_q∧x_l.length≤1) (fun r=>Qm r.2):=⟨by unfold ze0 zdg; exact goH⟩

instance (x_c:zW1) (x_trailers:List zWQ):T (zez x_c x_trailers) (Em x_c∧Tl x_trailers) (fun r=>r.1.length≤1200000∧Em r.2.2):=⟨by unfold zez; exact goG⟩

instance (x_w:zW5) (x_trailers:List zWQ):T (za8 x_w x_trailers) (Ww x_w∧Tl x_trailers) (fun r=>r.1.length≤1200000∧Ww r.2.2):=⟨by unfold za8 za5; exact goG⟩

instance (vp0:zWN) (v6:zW0):T (za9 vp0 v6) (Gw vp0) (fun r=>Gw r∧kc r=0∧ku r=ku vp0∧tc r=tc vp0∧tu r=tu vp0):=⟨by unfold za9; exact goH⟩

instance (vp0:zWN) (v4:zWT):T (zba vp0 v4) (Gw vp0∧Hd v4) (fun r=>Gw r∧kc r=0∧ku r=ku vp0∧tc r=tc vp0∧tu r=tu vp0):=⟨by unfold zba; exact goO⟩

instance (vp0:zWN) (s2:Str):T (z6 vp0 s2) (Gw vp0∧s2.length≤1200000∧tu vp0≤50000000000000) (fun r=>Gw r∧kc r=0∧ku r=ku vp0∧tc r=tc vp0∧tu r≤tu vp0+1200000):=⟨by unfold z6; exact goJ⟩

instance (x_g:zWN):T (zbW x_g) (Gw x_g∧tu x_g≤50000000000000) (fun r=>Gw r∧kc r=0∧ku r=ku x_g∧tc r=tc x_g∧tu r≤tu x_g+1200000):=⟨by unfold zbW; exact goJ⟩

end Go.Dm
end
section
set_option linter.unusedVariables false
set_option maxRecDepth 10000
set_option maxHeartbeats 2000000
namespace Go.Dm
instance (x_b:zXn):T (zfU x_b) (True) (fun r=>True):=⟨by unfold zfU; exact gu⟩

instance (vp0:zWN) (t65:Bool):T (zbb vp0 t65) (Gw vp0∧tu vp0≤50000000000000) (fun r=>Gw r∧kc r≤kc vp0∧ku r=ku vp0∧tc r=tc vp0∧tu r≤tu vp0+1200000):=⟨by unfold zbb; exact goJ⟩

instance (vp0:zWN):T (zbc vp0) (Gw vp0∧tu vp0≤50000000000000) (fun r=>Gw r∧kc r≤kc vp0∧ku r=ku vp0∧tc r=tc vp0∧tu r≤tu vp0+1200000):=⟨by unfold zbc; exact goJ⟩

instance (vp0:zWN) (v5:zWY):T (zbd vp0 v5) (Gw vp0∧v5.N≤1099511627776∧tu vp0≤50000000000000) (fun r=>Gw r∧kc r≤kc vp0∧ku r=ku vp0∧tc r=tc vp0∧tu r≤tu vp0+1200000):=⟨by unfold zbd; exact goJ⟩

instance (vp0:zWN) (v2:zWT):T (zbe vp0 v2) (Gw vp0∧Hd v2∧tu vp0≤40000000000000) (fun r=>Gw r∧kc r≤kc vp0∧ku r=ku vp0∧tc r=tc vp0∧tu r≤tu vp0+1300000):=⟨by unfold zbe; exact goJ⟩

instance (x_a0:zWN):T (zdh x_a0) (Gw x_a0∧tu x_a0≤40000000000000) (fun r=>Gw r∧kc r≤kc x_a0∧ku r=ku x_a0∧tc r=tc x_a0∧tu r≤tu x_a0+1300000):=⟨by unfold zdh; exact goJ⟩

instance (x_a:zW4):T (ziv x_a) (1≤x_a.zXs.length∧x_a.zXs.length≤1000000) (fun r=>r=false→lAt x_a.zXs (x_a.zXs.length-1)=some 10→1<x_a.zXs.length∧lAt x_a.zXs (x_a.zXs.length-2)=some 13):=⟨by unfold ziv zfw; exact goG⟩

instance (x_c:zWW):T (zcI x_c) (Cw x_c) (fun r=>Cw r.2∧r.2.zXI=x_c.zXI∧x_c.zXj≤r.2.zXj∧r.1.length≤x_c.zXI.length):=⟨by unfold zcI; exact gu⟩

instance (x_s:Str):T (zeM x_s) (x_s.length≤10000) (fun r=>r.1.Name.length≤x_s.length∧r.1.Value.length≤x_s.length):=⟨by unfold zeM; exact gu⟩

instance (l64:List Str) (i65:Int) (n:Nat) (v12:zWT) (i66:Int):T (ziU l64 i65 n v12 i66) (l64.length≤9000∧(∀s∈l64,s.length≤3000)∧i65=l64.length∧0≤i66∧i66≤i65∧i65<i66+n∧v12.Fields.length≤i66∧(∀f∈v12.Fields,f.Name.length≤3000∧f.Value.length≤3000)∧v12.Method.length≤3000∧v12.Target.length≤3000∧v12.Reason.length≤3000∧0≤v12.Code∧v12.Code≤599∧0≤v12.Minor∧v12.Minor≤255) (fun r=>Hd r.1):=by
 induction n generalizing v12 i66
 ·exact ⟨goz⟩
 exact ⟨by unfold ziU; exact goG⟩

instance (x_a0:Int) (x_a1:Str) (x_a2:Int):T (zqz x_a0 x_a1 x_a2) (x_a1.length≤3000) (fun r=>Hd r.1):=⟨by unfold zqz; exact goG⟩

end Go.Dm
end
section
set_option linter.unusedVariables false
set_option maxRecDepth 10000
set_option maxHeartbeats 2000000
namespace Go.Dm
instance (x_a:zW4) (x_s:Str):T (zgs x_a x_s) (x_a.zXs.length≤3000∧x_s.length≤3000∧Hd x_a.zXX) (fun r=>r.2.2.zXs=x_a.zXs∧Hd r.2.2.zXX∧(r.1=false→r.2.1=0→r.2.2.zXO=x_a.zXs.length)):=⟨by unfold zgs zeA; exact goG⟩

instance (x_a:zW4) (x_b:UInt8):T (zgt x_a x_b) (x_a.zXs.length<3000∧Hd x_a.zXX∧Fr x_a) (fun r=>r.2.2.zXs.length≤x_a.zXs.length+1∧Hd r.2.2.zXX∧(r.1=false→r.2.1=0→Fr r.2.2)):=⟨by unfold zgt; exact goG⟩

instance (s1:Str) (i24:Int) (n:Nat) (vp0:zW4) (i25:Int):T (zaV s1 i24 n vp0 i25) (i24=s1.length∧s1.length≤3000∧0≤i25∧i25≤i24∧i24<i25+n∧vp0.zXs.length+(i24-i25)≤3000∧Hd vp0.zXX∧Fr vp0∧vp0.zYf=0∧vp0.f_whole=false) (fun r=>Am r.2.2.2∧i25≤r.1∧r.1≤i24∧(i25<i24→i25<r.1)∧r.2.2.2.zXs.length≤vp0.zXs.length+(r.1-i25)):=by
 induction n generalizing vp0 i25
 ·exact ⟨goz⟩
 exact ⟨by unfold zaV zeB; exact goG⟩

instance (x_a0:zW4) (x_a1:Str):T (zeq x_a0 x_a1) (Am x_a0∧x_a0.zXs.length+x_a1.length≤3000) (fun r=>Am r.2.2.2∧0≤r.1∧r.1≤x_a1.length∧(r.1=0→x_a1.length=0∨r.2.2.1≠0)∧r.2.2.2.zXs.length≤x_a0.zXs.length+r.1):=⟨by unfold zeq; exact goG⟩

instance  (n:Nat) (vp0:zW1) (l7:List Str):T (zbC n vp0 l7) (1≤vp0.zX4∧vp0.zX4≤65536∧vp0.zXs.length≤70000∧vp0.zXs.length<n∧l7.length+vp0.zXs.length≤70000∧sl l7+70*vp0.zXs.length≤4900000) (fun r=>r.1.length≤7000000∧Em r.2.2):=by
 induction n generalizing vp0 l7
 ·exact ⟨goz⟩
 exact ⟨by unfold zbC; exact goG⟩

instance (x_c:zW1) (x_s:Str):T (zeC x_c x_s) (Em x_c∧x_s.length≤3000) (fun r=>r.1.length≤7000000∧Em r.2.2):=⟨by unfold zeC; exact goG⟩

end Go.Dm
end
section
set_option linter.unusedVariables false
set_option maxRecDepth 10000
set_option maxHeartbeats 2000000
namespace Go.Dm
instance (x_w:zW5) (x_s:Str):T (zdc x_w x_s) (Ww x_w∧x_s.length≤3000) (fun r=>r.1.length≤7000000∧Ww r.2.2):=⟨by unfold zdc zdi zdk zdj; exact goG⟩

instance (x_d:zWS) (x_s:Str):T (zdN x_d x_s) (Dn x_d∧Dg x_d∧x_d.zXj=1∧1≤x_s.length∧x_s.length≤3000) (fun r=>Dn r.2∧Dg r.2∧1≤r.1.length∧r.1.length≤x_s.length):=⟨by unfold zdN zcw; exact goG⟩

instance (x_d:zWS) (x_b:UInt8):T (zdl x_d x_b) (Dn x_d∧Dg x_d∧x_d.zXj=2) (fun r=>Dn r.2∧(r.1=0→Dg r.2)):=⟨by unfold zdl zca zb9; exact goG⟩

instance (x_s:Str) (x_most:Int):T (zou x_s x_most) (x_s.length<1000000000∧0≤x_most∧x_most≤9223372036854775807) (fun r=>0≤r.1∧r.1≤x_most):=⟨by unfold zou; exact gu⟩

instance (x_c:zWW):T (zlK x_c) (Cw x_c) (fun r=>Cw r.2.2∧r.2.2.zXI=x_c.zXI∧x_c.zXj≤r.2.2.zXj):=⟨by unfold zlK; exact gu⟩

instance (x_r:zXz):T (ze1 x_r) (Cw x_r.Scanner) (fun r=>Cw r.2.2∧r.2.2.zXI=x_r.Scanner.zXI∧x_r.Scanner.zXj≤r.2.2.zXj):=⟨by unfold ze1; exact gu⟩

instance (i7:Int) (i8:Int) (n:Nat) (v5:zXz) (l9:List zXp):T (zer i7 i8 n v5 l9) (Cw v5.Scanner∧v5.Scanner.zXI.length<v5.Scanner.zXj+n∧l9.length≤v5.Scanner.zXj∧0≤i7∧i7≤1099511627776∧v5.Scanner.zXI.length≤1000000) (fun r=>0≤r.1∧r.1≤1099511627776):=by
 induction n generalizing v5 l9
 ·exact ⟨goz⟩
 exact ⟨by unfold zer; exact gu⟩

instance (x_s:Str):T (zji x_s) (x_s.length≤1000000) (fun r=>0≤r.1∧r.1≤1099511627776):=⟨by unfold zji; exact gu⟩

instance (x_d:zWS) (x_s:Str):T (zdO x_d x_s) (Dn x_d∧Dg x_d∧x_s.length≤5000∧x_d.zXj=0) (fun r=>Dn r.2∧(r.1=0→Dg r.2)):=⟨by unfold zdO; exact goG⟩

instance (x_d:zWS) (x_s:Str):T (zcx x_d x_s) (Dn x_d∧x_s.length≤4098) (fun r=>Dn r.2.2∧r.2.2.zXj=x_d.zXj∧r.2.2.zX8=x_d.zX8∧r.2.2.zX1=x_d.zX1∧r.2.2.zXF=x_d.zXF):=⟨by unfold zcx; exact goG⟩

instance (x_a0:zWS) (x_a1:UInt8):T (zdm x_a0 x_a1) (Dn x_a0∧Dg x_a0∧x_a0.zXj≠1∧x_a0.zXj≠2) (fun r=>Dn r.2.2∧(r.1=false→r.2.1=0→Dg r.2.2)):=⟨by unfold zdm zcd zcc zcb; exact goG⟩

instance (x_d:zWS) (x_s:Str):T (zdP x_d x_s) (Dn x_d∧Dg x_d∧1≤x_s.length∧x_s.length≤3000) (fun r=>1≤r.1∧r.1≤x_s.length∧r.2.1.length≤r.1∧Dn r.2.2.2.2∧(r.2.2.1=false→r.2.2.2.1=0→Dg r.2.2.2.2)):=⟨by unfold zdP; exact goG⟩

end Go.Dm
end
section
set_option linter.unusedVariables false
set_option maxRecDepth 10000
set_option maxHeartbeats 2000000
namespace Go.Dm
instance (s1:Str) (n:Nat) (vp0:zWS) (i4:Int) (t6:Bool) (i7:Int) (l8:List UInt8):T (zT s1 n vp0 i4 t6 i7 l8) (0≤i4∧i4≤s1.length∧s1.length<i4+n∧s1.length≤3000∧l8.length≤i4∧Dn vp0∧(t6=false→i7=0→Dg vp0)) (fun r=>i4≤r.1∧r.1≤s1.length∧r.2.1.length≤r.1∧Dm r.2.2.2.2∧(t6=false→i7=0→i4<s1.length→i4<r.1)):=by
 induction n generalizing vp0 i4 t6 i7 l8
 ·exact ⟨goz⟩
 exact ⟨by unfold zT zbq zcz zcy; exact goG⟩

instance (x_d:zWS) (x_s:Str):T (zdQ x_d x_s) (Dm x_d∧x_s.length≤3000) (fun r=>0≤r.1∧r.1≤x_s.length∧r.2.1.length≤r.1∧Dm r.2.2.2.2∧(r.1=0→x_s.length=0∨r.2.2.2.1≠0)):=⟨by unfold zdQ; exact goG⟩

instance (x_a0:zXn) (x_a1:Str):T (zfV x_a0 x_a1) (Bm x_a0∧x_a1.length≤3000) (fun r=>0≤r.1∧r.1≤x_a1.length∧r.2.1.length≤3000∧Bm r.2.2.2.2∧(r.1=0→x_a1.length=0∨r.2.2.2.1≠0)):=⟨by unfold zfV zfx zfy; exact goG⟩

end Go.Dm
end
section
set_option linter.unusedVariables false
set_option maxRecDepth 10000
set_option maxHeartbeats 2000000
namespace Go.Dm
instance (vp0:zWN) (i5:Int) (t6:Bool) (i7:Int):T (zaI vp0 i5 t6 i7) (Gw vp0∧tu vp0≤40000000000000) (fun r=>r.1=i5∧Gw r.2∧kc r.2≤kc vp0∧ku r.2=ku vp0∧tc r.2=tc vp0∧tu r.2≤tu vp0+1300000∧(i7≠0→r.2.zXr=true)):=⟨by unfold zaI; exact goJ⟩

instance (vp0:zWN) (i8:Int) (t10:Bool) (i11:Int) (s12:Str):T (zaJ vp0 i8 t10 i11 s12) (Gw vp0∧s12.length≤7000000∧tu vp0≤30000000000000) (fun r=>r.1=i8∧Gw r.2∧kc r.2≤kc vp0∧ku r.2=ku vp0∧tc r.2=tc vp0∧tu r.2≤tu vp0+8200000∧(i11≠0→r.2.zXr=true)):=⟨by unfold zaJ; exact goJ⟩

instance (vp0:zWN) (i8:Int) (s9:Str) (t10:Bool) (i11:Int):T (zaK vp0 i8 s9 t10 i11) (Gw vp0∧s9.length≤3000∧tu vp0≤30000000000000) (fun r=>r.1=i8∧Gw r.2∧kc r.2≤kc vp0∧ku r.2=ku vp0∧tc r.2=tc vp0∧tu r.2≤tu vp0+8200000∧(i11≠0→r.2.zXr=true)):=⟨by unfold zaK; exact goJ⟩

instance (vp0:zWN) (s1:Str) (t19:Bool):T (zaL vp0 s1 t19) (Gw vp0∧kc vp0+s1.length≤3000∧tu vp0≤30000000000000) (fun r=>0≤r.1∧r.1≤s1.length∧Gw r.2∧kc r.2≤kc vp0+r.1∧ku r.2=ku vp0∧tc r.2=tc vp0∧tu r.2≤tu vp0+8200000∧(r.1=0→s1.length=0∨r.2.zXr=true)):=⟨by unfold zaL; exact goJ⟩

instance (x_a0:zWN) (x_a1:Str):T (zcA x_a0 x_a1) (Gw x_a0∧kc x_a0+x_a1.length≤3000∧tu x_a0≤30000000000000) (fun r=>0≤r.1∧r.1≤x_a1.length∧Gw r.2∧kc r.2≤kc x_a0+r.1∧ku r.2=ku x_a0∧tc r.2=tc x_a0∧tu r.2≤tu x_a0+8200000∧(r.1=0→x_a1.length=0∨r.2.zXr=true)):=⟨by unfold zcA; exact goJ⟩

instance (l6:List Str) (i7:Int) (n:Nat) (vp0:zWN) (i8:Int):T (zbr l6 i7 n vp0 i8) (i7=l6.length∧l6.length≤1000∧0≤i8∧i8≤i7∧i7<i8+n∧tc vp0+sl (dq l6 i8)≤100000000000000) (fun r=>Rs1 vp0 r∧tu r=tu vp0∧tc r=tc vp0+sl (dq l6 i8)):=by
 induction n generalizing vp0 i8
 ·exact ⟨goz⟩
 exact ⟨by unfold zbr; exact goF2⟩

instance (x_g:zWN) (x_l:List Str):T (zag x_g x_l) (x_l.length≤1000∧tc x_g+sl x_l≤100000000000000) (fun r=>Rs1 x_g r∧tu r=tu x_g∧tc r=tc x_g+sl x_l):=⟨by unfold zag; exact goF2⟩

instance (x_g:zWN):T (z8 x_g) (Gw x_g) (fun r=>Gw r∧kc r=0∧ku r=0∧tc r=tc x_g∧tu r=tu x_g∧r.zWZ=true∧r.zXr=x_g.zXr∧r.zXT=x_g.zXT):=⟨by unfold z8; exact goH⟩

instance (x_g:zWN) (x_code:Int):T (zaF x_g x_code) (Gw x_g∧(x_code=400∨x_code=431∨x_code=502)∧tc x_g≤50000000000000) (fun r=>Gw r∧kc r=0∧ku r=0∧tc r≤tc x_g+1000∧tu r=tu x_g∧r.zWZ=true∧r.zXr=x_g.zXr∧r.zXT=x_g.zXT):=⟨by unfold zaF; exact goJ⟩

instance (vp0:zWN) (i2:Int) (t13:Bool):T (zaj vp0 i2 t13) (Gw vp0∧tc vp0≤50000000000000) (fun r=>Gw r∧kc r≤kc vp0∧ku r≤ku vp0∧tc r≤tc vp0+1000∧tu r=tu vp0∧(vp0.zXr=true→r.zXr=true)∧(vp0.zWZ=true→r.zWZ=true)∧(vp0.zXT=true→r.zXT=true)):=⟨by unfold zaj; exact goJ⟩

instance (vp0:zWN) (i2:Int):T (za0 vp0 i2) (Gw vp0∧tc vp0≤50000000000000) (fun r=>Gw r∧kc r≤kc vp0∧ku r≤ku vp0∧tc r≤tc vp0+1000∧tu r=tu vp0∧(vp0.zXr=true→r.zXr=true)∧(vp0.zWZ=true→r.zWZ=true)∧(vp0.zXT=true→r.zXT=true)):=⟨by unfold za0; exact goJ⟩

instance (x_g:zWN):T (zN x_g) (Gw x_g∧tc x_g≤50000000000000) (fun r=>Gw r∧kc r≤kc x_g∧ku r≤ku x_g∧tc r≤tc x_g+1000∧tu r=tu x_g∧(x_g.zXr=true→r.zXr=true)∧(x_g.zWZ=true→r.zWZ=true)∧(x_g.zXT=true→r.zXT=true)):=⟨by unfold zN; exact goJ⟩

end Go.Dm
end
section
set_option linter.unusedVariables false
set_option maxRecDepth 10000
set_option maxHeartbeats 2000000
namespace Go.Dm
instance (s1:Str) (n:Nat) (vp0:zWN) (i6:Int):T (zA s1 n vp0 i6) (Gw vp0∧0≤i6∧i6≤s1.length∧s1.length≤3000∧kc vp0+(s1.length-i6)≤3000∧(s1.length-i6)+2*st vp0.zXr+1≤n∧tu vp0+10000000*(s1.length-i6)+10000000*st vp0.zXr≤30000000000000∧tc vp0+10000*(s1.length-i6)+10000*st vp0.zXr≤30000000000000) (fun r=>Gw r.2.2∧i6≤r.1∧r.1≤s1.length∧kc r.2.2≤kc vp0+(r.1-i6)∧ku r.2.2≤ku vp0∧tu r.2.2≤tu vp0+10000000*(r.1-i6)+10000000*st vp0.zXr∧tc r.2.2≤tc vp0+10000*(r.1-i6)+10000*st vp0.zXr):=by
 induction n generalizing vp0 i6
 ·exact ⟨goJ⟩
 exact ⟨by unfold zA zak; exact goJ⟩

instance (x_g:zWN) (x_s:Str):T (zG x_g x_s) (Gw x_g∧x_s.length≤3000∧kc x_g+x_s.length≤3000∧tc x_g=0∧tu x_g=0) (fun r=>Gw r.2.2∧0≤r.1∧r.1≤x_s.length∧kc r.2.2≤kc x_g+r.1∧ku r.2.2≤ku x_g∧tu r.2.2≤10000000*r.1+10000000∧tc r.2.2≤10000000*r.1+10000000∧(x_g.zWZ=true→r.2.2.zWZ=true)):=⟨by unfold zG; exact goJ⟩

instance (x_g:zWN):T (zbf x_g) (True) (fun r=>r.1=x_g.zXQ∧Rs1 x_g r.2∧tc r.2=0∧tu r.2=tu x_g):=⟨by unfold zbf; exact goH⟩

instance (x_g:zWN):T (zaM x_g) (True) (fun r=>r.1=x_g.zYd∧Rs1 x_g r.2∧tu r.2=0∧tc r.2=tc x_g):=⟨by unfold zaM; exact goH⟩

instance  : T (ziw) (True) (fun r=>r=0):=⟨by unfold ziw; exact gu⟩

instance  : T (zhW) (True) (fun r=>r=0):=⟨by unfold zhW; exact gu⟩

instance  : T (zbv) (True) (fun r=>r=0):=⟨by unfold zbv; exact gu⟩

instance  : T (ze2) (True) (fun r=>r=0):=⟨by unfold ze2; exact gu⟩

instance (x_c:zW1):T (zdR x_c) (Em x_c) (fun r=>0≤r∧r≤65536):=⟨by unfold zdR; exact goG⟩

instance (x_w:zW5):T (zaW x_w) (Ww x_w) (fun r=>0≤r∧r≤65536):=⟨by unfold zaW; exact goG⟩

instance  : T (ze3) (True) (fun r=>r=0):=⟨by unfold ze3; exact gu⟩

instance (x_d:zWS):T (zdS x_d) (Dm x_d) (fun r=>0≤r∧r≤5000):=⟨by unfold zdS; exact goG⟩

instance (x_b:zXn):T (zfW x_b) (Bm x_b) (fun r=>0≤r∧r≤5000):=⟨by unfold zfW; exact goG⟩

instance (x_a:zW4):T (zgu x_a) (Am x_a) (fun r=>0≤r∧r≤3000):=⟨by unfold zgu; exact goG⟩

instance (x_s:zWX):T (ze4 x_s) (Sd x_s) (fun r=>True):=⟨by unfold ze4; exact goH⟩

instance (x_g:zWN):T (zco x_g) (Gw x_g) (fun r=>True):=⟨by unfold zco; exact goH⟩

end Go.Dm
end
section
set_option linter.unusedVariables false
set_option maxRecDepth 10000
set_option maxHeartbeats 2000000
namespace Go.Dm
instance (x_w:zWV):T (zu x_w) (Gw x_w.Gateway∧0≤tc x_w.Gateway∧x_w.zWP.zXe.length+tc x_w.Gateway≤100000000000000∧x_w.zWO.zXe.length+tu x_w.Gateway≤100000000000000) (fun r=>Gw r.Gateway∧kc r.Gateway=kc x_w.Gateway∧ku r.Gateway=ku x_w.Gateway∧tc r.Gateway=0∧tu r.Gateway=0∧r.zWP.zXq=x_w.zWP.zXq∧r.zWP.zXh=x_w.zWP.zXh∧r.zWP.zXC=x_w.zWP.zXC∧r.zWP.zXw=x_w.zWP.zXw∧r.zWP.zXe.length=x_w.zWP.zXe.length+tc x_w.Gateway∧r.zWO.zXq=x_w.zWO.zXq∧r.zWO.zXh=x_w.zWO.zXh∧r.zWO.zXC=x_w.zWO.zXC∧r.zWO.zXw=x_w.zWO.zXw∧r.zWO.zXe.length=x_w.zWO.zXe.length+tu x_w.Gateway):=⟨by unfold zu; exact goJ⟩

instance  : T (zfz) (True) (fun r=>True):=⟨by unfold zfz; exact gu⟩

instance (x_f:zWY) (x_minor:Int):T (zov x_f x_minor) (x_f.N≤1099511627776∧0≤x_f.N) (fun r=>0≤r.N∧r.N≤1099511627776):=⟨by unfold zov; exact gu⟩

instance (x_r:zXB):T (zhj x_r) (x_r.zXJ.length≤1000) (fun r=>True):=⟨by unfold zhj; exact gu⟩

instance (x_q:zXg):T (zeD x_q) (Qm x_q) (fun r=>True):=⟨by unfold zeD; exact goH⟩

instance  : T (zhk) (True) (fun r=>True):=⟨by unfold zhk; exact gu⟩

instance (vp0:zWN) (i8:Int):T (zaN vp0 i8) (Gw vp0) (fun r=>Gw r.2∧kc r.2≤kc vp0∧ku r.2≤ku vp0∧tc r.2≤tc vp0+0∧tu r.2=tu vp0):=⟨by unfold zaN; exact goH⟩

instance (vp0:zWN) (i8:Int) (s9:Str) (t43:Bool):T (zaO vp0 i8 s9 t43) (Gw vp0∧s9.length≤65536∧tc vp0≤50000000000000) (fun r=>Gw r.2∧kc r.2≤kc vp0∧ku r.2≤ku vp0∧tc r.2≤tc vp0+65536∧tu r.2=tu vp0):=⟨by unfold zaO; exact goJ⟩

instance (x_g:zWN) (x_h:zWT) (x_t:zW0):T (zcB x_g x_h x_t) (Gw x_g∧Hd x_h∧tc x_g≤50000000000000) (fun r=>Gw r.2∧kc r.2≤kc x_g∧ku r.2≤ku x_g∧tc r.2≤tc x_g+65536∧tu r.2=tu x_g):=⟨by unfold zcB; exact goO⟩

instance (x_h:zWT) (x_close:Bool) (x_minor:Int):T (zlL x_h x_close x_minor) (Fm x_h.Fields∧x_h.Fields.length≤9500∧x_h.Method.length≤10000∧x_h.Target.length≤30000∧x_h.Reason.length≤10000∧x_h.Code≤1000∧x_h.Minor≤1000) (fun r=>Fm r.Fields∧r.Method.length≤10000∧r.Target.length≤30000∧r.Reason.length≤10000∧r.Code≤1000∧r.Minor≤1000):=⟨by unfold zlL zfX; exact gu2⟩

instance (x_q:zXg):T (zfA x_q) (Qm x_q) (fun r=>Qm r.2):=⟨by unfold zfA; exact goH⟩

instance (vp0:zWN):T (zaw vp0) (Gw vp0) (fun r=>Gw r∧kc r≤kc vp0∧ku r≤ku vp0∧tc r≤tc vp0+0∧tu r=tu vp0):=⟨by unfold zaw; exact goJ⟩

instance (vp0:zWN):T (zax vp0) (Gw vp0) (fun r=>Gw r∧kc r≤kc vp0∧ku r≤ku vp0∧tc r≤tc vp0+0∧tu r=tu vp0):=⟨by unfold zax; exact goJ⟩

instance (vp0:zWN) (s2:Str):T (zR vp0 s2) (Gw vp0∧s2.length≤1200000∧tc vp0≤50000000000000) (fun r=>Gw r∧kc r≤kc vp0∧ku r≤ku vp0∧tc r≤tc vp0+1200000∧tu r=tu vp0):=⟨by unfold zR; exact goJ⟩

instance (x_g:zWN):T (zar x_g) (Gw x_g∧tc x_g≤50000000000000) (fun r=>Gw r∧kc r≤kc x_g∧ku r≤ku x_g∧tc r≤tc x_g+1200000∧tu r=tu x_g):=⟨by unfold zar; exact goJ⟩

end Go.Dm
end
section
set_option linter.unusedVariables false
set_option maxRecDepth 10000
set_option maxHeartbeats 2000000
namespace Go.Dm
instance (vp0:zWN) (t123:Bool):T (zbg vp0 t123) (Gw vp0∧tc vp0≤50000000000000) (fun r=>Gw r.2∧kc r.2≤kc vp0∧ku r.2≤ku vp0∧tc r.2≤tc vp0+1200000∧tu r.2=tu vp0):=⟨by unfold zbg; exact goJ⟩

instance (vp0:zWN):T (zbh vp0) (Gw vp0∧tc vp0≤50000000000000) (fun r=>Gw r.2∧kc r.2≤kc vp0∧ku r.2≤ku vp0∧tc r.2≤tc vp0+1200000∧tu r.2=tu vp0):=⟨by unfold zbh; exact goJ⟩

instance (vp0:zWN) (v9:zWY):T (zbi vp0 v9) (Gw vp0∧v9.N≤1099511627776∧tc vp0≤50000000000000) (fun r=>Gw r.2∧kc r.2≤kc vp0∧ku r.2≤ku vp0∧tc r.2≤tc vp0+1200000∧tu r.2=tu vp0):=⟨by unfold zbi; exact goJ⟩

instance (vp0:zWN) (v5:zW0) (v7:zWY) (v9:zWY) (v10:zWT):T (zbj vp0 v5 v7 v9 v10) (Gw vp0∧v9.N≤1099511627776∧Fm v10.Fields∧v10.Fields.length≤9500∧v10.Method.length≤10000∧v10.Target.length≤30000∧v10.Reason.length≤10000∧v10.Code≤1000∧v10.Minor≤1000∧tc vp0≤40000000000000) (fun r=>Gw r.2∧kc r.2≤kc vp0∧ku r.2≤ku vp0∧tc r.2≤tc vp0+1300000∧tu r.2=tu vp0):=⟨by unfold zbj; exact goO⟩

instance (vp0:zWN) (v4:zWT) (v5:zW0) (v7:zWY) (v9:zWY) (v10:zWT):T (zbk vp0 v4 v5 v7 v9 v10) (Gw vp0∧Hd v4∧v9.N≤1099511627776∧Fm v10.Fields∧v10.Fields.length≤9500∧v10.Method.length≤10000∧v10.Target.length≤30000∧v10.Reason.length≤10000∧v10.Code≤1000∧v10.Minor≤1000∧tc vp0≤40000000000000) (fun r=>Gw r.2∧kc r.2≤kc vp0∧ku r.2≤ku vp0∧tc r.2≤tc vp0+1300000∧tu r.2=tu vp0):=⟨by unfold zbk; exact goO⟩

instance (x_a0:zWN) (x_a1:zWT) (x_a2:zW0):T (zdn x_a0 x_a1 x_a2) (Gw x_a0∧Hd x_a1∧tc x_a0≤40000000000000) (fun r=>Gw r.2∧kc r.2≤kc x_a0∧ku r.2≤ku x_a0∧tc r.2≤tc x_a0+1300000∧tu r.2=tu x_a0):=⟨by unfold zdn; exact goO⟩

instance (vp0:zWN) (i6:Int):T (zac vp0 i6) (Gw vp0∧tc vp0≤50000000000000) (fun r=>Gw r∧kc r≤kc vp0∧ku r≤ku vp0∧tc r≤tc vp0+1000∧tu r=tu vp0):=⟨by unfold zac; exact goJ⟩

instance (vp0:zWN) (v2:zWT) (v4:zW0):T (zaP vp0 v2 v4) (Gw vp0∧Hd v2∧tc vp0≤40000000000000) (fun r=>Gw r∧kc r≤kc vp0∧ku r≤ku vp0∧tc r≤tc vp0+1310000∧tu r=tu vp0):=⟨by unfold zaP; exact goJ⟩

instance (vp0:zWN) (v2:zWT):T (zaQ vp0 v2) (Gw vp0∧Hd v2∧tc vp0≤40000000000000) (fun r=>Gw r∧kc r≤kc vp0∧ku r≤ku vp0∧tc r≤tc vp0+1310000∧tu r=tu vp0):=⟨by unfold zaQ; exact goJ⟩

instance (x_g:zWN):T (zcC x_g) (Gw x_g∧tc x_g≤40000000000000) (fun r=>Gw r∧kc r≤kc x_g∧ku r≤ku x_g∧tc r≤tc x_g+1310000∧tu r=tu x_g):=⟨by unfold zcC; exact goO⟩

instance (vp0:zWN) (i5:Int) (t6:Bool) (i7:Int):T (zay vp0 i5 t6 i7) (Gw vp0∧tc vp0≤40000000000000) (fun r=>r.1=i5∧Gw r.2∧kc r.2≤kc vp0∧ku r.2≤ku vp0∧tc r.2≤tc vp0+1310000∧tu r.2=tu vp0∧(i7≠0→r.2.zWZ=true)):=⟨by unfold zay; exact goJ⟩

instance (vp0:zWN) (i8:Int) (t10:Bool) (i11:Int) (s12:Str):T (zaz vp0 i8 t10 i11 s12) (Gw vp0∧s12.length≤7000000∧tc vp0≤30000000000000) (fun r=>r.1=i8∧Gw r.2∧kc r.2≤kc vp0∧ku r.2≤ku vp0∧tc r.2≤tc vp0+8200000∧tu r.2=tu vp0∧(i11≠0→r.2.zWZ=true)):=⟨by unfold zaz; exact goJ⟩

instance (vp0:zWN) (i8:Int) (s9:Str) (t10:Bool) (i11:Int):T (zaA vp0 i8 s9 t10 i11) (Gw vp0∧s9.length≤3000∧tc vp0≤30000000000000) (fun r=>r.1=i8∧Gw r.2∧kc r.2≤kc vp0∧ku r.2≤ku vp0∧tc r.2≤tc vp0+8200000∧tu r.2=tu vp0∧(i11≠0→r.2.zWZ=true)):=⟨by unfold zaA; exact goJ⟩

instance (vp0:zWN) (s1:Str) (t19:Bool):T (zaB vp0 s1 t19) (Gw vp0∧ku vp0+s1.length≤3000∧tc vp0≤30000000000000) (fun r=>0≤r.1∧r.1≤s1.length∧Gw r.2∧ku r.2≤ku vp0+r.1∧kc r.2≤kc vp0∧tu r.2=tu vp0∧tc r.2≤tc vp0+8200000∧(r.1=0→s1.length=0∨r.2.zWZ=true)):=⟨by unfold zaB; exact goJ⟩

instance (x_a0:zWN) (x_a1:Str):T (zce x_a0 x_a1) (Gw x_a0∧ku x_a0+x_a1.length≤3000∧tc x_a0≤30000000000000) (fun r=>0≤r.1∧r.1≤x_a1.length∧Gw r.2∧ku r.2≤ku x_a0+r.1∧kc r.2≤kc x_a0∧tu r.2=tu x_a0∧tc r.2≤tc x_a0+8200000∧(r.1=0→x_a1.length=0∨r.2.zWZ=true)):=⟨by unfold zce; exact goJ⟩

instance (s1:Str) (n:Nat) (vp0:zWN) (i6:Int):T (zh s1 n vp0 i6) (Gw vp0∧0≤i6∧i6≤s1.length∧s1.length≤3000∧ku vp0+(s1.length-i6)≤3000∧(s1.length-i6)+2*st vp0.zWZ+1≤n∧tc vp0+10000000*(s1.length-i6)+10000000*st vp0.zWZ≤30000000000000) (fun r=>Gw r.2.2∧i6≤r.1∧r.1≤s1.length∧ku r.2.2≤ku vp0+(r.1-i6)∧kc r.2.2≤kc vp0∧tc r.2.2≤tc vp0+10000000*(r.1-i6)+10000000*st vp0.zWZ∧tu r.2.2=tu vp0):=by
 induction n generalizing vp0 i6
 ·exact ⟨goJ⟩
 exact ⟨by unfold zh zq; exact goJ⟩

instance (x_g:zWN) (x_s:Str):T (zl x_g x_s) (Gw x_g∧x_s.length≤3000∧ku x_g+x_s.length≤3000∧tc x_g=0∧tu x_g=0) (fun r=>Gw r.2.2∧0≤r.1∧r.1≤x_s.length∧ku r.2.2≤ku x_g+r.1∧kc r.2.2≤kc x_g∧tc r.2.2≤10000000*r.1+10000000∧tu r.2.2≤10000000*r.1+10000000∧(x_g.zWZ=true→r.2.2.zWZ=true)):=⟨by unfold zl; exact goJ⟩

end Go.Dm
end
section
set_option linter.unusedVariables false
set_option maxRecDepth 10000
set_option maxHeartbeats 2000000
namespace Go.Dm
instance (x_g:zWN):T (zF x_g) (Gw x_g∧tc x_g≤40000000000000) (fun r=>Gw r.2∧kc r.2≤kc x_g∧ku r.2≤ku x_g∧tc r.2≤tc x_g+1310000∧tu r.2=tu x_g∧(x_g.zWZ=true→r.2.zWZ=true)):=⟨by unfold zF; exact goJ⟩

instance  : T (zlM) (True) (fun r=>True):=⟨by unfold zlM; exact gu⟩

instance (x_b:zXn):T (zjj x_b) (Bm x_b) (fun r=>Bm r.2.2):=⟨by unfold zjj zgv; exact goG⟩

instance (vp0:zWN) (t3:Bool):T (zH vp0 t3) (Gw vp0∧tc vp0≤40000000000000) (fun r=>Gw r.2∧kc r.2≤kc vp0∧ku r.2≤ku vp0∧tc r.2≤tc vp0+1310000∧tu r.2=tu vp0):=⟨by unfold zH; exact goJ⟩

instance (x_g:zWN):T (zr x_g) (Gw x_g∧tc x_g≤40000000000000) (fun r=>Gw r.2∧kc r.2≤kc x_g∧ku r.2≤ku x_g∧tc r.2≤tc x_g+1310000∧tu r.2=tu x_g∧(x_g.zWZ=true→r.2.zWZ=true)):=⟨by unfold zr; exact goJ⟩

end Go.Dm
end
