/-
 When the models come to something: printed by a program (wip/gen/yt.py) off the models and a table. No program in sight.
 When the models come to something: printed by a program (wip/gen/yt.py) off the models and a table. No program in sight.
 When the models come to something: printed by a program (wip/gen/yt.py) off the models and a table. No program in sight.
 When the models come to something: printed by a program (wip/gen/yt.py) off the models and a table. No program in sight.
 When the models come to something: printed by a program (wip/gen/yt.py) off the models and a table. No program 
-/
import Derived.Test.YtlgjcjonmfcacaaGreatDoorTXU
import Derived.Test.YtlgjcjonmfcacaaGreatDoorXC1
set_option linter.unusedVariables false
set_option linter.unusedSimpArgs false
set_option linter.unusedVariables false
set_option linter.unusedSimpArgs false
section
set_option linter.unusedVariables false
set_option maxRecDepth 10000
set_option maxHeartbeats 2000000
namespace Go.Dm
instance (t1:Bool) (l5:List Str) (i14:Int) (n:Nat) (i6:Int) (i15:Int):T (zav t1 l5 i14 n i6 i15) (Sm l5∧i14=l5.length∧0≤i15∧i15≤i14∧i14<i15+n∧0≤i6∧i6≤2*i15) (fun r => -1≤r∧r≤2*l5.length∧(∀k,Grp t1 (dr l5 i15) k→r=i6+k)∧(0≤r→zHY t1 (dr l5 i15))):=by
 induction n generalizing i6 i15
 ·exact ⟨goz⟩
 exact ⟨by unfold zav zeb zea; exact goA2⟩

instance (x_s:Str) (x_last:Bool):T (zeD x_s x_last) (x_s.length<1000000000) (fun r => -1≤r∧r≤4000000000000∧(∀k,Grp x_last (spt x_s) k→r=k)∧(0≤r→zHY x_last (spt x_s))):=⟨by unfold zeD; exact goA2⟩

instance (x_s:Str):T (zh4 x_s) (x_s.length<1000000000) (fun r=>r=true↔zux x_s):=⟨by unfold zh4; exact goA2⟩

instance (x_s:Str):T (zh5 x_s) (True) (fun r=>r=pct x_s∧(r=true→3≤x_s.length)):=⟨by unfold zh5; exact goQ⟩

instance (b:UInt8):T (zcK b) True (fun r=>r=zq7 b):=bt (by decide +kernel) b

instance (b:UInt8):T (zjC b) True (fun r=>r=zER b):=bt (by decide +kernel) b

instance  (n:Nat) (s0:Str):T (zcL n s0) (s0.length<n∧s0.length<1000000000) (fun r=>r=ziI s0):=by
 induction n generalizing s0
 ·exact ⟨goz⟩
 exact ⟨by unfold zcL; exact goQ⟩

instance (x_s:Str):T (ze5 x_s) (x_s.length<1000000000) (fun r=>r=true↔x_s≠[]∧ziI x_s=true):=⟨by unfold ze5; exact goQ⟩

instance (x_s:Str):T (zlX x_s) (x_s.length<1000000000) (fun r=>r.1.Name.length≤x_s.length∧r.1.Port = -1∧(znZ x_s↔r.2=true)∧(r.2=true→58∈x_s→∃m,x_s=m++[93])):=⟨by unfold zlX zfB; exact goA2⟩

theorem lib_w (s:Str) (b:UInt8):∀(n:Nat) (i:Int), -1≤i→i<s.length→i+1<n→i<1000000000 →
  ∃r,zag s b n i=some r∧((r = -1∧b∉tk s (i+1))∨(0≤r∧r≤i∧dr s r=b::dr s (r+1)∧b∉sb s (r+1) (i+1)))
 | 0,i,h1,h2,h3,_=>by omega
 | n + 1,i,h1,h2,h3,h4=>by
  unfold zag
  by_cases h0:0≤i
  ·obtain ⟨x,e,hx⟩:=(inferInstance:T (sAt s i) _ _).ok ⟨h0,h2⟩;have hx:=hx.2.2;rw [if_pos (by simpa using h0),e]
   by_cases hb:x=b
   ·subst hb;exact ⟨i,by simp, .inr ⟨h0,Int.le_refl _,hx,by rw [zyx]; simp⟩⟩
   ·obtain ⟨r,er,hr⟩:=lib_w s b n (i-1) (by omega) (by omega) (by omega) (by omega)
    have e1:zbY i 1=some (i-1):=by simp [zbY,inI]; omega
    refine ⟨r,by simp [hb,e1,er],?_⟩;rw [Int.sub_add_cancel] at hr
    rcases hr with ⟨a,c⟩|⟨a,a2,c,d⟩
    ·left; refine ⟨a,?_⟩; rw [zyw h0 hx]; simp; exact ⟨c,fun e=>hb e.symm⟩
    ·right; refine ⟨a,by omega,c,?_⟩
     rw [zIV (by omega) (by omega:r+1≤i) (by omega:i≤i+1) (by omega),hx]
     simp; exact ⟨d,fun e=>hb e.symm⟩
  ·have hi:i = -1:=by omega
   subst hi;exact ⟨-1,by simp, .inl ⟨rfl,by rw [show (-1:Int)+1=0 from rfl,zxu]; simp⟩⟩

instance (x_s:Str) (x_c:UInt8):T (zaQ x_s x_c) (x_s.length<1000000000) (fun r => -1≤r∧r<x_s.length∧(r = -1→x_c∉x_s)∧(0≤r→dr x_s r=x_c::dr x_s (r+1)∧x_c∉dr x_s (r+1))):=⟨fun h=>by
 obtain ⟨r,e,hr⟩:=lib_w x_s x_c fuel ((x_s.length:Int)-1) (by omega) (by omega) (by unfold fuel; omega) (by omega)
 have e1:zbY (x_s.length:Int) 1=some ((x_s.length:Int)-1):=by simp [zbY,inI]; omega
 rw [Int.sub_add_cancel,zIU (Int.le_refl _),sb_e (Int.le_refl _)] at hr
 rcases hr with ⟨a,c⟩|⟨a,b,c,d⟩
 ·exact ⟨r,by rw [zaQ,e1]; exact e,by omega,by omega,fun _=>c,fun h=>by omega⟩
 ·exact ⟨r,by rw [zaQ,e1]; exact e,by omega,by omega,fun h=>by omega,fun _=>⟨c,d⟩⟩⟩

instance (x_s:Str) (x_c:UInt8):T (zcD x_s x_c) (x_s.length<1000000000) (fun r => -1≤r∧r<x_s.length∧(r = -1→x_c∉x_s)∧(0≤r→dr x_s r=x_c::dr x_s (r+1)∧x_c∉dr x_s (r+1))):=⟨by unfold zcD; exact goA⟩

instance (x_s:Str):T (zb4 x_s) (x_s.length<1000000000) (fun r=>r.1.Name.length≤x_s.length ∧ -1≤r.1.Port∧r.1.Port≤65535∧((znZ x_s∨zpl x_s)↔r.2=0)∧(zpl x_s→0≤r.1.Port)∧(r.2=0∨r.2=27)):=⟨by unfold zb4; exact goA2⟩

instance (x_s:Str):T (zdW x_s) (x_s.length<1000000000) (fun r=>r=zfV x_s):=⟨by unfold zdW; exact goN⟩

instance (x_s:Str) (x_chars:Str):T (strings_ContainsAny x_s x_chars) (x_s.length<1000000000∧x_chars.length<1000000000∧x_chars.all (fun c=>c.toNat<128)=true) (fun r=>r=zwl x_chars x_s):=⟨by unfold strings_ContainsAny; exact zEQ⟩

end Go.Dm
end
section
set_option linter.unusedVariables false
set_option maxRecDepth 10000
set_option maxHeartbeats 2000000
namespace Go.Dm
instance (x_r:zXk) (x_v:zWP):T (zeE x_r x_v) (Cw x_r.Scanner) (fun r=>Cw r.2.2∧r.2.2.zXp=x_r.Scanner.zXp∧(r.1=true↔byP ((dr x_r.Scanner.zXp x_r.Scanner.zWY).takeWhile nsp))∧r.2.1=⟨x_v.Proto,x_v.Version,(dr x_r.Scanner.zXp x_r.Scanner.zWY).takeWhile nsp,x_v.Comment⟩∧dr r.2.2.zXp r.2.2.zWY=(dr x_r.Scanner.zXp x_r.Scanner.zWY).dropWhile nsp):=⟨by unfold zeE zcM; exact zEQ⟩

instance (x_s:Str) (x_prefix:Str):T (stringslite_HasPrefix x_s x_prefix) (True) (fun r=>r=x_prefix.isPrefixOf x_s∧(r=true→x_prefix.length≤x_s.length)):=⟨by unfold stringslite_HasPrefix; exact goP⟩

instance (x_s:Str) (x_prefix:Str):T (stringslite_CutPrefix x_s x_prefix) (True) (fun r=>r.1.length≤x_s.length):=⟨by unfold stringslite_CutPrefix; exact go⟩

instance (x_s:Str) (x_prefix:Str):T (strings_CutPrefix x_s x_prefix) (True) (fun r=>r.1.length≤x_s.length):=⟨by unfold strings_CutPrefix; exact go⟩

instance (x_s:Str) (x_suffix:Str):T (stringslite_HasSuffix x_s x_suffix) (x_s.length<1000000000) (fun r=>r=true→x_suffix.length≤x_s.length):=⟨by unfold stringslite_HasSuffix; exact go⟩

instance (x_s:Str) (x_suffix:Str):T (stringslite_CutSuffix x_s x_suffix) (x_s.length<1000000000) (fun r=>r.1.length≤x_s.length):=⟨by unfold stringslite_CutSuffix; exact go⟩

instance (x_s:Str) (x_suffix:Str):T (strings_CutSuffix x_s x_suffix) (x_s.length<1000000000) (fun r=>r.1.length≤x_s.length):=⟨by unfold strings_CutSuffix; exact go⟩

instance (b:UInt8):T (zdt b) True (fun r=>r=(gd zdt) b):=bt (by decide +kernel) b

instance (b:UInt8):T (zgZ b) True (fun r=>r=znK b):=bt (by decide +kernel) b

instance (b:UInt8):T (zaL b) True (fun r=>r=zAH b):=bt (by decide +kernel) b

instance (s0:Str) (n:Nat) (i3:Int) (i4:Int):T (zbC s0 n i3 i4) (0≤i4∧i4≤s0.length∧s0.length<i4+n∧s0.length<1000000000∧0≤i3∧i3≤i4) (fun r=>True):=by
 induction n generalizing i3 i4
 ·exact ⟨goz⟩
 exact ⟨by unfold zbC zeF; exact go⟩

instance (x_s:Str):T (zm1 x_s) (x_s.length<1000000000) (fun r=>True):=⟨by unfold zm1; exact go⟩

instance (x_r:zXk) (x_v:zWP):T (zbT x_r x_v) (Cw x_r.Scanner) (fun r=>r.2.1.By=x_v.By∧(dr x_r.Scanner.zXp x_r.Scanner.zWY=[]→r=(true,x_v,x_r.Scanner))):=⟨by unfold zbT zah; exact zEQ⟩

instance (x_s:Str):T (zng x_s) (x_s.length<1000000000) (fun r=>∀b,x_s=49::46::49::32::b→((r.2=0∧r.1=⟨[],[49,46,49],b,[]⟩)↔zAF b)):=⟨by unfold zng; exact zEQ⟩

instance (x_v:zWP):T (zj7 x_v) (x_v.By.length<100000000∧x_v=⟨[],[49,46,49],x_v.By,[]⟩) (fun r=>(zAF x_v.By→r.2=0)∧(¬ zAF x_v.By→r.2=2)):=⟨by unfold zj7 zjE zjD; exact zEQ⟩

instance (x_s:Str):T (zj8 x_s) (x_s.length<1000000000) (fun r=>r=true↔dnP x_s):=⟨by unfold zj8; exact zEQ⟩

instance (l0:List zWK) (l5:List zWK) (i6:Int) (n:Nat) (i7:Int):T (zfC l0 l5 i6 n i7) (Swm l5∧l0=l5∧i6=l5.length∧0≤i7∧i7≤i6∧i6<i7+n) (fun r=>(zxt (dr l5 i7)→r=if 64<l0.length then 3 else 0)∧(¬ zxt (dr l5 i7)→r=27)):=by
 induction n generalizing i7
 ·exact ⟨goz⟩
 exact ⟨by unfold zfC; exact zEQ⟩

instance (x_l:List zWK):T (zlk x_l) (Swm x_l) (fun r=>(zxt x_l→r=if 64<x_l.length then 3 else 0)∧(¬ zxt x_l→r=27)):=⟨by unfold zlk; exact zEQ⟩

end Go.Dm
end
section
set_option linter.unusedVariables false
set_option maxRecDepth 10000
set_option maxHeartbeats 2000000
namespace Go.Dm
instance (b:UInt8):T (zgK b) True (fun r=>r=zu3 b):=bt (by decide +kernel) b

instance (x_s:Str):T (zll x_s) (x_s.length<1000000000) (fun r=>r=zwh x_s):=⟨by unfold zll; exact zyv⟩

instance (x_s:Str) (x_prefix:Str):T (strings_HasPrefix x_s x_prefix) (True) (fun r=>r=x_prefix.isPrefixOf x_s∧(r=true→x_prefix.length≤x_s.length)):=⟨by unfold strings_HasPrefix; exact goP⟩

instance (x_s:Str) (x_l:Str):T (zht x_s x_l) (x_s.length<1000001001∧x_l.length<1000∧x_l.all (fun c=>c.toNat<128)=true) (fun r=>r=upt x_l x_s∧r.1.length≤x_s.length∧r.2.length≤x_s.length):=⟨by unfold zht; exact zyv⟩

instance (s0:Str) (v3:zWS):T (zgL s0 v3) (s0.length<1000000000∧Um v3) (fun r=>r=rf1 s0 v3∧Um r):=⟨by unfold zgL zi1; exact zyv⟩

instance (s0:Str) (v3:zWS):T (zgM s0 v3) (s0.length<1000000000∧Um v3) (fun r=>r=rf2 s0 v3∧Um r):=⟨by unfold zgM; exact zyv⟩

instance (s0:Str) (v3:zWS):T (zgN s0 v3) (s0.length<1000000000∧Um v3) (fun r=>r=rf3 s0 v3∧Um r):=⟨by unfold zgN; exact zyv⟩

instance (x_s:Str):T (zm2 x_s) (x_s.length<1000000000) (fun r=>r=rf4 x_s∧Um r):=⟨by unfold zm2 zi2; exact zyv⟩

instance (b:UInt8):T (zh6 b) True (fun r=>r=zAG b):=bt (by decide +kernel) b

instance (s0:Str) (s1:Str) (n:Nat) (i5:Int):T (zcr s0 s1 n i5) (0≤i5∧i5≤s0.length∧s0.length<i5+n∧s0.length<1000000000∧37∉s1) (fun r=>r=pqM s1 (dr s0 i5)):=by
 induction n generalizing i5
 ·exact ⟨goz⟩
 exact ⟨by unfold zcr zi3; exact goU3⟩

instance (x_s:Str) (x_more:Str):T (zgi x_s x_more) (x_s.length<1000000000∧37∉x_more) (fun r=>r=pqM x_more x_s):=⟨by unfold zgi; exact goU3⟩

instance (x_r:zWS):T (zn4 x_r) (Um x_r) (fun r=>r=zwi x_r):=⟨by unfold zn4; exact zyv⟩

instance (x_s:Str):T (zm3 x_s) (x_s.length<1000000000) (fun r=>r.2=(if zGT x_s=true then 0 else 2)∧Um r.1):=⟨by unfold zm3; exact zyv⟩

instance (x_s:Str):T (zhu x_s) (x_s.length<1000000000) (fun r=>r=zGT x_s):=⟨by unfold zhu; exact zyv⟩

instance (l0:List zWK) (l5:List zWK) (i6:Int) (n:Nat) (i7:Int):T (zeM l0 l5 i6 n i7) (Swm l5∧l0=l5∧i6=l5.length∧0≤i7∧i7≤i6∧i6<i7+n) (fun r=>(zxo (dr l5 i7)→r=if 64<l0.length then 3 else 0)∧(¬ zxo (dr l5 i7)→r=2)):=by
 induction n generalizing i7
 ·exact ⟨goz⟩
 exact ⟨by unfold zeM; exact zyv⟩

instance (x_l:List zWK):T (zj9 x_l) (Swm x_l) (fun r=>(zxo x_l→r=if 64<x_l.length then 3 else 0)∧(¬ zxo x_l→r=2)):=⟨by unfold zj9; exact zyv⟩

instance (x_env:zWJ):T (zlY x_env) (x_env.By.length≤1000∧x_env.Host.length≤1000∧Swm x_env.Domains∧Swm x_env.Locations) (fun r=>r=stC x_env):=⟨by unfold zlY zka zhv; exact zyv⟩

end Go.Dm
end
section
set_option linter.unusedVariables false
set_option maxRecDepth 10000
set_option maxHeartbeats 2000000
namespace Go.Dm

instance (x_f:zWx):T (zeG x_f) (x_f.Name.length<1000000000∧x_f.Value.length<1000000000) (fun r=>r=0↔fokB x_f.Name x_f.Value=true):=⟨by unfold zeG; exact zH6⟩

instance (x_g:zXe):T (zqD x_g) (Gm x_g) (fun r=>r=true↔guaP x_g):=⟨by unfold zqD zlm; exact zH6⟩

instance (s:Str):T (zaX s) (s.length<4294967281) (fun r=>r=low s∧r.length=s.length):=⟨fun h=>by
 have e:∀b,zbQ b=some (zk9 b):=fun b=>by
  obtain ⟨r,e,hr⟩:=(inferInstance:T (zbQ b) _ _).ok trivial;rw [e,hr]
 have:∀s:Str,s.mapM zbQ=some (low s):=by
  intro s
  induction s with
  | nil=>rfl
  | cons b s ih=>simp [List.mapM_cons,e,ih,low]
 unfold zaX;rw [if_pos h]
 exact ⟨_,this s,rfl,by simp [low]⟩⟩

instance (l0:List Str) (s1:Str) (i7:Int) (n:Nat) (i8:Int):T (zab l0 s1 i7 n i8) (i7=l0.length∧0≤i8∧i8≤i7∧i7<i8+n∧l0.length<1000000000000) (fun r => -1≤r∧r<l0.length∧(0≤r↔s1∈dr l0 i8)):=by
 induction n generalizing i8
 ·exact ⟨goz⟩
 exact ⟨by unfold zab; exact goN⟩

instance (x_s:List Str) (x_v:Str):T (zbD x_s x_v) (x_s.length<1000000000000) (fun r => -1≤r∧r<x_s.length∧(0≤r↔x_v∈x_s)):=⟨by unfold zbD; exact goN⟩

instance (x_s:List Str) (x_v:Str):T (zo x_s x_v) (x_s.length<1000000000000) (fun r=>r=decide (x_v∈x_s)):=⟨by unfold zo; exact goN⟩

instance (x_name:Str):T (ztm x_name) (x_name.length<1000000000) (fun r=>r=decide (low x_name∈zHy)):=⟨by unfold ztm; exact zH6⟩

instance (x_name:Str):T (ztn x_name) (x_name.length<1000000000) (fun r=>r=zCM x_name):=⟨by unfold ztn; exact zH6⟩

instance (x_name:Str):T (zpI x_name) (x_name.length<1000000000) (fun r=>r=zH4 x_name):=⟨by unfold zpI; exact zH6⟩

instance (l6:List zWz) (i7:Int) (n:Nat) (l3:List Str) (i8:Int):T (ze6 l6 i7 n l3 i8) (i7=l6.length∧0≤i8∧i8≤i7∧i7<i8+n∧l6.length≤10000∧l3.length≤i8) (fun r=>r=nmF l3 (dr l6 i8)∧r.length≤l6.length):=by
 induction n generalizing l3 i8
 ·exact ⟨goz⟩
 exact ⟨by unfold ze6 zln; exact zH6⟩

instance (x_l:List zWz):T (zqE x_l) (x_l.length≤10000) (fun r=>r=nmF [] x_l∧r.length≤x_l.length):=⟨by unfold zqE; exact zH6⟩

instance (b:UInt8):T (znz b) True (fun r=>r=smB b):=bt (by decide +kernel) b

instance (b:UInt8):T (znA b) True (fun r=>r=plB b):=bt (by decide +kernel) b

instance (x_c:zWD) (x_t:Str):T (zck x_c x_t) (Cw x_c∧x_t.length≤1000) (fun r=>Cw r.2∧r.2.zXp=x_c.zXp∧(if r.1=true then dr x_c.zXp x_c.zWY=x_t++dr x_c.zXp r.2.zWY∧r.2.zWY=x_c.zWY+x_t.length else r.2=x_c∧x_t.isPrefixOf (dr x_c.zXp x_c.zWY)=false)):=⟨by unfold zck; exact goR5⟩

instance (x_r:zWZ) (x_s:Str):T (zec x_r x_s) (x_r.zWQ.length<1000000000∧x_s.length<1000000000∧(∀p∈x_r.zWQ,p.Text.length<1000000000)) (fun r=>r.Scanner=x_r.Scanner∧r.zWQ=adT x_r.zWQ x_s∧r.zWQ.length≤x_r.zWQ.length+1∧∀p∈r.zWQ,p.Text.length≤x_s.length∨∃q∈x_r.zWQ,p.Text.length≤q.Text.length+x_s.length):=⟨by unfold zec zeq; exact goR2⟩

end Go.Dm
end
section
set_option linter.unusedVariables false
set_option maxRecDepth 10000
set_option maxHeartbeats 2000000
namespace Go.Dm
instance (x_r:zWZ):T (zfl x_r) (Cw x_r.Scanner∧x_r.zWQ.length≤x_r.Scanner.zWY∧(∀p∈x_r.zWQ,p.Text.length≤x_r.Scanner.zWY)) (fun r=>Cw r.2.Scanner∧r.2.Scanner.zXp=x_r.Scanner.zXp∧x_r.Scanner.zWY≤r.2.Scanner.zWY∧r.2.zWQ.length≤x_r.zWQ.length+1∧(∀p∈r.2.zWQ,p.Text.length≤r.2.Scanner.zWY)∧∀l,PRn x_r.zWQ (dr x_r.Scanner.zXp x_r.Scanner.zWY) l↔(r.1=true∧PR r.2.zWQ (dr r.2.Scanner.zXp r.2.Scanner.zWY) l)):=⟨by unfold zfl zdF zdE; exact goR2⟩

instance (x_r:zWZ):T (zgj x_r) (Rt x_r∧x_r.Scanner.zWY<x_r.Scanner.zXp.length) (fun r=>(r.1=true→Rt r.2∧r.2.Scanner.zXp=x_r.Scanner.zXp∧x_r.Scanner.zWY<r.2.Scanner.zWY)∧∀l,PR x_r.zWQ (dr x_r.Scanner.zXp x_r.Scanner.zWY) l↔(r.1=true∧PR r.2.zWQ (dr r.2.Scanner.zXp r.2.Scanner.zWY) l)):=⟨by unfold zgj; exact goR2⟩

instance  (n:Nat) (v4:zWZ):T (ziL n v4) (Rt v4∧v4.Scanner.zXp.length<v4.Scanner.zWY+n) (fun r=>r.1.length≤32∧∀l,r=(l,0)↔PR v4.zWQ (dr v4.Scanner.zXp v4.Scanner.zWY) l∧l.length≤32):=by
 induction n generalizing v4
 ·exact ⟨goz⟩
 exact ⟨by unfold ziL; exact goR2⟩

instance (x_s:Str):T (zqF x_s) (x_s.length<1000000000) (fun r=>r.1.length≤32∧∀l,r=(l,0)↔PR [] x_s l∧l.length≤32):=⟨by unfold zqF; exact goR2⟩

instance (l0:List zWz) (l1:List zWz) (i12:Int) (n:Nat) (i13:Int):T (zM l0 l1 i12 n i13) (i12=l0.length∧i12=l1.length∧0≤i13∧i13≤i12∧i12<i13+n∧l0.length<1000000000000) (fun r=>r=true↔dr l0 i13=dr l1 i13):=by
 induction n generalizing i13
 ·exact ⟨goz⟩
 exact ⟨by unfold zM; exact goR5⟩

instance (x_s1:List zWz) (x_s2:List zWz):T (zaR x_s1 x_s2) (x_s1.length<1000000000000) (fun r=>r=true↔x_s1=x_s2):=⟨by unfold zaR; exact goR2⟩

instance (l0:List zWz) (l10:List zWz) (i11:Int) (n:Nat) (l4:List Str) (i12:Int):T (zdG l0 l10 i11 n l4 i12) (Tp l10∧l0.length<1000000000000∧i11=l10.length∧0≤i12∧i12≤i11∧i11<i12+n∧l4.length≤3*i12∧sl l4≤i12*120000) (fun r=>(r.2=0↔zzA l0 (Go.Lib.join l4 []++prA (dr l10 i12)))∧(r.2=0∨r.2=2)):=by
 induction n generalizing l4 i12
 ·exact ⟨goz⟩
 exact ⟨by unfold zdG zh7; exact zFZ⟩

instance (x_l:List zWz):T (zto x_l) (Tp x_l) (fun r=>(r.2=0↔zzA x_l (prA x_l))∧(r.2=0∨r.2=2)):=⟨by unfold zto; exact zFZ⟩

instance (l1:List zWz) (l5:List Str) (l13:List Str) (i14:Int) (n:Nat) (i15:Int):T (ziM l1 l5 l13 i14 n i15) (Tp l1∧l5.length<1000000000000∧i14=l13.length∧0≤i15∧i15≤i14∧i14<i15+n∧l13.length<1000000000000) (fun r=>r=true↔zDy l5 (dr l13 i15)∧zzA l1 (prA l1)):=by
 induction n generalizing i15
 ·exact ⟨goz⟩
 exact ⟨by unfold ziM; exact zFZ⟩

instance (x_side:Int) (x_l:List zWz):T (zqG x_side x_l) (Tp x_l) (fun r=>r=true↔parP x_side x_l):=⟨by unfold zqG zlo; exact zFZ⟩

instance (x_r:zWC):T (zwc x_r) (Rm x_r) (fun r=>r=true↔actP x_r):=⟨by unfold zwc zn5; exact zFZ⟩

instance (x_r:zWC):T (zqH x_r) (Rm x_r) (fun r=>(zFY x_r→r=0)∧(¬ zFY x_r→r=9)):=⟨by unfold zqH; exact zFZ⟩

instance (l0:List zWC) (l7:List zWC) (i8:Int) (n:Nat) (i9:Int):T (zhx l0 l7 i8 n i9) (Rl l7∧l0=l7∧i8=l7.length∧0≤i9∧i9≤i8∧i8<i9+n) (fun r=>(zn1 (dr l7 i9)→r.2=if 64<l0.length then 3 else 0)∧(¬ zn1 (dr l7 i9)→r.2=9)):=by
 induction n generalizing i9
 ·exact ⟨goz⟩
 exact ⟨by unfold zhx; exact zFZ⟩

instance (x_l:List zWC):T (zjF x_l) (Rl x_l) (fun r=>(zn1 x_l→r.2=if 64<x_l.length then 3 else 0)∧(¬ zn1 x_l→r.2=9)):=⟨by unfold zjF; exact zFZ⟩

end Go.Dm
end
section
set_option linter.unusedVariables false
namespace Go.Dm
theorem gu {G:Prop} (h:G:=by
 (with_reducible repeat' first|intro _|refine And.intro ?_ ?_|refine Wf ?_ ?_|refine Wi ?_ ?_|refine Ws ?_|refine Wc ?_ ?_|refine Wo ?_ ?_|refine Wk ?_|refine We ?_ ?_)
 all_goals (try simp only [List.length_cons,List.length_nil])
 all_goals grind [fuel,zb0,zcp,zay,zH,zfg,Sm,Ss,Fv,Fm,Cw,Pw,Tm,Swm,Um,Ac,Km,Gm,Pm,Rt,Tp,Rm,Rl,Om,Ol,UInt8.toNat_lt]):G:=h
theorem gu1 {G:Prop} (h:G:=by
 (with_reducible repeat' first|intro _|refine And.intro ?_ ?_|refine Wf ?_ ?_|refine Wi ?_ ?_|refine Ws ?_|refine Wc ?_ ?_|refine Wo ?_ ?_|refine Wk ?_|refine We ?_ ?_)
 all_goals (try simp only [List.length_cons,List.length_nil])
 all_goals grind (gen:=12) (ematch:=12) [fuel,zb0,zcp,zay,zH,zfg,Sm,Ss,Fv,Fm,Cw,Pw,Tm,Swm,Um,Ac,Km,Gm,Pm,Rt,Tp,Rm,Rl,Om,Ol,UInt8.toNat_lt]):G:=h
theorem gu2 {G:Prop} (h:G:=by
 (with_reducible repeat' first|intro _|refine And.intro ?_ ?_|refine Wf ?_ ?_|refine Wi ?_ ?_|refine Ws ?_|refine Wc ?_ ?_|refine Wo ?_ ?_|refine Wk ?_|refine We ?_ ?_)
 all_goals (try simp only [List.length_cons,List.length_nil])
 all_goals grind (gen:=20) (ematch:=20) (instances:=5000) [fuel,zb0,zcp,zay,zH,zfg,Sm,Ss,Fv,Fm,Cw,Pw,Tm,Swm,Um,Ac,Km,Gm,Pm,Rt,Tp,Rm,Rl,Om,Ol,UInt8.toNat_lt]):G:=h
theorem zOI:∀s∈zHy,s.length≤20:=by decide +kernel
@[grind →] theorem hopN_le {s:Str} (h:s∈zHy):s.length≤20:=zOI s h
def Vb (k:Nat) (l:List zWx):Prop:=∀f∈l,f.Value.length≤k
theorem Vb_n (k:Nat):Vb k []:=fun f hf=>by cases hf
theorem zMw {k:Nat} {l:List zWx} {a v:Str} (h:Vb k l) (hv:v.length≤k):Vb k (l++[⟨a,v⟩]):=fun f hf=>by
 simp only [List.mem_append,List.mem_singleton] at hf
 rcases hf with hf|rfl
 ·exact h f hf
 ·exact hv
theorem Vb_set {k:Nat} {l:List zWx} {i:Int} {f:zWx} (h:Vb k l) (hv:f.Value.length≤k):Vb k (l.set i.toNat f):=fun g hg=>by
 rcases List.mem_or_eq_of_mem_set hg with e|e
 ·exact h g e
 ·exact e▸hv
theorem Vb_m {k:Nat} {l:List zWx} {f:zWx} (h:Vb k l) (hf:f∈l):f.Value.length≤k:=h f hf
theorem Vb_le {k m:Nat} {l:List zWx} (h:Vb k l) (hm:k≤m):Vb m l:=fun f hf=>Nat.le_trans (h f hf) hm
theorem Vb_i {k:Nat} {l:List zWx} (h:∀f∈l,f.Value.length≤k):Vb k l:=h
theorem Vb_sub {k:Nat} {l m:List zWx} (h:∀f∈m,f∈l∨f=⟨[],[]⟩) (hl:Vb k l):Vb k m:=fun f hf=>by
 rcases h f hf with h1|rfl
 ·exact hl f h1
 ·exact Nat.zero_le _
theorem isN_0 (m:Int):Go.Rk.isN m 0=decide (m=0):=rfl
theorem isN_1 (m:Int):Go.Rk.isN m 1=decide (m=1):=rfl
theorem isN_2 (m:Int):Go.Rk.isN m 2=decide (m=2):=rfl
theorem isN_3 (m:Int):Go.Rk.isN m 3=decide (m=3):=rfl
theorem zya {G:Prop} (h:G:=by
 (with_reducible repeat' first|intro _|refine And.intro ?_ ?_|refine Wf ?_ ?_|refine Wi ?_ ?_|refine Ws ?_|refine Wc ?_ ?_|refine Wo ?_ ?_|refine Wk ?_|refine We ?_ ?_)
 all_goals (try simp only [List.length_cons,List.length_nil])
 all_goals grind (gen:=12) (ematch:=12) [Vb_n,zMw,Vb_set, → Vb_m,Vb_i,Vb_sub, → Vb_le,fuel,zb0,zcp,zay,zH,zfg,Sm,Ss,Fv,Fm,Cw,Pw,Tm,Swm,Um,Ac,Km,Gm,Pm,Rt,Tp,Rm,Rl,Om,Ol,UInt8.toNat_lt]):G:=h
theorem zBc {G:Prop} (h:G:=by
 (with_reducible repeat' first|intro _|refine And.intro ?_ ?_|refine Wf ?_ ?_|refine Wi ?_ ?_|refine Ws ?_|refine Wc ?_ ?_|refine Wo ?_ ?_|refine Wk ?_|refine We ?_ ?_)
 all_goals (try simp only [List.length_cons,List.length_nil])
 all_goals grind (gen:=12) (ematch:=12) [isN_0,isN_1,isN_2,isN_3,fuel,zb0,zcp,zay,zH,zfg,Sm,Ss,Fv,Fm,Cw,Pw,Tm,Swm,Um,Ac,Km,Gm,Pm,Rt,Tp,Rm,Rl,Om,Ol,UInt8.toNat_lt]):G:=h
end Go.Dm
end
section
set_option linter.unusedVariables false
namespace Go.Dm
theorem lAt_a {α:Type} {l m:List α} {i:Int} (h:i<l.length):lAt (l++m) i=lAt l i:=by
 unfold lAt
 split
 ·rw [List.getElem?_append_left (by omega)]
 ·rfl
theorem lAt_e {α:Type} {l:List α} {x:α} {i:Int} (h:i=l.length):lAt (l++[x]) i=some x:=by
 unfold lAt;rw [if_pos (by omega),List.getElem?_append_right (by omega)];simp [h]
def dq (l:List Str) (i:Int):List Str:=l.drop i.toNat
theorem dq_0 (l:List Str):dq l 0=l:=rfl
theorem dq_c {l:List Str} {i:Int} {x:Str} (h0:0≤i) (h:lAt l i=some x):dq l i=x::dq l (i+1):=by
 unfold lAt at h;rw [if_pos h0] at h;obtain ⟨h1,h2⟩:=List.getElem?_eq_some_iff.1 h;unfold dq;rw [List.drop_eq_getElem_cons h1,h2]
 congr 2
 omega
theorem dq_e {l:List Str} {i:Int} (h:i=l.length):dq l i=[]:=by
 unfold dq; exact List.drop_eq_nil_of_le (by omega)
theorem dq_s {l:List Str} {i:Int} {x:Str} (h:lAt l i=some x) (h0:0≤i):sl (dq l i)=x.length+sl (dq l (i+1)):=by rw [dq_c h0 h,zH]
def Hd (h:zWB):Prop:=h.Fields.length≤100∧(∀f∈h.Fields,f.Name.length≤3000∧f.Value.length≤3000)∧h.Method.length≤3000∧h.Target.length≤3000∧h.Reason.length≤3000∧0≤h.Code∧h.Code≤599∧0≤h.Minor∧h.Minor≤255
def Fr (a:zWL):Prop:=0≤a.zXw∧a.zXw≤a.zW7.length∧(a.zXw=0∨lAt a.zW7 (a.zXw-1)=some 10)
def Am (a:zWL):Prop:=a.zW7.length≤3000∧Hd a.zXE∧(a.zXY=0→a.f_whole=false→Fr a)
def oA:Option zWL→Prop
 | none=>True
 | some a=>Am a
def kb:Option zWL→Int
 | none=>0
 | some a=>a.zW7.length
def Dn (d:zWA):Prop:=d.zXJ.length≤4098∧0≤d.zX3∧d.zX3≤1099511627776∧0≤d.zXR∧d.zXR≤70000∧d.zXI≤65536∧d.zXA.length≤100∧∀f∈d.zXA,f.Name.length≤4098∧f.Value.length≤4098
def Dg (d:zWA):Prop:=d.zXR≤d.zXI∧d.zWY≠4∧(d.zWY=1∨d.zWY=2→1≤d.zXo∧d.zXo≤1099511627776)
def Dm (d:zWA):Prop:=Dn d∧(d.zWY=4∨Dg d)
def oD:Option zWA→Prop
 | none=>True
 | some d=>Dm d
def Bm (b:zW2):Prop:=oD b.Decoder∧0≤b.zXo∧b.zXo≤1099511627776∧(b.zXH.Kind=2→b.zXy=false→1≤b.zXo)
def oB:Option zW2→Prop
 | none=>True
 | some b=>Bm b
def Em (c:zWI):Prop:=1≤c.zXN∧c.zXN≤65536∧c.zW7.length≤65536
def oE:Option zWI→Prop
 | none=>True
 | some c=>Em c
def Ww (w:zWM):Prop:=oE w.Encoder∧w.zXo≤1099511627776
def oW:Option zWM→Prop
 | none=>True
 | some w=>Ww w
def Tl (l:List zWx):Prop:=l.length≤100∧∀f∈l,f.Name.length≤4098∧f.Value.length≤4098
def Sd (s:zWE):Prop:=oA s.Accum∧oB s.zXF∧oW s.zWQ
def Qm (q:zWV):Prop:=q.zXL.zXs.length≤64∧1≤q.zXL.zWT∧q.zXL.zWT≤64
def oQ:Option zWV→Prop
 | none=>True
 | some q=>Qm q
def En (e:zWJ):Prop:=e.Client.length≤1000∧e.Host.length≤1000∧e.Scheme.length≤1000∧e.By.length≤1000∧Swm e.Domains∧Swm e.Locations
def Ca (c:zXr):Prop:=c.Head≤65536
def Rg (l:List zWC):Prop:=Rl l∧l.length≤400
def Cd (c:Int):Prop:=c=0∨c=400∨c=431
def Gw (g:zWv):Prop:=oQ g.Queue∧En g.zXT∧Ca g.zXC∧Rg g.zXG∧Sd g.zWy∧Sd g.zWw∧Cd g.zXV
def kc (g:zWv):Int:=kb g.zWy.Accum
def ku (g:zWv):Int:=kb g.zWw.Accum
def tc (g:zWv):Int:=g.zXB.length
def tu (g:zWv):Int:=g.zXW.length
def kn:Option zWL→Nat
 | none=>0
 | some a=>a.zW7.length
theorem kb_e (a:Option zWL):kb a=(kn a:Int):=by cases a<;>rfl
def Rs1 (g r:zWv):Prop:=r.Queue=g.Queue∧r.zXT=g.zXT∧r.zXC=g.zXC∧r.zXG=g.zXG∧r.zWy=g.zWy∧r.zWw=g.zWw∧r.zXV=g.zXV∧r.zW8=g.zW8∧r.zXX=g.zXX∧r.zXD=g.zXD∧r.zXP=g.zXP∧r.zXQ=g.zXQ∧r.zXS=g.zXS∧r.zW3=g.zW3
def st (b:Bool):Int:=if b=true then 0 else 1
theorem goG {G:Prop} (h:G:=by
 (with_reducible repeat' first|intro _|refine And.intro ?_ ?_|refine Wf ?_ ?_|refine Wi ?_ ?_|refine Ws ?_|refine Wc ?_ ?_|refine Wo ?_ ?_|refine Wk ?_|refine We ?_ ?_)
 all_goals (try simp only [List.length_cons,List.length_nil])
 all_goals grind (gen:=12) (ematch:=12) [lAt_a,lAt_e,dq_0, → dq_s,dq_e,Hd,Fr,Am,oA,kb, = kb_e,Dn,Dg,Dm,oD,Bm,oB,Em,oE,Ww,oW,Tl,fuel,zb0,zcp,zay,zH,zfg,Sm,Ss,Fv,Fm,Cw]):G:=h
theorem goH {G:Prop} (h:G:=by
 (with_reducible repeat' first|intro _|refine And.intro ?_ ?_|refine Wf ?_ ?_|refine Wi ?_ ?_|refine Ws ?_|refine Wc ?_ ?_|refine Wo ?_ ?_|refine Wk ?_|refine We ?_ ?_)
 all_goals (try simp only [List.length_cons,List.length_nil])
 all_goals grind (gen:=8) (ematch:=8) [oA,kb, = kb_e,oB,oW,Sd,Qm,oQ,Gw,Cd,Ca,kc,ku,tc,tu,Rs1,st,fuel,zay,zH]):G:=h
def Gf (g:zWv):Prop:=Gw g∧kc g=0∧ku g=0∧tc g=0∧tu g=0∧g.zW3=false
def Nw:Option zWv × Int→Prop
 | (none,e)=>e≠0
 | (some g,_)=>Gf g
theorem rtx {x:Option Str} (h:(match x with|some s=>decide (s.length≤1000)|none=>false)=true):W x (fun r=>r.length≤1000):=by
 cases x with
 | none=>cases h
 | some s=>exact ⟨s,rfl,by simpa using h⟩
theorem goF2 {G:Prop} (h:G:=by
 (with_reducible repeat' first|intro _|refine And.intro ?_ ?_|refine Wf ?_ ?_|refine Wi ?_ ?_|refine Ws ?_|refine Wc ?_ ?_|refine Wo ?_ ?_|refine Wk ?_|refine We ?_ ?_)
 all_goals (try simp only [List.length_cons,List.length_nil])
 all_goals grind (gen:=8) (ematch:=8) [dq_0, → dq_s,dq_e,tc,tu,Rs1,fuel,zay,zH]):G:=h
theorem goJ {G:Prop} (h:G:=by
 (with_reducible repeat' first|intro _|refine And.intro ?_ ?_|refine Wf ?_ ?_|refine Wi ?_ ?_|refine Ws ?_|refine Wc ?_ ?_|refine Wo ?_ ?_|refine Wk ?_|refine We ?_ ?_)
 all_goals (try simp only [List.length_cons,List.length_nil])
 all_goals grind (gen:=8) (ematch:=8) [oA,kb, = kb_e,oB,oW,Sd,oQ,Gw,Cd,kc,ku,tc,tu,Rs1,st,fuel,zay,zH]):G:=h
theorem goO {G:Prop} (h:G:=by
 (with_reducible repeat' first|intro _|refine And.intro ?_ ?_|refine Wf ?_ ?_|refine Wi ?_ ?_|refine Ws ?_|refine Wc ?_ ?_|refine Wo ?_ ?_|refine Wk ?_|refine We ?_ ?_)
 all_goals (try simp only [List.length_cons,List.length_nil])
 all_goals grind (gen:=8) (ematch:=8) [Hd,En,Ca,Rg,Fm,Fv,oA,kb, = kb_e,oB,oW,Sd,oQ,Gw,Cd,kc,ku,tc,tu,Rs1,st,fuel,zay,zH]):G:=h
theorem goN2 {G:Prop} (h:G:=by
 (with_reducible repeat' first|intro _|refine And.intro ?_ ?_|refine Wf ?_ ?_|refine Wi ?_ ?_|refine Ws ?_|refine Wc ?_ ?_|refine Wo ?_ ?_|refine Wk ?_|refine We ?_ ?_)
 all_goals (try simp only [List.length_cons,List.length_nil])
 all_goals grind (gen:=8) (ematch:=8) [Nw,Gf,Rm,Rl,Tp,Swm,Hd,En,Ca,Rg,Qm,oA,kb, = kb_e,oB,oW,Sd,oQ,Gw,Cd,kc,ku,tc,tu,Rs1,st,fuel,zay,zH,zcp]):G:=h
end Go.Dm
end
section
set_option linter.unusedVariables false
set_option maxRecDepth 10000
set_option maxHeartbeats 2000000
namespace Go.Dm
instance (x_r:zXk) (x_v:zWP):T (zbs x_r x_v) (Cw x_r.Scanner) (fun r=>Cw r.2.2∧r.2.2.zXp=x_r.Scanner.zXp∧r.2.1.By=x_v.By∧r.2.1.Comment=x_v.Comment):=⟨by unfold zbs zbv zbu; exact gu1⟩

instance (x_r:zXk) (x_v:zWP):T (zeE x_r x_v) (Cw x_r.Scanner) (fun r=>Cw r.2.2∧r.2.2.zXp=x_r.Scanner.zXp):=⟨by unfold zeE zcM; exact gu1⟩

instance (x_r:zXk) (x_v:zWP):T (zbT x_r x_v) (Cw x_r.Scanner) (fun r=>True):=⟨by unfold zbT zah; exact gu1⟩

instance (x_s:Str):T (zng x_s) (x_s.length<1000000000) (fun r=>True):=⟨by unfold zng; exact gu1⟩

instance (x_v:zWP):T (zj7 x_v) (x_v.Proto.length≤1000∧x_v.Version.length≤1000∧x_v.By.length≤1000∧x_v.Comment.length≤1000) (fun r=>r.1.length≤5000):=⟨by unfold zj7 zjE zjD; exact gu1⟩

end Go.Dm
end
section
set_option linter.unusedVariables false
set_option maxRecDepth 10000
set_option maxHeartbeats 2000000
namespace Go.Dm
instance (l:List zWK):T (zhy l) (l.length≤1000000) (fun r=>r=l):=⟨by unfold zhy; exact gu⟩

instance (l:List zWz):T (zfD l) (l.length≤1000000) (fun r=>r=l):=⟨by unfold zfD; exact gu⟩

end Go.Dm
end
section
set_option linter.unusedVariables false
set_option maxRecDepth 10000
set_option maxHeartbeats 2000000
namespace Go.Dm
instance (l:List zWx):T (zgP l) (l.length≤1000000) (fun r=>r=l):=⟨by unfold zgP; exact gu⟩

instance (x_l:List zWx):T (zfn x_l) (Fm x_l) (fun r=>r.zXs=x_l):=⟨by unfold zfn; exact gu⟩

instance (x_b:zWX):T (zbF x_b) (Fm x_b.zXs) (fun r=>r=x_b.zXs):=⟨by unfold zbF; exact gu⟩

instance (x_a:Str) (x_b:Str):T (zbl x_a x_b) (x_a.length<4294967281∧x_b.length<4294967281) (fun r=>True):=⟨by unfold zbl; exact gu⟩

instance (s1:Str) (l9:List zWx) (i10:Int) (n:Nat) (l5:List Str) (i11:Int):T (zdg s1 l9 i10 n l5 i11) (s1.length<1000000000∧Fm l9∧i10=l9.length∧0≤i11∧i11≤i10∧i10<i11+n∧l5.length≤i11∧∀s∈l5,s.length≤70000000) (fun r=>Ss r):=by
 induction n generalizing l5 i11
 ·exact ⟨goz⟩
 exact ⟨by unfold zdg; exact gu⟩

instance (x_b:zWX) (x_name:Str):T (zb5 x_b x_name) (x_name.length<1000000000∧Fm x_b.zXs) (fun r=>Ss r):=⟨by unfold zb5; exact gu⟩

instance (x_c:zWD) (x_at:Int):T (zfo x_c x_at) (Cw x_c) (fun r=>Cw r.2∧r.2.zXp=x_c.zXp∧r.2.zWY≤x_c.zWY∧(0≤x_at→x_at≤x_c.zWY→r.2.zWY=x_at)):=⟨by unfold zfo; exact gu⟩

instance (x_p:zWN) (x_at:Int):T (zcE x_p x_at) (Cw x_p.Scanner∧x_p.zXp=x_p.Scanner.zXp∧0≤x_p.zXw∧x_p.zXw≤x_at∧x_at≤x_p.zXp.length∧x_p.zWQ.length<1000000000) (fun r=>r.Scanner=x_p.Scanner∧r.zXp=x_p.zXp∧r.zXw=x_p.Scanner.zWY∧r.zWQ.length≤x_p.zWQ.length+1∧∀s∈r.zWQ,s∈x_p.zWQ∨s.length≤x_p.zXp.length):=⟨by unfold zcE zcY; exact gu⟩

instance  (n:Nat) (vp0:zWN) (i3:Int):T (zt n vp0 i3) (Cw vp0.Scanner∧vp0.Scanner.zXp.length<vp0.Scanner.zWY+n∧0≤i3∧i3≤vp0.Scanner.zWY+1) (fun r=>Cw r.2.Scanner∧r.2.Scanner.zXp=vp0.Scanner.zXp∧vp0.Scanner.zWY≤r.2.Scanner.zWY∧r.2.zWQ=vp0.zWQ∧r.2.zXw=vp0.zXw∧r.2.zXp=vp0.zXp):=by
 induction n generalizing vp0 i3
 ·exact ⟨goz⟩
 exact ⟨by unfold zt; exact gu⟩

instance (x_p:zWN):T (zct x_p) (Cw x_p.Scanner) (fun r=>Cw r.2.Scanner∧r.2.Scanner.zXp=x_p.Scanner.zXp∧x_p.Scanner.zWY≤r.2.Scanner.zWY∧r.2.zWQ=x_p.zWQ∧r.2.zXw=x_p.zXw∧r.2.zXp=x_p.zXp):=⟨by unfold zct; exact gu⟩

instance (i4:Int) (n:Nat) (v5:zXn) (t6:Bool):T (zcN i4 n v5 t6) (Cw v5.Scanner∧0≤i4∧i4≤v5.Scanner.zWY∧v5.zWQ.length≤v5.Scanner.zWY∧v5.Scanner.zXp.length<v5.Scanner.zWY+n∧(t6=true→v5.Scanner.zXp.length+1<v5.Scanner.zWY+n)) (fun r=>Cw r.2.2∧r.2.2.zXp=v5.Scanner.zXp∧i4≤r.2.2.zWY∧(r.2.1=true→t6=true∧v5.Scanner.zWY≤r.2.2.zWY)∧r.1.length≤v5.Scanner.zXp.length):=by
 induction n generalizing v5 t6
 ·exact ⟨goz⟩
 exact ⟨by unfold zcN zie; exact gu⟩

instance (x_c:zWD):T (ziR x_c) (Cw x_c) (fun r=>Cw r.2.2∧r.2.2.zXp=x_c.zXp∧x_c.zWY≤r.2.2.zWY∧(r.2.1=true→x_c.zWY<r.2.2.zWY)∧r.1.length≤x_c.zXp.length):=⟨by unfold ziR; exact gu⟩

instance (x_p:zWN):T (zdH x_p) (Pw x_p∧x_p.Scanner.zWY<x_p.Scanner.zXp.length) (fun r=>r.1=true→Pw r.2∧r.2.Scanner.zXp=x_p.Scanner.zXp∧x_p.Scanner.zWY<r.2.Scanner.zWY):=⟨by unfold zdH; exact gu⟩

instance (s0:Str) (n:Nat) (v4:zWN):T (zgQ s0 n v4) (Pw v4∧v4.Scanner.zXp=s0∧s0.length<v4.Scanner.zWY+n) (fun r=>r.1.length≤s0.length+1∧∀s∈r.1,s.length≤s0.length):=by
 induction n generalizing v4
 ·exact ⟨goz⟩
 exact ⟨by unfold zgQ; exact gu⟩

instance (x_s:Str):T (zkm x_s) (x_s.length<1000000000) (fun r=>r.1.length≤x_s.length+1∧∀s∈r.1,s.length≤x_s.length):=⟨by unfold zkm; exact gu⟩

instance {P:(List Str × Int)→Prop} (k0:List Str→Int→Option (List Str × Int)) (l4:List Str) (l7:List Str) (i13:Int) (i26:Int) (n:Nat) (i27:Int):K (zfO k0 l4 l7 i13 i26 n i27) P ((Sm l7∧i26=l7.length∧0≤i27∧i27≤i26∧i26<i27+n∧l4.length+l7.length≤4000000000000∧0≤i13∧i13≤10000∧P ([],2))∧(∀l i,l=l4++l7∧i=i13+1→W (k0 l i) P)):=by
 induction n generalizing i27
 ·exact ⟨goz⟩
 exact ⟨fun ⟨h,hk0⟩=>by have hk0:=fun a0 a1=>K.mk (hk0 a0 a1); unfold zfO; exact gu⟩

instance (l11:List Str) (i12:Int) (n:Nat) (l4:List Str) (i13:Int):T (zd2 l11 i12 n l4 i13) (Ss l11∧i12=l11.length∧0≤i13∧i13≤i12∧i12<i13+n∧l4.length≤i13*70000001∧∀s∈l4,s.length≤70000000) (fun r=>r.1.length≤i12*70000001∧∀s∈r.1,s.length≤70000000):=by
 induction n generalizing l4 i13
 ·exact ⟨goz⟩
 exact ⟨by unfold zd2; exact gu⟩

instance (x_l:List Str):T (zg1 x_l) (Ss x_l) (fun r=>r.1.length≤x_l.length*70000001∧∀s∈r.1,s.length≤70000000):=⟨by unfold zg1; exact gu⟩

instance (x_r:zXt) (x_l:List Str):T (zeQ x_r x_l) (Ss x_l) (fun r=>r.1.N=0):=⟨by unfold zeQ; exact gu2⟩

instance {P:(zWG × Int × zWX)→Prop} (k0:Int→Int→Option (zWG × Int × zWX)) (vp32:zWX) (i17:Int) (l29:List Str) (i30:Int) (n:Nat) (i6:Int) (i31:Int):K (zN k0 vp32 i17 l29 i30 n i6 i31) P ((Sm l29∧i30=l29.length∧0≤i31∧i31≤i30∧i30<i31+n∧0≤i17∧i17≤10000 ∧ -1≤i6∧i6≤1099511627776∧P (⟨0,0⟩,28,vp32))∧(∀a b,b=i17+1 ∧ -1≤a∧a≤1099511627776→W (k0 a b) P)):=by
 induction n generalizing i6 i31
 ·exact ⟨goz⟩
 exact ⟨fun ⟨h,hk0⟩=>by have hk0:=fun a0 a1=>K.mk (hk0 a0 a1); unfold zN zby; exact gu2⟩

instance (vp32:zWX) (l15:List Str) (i16:Int) (n:Nat) (i6:Int) (i17:Int):T (z7 vp32 l15 i16 n i6 i17) (Ss l15∧i16=l15.length∧0≤i17∧i17≤i16∧i16<i17+n ∧ -1≤i6∧i6≤1099511627776) (fun r=>0≤r.1.N∧r.1.N≤1099511627776):=by
 induction n generalizing i6 i17
 ·exact ⟨goz⟩
 exact ⟨by unfold z7; exact gu2⟩

instance (x_r:zXt) (x_l:List Str):T (zes x_r x_l) (Ss x_l) (fun r=>0≤r.1.N∧r.1.N≤1099511627776):=⟨by unfold zes; exact gu2⟩

instance (x_h:zWB) (x_none:Int):T (zpK x_h x_none) (Fm x_h.Fields) (fun r=>0≤r.1.N∧r.1.N≤1099511627776):=⟨by unfold zpK zna; exact gu2⟩

instance (x_h:zWB):T (zhP x_h) (Fm x_h.Fields) (fun r=>0≤r.1.N∧r.1.N≤1099511627776):=⟨by unfold zhP; exact gu2⟩

instance {P:(List Str)→Prop} (k0:List Str→Int→Option (List Str)) (i14:Int) (l24:List Str) (i25:Int) (n:Nat) (l3:List Str) (i26:Int):K (zcO k0 i14 l24 i25 n l3 i26) P ((l24.length≤70000001∧(∀s∈l24,s.length≤70000000)∧i25=l24.length∧0≤i26∧i26≤i25∧i25<i26+n∧l3.length≤i14*70000001+i26∧(∀s∈l3,s.length≤70000000)∧0≤i14∧i14≤10000)∧(∀l i,(l.length:Int)≤i*70000001∧i=i14+1∧(∀s∈l,s.length≤70000000)→W (k0 l i) P)):=by
 induction n generalizing l3 i26
 ·exact ⟨goz⟩
 exact ⟨fun ⟨h,hk0⟩=>by have hk0:=fun a0 a1=>K.mk (hk0 a0 a1); unfold zcO zif; exact gu⟩

instance (l12:List Str) (i13:Int) (n:Nat) (l3:List Str) (i14:Int):T (zcP l12 i13 n l3 i14) (Ss l12∧i13=l12.length∧0≤i14∧i14≤i13∧i13<i14+n∧l3.length≤i14*70000001∧∀s∈l3,s.length≤70000000) (fun r=>r.length≤i13*70000001∧∀s∈r,s.length≤70000000):=by
 induction n generalizing l3 i14
 ·exact ⟨goz⟩
 exact ⟨by unfold zcP; exact gu⟩

instance (x_l:List zWx):T (zlv x_l) (Fm x_l) (fun r=>r.length≤700000010000∧∀s∈r,s.length≤70000000):=⟨by unfold zlv; exact gu⟩

instance (x_s:Str) (x_a1:Str):T (zni x_s x_a1) (x_s.length<1000000000∧x_a1.length<1000000000) (fun r=>True):=⟨by unfold zni; exact gu⟩

instance (l0:List Str) (u1:Str) (i7:Int) (n:Nat) (i8:Int):T (zr l0 u1 i7 n i8) (Sm l0∧u1.length<1000000000∧i7=l0.length∧0≤i8∧i8≤i7∧i7<i8+n) (fun r => -1≤r∧r<l0.length):=by
 induction n generalizing i8
 ·exact ⟨goz⟩
 exact ⟨by unfold zr; exact gu⟩

instance (x_s:List Str) (x_f:Str):T (zY x_s x_f) (Sm x_s∧x_f.length<1000000000) (fun r => -1≤r∧r<x_s.length):=⟨by unfold zY; exact gu⟩

instance (x_s:List Str) (x_f:Str):T (zO x_s x_f) (Sm x_s∧x_f.length<1000000000) (fun r=>True):=⟨by unfold zO; exact gu⟩

instance (x_name:Str) (x_names:List Str):T (zwd x_name x_names) (Sm x_names∧x_name.length<1000000000) (fun r=>True):=⟨by unfold zwd; exact gu⟩

instance (x_f:zWx) (x_a1:List Str):T (zcQ x_f x_a1) (Sm x_a1∧x_f.Name.length<1000000000) (fun r=>True):=⟨by unfold zcQ; exact gu⟩

instance (l0:List zWx) (u1:List Str) (i7:Int) (n:Nat) (i8:Int):T (zk l0 u1 i7 n i8) (Fm l0∧Sm u1∧i7=l0.length∧0≤i8∧i8≤i7∧i7<i8+n) (fun r => -1≤r∧r<l0.length):=by
 induction n generalizing i8
 ·exact ⟨goz⟩
 exact ⟨by unfold zk; exact gu⟩

instance (x_s:List zWx) (x_f:List Str):T (zE x_s x_f) (Fm x_s∧Sm x_f) (fun r => -1≤r∧r<x_s.length):=⟨by unfold zE; exact gu⟩

instance (u1:List Str) (n:Nat) (l0:List zWx) (i5:Int) (i6:Int):T (zi u1 n l0 i5 i6) (Fm l0∧Sm u1∧0≤i5∧i5≤i6∧i6≤l0.length∧l0.length<i6+n) (fun r=>Fm r∧r.length≤l0.length∧i5≤r.length∧∀f∈r,f∈l0∨f=⟨[],[]⟩):=by
 induction n generalizing l0 i5 i6
 ·exact ⟨goz⟩
 exact ⟨by unfold zi; exact gu⟩

instance (x_s:List zWx) (x_del:List Str):T (zq x_s x_del) (Fm x_s∧Sm x_del) (fun r=>Fm r∧r.length≤x_s.length∧∀f∈r,f∈x_s∨f=⟨[],[]⟩):=⟨by unfold zq; exact gu⟩

instance (x_b:zWX) (x_names:List Str):T (zcR x_b x_names) (Fm x_b.zXs∧Sm x_names) (fun r=>Fm r.2.zXs∧0≤r.1∧r.2.zXs.length≤x_b.zXs.length∧∀f∈r.2.zXs,f∈x_b.zXs∨f=⟨[],[]⟩):=⟨by unfold zcR; exact gu⟩

end Go.Dm
end
section
set_option linter.unusedVariables false
set_option maxRecDepth 10000
set_option maxHeartbeats 2000000
namespace Go.Dm
instance (x_l:List zWx):T (zts x_l) (Fm x_l) (fun r=>Fm r∧r.length≤x_l.length∧∀f∈r,f∈x_l∨f=⟨[],[]⟩):=⟨by unfold zts; exact gu⟩

instance (s0:Str) (s1:Str) (n:Nat) (i5:Int):T (zdZ s0 s1 n i5) (0≤i5∧i5≤s0.length∧s0.length<i5+n∧s0.length<1000000000) (fun r=>True):=by
 induction n generalizing i5
 ·exact ⟨goz⟩
 exact ⟨by unfold zdZ zma; exact gu⟩

instance (x_s:Str) (x_more:Str):T (zsJ x_s x_more) (x_s.length<1000000000) (fun r=>True):=⟨by unfold zsJ; exact gu⟩

instance (x_s:Str):T (zqQ x_s) (x_s.length<1000000000) (fun r=>True):=⟨by unfold zqQ; exact gu⟩

instance (x_s:Str):T (zol x_s) (x_s.length<1000000000) (fun r=>True):=⟨by unfold zol; exact gu⟩

instance (x_s:Str):T (zpL x_s) (x_s.length<1000000000) (fun r=>r.1.length≤x_s.length∧r.2.1.length≤x_s.length):=⟨by unfold zpL; exact gu⟩

instance (x_t:zW1) (x_s:Str):T (zmb x_t x_s) (Tm x_t∧x_s.length≤10000000) (fun r=>Tm r.1∧r.1.Path.length≤x_t.Path.length+x_s.length+1∧r.1.Query.length≤x_t.Query.length+x_s.length+1):=⟨by unfold zmb zko zkn; exact gu⟩

instance (x_s:Str):T (zi5 x_s) (x_s.length≤10000000) (fun r=>Tm r.1∧r.1.Path.length≤x_s.length+1∧r.1.Query.length≤x_s.length+1):=⟨by unfold zi5 zej zgo; exact gu⟩

instance (x_method:Str) (x_s:Str):T (ztt x_method x_s) (x_s.length≤10000000) (fun r=>Tm r.1∧r.1.Path.length≤x_s.length+1∧r.1.Query.length≤x_s.length+1):=⟨by unfold ztt; exact gu⟩

instance (x_method:Str) (x_s:Str):T (zkp x_method x_s) (x_s.length≤10000000) (fun r=>Tm r.1∧r.1.Path.length≤x_s.length+1∧r.1.Query.length≤x_s.length+1):=⟨by unfold zkp zi6; exact gu⟩

instance (x_path:Str) (x_query:Str) (x_has:Bool):T (zqR x_path x_query x_has) (x_path.length≤1000000000∧x_query.length≤1000000000) (fun r=>r.length≤x_path.length+x_query.length+1):=⟨by unfold zqR; exact gu⟩

instance (x_t:zW1):T (zlw x_t) (Tm x_t) (fun r=>r.length≤x_t.Path.length+x_t.Query.length+10):=⟨by unfold zlw zig; exact gu⟩

instance (x_h:zW0):T (zlx x_h) (x_h.Name.length≤70000000∧x_h.Port≤65535) (fun r=>r.1.length≤x_h.Name.length+100):=⟨by unfold zlx zii zih; exact gu⟩

instance (x_x:zWx) (x_a1:Str):T (zg2 x_x x_a1) (x_x.Name.length<1000000000∧x_a1.length<1000000000) (fun r=>True):=⟨by unfold zg2; exact gu⟩

instance (l0:List zWx) (u1:Str) (i7:Int) (n:Nat) (i8:Int):T (zj l0 u1 i7 n i8) (Fm l0∧u1.length<1000000000∧i7=l0.length∧0≤i8∧i8≤i7∧i7<i8+n) (fun r => -1≤r∧r<l0.length):=by
 induction n generalizing i8
 ·exact ⟨goz⟩
 exact ⟨by unfold zj; exact gu⟩

instance (x_s:List zWx) (x_f:Str):T (zA x_s x_f) (Fm x_s∧x_f.length<1000000000) (fun r => -1≤r∧r<x_s.length):=⟨by unfold zA; exact gu⟩

instance (x_b:zWX) (x_name:Str):T (zjL x_b x_name) (Fm x_b.zXs∧x_name.length<1000000000) (fun r=>r.1.length≤70000000):=⟨by unfold zjL; exact gu⟩

instance (x_b:zWX) (x_l:List zWx):T (zfb x_b x_l) (x_b.zXs.length+x_l.length≤1000000000000) (fun r=>r.zXs=x_b.zXs++x_l):=⟨by unfold zfb; exact gu⟩

theorem zKl (a b:Str):zbl a b=zbl b a:=by
 unfold zbl;cases zaX a<;>cases zaX b<;>simp [BEq.comm]
theorem rem1 (f:zWx) (u:Str):zcQ f [u]=zg2 f u:=by
 unfold zcQ zg2 zwd zO zY;obtain ⟨n,hn⟩:∃n,fuel=n+1+1:=⟨999999999999999998,rfl⟩;rw [hn];have c:=zKl u f.Name
 cases h:zbl f.Name u with
 | none =>
  rw [h] at c;simp [zr,zni,lAt,c]
 | some b =>
  rw [h] at c;cases b<;>simp [zr,zni,lAt,c,zd,inI]
theorem idxR (l:List zWx) (u:Str) (k:Int):∀(n:Nat) (i:Int),zk l [u] k n i=zj l u k n i
 | 0,_=>rfl
 | n+1,i=>by
  unfold zk zj;simp only [rem1,idxR l u k n]
instance (x_b:zWX) (x_name x_value:Str):T (ziS x_b x_name x_value) (Fm x_b.zXs∧x_name.length≤70000000∧x_value.length≤70000000) (fun r=>Fv r.zXs∧r.zXs.length≤x_b.zXs.length+1∧∀k,Vb k x_b.zXs→x_value.length≤k→Vb k r.zXs):=⟨fun ⟨h,hn,hv⟩=>by
 obtain ⟨j,e,h1,h2⟩:=(inferInstance:T (zA x_b.zXs x_name) _ _).ok ⟨h,by omega⟩;unfold ziS;rw [e];show W (if _ then _ else _) _;refine Wi (fun hj=>?_) fun hj=>?_
 ·with_reducible refine Wc ?_ ?_
  ·have:=h.1;simp only [List.length_cons,List.length_nil]; omega
  ·intro r hr;refine Ws ?_;rw [hr]
   unfold Fm Fv at *
   refine ⟨fun f hf=>?_,by simp,fun k hk hx=>zMw hk hx⟩;simp only [List.mem_append,List.mem_singleton] at hf
   rcases hf with hf|rfl
   ·exact h.2 f hf
   ·exact ⟨hn,hv⟩
 ·have hj0:0≤j:=by simpa using hj
  have e2:zE x_b.zXs [x_name]=some j:=by
   rw [← e]; exact idxR _ _ _ _ _
  have hs:Sm [x_name]:=by unfold Sm; simp; omega
  have hl:=h.1;obtain ⟨d,ed,hd1,hd2,hd3,hd5⟩:=(inferInstance:T (zi [x_name] fuel x_b.zXs j (j+1)) _ _).ok ⟨h,hs,hj0,by omega,by omega,by unfold fuel; omega⟩
  have e3:zq x_b.zXs [x_name]=some d:=by
   unfold zq;rw [e2];show (if _ then _ else _)=_;rw [if_neg (by simp; omega),show zd j 1=some (j+1) by simp [zd,inI]; omega];exact ed
  unfold zcR;rw [e3];show W (((zbY _ _).bind fun r2=>some (r2,(⟨d⟩:zWX))).bind _) _;rw [show zbY (x_b.zXs.length:Int) (d.length:Int)=some ((x_b.zXs.length:Int)-d.length) by simp [zbY,inI]; omega];show W ((zcj d j [⟨x_name,x_value⟩]).bind _) _;have hd4:=hd1.1
  with_reducible refine Wc ⟨rfl,hj0,hd3,by omega⟩ ?_
  intro r hr;refine Ws ?_;refine ⟨fun f hf=>?_,by show r.length≤_; omega,fun k hk hx f hf=>?_⟩
  rotate_left
  ·rcases hr.2 f hf with hf|hf
   ·rcases hd5 f hf with hf|rfl
    ·exact hk f hf
    ·exact Nat.zero_le _
   ·simp only [List.mem_singleton] at hf;subst hf; exact hx
  rcases hr.2 f hf with hf|hf
  ·exact hd1.2 f hf
  ·simp only [List.mem_singleton] at hf;subst hf
   exact ⟨hn,hv⟩⟩

instance (x_w:zXf) (x_env:zWJ) (x_t:zW1):T (zfp x_w x_env x_t) (Fm x_w.Bag.zXs∧x_w.Bag.zXs.length≤9000∧x_env.Host.length≤70000000∧x_t.Host.Name.length≤10000000∧x_t.Host.Port≤65535) (fun r=>(r.zX0=x_w.zX0∧Fv r.Bag.zXs∧r.Bag.zXs.length≤x_w.Bag.zXs.length+2)∧(Vb 46000000 x_w.Bag.zXs→x_env.Host.length≤46000000→Vb 46000000 r.Bag.zXs)):=⟨by unfold zfp zdI; exact zya⟩

instance (x_w:zXf):T (zcl x_w) (Fm x_w.Bag.zXs) (fun r=>r.1.Kind=x_w.zX0.Kind∧r.1.Method=x_w.zX0.Method∧r.1.Target=x_w.zX0.Target∧r.1.Code=x_w.zX0.Code∧r.1.Reason=x_w.zX0.Reason∧r.1.Minor=x_w.zX0.Minor∧r.1.Fields=x_w.Bag.zXs∧r.2=0):=⟨by unfold zcl; exact gu1⟩

end Go.Dm
end
section
set_option linter.unusedVariables false
set_option maxRecDepth 10000
set_option maxHeartbeats 2000000
namespace Go.Dm
instance (x_s:Str) (x_suffix:Str):T (strings_HasSuffix x_s x_suffix) (x_s.length<1000000000) (fun r=>r=true→x_suffix.length≤x_s.length):=⟨by unfold strings_HasSuffix; exact gu⟩

instance (s0:Str) (l10:List zWK) (i11:Int) (n:Nat) (i12:Int):T (zek s0 l10 i11 n i12) (s0.length<1000000000∧Swm l10∧i11=l10.length∧0≤i12∧i12≤i11∧i11<i12+n) (fun r=>r.1.length≤s0.length+1000):=by
 induction n generalizing i12
 ·exact ⟨goz⟩
 exact ⟨by unfold zek; exact gu1⟩

instance (x_s:Str) (x_l:List zWK):T (zom x_s x_l) (x_s.length<1000000000∧Swm x_l) (fun r=>r.1.length≤x_s.length+1000):=⟨by unfold zom; exact gu1⟩

instance (x_s:Str) (x_l:List zWK):T (zij x_s x_l) (x_s.length≤900000000∧Swm x_l) (fun r=>r.length≤x_s.length+1000):=⟨by unfold zij; exact gu1⟩

instance (b:UInt8):T (zg3 b) True (fun r=>r=(gd zg3) b):=bt (by decide +kernel) b

instance (x_s:Str):T (zmc x_s) (x_s.length<1000000000) (fun r=>r.1.Name.length+r.1.Value.length≤x_s.length):=⟨by unfold zmc zkq; exact gu1⟩

instance (b:UInt8):T (zik b) True (fun r=>r=(gd zik) b):=bt (by decide +kernel) b

instance (x_s:Str):T (znb x_s) (x_s.length<1000000000) (fun r=>True):=⟨by unfold znb; exact gu1⟩

instance (l41:List Str) (i42:Int) (n:Nat) (v7:zWO) (i43:Int):T (zgR l41 i42 n v7 i43) (Sm l41∧i42=l41.length∧0≤i43∧i43≤i42∧i42<i43+n∧v7.Attrs.length≤i43) (fun r=>r.1.Name.length≤v7.Name.length∧r.1.Value.length≤v7.Value.length∧r.1.Attrs.length≤l41.length∧∀a∈r.1.Attrs,a∈v7.Attrs∨∃s∈l41,a.Name.length+a.Value.length≤s.length):=by
 induction n generalizing v7 i43
 ·exact ⟨goz⟩
 exact ⟨by unfold zgR; exact gu1⟩

instance (x_s:Str):T (zkr x_s) (x_s.length<1000000000) (fun r=>r.1.Name.length≤x_s.length∧r.1.Value.length≤x_s.length∧r.1.Attrs.length≤x_s.length+1∧∀a∈r.1.Attrs,a.Name.length+a.Value.length≤x_s.length):=⟨by unfold zkr; exact gu1⟩

instance (s1:Str) (v2:zWO) (n:Nat) (i5:Int):T (zhQ s1 v2 n i5) (-1≤i5∧i5<v2.Attrs.length∧i5+1<n∧s1.length<1000000000∧Ac v2) (fun r => -1≤r∧r<v2.Attrs.length):=by
 induction n generalizing i5
 ·exact ⟨goz⟩
 exact ⟨by unfold zhQ; exact gu1⟩

instance (x_c:zWO) (x_name:Str):T (zmd x_c x_name) (x_name.length<1000000000∧Ac x_c) (fun r => -1≤r∧r<x_c.Attrs.length):=⟨by unfold zmd; exact gu1⟩

instance (x_c:zWO) (x_name:Str):T (zqS x_c x_name) (x_name.length<1000000000∧Ac x_c) (fun r=>r.1.length=0∨∃a∈x_c.Attrs,r.1=a.Value):=⟨by unfold zqS; exact gu1⟩

instance (x_s:Str) (x_prefix:Str):T (stringslite_TrimPrefix x_s x_prefix) (True) (fun r=>r.length≤x_s.length):=⟨by unfold stringslite_TrimPrefix; exact gu⟩

instance (x_s:Str) (x_prefix:Str):T (strings_TrimPrefix x_s x_prefix) (True) (fun r=>r.length≤x_s.length):=⟨by unfold strings_TrimPrefix; exact gu⟩

instance (x_name:Str) (x_domain:Str):T (zks x_name x_domain) (x_name.length<1000000000∧x_domain.length<900000000) (fun r=>r=true→x_domain.length≤x_name.length):=⟨by unfold zks; exact gu⟩

instance (s0:Str) (s6:Str) (l11:List zWK) (i12:Int) (n:Nat) (i13:Int):T (zhR s0 s6 l11 i12 n i13) (s6.length<1000000000∧Swm l11∧i12=l11.length∧0≤i13∧i13≤i12∧i12<i13+n) (fun r=>r.1.length≤s0.length+s6.length+1000):=by
 induction n generalizing i13
 ·exact ⟨goz⟩
 exact ⟨by unfold zhR; exact gu1⟩

instance (x_name:Str) (x_l:List zWK):T (zon x_name x_l) (x_name.length<1000000000∧Swm x_l) (fun r=>r.1.length≤2*x_name.length+1000):=⟨by unfold zon; exact gu1⟩

instance (s1:Str) (s2:Str) (i7:Int) (l20:List zW4) (i21:Int) (n:Nat) (v8:zWO) (i22:Int):T (zcZ s1 s2 i7 l20 i21 n v8 i22) (s1.length≤7500∧s2.length≤7500∧i21=l20.length∧0≤i22∧i22≤i21∧i21<i22+n∧l20.length≤3001∧v8.Attrs.length≤i22∧(∀a∈l20,a.Name.length≤7500∧a.Value.length≤7500)∧Km v8) (fun r=>Km r):=by
 induction n generalizing v8 i22
 ·exact ⟨goz⟩
 exact ⟨by unfold zcZ zlz zly zlA; exact gu1⟩

instance (x_c:zWO) (x_name:Str) (x_value:Str):T (zqT x_c x_name x_value) (x_name.length≤7500∧x_value.length≤7500∧Km x_c∧x_c.Attrs.length≤3001) (fun r=>Km r):=⟨by unfold zqT; exact gu1⟩

instance (l0:List zW4) (l1:List zW4) (i12:Int) (n:Nat) (i13:Int):T (zP l0 l1 i12 n i13) (i12=l0.length∧i12=l1.length∧0≤i13∧i13≤i12∧i12<i13+n∧l0.length<1000000000000) (fun r=>True):=by
 induction n generalizing i13
 ·exact ⟨goz⟩
 exact ⟨by unfold zP; exact gu⟩

instance (x_s1:List zW4) (x_s2:List zW4):T (zaS x_s1 x_s2) (x_s1.length<1000000000000) (fun r=>True):=⟨by unfold zaS; exact gu⟩

instance (x_a:zWO) (x_b:zWO):T (zoo x_a x_b) (x_a.Attrs.length<1000000000000) (fun r=>True):=⟨by unfold zoo; exact gu1⟩

instance (v1:zWO) (l18:List zW4) (i19:Int) (n:Nat) (l4:List Str) (i20:Int):T (zfP v1 l18 i19 n l4 i20) (Km v1∧i19=l18.length∧0≤i20∧i20≤i19∧i19<i20+n∧l18.length≤3002∧l4.length≤i20+1∧sl l4≤(i20+1)*15001∧∀a∈l18,a.Name.length≤7500∧a.Value.length≤7500) (fun r=>r.1.length≤46000000):=by
 induction n generalizing l4 i20
 ·exact ⟨goz⟩
 exact ⟨by unfold zfP; exact gu1⟩

instance (x_c:zWO):T (zop x_c) (Km x_c) (fun r=>r.1.length≤46000000):=⟨by unfold zop; exact gu1⟩

instance (x_s:Str) (x_l:List zWK):T (zi7 x_s x_l) (x_s.length≤3000∧Swm x_l) (fun r=>r.length≤46000000):=⟨by unfold zi7; exact gu1⟩

instance (i12:Int) (n:Nat) (v2:zWJ) (l5:List zWx) (i13:Int):T (zbK i12 n v2 l5 i13) (i12=l5.length∧l5.length≤10000∧0≤i13∧i13≤i12∧i12<i13+n∧Swm v2.Domains∧Swm v2.Locations∧Fv l5∧Vb 46000000 l5∧∀k f,i13≤k→lAt l5 k=some f→f.Value.length≤3000) (fun r=>(r.length=l5.length∧Fv r)∧Vb 46000000 r):=by
 induction n generalizing v2 l5 i13
 ·exact ⟨goz⟩
 exact ⟨by unfold zbK zgp; exact zya⟩

instance (x_env:zWJ) (x_l:List zWx):T (zi8 x_env x_l) (Fm x_l∧Swm x_env.Domains∧Swm x_env.Locations∧∀f∈x_l,f.Value.length≤3000) (fun r=>(r.length=x_l.length∧Fv r)∧Vb 46000000 r):=⟨by unfold zi8; exact zya⟩

instance (x_a0:zWJ) (x_a1:zWB):T (zoq x_a0 x_a1) (Fm x_a1.Fields∧x_a1.Fields.length≤8000∧(∀f∈x_a1.Fields,f.Value.length≤3000)∧x_a1.Target.length≤9000000∧x_a0.Host.length≤46000000∧Swm x_a0.Domains∧Swm x_a0.Locations) (fun r=>(Fv r.1.Fields∧r.1.Fields.length≤x_a1.Fields.length+2)∧Vb 46000000 r.1.Fields∧r.1.Target.length≤2*x_a1.Target.length+20∧r.1.Method.length≤x_a1.Method.length∧r.1.Reason.length≤x_a1.Reason.length∧(r.1.Code=x_a1.Code∨r.1.Code=0)∧r.1.Minor≤1):=⟨by unfold zoq; exact zya⟩

end Go.Dm
end
section
set_option linter.unusedVariables false
set_option maxRecDepth 10000
set_option maxHeartbeats 2000000
namespace Go.Dm
instance (x_name:Str) (x_value:Str):T (zc0 x_name x_value) (True) (fun r=>r=⟨x_name,x_value⟩):=⟨by unfold zc0; exact gu1⟩

instance (x_env:zWJ) (x_h:zWB):T (zor x_env x_h) (x_env.Client.length≤70000000∧x_env.Host.length≤70000000∧x_env.Scheme.length≤70000000∧x_h.Target.length≤70000000∧x_h.Method.length≤70000000∧x_h.Code≤9223372036854775807) (fun r=>Pm r):=⟨by unfold zor; exact gu1⟩

instance (x_r:zWC):T (zos x_r) (Rm x_r) (fun r=>r.length≤2):=⟨by unfold zos; exact gu1⟩

instance (l0:List zWC) (v3:zXe) (n:Nat) (i4:Int):T (zc7 l0 v3 n i4) (Rl l0∧Gm v3∧1≤i4∧i4≤l0.length∧l0.length<i4+n) (fun r=>1≤r∧r≤l0.length):=by
 induction n generalizing i4
 ·exact ⟨goz⟩
 exact ⟨by unfold zc7 zhS; exact gu1⟩

instance (x_l:List zWC):T (zot x_l) (Rl x_l∧1≤x_l.length) (fun r=>1≤r∧r≤x_l.length):=⟨by unfold zot; exact gu1⟩

instance (x_g:zXe) (x_n:Int):T (zlB x_g x_n) (True) (fun r=>r.N=x_n∧r.Name=x_g.Name∧r.Text.length≤x_g.Value.length∧r.Parts=[]):=⟨by unfold zlB; exact gu1⟩

instance (x_r:zWC):T (zou x_r) (Rm x_r) (fun r=>Om r):=⟨by unfold zou; exact gu1⟩

instance (l6:List zWC) (i7:Int) (n:Nat) (vp0:zWU) (i8:Int):T (zbg l6 i7 n vp0 i8) (Rl l6∧i7=l6.length∧0≤i8∧i8≤i7∧i7<i8+n∧Ol vp0.zWQ∧vp0.zWQ.length≤1000000+i8) (fun r=>Ol r.zWQ∧r.zWQ.length≤vp0.zWQ.length+i7-i8):=by
 induction n generalizing vp0 i8
 ·exact ⟨goz⟩
 exact ⟨by unfold zbg; exact gu1⟩

instance (x_c:zWU) (x_l:List zWC):T (zdJ x_c x_l) (Rl x_l∧Ol x_c.zWQ∧x_c.zWQ.length≤1000000) (fun r=>Ol r.zWQ∧r.zWQ.length≤x_c.zWQ.length+x_l.length):=⟨by unfold zdJ; exact gu1⟩

instance  (n:Nat) (vp0:zWU) (l1:List zWC):T (zV n vp0 l1) (Rl l1∧l1.length<n∧Ol vp0.zWQ∧vp0.zWQ.length+2*l1.length≤100000) (fun r=>Ol r.zWQ∧r.zWQ.length≤vp0.zWQ.length+2*l1.length):=by
 induction n generalizing vp0 l1
 ·exact ⟨goz⟩
 exact ⟨by unfold zV zcu; exact gu1⟩

instance (x_c:zWU) (x_l:List zWC):T (zdK x_c x_l) (Rl x_l∧x_c.zWQ=[]) (fun r=>Ol r.zWQ∧r.zWQ.length≤2*x_l.length):=⟨by unfold zdK; exact gu1⟩

instance (i0:Int) (l26:List zWC) (i27:Int) (n:Nat) (l8:List zWC) (i28:Int):T (zcS i0 l26 i27 n l8 i28) (Rl l26∧i27=l26.length∧0≤i28∧i28≤i27∧i27<i28+n∧l8.length≤i28∧∀r∈l8,Rm r) (fun r=>Ol r.1∧r.1.length≤2*l26.length):=by
 induction n generalizing l8 i28
 ·exact ⟨goz⟩
 exact ⟨by unfold zcS; exact gu1⟩

instance (x_side:Int) (x_l:List zWC):T (zi9 x_side x_l) (Rl x_l) (fun r=>Ol r.1∧r.1.length≤2*x_l.length):=⟨by unfold zi9 zgq; exact gu1⟩

instance (x_m:zWR) (x_op:zXm):T (zet x_m x_op) (Fm x_m.Bag.zXs∧x_op.Name.length<1000000000) (fun r=>True):=⟨by unfold zet; exact gu1⟩

instance (s1:Str) (l7:List zWW) (i8:Int) (n:Nat) (i9:Int):T (zkt s1 l7 i8 n i9) (Pm l7∧i8=l7.length∧0≤i9∧i9≤i8∧i8<i9+n) (fun r=>r.length≤70000000):=by
 induction n generalizing i9
 ·exact ⟨goz⟩
 exact ⟨by unfold zkt; exact gu1⟩

instance (x_known:List zWW) (x_name:Str):T (ztu x_known x_name) (Pm x_known) (fun r=>r.length≤70000000):=⟨by unfold ztu; exact gu1⟩

instance (s0:Str) (n:Nat) (l3:List UInt8) (i4:Int):T (zfc s0 n l3 i4) (s0.length<100000000000∧0≤i4∧i4≤s0.length∧s0.length<i4+n∧l3.length≤65536) (fun r=>r.length≤65536):=by
 induction n generalizing l3 i4
 ·exact ⟨goz⟩
 exact ⟨by unfold zfc zlC; exact gu1⟩

instance (x_s:Str):T (zqU x_s) (x_s.length<100000000000) (fun r=>r.length≤65536):=⟨by unfold zqU; exact gu1⟩

instance (l0:List zWW) (v7:zWX) (l15:List zWz) (i16:Int) (n:Nat) (l8:List Str) (i17:Int):T (zeR l0 v7 l15 i16 n l8 i17) (Pm l0∧Fm v7.zXs∧Tp l15∧i16=l15.length∧0≤i17∧i17≤i16∧i16<i17+n∧l8.length≤i17∧sl l8≤i17*70000000) (fun r=>r.length≤65536):=by
 induction n generalizing l8 i17
 ·exact ⟨goz⟩
 exact ⟨by unfold zeR; exact gu1⟩

instance (x_known:List zWW) (x_fields:List zWx) (x_l:List zWz):T (ztv x_known x_fields x_l) (Pm x_known∧Fm x_fields∧Tp x_l) (fun r=>r.length≤65536):=⟨by unfold ztv; exact gu1⟩

instance (x_m:zWR) (x_l:List zWz):T (zcF x_m x_l) (Pm x_m.zXU∧Fm x_m.Bag.zXs∧Tp x_l) (fun r=>r.length≤65536):=⟨by unfold zcF; exact gu1⟩

instance (s1:Str) (s2:Str) (i15:Int) (n:Nat) (vp0:zWX) (i7:Int) (i16:Int):T (zcm s1 s2 i15 n vp0 i7 i16) (Fm vp0.zXs∧i15=vp0.zXs.length∧0≤i16∧i16≤i15∧i15<i16+n∧0≤i7∧i7≤i16∧s1.length≤70000000∧s2.length≤70000000) (fun r=>(Fm r.2.zXs∧r.2.zXs.length=vp0.zXs.length)∧(∀k,Vb k vp0.zXs→Vb k r.2.zXs)):=by
 induction n generalizing vp0 i7 i16
 ·exact ⟨goz⟩
 exact ⟨by unfold zcm; exact zya⟩

instance (x_b:zWX) (x_from:Str) (x_to:Str):T (zil x_b x_from x_to) (Fm x_b.zXs∧x_from.length≤70000000∧x_to.length≤70000000) (fun r=>(Fm r.2.zXs∧r.2.zXs.length=x_b.zXs.length)∧(∀k,Vb k x_b.zXs→Vb k r.2.zXs)):=⟨by unfold zil; exact zya⟩

instance (x_m:zWR) (x_op:zXm):T (zeS x_m x_op) (Pm x_m.zXU∧Fm x_m.Bag.zXs∧Om x_op) (fun r=>(r.zXU=x_m.zXU∧r.zXO=x_m.zXO∧Fv r.Bag.zXs∧r.Bag.zXs.length≤x_m.Bag.zXs.length+1)∧(Vb 66000000 x_m.Bag.zXs→Vb 66000000 r.Bag.zXs)):=⟨by unfold zeS; exact zya⟩

instance (l1:List zXm) (n:Nat) (vp0:zWR) (i4:Int):T (z8 l1 n vp0 i4) (Ol l1∧l1.length≤1000∧0≤i4∧i4≤2*l1.length+1∧1≤n∧l1.length<i4+n∧Pm vp0.zXU∧Fm vp0.Bag.zXs∧vp0.Bag.zXs.length+l1.length≤10000+i4∧0≤vp0.zXO∧vp0.zXO≤i4) (fun r=>(Fm r.Bag.zXs∧(r.Bag.zXs.length+i4≤vp0.Bag.zXs.length+l1.length∨r.Bag.zXs.length≤vp0.Bag.zXs.length))∧(Vb 66000000 vp0.Bag.zXs→Vb 66000000 r.Bag.zXs)):=by
 induction n generalizing vp0 i4
 ·exact ⟨goz⟩
 exact ⟨by unfold z8 zc1; exact zya⟩

instance (x_m:zWR) (x_l:List zXm):T (zeu x_m x_l) (Ol x_l∧x_l.length≤1000∧Pm x_m.zXU∧Fm x_m.Bag.zXs∧x_m.Bag.zXs.length≤9000∧x_m.zXO=0) (fun r=>(Fm r.Bag.zXs∧r.Bag.zXs.length≤x_m.Bag.zXs.length+x_l.length)∧(Vb 66000000 x_m.Bag.zXs→Vb 66000000 r.Bag.zXs)):=⟨by unfold zeu; exact zya⟩

instance (x_known:List zWW) (x_fields:List zWx) (x_l:List zXm):T (zov x_known x_fields x_l) (Pm x_known∧Fm x_fields∧x_fields.length≤9000∧Ol x_l∧x_l.length≤1000) (fun r=>(Fm r∧r.length≤x_fields.length+x_l.length)∧(Vb 66000000 x_fields→Vb 66000000 r)):=⟨by unfold zov; exact zya⟩

instance (x_known:List zWW) (x_fields:List zWx) (x_side:Int) (x_l:List zWC):T (zlD x_known x_fields x_side x_l) (Pm x_known∧Fm x_fields∧x_fields.length≤9000∧Rl x_l∧x_l.length≤500) (fun r=>(Fv r.1∧r.1.length≤x_fields.length+2*x_l.length)∧(Vb 66000000 x_fields→Vb 66000000 r.1)):=⟨by unfold zlD; exact zya⟩

instance (x_l:List Str):T (zme x_l) (sl x_l+10*x_l.length≤100000000000000) (fun r=>r.length≤sl x_l+10*x_l.length):=⟨by unfold zme; exact gu⟩

end Go.Dm
end
section
set_option linter.unusedVariables false
set_option maxRecDepth 10000
set_option maxHeartbeats 2000000
namespace Go.Dm
instance (priority:=high) (x_v:zWP):T (zj7 x_v) (x_v.Proto.length≤1000∧x_v.Version.length≤1000∧x_v.By.length≤1000∧x_v.Comment.length≤1000) (fun r=>r.1.length≤5000):=⟨by unfold zj7 zjE zjD; exact gu1⟩

instance (x_s:Str) (x_l:List Str):T (zlE x_s x_l) (x_s.length<1000000000∧x_l.length≤1000∧sl x_l≤1000000000) (fun r=>r.length≤x_s.length+sl x_l+10*x_l.length+10):=⟨by unfold zlE; exact gu⟩

instance (vp0:zWX) (s1:Str) (s2:Str) (n:Nat) (i6:Int):T (zdw vp0 s1 s2 n i6) (Fm vp0.zXs ∧ -1≤i6∧i6<vp0.zXs.length∧i6+1<n∧s1.length≤70000000∧s2.length≤1000000) (fun r=>r.zXs.length≤vp0.zXs.length+1∧∀f∈r.zXs,f∈vp0.zXs∨(f.Name=s1∧f.Value=s2)∨∃g∈vp0.zXs,f.Name=g.Name∧f.Value.length≤g.Value.length+s2.length+20):=by
 induction n generalizing i6
 ·exact ⟨goz⟩
 exact ⟨by unfold zdw; exact gu⟩

instance (x_b:zWX) (x_name:Str) (x_element:Str):T (zd3 x_b x_name x_element) (Fm x_b.zXs∧x_name.length≤70000000∧x_element.length≤1000000) (fun r=>r.zXs.length≤x_b.zXs.length+1∧∀f∈r.zXs,f∈x_b.zXs∨(f.Name=x_name∧f.Value=x_element)∨∃g∈x_b.zXs,f.Name=g.Name∧f.Value.length≤g.Value.length+x_element.length+20):=⟨by unfold zd3; exact gu⟩

instance (x_v:zWP) (x_l:List zWx):T (zqV x_v x_l) (Fm x_l∧x_l.length≤9000∧(∀f∈x_l,f.Value.length≤66000000)∧x_v.Proto.length≤1000∧x_v.Version.length≤1000∧x_v.By.length≤1000∧x_v.Comment.length≤1000) (fun r=>r.1.length≤x_l.length+1∧∀f∈r.1,f∈x_l∨(f.Name.length≤10∧f.Value.length≤5000)∨∃g∈x_l,f.Name=g.Name∧f.Value.length≤g.Value.length+5020):=⟨by unfold zqV; exact gu1⟩

instance (x_client:Str):T (zku x_client) (x_client.length≤1000) (fun r=>r.length≤1100):=⟨by unfold zku; exact gu2⟩

instance (x_env:zWJ):T (zkv x_env) (x_env.Client.length≤1000∧x_env.Host.length≤1000∧x_env.Scheme.length≤1000) (fun r=>r.length≤3∧∀p∈r,p.Name.length≤10∧p.Value.length≤1100):=⟨by unfold zkv zhc zhb; exact gu2⟩

instance (s0:Str) (i12:Int) (n:Nat) (l4:List UInt8) (i13:Int):T (zcs s0 i12 n l4 i13) (i12=s0.length∧0≤i13∧i13≤i12∧i12<i13+n∧s0.length<1000000000∧l4.length≤2*i13+1) (fun r=>r.1.length≤2*s0.length+2):=by
 induction n generalizing l4 i13
 ·exact ⟨goz⟩
 exact ⟨by unfold zcs zjb zja; exact gu⟩

instance (x_s:Str):T (znc x_s) (x_s.length<1000000000) (fun r=>r.1.length≤2*x_s.length+2):=⟨by unfold znc; exact gu⟩

instance (x_s:Str):T (zlF x_s) (x_s.length<1000000000) (fun r=>r.1.length≤2*x_s.length+2):=⟨by unfold zlF; exact gu⟩

instance (l9:List zWW) (i10:Int) (n:Nat) (l4:List Str) (i11:Int):T (zhT l9 i10 n l4 i11) (i10=l9.length∧0≤i11∧i11≤i10∧i10<i11+n∧l9.length≤3∧(∀p∈l9,p.Name.length≤10∧p.Value.length≤1100)∧l4.length≤i11∧sl l4≤i11*2300) (fun r=>r.1.length≤7000):=by
 induction n generalizing l4 i11
 ·exact ⟨goz⟩
 exact ⟨by unfold zhT; exact gu⟩

instance (x_l:List zWW):T (zow x_l) (x_l.length≤3∧(∀p∈x_l,p.Name.length≤10∧p.Value.length≤1100)) (fun r=>r.1.length≤7000):=⟨by unfold zow; exact gu⟩

instance (x_env:zWJ) (x_l:List zWx):T (zim x_env x_l) (Fm x_l∧x_l.length≤9100∧(∀f∈x_l,f.Value.length≤67000000)∧x_env.Client.length≤1000∧x_env.Host.length≤1000∧x_env.Scheme.length≤1000) (fun r=>r.1.length≤x_l.length+1∧∀f∈r.1,f∈x_l∨(f.Name.length≤10∧f.Value.length≤7000)∨∃g∈x_l,f.Name=g.Name∧f.Value.length≤g.Value.length+7020):=⟨by unfold zim; exact gu2⟩

instance (x_s:Str):T (zwe x_s) (x_s.length<1000000000) (fun r=>True):=⟨by unfold zwe; exact gu2⟩

instance (x_client:Str) (x_l:List zWx):T (zqW x_client x_l) (Fm x_l∧x_l.length≤9200∧(∀f∈x_l,f.Value.length≤68000000)∧x_client.length≤1000) (fun r=>r.length≤x_l.length+1∧Fv r):=⟨by unfold zqW zlG; exact gu2⟩

instance (x_a0:zWJ) (x_a1:Int) (x_a2:zWB):T (zqX x_a0 x_a1 x_a2) (Fm x_a2.Fields∧x_a2.Fields.length≤9000∧(∀f∈x_a2.Fields,f.Value.length≤66000000)∧x_a0.Client.length≤1000∧x_a0.Host.length≤1000∧x_a0.Scheme.length≤1000∧x_a0.By.length≤1000∧x_a1≤9223372036854775807) (fun r=>(Fv r.1.Fields∧r.1.Fields.length≤x_a2.Fields.length+3)∧r.1.Target.length≤x_a2.Target.length∧r.1.Method.length≤x_a2.Method.length∧r.1.Reason.length≤x_a2.Reason.length∧(r.1.Code=x_a2.Code∨r.1.Code=0)∧(r.1.Minor=x_a2.Minor∨r.1.Minor=0)):=⟨by unfold zqX zfd zlI zlH; exact gu2⟩

instance (x_f:zWG):T (zlJ x_f) (x_f.N≤9223372036854775807) (fun r=>r.length≤1∧Fv r):=⟨by unfold zlJ; exact gu2⟩

instance (x_env:zWJ) (x_f:zWG) (x_h:zWB) (x_l:List zWC):T (zin x_env x_f x_h x_l) (Fm x_h.Fields∧x_h.Fields.length≤8000∧(∀f∈x_h.Fields,f.Value.length≤3000)∧x_h.Method.length≤10000∧x_h.Target.length≤10000∧x_h.Reason.length≤10000∧x_h.Code≤1000∧x_h.Minor≤1000∧0≤x_f.N∧x_f.N≤1099511627776∧x_env.Client.length≤1000∧x_env.Host.length≤1000∧x_env.Scheme.length≤1000∧x_env.By.length≤1000∧Swm x_env.Domains∧Swm x_env.Locations∧Rl x_l∧x_l.length≤400) (fun r=>Fm r.1.Fields∧r.1.Fields.length≤9500∧r.1.Method.length≤10000∧r.1.Target.length≤30000∧r.1.Reason.length≤10000∧r.1.Code≤1000∧r.1.Minor≤1000):=⟨by unfold zin; exact zya⟩

end Go.Dm
end
section
set_option linter.unusedVariables false
set_option maxRecDepth 10000
set_option maxHeartbeats 2000000
namespace Go.Dm
instance (x_x:zWK):T (znx x_x) (True) (fun r=>r.From.length≤60∧r.To.length≤60):=⟨by unfold znx; exact gu1⟩

instance (v1:zWJ) (n:Nat) (v5:zWJ) (i7:Int):T (zge v1 n v5 i7) (0≤i7∧i7≤6∧i7≤v1.Locations.length∧7<i7+n∧v5.Locations.length≤i7) (fun r=>r.Client=v5.Client∧r.Host=v5.Host∧r.Scheme=v5.Scheme∧r.By=v5.By):=by
 induction n generalizing v5 i7
 ·exact ⟨goz⟩
 exact ⟨by unfold zge zmV; exact zBc⟩

instance (v1:zWJ) (n:Nat) (v5:zWJ) (i6:Int):T (zdD v1 n v5 i6) (0≤i6∧i6≤6∧i6≤v1.Domains.length∧7<i6+n∧v5.Domains.length≤i6∧v5.Locations.length=0) (fun r=>r.Client=v5.Client∧r.Host=v5.Host∧r.Scheme=v5.Scheme∧r.By=v5.By):=by
 induction n generalizing v5 i6
 ·exact ⟨goz⟩
 exact ⟨by unfold zdD zmW; exact zBc⟩

theorem s60 (l:Str):sTo l (min (l.length:Int) 60)=some (l.take 60):=by
 unfold sTo;rw [if_pos (by omega),show (min (l.length:Int) (60:Int)).toNat=min 60 l.length by omega, ← List.take_take,List.take_length]
theorem zxX (x:zWJ) (n:Nat) (a b c d:Str):zR x (n+1) (a,b,c,d) 0=zR x n (a.take 60,b,c,d) 1:=by
 show ((sTo a (min (a.length:Int) 60)).bind fun r=>(zd 0 1).bind fun r1=>zR x n (r,b,c,d) r1)=_;rw [s60]; rfl
theorem zxY (x:zWJ) (n:Nat) (a b c d:Str):zR x (n+1) (a,b,c,d) 1=zR x n (a,b.take 60,c,d) 2:=by
 show ((sTo b (min (b.length:Int) 60)).bind fun r=>(zd 1 1).bind fun r1=>zR x n (a,r,c,d) r1)=_;rw [s60]; rfl
theorem zxZ (x:zWJ) (n:Nat) (a b c d:Str):zR x (n+1) (a,b,c,d) 2=zR x n (a,b,c.take 60,d) 3:=by
 show ((sTo c (min (c.length:Int) 60)).bind fun r=>(zd 2 1).bind fun r1=>zR x n (a,b,r,d) r1)=_;rw [s60]; rfl
theorem zx0 (x:zWJ) (n:Nat) (a b c d:Str):zR x (n+1) (a,b,c,d) 3=zR x n (a,b,c,d.take 60) 4:=by
 show ((sTo d (min (d.length:Int) 60)).bind fun r=>(zd 3 1).bind fun r1=>zR x n (a,b,c,r) r1)=_;rw [s60]; rfl
theorem zFw (x:zWJ) (n:Nat) (a b c d:Str):zR x (n+1) (a,b,c,d) 4=zdD x fuel ⟨a,b,c,d,[],[]⟩ 0:=rfl
instance (x_a0:zWJ):T (ztg x_a0) True (fun r=>r.Client.length≤60∧r.Host.length≤60∧r.Scheme.length≤60∧r.By.length≤60):=⟨fun _=>by
 unfold ztg;obtain ⟨n,hn⟩:∃n,fuel=n+1+1+1+1+1:=⟨999999999999999995,rfl⟩;have e:=zFw x_a0 n (x_a0.Client.take 60) (x_a0.Host.take 60) (x_a0.Scheme.take 60) (x_a0.By.take 60);obtain ⟨r,er,h1,h2,h3,h4⟩:=(inferInstance:T (zdD x_a0 fuel ⟨x_a0.Client.take 60,x_a0.Host.take 60,x_a0.Scheme.take 60,x_a0.By.take 60,[],[]⟩ 0) _ _).ok ⟨by omega,by omega,by omega,by unfold fuel; omega,by simp,by simp⟩;rw [er] at e;rw [show zR x_a0 fuel (x_a0.Client,x_a0.Host,x_a0.Scheme,x_a0.By) 0=some r by rw [hn,zxX,zxY,zxZ,zx0,e]]
 exact ⟨r,rfl,by rw [h1]; simp; omega,by rw [h2]; simp; omega,by rw [h3]; simp; omega,by rw [h4]; simp; omega⟩⟩

instance (l0:List zWK) (n:Nat) (l3:List zWK) (i4:Int):T (zgf l0 n l3 i4) (0≤i4∧i4≤70∧i4≤l0.length∧71<i4+n∧l3.length≤i4∧(∀x∈l3,x.From.length≤60∧x.To.length≤60)) (fun r=>r.length≤70∧∀x∈r,x.From.length≤60∧x.To.length≤60):=by
 induction n generalizing l3 i4
 ·exact ⟨goz⟩
 exact ⟨by unfold zgf zmX; exact gu1⟩

instance (x_l:List zWK):T (zpG x_l) (True) (fun r=>r.length≤70∧∀x∈r,x.From.length≤60∧x.To.length≤60):=⟨by unfold zpG; exact gu1⟩

instance (x_env:zWJ):T (zth x_env) (True) (fun r=>r.Client.length≤60∧r.Host.length≤60∧r.Scheme.length≤60∧r.By.length≤60∧Swm r.Domains∧Swm r.Locations):=⟨by unfold zth; exact zBc⟩

instance (l0:List zWz) (n:Nat) (l3:List zWz) (i4:Int):T (zgg l0 n l3 i4) (0≤i4∧i4≤40∧i4≤l0.length∧41<i4+n∧l3.length≤i4∧∀p∈l3,p.Text.length≤60) (fun r=>r.length≤40∧∀p∈r,p.Text.length≤60):=by
 induction n generalizing l3 i4
 ·exact ⟨goz⟩
 exact ⟨by unfold zgg zmY; exact zBc⟩

instance (x_l:List zWz):T (zpH x_l) (True) (fun r=>r.length≤40∧∀p∈r,p.Text.length≤60):=⟨by unfold zpH; exact zBc⟩

theorem zx1 (x:zWC) (n:Nat) (a b c d:Str):zX x (n+1) (a,b,c,d) 0=zX x n (a.take 60,b,c,d) 1:=by
 show ((sTo a (min (a.length:Int) 60)).bind fun r=>(zd 0 1).bind fun r1=>zX x n (r,b,c,d) r1)=_;rw [s60]; rfl
theorem zx2 (x:zWC) (n:Nat) (a b c d:Str):zX x (n+1) (a,b,c,d) 1=zX x n (a,b.take 60,c,d) 2:=by
 show ((sTo b (min (b.length:Int) 60)).bind fun r=>(zd 1 1).bind fun r1=>zX x n (a,r,c,d) r1)=_;rw [s60]; rfl
theorem zx3 (x:zWC) (n:Nat) (a b c d:Str):zX x (n+1) (a,b,c,d) 2=zX x n (a,b,c.take 60,d) 3:=by
 show ((sTo c (min (c.length:Int) 60)).bind fun r=>(zd 2 1).bind fun r1=>zX x n (a,b,r,d) r1)=_;rw [s60]; rfl
theorem zx4 (x:zWC) (n:Nat) (a b c d:Str):zX x (n+1) (a,b,c,d) 3=zX x n (a,b,c,d.take 60) 4:=by
 show ((sTo d (min (d.length:Int) 60)).bind fun r=>(zd 3 1).bind fun r1=>zX x n (a,b,c,r) r1)=_;rw [s60]; rfl
theorem zFx (x:zWC) (n:Nat) (a b c d:Str):zX x (n+1) (a,b,c,d) 4=zmZ ⟨x.Side,⟨x.Guard.Kind,c,d⟩,x.Kind,a,b,x.Parts⟩:=rfl
instance (x_r:zWC):T (zti x_r) True Rm:=⟨fun _=>by
 unfold zti;obtain ⟨n,hn⟩:∃n,fuel=n+1+1+1+1+1:=⟨999999999999999995,rfl⟩;obtain ⟨r,er,h1,h2⟩:=(inferInstance:T (zpH x_r.Parts) _ _).ok trivial;rw [hn,zx1,zx2,zx3,zx4,zFx];unfold zmZ;rw [er];refine ⟨_,rfl,?_⟩;unfold Rm Tp;simp only [List.length_take]
 exact ⟨by omega,by omega,by omega,by omega,by omega,fun p hp=>by have:=h2 p hp; omega⟩⟩

instance (l0:List zWC) (n:Nat) (l3:List zWC) (i4:Int):T (zgh l0 n l3 i4) (0≤i4∧i4≤70∧i4≤l0.length∧71<i4+n∧l3.length≤i4∧∀x∈l3,Rm x) (fun r=>r.length≤70∧∀x∈r,Rm x):=by
 induction n generalizing l3 i4
 ·exact ⟨goz⟩
 exact ⟨by unfold zgh zm0; exact zBc⟩

instance (x_l:List zWC):T (ztj x_l) (True) (fun r=>r.length≤70∧∀x∈r,Rm x):=⟨by unfold ztj; exact zBc⟩

instance  (n:Nat) (l3:List zWC) (i4:Int):T (zj3 n l3 i4) (0≤i4∧i4≤l3.length∧l3.length<i4+n∧l3.length≤70∧∀x∈l3,Rm x) (fun r=>r.length≤70∧∀x∈r,Rm x):=by
 induction n generalizing l3 i4
 ·exact ⟨goz⟩
 exact ⟨by unfold zj3; exact zBc⟩

instance (x_l:List zWC):T (ztk x_l) (True) (fun r=>r.length≤70∧∀x∈r,Rm x):=⟨by unfold ztk; exact zBc⟩

instance (x_s:zW5):T (znf x_s) (True) (fun r=>r.Env.Client.length≤60∧r.Env.Host.length≤60∧r.Env.Scheme.length≤60∧r.Env.By.length≤60∧Swm r.Env.Domains∧Swm r.Env.Locations∧r.Rules.length≤70∧(∀x∈r.Rules,Rm x)∧r.Client.length≤3000∧r.Upstream.length≤3000∧r.Events.length≤150):=⟨by unfold znf; exact zBc⟩

end Go.Dm
end
section
set_option linter.unusedVariables false
set_option maxRecDepth 10000
set_option maxHeartbeats 2000000
namespace Go.Dm
instance (x_size:Int):T (zhw x_size) (True) (fun r=>oE r.1):=⟨by unfold zhw; exact goG⟩

instance (x_most:Int):T (zlZ x_most) (True) (fun r=>oQ r.1):=⟨by unfold zlZ; exact goH⟩

end Go.Dm
end
section
set_option linter.unusedVariables false
set_option maxRecDepth 10000
set_option maxHeartbeats 2000000
namespace Go.Dm
instance (x_kind:Int) (x_limit:Int):T (ztp x_kind x_limit) (True) (fun r=>oA r.1∧kb r.1=0):=⟨by unfold ztp zgk; exact goG⟩

instance (x_kind:Int) (x_limit:Int):T (zdX x_kind x_limit) (True) (fun r=>Sd r∧kb r.Accum=0):=⟨by unfold zdX; exact goH⟩

instance (v4:zXr) (l72:List zWC) (i73:Int) (n:Nat) (v15:zWv) (i74:Int):T (zed v4 l72 i73 n v15 i74) (l72.length≤400∧(∀r∈l72,Rm r)∧i73=l72.length∧0≤i74∧i74≤i73∧i73<i74+n∧v15.zXG.length≤i74∧(∀r∈v15.zXG,Rm r)∧oQ v15.Queue∧En v15.zXT∧Ca v15.zXC∧v15.zXV=0∧tc v15=0∧tu v15=0∧v15.zW3=false) (fun r=>Nw r):=by
 induction n generalizing v15 i74
 ·exact ⟨goz⟩
 exact ⟨by unfold zed; exact goN2⟩

instance (x_a0:zWJ) (x_a1:zXr) (x_a2:List zWC):T (zf4 x_a0 x_a1 x_a2) (En x_a0∧x_a2.length≤400∧∀r∈x_a2,Rm r) (fun r=>Nw r):=⟨by unfold zf4 zfF zfE; exact goN2⟩

end Go.Dm
end
section
set_option linter.unusedVariables false
set_option maxRecDepth 10000
set_option maxHeartbeats 2000000
namespace Go.Dm
instance  : T (zk6) (True) (fun r=>True):=⟨by unfold zk6; exact gu⟩

instance (x_e:zXh):T (zkl x_e) (True) (fun r=>r=0→0≤x_e.N):=⟨by unfold zkl zi4; exact gu⟩

instance  : T (zg9) (True) (fun r=>True):=⟨by unfold zg9; exact gu⟩

instance (x_a:zWL):T (zfm x_a) (True) (fun r=>True):=⟨by unfold zfm; exact gu⟩

instance (x_s:zWE):T (zha x_s) (True) (fun r=>True):=⟨by unfold zha; exact gu⟩

instance  : T (zgn) (True) (fun r=>True):=⟨by unfold zgn; exact gu⟩

instance (x_r:zXi):T (zid x_r) (x_r.zWT≤64∧x_r.zXs.length≤64∧0≤x_r.zWT) (fun r=>True):=⟨by unfold zid; exact gu⟩

instance (x_q:zWV):T (zeP x_q) (Qm x_q) (fun r=>True):=⟨by unfold zeP; exact goH⟩

instance (x_g:zWv):T (zer x_g) (Gw x_g) (fun r=>r=true→x_g.zW3=false∧x_g.zW8=false):=⟨by unfold zer; exact goH⟩

instance (x_a1:Str):T (zfN x_a1) (True) (fun r=>r.1=0∧r.2.1=false∧r.2.2=5):=⟨by unfold zfN; exact gu⟩

instance (x_e:Int):T (zqP x_e) (True) (fun r=>Cd r):=⟨by unfold zqP; exact goH⟩

instance  : T (zd1) (True) (fun r=>Hd r.1):=⟨by unfold zd1; exact goG⟩

end Go.Dm
end
section
set_option linter.unusedVariables false
set_option maxRecDepth 10000
set_option maxHeartbeats 2000000
namespace Go.Dm
instance (x_p:zXc):T (zc8 x_p) (Cw x_p.Scanner) (fun r=>0≤r.1∧r.1≤255∧Cw r.2.2∧r.2.2.zXp=x_p.Scanner.zXp∧x_p.Scanner.zWY≤r.2.2.zWY):=⟨by unfold zc8; exact gu1⟩

instance (x_p:zXc):T (zb6 x_p) (Cw x_p.Scanner) (fun r=>0≤r.2.1∧r.2.1≤255∧Cw r.2.2.2∧r.2.2.2.zXp=x_p.Scanner.zXp∧x_p.Scanner.zWY≤r.2.2.2.zWY):=⟨by unfold zb6; exact gu1⟩

instance (x_s:Str):T (zgS x_s) (x_s.length<1000000000) (fun r=>True):=⟨by unfold zgS; exact gu1⟩

instance (b:UInt8):T (zdx b) True (fun r=>r=nsp b):=bt (by decide +kernel) b

instance (x_p:zXc):T (zc9 x_p) (Cw x_p.Scanner) (fun r=>0≤r.1∧r.1≤255∧Cw r.2.2∧r.2.2.zXp=x_p.Scanner.zXp∧x_p.Scanner.zWY≤r.2.2.zWY):=⟨by unfold zc9; exact gu1⟩

instance (x_a0:Str):T (zhd x_a0) (x_a0.length≤10000000) (fun r=>r.1.Fields=[]∧r.1.Method.length≤x_a0.length∧r.1.Target.length≤x_a0.length∧r.1.Reason.length≤x_a0.length∧0≤r.1.Code∧r.1.Code≤599∧0≤r.1.Minor∧r.1.Minor≤255):=⟨by unfold zhd; exact gu1⟩

instance (x_a0:Str):T (zio x_a0) (x_a0.length≤10000000) (fun r=>r.1.Fields=[]∧r.1.Method.length≤x_a0.length∧r.1.Target.length≤x_a0.length∧r.1.Reason.length≤x_a0.length∧0≤r.1.Code∧r.1.Code≤599∧0≤r.1.Minor∧r.1.Minor≤255):=⟨by unfold zio; exact gu1⟩

instance (x_kind:Int) (x_s:Str):T (zdu x_kind x_s) (x_s.length≤10000000) (fun r=>r.1.Fields=[]∧r.1.Method.length≤x_s.length∧r.1.Target.length≤x_s.length∧r.1.Reason.length≤x_s.length∧0≤r.1.Code∧r.1.Code≤599∧0≤r.1.Minor∧r.1.Minor≤255):=⟨by unfold zdu zgr; exact gu1⟩

instance (x_a0:zWB):T (zhU x_a0) (x_a0.Method.length≤10000∧x_a0.Target.length≤30000∧x_a0.Reason.length≤10000∧x_a0.Code≤1000∧x_a0.Minor≤1000) (fun r=>r.1.length≤60000):=⟨by unfold zhU zhe zb7; exact gu1⟩

instance (l25:List Str) (i26:Int) (n:Nat) (i27:Int):T (zfe l25 i26 n i27) (Ss l25∧i26=l25.length∧0≤i27∧i27≤i26∧i26<i27+n) (fun r=>True):=by
 induction n generalizing i27
 ·exact ⟨goz⟩
 exact ⟨by unfold zfe zlK; exact gu1⟩

instance (x_h:zWB):T (zqY x_h) (Fm x_h.Fields) (fun r=>True):=⟨by unfold zqY; exact gu1⟩

instance (x_h:zWB):T (znF x_h) (Fm x_h.Fields) (fun r=>r=0→x_h.Fields.length≤100):=⟨by unfold znF; exact gu1⟩

instance (v1:zWB) (l17:List zWx) (i18:Int) (n:Nat) (i19:Int):T (ziT v1 l17 i18 n i19) (Fm l17∧Fm v1.Fields∧i18=l17.length∧0≤i19∧i19≤i18∧i18<i19+n) (fun r=>r=0→v1.Fields.length≤100):=by
 induction n generalizing i19
 ·exact ⟨goz⟩
 exact ⟨by unfold ziT; exact gu1⟩

instance (x_h:zWB):T (znG x_h) (Fm x_h.Fields∧x_h.Method.length≤10000∧x_h.Target.length≤30000∧x_h.Reason.length≤10000∧x_h.Code≤1000∧x_h.Minor≤1000) (fun r=>r=0→x_h.Fields.length≤100):=⟨by unfold znG; exact gu1⟩

instance (x_most:Int):T (ztw x_most) (True) (fun r=>r.zX2=[]∧r.zWT=max x_most 0):=⟨by unfold ztw; exact gu⟩

instance (x_q:zW9):T (ziq x_q) (0≤x_q.zWT∧x_q.zWT≤65536∧x_q.zX2.length≤x_q.zWT) (fun r=>r=x_q.zWT-x_q.zX2.length):=⟨by unfold ziq; exact gu⟩

instance (l29:List Str) (i30:Int) (n:Nat) (vp0:zW9) (i31:Int):T (zda l29 i30 n vp0 i31) (i30=l29.length∧0≤i31∧i31≤i30∧i30<i31+n∧l29.length≤1000∧vp0.zX2.length+sl (dq l29 i31)≤65536) (fun r=>r.2.zWT=vp0.zWT∧r.2.zX2.length=vp0.zX2.length+sl (dq l29 i31)):=by
 induction n generalizing vp0 i31
 ·exact ⟨goz⟩
 exact ⟨by unfold zda; exact goG⟩

instance (vp0:zW9) (l1:List Str) (l14:List Str) (i15:Int) (n:Nat) (i5:Int) (i16:Int):T (zdb vp0 l1 l14 i15 n i5 i16) (l14=l1∧i15=l14.length∧0≤i16∧i16≤i15∧i15<i16+n∧l1.length≤1000∧vp0.zWT≤65536∧0≤i5∧i5≤65536∧vp0.zX2.length+sl l1=vp0.zWT-i5+sl (dq l14 i16)∧vp0.zX2.length≤vp0.zWT) (fun r=>r.2.zWT=vp0.zWT∧r.2.zX2.length≤vp0.zWT):=by
 induction n generalizing i5 i16
 ·exact ⟨goz⟩
 exact ⟨by unfold zdb; exact goG⟩

instance (x_q:zW9) (x_l:List Str):T (zhf x_q x_l) (0≤x_q.zWT∧x_q.zWT≤65536∧x_q.zX2.length≤x_q.zWT∧x_l.length≤1000) (fun r=>r.2.zWT=x_q.zWT∧r.2.zX2.length≤x_q.zWT):=⟨by unfold zhf; exact goG⟩

instance (x_q:zW9) (x_l:List Str):T (zgs x_q x_l) (0≤x_q.zWT∧x_q.zWT≤65536∧x_q.zX2.length≤x_q.zWT∧x_l.length≤100) (fun r=>r.2.zWT=x_q.zWT∧r.2.zX2.length≤x_q.zWT):=⟨by unfold zgs; exact goG⟩

instance (x_p:zXu) (x_s:Str):T (zcn x_p x_s) (0≤x_p.Quill.zWT∧x_p.Quill.zWT≤65536∧x_p.Quill.zX2.length≤x_p.Quill.zWT) (fun r=>r.Quill.zWT=x_p.Quill.zWT∧r.Quill.zX2.length≤x_p.Quill.zWT):=⟨by unfold zcn; exact goG⟩

instance (x_f:zWx):T (zhV x_f) (x_f.Name.length≤100000000∧x_f.Value.length≤100000000) (fun r=>r.1.length≤x_f.Name.length+x_f.Value.length+2):=⟨by unfold zhV; exact gu⟩

instance (x_q:zW9):T (zir x_q) (True) (fun r=>r=x_q.zX2):=⟨by unfold zir; exact gu⟩

instance (l32:List zWx) (i33:Int) (n:Nat) (v7:zXu) (i34:Int):T (ziU l32 i33 n v7 i34) (Fm l32∧i33=l32.length∧0≤i34∧i34≤i33∧i33<i34+n∧0≤v7.Quill.zWT∧v7.Quill.zWT≤65536∧v7.Quill.zX2.length≤v7.Quill.zWT) (fun r=>r.1.length≤65536):=by
 induction n generalizing v7 i34
 ·exact ⟨goz⟩
 exact ⟨by unfold ziU; exact goG⟩

instance (x_h:zWB) (x_limit:Int):T (zjr x_h x_limit) (Fm x_h.Fields∧x_h.Method.length≤10000∧x_h.Target.length≤30000∧x_h.Reason.length≤10000∧x_h.Code≤1000∧x_h.Minor≤1000∧x_limit≤65536) (fun r=>r.1.length≤65536):=⟨by unfold zjr; exact goG⟩

end Go.Dm
end
section
set_option linter.unusedVariables false
set_option maxRecDepth 10000
set_option maxHeartbeats 2000000
namespace Go.Dm
instance (x_g:zWv) (x_h:zWB):T (zdL x_g x_h) (Gw x_g∧Hd x_h) (fun r=>r.1.length≤65536∧0≤r.2.1.N∧r.2.1.N≤1099511627776):=⟨by unfold zdL; exact goO⟩

instance (x_limit:Int):T (zox x_limit) (True) (fun r=>oD r.1):=⟨by unfold zox; exact goG⟩

instance (x_a0:zWG) (x_a1:Int):T (zsK x_a0 x_a1) (True) (fun r=>oB r.1):=⟨by unfold zsK zoz zoy zmf; exact goG⟩

instance (x_a:zWL):T (zcT x_a) (Am x_a) (fun r=>Hd r.1):=⟨by unfold zcT; exact goG⟩

instance (x_a1:Str):T (zhW x_a1) (True) (fun r=>r.1=0∧r.2.1.length=0∧r.2.2.1=false∧r.2.2.2=5):=⟨by unfold zhW; exact gu⟩

instance  : T (zdc) (True) (fun r=>r=5):=⟨by unfold zdc; exact gu⟩

instance (x_s:Str):T (zel x_s) (True) (fun r=>r.1.length=0):=⟨by unfold zel; exact gu⟩

instance  : T (zbL) (True) (fun r=>Tl r):=⟨by unfold zbL; exact goG⟩

instance (x_trailers:List zWx):T (zbM x_trailers) (True) (fun r=>r.1.length=0):=⟨by unfold zbM; exact gu⟩

end Go.Dm
end
section
set_option linter.unusedVariables false
set_option maxRecDepth 10000
set_option maxHeartbeats 2000000
namespace Go.Dm
instance {P:Bool→Prop} (k0:Int→Option Bool) (s0:Str) (i13:Int) (l23:List Str) (i24:Int) (n:Nat) (i25:Int):K (ziV k0 s0 i13 l23 i24 n i25) P ((Sm l23∧i24=l23.length∧0≤i25∧i25≤i24∧i24<i25+n∧s0.length<1000000∧l23.length≤4000000000000∧0≤i13∧i13≤10000∧P true)∧(∀i,i=i13+1→W (k0 i) P)):=by
 induction n generalizing i25
 ·exact ⟨goz⟩
 exact ⟨fun ⟨h,hk0⟩=>by have hk0:=fun a0=>K.mk (hk0 a0); unfold ziV; exact gu⟩

instance (s0:Str) (l11:List Str) (i12:Int) (n:Nat) (i13:Int):T (zg4 s0 l11 i12 n i13) (Ss l11∧i12=l11.length∧0≤i13∧i13≤i12∧i12<i13+n∧s0.length<1000000) (fun r=>True):=by
 induction n generalizing i13
 ·exact ⟨goz⟩
 exact ⟨by unfold zg4; exact gu⟩

instance (x_token:Str) (x_l:List Str):T (znH x_token x_l) (Ss x_l∧x_token.length<1000000) (fun r=>True):=⟨by unfold znH; exact gu⟩

instance (x_h:zWB):T (zpM x_h) (Fm x_h.Fields) (fun r=>True):=⟨by unfold zpM; exact gu⟩

instance (x_h:zWB):T (zqZ x_h) (Fm x_h.Fields) (fun r=>True):=⟨by unfold zqZ; exact gu⟩

instance (x_l:List zWH):T (zgt x_l) (True) (fun r=>True):=⟨by unfold zgt; exact gu⟩

instance (x_t:zWH):T (zjc x_t) (True) (fun r=>True):=⟨by unfold zjc; exact gu⟩

instance (l0:List zWH) (i7:Int) (n:Nat) (i8:Int):T (zn l0 i7 n i8) (i7=l0.length∧0≤i8∧i8≤i7∧i7<i8+n∧l0.length≤1000) (fun r => -1≤r∧r<l0.length):=by
 induction n generalizing i8
 ·exact ⟨goz⟩
 exact ⟨by unfold zn; exact gu⟩

instance (x_s:List zWH):T (zy x_s) (x_s.length≤1000) (fun r => -1≤r∧r<x_s.length):=⟨by unfold zy; exact gu⟩

instance (x_l:List zWH):T (zlL x_l) (x_l.length≤1000) (fun r=>True):=⟨by unfold zlL; exact gu⟩

instance  : T (zc2) (True) (fun r=>Tl r):=⟨by unfold zc2; exact goG⟩

instance (x_d:zWA):T (zb8 x_d) (Dm x_d) (fun r=>Tl r):=⟨by unfold zb8; exact goG⟩

end Go.Dm
end
section
set_option linter.unusedVariables false
set_option maxRecDepth 10000
set_option maxHeartbeats 2000000
namespace Go.Dm
instance (x_b:zW2):T (zaY x_b) (Bm x_b) (fun r=>Tl r):=⟨by unfold zaY; exact goG⟩

instance (x_w:zWM):T (zb9 x_w) (True) (fun r=>r=0∨r=8):=⟨by unfold zb9; exact gu⟩

instance  : T (zcG) (True) (fun r=>r=5):=⟨by unfold zcG; exact gu⟩

instance (l0:List zWx) (l10:List zWx) (i11:Int) (n:Nat) (l4:List Str) (i12:Int):T (zeT l0 l10 i11 n l4 i12) (Tl l0∧Tl l10∧i11=l10.length∧0≤i12∧i12≤i11∧i11<i12+n∧l4.length≤i12+1∧sl l4≤10000*i12+1) (fun r=>r.1.length≤1100000):=by
 induction n generalizing l4 i12
 ·exact ⟨goz⟩
 exact ⟨by unfold zeT; exact goG⟩

instance (x_trailers:List zWx):T (zem x_trailers) (Tl x_trailers) (fun r=>r.1.length≤1100000):=⟨by unfold zem; exact goG⟩

instance (x_trailers:List zWx):T (zfq x_trailers) (Tl x_trailers) (fun r=>r.1.length=0):=⟨by unfold zfq; exact goG⟩

instance (x_c:zWI):T (zbU x_c) (True) (fun r=>r=0∨r=8):=⟨by unfold zbU; exact gu⟩

instance (x_n:Int):T (zjd x_n) (x_n<1048576) (fun r=>r.length≤21):=⟨by unfold zjd; exact gu⟩

instance (x_n:Int):T (zkw x_n) (x_n<1048576) (fun r=>r.length≤21):=⟨by unfold zkw; exact gu⟩

instance (x_data:Str):T (zdv x_data) (x_data.length<1000000) (fun r=>r.length≤x_data.length+60):=⟨by unfold zdv; exact gu⟩

instance (x_s:Str):T (zfr x_s) (True) (fun r=>r.1.length=0):=⟨by unfold zfr; exact gu⟩

instance (x_s:Str):T (zeU x_s) (True) (fun r=>r.1=0∧r.2.1.length=0∧r.2.2.1=false∧r.2.2.2=5):=⟨by unfold zeU; exact gu⟩

instance  : T (zeV) (True) (fun r=>r=0):=⟨by unfold zeV; exact gu⟩

end Go.Dm
end
section
set_option linter.unusedVariables false
set_option maxRecDepth 10000
set_option maxHeartbeats 2000000
namespace Go.Dm
instance (x_method:Str) (x_code:Int):T (zje x_method x_code) (True) (fun r=>True):=⟨by unfold zje; exact gu2⟩

instance (x_method:Str) (x_h:zWB):T (zgT x_method x_h) (Fm x_h.Fields) (fun r=>0≤r.1.N∧r.1.N≤1099511627776):=⟨by unfold zgT; exact gu2⟩

end Go.Dm
end
section
set_option linter.unusedVariables false
set_option maxRecDepth 10000
set_option maxHeartbeats 2000000
namespace Go.Dm
set_option maxRecDepth 100000 in
instance (x_code:Int):T (zuY x_code) (x_code=400∨x_code=431∨x_code=502) (fun r=>r.length≤1000):=⟨fun h=>by
 rcases h with rfl|rfl|rfl
 ·exact rtx (by decide +kernel)
 ·exact rtx (by decide +kernel)
 ·exact rtx (by decide +kernel)⟩

instance (x_q:zWV):T (zdy x_q) (True) (fun r=>r=x_q.zXL.zXs.length):=⟨by unfold zdy; exact gu⟩

instance (x_g:zWv) (x_e:Int):T (zaM x_g x_e) (Gw x_g) (fun r=>Gw r∧kc r=0∧ku r=ku x_g∧tc r=tc x_g∧tu r=tu x_g∧r.zW8=true):=⟨by unfold zaM; exact goH⟩

instance (l6:List Str) (i7:Int) (n:Nat) (vp0:zWv) (i8:Int):T (zaA l6 i7 n vp0 i8) (i7=l6.length∧l6.length≤1000∧0≤i8∧i8≤i7∧i7<i8+n∧tu vp0+sl (dq l6 i8)≤100000000000000) (fun r=>Rs1 vp0 r∧tc r=tc vp0∧tu r=tu vp0+sl (dq l6 i8)):=by
 induction n generalizing vp0 i8
 ·exact ⟨goz⟩
 exact ⟨by unfold zaA; exact goF2⟩

instance (x_g:zWv) (x_l:List Str):T (zau x_g x_l) (x_l.length≤1000∧tu x_g+sl x_l≤100000000000000) (fun r=>Rs1 x_g r∧tc r=tc x_g∧tu r=tu x_g+sl x_l):=⟨by unfold zau; exact goF2⟩

instance (x_f:zWG) (x_size:Int):T (zmg x_f x_size) (x_f.N≤1099511627776) (fun r=>oW r.1):=⟨by unfold zmg zkx; exact goG⟩

instance  : T (zhX) (True) (fun r=>True):=⟨by unfold zhX; exact gu⟩

instance (x_q:zWV) (x_l:List zWH):T (zeW x_q x_l) (Qm x_q∧x_l.length≤1) (fun r=>Qm r.2):=⟨by unfold zeW zdh; exact goH⟩

instance (x_c:zWI) (x_trailers:List zWx):T (zev x_c x_trailers) (Em x_c∧Tl x_trailers) (fun r=>r.1.length≤1200000∧Em r.2.2):=⟨by unfold zev; exact goG⟩

instance (x_w:zWM) (x_trailers:List zWx):T (zaZ x_w x_trailers) (Ww x_w∧Tl x_trailers) (fun r=>r.1.length≤1200000∧Ww r.2.2):=⟨by unfold zaZ zaW; exact goG⟩

instance (vp0:zWv) (v6:zWH):T (za0 vp0 v6) (Gw vp0) (fun r=>Gw r∧kc r=0∧ku r=ku vp0∧tc r=tc vp0∧tu r=tu vp0):=⟨by unfold za0; exact goH⟩

instance (vp0:zWv) (v4:zWB):T (za1 vp0 v4) (Gw vp0∧Hd v4) (fun r=>Gw r∧kc r=0∧ku r=ku vp0∧tc r=tc vp0∧tu r=tu vp0):=⟨by unfold za1; exact goO⟩

instance (vp0:zWv) (s2:Str):T (zQ vp0 s2) (Gw vp0∧s2.length≤1200000∧tu vp0≤50000000000000) (fun r=>Gw r∧kc r=0∧ku r=ku vp0∧tc r=tc vp0∧tu r≤tu vp0+1200000):=⟨by unfold zQ; exact goJ⟩

instance (x_g:zWv):T (zbV x_g) (Gw x_g∧tu x_g≤50000000000000) (fun r=>Gw r∧kc r=0∧ku r=ku x_g∧tc r=tc x_g∧tu r≤tu x_g+1200000):=⟨by unfold zbV; exact goJ⟩

end Go.Dm
end
section
set_option linter.unusedVariables false
set_option maxRecDepth 10000
set_option maxHeartbeats 2000000
namespace Go.Dm
instance (x_b:zW2):T (zfR x_b) (True) (fun r=>True):=⟨by unfold zfR; exact gu⟩

instance (vp0:zWv) (t65:Bool):T (za2 vp0 t65) (Gw vp0∧tu vp0≤50000000000000) (fun r=>Gw r∧kc r≤kc vp0∧ku r=ku vp0∧tc r=tc vp0∧tu r≤tu vp0+1200000):=⟨by unfold za2; exact goJ⟩

instance (vp0:zWv):T (za3 vp0) (Gw vp0∧tu vp0≤50000000000000) (fun r=>Gw r∧kc r≤kc vp0∧ku r=ku vp0∧tc r=tc vp0∧tu r≤tu vp0+1200000):=⟨by unfold za3; exact goJ⟩

instance (vp0:zWv) (v5:zWG):T (za4 vp0 v5) (Gw vp0∧v5.N≤1099511627776∧tu vp0≤50000000000000) (fun r=>Gw r∧kc r≤kc vp0∧ku r=ku vp0∧tc r=tc vp0∧tu r≤tu vp0+1200000):=⟨by unfold za4; exact goJ⟩

instance (vp0:zWv) (v2:zWB):T (za5 vp0 v2) (Gw vp0∧Hd v2∧tu vp0≤40000000000000) (fun r=>Gw r∧kc r≤kc vp0∧ku r=ku vp0∧tc r=tc vp0∧tu r≤tu vp0+1300000):=⟨by unfold za5; exact goJ⟩

instance (x_a0:zWv):T (zdi x_a0) (Gw x_a0∧tu x_a0≤40000000000000) (fun r=>Gw r∧kc r≤kc x_a0∧ku r=ku x_a0∧tc r=tc x_a0∧tu r≤tu x_a0+1300000):=⟨by unfold zdi; exact goJ⟩

instance (x_a:zWL):T (zis x_a) (1≤x_a.zW7.length∧x_a.zW7.length≤1000000) (fun r=>r=false→lAt x_a.zW7 (x_a.zW7.length-1)=some 10→1<x_a.zW7.length∧lAt x_a.zW7 (x_a.zW7.length-2)=some 13):=⟨by unfold zis zfs; exact goG⟩

instance (x_c:zWD):T (zcH x_c) (Cw x_c) (fun r=>Cw r.2∧r.2.zXp=x_c.zXp∧x_c.zWY≤r.2.zWY∧r.1.length≤x_c.zXp.length):=⟨by unfold zcH; exact gu⟩

instance (x_s:Str):T (zeI x_s) (x_s.length≤10000) (fun r=>r.1.Name.length≤x_s.length∧r.1.Value.length≤x_s.length):=⟨by unfold zeI; exact gu⟩

instance (l64:List Str) (i65:Int) (n:Nat) (v12:zWB) (i66:Int):T (ziW l64 i65 n v12 i66) (l64.length≤9000∧(∀s∈l64,s.length≤3000)∧i65=l64.length∧0≤i66∧i66≤i65∧i65<i66+n∧v12.Fields.length≤i66∧(∀f∈v12.Fields,f.Name.length≤3000∧f.Value.length≤3000)∧v12.Method.length≤3000∧v12.Target.length≤3000∧v12.Reason.length≤3000∧0≤v12.Code∧v12.Code≤599∧0≤v12.Minor∧v12.Minor≤255) (fun r=>Hd r.1):=by
 induction n generalizing v12 i66
 ·exact ⟨goz⟩
 exact ⟨by unfold ziW; exact goG⟩

instance (x_a0:Int) (x_a1:Str) (x_a2:Int):T (zq0 x_a0 x_a1 x_a2) (x_a1.length≤3000) (fun r=>Hd r.1):=⟨by unfold zq0; exact goG⟩

end Go.Dm
end
section
set_option linter.unusedVariables false
set_option maxRecDepth 10000
set_option maxHeartbeats 2000000
namespace Go.Dm
instance (x_a:zWL) (x_s:Str):T (zgu x_a x_s) (x_a.zW7.length≤3000∧x_s.length≤3000∧Hd x_a.zXE) (fun r=>r.2.2.zW7=x_a.zW7∧Hd r.2.2.zXE∧(r.1=false→r.2.1=0→r.2.2.zXw=x_a.zW7.length)):=⟨by unfold zgu zew; exact goG⟩

instance (x_a:zWL) (x_b:UInt8):T (zgv x_a x_b) (x_a.zW7.length<3000∧Hd x_a.zXE∧Fr x_a) (fun r=>r.2.2.zW7.length≤x_a.zW7.length+1∧Hd r.2.2.zXE∧(r.1=false→r.2.1=0→Fr r.2.2)):=⟨by unfold zgv; exact goG⟩

instance (s1:Str) (i24:Int) (n:Nat) (vp0:zWL) (i25:Int):T (zaN s1 i24 n vp0 i25) (i24=s1.length∧s1.length≤3000∧0≤i25∧i25≤i24∧i24<i25+n∧vp0.zW7.length+(i24-i25)≤3000∧Hd vp0.zXE∧Fr vp0∧vp0.zXY=0∧vp0.f_whole=false) (fun r=>Am r.2.2.2∧i25≤r.1∧r.1≤i24∧(i25<i24→i25<r.1)∧r.2.2.2.zW7.length≤vp0.zW7.length+(r.1-i25)):=by
 induction n generalizing vp0 i25
 ·exact ⟨goz⟩
 exact ⟨by unfold zaN zex; exact goG⟩

instance (x_a0:zWL) (x_a1:Str):T (zen x_a0 x_a1) (Am x_a0∧x_a0.zW7.length+x_a1.length≤3000) (fun r=>Am r.2.2.2∧0≤r.1∧r.1≤x_a1.length∧(r.1=0→x_a1.length=0∨r.2.2.1≠0)∧r.2.2.2.zW7.length≤x_a0.zW7.length+r.1):=⟨by unfold zen; exact goG⟩

instance  (n:Nat) (vp0:zWI) (l7:List Str):T (zbz n vp0 l7) (1≤vp0.zXN∧vp0.zXN≤65536∧vp0.zW7.length≤70000∧vp0.zW7.length<n∧l7.length+vp0.zW7.length≤70000∧sl l7+70*vp0.zW7.length≤4900000) (fun r=>r.1.length≤7000000∧Em r.2.2):=by
 induction n generalizing vp0 l7
 ·exact ⟨goz⟩
 exact ⟨by unfold zbz; exact goG⟩

instance (x_c:zWI) (x_s:Str):T (zey x_c x_s) (Em x_c∧x_s.length≤3000) (fun r=>r.1.length≤7000000∧Em r.2.2):=⟨by unfold zey; exact goG⟩

end Go.Dm
end
section
set_option linter.unusedVariables false
set_option maxRecDepth 10000
set_option maxHeartbeats 2000000
namespace Go.Dm
instance (x_w:zWM) (x_s:Str):T (zdd x_w x_s) (Ww x_w∧x_s.length≤3000) (fun r=>r.1.length≤7000000∧Ww r.2.2):=⟨by unfold zdd zdj zdl zdk; exact goG⟩

instance (x_d:zWA) (x_s:Str):T (zdM x_d x_s) (Dn x_d∧Dg x_d∧x_d.zWY=1∧1≤x_s.length∧x_s.length≤3000) (fun r=>Dn r.2∧Dg r.2∧1≤r.1.length∧r.1.length≤x_s.length):=⟨by unfold zdM zcv; exact goG⟩

instance (x_d:zWA) (x_b:UInt8):T (zdm x_d x_b) (Dn x_d∧Dg x_d∧x_d.zWY=2) (fun r=>Dn r.2∧(r.1=0→Dg r.2)):=⟨by unfold zdm zcb zca; exact goG⟩

instance (x_s:Str) (x_most:Int):T (zoA x_s x_most) (x_s.length<1000000000∧0≤x_most∧x_most≤9223372036854775807) (fun r=>0≤r.1∧r.1≤x_most):=⟨by unfold zoA; exact gu⟩

instance (x_c:zWD):T (zlM x_c) (Cw x_c) (fun r=>Cw r.2.2∧r.2.2.zXp=x_c.zXp∧x_c.zWY≤r.2.2.zWY):=⟨by unfold zlM; exact gu⟩

instance (x_r:zXg):T (zeX x_r) (Cw x_r.Scanner) (fun r=>Cw r.2.2∧r.2.2.zXp=x_r.Scanner.zXp∧x_r.Scanner.zWY≤r.2.2.zWY):=⟨by unfold zeX; exact gu⟩

instance (i7:Int) (i8:Int) (n:Nat) (v5:zXg) (l9:List zW4):T (zeo i7 i8 n v5 l9) (Cw v5.Scanner∧v5.Scanner.zXp.length<v5.Scanner.zWY+n∧l9.length≤v5.Scanner.zWY∧0≤i7∧i7≤1099511627776∧v5.Scanner.zXp.length≤1000000) (fun r=>0≤r.1∧r.1≤1099511627776):=by
 induction n generalizing v5 l9
 ·exact ⟨goz⟩
 exact ⟨by unfold zeo; exact gu⟩

instance (x_s:Str):T (zjf x_s) (x_s.length≤1000000) (fun r=>0≤r.1∧r.1≤1099511627776):=⟨by unfold zjf; exact gu⟩

instance (x_d:zWA) (x_s:Str):T (zdN x_d x_s) (Dn x_d∧Dg x_d∧x_s.length≤5000∧x_d.zWY=0) (fun r=>Dn r.2∧(r.1=0→Dg r.2)):=⟨by unfold zdN; exact goG⟩

instance (x_d:zWA) (x_s:Str):T (zcw x_d x_s) (Dn x_d∧x_s.length≤4098) (fun r=>Dn r.2.2∧r.2.2.zWY=x_d.zWY∧r.2.2.zXR=x_d.zXR∧r.2.2.zXI=x_d.zXI∧r.2.2.zXo=x_d.zXo):=⟨by unfold zcw; exact goG⟩

instance (x_a0:zWA) (x_a1:UInt8):T (zdn x_a0 x_a1) (Dn x_a0∧Dg x_a0∧x_a0.zWY≠1∧x_a0.zWY≠2) (fun r=>Dn r.2.2∧(r.1=false→r.2.1=0→Dg r.2.2)):=⟨by unfold zdn zce zcd zcc; exact goG⟩

instance (x_d:zWA) (x_s:Str):T (zdO x_d x_s) (Dn x_d∧Dg x_d∧1≤x_s.length∧x_s.length≤3000) (fun r=>1≤r.1∧r.1≤x_s.length∧r.2.1.length≤r.1∧Dn r.2.2.2.2∧(r.2.2.1=false→r.2.2.2.1=0→Dg r.2.2.2.2)):=⟨by unfold zdO; exact goG⟩

end Go.Dm
end
section
set_option linter.unusedVariables false
set_option maxRecDepth 10000
set_option maxHeartbeats 2000000
namespace Go.Dm
instance (s1:Str) (n:Nat) (vp0:zWA) (i4:Int) (t6:Bool) (i7:Int) (l8:List UInt8):T (zI s1 n vp0 i4 t6 i7 l8) (0≤i4∧i4≤s1.length∧s1.length<i4+n∧s1.length≤3000∧l8.length≤i4∧Dn vp0∧(t6=false→i7=0→Dg vp0)) (fun r=>i4≤r.1∧r.1≤s1.length∧r.2.1.length≤r.1∧Dm r.2.2.2.2∧(t6=false→i7=0→i4<s1.length→i4<r.1)):=by
 induction n generalizing vp0 i4 t6 i7 l8
 ·exact ⟨goz⟩
 exact ⟨by unfold zI zbh zcy zcx; exact goG⟩

instance (x_d:zWA) (x_s:Str):T (zdP x_d x_s) (Dm x_d∧x_s.length≤3000) (fun r=>0≤r.1∧r.1≤x_s.length∧r.2.1.length≤r.1∧Dm r.2.2.2.2∧(r.1=0→x_s.length=0∨r.2.2.2.1≠0)):=⟨by unfold zdP; exact goG⟩

instance (x_a0:zW2) (x_a1:Str):T (zfS x_a0 x_a1) (Bm x_a0∧x_a1.length≤3000) (fun r=>0≤r.1∧r.1≤x_a1.length∧r.2.1.length≤3000∧Bm r.2.2.2.2∧(r.1=0→x_a1.length=0∨r.2.2.2.1≠0)):=⟨by unfold zfS zft zfu; exact goG⟩

end Go.Dm
end
section
set_option linter.unusedVariables false
set_option maxRecDepth 10000
set_option maxHeartbeats 2000000
namespace Go.Dm
instance (vp0:zWv) (i5:Int) (t6:Bool) (i7:Int):T (zaB vp0 i5 t6 i7) (Gw vp0∧tu vp0≤40000000000000) (fun r=>r.1=i5∧Gw r.2∧kc r.2≤kc vp0∧ku r.2=ku vp0∧tc r.2=tc vp0∧tu r.2≤tu vp0+1300000∧(i7≠0→r.2.zW8=true)):=⟨by unfold zaB; exact goJ⟩

instance (vp0:zWv) (i8:Int) (t10:Bool) (i11:Int) (s12:Str):T (zaC vp0 i8 t10 i11 s12) (Gw vp0∧s12.length≤7000000∧tu vp0≤30000000000000) (fun r=>r.1=i8∧Gw r.2∧kc r.2≤kc vp0∧ku r.2=ku vp0∧tc r.2=tc vp0∧tu r.2≤tu vp0+8200000∧(i11≠0→r.2.zW8=true)):=⟨by unfold zaC; exact goJ⟩

instance (vp0:zWv) (i8:Int) (s9:Str) (t10:Bool) (i11:Int):T (zaD vp0 i8 s9 t10 i11) (Gw vp0∧s9.length≤3000∧tu vp0≤30000000000000) (fun r=>r.1=i8∧Gw r.2∧kc r.2≤kc vp0∧ku r.2=ku vp0∧tc r.2=tc vp0∧tu r.2≤tu vp0+8200000∧(i11≠0→r.2.zW8=true)):=⟨by unfold zaD; exact goJ⟩

instance (vp0:zWv) (s1:Str) (t19:Bool):T (zaE vp0 s1 t19) (Gw vp0∧kc vp0+s1.length≤3000∧tu vp0≤30000000000000) (fun r=>0≤r.1∧r.1≤s1.length∧Gw r.2∧kc r.2≤kc vp0+r.1∧ku r.2=ku vp0∧tc r.2=tc vp0∧tu r.2≤tu vp0+8200000∧(r.1=0→s1.length=0∨r.2.zW8=true)):=⟨by unfold zaE; exact goJ⟩

instance (x_a0:zWv) (x_a1:Str):T (zcz x_a0 x_a1) (Gw x_a0∧kc x_a0+x_a1.length≤3000∧tu x_a0≤30000000000000) (fun r=>0≤r.1∧r.1≤x_a1.length∧Gw r.2∧kc r.2≤kc x_a0+r.1∧ku r.2=ku x_a0∧tc r.2=tc x_a0∧tu r.2≤tu x_a0+8200000∧(r.1=0→x_a1.length=0∨r.2.zW8=true)):=⟨by unfold zcz; exact goJ⟩

instance (l6:List Str) (i7:Int) (n:Nat) (vp0:zWv) (i8:Int):T (zbi l6 i7 n vp0 i8) (i7=l6.length∧l6.length≤1000∧0≤i8∧i8≤i7∧i7<i8+n∧tc vp0+sl (dq l6 i8)≤100000000000000) (fun r=>Rs1 vp0 r∧tu r=tu vp0∧tc r=tc vp0+sl (dq l6 i8)):=by
 induction n generalizing vp0 i8
 ·exact ⟨goz⟩
 exact ⟨by unfold zbi; exact goF2⟩

instance (x_g:zWv) (x_l:List Str):T (zZ x_g x_l) (x_l.length≤1000∧tc x_g+sl x_l≤100000000000000) (fun r=>Rs1 x_g r∧tu r=tu x_g∧tc r=tc x_g+sl x_l):=⟨by unfold zZ; exact goF2⟩

instance (x_g:zWv):T (zS x_g) (Gw x_g) (fun r=>Gw r∧kc r=0∧ku r=0∧tc r=tc x_g∧tu r=tu x_g∧r.zW3=true∧r.zW8=x_g.zW8∧r.zXD=x_g.zXD):=⟨by unfold zS; exact goH⟩

instance (x_g:zWv) (x_code:Int):T (zaw x_g x_code) (Gw x_g∧(x_code=400∨x_code=431∨x_code=502)∧tc x_g≤50000000000000) (fun r=>Gw r∧kc r=0∧ku r=0∧tc r≤tc x_g+1000∧tu r=tu x_g∧r.zW3=true∧r.zW8=x_g.zW8∧r.zXD=x_g.zXD):=⟨by unfold zaw; exact goJ⟩

instance (vp0:zWv) (i2:Int) (t13:Bool):T (zaa vp0 i2 t13) (Gw vp0∧tc vp0≤50000000000000) (fun r=>Gw r∧kc r≤kc vp0∧ku r≤ku vp0∧tc r≤tc vp0+1000∧tu r=tu vp0∧(vp0.zW8=true→r.zW8=true)∧(vp0.zW3=true→r.zW3=true)∧(vp0.zXD=true→r.zXD=true)):=⟨by unfold zaa; exact goJ⟩

instance (vp0:zWv) (i2:Int):T (zaT vp0 i2) (Gw vp0∧tc vp0≤50000000000000) (fun r=>Gw r∧kc r≤kc vp0∧ku r≤ku vp0∧tc r≤tc vp0+1000∧tu r=tu vp0∧(vp0.zW8=true→r.zW8=true)∧(vp0.zW3=true→r.zW3=true)∧(vp0.zXD=true→r.zXD=true)):=⟨by unfold zaT; exact goJ⟩

instance (x_g:zWv):T (zB x_g) (Gw x_g∧tc x_g≤50000000000000) (fun r=>Gw r∧kc r≤kc x_g∧ku r≤ku x_g∧tc r≤tc x_g+1000∧tu r=tu x_g∧(x_g.zW8=true→r.zW8=true)∧(x_g.zW3=true→r.zW3=true)∧(x_g.zXD=true→r.zXD=true)):=⟨by unfold zB; exact goJ⟩

end Go.Dm
end
section
set_option linter.unusedVariables false
set_option maxRecDepth 10000
set_option maxHeartbeats 2000000
namespace Go.Dm
instance (s1:Str) (n:Nat) (vp0:zWv) (i6:Int):T (zK s1 n vp0 i6) (Gw vp0∧0≤i6∧i6≤s1.length∧s1.length≤3000∧kc vp0+(s1.length-i6)≤3000∧(s1.length-i6)+2*st vp0.zW8+1≤n∧tu vp0+10000000*(s1.length-i6)+10000000*st vp0.zW8≤30000000000000∧tc vp0+10000*(s1.length-i6)+10000*st vp0.zW8≤30000000000000) (fun r=>Gw r.2.2∧i6≤r.1∧r.1≤s1.length∧kc r.2.2≤kc vp0+(r.1-i6)∧ku r.2.2≤ku vp0∧tu r.2.2≤tu vp0+10000000*(r.1-i6)+10000000*st vp0.zW8∧tc r.2.2≤tc vp0+10000*(r.1-i6)+10000*st vp0.zW8):=by
 induction n generalizing vp0 i6
 ·exact ⟨goJ⟩
 exact ⟨by unfold zK zbW; exact goJ⟩

instance (x_g:zWv) (x_s:Str):T (zbA x_g x_s) (Gw x_g∧x_s.length≤3000∧kc x_g+x_s.length≤3000∧tc x_g=0∧tu x_g=0) (fun r=>Gw r.2.2∧0≤r.1∧r.1≤x_s.length∧kc r.2.2≤kc x_g+r.1∧ku r.2.2≤ku x_g∧tu r.2.2≤10000000*r.1+10000000∧tc r.2.2≤10000000*r.1+10000000∧(x_g.zW3=true→r.2.2.zW3=true)):=⟨by unfold zbA; exact goJ⟩

instance (x_g:zWv):T (zcf x_g) (True) (fun r=>r.1=x_g.zXB∧Rs1 x_g r.2∧tc r.2=0∧tu r.2=tu x_g):=⟨by unfold zcf; exact goH⟩

instance (x_g:zWv):T (zbG x_g) (True) (fun r=>r.1=x_g.zXW∧Rs1 x_g r.2∧tu r.2=0∧tc r.2=tc x_g):=⟨by unfold zbG; exact goH⟩

instance  : T (zit) (True) (fun r=>r=0):=⟨by unfold zit; exact gu⟩

instance  : T (zhY) (True) (fun r=>r=0):=⟨by unfold zhY; exact gu⟩

instance  : T (zbm) (True) (fun r=>r=0):=⟨by unfold zbm; exact gu⟩

instance  : T (zeY) (True) (fun r=>r=0):=⟨by unfold zeY; exact gu⟩

instance (x_c:zWI):T (zdQ x_c) (Em x_c) (fun r=>0≤r∧r≤65536):=⟨by unfold zdQ; exact goG⟩

instance (x_w:zWM):T (zaO x_w) (Ww x_w) (fun r=>0≤r∧r≤65536):=⟨by unfold zaO; exact goG⟩

instance  : T (zeZ) (True) (fun r=>r=0):=⟨by unfold zeZ; exact gu⟩

instance (x_d:zWA):T (zdR x_d) (Dm x_d) (fun r=>0≤r∧r≤5000):=⟨by unfold zdR; exact goG⟩

instance (x_b:zW2):T (zfT x_b) (Bm x_b) (fun r=>0≤r∧r≤5000):=⟨by unfold zfT; exact goG⟩

instance (x_a:zWL):T (zgw x_a) (Am x_a) (fun r=>0≤r∧r≤3000):=⟨by unfold zgw; exact goG⟩

instance (x_s:zWE):T (ze0 x_s) (Sd x_s) (fun r=>True):=⟨by unfold ze0; exact goH⟩

instance (x_g:zWv):T (zfv x_g) (Gw x_g) (fun r=>True):=⟨by unfold zfv; exact goH⟩

end Go.Dm
end
section
set_option linter.unusedVariables false
set_option maxRecDepth 10000
set_option maxHeartbeats 2000000
namespace Go.Dm
instance (x_w:zWF):T (zw x_w) (Gw x_w.Gateway∧0≤tc x_w.Gateway∧x_w.zWy.zW6.length+tc x_w.Gateway≤100000000000000∧x_w.zWw.zW6.length+tu x_w.Gateway≤100000000000000) (fun r=>Gw r.Gateway∧kc r.Gateway=kc x_w.Gateway∧ku r.Gateway=ku x_w.Gateway∧tc r.Gateway=0∧tu r.Gateway=0∧r.zWy.zXj=x_w.zWy.zXj∧r.zWy.zXa=x_w.zWy.zXa∧r.zWy.zXq=x_w.zWy.zXq∧r.zWy.zXl=x_w.zWy.zXl∧r.zWy.zW6.length=x_w.zWy.zW6.length+tc x_w.Gateway∧r.zWw.zXj=x_w.zWw.zXj∧r.zWw.zXa=x_w.zWw.zXa∧r.zWw.zXq=x_w.zWw.zXq∧r.zWw.zXl=x_w.zWw.zXl∧r.zWw.zW6.length=x_w.zWw.zW6.length+tu x_w.Gateway):=⟨by unfold zw; exact goJ⟩

instance  : T (zfw) (True) (fun r=>True):=⟨by unfold zfw; exact gu⟩

instance (x_f:zWG) (x_minor:Int):T (zoB x_f x_minor) (x_f.N≤1099511627776∧0≤x_f.N) (fun r=>0≤r.N∧r.N≤1099511627776):=⟨by unfold zoB; exact gu⟩

instance (x_r:zXi):T (zhg x_r) (x_r.zXs.length≤1000) (fun r=>True):=⟨by unfold zhg; exact gu⟩

instance (x_q:zWV):T (zez x_q) (Qm x_q) (fun r=>True):=⟨by unfold zez; exact goH⟩

instance  : T (zhh) (True) (fun r=>True):=⟨by unfold zhh; exact gu⟩

instance (vp0:zWv) (i8:Int):T (zaF vp0 i8) (Gw vp0) (fun r=>Gw r.2∧kc r.2≤kc vp0∧ku r.2≤ku vp0∧tc r.2≤tc vp0+0∧tu r.2=tu vp0):=⟨by unfold zaF; exact goH⟩

instance (vp0:zWv) (i8:Int) (s9:Str) (t43:Bool):T (zaG vp0 i8 s9 t43) (Gw vp0∧s9.length≤65536∧tc vp0≤50000000000000) (fun r=>Gw r.2∧kc r.2≤kc vp0∧ku r.2≤ku vp0∧tc r.2≤tc vp0+65536∧tu r.2=tu vp0):=⟨by unfold zaG; exact goJ⟩

instance (x_g:zWv) (x_h:zWB) (x_t:zWH):T (zcA x_g x_h x_t) (Gw x_g∧Hd x_h∧tc x_g≤50000000000000) (fun r=>Gw r.2∧kc r.2≤kc x_g∧ku r.2≤ku x_g∧tc r.2≤tc x_g+65536∧tu r.2=tu x_g):=⟨by unfold zcA; exact goO⟩

instance (x_h:zWB) (x_close:Bool) (x_minor:Int):T (zlN x_h x_close x_minor) (Fm x_h.Fields∧x_h.Fields.length≤9500∧x_h.Method.length≤10000∧x_h.Target.length≤30000∧x_h.Reason.length≤10000∧x_h.Code≤1000∧x_h.Minor≤1000) (fun r=>Fm r.Fields∧r.Method.length≤10000∧r.Target.length≤30000∧r.Reason.length≤10000∧r.Code≤1000∧r.Minor≤1000):=⟨by unfold zlN zfU; exact gu2⟩

instance (x_q:zWV):T (zfx x_q) (Qm x_q) (fun r=>Qm r.2):=⟨by unfold zfx; exact goH⟩

instance (vp0:zWv):T (zao vp0) (Gw vp0) (fun r=>Gw r∧kc r≤kc vp0∧ku r≤ku vp0∧tc r≤tc vp0+0∧tu r=tu vp0):=⟨by unfold zao; exact goJ⟩

instance (vp0:zWv):T (zap vp0) (Gw vp0) (fun r=>Gw r∧kc r≤kc vp0∧ku r≤ku vp0∧tc r≤tc vp0+0∧tu r=tu vp0):=⟨by unfold zap; exact goJ⟩

instance (vp0:zWv) (s2:Str):T (zF vp0 s2) (Gw vp0∧s2.length≤1200000∧tc vp0≤50000000000000) (fun r=>Gw r∧kc r≤kc vp0∧ku r≤ku vp0∧tc r≤tc vp0+1200000∧tu r=tu vp0):=⟨by unfold zF; exact goJ⟩

instance (x_g:zWv):T (zaj x_g) (Gw x_g∧tc x_g≤50000000000000) (fun r=>Gw r∧kc r≤kc x_g∧ku r≤ku x_g∧tc r≤tc x_g+1200000∧tu r=tu x_g):=⟨by unfold zaj; exact goJ⟩

end Go.Dm
end
section
set_option linter.unusedVariables false
set_option maxRecDepth 10000
set_option maxHeartbeats 2000000
namespace Go.Dm
instance (vp0:zWv) (t123:Bool):T (za6 vp0 t123) (Gw vp0∧tc vp0≤50000000000000) (fun r=>Gw r.2∧kc r.2≤kc vp0∧ku r.2≤ku vp0∧tc r.2≤tc vp0+1200000∧tu r.2=tu vp0):=⟨by unfold za6; exact goJ⟩

instance (vp0:zWv):T (za7 vp0) (Gw vp0∧tc vp0≤50000000000000) (fun r=>Gw r.2∧kc r.2≤kc vp0∧ku r.2≤ku vp0∧tc r.2≤tc vp0+1200000∧tu r.2=tu vp0):=⟨by unfold za7; exact goJ⟩

instance (vp0:zWv) (v9:zWG):T (za8 vp0 v9) (Gw vp0∧v9.N≤1099511627776∧tc vp0≤50000000000000) (fun r=>Gw r.2∧kc r.2≤kc vp0∧ku r.2≤ku vp0∧tc r.2≤tc vp0+1200000∧tu r.2=tu vp0):=⟨by unfold za8; exact goJ⟩

instance (vp0:zWv) (v5:zWH) (v7:zWG) (v9:zWG) (v10:zWB):T (za9 vp0 v5 v7 v9 v10) (Gw vp0∧v9.N≤1099511627776∧Fm v10.Fields∧v10.Fields.length≤9500∧v10.Method.length≤10000∧v10.Target.length≤30000∧v10.Reason.length≤10000∧v10.Code≤1000∧v10.Minor≤1000∧tc vp0≤40000000000000) (fun r=>Gw r.2∧kc r.2≤kc vp0∧ku r.2≤ku vp0∧tc r.2≤tc vp0+1300000∧tu r.2=tu vp0):=⟨by unfold za9; exact goO⟩

instance (vp0:zWv) (v4:zWB) (v5:zWH) (v7:zWG) (v9:zWG) (v10:zWB):T (zba vp0 v4 v5 v7 v9 v10) (Gw vp0∧Hd v4∧v9.N≤1099511627776∧Fm v10.Fields∧v10.Fields.length≤9500∧v10.Method.length≤10000∧v10.Target.length≤30000∧v10.Reason.length≤10000∧v10.Code≤1000∧v10.Minor≤1000∧tc vp0≤40000000000000) (fun r=>Gw r.2∧kc r.2≤kc vp0∧ku r.2≤ku vp0∧tc r.2≤tc vp0+1300000∧tu r.2=tu vp0):=⟨by unfold zba; exact goO⟩

instance (x_a0:zWv) (x_a1:zWB) (x_a2:zWH):T (zdo x_a0 x_a1 x_a2) (Gw x_a0∧Hd x_a1∧tc x_a0≤40000000000000) (fun r=>Gw r.2∧kc r.2≤kc x_a0∧ku r.2≤ku x_a0∧tc r.2≤tc x_a0+1300000∧tu r.2=tu x_a0):=⟨by unfold zdo; exact goO⟩

instance (vp0:zWv) (i6:Int):T (zW vp0 i6) (Gw vp0∧tc vp0≤50000000000000) (fun r=>Gw r∧kc r≤kc vp0∧ku r≤ku vp0∧tc r≤tc vp0+1000∧tu r=tu vp0):=⟨by unfold zW; exact goJ⟩

instance (vp0:zWv) (v2:zWB) (v4:zWH):T (zaH vp0 v2 v4) (Gw vp0∧Hd v2∧tc vp0≤40000000000000) (fun r=>Gw r∧kc r≤kc vp0∧ku r≤ku vp0∧tc r≤tc vp0+1310000∧tu r=tu vp0):=⟨by unfold zaH; exact goJ⟩

instance (vp0:zWv) (v2:zWB):T (zaI vp0 v2) (Gw vp0∧Hd v2∧tc vp0≤40000000000000) (fun r=>Gw r∧kc r≤kc vp0∧ku r≤ku vp0∧tc r≤tc vp0+1310000∧tu r=tu vp0):=⟨by unfold zaI; exact goJ⟩

instance (x_g:zWv):T (zcB x_g) (Gw x_g∧tc x_g≤40000000000000) (fun r=>Gw r∧kc r≤kc x_g∧ku r≤ku x_g∧tc r≤tc x_g+1310000∧tu r=tu x_g):=⟨by unfold zcB; exact goO⟩

instance (vp0:zWv) (i5:Int) (t6:Bool) (i7:Int):T (zaq vp0 i5 t6 i7) (Gw vp0∧tc vp0≤40000000000000) (fun r=>r.1=i5∧Gw r.2∧kc r.2≤kc vp0∧ku r.2≤ku vp0∧tc r.2≤tc vp0+1310000∧tu r.2=tu vp0∧(i7≠0→r.2.zW3=true)):=⟨by unfold zaq; exact goJ⟩

instance (vp0:zWv) (i8:Int) (t10:Bool) (i11:Int) (s12:Str):T (zar vp0 i8 t10 i11 s12) (Gw vp0∧s12.length≤7000000∧tc vp0≤30000000000000) (fun r=>r.1=i8∧Gw r.2∧kc r.2≤kc vp0∧ku r.2≤ku vp0∧tc r.2≤tc vp0+8200000∧tu r.2=tu vp0∧(i11≠0→r.2.zW3=true)):=⟨by unfold zar; exact goJ⟩

instance (vp0:zWv) (i8:Int) (s9:Str) (t10:Bool) (i11:Int):T (zas vp0 i8 s9 t10 i11) (Gw vp0∧s9.length≤3000∧tc vp0≤30000000000000) (fun r=>r.1=i8∧Gw r.2∧kc r.2≤kc vp0∧ku r.2≤ku vp0∧tc r.2≤tc vp0+8200000∧tu r.2=tu vp0∧(i11≠0→r.2.zW3=true)):=⟨by unfold zas; exact goJ⟩

instance (vp0:zWv) (s1:Str) (t19:Bool):T (zat vp0 s1 t19) (Gw vp0∧ku vp0+s1.length≤3000∧tc vp0≤30000000000000) (fun r=>0≤r.1∧r.1≤s1.length∧Gw r.2∧ku r.2≤ku vp0+r.1∧kc r.2≤kc vp0∧tu r.2=tu vp0∧tc r.2≤tc vp0+8200000∧(r.1=0→s1.length=0∨r.2.zW3=true)):=⟨by unfold zat; exact goJ⟩

instance (x_a0:zWv) (x_a1:Str):T (zcg x_a0 x_a1) (Gw x_a0∧ku x_a0+x_a1.length≤3000∧tc x_a0≤30000000000000) (fun r=>0≤r.1∧r.1≤x_a1.length∧Gw r.2∧ku r.2≤ku x_a0+r.1∧kc r.2≤kc x_a0∧tu r.2=tu x_a0∧tc r.2≤tc x_a0+8200000∧(r.1=0→x_a1.length=0∨r.2.zW3=true)):=⟨by unfold zcg; exact goJ⟩

instance (s1:Str) (n:Nat) (vp0:zWv) (i6:Int):T (zm s1 n vp0 i6) (Gw vp0∧0≤i6∧i6≤s1.length∧s1.length≤3000∧ku vp0+(s1.length-i6)≤3000∧(s1.length-i6)+2*st vp0.zW3+1≤n∧tc vp0+10000000*(s1.length-i6)+10000000*st vp0.zW3≤30000000000000) (fun r=>Gw r.2.2∧i6≤r.1∧r.1≤s1.length∧ku r.2.2≤ku vp0+(r.1-i6)∧kc r.2.2≤kc vp0∧tc r.2.2≤tc vp0+10000000*(r.1-i6)+10000000*st vp0.zW3∧tu r.2.2=tu vp0):=by
 induction n generalizing vp0 i6
 ·exact ⟨goJ⟩
 exact ⟨by unfold zm zG; exact goJ⟩

instance (x_g:zWv) (x_s:Str):T (zak x_g x_s) (Gw x_g∧x_s.length≤3000∧ku x_g+x_s.length≤3000∧tc x_g=0∧tu x_g=0) (fun r=>Gw r.2.2∧0≤r.1∧r.1≤x_s.length∧ku r.2.2≤ku x_g+r.1∧kc r.2.2≤kc x_g∧tc r.2.2≤10000000*r.1+10000000∧tu r.2.2≤10000000*r.1+10000000∧(x_g.zW3=true→r.2.2.zW3=true)):=⟨by unfold zak; exact goJ⟩

end Go.Dm
end
