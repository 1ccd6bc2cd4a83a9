/- When the models come to something: printed by a program (wip/gen/yt.py) off the models and a table. No program in sight. -/
import Derived.Test.YtlehfmpjckapdaaGreatDoorU3
import Derived.Test.YtlehfmpjckapdaaGreatDoorG13
import Derived.Test.YtlehfmpjckapdaaGreatDoorXC2
import Derived.Test.YtlehfmpjckapdaaGreatDoorD0
set_option linter.unusedVariables false
set_option linter.unusedSimpArgs false
set_option linter.unusedVariables false
set_option maxRecDepth 10000
set_option maxHeartbeats 4000000
section
namespace Go.Dm
instance (s1:Str) (n:Nat) (a:zZk) (b:Int):T (zh s1 n a b) (Gw a∧0≤b∧b≤s1.length∧s1.length≤3000∧kc a+(s1.length-b)≤3000∧(s1.length-b)+2*st a.zZH+1≤n∧tu a+10000000*(s1.length-b)+10000000*st a.zZH≤30000000000000∧tc a+10000*(s1.length-b)+10000*st a.zZH≤30000000000000) (fun r=>Gw r.2.2∧b≤r.1∧r.1≤s1.length∧kc r.2.2≤kc a+(r.1-b)∧ku r.2.2≤ku a∧tu r.2.2≤tu a+10000000*(r.1-b)+10000000*st a.zZH∧tc r.2.2≤tc a+10000*(r.1-b)+10000*st a.zZH):=by
 induction n generalizing a b
 ·exact ⟨goJ⟩
 exact ⟨by unfold zh zaN; exact goJ⟩
instance (a:zZk) (b:Str):T (zM a b) (Gw a∧b.length≤3000∧kc a+b.length≤3000∧tc a=0∧tu a=0) (fun r=>Gw r.2.2∧0≤r.1∧r.1≤b.length∧kc r.2.2≤kc a+r.1∧ku r.2.2≤ku a∧tu r.2.2≤10000000*r.1+10000000∧tc r.2.2≤10000000*r.1+10000000∧(a.zZo=true→r.2.2.zZo=true)):=⟨by unfold zM; exact goJ⟩
instance (a:zZk):T (zbK a) (True) (fun r=>r.1=a.zZx∧Rs1 a r.2∧tc r.2=0∧tu r.2=tu a):=⟨by unfold zbK; exact goH⟩
instance (a:zZk):T (zbm a) (True) (fun r=>r.1=a.z0a∧Rs1 a r.2∧tu r.2=0∧tc r.2=tc a):=⟨by unfold zbm; exact goH⟩
instance  : T (ziT) (True) (fun r=>r=0):=⟨by unfold ziT; exact gu⟩
instance  : T (zig) (True) (fun r=>r=0):=⟨by unfold zig; exact gu⟩
instance  : T (zbY) (True) (fun r=>r=0):=⟨by unfold zbY; exact gu⟩
instance  : T (zfq) (True) (fun r=>r=0):=⟨by unfold zfq; exact gu⟩
instance (a:zZG):T (zed a) (Em a) (fun r=>0≤r∧r≤65536):=⟨by unfold zed; exact goG⟩
instance (a:zZz):T (zbs a) (Ww a) (fun r=>0≤r∧r≤65536):=⟨by unfold zbs; exact goG⟩
instance  : T (zfr) (True) (fun r=>r=0):=⟨by unfold zfr; exact gu⟩
instance (a:zZp):T (zee a) (Dm a) (fun r=>0≤r∧r≤5000):=⟨by unfold zee; exact goG⟩
instance (a:zZK):T (zgj a) (Bm a) (fun r=>0≤r∧r≤5000):=⟨by unfold zgj; exact goG⟩
instance (a:zZA):T (zgQ a) (Am a) (fun r=>0≤r∧r≤3000):=⟨by unfold zgQ; exact goG⟩
instance (a:zZv):T (zfs a) (Sd a) (fun r=>True):=⟨by unfold zfs; exact goH⟩
instance (a:zZk):T (zcS a) (Gw a) (fun r=>True):=⟨by unfold zcS; exact goH⟩
end Go.Dm
end
section
namespace Go.Dm
instance  : T (zfX) (True) (fun r=>True):=⟨by unfold zfX; exact gu⟩
instance (x_f:zZw) (a:Int):T (zmK x_f a) (x_f.N≤1099511627776∧0≤x_f.N) (fun r=>0≤r.N∧r.N≤1099511627776):=⟨by unfold zmK; exact gu⟩
instance (a:z0q):T (zdL a) (a.z0g.length≤1000) (fun r=>True):=⟨by unfold zdL; exact gu⟩
instance (a:zZC):T (zaH a) (Qm a) (fun r=>True):=⟨by unfold zaH; exact goH⟩
instance  : T (zhE) (True) (fun r=>True):=⟨by unfold zhE; exact gu⟩
instance (a:zZk) (b:Int):T (zak a b) (Gw a) (fun r=>Gw r.2∧kc r.2≤kc a∧ku r.2≤ku a∧tc r.2≤tc a+0∧tu r.2=tu a):=⟨by unfold zak; exact goH⟩
instance (a:zZk) (d:Int) (c:Str) (b:Bool):T (zal a d c b) (Gw a∧c.length≤65536∧tc a≤50000000000000) (fun r=>Gw r.2∧kc r.2≤kc a∧ku r.2≤ku a∧tc r.2≤tc a+65536∧tu r.2=tu a):=⟨by unfold zal; exact goJ⟩
instance (a:zZk) (b:zZr) (c:zZs):T (za2 a b c) (Gw a∧Hd b∧tc a≤50000000000000) (fun r=>Gw r.2∧kc r.2≤kc a∧ku r.2≤ku a∧tc r.2≤tc a+65536∧tu r.2=tu a):=⟨by unfold za2; exact goO⟩
instance (x_h:zZr) (b:Bool) (a:Int):T (zmm x_h b a) (Fm x_h.Fields∧x_h.Fields.length≤9500∧x_h.Method.length≤10000∧x_h.Target.length≤30000∧x_h.Reason.length≤10000∧x_h.Code≤1000∧x_h.Minor≤1000) (fun r=>Fm r.Fields∧r.Method.length≤10000∧r.Target.length≤30000∧r.Reason.length≤10000∧r.Code≤1000∧r.Minor≤1000):=⟨by unfold zmm zgk; exact gu2⟩
instance (a:zZC):T (zaY a) (Qm a) (fun r=>Qm r.2):=⟨by unfold zaY; exact goH⟩
instance (a:zZk):T (zag a) (Gw a) (fun r=>Gw r∧kc r≤kc a∧ku r≤ku a∧tc r≤tc a+0∧tu r=tu a):=⟨by unfold zag; exact goJ⟩
instance (a:zZk):T (zah a) (Gw a) (fun r=>Gw r∧kc r≤kc a∧ku r≤ku a∧tc r≤tc a+0∧tu r=tu a):=⟨by unfold zah; exact goJ⟩
instance (a:zZk) (s2:Str):T (zQ a s2) (Gw a∧s2.length≤1200000∧tc a≤50000000000000) (fun r=>Gw r∧kc r≤kc a∧ku r≤ku a∧tc r≤tc a+1200000∧tu r=tu a):=⟨by unfold zQ; exact goJ⟩
instance (a:zZk):T (zL a) (Gw a∧tc a≤50000000000000) (fun r=>Gw r∧kc r≤kc a∧ku r≤ku a∧tc r≤tc a+1200000∧tu r=tu a):=⟨by unfold zL; exact goJ⟩
end Go.Dm
end
section
namespace Go.Dm
instance (a:zZk) (b:Bool):T (zaB a b) (Gw a∧tc a≤50000000000000) (fun r=>Gw r.2∧kc r.2≤kc a∧ku r.2≤ku a∧tc r.2≤tc a+1200000∧tu r.2=tu a):=⟨by unfold zaB; exact goJ⟩
instance (a:zZk):T (zaC a) (Gw a∧tc a≤50000000000000) (fun r=>Gw r.2∧kc r.2≤kc a∧ku r.2≤ku a∧tc r.2≤tc a+1200000∧tu r.2=tu a):=⟨by unfold zaC; exact goJ⟩
instance (a:zZk) (v9:zZw):T (zaD a v9) (Gw a∧v9.N≤1099511627776∧tc a≤50000000000000) (fun r=>Gw r.2∧kc r.2≤kc a∧ku r.2≤ku a∧tc r.2≤tc a+1200000∧tu r.2=tu a):=⟨by unfold zaD; exact goJ⟩
instance (a:zZk) (v5:zZs) (b:zZw) (v9:zZw) (v10:zZr):T (zaE a v5 b v9 v10) (Gw a∧v9.N≤1099511627776∧Fm v10.Fields∧v10.Fields.length≤9500∧v10.Method.length≤10000∧v10.Target.length≤30000∧v10.Reason.length≤10000∧v10.Code≤1000∧v10.Minor≤1000∧tc a≤40000000000000) (fun r=>Gw r.2∧kc r.2≤kc a∧ku r.2≤ku a∧tc r.2≤tc a+1300000∧tu r.2=tu a):=⟨by unfold zaE; exact goO⟩
instance (a:zZk) (v4:zZr) (v5:zZs) (b:zZw) (v9:zZw) (v10:zZr):T (zaU a v4 v5 b v9 v10) (Gw a∧Hd v4∧v9.N≤1099511627776∧Fm v10.Fields∧v10.Fields.length≤9500∧v10.Method.length≤10000∧v10.Target.length≤30000∧v10.Reason.length≤10000∧v10.Code≤1000∧v10.Minor≤1000∧tc a≤40000000000000) (fun r=>Gw r.2∧kc r.2≤kc a∧ku r.2≤ku a∧tc r.2≤tc a+1300000∧tu r.2=tu a):=⟨by unfold zaU; exact goO⟩
instance (a:zZk) (b:zZr) (c:zZs):T (zbd a b c) (Gw a∧Hd b∧tc a≤40000000000000) (fun r=>Gw r.2∧kc r.2≤kc a∧ku r.2≤ku a∧tc r.2≤tc a+1300000∧tu r.2=tu a):=⟨by unfold zbd; exact goO⟩
instance (a:zZk) (b:Int):T (zab a b) (Gw a∧tc a≤50000000000000) (fun r=>Gw r∧kc r≤kc a∧ku r≤ku a∧tc r≤tc a+1000∧tu r=tu a):=⟨by unfold zab; exact goJ⟩
instance (a:zZk) (v2:zZr) (v4:zZs):T (zam a v2 v4) (Gw a∧Hd v2∧tc a≤40000000000000) (fun r=>Gw r∧kc r≤kc a∧ku r≤ku a∧tc r≤tc a+1310000∧tu r=tu a):=⟨by unfold zam; exact goJ⟩
instance (a:zZk) (v2:zZr):T (zac a v2) (Gw a∧Hd v2∧tc a≤40000000000000) (fun r=>Gw r∧kc r≤kc a∧ku r≤ku a∧tc r≤tc a+1310000∧tu r=tu a):=⟨by unfold zac; exact goJ⟩
instance (a:zZk):T (zaK a) (Gw a∧tc a≤40000000000000) (fun r=>Gw r∧kc r≤kc a∧ku r≤ku a∧tc r≤tc a+1310000∧tu r=tu a):=⟨by unfold zaK; exact goO⟩
instance (a:zZk) (i5:Int) (c:Bool) (b:Int):T (zm a i5 c b) (Gw a∧tc a≤40000000000000) (fun r=>r.1=i5∧Gw r.2∧kc r.2≤kc a∧ku r.2≤ku a∧tc r.2≤tc a+1310000∧tu r.2=tu a∧(b≠0→r.2.zZo=true)):=⟨by unfold zm; exact goJ⟩
instance (a:zZk) (e:Int) (d:Bool) (c:Int) (b:Str):T (zw a e d c b) (Gw a∧b.length≤7000000∧tc a≤30000000000000) (fun r=>r.1=e∧Gw r.2∧kc r.2≤kc a∧ku r.2≤ku a∧tc r.2≤tc a+8200000∧tu r.2=tu a∧(c≠0→r.2.zZo=true)):=⟨by unfold zw; exact goJ⟩
instance (a:zZk) (d:Int) (e:Str) (c:Bool) (b:Int):T (zR a d e c b) (Gw a∧e.length≤3000∧tc a≤30000000000000) (fun r=>r.1=d∧Gw r.2∧kc r.2≤kc a∧ku r.2≤ku a∧tc r.2≤tc a+8200000∧tu r.2=tu a∧(b≠0→r.2.zZo=true)):=⟨by unfold zR; exact goJ⟩
instance (a:zZk) (s1:Str) (b:Bool):T (zH a s1 b) (Gw a∧ku a+s1.length≤3000∧tc a≤30000000000000) (fun r=>0≤r.1∧r.1≤s1.length∧Gw r.2∧ku r.2≤ku a+r.1∧kc r.2≤kc a∧tu r.2=tu a∧tc r.2≤tc a+8200000∧(r.1=0→s1.length=0∨r.2.zZo=true)):=⟨by unfold zH; exact goJ⟩
instance (a:zZk) (b:Str):T (zj a b) (Gw a∧ku a+b.length≤3000∧tc a≤30000000000000) (fun r=>0≤r.1∧r.1≤b.length∧Gw r.2∧ku r.2≤ku a+r.1∧kc r.2≤kc a∧tu r.2=tu a∧tc r.2≤tc a+8200000∧(r.1=0→b.length=0∨r.2.zZo=true)):=⟨by unfold zj; exact goJ⟩
instance (s1:Str) (n:Nat) (a:zZk) (b:Int):T (za s1 n a b) (Gw a∧0≤b∧b≤s1.length∧s1.length≤3000∧ku a+(s1.length-b)≤3000∧(s1.length-b)+2*st a.zZo+1≤n∧tc a+10000000*(s1.length-b)+10000000*st a.zZo≤30000000000000) (fun r=>Gw r.2.2∧b≤r.1∧r.1≤s1.length∧ku r.2.2≤ku a+(r.1-b)∧kc r.2.2≤kc a∧tc r.2.2≤tc a+10000000*(r.1-b)+10000000*st a.zZo∧tu r.2.2=tu a):=by
 induction n generalizing a b
 ·exact ⟨goJ⟩
 exact ⟨by unfold za zx; exact goJ⟩
instance (a:zZk) (b:Str):T (zr a b) (Gw a∧b.length≤3000∧ku a+b.length≤3000∧tc a=0∧tu a=0) (fun r=>Gw r.2.2∧0≤r.1∧r.1≤b.length∧ku r.2.2≤ku a+r.1∧kc r.2.2≤kc a∧tc r.2.2≤10000000*r.1+10000000∧tu r.2.2≤10000000*r.1+10000000∧(a.zZo=true→r.2.2.zZo=true)):=⟨by unfold zr; exact goJ⟩
end Go.Dm
end
section
namespace Go.Dm
instance (a:zZk):T (zG a) (Gw a∧tc a≤40000000000000) (fun r=>Gw r.2∧kc r.2≤kc a∧ku r.2≤ku a∧tc r.2≤tc a+1310000∧tu r.2=tu a∧(a.zZo=true→r.2.zZo=true)):=⟨by unfold zG; exact goJ⟩
instance  : T (zjm) (True) (fun r=>True):=⟨by unfold zjm; exact gu⟩
instance (a:zZK):T (zfa a) (Bm a) (fun r=>Bm r.2.2):=⟨by unfold zfa zgR; exact goG⟩
instance (a:zZk) (t3:Bool):T (zP a t3) (Gw a∧tc a≤40000000000000) (fun r=>Gw r.2∧kc r.2≤kc a∧ku r.2≤ku a∧tc r.2≤tc a+1310000∧tu r.2=tu a):=⟨by unfold zP; exact goJ⟩
instance (a:zZk):T (zn a) (Gw a∧tc a≤40000000000000) (fun r=>Gw r.2∧kc r.2≤kc a∧ku r.2≤ku a∧tc r.2≤tc a+1310000∧tu r.2=tu a∧(a.zZo=true→r.2.zZo=true)):=⟨by unfold zn; exact goJ⟩
end Go.Dm
end
section
namespace Go.Dm
theorem L0_s (n:Nat) (w:zZt) (i3 i4:Int):zbq (n+1) w i3 i4=if (decide (i4<2)) then zz6 (zbq n) w i3 i4 else some (i3,some w):=rfl
def uc (w:zZt):Int:=w.zZm.zZ1.length-w.zZm.zZP
def uu (w:zZt):Int:=w.zZl.zZ1.length-w.zZl.zZP
def Mz (w:zZt):Int:=uc w+uu w+st w.zZm.z0j+st w.zZl.z0j
def Bz (w:zZt):Int:=10000000*(uc w+uu w)+30000000*Mz w
def Wr (w:zZt):Prop:=Gw w.Gateway∧tc w.Gateway=0∧tu w.Gateway=0∧w.zZm.zZ1.length≤3000∧w.zZl.zZ1.length≤3000∧0≤w.zZm.zZP∧w.zZm.zZP≤w.zZm.zZ1.length∧0≤w.zZl.zZP∧w.zZl.zZP≤w.zZl.zZ1.length∧kc w.Gateway+uc w≤3000∧ku w.Gateway+uu w≤3000
def Sn (w:zZt) (k:Int):Prop:=w.zZm.zZN.length+Bz w≤k∧w.zZl.zZN.length+Bz w≤k
def Gr (a b:List UInt8) (m:z0D) (w:zZt):Prop:=a <+: w.zZm.zZN∧b <+: w.zZl.zZN∧m.Client≤w.zZE.Client∧m.Upstream≤w.zZE.Upstream
theorem goTk {G:Prop} (h:G:=by
 (with_reducible repeat' first|intro _|refine And.intro ?_ ?_|refine Wf ?_ ?_|refine Wi ?_ ?_|refine Ws ?_|refine Wc ?_ ?_|refine Wo ?_ ?_|refine Wk ?_|refine We ?_ ?_)
 all_goals (try simp only [List.length_cons,List.length_nil])
 all_goals grind (gen:=8) (ematch:=8) [List.prefix_append,oA,kb, = zI8,oB,oW,Sd,oQ,Gw,Cd,kc,ku,tc,tu,Rs1,st,fuel,zbg,zaF]):G:=h
instance takeG (x_w:zZt):T (zu x_w) (Gw x_w.Gateway∧0≤tc x_w.Gateway∧x_w.zZm.zZN.length+tc x_w.Gateway≤100000000000000∧x_w.zZl.zZN.length+tu x_w.Gateway≤100000000000000) (fun r=>(Gw r.Gateway∧kc r.Gateway=kc x_w.Gateway∧ku r.Gateway=ku x_w.Gateway∧tc r.Gateway=0∧tu r.Gateway=0∧r.zZm.zZ1=x_w.zZm.zZ1∧r.zZm.zZP=x_w.zZm.zZP∧r.zZm.z0k=x_w.zZm.z0k∧r.zZm.z0j=x_w.zZm.z0j∧r.zZm.zZN.length=x_w.zZm.zZN.length+tc x_w.Gateway∧r.zZl.zZ1=x_w.zZl.zZ1∧r.zZl.zZP=x_w.zZl.zZP∧r.zZl.z0k=x_w.zZl.z0k∧r.zZl.z0j=x_w.zZl.z0j∧r.zZl.zZN.length=x_w.zZl.zZN.length+tu x_w.Gateway)∧x_w.zZm.zZN <+: r.zZm.zZN∧x_w.zZl.zZN <+: r.zZl.zZN∧x_w.zZE.Client≤r.zZE.Client∧x_w.zZE.Upstream≤r.zZE.Upstream∧r.Gateway.zZo=x_w.Gateway.zZo):=⟨fun h=>by unfold zu; exact goTk⟩
section
variable {a b:List UInt8} {m:z0D} {F:zZt→Int→Int→Option (Int × Option zZt)} {n:Int}
end
theorem Mz_0 {w:zZt} (h:Wr w):0≤Mz w:=by grind [Wr,Mz,uc,uu,st]
def Iv (w:zZt) (k:Int):Prop:=Wr w∧uc w+uu w≤6000∧Sn w k
def Dq (v:zZt) (k:Int):Option zZt→Prop
 | none=>False
 | some w=>Iv w k∧Gr v.zZm.zZN v.zZl.zZN v.zZE w∧(v.Gateway.zZo=true→w.Gateway.zZo=true)
theorem Gr_r (w:zZt):Gr w.zZm.zZN w.zZl.zZN w.zZE w:=⟨List.prefix_refl _,List.prefix_refl _,Int.le_refl _,Int.le_refl _⟩
theorem goWd {G:Prop} (h:G:=by
 (with_reducible repeat' first|intro _|refine And.intro ?_ ?_|refine Wf ?_ ?_|refine Wi ?_ ?_|refine Ws ?_|refine Wc ?_ ?_|refine Wo ?_ ?_|refine Wk ?_|refine We ?_ ?_)
 all_goals (try simp only [List.length_cons,List.length_nil])
 all_goals grind (gen:=8) (ematch:=8) [Gr_r,Iv,Dq,Gr,tc,tu,Wr,Sn,Bz,uc,uu,Mz,st,fuel]):G:=h
theorem Do_w (w:zZt) (e:zZL) (k:Int) (h:Iv w k) (b:k≤9000000000000):W (zft (some w) e) (fun r=>Dq w (k+10000000) r.2.2):=by
 have a:=Gr_r w;unfold zft zhe;show W ((zkQ e).bind _) _;exact goWd
inductive Dos:List zZL→zZt→zZt→Prop
 | nil (w:zZt):Dos [] w w
 | cons {e:zZL} {l:List zZL} {w v u:zZt} {a b:Int} (h:zft (some w) e=some (a,b,some v)) (d:Dos l v u):Dos (e::l) w u
theorem Dos_i {e:zZL} {l:List zZL} {w u:zZt} (d:Dos (e::l) w u):∃a b v,zft (some w) e=some (a,b,some v)∧Dos l v u:=by
 cases d with
 | cons h d=>exact ⟨_,_,_,h,d⟩
theorem Dos_n {w u:zZt} (d:Dos [] w u):u=w:=by cases d; rfl
theorem Dos_t:∀(l:List zZL) (w:zZt) (k:Int),Iv w k→k+10000000*l.length≤9000000000000→∃u,Dos l w u∧Iv u (k+10000000*l.length)
 | [],w,k,h,_=>⟨w,.nil w,by simpa using h⟩
 | e::l,w,k,h,c=>by
  rw [List.length_cons] at c;obtain ⟨⟨a,b,o⟩,f,h1⟩:=Do_w w e k h (by omega)
  cases o with
  | none=>exact h1.elim
  | some v =>
   obtain ⟨u,d,g⟩:=Dos_t l v (k+10000000) h1.1 (by omega);refine ⟨u,.cons f d,?_⟩;rw [List.length_cons]
   have:k+10000000+10000000*(l.length:Int)=k+10000000*((l.length+1:Nat):Int):=by omega
   rw [← this]; exact g
theorem zMm {α:Type} {l:List α} {i:Int} (h0:0≤i) (h:i<l.length):∃x,lAt l i=some x∧l.drop i.toNat=x::l.drop (i+1).toNat:=by
 have hi:i.toNat<l.length:=by omega
 have e:(i+1).toNat=i.toNat+1:=by omega
 exact ⟨l[i.toNat],by simp [lAt,h0,hi],by rw [e]; exact List.drop_eq_getElem_cons hi⟩
def rsO (w:zZt):z0v:=⟨w.zZm.zZN,w.zZl.zZN,w.zZm.zZP,w.zZl.zZP,w.zZE,w.Gateway.zZo⟩
def Wn (s:zZV):Option zZt × Int→Prop
 | (none,e)=>e≠0
 | (some w,e)=>e=0∧Iv w 1000000000000∧w.zZm.z0j=false∧w.zZm.zZ1=s.Client∧w.zZl.zZ1=s.Upstream∧w.Gateway.zZo=false
instance iNew (s:zZV):T (zdX s) (En s.Env∧s.Rules.length≤400∧(∀r∈s.Rules,Rm r)∧s.Client.length≤3000∧s.Upstream.length≤3000) (Wn s):=⟨fun ⟨h1,h2,f,m,b⟩=>by
 obtain ⟨⟨o,e⟩,l,a⟩:=(inferInstance:T (zdv s.Env s.Caps s.Rules) _ _).ok ⟨h1,h2,f⟩;unfold zdX;rw [l]
 cases o with
 | none =>
  have a:e≠0:=a;exact ⟨(none,e),by simp [Go.Rk.optK,a],a⟩
 | some g =>
  have a:Gf g:=a
  by_cases c:e=0
  ·refine ⟨(some ⟨g,⟨s.Client,0,s.ClientEnds,false,[],(),()⟩,⟨s.Upstream,0,s.UpstreamEnds,false,[],(),()⟩,⟨0,0⟩⟩,0),?_,?_⟩
   ·simp only [Go.Rk.optK,Option.bind,c];rw [if_neg (by simp),if_neg (by simp; omega),if_neg (by simp; omega)]
   ·obtain ⟨h,i,d,j,n,k⟩:=a;simp only [Wn,Iv,Wr,Sn,Bz,uc,uu,Mz,st,List.length_nil,h,i,d,j,n,k];refine ⟨trivial,⟨⟨trivial,trivial,trivial,m,b,?_⟩,?_,?_⟩,trivial,trivial,trivial,trivial⟩<;>simp<;>omega
  ·exact ⟨(none,e),by simp [Go.Rk.optK,c],c⟩⟩
end Go.Dm
end
section
namespace Go.Dm
theorem NL0 (c:z0l) (l:List zZu) (k:Int):∀(n:Nat) (g:zZk) (i:Int) (r:Option zZk × Int),zcw c l k n g i=some r→r.2=0
 | 0,g,i,r,h=>by cases h
 | n+1,g,i,r,h=>by
  unfold zcw at h
  split at h
  ·obtain ⟨a,_,h⟩:=Option.bind_eq_some_iff.1 h;obtain ⟨b,_,h⟩:=Option.bind_eq_some_iff.1 h
   split at h
   ·obtain ⟨d,_,h⟩:=Option.bind_eq_some_iff.1 h;exact NL0 c l k n _ _ r h
   ·cases h
  ·obtain ⟨a,_,h⟩:=Option.bind_eq_some_iff.1 h;obtain ⟨b,_,h⟩:=Option.bind_eq_some_iff.1 h;cases h; rfl
def Bd (s:zZV):Prop:=s.Env.By.length≤1000∧s.Env.Host.length≤1000∧Swm s.Env.Domains∧Swm s.Env.Locations∧Rl s.Rules
theorem zOH {l:List zZu} {e:zZI} {c:z0l} {g f:Int} {o:Option zZC} {r:Option zZk × Int} (p:Rl l) (h0:stC e=0) (h1:g=if c.Chunk<1∨65536<c.Chunk then 1 else 0) (h2:f=if c.Queue<1∨64<c.Queue then 1 else 0)
  (h:zcx l e c g o f=some r) (s:r.2≠0):gwC e c l=r.2:=by
 unfold zcx at h;unfold gwC;rw [if_neg (by simpa using h0)]
 split at h
 ·rename_i hc
  cases h
  have:c.Chunk<1∨65536<c.Chunk:=by
   by_cases q:c.Chunk<1∨65536<c.Chunk
   ·exact q
   ·rw [if_neg q] at h1; subst h1; simp at hc
  rw [if_pos (by rcases this with q|q<;>simp [q])]
 ·rename_i hc
  have hc:¬ (c.Chunk<1∨65536<c.Chunk):=fun q=>hc (by rw [if_pos q] at h1; subst h1; rfl)
  split at h
  ·rename_i d
   cases h
   have:c.Queue<1∨64<c.Queue:=by
    by_cases q:c.Queue<1∨64<c.Queue
    ·exact q
    ·rw [if_neg q] at h2; subst h2; simp at d
   rw [if_pos (by rcases this with q|q<;>simp [q])]
  ·rename_i d
   have d:¬ (c.Queue<1∨64<c.Queue):=fun q=>d (by rw [if_pos q] at h2; subst h2; rfl)
   split at h
   ·rename_i q
    cases h
    have q:c.Head<1:=by simpa using q
    rw [if_pos (.inl q)]
   ·rename_i j
    split at h
    ·rename_i q
     cases h
     have q:65536<c.Head:=by simpa using q
     rw [if_pos (.inr (.inl q))]
    ·rename_i m
     have j:¬ c.Head<1:=by simpa using j
     have m:¬ 65536<c.Head:=by simpa using m
     rw [if_neg (by
      rintro (a|a|a|a|a|a)
      ·exact j a
      ·exact m a
      ·exact hc (.inl a)
      ·exact hc (.inr a)
      ·exact d (.inl a)
      ·exact d (.inr a))]
     obtain ⟨k,t,n,i⟩:=(inferInstance:T (zh5 l) _ _).ok p;rw [t] at h
     change (if (!(k.2==0))=true then some (none,k.2) else _)=some r at h
     split at h
     ·cases h
      by_cases hp:zom l
      ·rw [if_pos hp,n hp]
      ·rw [if_neg hp,i hp]
     ·obtain ⟨a,_,h⟩:=Option.bind_eq_some_iff.1 h;obtain ⟨b,_,h⟩:=Option.bind_eq_some_iff.1 h;exact absurd (NL0 _ _ _ _ _ _ _ h) s
theorem New_2 {s:zZV} {r:Option zZk × Int} (n:Bd s) (h:zdv s.Env s.Caps s.Rules=some r) (e:r.2≠0):gwC s.Env s.Caps s.Rules=r.2:=by
 obtain ⟨l,o,j,m,i⟩:=n;obtain ⟨k,p,f⟩:=(inferInstance:T (zkb s.Env) _ _).ok ⟨l,o,j,m⟩;unfold zdv at h;rw [p] at h
 change (if (!(k==0))=true then some (none,k) else _)=some r at h
 split at h
 ·cases h;have e:k≠0:=e;unfold gwC;rw [if_pos (by rw [← f]; exact e),f]
 ·rename_i g
  have g:k=0:=by simpa using g
  have h0:stC s.Env=0:=by rw [← f]; exact g
  have key:∀d:Int,d=(if s.Caps.Chunk<1∨65536<s.Caps.Chunk then 1 else 0)→zcy s.Rules s.Env s.Caps d=some r→gwC s.Env s.Caps s.Rules=r.2:=by
   intro d h1 h;unfold zcy zh3 at h
   by_cases c:s.Caps.Queue<1
   ·rw [if_pos (by simpa using c)] at h;exact zOH i h0 h1 (by rw [if_pos (.inl c)]) h e
   ·rw [if_neg (by simpa using c)] at h
    by_cases b:64<s.Caps.Queue
    ·rw [if_pos (by simpa using b)] at h;exact zOH i h0 h1 (by rw [if_pos (.inr b)]) h e
    ·rw [if_neg (by simpa using b)] at h;exact zOH i h0 h1 (by rw [if_neg (by rintro (a|a); exact c a; exact b a)]) h e
  unfold zdu at h
  by_cases c:s.Caps.Chunk<1
  ·rw [if_pos (by simpa using c)] at h;exact key 1 (by rw [if_pos (.inl c)]) h
  ·rw [if_neg (by simpa using c)] at h
   by_cases b:65536<s.Caps.Chunk
   ·rw [if_pos (by simpa using b)] at h;exact key 1 (by rw [if_pos (.inr b)]) h
   ·rw [if_neg (by simpa using b)] at h;exact key 0 (by rw [if_neg (by rintro (a|a); exact c a; exact b a)]) h
theorem New_e {s:zZV} {e:Int} (d:Bd s) (t:s.Client.length≤3000) (f:s.Upstream.length≤3000) (h:zdX s=some (none,e)) (q:e≠0):zei s=some e:=by
 have a:∃o,zdv s.Env s.Caps s.Rules=some (o,e):=by
  unfold zdX at h;obtain ⟨⟨o,k⟩,m,h⟩:=Option.bind_eq_some_iff.1 h;refine ⟨o,?_⟩;rw [m]
  have c:¬ decide ((1048576:Int)<(s.Client.length:Int))=true:=by simp; omega
  have b:¬ decide ((1048576:Int)<(s.Upstream.length:Int))=true:=by simp; omega
  cases o with
  | none =>
   change (if (!(k==0))=true then some (none,k) else _)=_ at h
   split at h
   ·cases h; rfl
   ·first|cases h|(rw [if_neg c,if_neg b] at h; cases h)
  | some g =>
   change (if (!(k==0))=true then some (none,k) else _)=_ at h
   split at h
   ·cases h; rfl
   ·first|cases h|(rw [if_neg c,if_neg b] at h; cases h)
 obtain ⟨o,a⟩:=a;have:=New_2 d a q;obtain ⟨j,v,i,p,n⟩:=d;obtain ⟨r,l,u⟩:=(inferInstance:T (zei s) _ _).ok ⟨j,v,i,p,n,t,f⟩;rw [l,u,this]
end Go.Dm
end
section
namespace Go.Dm
def Rs2 (g r:zZk):Prop:=r.Queue=g.Queue∧r.zZm=g.zZm∧r.zZH=g.zZH∧r.zZ3=g.zZ3∧r.zZo=g.zZo∧r.z0c=g.z0c
def Cr (g:zZk):Prop:=g.zZo=true∨g.zZ3=true∨zI g=some false
def Ur (g:zZk):Prop:=g.zZo=true∨g.z0c=true∨g.Queue=none∨∃q,g.Queue=some q∧q.zZQ.z0g.length=0
theorem Cr_s {g r:zZk} (h:Rs2 g r) (c:Cr g):Cr r:=by
 obtain ⟨h1,h2,d,b,a,f⟩:=h
 have e:zI r=zI g:=by unfold zI; rw [h1,h2,d,a]
 unfold Cr at *
 rw [e,b,a]; exact c
theorem Ur_s {g r:zZk} (h:Rs2 g r) (c:Ur g):Ur r:=by
 obtain ⟨h1,h2,e,d,a,b⟩:=h
 unfold Ur at *
 rw [h1,a,b]; exact c
theorem bi {α β:Type} {x:Option α} {f:α→Option β} {r:β} (h:x.bind f=some r):∃a,x=some a∧f a=some r:=by
 cases x with
 | none=>cases h
 | some a=>exact ⟨a,rfl,h⟩
theorem zIl (s:Str):∀(n:Nat) (g:zZk) (i:Int) (r:Int × Int × zZk),zh s n g i=some r→((s.length:Int)≤r.1∨Cr r.2.2)∧r.2.1=0
 | 0,_,_,_,h=>by cases h
 | n+1,g,i,r,h=>by
  unfold zh zaN at h
  split at h
  ·obtain ⟨b,a,h⟩:=bi h
   cases b with
   | false=>cases h; exact ⟨.inr (.inr (.inr a)),rfl⟩
   | true =>
    obtain ⟨e,j,h⟩:=bi h;obtain ⟨k,m,h⟩:=bi h;obtain ⟨c,l,h⟩:=bi h;obtain ⟨d,f,h⟩:=bi h;exact zIl s n d c r h
  ·rename_i hc
   cases h;exact ⟨.inl (by simpa using hc),rfl⟩
theorem fu1:∃k,fuel=k+1:=⟨fuel-1,by unfold fuel; rfl⟩
def Co (g:zZk) (s:Str) (r:Int × Int × zZk):Prop:=(g.zZo=true→r=(0,8,g))∧((s.length:Int)≤r.1∨Cr r.2.2)∧(r.2.1=0∨r.2.1=8∧r.1=0)∧(s=[]∨Cr g→r.1=0∧r.2.2=g)
theorem cl_o {g:zZk} {s:Str} {r:Int × Int × zZk} (h:zM g s=some r):Co g s r:=by
 unfold zM at h
 split at h
 ·cases h; exact ⟨fun _=>rfl,.inr (.inl ‹_›),.inr ⟨rfl,rfl⟩,fun _=>⟨rfl,rfl⟩⟩
 split at h
 ·cases h; exact ⟨fun _=>rfl,.inr (.inr (.inl ‹_›)),.inr ⟨rfl,rfl⟩,fun _=>⟨rfl,rfl⟩⟩
 rename_i hc e
 refine ⟨fun c=>absurd c hc,(zIl s _ _ _ _ h).1,.inl (zIl s _ _ _ _ h).2,fun c=>?_⟩;obtain ⟨k,d⟩:=fu1;rw [d] at h;unfold zh zaN at h
 split at h
 ·rename_i h0
  obtain ⟨b,a,h⟩:=bi h
  rcases c with rfl|c|c|c
  ·simp at h0
  ·exact absurd c hc
  ·exact absurd c e
  ·rw [c] at a; cases a; cases h; exact ⟨rfl,rfl⟩
 ·cases h; exact ⟨rfl,rfl⟩
theorem zIm (s:Str):∀(n:Nat) (g:zZk) (i:Int) (r:Int × Int × zZk),za s n g i=some r→((s.length:Int)≤r.1∨Ur r.2.2)∧r.2.1=0
 | 0,_,_,_,h=>by cases h
 | n + 1,g,i,r,h=>by
  unfold za zx at h
  split at h
  ·split at h
   ·split at h
    ·cases hq:g.Queue with
     | none =>
      rw [hq] at h;cases h;exact ⟨.inr (.inr (.inr (.inl rfl))),rfl⟩
     | some q =>
      rw [hq] at h;obtain ⟨l,a,h⟩:=bi h;cases a
      split at h
      ·obtain ⟨f,m,h⟩:=bi h;obtain ⟨j,e,h⟩:=bi h;obtain ⟨b,d,h⟩:=bi h;obtain ⟨c,k,h⟩:=bi h;exact zIm s n c b r h
      ·rename_i a
       cases h;exact ⟨.inr (.inr (.inr (.inr ⟨q,rfl,by simpa using a⟩))),rfl⟩
    ·rename_i hd
     cases h;exact ⟨.inr (.inr (.inl (by simpa using hd))),rfl⟩
   ·rename_i hd
    cases h;exact ⟨.inr (.inl (by simpa using hd)),rfl⟩
  ·rename_i hc
   cases h;exact ⟨.inl (by simpa using hc),rfl⟩
def Uo (g:zZk) (s:Str) (r:Int × Int × zZk):Prop:=(g.zZo=true→r=(0,8,g))∧((s.length:Int)≤r.1∨Ur r.2.2)∧(r.2.1=0∨r.2.1=8∧r.1=0)∧(s=[]∨Ur g→r.1=0∧Rs2 g r.2.2)
theorem up_o {g:zZk} {s:Str} {r:Int × Int × zZk} (h:zr g s=some r):Uo g s r:=by
 have rr:Rs2 g g:=⟨rfl,rfl,rfl,rfl,rfl,rfl⟩;unfold zr at h
 split at h
 ·cases h; exact ⟨fun _=>rfl,.inr (.inl ‹_›),.inr ⟨rfl,rfl⟩,fun _=>⟨rfl,rr⟩⟩
 split at h
 ·cases h; exact ⟨fun _=>rfl,.inr (.inr (.inl ‹_›)),.inr ⟨rfl,rfl⟩,fun _=>⟨rfl,rr⟩⟩
 rename_i hc e
 refine ⟨fun c=>absurd c hc,(zIm s _ _ _ _ h).1,.inl (zIm s _ _ _ _ h).2,fun c=>?_⟩;obtain ⟨k,b⟩:=fu1;rw [b] at h;unfold za zx at h
 split at h
 ·rename_i h0
  split at h
  ·split at h
   ·cases hq:g.Queue with
    | none =>
     rw [hq] at h;cases h;exact ⟨rfl,hq.symm,rfl,rfl,rfl,rfl,rfl⟩
    | some q =>
     rw [hq] at h;obtain ⟨l,a,h⟩:=bi h;cases a
     split at h
     ·rename_i a
      rcases c with rfl|c|c|c|⟨f,c,d⟩
      ·simp at h0
      ·exact absurd c hc
      ·exact absurd c e
      ·rw [hq] at c; cases c
      ·rw [hq] at c; cases c; rw [d] at a; simp at a
     ·cases h;exact ⟨rfl,hq.symm,rfl,rfl,rfl,rfl,rfl⟩
   ·cases h; exact ⟨rfl,rr⟩
  ·cases h; exact ⟨rfl,rr⟩
 ·cases h; exact ⟨rfl,rr⟩
def Qt (g:zZk) (m:z0D):Prop:=g.zZx=[]∧g.z0a=[]∧∃u,zcS g=some u∧u.Client≤m.Client∧u.Upstream≤m.Upstream
def To (w v:zZt):Prop:=Rs2 w.Gateway v.Gateway∧Qt v.Gateway v.zZE∧(Qt w.Gateway w.zZE→v.zZm.zZN=w.zZm.zZN∧v.zZl.zZN=w.zZl.zZN∧v.zZE=w.zZE)
theorem take_o {w v:zZt} (h:zu w=some v):To w v:=by
 unfold zu zbK zbm at h;obtain ⟨k,g,h⟩:=bi h;cases g
 split at h
 ·obtain ⟨l,i,h⟩:=bi h;cases i
  split at h
  ·obtain ⟨u,a,h⟩:=bi h;cases h;refine ⟨⟨rfl,rfl,rfl,rfl,rfl,rfl⟩,⟨rfl,rfl,u,a,Int.le_max_right ..,Int.le_max_right ..⟩,fun ⟨j,f,x,d,c,b⟩=>?_⟩
   have:x=u:=by
    have e:zcS w.Gateway=some u:=a;rw [d] at e; exact Option.some.inj e
   subst this;refine ⟨by simp [j],by simp [f],?_⟩;show (⟨max w.zZE.Client x.Client,max w.zZE.Upstream x.Upstream⟩:z0D)=w.zZE;rw [Int.max_eq_left c,Int.max_eq_left b]
  ·cases h
 ·cases h
end Go.Dm
end
section
namespace Go.Dm
def acN (r:Bool × Int × zZA):zZA:=⟨r.2.2.z0O,r.2.2.z0E,r.2.2.zZ6,r.2.2.z0C,r.2.2.z0L,r.2.1,r.1,r.2.2.z0G⟩
def acE (a:zZA):zZA:=⟨a.z0O,a.z0E,[],a.z0C,a.z0L,a.z0K,a.f_whole,a.z0G⟩
noncomputable def acT (a:zZA) (x:UInt8):Option (Bool × Int × zZA):=zch ⟨a.z0O,a.z0E,a.zZ6,a.z0C,true,a.z0K,a.f_whole,a.z0G⟩ x
noncomputable def acF:List UInt8→zZA→Option (Int × Bool × Int × zZA)
 | [],a=>some (0,false,0,a)
 | x::s,a=>(acT a x).bind fun r=>if r.1=true∨r.2.1≠0 then some (1,r.1,r.2.1,acE (acN r)) else (acF s (acN r)).bind fun q=>some (q.1+1,q.2)
theorem dr_c {s:Str} {i:Int} (h0:0≤i) (h:i<s.length):∃x,sAt s i=some x∧dr s i=x::dr s (i+1):=by
 obtain ⟨x,a,b⟩:=zMm (l:=s) h0 h;refine ⟨x,?_,b⟩;simpa [sAt,lAt] using a
theorem ac_l (s:Str) (g:s.length≤1000000):∀(n:Nat) (a:zZA) (i:Int),0≤i→i≤s.length→(s.length:Int)<i+n →
  zaG s (s.length:Int) n a i=(acF (dr s i) a).bind fun q=>some (i+q.1,q.2)
 | 0,a,i,h0,h1,h2=>by omega
 | n + 1,a,i,h0,h1,h2=>by
  unfold zaG
  by_cases h:i<s.length
  ·obtain ⟨x,k,j⟩:=dr_c h0 h;rw [if_pos (by simpa using h),k,j]
   have f:zi i 1=some (i+1):=by simp [zi,inI]; omega
   show (acT a x).bind _=((acT a x).bind _).bind _
   cases hx:acT a x with
   | none=>rfl
   | some r =>
    obtain ⟨d,e,b⟩:=r;show (if d=true then _ else _)=(if d=true∨e≠0 then _ else _:Option _).bind _;unfold zc6
    cases d with
    | true =>
     rw [if_pos rfl,if_pos rfl,if_pos (.inl rfl),f]; rfl
    | false =>
     by_cases c:e=0
     ·subst c;rw [if_neg Bool.false_ne_true,if_neg (by simp),if_neg (by simp),f];show zaG s _ n (acN (false,0,b)) (i+1)=_;rw [ac_l s g n _ (i+1) (by omega) (by omega) (by omega)]
      cases acF (dr s (i+1)) (acN (false,0,b)) with
      | none=>rfl
      | some q=>show some (i+1+q.1,q.2)=some (i+(q.1+1),q.2); congr 2; omega
     ·rw [if_neg Bool.false_ne_true,if_pos (by simpa using c),if_pos (.inr c),f]; rfl
  ·have e:dr s i=[]:=List.drop_eq_nil_of_le (by omega);rw [if_neg (by simpa using h),e];show some ((s.length:Int),_)=some (i+0,_)
   congr 2; omega
theorem ac_f {s:Str} (b:s.length≤1000000) {a:zZA} (h:a.z0K=0) (h2:a.f_whole=false):zaT a s=acF s a:=by
 unfold zaT;rw [if_neg (by simp [h]),if_neg (by simp [h2]),ac_l s b fuel a 0 (by omega) (by omega) (by simp [fuel]; omega)];show (acF s a).bind _=_
 cases acF s a with
 | none=>rfl
 | some q=>show some (0+q.1,q.2)=some q; rw [Int.zero_add]
theorem ac_n:∀(s:List UInt8) (a:zZA) (q:Int × Bool × Int × zZA),acF s a=some q→0≤q.1∧q.1≤s.length∧(q.2.1=false→q.2.2.1=0→q.1=s.length∧(q.2.2.2.z0K=0∨s=[])∧(q.2.2.2.f_whole=false∨s=[]))
 | [],a,q,h=>by cases h; simp
 | x::s,a,q,h=>by
  obtain ⟨r,m,h⟩:=bi h
  split at h
  ·rename_i c
   cases h;refine ⟨by omega,by simp; omega,fun h1 h2=>?_⟩
   rcases c with c|c
   ·rw [c] at h1; cases h1
   ·exact absurd h2 c
  ·rename_i c
   obtain ⟨p,b,h⟩:=bi h;cases h;obtain ⟨k,n,g⟩:=ac_n s _ p b
   have j:r.1=false:=by cases e:r.1<;>simp_all
   have i:r.2.1=0:=by
    by_cases e:r.2.1=0
    ·exact e
    ·exact absurd (.inr e) c
   refine ⟨by show 0≤p.1+1; omega,by show p.1+1≤_; simp; omega,fun h1 h2=>?_⟩;obtain ⟨l,f,d⟩:=g h1 h2;refine ⟨by show p.1+1=_; simp; omega,?_,?_⟩
   ·rcases f with f|rfl
    ·exact .inl f
    ·cases b; exact .inl i
   ·rcases d with d|rfl
    ·exact .inl d
    ·cases b; exact .inl j
end Go.Dm
end
section
namespace Go.Dm
variable {d:zZp}
def dkE (d:zZp):zZp:=⟨d.z0E,4,[],d.zZB,d.z0P,d.z0J,d.z0B⟩
noncomputable def dkF:List UInt8→zZp→Option (Int × Str × Bool × Int × zZp)
 | [],d=>some (0,[],false,0,d)
 | x::s,d=>(zt d [x]).bind fun r=>if r.2.2.1=true∨r.2.2.2.1≠0 then some (1,r.2.1,r.2.2.1,r.2.2.2.1,dkE r.2.2.2.2) else (dkF s r.2.2.2.2).bind fun q=>some (q.1+1,r.2.1++q.2.1,q.2.2)
def dkA (d:zZp) (k:Int):zZp:=if k=0 then d else if d.zZB=k then ⟨d.z0E,2,d.z0I,2,d.z0P,d.z0J,d.z0B⟩ else ⟨d.z0E,d.zZ4,d.z0I,d.zZB-k,d.z0P,d.z0J,d.z0B⟩
theorem dk_0 (h:d.zZ4≠1) (x:UInt8) (s:Str):zt d (x::s)=zt d [x]:=by
 have c:(d.zZ4==1)=false:=by simpa using h
 have e:sAt (x::s) 0=sAt [x] 0:=by simp [sAt]
 unfold zt;rw [c,e]; rfl
theorem dk_1 (h:d.zZ4=1) (h1:1≤d.zZB) (h2:d.zZB≤1099511627776) {u:Str} (j:u≠[]) (k:u.length≤1000000) :
  zt d u=some (min d.zZB (u.length:Int),u.take (min d.zZB (u.length:Int)).toNat,false,0,dkA d (min d.zZB (u.length:Int))):=by
 have hp:1≤u.length:=zb5 u j
 have m0:1≤min d.zZB (u.length:Int):=by omega
 have i:¬ min d.zZB (u.length:Int)=0:=by omega
 have g:zbt d.zZB (min d.zZB (u.length:Int))=some (d.zZB-min d.zZB (u.length:Int)):=by simp [zbt,inI]; omega
 have f:sTo u (min d.zZB (u.length:Int))=some (u.take (min d.zZB (u.length:Int)).toNat):=by
  have a:0≤min d.zZB (u.length:Int):=by omega
  have b:min d.zZB (u.length:Int)≤u.length:=by omega
  unfold sTo; rw [if_pos ⟨a,b⟩]
 have e:((u.take (min d.zZB (u.length:Int)).toNat).length:Int)=min d.zZB (u.length:Int):=by simp; omega
 unfold zt zcD zbR;rw [if_pos (by simpa using h),g];show ((if _ then _ else _:Option _).bind _)=_;unfold dkA;rw [if_neg i]
 by_cases c:d.zZB=min d.zZB (u.length:Int)
 ·rw [if_pos (by rw [beq_iff_eq]; omega),if_pos c,f];show some (((u.take (min d.zZB (u.length:Int)).toNat).length:Int),_)=_;rw [e]
 ·rw [if_neg (by rw [beq_iff_eq]; omega),if_neg c,f];show some (((u.take (min d.zZB (u.length:Int)).toNat).length:Int),_)=_;rw [e]
theorem dkA_1 (h:d.zZB≠1):dkA d 1=⟨d.z0E,d.zZ4,d.z0I,d.zZB-1,d.z0P,d.z0J,d.z0B⟩:=by
 unfold dkA; rw [if_neg (by omega),if_neg h]
theorem dkA_t {k:Int} (f:0≤k) (g:1+k≤d.zZB):dkA (dkA d 1) k=dkA d (1+k):=by
 by_cases c:k=0
 ·subst c; simp [dkA]
 ·have b:d.zZB≠1:=by omega
  have e:¬ 1+k=0:=by omega
  rw [dkA_1 b];unfold dkA;rw [if_neg c,if_neg e]
  by_cases a:d.zZB=1+k
  ·rw [if_pos (show d.zZB-1=k by omega),if_pos a]
  ·rw [if_neg (show ¬ d.zZB-1=k by omega),if_neg a];show (⟨_,_,_,d.zZB-1-k,_,_,_⟩:zZp)=⟨_,_,_,d.zZB-(1+k),_,_,_⟩;rw [show d.zZB-1-k=d.zZB-(1+k) by omega]
theorem dk_d:∀(u t:List UInt8) (d:zZp),d.zZ4=1→1≤d.zZB→d.zZB≤1099511627776→(u.length:Int)≤d.zZB→dkF (u++t) d=(dkF t (dkA d u.length)).bind fun q=>some ((u.length:Int)+q.1,u++q.2.1,q.2.2)
 | [],t,d,_,_,_,_=>by
  show dkF t d=(dkF t d).bind _
  cases dkF t d with
  | none=>rfl
  | some q=>show some q=some (((0:Nat):Int)+q.1,[]++q.2.1,q.2.2); simp
 | x::u,t,d,h,h1,h2,a=>by
  rw [List.length_cons] at a;show (zt d [x]).bind _=_;rw [dk_1 h h1 h2 (u:=[x]) (by simp) (by simp)]
  have e:min d.zZB (([x]:Str).length:Int)=1:=by simp; omega
  rw [e];show (if (false=true∨(0:Int)≠0) then some ((1:Int),([x]:Str),false,(0:Int),dkE (dkA d 1)) else (dkF (u++t) (dkA d 1)).bind fun q=>some (q.1+1,[x]++q.2.1,q.2.2))=_;rw [if_neg (by simp)]
  have fin:((dkF t (dkA d (1+(u.length:Int)))).bind fun q=>some ((u.length:Int)+q.1,u++q.2.1,q.2.2)).bind (fun q=>some (q.1+1,[x]++q.2.1,q.2.2))=(dkF t (dkA d ((x::u).length:Int))).bind fun q=>some (((x::u).length:Int)+q.1,(x::u)++q.2.1,q.2.2):=by
   have f:((x::u).length:Int)=1+(u.length:Int):=by simp; omega
   rw [f]
   cases dkF t (dkA d (1+(u.length:Int))) with
   | none=>rfl
   | some q =>
    show some ((u.length:Int)+q.1+1,[x]++(u++q.2.1),q.2.2)=some (1+(u.length:Int)+q.1,(x::u)++q.2.1,q.2.2);rw [show (u.length:Int)+q.1+1=1+(u.length:Int)+q.1 by omega]; rfl
  cases u with
  | nil =>
   have g:(1+(([]:List UInt8).length:Int))=1:=rfl;rw [← fin,g];show (dkF t (dkA d 1)).bind _=((dkF t (dkA d 1)).bind _).bind _
   cases dkF t (dkA d 1) with
   | none=>rfl
   | some q=>show some (q.1+1,[x]++q.2.1,q.2.2)=some (((0:Nat):Int)+q.1+1,[x]++([]++q.2.1),q.2.2); simp
  | cons y v =>
   have i:2≤d.zZB:=by simp at a; omega
   have b:=dkA_1 (d:=d) (by omega)
   have c:(dkA d 1).zZ4=1:=by rw [b]; exact h
   have j:(dkA d 1).zZB=d.zZB-1:=by rw [b]
   rw [dk_d (y::v) t (dkA d 1) c (by omega) (by omega) (by omega),dkA_t (by omega) (by omega)];exact fin
theorem dk_T (h:Dn d∧Dg d) {s:Str} (h0:s≠[]) (b:s.length≤3000) {r:Int × Str × Bool × Int × zZp} (e:zt d s=some r):Dn r.2.2.2.2∧(r.2.2.1=false→r.2.2.2.1=0→Dg r.2.2.2.2):=by
 obtain ⟨c,a,h2⟩:=(inferInstance:T (zt d s) _ _).ok ⟨h.1,h.2,zb5 s h0,b⟩;rw [e] at a;cases a;exact ⟨h2.2.2.2.1,h2.2.2.2.2⟩
theorem zOh (s:Str) (n:Nat) (d:zZp) (i:Int) (t:Bool) (e:Int) (l:List UInt8) (h:(s.length:Int)≤i∨t=true∨e≠0):zq s (n+1) d i t e l=some (i,l,t,e,if t=true∨e≠0 then dkE d else d):=by
 have j (b:Bool) (f:b=false):zaJ (zq s n) d s i t e l b=some (i,l,t,e,if t=true∨e≠0 then dkE d else d):=by
  subst f;unfold zaJ zbT zbS;rw [if_neg (by simp)]
  cases t with
  | true=>rw [if_pos rfl,if_pos rfl,if_pos (.inl rfl)]; rfl
  | false =>
   rw [if_neg (by simp)]
   by_cases c:e=0
   ·rw [if_neg (by simp [c]),if_neg (by simp [c])]
   ·rw [if_pos (by simpa using c),if_pos (.inr c)]; rfl
 unfold zq
 split
 ·rename_i hi
  split
  ·rename_i a
   refine j _ ?_
   rcases h with h|h|h
   ·simp at hi; omega
   ·rw [h] at a; cases a
   ·simpa using h
  ·exact j _ rfl
 ·exact j _ rfl
end Go.Dm
end
section
namespace Go.Dm
theorem dk_l (s:Str) (w:s.length≤3000):∀(n:Nat) (d:zZp) (i:Int) (l:List UInt8),Dn d∧Dg d→0≤i→i≤s.length→(s.length:Int)<i+n→(l.length:Int)≤i →
  zq s n d i false 0 l=(dkF (dr s i) d).bind fun q=>some (i+q.1,l++q.2.1,q.2.2)
 | 0,d,i,l,hd,h0,h1,h2,C=>by omega
 | n + 1,d,i,l,hd,h0,h1,h2,C=>by
  by_cases h:i<s.length
  ·obtain ⟨x,P,y⟩:=dr_c h0 h
   have G:zar s i=some (dr s i):=by unfold zar; rw [if_pos ⟨h0,h1⟩]; rfl
   have O:((dr s i).length:Int)=s.length-i:=zaV h0 h1;unfold zq;rw [if_pos (by simpa using h),if_pos (by simp)];unfold zaJ;rw [if_pos (by simp),G];show (zt d (dr s i)).bind _=_
   by_cases c:d.zZ4=1
   ·obtain ⟨o,p⟩:=hd.2.2.2 (.inl c)
    have a:dr s i≠[]:=by rw [y]; simp
    have hp:1≤(dr s i).length:=zb5 _ a;rw [dk_1 c o p a (by omega)];have f:=dk_T hd a (by omega) (dk_1 c o p a (by omega))
    generalize J:min d.zZB ((dr s i).length:Int)=m at *
    have H:1≤m:=by omega
    have M:m≤d.zZB:=by omega
    have K:m≤(dr s i).length:=by omega
    have tl:(((dr s i).take m.toNat).length:Int)=m:=by simp; omega
    have j:((dr s i).take m.toNat).length=m.toNat:=by simp; omega
    have ft:zf l.length ((dr s i).take m.toNat).length 1=true:=zAZ (by omega) (by omega)
    have t:zi i m=some (i+m):=by simp [zi,inI]; omega
    show (if zf l.length ((dr s i).take m.toNat).length 1=true then (zi i m).bind fun g=>zq s n (dkA d m) g false 0 (l++(dr s i).take m.toNat) else none)=_;rw [if_pos ft,t];show zq s n (dkA d m) (i+m) false 0 (l++(dr s i).take m.toNat)=_
    have E:dr s (i+m)=(dr s i).drop m.toNat:=by
     unfold dr; rw [List.drop_drop]; congr 1; omega
    rw [dk_l s w n (dkA d m) (i+m) _ ⟨f.1,f.2 rfl rfl⟩ (by omega) (by omega) (by omega) (by rw [List.length_append,j]; omega),E];have b:=dk_d ((dr s i).take m.toNat) ((dr s i).drop m.toNat) d c o p (by omega);rw [List.take_append_drop,tl] at b;rw [b]
    cases dkF ((dr s i).drop m.toNat) (dkA d m) with
    | none=>rfl
    | some q =>
     show some (i+m+q.1,(l++(dr s i).take m.toNat)++q.2.1,q.2.2)=some (i+(m+q.1),l++((dr s i).take m.toNat++q.2.1),q.2.2);rw [List.append_assoc,show i+m+q.1=i+(m+q.1) by omega]
   ·rw [y,dk_0 c];show _=((zt d [x]).bind _).bind _
    cases e3:zt d [x] with
    | none=>rfl
    | some r =>
     have f:=dk_T hd (s:=[x]) (by simp) (by simp) e3;obtain ⟨L,B,N,F,I,_⟩:=(inferInstance:T (zt d [x]) _ _).ok ⟨hd.1,hd.2,by simp,by simp⟩;rw [e3] at B;cases B
     have D:r.1=1:=by simp at F; omega
     have ft:zf l.length r.2.1.length 1=true:=zAZ (by omega) (by omega)
     have t:zi i r.1=some (i+1):=by rw [D]; simp [zi,inI]; omega
     show (if zf l.length r.2.1.length 1=true then (zi i r.1).bind fun g=>zq s n r.2.2.2.2 g r.2.2.1 r.2.2.2.1 (l++r.2.1) else none)=(if r.2.2.1=true∨r.2.2.2.1≠0 then some ((1:Int),r.2.1,r.2.2.1,r.2.2.2.1,dkE r.2.2.2.2) else (dkF (dr s (i+1)) r.2.2.2.2).bind fun q=>some (q.1+1,r.2.1++q.2.1,q.2.2)).bind fun q=>some (i+q.1,l++q.2.1,q.2.2);rw [if_pos ft,t];show zq s n r.2.2.2.2 (i+1) r.2.2.1 r.2.2.2.1 (l++r.2.1)=_
     by_cases k:r.2.2.1=true∨r.2.2.2.1≠0
     ·obtain ⟨v,rfl⟩:∃v,n=v+1:=⟨n-1,by omega⟩;rw [zOh s v _ _ _ _ _ (.inr k),if_pos k,if_pos k]; rfl
     ·have z:r.2.2.1=false:=by cases u:r.2.2.1<;>simp_all
      have A:r.2.2.2.1=0:=by
       by_cases u:r.2.2.2.1=0
       ·exact u
       ·exact absurd (.inr u) k
      rw [if_neg k,z,A,dk_l s w n r.2.2.2.2 (i+1) _ ⟨f.1,f.2 z A⟩ (by omega) (by omega) (by omega) (by rw [List.length_append]; omega)]
      cases dkF (dr s (i+1)) r.2.2.2.2 with
      | none=>rfl
      | some q =>
       show some (i+1+q.1,(l++r.2.1)++q.2.1,q.2.2)=some (i+(q.1+1),l++(r.2.1++q.2.1),q.2.2);rw [List.append_assoc,show i+1+q.1=i+(q.1+1) by omega]
  ·have e:dr s i=[]:=List.drop_eq_nil_of_le (by omega);rw [zOh s n d i false 0 l (.inl (by omega)),e,if_neg (by simp)];show some (i,l,false,0,d)=some (i+0,l++[],false,0,d);simp
end Go.Dm
end
section
namespace Go.Dm
noncomputable def ekF (k:Nat):Nat→List UInt8→Option (List Str × Str)
 | 0,b=>some ([],b)
 | n+1,b=>if k≤b.length then (zaI (b.take k)).bind fun p=>(ekF k n (b.drop k)).bind fun q=>some (p::q.1,q.2) else some ([],b)
theorem ek_n {k:Nat} (a:1≤k):∀(n m:Nat) (b:List UInt8),b.length≤n→b.length≤m→ekF k n b=ekF k m b
 | 0,m,b,h,h2=>by
  cases m with
  | zero=>rfl
  | succ m =>
   unfold ekF; rw [if_neg (by omega)]
 | n+1,m,b,h,h2=>by
  cases m with
  | zero=>unfold ekF; rw [if_neg (by omega)]
  | succ m =>
   unfold ekF
   by_cases c:k≤b.length
   ·rw [if_pos c,if_pos c,ek_n a n m (b.drop k) (by rw [List.length_drop]; omega) (by rw [List.length_drop]; omega)]
   ·rw [if_neg c,if_neg c]
theorem zNa {k:Nat} (d:1≤k):∀(n:Nat) (b t:List UInt8),b.length≤n→ekF k (n+t.length) (b++t)=(ekF k n b).bind fun q=>(ekF k (n+t.length) (q.2++t)).bind fun p=>some (q.1++p.1,p.2)
 | 0,b,t,h=>by
  have:b=[]:=List.length_eq_zero_iff.1 (by omega);subst this;show ekF k (0+t.length) t=(ekF k (0+t.length) t).bind _;cases ekF k (0+t.length) t<;>rfl
 | n + 1,b,t,h=>by
  by_cases c:k≤b.length
  ·have i:ekF k (n+1+t.length) (b++t)=(zaI (b.take k)).bind fun p=>(ekF k (n+t.length) (b.drop k++t)).bind fun q=>some (p::q.1,q.2):=by
    rw [show n+1+t.length=(n+t.length)+1 by omega]
    conv=>lhs; unfold ekF
    rw [if_pos (by rw [List.length_append]; omega),List.take_append_of_le_length c,List.drop_append_of_le_length c]
   have a:ekF k (n+1) b=(zaI (b.take k)).bind fun p=>(ekF k n (b.drop k)).bind fun q=>some (p::q.1,q.2):=by
    conv=>lhs; unfold ekF
    rw [if_pos c]
   rw [i,a,zNa d n (b.drop k) t (by rw [List.length_drop]; omega)]
   cases zaI (b.take k) with
   | none=>rfl
   | some p =>
    show ((ekF k n (b.drop k)).bind _).bind _=((ekF k n (b.drop k)).bind _).bind _
    cases hq:ekF k n (b.drop k) with
    | none=>rfl
    | some q =>
     have j:q.2.length≤n:=by
      have:∀(n:Nat) (b:List UInt8) (q:List Str × Str),ekF k n b=some q→q.2.length≤b.length:=fun n=>by
       induction n with
       | zero=>intro b q h; cases h; exact Nat.le_refl _
       | succ n f =>
        intro b q h;unfold ekF at h
        split at h
        ·obtain ⟨p,_,h⟩:=bi h;obtain ⟨g,e,h⟩:=bi h;cases h;have:=f _ _ e;rw [List.length_drop] at this;show g.2.length≤_;omega
        ·cases h; exact Nat.le_refl _
      have:=this _ _ _ hq;rw [List.length_drop] at this;omega
     show ((ekF k (n+t.length) (q.2++t)).bind _).bind _=(ekF k (n+1+t.length) (q.2++t)).bind _;rw [ek_n d (n+1+t.length) (n+t.length) (q.2++t) (by rw [List.length_append]; omega) (by rw [List.length_append]; omega)]
     cases ekF k (n+t.length) (q.2++t) with
     | none=>rfl
     | some r=>rfl
  ·have a:ekF k (n+1) b=some ([],b):=by
    unfold ekF; rw [if_neg c]
   rw [a];show _=(ekF k (n+1+t.length) (b++t)).bind _;cases ekF k (n+1+t.length) (b++t)<;>rfl
end Go.Dm
end
section
namespace Go.Dm
theorem ek_l {k:Nat} (d:1≤k) (a:Bool):∀(n:Nat) (b:Str) (l:List Str),b.length<n→l.length+b.length≤1000000 →
  zaS n ⟨(k:Int),b,a⟩ l=(ekF k n b).bind fun q=>(zaM [] (l++q.1)).bind fun o=>some (o,0,(⟨(k:Int),q.2,a⟩:zZG))
 | 0,b,l,h,h2=>by omega
 | n + 1,b,l,h,h2=>by
  unfold zaS ekF
  by_cases c:k≤b.length
  ·have e:sTo b (k:Int)=some (b.take k):=by unfold sTo; rw [if_pos ⟨by omega,by omega⟩]; rfl
   have f:zar b (k:Int)=some (b.drop k):=by unfold zar; rw [if_pos ⟨by omega,by omega⟩]; rfl
   rw [if_pos c];show (if decide ((k:Int)≤(b.length:Int))=true then (sTo b (k:Int)).bind _ else _)=_;rw [if_pos (by simpa using c),e];show (zaI (b.take k)).bind _=((zaI (b.take k)).bind _).bind _
   cases zaI (b.take k) with
   | none=>rfl
   | some p =>
    have ft:zf l.length ([p]:List Str).length 16=true:=zAZ (by simp; omega) (by simp; omega);show (if zf l.length ([p]:List Str).length 16=true then (zar b (k:Int)).bind _ else none)=_;rw [if_pos ft,f];show zaS n ⟨(k:Int),b.drop k,a⟩ (l++[p])=((ekF k n (b.drop k)).bind fun q=>some (p::q.1,q.2)).bind _;rw [ek_l d a n (b.drop k) (l++[p]) (by rw [List.length_drop]; omega) (by rw [List.length_drop,List.length_append]; simp; omega)]
    cases ekF k n (b.drop k) with
    | none=>rfl
    | some q =>
     show (zaM [] (l++[p]++q.1)).bind _=(zaM [] (l++(p::q.1))).bind _;rw [List.append_assoc]; rfl
  ·rw [if_neg c];show (if decide ((k:Int)≤(b.length:Int))=true then _ else (zaM [] l).bind _)=(zaM [] (l++[])).bind _;rw [if_neg (by simpa using c),List.append_nil]
end Go.Dm
end
section
namespace Go.Dm
variable {s:Str} {b:zZK} {w:zZz}
theorem jn:∀(l:List (List UInt8)),Go.Lib.join l []=l.flatten
 | []=>rfl
 | [x]=>by simp [Go.Lib.join,List.intercalate]
 | x::y::l=>by
  have:=jn (y::l)
  unfold Go.Lib.join at *
  simp [List.intercalate] at *
  rw [this]
theorem dk_F {d:zZp} (a:s.length≤3000) (h:Dn d∧Dg d):za6 d s=dkF s d:=by
 unfold za6;rw [if_neg (by simpa using h.2.2.1),dk_l s a fuel d 0 [] h (by omega) (by omega) (by simp [fuel]; omega) (by simp)];show (dkF s d).bind _=_
 cases dkF s d with
 | none=>rfl
 | some q=>show some (0+q.1,[]++q.2.1,q.2.2)=some q; rw [Int.zero_add]; rfl
def Lb (b:zZK):Prop:=b.z0n=false∧b.z0K=false∧(b.zZY.Kind=3→∃d,b.Decoder=some d∧Dn d∧Dg d)∧(b.zZY.Kind=2→1≤b.zZB∧b.zZB≤1099511627776)
theorem bd_F {d:zZp} (h1:b.z0n=false) (h2:b.z0K=false) (f:b.zZY.Kind=3) (e:b.Decoder=some d) (a:Dn d∧Dg d) (c:s.length≤3000):zo b s=(dkF s d).bind fun q=>some (q.1,q.2.1,q.2.2.1,q.2.2.2.1,(⟨some q.2.2.2.2,b.zZY,b.zZB,q.2.2.1, !(q.2.2.2.1==0)⟩:zZK)):=by
 unfold zo;rw [if_neg (by rw [h1]; simp),if_neg (by rw [h2]; simp),if_pos (by rw [f]; rfl),e];show ((za6 d s).bind _)=_;rw [dk_F c a]; rfl
theorem bd_L (h1:b.z0n=false) (h2:b.z0K=false) (a:b.zZY.Kind=2) (f:0≤b.zZB) (d:b.zZB≤1099511627776) (e:s.length≤3000):zo b s=some (min (s.length:Int) b.zZB,s.take (min (s.length:Int) b.zZB).toNat,b.zZB-min (s.length:Int) b.zZB==0,0,(⟨b.Decoder,b.zZY,b.zZB-min (s.length:Int) b.zZB,b.zZB-min (s.length:Int) b.zZB==0,b.z0K⟩:zZK)):=by
 have c:zbt b.zZB (min (s.length:Int) b.zZB)=some (b.zZB-min (s.length:Int) b.zZB):=by simp [zbt,inI]; omega
 have a2:sTo s (min (s.length:Int) b.zZB)=some (s.take (min (s.length:Int) b.zZB).toNat):=by unfold sTo; rw [if_pos ⟨by omega,by omega⟩]
 unfold zo;rw [if_neg (by rw [h1]; simp),if_neg (by rw [h2]; simp),if_neg (by rw [a]; decide),if_pos (by rw [a]; rfl),c];show ((sTo s (min (s.length:Int) b.zZB)).bind _)=_;rw [a2]; rfl
theorem bd_C (h1:b.z0n=false) (h2:b.z0K=false) (c:b.zZY.Kind≠3) (a:b.zZY.Kind≠2):zo b s=some ((s.length:Int),s,false,0,b):=by
 have a2:sTo s (s.length:Int)=some s:=by unfold sTo; rw [if_pos ⟨by omega,by omega⟩]; simp
 unfold zo;rw [if_neg (by rw [h1]; simp),if_neg (by rw [h2]; simp),if_neg (by simpa using c),if_neg (by simpa using a)];show ((sTo s (s.length:Int)).bind _)=_;rw [a2, ← h1]; rfl
def B1 (b:zZK) (x:UInt8) (r:Int × Str × Bool × Int × zZK):Prop:=r.1=1∧r.2.2.2.2.zZY=b.zZY∧(b.zZY.Kind=2→r.2.1.length=1∧r.2.2.2.2.zZB=b.zZB-1) ∧
 ((r.2.2.1=true∨r.2.2.2.1≠0)∧(∀s,s.length≤2999→zo b (x::s)=some r)∨r.2.2.1=false∧r.2.2.2.1=0∧Lb r.2.2.2.2∧∀s,s.length≤2999→zo b (x::s)=(zo r.2.2.2.2 s).bind fun q=>some (q.1+1,r.2.1++q.2.1,q.2.2))
theorem bd_1 (h:Lb b) {x:UInt8} {r:Int × Str × Bool × Int × zZK} (e:zo b [x]=some r):B1 b x r:=by
 obtain ⟨h1,h2,p,A⟩:=h
 by_cases g:b.zZY.Kind=3
 ·obtain ⟨d,hd,hn⟩:=p g
  have a:b.zZY.Kind≠2:=by omega
  have F:=fun (s:Str) (f:s.length≤3000)=>bd_F (s:=s) h1 h2 g hd hn f;rw [F [x] (by simp)] at e;obtain ⟨q,B,e⟩:=bi e;cases e;have o:(zt d [x]).bind (fun r=>if r.2.2.1=true∨r.2.2.2.1≠0 then some ((1:Int),r.2.1,r.2.2.1,r.2.2.2.1,dkE r.2.2.2.2) else (dkF [] r.2.2.2.2).bind fun q=>some (q.1+1,r.2.1++q.2.1,q.2.2))=some q:=B;obtain ⟨r0,m,j⟩:=bi o
  have G:∀s,dkF (x::s) d=if r0.2.2.1=true∨r0.2.2.2.1≠0 then some ((1:Int),r0.2.1,r0.2.2.1,r0.2.2.2.1,dkE r0.2.2.2.2) else (dkF s r0.2.2.2.2).bind fun q=>some (q.1+1,r0.2.1++q.2.1,q.2.2):=fun s=>by
   show (zt d [x]).bind _=_;rw [m]; rfl
  by_cases st:r0.2.2.1=true∨r0.2.2.2.1≠0
  ·rw [if_pos st] at j;cases j;refine ⟨rfl,rfl,fun c=>absurd c a,.inl ⟨st,fun s f=>?_⟩⟩;rw [F (x::s) (by simp; omega),G s,if_pos st]; rfl
  ·rw [if_neg st] at j;cases j
   have v:r0.2.2.1=false:=by cases l:r0.2.2.1<;>simp_all
   have w:r0.2.2.2.1=0:=by
    by_cases l:r0.2.2.2.1=0
    ·exact l
    ·exact absurd (.inr l) st
   have n:=dk_T hn (s:=[x]) (by simp) (by simp) m;have i:Dn r0.2.2.2.2∧Dg r0.2.2.2.2:=⟨n.1,n.2 v w⟩;refine ⟨rfl,rfl,fun c=>absurd c a,.inr ⟨rfl,rfl,⟨rfl,rfl,fun _=>⟨_,rfl,i⟩,fun c=>absurd c a⟩,fun s f=>?_⟩⟩;rw [F (x::s) (by simp; omega),G s,if_neg st,bd_F (b:=⟨some r0.2.2.2.2,b.zZY,b.zZB,false, !((0:Int)==0)⟩) (s:=s) rfl rfl g rfl i (by omega)]
   cases dkF s r0.2.2.2.2 with
   | none=>rfl
   | some q=>show some (q.1+1,r0.2.1++q.2.1,_)=some (q.1+1,(r0.2.1++[])++q.2.1,_); rw [List.append_nil]
 ·by_cases a:b.zZY.Kind=2
  ·obtain ⟨C,t⟩:=A a;have F:=fun (s:Str) (f:s.length≤3000)=>bd_L (s:=s) h1 h2 a (by omega) t f
   have u:min ((([x]:Str)).length:Int) b.zZB=1:=by simp; omega
   rw [F [x] (by simp),u] at e;cases e;refine ⟨rfl,rfl,fun _=>⟨rfl,rfl⟩,?_⟩
   by_cases st:b.zZB=1
   ·have z:(b.zZB-1==0)=true:=by simp [st]
    refine .inl ⟨.inl z,fun s f=>?_⟩
    have k:min ((x::s).length:Int) b.zZB=1:=by rw [List.length_cons]; omega
    rw [F (x::s) (by simp; omega),k]; rfl
   ·have z:(b.zZB-1==0)=false:=by rw [beq_eq_false_iff_ne]; omega
    refine .inr ⟨z,rfl,⟨z,h2,fun c=>absurd c g,fun _=>⟨by show 1≤b.zZB-1; omega,by show b.zZB-1≤_; omega⟩⟩,fun s f=>?_⟩
    have k:min ((x::s).length:Int) b.zZB=min (s.length:Int) (b.zZB-1)+1:=by rw [List.length_cons]; omega
    rw [F (x::s) (by simp; omega),k,bd_L (b:=⟨b.Decoder,b.zZY,b.zZB-1,b.zZB-1==0,b.z0K⟩) (s:=s) z h2 a (by show 0≤b.zZB-1; omega) (by show b.zZB-1≤_; omega) (by omega)]
    have m0:0≤min (s.length:Int) (b.zZB-1):=by omega
    have y:(x::s).take (min (s.length:Int) (b.zZB-1)+1).toNat=[x]++s.take (min (s.length:Int) (b.zZB-1)).toNat:=by
     rw [show (min (s.length:Int) (b.zZB-1)+1).toNat=(min (s.length:Int) (b.zZB-1)).toNat+1 by omega]; rfl
    have t2:b.zZB-(min (s.length:Int) (b.zZB-1)+1)=b.zZB-1-min (s.length:Int) (b.zZB-1):=by omega
    rw [y,t2]; rfl
  ·have F:=fun (s:Str)=>bd_C (s:=s) h1 h2 g a;rw [F [x]] at e;cases e;refine ⟨rfl,rfl,fun c=>absurd c a,.inr ⟨rfl,rfl,⟨h1,h2,fun c=>absurd c g,fun c=>absurd c a⟩,fun s f=>?_⟩⟩;rw [F (x::s),F s];show some (((x::s).length:Int),x::s,_)=some ((s.length:Int)+1,[x]++s,_);rw [List.length_cons]; rfl
def Lw (w:zZz):Prop:=w.z0n=false∧(w.zZY.Kind=3→∃c,w.Encoder=some c∧c.z0n=false∧1≤c.z0H∧c.z0H≤65536∧(c.zZ6.length:Int)<c.z0H)
theorem ek_s {k:Nat} (f:1≤k) (d:k≤65536):∀(n:Nat) (b:List UInt8) (q:List Str × Str),ekF k n b=some q→sl q.1≤70*b.length∧q.1.length≤b.length∧(b.length≤n→q.2.length<k)
 | 0,b,q,h=>by cases h; exact ⟨by simp [sl],by simp,fun c=>by show b.length<k; omega⟩
 | n+1,b,q,h=>by
  unfold ekF at h
  split at h
  ·rename_i i
   obtain ⟨p,l,h⟩:=bi h;obtain ⟨e,g,h⟩:=bi h;cases h;obtain ⟨j,a2,a3⟩:=ek_s f d n (b.drop k) e g;rw [List.length_drop] at j a2 a3;obtain ⟨m,a,hp⟩:=(inferInstance:T (zaI (b.take k)) _ _).ok (show (b.take k).length<1000000 by rw [List.length_take]; omega);rw [l] at a;cases a;rw [List.length_take] at hp;refine ⟨?_,?_,fun c=>a3 (by omega)⟩
   ·show p.length+sl e.1≤_;omega
   ·show e.1.length+1≤_;omega
  ·rename_i i
   cases h;exact ⟨by simp [sl],by simp,fun _=>by show b.length<k; omega⟩
theorem qj {l:List Str} (h:sl l+10*l.length≤100000000000000):zaM [] l=some l.flatten:=by
 obtain ⟨r,e,h1⟩:=(inferInstance:T (zaM [] l) _ _).ok ⟨by simp,h⟩;rw [e,h1.2,jn]
theorem ec_F {c:zZG} {k:Nat} (h1:w.z0n=false) (h2:w.zZY.Kind=3) (l:w.Encoder=some c) (i:c.z0n=false) (g:c.z0H=(k:Int)) (b:1≤k) (d:k≤65536) {s:Str} (o:c.zZ6.length+s.length≤100000) :
  zk w s=(ekF k (c.zZ6++s).length (c.zZ6++s)).bind fun q=>some (q.1.flatten,0,(⟨some ⟨(k:Int),q.2,false⟩,w.zZY,w.zZB,false⟩:zZz)):=by
 have f:zci c.zZ6 s=some (c.zZ6++s):=by unfold zci; rw [if_pos (by omega)]
 have h:(c.zZ6++s).length≤100000:=by rw [List.length_append]; omega
 obtain ⟨sz,a,m⟩:=c
 change m=false at i
 change sz=(k:Int) at g
 subst i; subst g
 have e:zbr ⟨(k:Int),a,false⟩ s=(ekF k (a++s).length (a++s)).bind fun q=>some (q.1.flatten,0,(⟨(k:Int),q.2,false⟩:zZG)):=by
  have j:1000000≤fuel:=by simp [fuel]
  have h:(a++s).length≤100000:=h;have f:zci a s=some (a++s):=f;unfold zbr zbB;generalize fuel=n at j ⊢;rw [if_neg (by simp)];simp only [Option.bind_some];rw [if_neg (by simp),f];simp only [Option.bind_some];rw [ek_l b false n (a++s) [] (by omega) (by simp only [List.length_nil]; omega),ek_n b n (a++s).length (a++s) (by omega) (Nat.le_refl _)]
  cases hq:ekF k (a++s).length (a++s) with
  | none=>rfl
  | some q =>
   obtain ⟨p,r,_⟩:=ek_s b d _ _ _ hq;show (zaM [] ([]++q.1)).bind _=_;rw [List.nil_append,qj (by omega)]; rfl
 unfold zk za5;rw [if_neg (by rw [h1]; simp)];simp only [Option.bind_some];rw [if_neg (by simp),if_pos (by rw [h2]; rfl),l];show ((zbr ⟨(k:Int),a,false⟩ s).bind _)=_;rw [e,h1];cases ekF k (a++s).length (a++s)<;>rfl
theorem wr_L (h1:w.z0n=false) (h2:w.zZY.Kind=1∨w.zZY.Kind=2) {s:Str} (b:(s.length:Int)≤w.zZB) (c:w.zZB≤1099511627776):zk w s=some (s,0,(⟨w.Encoder,w.zZY,w.zZB-s.length,w.z0n⟩:zZz)):=by
 have a:zbt w.zZB (s.length:Int)=some (w.zZB-s.length):=by simp [zbt,inI]; omega
 have j:zbD w s true=some (s,0,(⟨w.Encoder,w.zZY,w.zZB-s.length,w.z0n⟩:zZz)):=by
  unfold zbD;rw [if_pos rfl,if_neg (by simpa using b),a]; rfl
 unfold zk za5;rw [if_neg (by rw [h1]; simp)];simp only [Option.bind_some];rw [if_neg (by simp),if_neg (by rcases h2 with h2|h2<;>rw [h2]<;>decide)]
 rcases h2 with h2|h2
 ·rw [if_pos (by rw [h2]; rfl),j]
 ·rw [if_neg (by rw [h2]; decide),h2];exact j
theorem wr_C (h1:w.z0n=false) (h2:w.zZY.Kind≠1) (b:w.zZY.Kind≠2) (a:w.zZY.Kind≠3) {s:Str}:zk w s=some (s,0,w):=by
 unfold zk za5;rw [if_neg (by rw [h1]; simp)];simp only [Option.bind_some];rw [if_neg (by simp),if_neg (by simpa using a),if_neg (by simpa using h2)]
 have:(w.zZY.Kind==2)=false:=by simpa using b
 rw [this]; rfl
theorem wr_app (h:Lw w) {a b:Str} (D:a.length≤3000) (K:b.length≤3000) (y:w.zZY.Kind=1∨w.zZY.Kind=2→((a.length+b.length:Nat):Int)≤w.zZB∧w.zZB≤1099511627776) {r:Str × Int × zZz} (e:zk w a=some r) :
  Lw r.2.2∧r.2.2.zZY=w.zZY∧(w.zZY.Kind=1∨w.zZY.Kind=2→r.2.2.zZB=w.zZB-a.length)∧zk w (a++b)=(zk r.2.2 b).bind fun q=>some (r.1++q.1,q.2):=by
 obtain ⟨h1,h2⟩:=h
 by_cases f:w.zZY.Kind=3
 ·obtain ⟨c,B,x,E,I,J⟩:=h2 f;obtain ⟨k,u⟩:∃k:Nat,c.z0H=(k:Int):=⟨c.z0H.toNat,by omega⟩;have F:=fun (s:Str) (t:c.zZ6.length+s.length≤100000)=>ec_F h1 f B x u (by omega) (by omega) t;rw [F a (by omega)] at e;obtain ⟨q,l,e⟩:=bi e;cases e;obtain ⟨s1,s2,o⟩:=ek_s (k:=k) (by omega) (by omega) _ _ _ l;have o:=o (Nat.le_refl _);refine ⟨⟨rfl,fun _=>⟨_,rfl,rfl,by show (1:Int)≤(k:Int); omega,by show (k:Int)≤_; omega,by show (q.2.length:Int)<(k:Int); omega⟩⟩,rfl,fun c=>by omega,?_⟩;have G:=ec_F (w:=⟨some ⟨(k:Int),q.2,false⟩,w.zZY,w.zZB,false⟩) (c:=⟨(k:Int),q.2,false⟩) (k:=k) rfl f rfl rfl rfl (by omega) (by omega) (s:=b) (by show q.2.length+b.length≤_; omega);rw [F (a++b) (by rw [List.length_append]; omega),G];have ap:=zNa (k:=k) (by omega) (c.zZ6++a).length (c.zZ6++a) b (Nat.le_refl _);rw [l] at ap;have ap:ekF k ((c.zZ6++a).length+b.length) (c.zZ6++a++b)=(ekF k ((c.zZ6++a).length+b.length) (q.2++b)).bind fun p=>some (q.1++p.1,p.2):=ap
  have C:(q.2++b).length≤(c.zZ6++a).length+b.length:=by
   have j:∀(n:Nat) (z:List UInt8) (q:List Str × Str),ekF k n z=some q→q.2.length≤z.length:=fun n=>by
    induction n with
    | zero=>intro z q h; cases h; exact Nat.le_refl _
    | succ n v =>
     intro z q h;unfold ekF at h
     split at h
     ·obtain ⟨p,_,h⟩:=bi h;obtain ⟨A,e,h⟩:=bi h;cases h;have:=v _ _ e;rw [List.length_drop] at this;show A.2.length≤_;omega
     ·cases h; exact Nat.le_refl _
   have:=j _ _ _ l;rw [List.length_append]; omega
  rw [show c.zZ6++(a++b)=c.zZ6++a++b by rw [List.append_assoc],show (c.zZ6++a++b).length=(c.zZ6++a).length+b.length by rw [List.length_append],ap,ek_n (k:=k) (by omega) ((c.zZ6++a).length+b.length) (q.2++b).length (q.2++b) C (Nat.le_refl _)];show _=((ekF k (q.2++b).length (q.2++b)).bind _).bind _
  cases ekF k (q.2++b).length (q.2++b) with
  | none=>rfl
  | some p=>show some ((q.1++p.1).flatten,_)=some (q.1.flatten++p.1.flatten,_); rw [List.flatten_append]
 ·by_cases d:w.zZY.Kind=1∨w.zZY.Kind=2
  ·obtain ⟨H,m⟩:=y d;rw [wr_L h1 d (by omega) m] at e;cases e;refine ⟨⟨h1,fun c=>absurd c f⟩,rfl,fun _=>rfl,?_⟩;rw [wr_L h1 d (s:=a++b) (by rw [List.length_append]; omega) m,wr_L (w:=⟨w.Encoder,w.zZY,w.zZB-a.length,w.z0n⟩) h1 d (s:=b) (by show _≤w.zZB-a.length; omega) (by show w.zZB-a.length≤_; omega)];show some (a++b,0,_)=some (a++b,0,_);rw [List.length_append,show w.zZB-((a.length+b.length:Nat):Int)=w.zZB-a.length-b.length by omega]
  ·have g:w.zZY.Kind≠1:=fun c=>d (.inl c);have i:w.zZY.Kind≠2:=fun c=>d (.inr c);rw [wr_C h1 g i f] at e;cases e;refine ⟨⟨h1,fun c=>absurd c f⟩,rfl,fun c=>absurd c d,?_⟩;rw [wr_C h1 g i f,wr_C h1 g i f]; rfl
end Go.Dm
end
section
namespace Go.Dm
variable {g:zZk} {b:zZK} {a:zZA} {w:zZz}
def BW (b:zZK) (w:zZz):Prop:=Lb b∧Lw w∧(w.zZY.Kind=1∨w.zZY.Kind=2→b.zZY.Kind=2∧w.zZB=b.zZB)
def SdL (s:zZv):Prop:=(s.z0t=none∧∃a,s.Accum=some a∧a.z0K=0∧a.f_whole=false)∨∃b w,s.z0t=some b∧s.zZD=some w∧BW b w
theorem zNE {x:UInt8} {r:Bool × Int × zZA} (h:zch a x=some r):r.2.2.z0L=a.z0L:=by
 unfold zch at h
 split at h
 ·cases h; rfl
 split at h
 ·obtain ⟨d,_,h⟩:=bi h
  split at h
  ·cases h; rfl
  split at h
  ·cases h; rfl
  obtain ⟨e,_,h⟩:=bi h;obtain ⟨f,_,h⟩:=bi h;obtain ⟨g,b,h⟩:=bi h;cases h;unfold zeI at b
  split at b
  ·obtain ⟨c,_,b⟩:=bi b;cases b; rfl
  split at b
  ·obtain ⟨c,_,b⟩:=bi b;cases b; rfl
  ·obtain ⟨c,_,b⟩:=bi b;cases b; rfl
 ·cases h
theorem bd_o (h:Lb b) {s:Str} (a:s.length≤3000) {q:Int × Str × Bool × Int × zZK} (e:zo b s=some q):q.2.1.length≤3000∧(b.zZY.Kind=2→(q.2.1.length:Int)≤b.zZB):=by
 obtain ⟨h1,h2,j,l⟩:=h
 by_cases g:b.zZY.Kind=3
 ·obtain ⟨d,hd,hn⟩:=j g;rw [bd_F h1 h2 g hd hn a, ← dk_F a hn] at e;obtain ⟨r,m,e⟩:=bi e;cases e;obtain ⟨p,i,u,t,n,_⟩:=(inferInstance:T (za6 d s) _ _).ok ⟨⟨hn.1,.inr hn.2⟩,a⟩;rw [m] at i;cases i;exact ⟨by show r.2.1.length≤3000; omega,fun c=>by omega⟩
 ·by_cases f:b.zZY.Kind=2
  ·obtain ⟨o,k⟩:=l f;rw [bd_L h1 h2 f (by omega) k a] at e;cases e;refine ⟨?_,fun _=>?_⟩
   ·show (s.take _).length≤3000;rw [List.length_take]; omega
   ·show ((s.take _).length:Int)≤_;rw [List.length_take]; omega
  ·rw [bd_C h1 h2 g f] at e;cases e;exact ⟨a,fun c=>absurd c f⟩
theorem bw_1 (h:BW b w) {x:UInt8} {r:Int × Str × Bool × Int × zZK} {p:Str × Int × zZz} (e:zo b [x]=some r) (B:zk w r.2.1=some p) :
  r.1=1∧((∀s,s.length≤2999→zo b (x::s)=some r)∧(r.2.2.1=true∨r.2.2.2.1≠0)∨r.2.2.1=false∧r.2.2.2.1=0∧BW r.2.2.2.2 p.2.2∧∀s,s.length≤2999→zo b (x::s)=(zo r.2.2.2.2 s).bind (fun q=>some (q.1+1,r.2.1++q.2.1,q.2.2))∧∀q,zo r.2.2.2.2 s=some q→zk w (r.2.1++q.2.1)=(zk p.2.2 q.2.1).bind fun i=>some (p.1++i.1,i.2)):=by
 obtain ⟨lb,z,n⟩:=h;obtain ⟨G,v,t,F⟩:=bd_1 lb e;refine ⟨G,?_⟩
 rcases F with ⟨a,c⟩|⟨a,c,d,f⟩
 ·exact .inl ⟨c,a⟩
 ·have A:=bd_o lb (by simp) e
  have key:∀(s:Str) q,s.length≤2999→zo r.2.2.2.2 s=some q→Lw p.2.2∧p.2.2.zZY=w.zZY∧(w.zZY.Kind=1∨w.zZY.Kind=2→p.2.2.zZB=w.zZB-r.2.1.length)∧zk w (r.2.1++q.2.1)=(zk p.2.2 q.2.1).bind fun i=>some (p.1++i.1,i.2):=fun s q l g=>by
   have o:=bd_o d (by omega) g;refine wr_app z A.1 o.1 (fun k=>?_) B;obtain ⟨j,J⟩:=n k;obtain ⟨D,H⟩:=t j;have K:=o.2 (by rw [v]; exact j);have:=lb.2.2.2 j;omega
  have C:∃q,zo r.2.2.2.2 []=some q:=by
   have:=f [] (by simp);rw [e] at this;obtain ⟨q,g,_⟩:=bi this.symm;exact ⟨q,g⟩
  obtain ⟨q0,m⟩:=C;obtain ⟨E,j,u,_⟩:=key [] q0 (by simp) m;refine .inr ⟨a,c,⟨d,E,fun k=>?_⟩,fun s l=>⟨f s l,fun q g=>(key s q l g).2.2.2⟩⟩;rw [j] at k;obtain ⟨y,I⟩:=n k;obtain ⟨D,H⟩:=t y;have u:=u k;exact ⟨by rw [v]; exact y,by omega⟩
theorem zNF (n m k:Nat):zf n (m+k) 1=zf (n+m) k 1:=by unfold zf; rw [Nat.add_assoc]
theorem fu2:∃k,fuel=k+2:=⟨fuel-2,by unfold fuel; rfl⟩
def cU (g:zZk) (c:zZv) (t:List UInt8):zZk:=⟨g.Queue,g.z0h,g.zZF,g.zZ5,c,g.zZl,g.zZx,t,g.z0b,g.zZH,g.zZ3,g.z0c,g.zZU,g.zZW,g.zZX,g.zZo⟩
theorem fw1 (g:zZk) (t:Str):zae g [t]=if zf g.z0a.length t.length 1=true then some (cU g g.zZm (g.z0a++t)) else none:=by
 show zD [t] (([t]:List Str).length:Int) fuel g 0=_;obtain ⟨k,a⟩:=fu2;rw [a];unfold zD;rw [if_pos (by simp)];show (if zf g.z0a.length t.length 1=true then (zi 0 1).bind _ else none)=_
 by_cases c:zf g.z0a.length t.length 1=true
 ·rw [if_pos c,if_pos c];show zD [t] (([t]:List Str).length:Int) (k+1) _ 1=_;unfold zD;rw [if_neg (by simp)]; rfl
 ·rw [if_neg c,if_neg c]
theorem rq_h (h1:g.zZm.z0t=none) (h2:g.zZm.Accum=some a) (s:Str):ze g s=(zaT a s).bind fun b=>zp (cS g (some b.2.2.2) none g.zZm.zZD) b.1 b.2.1 b.2.2.1:=by
 unfold ze;rw [h1];show zK _ s true=_;unfold zK;rw [if_pos rfl];show Go.Rk.optK g.zZm.Accum _ _=_;rw [h2]; rfl
theorem rq_b (h1:g.zZm.z0t=some b) (h2:g.zZm.zZD=some w) (s:Str):ze g s=(zo b s).bind fun a=>(zk w a.2.1).bind fun c=>zA (cS g g.zZm.Accum (some a.2.2.2.2) (some c.2.2)) a.1 a.2.2.1 a.2.2.2.1 c.1:=by
 unfold ze;rw [h1];show zK _ s false=_;unfold zK;rw [if_neg Bool.false_ne_true];show ((zo b s).bind fun a=>zW _ _ _ _ _)=_
 cases zo b s with
 | none=>rfl
 | some a =>
  show zW _ a.1 a.2.1 a.2.2.1 a.2.2.2.1=_;unfold zW;show Go.Rk.optK g.zZm.zZD _ _=_;rw [h2]; rfl
theorem rq_0s (v:zZk) (i:Int) (t:Bool) (e:Int):zp v (i+1) t e=(zp v i t e).bind fun q=>some (q.1+1,q.2):=by
 unfold zp
 split
 ·cases zV v e<;>rfl
 ·split
  ·cases zaX v<;>rfl
  ·rfl
theorem rq_1 (h:SdL g.zZm) {x:UInt8} {r:Int × zZk} (e:ze g [x]=some r):r.1=1 ∧
  ((∀s,s.length≤2999→ze g (x::s)=some r)∨(∃c t,r.2=cU g c t∧SdL c∧¬ idl c)∧∀s,s.length≤2999→ze g (x::s)=(ze r.2 s).bind fun q=>some (q.1+1,q.2)):=by
 rcases h with ⟨h1,a,h2,u,L⟩|⟨b,w,h1,h2,u⟩
 ·have F:=fun s=>rq_h h1 h2 s;have A:=fun (s:Str) (m:s.length≤3000)=>ac_f (s:=s) (by omega) u L;rw [F,A [x] (by simp)] at e;obtain ⟨q,B,e⟩:=bi e;have n:(acT a x).bind (fun r=>if r.1=true∨r.2.1≠0 then some ((1:Int),r.1,r.2.1,acE (acN r)) else (acF [] (acN r)).bind fun q=>some (q.1+1,q.2))=some q:=B;obtain ⟨r0,D,o⟩:=bi n
  have G:∀s,acF (x::s) a=if r0.1=true∨r0.2.1≠0 then some ((1:Int),r0.1,r0.2.1,acE (acN r0)) else (acF s (acN r0)).bind fun q=>some (q.1+1,q.2):=fun s=>by
   show (acT a x).bind _=_;rw [D]; rfl
  by_cases st:r0.1=true∨r0.2.1≠0
  ·rw [if_pos st] at o;cases o;refine ⟨?_,.inl fun s m=>?_⟩
   ·have e:zp _ 1 _ _=some r:=e;unfold zp at e
    split at e
    ·obtain ⟨z,_,e⟩:=bi e;cases e; rfl
    ·split at e
     ·obtain ⟨z,_,e⟩:=bi e;cases e; rfl
     ·cases e; rfl
   ·rw [F,A (x::s) (by simp; omega),G s,if_pos st];exact e
  ·rw [if_neg st] at o;cases o
   have E:r0.1=false:=by cases y:r0.1<;>simp_all
   have H:r0.2.1=0:=by
    by_cases y:r0.2.1=0
    ·exact y
    ·exact absurd (.inr y) st
   have tk:(acN r0).z0L=true:=zNE D;have C:zp (cS g (some (acN r0)) none g.zZm.zZD) (0+1) false 0=some r:=e
   have J:zp (cS g (some (acN r0)) none g.zZm.zZD) (0+1) false 0=some (0+1,cS g (some (acN r0)) none g.zZm.zZD):=by
    unfold zp;rw [if_neg (by simp),if_neg (by simp)]
   rw [J] at C;cases C;refine ⟨rfl,.inr ⟨⟨⟨some (acN r0),none,g.zZm.zZD⟩,g.z0a,rfl,.inl ⟨rfl,_,rfl,H,E⟩,fun c=>?_⟩,fun s m=>?_⟩⟩
   ·have:=c.2 _ rfl;rw [tk] at this; cases this
   ·rw [F,A (x::s) (by simp; omega),G s,if_neg st,rq_h (g:=cS g (some (acN r0)) none g.zZm.zZD) rfl rfl s,ac_f (by omega) H E]
    cases acF s (acN r0) with
    | none=>rfl
    | some q=>exact rq_0s (cS g (some q.2.2.2) none g.zZm.zZD) q.1 q.2.1 q.2.2.1
 ·have F:=fun s=>rq_b h1 h2 s;rw [F] at e;obtain ⟨j,B,e⟩:=bi e;obtain ⟨p,n,e⟩:=bi e;obtain ⟨k,v⟩:=bw_1 u B n
  rcases v with ⟨a,st⟩|⟨a,c,d,f⟩
  ·refine ⟨?_,.inl fun s m=>?_⟩
   ·unfold zA at e;obtain ⟨z,_,e⟩:=bi e
    split at e
    ·obtain ⟨z2,_,e⟩:=bi e;cases e; exact k
    ·split at e
     ·obtain ⟨z2,_,e⟩:=bi e;cases e; exact k
     ·cases e; exact k
   ·rw [F,a s m];show (zk w j.2.1).bind _=_;rw [n]; exact e
  ·unfold zA at e;rw [fw1,a,c] at e
   have ft:zf g.z0a.length p.1.length 1=true:=by
    by_cases q:zf g.z0a.length p.1.length 1=true
    ·exact q
    ·have:(if zf g.z0a.length p.1.length 1=true then some (cU (cS g g.zZm.Accum (some j.2.2.2.2) (some p.2.2)) ⟨g.zZm.Accum,some j.2.2.2.2,some p.2.2⟩ (g.z0a++p.1)) else none)=none:=if_neg q;have l:((if zf g.z0a.length p.1.length 1=true then some (cU (cS g g.zZm.Accum (some j.2.2.2.2) (some p.2.2)) ⟨g.zZm.Accum,some j.2.2.2.2,some p.2.2⟩ (g.z0a++p.1)) else none).bind _)=some r:=e;rw [this] at l; cases l
   have l:((if zf g.z0a.length p.1.length 1=true then some (cU g ⟨g.zZm.Accum,some j.2.2.2.2,some p.2.2⟩ (g.z0a++p.1)) else none).bind fun k=>if (!((0:Int)==0))=true then (zV k 0).bind (fun v=>some (j.1,v)) else if false=true then (zan k).bind (fun I=>some (j.1,I)) else some (j.1,k))=some r:=e;rw [if_pos ft] at l;have l:some (j.1,cU g ⟨g.zZm.Accum,some j.2.2.2.2,some p.2.2⟩ (g.z0a++p.1))=some r:=l;cases l;refine ⟨k,.inr ⟨⟨_,_,rfl,.inr ⟨_,_,rfl,rfl,d⟩,fun c=>by have:=c.1; cases this⟩,fun s m=>?_⟩⟩;obtain ⟨K,M⟩:=f s m;rw [F,K,rq_b (g:=cU g ⟨g.zZm.Accum,some j.2.2.2.2,some p.2.2⟩ (g.z0a++p.1)) rfl rfl s]
   cases hq:zo j.2.2.2.2 s with
   | none=>rfl
   | some q =>
    show (zk w (j.2.1++q.2.1)).bind _=((zk p.2.2 q.2.1).bind _).bind _;rw [M q hq]
    cases zk p.2.2 q.2.1 with
    | none=>rfl
    | some i =>
     show zA (cS g g.zZm.Accum (some q.2.2.2.2) (some i.2.2)) (q.1+1) q.2.2.1 q.2.2.2.1 (p.1++i.1)=(zA (cS (cU g ⟨g.zZm.Accum,some j.2.2.2.2,some p.2.2⟩ (g.z0a++p.1)) g.zZm.Accum (some q.2.2.2.2) (some i.2.2)) q.1 q.2.2.1 q.2.2.2.1 i.1).bind _;unfold zA;rw [fw1,fw1]
     have N:zf (cS g g.zZm.Accum (some q.2.2.2.2) (some i.2.2)).z0a.length (p.1++i.1).length 1=zf (cS (cU g ⟨g.zZm.Accum,some j.2.2.2.2,some p.2.2⟩ (g.z0a++p.1)) g.zZm.Accum (some q.2.2.2.2) (some i.2.2)).z0a.length i.1.length 1:=by
      show zf g.z0a.length (p.1++i.1).length 1=zf (g.z0a++p.1).length i.1.length 1;rw [List.length_append,List.length_append,zNF]
     have z2:cU (cS g g.zZm.Accum (some q.2.2.2.2) (some i.2.2)) (cS g g.zZm.Accum (some q.2.2.2.2) (some i.2.2)).zZm ((cS g g.zZm.Accum (some q.2.2.2.2) (some i.2.2)).z0a++(p.1++i.1))=cU (cS (cU g ⟨g.zZm.Accum,some j.2.2.2.2,some p.2.2⟩ (g.z0a++p.1)) g.zZm.Accum (some q.2.2.2.2) (some i.2.2)) (cS (cU g ⟨g.zZm.Accum,some j.2.2.2.2,some p.2.2⟩ (g.z0a++p.1)) g.zZm.Accum (some q.2.2.2.2) (some i.2.2)).zZm ((cS (cU g ⟨g.zZm.Accum,some j.2.2.2.2,some p.2.2⟩ (g.z0a++p.1)) g.zZm.Accum (some q.2.2.2.2) (some i.2.2)).z0a++i.1):=by
      show cU g ⟨g.zZm.Accum,some q.2.2.2.2,some i.2.2⟩ (g.z0a++(p.1++i.1))=cU g ⟨g.zZm.Accum,some q.2.2.2.2,some i.2.2⟩ ((g.z0a++p.1)++i.1);rw [List.append_assoc]
     rw [N,z2]
     split
     ·show (if (!(q.2.2.2.1==0))=true then _ else _)=(if (!(q.2.2.2.1==0))=true then _ else _:Option _).bind _
      split
      ·cases zV _ _<;>rfl
      ·split
       ·cases zan _<;>rfl
       ·rfl
     ·rfl
def uU (g:zZk) (c:zZv) (t:List UInt8):zZk:=⟨g.Queue,g.z0h,g.zZF,g.zZ5,g.zZm,c,t,g.z0a,g.z0b,g.zZH,g.zZ3,g.z0c,g.zZU,g.zZW,g.zZX,g.zZo⟩
theorem sd1 (g:zZk) (t:Str):zY g [t]=if zf g.zZx.length t.length 1=true then some (uU g g.zZl (g.zZx++t)) else none:=by
 show zC [t] (([t]:List Str).length:Int) fuel g 0=_;obtain ⟨k,a⟩:=fu2;rw [a];unfold zC;rw [if_pos (by simp)];show (if zf g.zZx.length t.length 1=true then (zi 0 1).bind _ else none)=_
 by_cases c:zf g.zZx.length t.length 1=true
 ·rw [if_pos c,if_pos c];show zC [t] (([t]:List Str).length:Int) (k+1) _ 1=_;unfold zC;rw [if_neg (by simp)]; rfl
 ·rw [if_neg c,if_neg c]
theorem rs_h (h1:g.zZl.z0t=none) (h2:g.zZl.Accum=some a) (s:Str):zj g s=(zaT a s).bind fun b=>zm (uS g (some b.2.2.2) none g.zZl.zZD) b.1 b.2.1 b.2.2.1:=by
 unfold zj;rw [h1];show zH _ s true=_;unfold zH;rw [if_pos rfl];show Go.Rk.optK g.zZl.Accum _ _=_;rw [h2]; rfl
theorem rs_b (h1:g.zZl.z0t=some b) (h2:g.zZl.zZD=some w) (s:Str):zj g s=(zo b s).bind fun a=>(zk w a.2.1).bind fun c=>zw (uS g g.zZl.Accum (some a.2.2.2.2) (some c.2.2)) a.1 a.2.2.1 a.2.2.2.1 c.1:=by
 unfold zj;rw [h1];show zH _ s false=_;unfold zH;rw [if_neg Bool.false_ne_true];show ((zo b s).bind fun a=>zR _ _ _ _ _)=_
 cases zo b s with
 | none=>rfl
 | some a =>
  show zR _ a.1 a.2.1 a.2.2.1 a.2.2.2.1=_;unfold zR;show Go.Rk.optK g.zZl.zZD _ _=_;rw [h2]; rfl
theorem rs_0s (v:zZk) (i:Int) (t:Bool) (e:Int):zm v (i+1) t e=(zm v i t e).bind fun q=>some (q.1+1,q.2):=by
 unfold zm
 split
 ·cases zO v 502<;>rfl
 ·split
  ·cases zaK v<;>rfl
  ·rfl
theorem rs_1 (h:SdL g.zZl) {x:UInt8} {r:Int × zZk} (e:zj g [x]=some r):r.1=1 ∧
  ((∀s,s.length≤2999→zj g (x::s)=some r)∨(∃c t,r.2=uU g c t∧SdL c∧¬ idl c)∧∀s,s.length≤2999→zj g (x::s)=(zj r.2 s).bind fun q=>some (q.1+1,q.2)):=by
 rcases h with ⟨h1,a,h2,u,L⟩|⟨b,w,h1,h2,u⟩
 ·have F:=fun s=>rs_h h1 h2 s;have A:=fun (s:Str) (m:s.length≤3000)=>ac_f (s:=s) (by omega) u L;rw [F,A [x] (by simp)] at e;obtain ⟨q,B,e⟩:=bi e;have n:(acT a x).bind (fun r=>if r.1=true∨r.2.1≠0 then some ((1:Int),r.1,r.2.1,acE (acN r)) else (acF [] (acN r)).bind fun q=>some (q.1+1,q.2))=some q:=B;obtain ⟨r0,D,o⟩:=bi n
  have G:∀s,acF (x::s) a=if r0.1=true∨r0.2.1≠0 then some ((1:Int),r0.1,r0.2.1,acE (acN r0)) else (acF s (acN r0)).bind fun q=>some (q.1+1,q.2):=fun s=>by
   show (acT a x).bind _=_;rw [D]; rfl
  by_cases st:r0.1=true∨r0.2.1≠0
  ·rw [if_pos st] at o;cases o;refine ⟨?_,.inl fun s m=>?_⟩
   ·have e:zm _ 1 _ _=some r:=e;unfold zm at e
    split at e
    ·obtain ⟨z,_,e⟩:=bi e;cases e; rfl
    ·split at e
     ·obtain ⟨z,_,e⟩:=bi e;cases e; rfl
     ·cases e; rfl
   ·rw [F,A (x::s) (by simp; omega),G s,if_pos st];exact e
  ·rw [if_neg st] at o;cases o
   have E:r0.1=false:=by cases y:r0.1<;>simp_all
   have H:r0.2.1=0:=by
    by_cases y:r0.2.1=0
    ·exact y
    ·exact absurd (.inr y) st
   have tk:(acN r0).z0L=true:=zNE D;have C:zm (uS g (some (acN r0)) none g.zZl.zZD) (0+1) false 0=some r:=e
   have J:zm (uS g (some (acN r0)) none g.zZl.zZD) (0+1) false 0=some (0+1,uS g (some (acN r0)) none g.zZl.zZD):=by
    unfold zm;rw [if_neg (by simp),if_neg (by simp)]
   rw [J] at C;cases C;refine ⟨rfl,.inr ⟨⟨⟨some (acN r0),none,g.zZl.zZD⟩,g.zZx,rfl,.inl ⟨rfl,_,rfl,H,E⟩,fun c=>?_⟩,fun s m=>?_⟩⟩
   ·have:=c.2 _ rfl;rw [tk] at this; cases this
   ·rw [F,A (x::s) (by simp; omega),G s,if_neg st,rs_h (g:=uS g (some (acN r0)) none g.zZl.zZD) rfl rfl s,ac_f (by omega) H E]
    cases acF s (acN r0) with
    | none=>rfl
    | some q=>exact rs_0s (uS g (some q.2.2.2) none g.zZl.zZD) q.1 q.2.1 q.2.2.1
 ·have F:=fun s=>rs_b h1 h2 s;rw [F] at e;obtain ⟨j,B,e⟩:=bi e;obtain ⟨p,n,e⟩:=bi e;obtain ⟨k,v⟩:=bw_1 u B n
  rcases v with ⟨a,st⟩|⟨a,c,d,f⟩
  ·refine ⟨?_,.inl fun s m=>?_⟩
   ·unfold zw at e;obtain ⟨z,_,e⟩:=bi e
    split at e
    ·obtain ⟨z2,_,e⟩:=bi e;cases e; exact k
    ·split at e
     ·obtain ⟨z2,_,e⟩:=bi e;cases e; exact k
     ·cases e; exact k
   ·rw [F,a s m];show (zk w j.2.1).bind _=_;rw [n]; exact e
  ·unfold zw at e;rw [sd1,a,c] at e
   have ft:zf g.zZx.length p.1.length 1=true:=by
    by_cases q:zf g.zZx.length p.1.length 1=true
    ·exact q
    ·have:(if zf g.zZx.length p.1.length 1=true then some (uU (uS g g.zZl.Accum (some j.2.2.2.2) (some p.2.2)) ⟨g.zZl.Accum,some j.2.2.2.2,some p.2.2⟩ (g.zZx++p.1)) else none)=none:=if_neg q;have l:((if zf g.zZx.length p.1.length 1=true then some (uU (uS g g.zZl.Accum (some j.2.2.2.2) (some p.2.2)) ⟨g.zZl.Accum,some j.2.2.2.2,some p.2.2⟩ (g.zZx++p.1)) else none).bind _)=some r:=e;rw [this] at l; cases l
   have l:((if zf g.zZx.length p.1.length 1=true then some (uU g ⟨g.zZl.Accum,some j.2.2.2.2,some p.2.2⟩ (g.zZx++p.1)) else none).bind fun k=>if (!((0:Int)==0))=true then (zT k).bind (fun v=>some (j.1,v)) else if false=true then (zL k).bind (fun I=>some (j.1,I)) else some (j.1,k))=some r:=e;rw [if_pos ft] at l;have l:some (j.1,uU g ⟨g.zZl.Accum,some j.2.2.2.2,some p.2.2⟩ (g.zZx++p.1))=some r:=l;cases l;refine ⟨k,.inr ⟨⟨_,_,rfl,.inr ⟨_,_,rfl,rfl,d⟩,fun c=>by have:=c.1; cases this⟩,fun s m=>?_⟩⟩;obtain ⟨K,M⟩:=f s m;rw [F,K,rs_b (g:=uU g ⟨g.zZl.Accum,some j.2.2.2.2,some p.2.2⟩ (g.zZx++p.1)) rfl rfl s]
   cases hq:zo j.2.2.2.2 s with
   | none=>rfl
   | some q =>
    show (zk w (j.2.1++q.2.1)).bind _=((zk p.2.2 q.2.1).bind _).bind _;rw [M q hq]
    cases zk p.2.2 q.2.1 with
    | none=>rfl
    | some i =>
     show zw (uS g g.zZl.Accum (some q.2.2.2.2) (some i.2.2)) (q.1+1) q.2.2.1 q.2.2.2.1 (p.1++i.1)=(zw (uS (uU g ⟨g.zZl.Accum,some j.2.2.2.2,some p.2.2⟩ (g.zZx++p.1)) g.zZl.Accum (some q.2.2.2.2) (some i.2.2)) q.1 q.2.2.1 q.2.2.2.1 i.1).bind _;unfold zw;rw [sd1,sd1]
     have N:zf (uS g g.zZl.Accum (some q.2.2.2.2) (some i.2.2)).zZx.length (p.1++i.1).length 1=zf (uS (uU g ⟨g.zZl.Accum,some j.2.2.2.2,some p.2.2⟩ (g.zZx++p.1)) g.zZl.Accum (some q.2.2.2.2) (some i.2.2)).zZx.length i.1.length 1:=by
      show zf g.zZx.length (p.1++i.1).length 1=zf (g.zZx++p.1).length i.1.length 1;rw [List.length_append,List.length_append,zNF]
     have z2:uU (uS g g.zZl.Accum (some q.2.2.2.2) (some i.2.2)) (uS g g.zZl.Accum (some q.2.2.2.2) (some i.2.2)).zZl ((uS g g.zZl.Accum (some q.2.2.2.2) (some i.2.2)).zZx++(p.1++i.1))=uU (uS (uU g ⟨g.zZl.Accum,some j.2.2.2.2,some p.2.2⟩ (g.zZx++p.1)) g.zZl.Accum (some q.2.2.2.2) (some i.2.2)) (uS (uU g ⟨g.zZl.Accum,some j.2.2.2.2,some p.2.2⟩ (g.zZx++p.1)) g.zZl.Accum (some q.2.2.2.2) (some i.2.2)).zZl ((uS (uU g ⟨g.zZl.Accum,some j.2.2.2.2,some p.2.2⟩ (g.zZx++p.1)) g.zZl.Accum (some q.2.2.2.2) (some i.2.2)).zZx++i.1):=by
      show uU g ⟨g.zZl.Accum,some q.2.2.2.2,some i.2.2⟩ (g.zZx++(p.1++i.1))=uU g ⟨g.zZl.Accum,some q.2.2.2.2,some i.2.2⟩ ((g.zZx++p.1)++i.1);rw [List.append_assoc]
     rw [N,z2]
     split
     ·show (if (!(q.2.2.2.1==0))=true then _ else _)=(if (!(q.2.2.2.1==0))=true then _ else _:Option _).bind _
      split
      ·rfl
      ·split
       ·cases zL _<;>rfl
       ·rfl
     ·rfl
end Go.Dm
end
section
namespace Go.Dm
variable {g:zZk} {h:zZr} {f:zZw}
def PC {α:Type} (Q:α→Prop) (X:Option α):Prop:=∀r,X=some r→Q r
theorem zbl {α:Type} {Q:α→Prop} {a:α} (h:Q a):PC Q (some a):=fun _ e=>by cases e; exact h
theorem zIs {α:Type} {Q:α→Prop}:PC Q none:=fun _ e=>by cases e
theorem z6 {α β:Type} {Q:β→Prop} {x:Option α} {f:α→Option β} (k:∀a,x=some a→PC Q (f a)):PC Q (x.bind f):=fun r e=>by
 obtain ⟨a,b,c⟩:=bi e;exact k a b r c
theorem zhG {α β:Type} {P:α→Prop} {Q:β→Prop} {x:Option α} {f:α→Option β} (h:PC P x) (k:∀a,P a→PC Q (f a)):PC Q (x.bind f):=z6 fun a e=>k a (h a e)
theorem zaZ {α:Type} {Q:α→Prop} {c:Prop} [Decidable c] {x y:Option α} (h:c→PC Q x) (k:¬ c→PC Q y):PC Q (if c then x else y):=by
 by_cases d:c
 ·rw [if_pos d]; exact h d
 ·rw [if_neg d]; exact k d
theorem zsG {τ α:Type} {Q:α→Prop} {o:Option τ} {x:Option α} {f:τ→Option α} (h:o=none→PC Q x) (k:∀t,o=some t→PC Q (f t)):PC Q (Go.Rk.optK o x f):=by
 cases o with
 | none=>exact h rfl
 | some t=>exact k t rfl
def Vc (c:z0l):Prop:=0≤c.Head∧c.Head≤65536∧1≤c.Chunk∧c.Chunk≤65536
def Fk (f:zZw):Prop:=(f.Kind=1∨f.Kind=2∨f.Kind=3∨f.Kind=4)∧0≤f.N∧f.N≤1099511627776
theorem zv7 {k n:Int} (a:k=1∨k=2) (h0:0≤n) (h1:n≤65536):PC SdL (zbN k n):=by
 have j:ziE k n=some (some ⟨k,n,[],0,false,0,false,⟨0,[],[],0,[],0,[]⟩⟩,0):=by
  unfold ziE zdl
  rcases a with rfl|rfl
  ·rw [if_neg (by simp),if_neg (by simpa using h0),if_neg (by simpa using h1)]
  ·rw [if_pos (by decide),if_neg (by decide),if_neg (by simpa using h0),if_neg (by simpa using h1)]
 unfold zbN;rw [j];exact zbl (.inl ⟨rfl,_,rfl,rfl,rfl⟩)
theorem lenK (h:zZr) (k:Int):PC (fun r:zZw × Int=>r.2=0→r.1.Kind=k∨r.1.Kind=2∨r.1.Kind=3) (znN h k):=by
 have c:∀r l,PC (fun r:zZw × Int × zZZ=>r.2.1=0→r.1.Kind=3) (zdw r l):=fun r l =>
  z6 fun _ _=>zaZ (fun _=>zbl fun c=>absurd c (by simp)) fun _=>zaZ (fun _=>zbl fun c=>absurd c (by simp)) fun _=>zaZ (fun _=>zbl fun c=>absurd c (by simp)) fun _=>z6 fun _ _=>z6 fun _ _=>zaZ (fun _=>zbl fun c=>absurd c (by simp)) fun _=>zbl fun _=>rfl
 have p:∀(d:Int→Int→Option (zZw × Int × zZZ)) b i l m,(∀x y,PC (fun r:zZw × Int × zZZ=>r.2.1=0→r.1.Kind=2) (d x y))→∀(n:Nat) (x y:Int),PC (fun r:zZw × Int × zZZ=>r.2.1=0→r.1.Kind=2) (zai d b i l m n x y):=fun d b i l m o n=>by
  induction n with
  | zero=>intro x y; exact zIs
  | succ n f =>
   intro x y;have j:∀a c t,PC (fun r:zZw × Int × zZZ=>r.2.1=0→r.1.Kind=2) (zbo (zai d b i l m n) b a c t):=fun a c t=>zaZ (fun _=>zbl fun c=>absurd c (by simp)) fun _=>z6 fun _ _=>f _ _;exact zaZ (fun _=>z6 fun _ _=>z6 fun _ _=>zaZ (fun _=>j _ _ _) fun _=>zaZ (fun _=>j _ _ _) fun _=>j _ _ _) fun _=>z6 fun _ _=>o _ _
 have q:∀b l m, ∀(n:Nat) (x y:Int),PC (fun r:zZw × Int × zZZ=>r.2.1=0→r.1.Kind=2) (zaP b l m n x y):=fun b l m n=>by
  induction n with
  | zero=>intro x y; exact zIs
  | succ n f =>
   intro x y;exact zaZ (fun _=>z6 fun _ _=>z6 fun _ _=>zaZ (fun _=>zbl fun c=>absurd c (by simp)) fun _=>p _ _ _ _ _ (fun x y=>f x y) _ _ _) fun _=>zaZ (fun _=>zbl fun c=>absurd c (by simp)) fun _=>zbl fun _=>rfl
 have j:∀v l m t,PC (fun r:zZw × Int=>r.2=0→r.1.Kind=k∨r.1.Kind=2∨r.1.Kind=3) (zkS k v l m t):=fun v l m t =>
  zaZ (fun _=>zbl fun c=>absurd c (by simp)) fun _=>zaZ (fun _=>zhG (c _ _) fun r g=>zbl fun e => .inr (.inr (g e))) fun _=>zaZ (fun _=>zhG (q _ _ _ _ _ _) fun r g=>zbl fun e => .inr (.inl (g e))) fun _=>zbl fun _ => .inl rfl
 exact z6 fun _ _=>z6 fun _ _=>z6 fun _ _=>zaZ (fun _=>j _ _ _ _) fun _=>j _ _ _ _
theorem lenQ (i:Fm h.Fields):PC (fun r:zZw × Int=>r.2=0→Fk r.1) (zeD h):=fun r e c=>by
 obtain ⟨r',b,g,d⟩:=(inferInstance:T (zeD h) _ _).ok i;rw [e] at b;cases b;have k:=(zhG (lenK h 1) fun a f=>zbl (Q:=fun r:zZw × Int=>r.2=0→r.1.Kind=1∨r.1.Kind=2∨r.1.Kind=3) f) r e c;exact ⟨by omega,g,d⟩
theorem lenR {m:Str} (i:Fm h.Fields):PC (fun r:zZw × Int=>r.2=0→Fk r.1) (zdR m h):=fun r e c=>by
 obtain ⟨r',b,g,d⟩:=(inferInstance:T (zdR m h) _ _).ok i;rw [e] at b;cases b;have k:r.1.Kind=1∨r.1.Kind=4∨r.1.Kind=2∨r.1.Kind=3:=(z6 (Q:=fun r:zZw × Int=>r.2=0→r.1.Kind=1∨r.1.Kind=4∨r.1.Kind=2∨r.1.Kind=3) fun _ _=>zaZ (fun _=>zbl fun _ => .inl rfl) fun _=>zhG (lenK h 4) fun a f=>zbl fun c => .inr (f c)) r e c;exact ⟨by omega,g,d⟩
def Nb (f:zZw) (b:zZK):Prop:=b.zZY=f∧b.zZB=f.N∧b.z0K=false∧(b.z0n=false→f.Kind≠1∧(f.Kind=2→f.N≠0))∧(f.Kind=3→∃d,b.Decoder=some d∧Dn d∧Dg d)
def Nr (f:zZw) (c:Int) (w:zZz):Prop:=w.zZY=f∧w.z0n=false∧(f.Kind=2→w.zZB=f.N)∧(f.Kind=3→w.Encoder=some ⟨c,[],false⟩)
theorem newB (i:Fk f) {n:Int} (h0:0≤n) (h1:n≤65536):PC (fun r:Option zZK × Int=>∃b,r.1=some b∧Nb f b) (zn8 f n):=by
 obtain ⟨k,n0,l⟩:=i
 have e:zkd n=some (some ⟨n,0,[],0,0,0,[]⟩,0):=by
  unfold zkd;rw [if_neg (by simpa using h0),if_neg (by simpa using h1)]
 have hd:Dn ⟨n,0,[],0,0,0,[]⟩∧Dg ⟨n,0,[],0,0,0,[]⟩:=⟨⟨by simp,by simp,by simp,by simp,by simp,h1,by simp,by simp⟩,⟨h0,by simp,by simp⟩⟩
 have j:∀v:zZK,v.zZY=f→v.zZB=f.N→v.z0K=false→(f.Kind=3→∃d,v.Decoder=some d∧Dn d∧Dg d)→PC (fun r:Option zZK × Int=>∃b,r.1=some b∧Nb f b) (zmJ f v):=fun v h1 h2 g h =>
  zaZ (fun c=>zbl ⟨_,rfl,h1,h2,g,(fun d=>by cases d),h⟩) fun c=>zaZ (fun a=>zbl ⟨_,rfl,h1,h2,g,fun d=>⟨by simpa using c,fun _=>by
   have d:(f.N==0)=false:=d
   simpa using d⟩,h⟩) fun a=>zbl ⟨_,rfl,h1,h2,g,fun d=>⟨by simpa using c,fun m=>absurd m (by simpa using a)⟩,h⟩
 unfold zn8;rw [e];show PC _ (zke f (some ⟨n,0,[],0,0,0,[]⟩) 0);unfold zke;rw [if_neg (by simp),if_neg (by simp; omega),if_neg (by simp; omega),if_neg (by simpa using n0),if_neg (by simpa using l)];exact zaZ (fun c=>j _ rfl rfl rfl fun _=>⟨_,rfl,hd⟩) fun c=>j _ rfl rfl rfl fun a=>absurd a (by simpa using c)
theorem newW (b:Fk f) {n:Int} (h0:1≤n) (h1:n≤65536):PC (fun r:Option zZz × Int=>∃w,r.1=some w∧Nr f n w) (zie f n):=by
 obtain ⟨k,n0,g⟩:=b
 have e:zdu n=some (some ⟨n,[],false⟩,0):=by
  unfold zdu;rw [if_neg (by simpa using h0),if_neg (by simpa using h1)]
 unfold zie;rw [e];show PC _ (zgh f (some ⟨n,[],false⟩) 0);unfold zgh;rw [if_neg (by simp),if_neg (by simp; omega),if_neg (by simp; omega),if_neg (by simpa using n0)];exact zaZ (fun c=>zbl ⟨_,rfl,rfl,rfl,(fun d=>by have c:(f.Kind==3)=true:=c; rw [d] at c; cases c),fun _=>rfl⟩) fun c=>zaZ (fun a=>zbl ⟨_,rfl,rfl,rfl,fun _=>rfl,fun d=>absurd d (by simpa using c)⟩) fun a=>zbl ⟨_,rfl,rfl,rfl,fun d=>absurd d (by simpa using a),fun d=>absurd d (by simpa using c)⟩
theorem newP {f f2:zZw} {b:zZK} {w:zZz} {n:Int} (l:Fk f) (r:Nb f b) (t:Nr f2 n w) (h0:1≤n) (h1:n≤65536) (h2:(f.Kind=1∨f.Kind=2→f2=f)∧(f2.Kind=1∨f2.Kind=2→f2=f)) (hd:b.z0n=false):BW b w:=by
 obtain ⟨a,g,i,p,m⟩:=r;obtain ⟨h,o,j,u⟩:=t;obtain ⟨k,n0,v⟩:=l;obtain ⟨q,s⟩:=p hd;refine ⟨⟨hd,i,fun c=>m (by rw [← a]; exact c),fun c=>?_⟩,⟨o,fun c=>?_⟩,fun c=>?_⟩
 ·rw [a] at c;have:=s c;rw [g]; omega
 ·rw [h] at c;exact ⟨_,u c,rfl,h0,h1,by show (0:Int)<n; omega⟩
 ·rw [h] at c;have e:=h2.2 c;rw [e] at c;have d:f.Kind=2:=c.resolve_left q;exact ⟨by rw [a]; exact d,by rw [j (by rw [e]; exact d),g,e]⟩
def Fs (g r:zZk):Prop:=r.zZF=g.zZF∧r.zZm=g.zZm∧r.zZl=g.zZl
theorem fw_p (g:zZk) (t:Str):PC (Fs g) (zae g [t]):=by
 rw [fw1]; exact zaZ (fun _=>zbl ⟨rfl,rfl,rfl⟩) fun _=>zIs
theorem sd_p (g:zZk) (t:Str):PC (Fs g) (zY g [t]):=by
 rw [sd1]; exact zaZ (fun _=>zbl ⟨rfl,rfl,rfl⟩) fun _=>zIs
def Lc (r:zZk):Prop:=SdL r.zZm∨r.zZH=true
def Lu (r:zZk):Prop:=r.zZo=true∨SdL r.zZl
theorem wh0_l (h:Vc g.zZF) (t:zZs):PC Lc (zav g t):=zhG (zv7 (.inl rfl) h.1 h.2.1) fun r a=>zbl (.inl a)
theorem wh1_l (h:Vc g.zZF) (v:zZr):PC Lc (zaw g v):=z6 fun _ _=>zsG (fun _=>z6 fun _ _=>wh0_l (by exact h) _) fun _ _=>z6 fun _ _=>wh0_l (by exact h) _
theorem zJW (h:Vc g.zZF) (s:Str):PC Lc (z8 g s):=zhG (fw_p g s) fun r a=>by
 have h:Vc r.zZF:=by rw [a.1]; exact h
 exact zsG (fun _=>z6 fun _ _=>wh1_l (by exact h) _) fun _ _=>z6 fun _ _=>wh1_l (by exact h) _
theorem wh_l (h:Vc g.zZF):PC Lc (zan g):=zsG (fun _=>zsG (fun _=>z6 fun _ _=>z6 fun _ _=>zJW (by exact h) _) fun _ _=>z6 fun _ _=>z6 fun _ _=>zJW (by exact h) _) fun _ _=>zsG (fun _=>z6 fun _ _=>z6 fun _ _=>zJW (by exact h) _) fun _ _=>z6 fun _ _=>z6 fun _ _=>zJW (by exact h) _
theorem rf_l (g:zZk) (e:Int):PC Lc (zV g e):=z6 fun _ _=>zbl (.inr rfl)
def Nd (s:zZv):Prop:=∃b w,s.z0t=some b∧s.zZD=some w∧(b.z0n=false→BW b w)
theorem as0_l (h:Vc g.zZF) (hn:Nd g.zZm):PC Lc (zay g):=by
 obtain ⟨b,w,h1,h2,e⟩:=hn;refine zsG (fun c=>by rw [h1] at c; cases c) fun t a=>?_;rw [h1] at a;cases a;show PC _ (zax _ b.z0n);exact zaZ (fun _=>zhG (wh_l (by exact h)) fun r d=>zbl d) fun c=>zbl (.inl (.inr ⟨b,w,rfl,h2,e (by simpa using c)⟩))
theorem as2_l (h:Vc g.zZF) {f:zZw} (a:Fk f) {b:zZK} (h1:g.zZm.z0t=some b) (h2:Nb f b):PC Lc (zaz g f) :=
 zhG (newW a h.2.2.1 h.2.2.2) fun r c=>by
  obtain ⟨w,e,hn⟩:=c;rw [e];exact as0_l (by exact h) ⟨b,w,h1,rfl,fun d=>newP a h2 hn h.2.2.1 h.2.2.2 ⟨fun _=>rfl,fun _=>rfl⟩ d⟩
theorem onw_l (g:zZk) {v:zZr} (a:Fm v.Fields):PC (fun r:Str × zZw × Int=>r.2.2=0→Fk r.2.1) (zbP g v) :=
 zaZ (fun _=>zbl fun c=>absurd c (by simp)) fun _=>zhG (lenQ a) fun b h1=>zaZ (fun c=>zbl fun d=>absurd d (by simpa using c)) fun c=>z6 fun e _=>zaZ (fun c=>zbl fun d=>absurd d (by simpa using c)) fun _=>z6 fun f _=>zbl fun _=>h1 (by simpa using c)
theorem as3_l (h:Vc g.zZF) {v:zZr} (f:Fm v.Fields):PC Lc (zaA g v) :=
 zhG (onw_l g f) fun l h1=>zaZ (fun _=>zhG (rf_l g _) fun r d=>zbl d) fun c=>zhG (fw_p g _) fun i k=>by
  have a:=h1 (by simpa using c)
  have h:Vc i.zZF:=by rw [k.1]; exact h
  refine zhG (newB a h.1 h.2.1) fun m j=>?_;obtain ⟨b,e,hn⟩:=j;rw [e];exact as2_l (by exact h) a (by exact rfl) hn
theorem Hd_f (k:Hd h):Fm h.Fields:=⟨by have:=k.1; omega,fun f a=>⟨by have:=(k.2.1 f a).1; omega,by have:=(k.2.1 f a).2; omega⟩⟩
theorem as_l (h:Vc g.zZF) (d:Sd g.zZm):PC Lc (zaX g) :=
 zsG (fun _=>z6 fun r e=>by cases e; exact as3_l (by exact h) ⟨by simp,fun f k=>by cases k⟩) fun a j=>z6 fun r c=>by
  have l:Am a:=by have:=d.1; rw [j] at this; exact this
  obtain ⟨r',b,i⟩:=(inferInstance:T (zbG a) _ _).ok l;rw [c] at b;cases b;exact as3_l (by exact h) (Hd_f i)
theorem an0_l (h:Vc g.zZF):PC Lu (zag g):=zhG (zv7 (.inr rfl) h.1 h.2.1) fun r a=>zaZ (fun _=>z6 fun b e=>by cases e; exact zbl (.inl rfl)) fun _=>zbl (.inr a)
theorem an1_l (h:Vc g.zZF):PC Lu (zah g):=zaZ (fun _=>an0_l (by exact h)) fun _=>an0_l (by exact h)
theorem zJX (h:Vc g.zZF) (s:Str):PC Lu (zQ g s):=zhG (sd_p g s) fun r a=>by
 have h:Vc r.zZF:=by rw [a.1]; exact h
 exact zsG (fun _=>z6 fun _ _=>an1_l (by exact h)) fun _ _=>z6 fun _ _=>an1_l (by exact h)
theorem an_l (h:Vc g.zZF):PC Lu (zL g):=zsG (fun _=>zsG (fun _=>z6 fun _ _=>z6 fun _ _=>zJX (by exact h) _) fun _ _=>z6 fun _ _=>z6 fun _ _=>zJX (by exact h) _) fun _ _=>zsG (fun _=>z6 fun _ _=>z6 fun _ _=>zJX (by exact h) _) fun _ _=>z6 fun _ _=>z6 fun _ _=>zJX (by exact h) _
theorem tl_l (g:zZk) (c:Int):PC (fun r=>r.zZo=true) (zO g c):=z6 fun _ _=>z6 fun _ _=>z6 fun r e=>by cases e; exact zbl rfl
def L0 (r:Int × zZk):Prop:=r.1=0→Lu r.2
theorem fi0_l (h:Vc g.zZF) (hn:Nd g.zZl):PC L0 (zaC g):=by
 obtain ⟨b,w,h1,h2,e⟩:=hn;refine zsG (fun c=>by rw [h1] at c; cases c) fun t a=>?_;rw [h1] at a;cases a;show PC _ (zaB _ b.z0n);exact zaZ (fun _=>zhG (an_l (by exact h)) fun r d=>zbl fun _=>d) fun c=>zbl fun _ => .inr (.inr ⟨b,w,rfl,h2,e (by simpa using c)⟩)
theorem fi2_l (h:Vc g.zZF) {f f2:zZw} (j:Fk f) (a:Fk f2) (i:(f.Kind=1∨f.Kind=2→f2=f)∧(f2.Kind=1∨f2.Kind=2→f2=f)) {b:zZK} (h1:g.zZl.z0t=some b) (h2:Nb f b):PC L0 (zaD g f2) :=
 zhG (newW a h.2.2.1 h.2.2.2) fun r c=>by
  obtain ⟨w,e,hn⟩:=c;rw [e];exact fi0_l (by exact h) ⟨b,w,h1,rfl,fun d=>newP j h2 hn h.2.2.1 h.2.2.2 i d⟩
theorem zJY (h:Vc g.zZF) {f f2:zZw} (e:Fk f) (a:Fk f2) (k:(f.Kind=1∨f.Kind=2→f2=f)∧(f2.Kind=1∨f2.Kind=2→f2=f)) (t:zZs) (v:zZr):PC L0 (zaE g t f f2 v) :=
 z6 fun o _=>z6 fun p _=>zaZ (fun c=>zbl fun d=>absurd d (by simpa using c)) fun _=>zhG (sd_p g _) fun i j=>by
  have h:Vc i.zZF:=by rw [j.1]; exact h
  refine zhG (newB e h.1 h.2.1) fun n l=>?_;obtain ⟨b,m,hn⟩:=l;rw [m];exact fi2_l (by exact h) e a k (by exact rfl) hn
theorem out_l (e:Fk f) (m:Int):PC (fun f2:zZw=>Fk f2∧(f.Kind=1∨f.Kind=2→f2=f)∧(f2.Kind=1∨f2.Kind=2→f2=f)) (zmK f m):=by
 obtain ⟨k,n0,b⟩:=e;refine zaZ (fun c=>zbl ⟨⟨k,n0,b⟩,fun _=>rfl,fun _=>rfl⟩) fun c=>zaZ (fun a=>zbl ⟨⟨k,n0,b⟩,fun _=>rfl,fun _=>rfl⟩) fun a=>?_
 have g:f.Kind≠1:=by simpa using c
 have a2:f.Kind≠2:=by simpa using a
 exact zaZ (fun _=>zbl ⟨⟨.inr (.inr (.inl rfl)),by simp,by simp⟩,fun d=>by omega,fun d=>by simp at d⟩) fun _=>zbl ⟨⟨.inr (.inr (.inr rfl)),by simp,by simp⟩,fun d=>by omega,fun d=>by simp at d⟩
theorem fi_l (h:Vc g.zZF) {v:zZr} (b:Fm v.Fields) (t:zZs):PC L0 (zbd g v t) :=
 zhG (lenR b) fun e h1=>zaZ (fun c=>zbl fun d=>absurd d (by simpa using c)) fun c=>by
  have a:=h1 (by simpa using c);exact zhG (out_l a t.Minor) fun f h2=>z6 fun i _=>zaZ (fun c=>zbl fun d=>absurd d (by simpa using c)) fun _=>zaZ (fun _=>z6 fun _ _=>zaZ (fun _=>zJY (by exact h) a h2.1 h2.2 _ _) fun _=>zJY (by exact h) a h2.1 h2.2 _ _) fun _=>z6 fun _ _=>zaZ (fun _=>zJY (by exact h) a h2.1 h2.2 _ _) fun _=>zJY (by exact h) a h2.1 h2.2 _ _
theorem in0_l (h:Vc g.zZF) (i:Int):PC L0 (zak g i):=zhG (zv7 (.inr rfl) h.1 h.2.1) fun r a=>zbl fun _ => .inr a
theorem in_l (h:Vc g.zZF) (v:zZr) (t:zZs):PC L0 (za2 g v t):=by
 have j:∀i s b,PC L0 (zal g i s b):=fun i s b=>zaZ (fun _=>zhG (sd_p g _) fun r a=>by
  have h:Vc r.zZF:=by rw [a.1]; exact h
  exact in0_l (by exact h) i) fun _=>in0_l (by exact h) i
 exact z6 fun e _=>zaZ (fun c=>zbl fun d=>absurd d (by simpa using c)) fun _=>z6 fun _ _=>zaZ (fun _=>j _ _ _) fun _=>j _ _ _
theorem zMQ {i:Int} (h:i=0→Lu g):PC Lu (zab g i):=zaZ (fun _=>zhG (tl_l g _) fun r a=>zbl (.inl a)) fun c=>zbl (h (by simpa using c))
theorem aw1_l (h:Vc g.zZF) {v:zZr} (b:Fm v.Fields) (t:zZs):PC Lu (zam g v t):=zaZ (fun _=>zMQ fun c=>absurd c (by simp)) fun _=>zaZ (fun _=>zhG (in_l (by exact h) v t) fun r a=>zMQ a) fun _=>zhG (fi_l (by exact h) b t) fun r a=>zMQ a
theorem aw_l (h:Vc g.zZF) (d:Sd g.zZl):PC Lu (zaK g):=by
 have j:∀(g:zZk) (v:zZr),Vc g.zZF→Fm v.Fields→PC Lu (zac g v):=fun g v h b=>zsG (fun _=>z6 fun _ _=>aw1_l (by exact h) b _) fun _ _=>z6 fun _ _=>aw1_l (by exact h) b _;refine zsG (fun _=>z6 fun r e=>by cases e; exact j _ _ h ⟨by simp,fun f i=>by cases i⟩) fun a k=>z6 fun r n=>?_
 have l:Am a:=by have:=d.1; rw [k] at this; exact this
 obtain ⟨r',c,m⟩:=(inferInstance:T (zbG a) _ _).ok l;rw [n] at c;cases c;exact j _ _ h (Hd_f m)
theorem zMR {a:zZA} (h:Am a) {s:Str} (c:s.length≤3000) (f:a.zZ6.length+s.length≤3000) {q:Int × Bool × Int × zZA} (e:zaT a s=some q):Am q.2.2.2:=by
 obtain ⟨d,b,k⟩:=(inferInstance:T (zaT a s) _ _).ok ⟨h,by omega⟩;rw [e] at b;cases b;exact k.1
theorem rq_l (h:SdL g.zZm) (t:Vc g.zZF) (n:Sd g.zZm) (j:kc g≤2999) {x:UInt8} {r:Int × zZk} (e:ze g [x]=some r):Lc r.2:=by
 rcases h with ⟨h1,a,h2,l,B⟩|⟨b,w,h1,h2,l⟩
 ·rw [rq_h h1 h2] at e
  have z:Am a:=by have:=n.1; rw [h2] at this; exact this
  have y:a.zZ6.length+([x]:Str).length≤3000:=by
   unfold kc kb at j; rw [h2] at j; simp at j ⊢; omega
  obtain ⟨q,i,e⟩:=bi e;have m:=zMR z (by simp) y i;rw [ac_f (by simp) l B] at i;have D:=(ac_n _ _ _ i).2.2;refine zaZ (Q:=fun r:Int × zZk=>Lc r.2) (fun _=>zhG (rf_l _ _) fun r f=>zbl f) (fun c=>zaZ (fun _=>zhG (as_l (g:=cS g (some q.2.2.2) none g.zZm.zZD) t ⟨m,trivial,n.2.2⟩) fun r f=>zbl f) fun d=>zbl (.inl (.inl ⟨rfl,_,rfl,?_⟩))) r e
  have c:q.2.2.1=0:=by simpa using c
  have d:q.2.1=false:=by simpa using d
  obtain ⟨_,v,C⟩:=D d c;exact ⟨v.resolve_right (by simp),C.resolve_right (by simp)⟩
 ·rw [rq_b h1 h2] at e;obtain ⟨o,i,e⟩:=bi e;obtain ⟨p,u,e⟩:=bi e;have k:=(bw_1 l i u).2;refine zhG (Q:=fun r:Int × zZk=>Lc r.2) (fw_p _ _) (fun A s=>zaZ (fun _=>zhG (rf_l _ _) fun r f=>zbl f) fun c=>zaZ (fun _=>zhG (wh_l (by rw [s.1]; exact t)) fun r f=>zbl f) fun d=>zbl (.inl ?_)) r e
  have c:o.2.2.2.1=0:=by simpa using c
  have d:o.2.2.1=false:=by simpa using d
  rcases k with ⟨_,k⟩|⟨_,_,k,_⟩
  ·rcases k with k|k
   ·rw [d] at k; cases k
   ·exact absurd c k
  ·show SdL A.zZm;rw [s.2.1];exact .inr ⟨_,_,rfl,rfl,k⟩
theorem rs_l (h:SdL g.zZl) (t:Vc g.zZF) (n:Sd g.zZl) (j:ku g≤2999) {x:UInt8} {r:Int × zZk} (e:zj g [x]=some r):Lu r.2:=by
 rcases h with ⟨h1,a,h2,l,B⟩|⟨b,w,h1,h2,l⟩
 ·rw [rs_h h1 h2] at e
  have z:Am a:=by have:=n.1; rw [h2] at this; exact this
  have y:a.zZ6.length+([x]:Str).length≤3000:=by
   unfold ku kb at j; rw [h2] at j; simp at j ⊢; omega
  obtain ⟨q,i,e⟩:=bi e;have m:=zMR z (by simp) y i;rw [ac_f (by simp) l B] at i;have D:=(ac_n _ _ _ i).2.2;refine zaZ (Q:=fun r:Int × zZk=>Lu r.2) (fun _=>zhG (tl_l _ _) fun r f=>zbl (.inl f)) (fun c=>zaZ (fun _=>zhG (aw_l (g:=uS g (some q.2.2.2) none g.zZl.zZD) t ⟨m,trivial,n.2.2⟩) fun r f=>zbl f) fun d=>zbl (.inr (.inl ⟨rfl,_,rfl,?_⟩))) r e
  have c:q.2.2.1=0:=by simpa using c
  have d:q.2.1=false:=by simpa using d
  obtain ⟨_,v,C⟩:=D d c;exact ⟨v.resolve_right (by simp),C.resolve_right (by simp)⟩
 ·rw [rs_b h1 h2] at e;obtain ⟨o,i,e⟩:=bi e;obtain ⟨p,u,e⟩:=bi e;have k:=(bw_1 l i u).2;refine zhG (Q:=fun r:Int × zZk=>Lu r.2) (sd_p _ _) (fun A s=>zaZ (fun _=>z6 fun E e=>by cases e; exact zbl (.inl rfl)) fun c=>zaZ (fun _=>zhG (an_l (by rw [s.1]; exact t)) fun r f=>zbl f) fun d=>zbl (.inr ?_)) r e
  have c:o.2.2.2.1=0:=by simpa using c
  have d:o.2.2.1=false:=by simpa using d
  rcases k with ⟨_,k⟩|⟨_,_,k,_⟩
  ·rcases k with k|k
   ·rw [d] at k; cases k
   ·exact absurd c k
  ·show SdL A.zZl;rw [s.2.2];exact .inr ⟨_,_,rfl,rfl,k⟩
end Go.Dm
end
section
namespace Go.Dm
variable {g:zZk} {x:UInt8}
theorem q_e {o:Option zZC} (h:g.Queue=o):(⟨o,g.z0h,g.zZF,g.zZ5,g.zZm,g.zZl,g.zZx,g.z0a,g.z0b,g.zZH,g.zZ3,g.z0c,g.zZU,g.zZW,g.zZX,g.zZo⟩:zZk)=g:=by
 subst h; rfl
theorem zNb {g r:zZk} {c:Int} (h:zO g c=some r):r=tel g c:=by
 obtain ⟨t,e,h⟩:=bi h;obtain ⟨b,a,h⟩:=bi h;rw [sd1] at a
 split at a
 ·cases a;cases h;unfold tel;rw [e]; rfl
 ·cases a
theorem zwE {g r:zZk} (h:zg g=some r):r=sg g:=by
 have f:∀(t:Bool) r,zaq g (ql g:Int) t=some r→r=if t=true then tel g 502 else if 0<ql g then g else if g.z0b≠0 then tel g g.z0b else if g.zZ3=true then clo g else g:=fun t r h=>by
  unfold zaq at h
  split at h
  ·rename_i c
   obtain ⟨m,b,h⟩:=bi h;cases h;rw [if_pos c]; exact zNb b
  rename_i c
  rw [if_neg c]
  split at h
  ·rename_i i
   cases h;rw [if_pos (by simpa using i)]
  rename_i i
  rw [if_neg (by simpa using i)]
  split at h
  ·rename_i j
   obtain ⟨m,b,h⟩:=bi h;cases h;rw [if_pos (by simpa using j)]; exact zNb b
  rename_i j
  rw [if_neg (by simpa using j)]
  split at h
  ·rename_i l
   obtain ⟨m,b,h⟩:=bi h;cases h;rw [if_pos l]; cases b; rfl
  ·rename_i l
   cases h;rw [if_neg l]
 have n:∀r,zaf g (ql g:Int)=some r→r=sg g:=fun r h=>by
  unfold zaf at h;unfold sg
  split at h
  ·rename_i c
   cases h;rw [if_pos c]
  rename_i c
  rw [if_neg c]
  split at h
  ·rename_i n0
   have n0:0<ql g:=by simpa using n0
   split at h
   ·rename_i d
    have:=f _ _ h;rw [this]
    cases hb:g.zZU with
    | true =>
     have a:¬ ((!true)=true):=by simp
     have z2:¬ (0<ql g∧g.z0c=true∧true=false):=by simp
     rw [if_neg a,if_neg z2]
    | false =>
     have a:(!false)=true:=rfl;rw [if_pos a,if_pos ⟨n0,d,rfl⟩]
   ·rename_i d
    have:=f _ _ h
    have a:¬ (false=true):=by simp
    have z2:¬ (0<ql g∧g.z0c=true∧g.zZU=false):=fun k=>d k.2.1;rw [this,if_neg a,if_neg z2]
  ·rename_i n0
   have n0:¬ 0<ql g:=by simpa using n0
   have:=f _ _ h
   have a:¬ (false=true):=by simp
   have z2:¬ (0<ql g∧g.z0c=true∧g.zZU=false):=fun k=>n0 k.1;rw [this,if_neg a,if_neg z2]
 unfold zg at h
 cases hq:g.Queue with
 | none =>
  have e:(ql g:Int)=0:=by unfold ql; rw [hq]; rfl
  rw [hq] at h;have h:zaf _ 0=some r:=h;rw [q_e hq, ← e] at h;exact n r h
 | some q =>
  have e:(ql g:Int)=q.zZQ.z0g.length:=by unfold ql; rw [hq]
  rw [hq] at h;have h:zaf _ (q.zZQ.z0g.length:Int)=some r:=h;rw [q_e hq, ← e] at h;exact n r h
def Lv (g:zZk):Prop:=g.zZo=true∨Lc g∧Lu g
theorem Lv_s (h:Lv g):Lv (sg g):=by
 rcases sg_c (g:=g) with k|k
 ·exact .inl k
 ·rw [k]; exact h
theorem zxD (g:zZk):(sg g).zZF=g.zZF:=by
 unfold sg
 split
 ·rfl
 split
 ·rfl
 split
 ·rfl
 split
 ·rfl
 split<;>rfl
theorem zNc (g:zZk):(sg g).zZ3=g.zZ3:=by
 unfold sg
 split
 ·rfl
 split
 ·rfl
 split
 ·rfl
 split
 ·rfl
 split<;>rfl
theorem rd_c (h:zI g=some true):g.zZo=false∧g.zZH=false:=by
 unfold zI at h
 split at h
 ·rename_i c
  split at h
  ·rename_i d
   exact ⟨by simpa using c,by simpa using d⟩
  ·cases h
 ·cases h
theorem dr_s (s:Str) (i:Int) (h:0≤i) (h2:i≤s.length):zar s i=some (dr s i):=by unfold zar; rw [if_pos ⟨h,h2⟩]; rfl
theorem zNd (i k:Int):zi (i+1) k=zi i (k+1):=by unfold zi; rw [show i+1+k=i+(k+1) by omega]
def Bc (g:zZk) (m:Int):Prop:=Gw g∧Vc g.zZF∧kc g+m≤3000∧tu g+10000000*m≤30000000000000∧tc g+10000*m≤30000000000000
def Bu (g:zZk) (m:Int):Prop:=Gw g∧Vc g.zZF∧ku g+m≤3000∧tc g+10000000*m≤30000000000000
noncomputable abbrev NF (c:WS):WS:=nf s1 s2 mw c
abbrev QW (c d:WS):Prop:=Q2 (fun c:WS=>c.g.zZo=true) (fun c:WS=>c.g.zZx) c d
theorem PKe_u {g r:zZk} {q:zZC} (h:g.Queue=some q) (h1:(q.zZQ.z0g.length:Int)<q.zZQ.zZE) (h2:q.zZQ.zZE≤64) (e:PKe (some x) g=some r):r.zZF=g.zZF∧r.zZl=g.zZl∧r.zZo=g.zZo∧r.zZ3=g.zZ3:=by
 obtain ⟨s,_,rfl,c⟩:=PK_1 h h1 h2 e;exact ⟨c.2.1,rfl,rfl,rfl⟩
theorem QKe_u {j:Option UInt8} {g r:zZk} {t:zZs} {l:List zZs} {m:Int} {b:Bool} (h:g.Queue=some ⟨⟨t::l,m⟩,b⟩) (hc:g.zZo=false) (e:QKe j g=some r):r.zZF=g.zZF∧r.zZ3=g.zZ3∧(r.zZo=true∨r.zZm=g.zZm∧r.zZH=g.zZH):=by
 rw [zuC h] at e;obtain ⟨s,c,rfl⟩:=om_i e;refine ⟨(QK_1 j h hc c).2.1,rfl,?_⟩
 cases a:s.zZo with
 | true=>exact .inl a
 | false =>
  refine .inr ⟨?_,rfl⟩;show (bif s.zZo then s.zZm else g.zZm)=_;rw [a]; rfl
theorem pk_t {a:Int × zZk} {q:zZC} (h:g.Queue=some q) (h1:(q.zZQ.z0g.length:Int)<q.zZQ.zZE) (h2:q.zZQ.zZE≤64) (e:ze g [x]=some a):PKe (some x) g=some a.2:=by
 obtain ⟨s,b,rfl⟩:=(req_j h h1 h2 [x]).1 a e
 have c:zqj g=q.zZW:=by unfold zqj; rw [h]
 show (ze (bC g (zqj g)) [x]).map _=_;rw [c,b]; rfl
theorem qk_t {a:Int × zZk} {t:zZs} {l:List zZs} {m:Int} {b:Bool} (h:g.Queue=some ⟨⟨t::l,m⟩,b⟩) (hc:g.zZo=false) (e:zj g [x]=some a):QKe (some x) g=some a.2:=by
 obtain ⟨s,c,rfl⟩:=(res_j h hc [x]).1 a e;rw [zuC h];show ((zj (bU g t) [x]).bind fun r=>some r.2).map _=_;rw [c]; rfl
theorem zNe {s:Str} (hs:s.length≤3000) (rest b:List UInt8) (ea eb:Bool):∀(m n:Nat) (i:Int) (g:zZk) (r:Int × Int × zZk),0≤i→i+m=s.length→m<n →
  Bc g m→Ig g ea→Lv g→(g.zZo=true∨g.zZ3=false)→zh s n g i=some r →
  NF ⟨g,dr s i++rest,b,ea,eb⟩=NF ⟨r.2.2,dr s r.1++rest,b,ea,eb⟩∧Ig r.2.2 ea∧Lv r.2.2∧(r.2.2.zZo=true∨r.2.2.zZ3=false)∧r.2.2.zZF=g.zZF
 | m,0,i,g,r,_,_,h,_,_,_,_,_=>by omega
 | 0,n+1,i,g,r,h0,h1,h2,hB,v,A,F,e=>by
  unfold zh zaN at e;rw [if_neg (by simp; omega),if_neg (by simp)] at e;cases e;exact ⟨rfl,v,A,F,rfl⟩
 | m + 1,n+1,i,g,r,h0,h1,h2,hB,v,A,F,e=>by
  have hi:i<s.length:=by omega
  obtain ⟨x,_,ed⟩:=dr_c h0 hi;have e0:=e;unfold zh at e;rw [if_pos (by simpa using hi)] at e;obtain ⟨rd,y,e⟩:=bi e
  cases rd with
  | false =>
   cases e;exact ⟨rfl,v,A,F,rfl⟩
  | true =>
   obtain ⟨hc,z⟩:=rd_c y;obtain ⟨B1,B2,B3,B4,B5⟩:=hB;obtain ⟨q,E,G,I3,I4,I5,I6,I7,I8,I9⟩:=v.resolve_left (by rw [hc]; simp)
   have sd:SdL g.zZm:=by
    have:=(A.resolve_left (by rw [hc]; simp)).1;exact this.resolve_right (by rw [z]; simp)
   have lu:Lu g:=(A.resolve_left (by rw [hc]; simp)).2;have hg:g.zZ3=false:=F.resolve_left (by rw [hc]; simp);have e:(zar s i).bind (fun u=>(ze g u).bind fun C=>(zi i C.1).bind fun j=>(zg C.2).bind fun f=>zh s n f j)=some r:=e;rw [dr_s s i h0 (by omega),ed] at e;have e:(ze g (x::dr s (i+1))).bind (fun C=>(zi i C.1).bind fun j=>(zg C.2).bind fun f=>zh s n f j)=some r:=e;obtain ⟨d,o,p1,p2,p3,p4,p5,p6,p7,p8⟩:=(inferInstance:T (ze g [x]) _ _).ok ⟨B1,by show kc g+(1:Int)≤3000; omega,by omega⟩;obtain ⟨k1,w⟩:=rq_1 sd o;have en:En1 (some x) g:=fun _=>⟨hg,y⟩;have rm:=room (ea:=ea) (i:=some x) E G I3 I8 en (by simp);have O:PKe (some x) g=some d.2:=pk_t E rm G o;have K:=s1_m (g:=g) (a:=x::(dr s (i+1)++rest)) (b:=b) (ea:=ea) (eb:=eb) (l:=dr s (i+1)++rest) (e:=ea) (i:=some x) hc ⟨rfl,rfl⟩ en O;have W:Iw ⟨g,x::(dr s (i+1)++rest),b,ea,eb⟩:=v;have n1:=nf_1 dia W K;have P:=Ig_1 (a:=x::dr s (i+1)) (l:=dr s (i+1)) (e:=ea) hc v (i:=some x) ⟨rfl,rfl⟩ en O;obtain ⟨D,Y,U,Q⟩:=PKe_u E rm G O
   have L2:Lv (sg d.2):=Lv_s (.inr ⟨rq_l sd B2 B1.2.2.2.2.1 (by omega) o,by
    rcases lu with l|l
    ·exact .inl (by rw [U]; exact l)
    ·exact .inr (by rw [Y]; exact l)⟩)
   obtain ⟨gs,H,t1,t2,t3,t4,t5,_⟩:=(inferInstance:T (zg d.2) _ _).ok ⟨p3,by omega⟩;have X:=zwE H;subst X;have kB:Bc (sg d.2) m:=⟨t1,by rw [zxD,D]; exact B2,by omega,by omega,by omega⟩;have R:(sg d.2).zZo=true∨(sg d.2).zZ3=false := .inr (by rw [zNc,Q]; exact hg);rw [ed];show NF ⟨g,x::(dr s (i+1)++rest),b,ea,eb⟩=_∧_
   have a1:zi i 1=some (i+1):=by simp [zi,inI]; omega
   have fin:∀p,m<p→zh s p (sg d.2) (i+1)=some r→NF ⟨g,x::(dr s (i+1)++rest),b,ea,eb⟩=NF ⟨r.2.2,dr s r.1++rest,b,ea,eb⟩∧Ig r.2.2 ea∧Lv r.2.2∧(r.2.2.zZo=true∨r.2.2.zZ3=false)∧r.2.2.zZF=g.zZF:=fun p M e'=>by
    obtain ⟨z1,z2,z3,z4,z5⟩:=zNe hs rest b ea eb m p (i+1) (sg d.2) r (by omega) (by omega) M kB P L2 R e';exact ⟨n1.trans z1,z2,z3,z4,by rw [z5,zxD,D]⟩
   rcases w with w|⟨⟨c,t,k3,k4,k5⟩,w⟩
   ·rw [w _ (by unfold dr; rw [List.length_drop]; omega)] at e;have e:(zi i d.1).bind (fun j=>(zg d.2).bind fun f=>zh s n f j)=some r:=e;rw [k1,a1] at e;have e:(zg d.2).bind (fun f=>zh s n f (i+1))=some r:=e;rw [H] at e;exact fin n (by omega) e
   ·have same:sg d.2=d.2:=by
     rw [k3];exact zHs I4 fun c=>⟨(I5 c).1,(I5 c).2.1⟩
    rw [same] at fin H;refine fin (n+1) (by omega) ?_;have e:=e;rw [w _ (by unfold dr; rw [List.length_drop]; omega)] at e;obtain ⟨q2,J,e⟩:=bi e;obtain ⟨k,V,J⟩:=bi J;cases J;have Z:(zi i (k.1+1)).bind (fun j=>(zg k.2).bind fun f=>zh s n f j)=some r:=e;unfold zh
    by_cases B:i+1<s.length
    ·have N:zI d.2=some true:=by
      rw [k3];exact (ztQ (g:=cU g c t) E G I3).2 ⟨hc,z,.inl k5⟩
     rw [if_pos (by simpa using B),N];show (zar s (i+1)).bind _=_;rw [dr_s s (i+1) (by omega) (by omega)];show (ze d.2 (dr s (i+1))).bind _=_;rw [V];show (zi (i+1) k.1).bind _=_;rw [zNd]; exact Z
    ·have L:dr s (i+1)=[]:=List.drop_eq_nil_of_le (by omega);have I:=w [] (by simp);rw [L] at V;rw [o,V] at I;have I:some d=some (k.1+1,k.2):=I;cases I;have S:k.1+1=1:=k1;rw [S] at Z;have e:(zi i 1).bind (fun j=>(zg k.2).bind fun f=>zh s n f j)=some r:=Z;rw [a1] at e;have e:(zg k.2).bind (fun f=>zh s n f (i+1))=some r:=e;rw [H] at e;have e:zh s n k.2 (i+1)=some r:=e;obtain ⟨p,rfl⟩:∃p,n=p+1:=⟨n-1,by omega⟩;unfold zh at e;rw [if_neg (by simpa using B)] at e ⊢;exact e
theorem zNf {s:Str} (hs:s.length≤3000) (rest a:List UInt8) (ea eb:Bool):∀(m n:Nat) (i:Int) (g:zZk) (r:Int × Int × zZk),0≤i→i+m=s.length→m<n →
  Bu g m→Ig g ea→Lv g→za s n g i=some r →
  QW (NF ⟨g,a,dr s i++rest,ea,eb⟩) (NF ⟨r.2.2,a,dr s r.1++rest,ea,eb⟩)∧Ig r.2.2 ea∧Lv r.2.2∧r.2.2.zZF=g.zZF∧r.2.2.zZ3=g.zZ3
 | m,0,i,g,r,_,_,h,_,_,_,_=>by omega
 | 0,n+1,i,g,r,h0,h1,h2,hB,w,A,e=>by
  unfold za zx at e;rw [if_neg (by simp; omega),if_neg (by simp)] at e;cases e;exact ⟨.inl rfl,w,A,rfl,rfl⟩
 | m + 1,n+1,i,g,r,h0,h1,h2,hB,w,A,e=>by
  have hi:i<s.length:=by omega
  obtain ⟨x,_,X⟩:=dr_c h0 hi
  have out:some ((i,0,g):Int × Int × zZk)=some r→QW (NF ⟨g,a,dr s i++rest,ea,eb⟩) (NF ⟨r.2.2,a,dr s r.1++rest,ea,eb⟩)∧Ig r.2.2 ea∧Lv r.2.2∧r.2.2.zZF=g.zZF∧r.2.2.zZ3=g.zZ3:=fun e=>by
   cases e;exact ⟨.inl rfl,w,A,rfl,rfl⟩
  have uf:∀(n:Nat) (g:zZk) (q:zZC) (i:Int),i<s.length→g.zZo=false→g.z0c=false→g.Queue=some q→za s (n+1) g i=zx (za s n) g s i (decide ((0:Int)<q.zZQ.z0g.length)):=fun n g q i hi hc hd z=>by
   conv=>lhs; unfold za
   rw [if_pos (by simpa using hi),if_pos (by rw [hc]; rfl),if_pos (by rw [hd]; rfl),z];show zx _ _ s i (decide ((0:Int)<q.zZQ.z0g.length))=_;rw [q_e z]
  rcases Bool.eq_false_or_eq_true g.zZo with hc|hc
  ·unfold za at e;rw [if_pos (by simpa using hi),if_neg (by rw [hc]; simp)] at e;exact out e
  rcases Bool.eq_false_or_eq_true g.z0c with hd|hd
  ·unfold za at e;rw [if_pos (by simpa using hi),if_pos (by rw [hc]; rfl),if_neg (by rw [hd]; simp)] at e;exact out e
  obtain ⟨q,F,I2,I3,I4,Z,I6,I7,I8,I9⟩:=w.resolve_left (by rw [hc]; simp);rw [uf n g q i hi hc hd F] at e
  by_cases n0:(0:Int)<q.zZQ.z0g.length
  ·rw [decide_eq_true n0] at e
   have q0:0<ql g:=by unfold ql; rw [F]; show 0<q.zZQ.z0g.length; omega
   obtain ⟨tk,l,z,ht⟩:=q_c F q0;obtain ⟨B1,W,B3,B4⟩:=hB;have Y:Lc g:=(A.resolve_left (by rw [hc]; simp)).1;have sd:SdL g.zZl:=((A.resolve_left (by rw [hc]; simp)).2).resolve_left (by rw [hc]; simp);have e:(zar s i).bind (fun u=>(zj g u).bind fun C=>(zi i C.1).bind fun k=>(zg C.2).bind fun f=>za s n f k)=some r:=e;rw [dr_s s i h0 (by omega),X] at e;have e:(zj g (x::dr s (i+1))).bind (fun C=>(zi i C.1).bind fun k=>(zg C.2).bind fun f=>za s n f k)=some r:=e;obtain ⟨d,p,p1,p2,p3,p4,p5,p6,p7,p8⟩:=(inferInstance:T (zj g [x]) _ _).ok ⟨B1,by show ku g+(1:Int)≤3000; omega,by omega⟩;obtain ⟨k1,y⟩:=rs_1 sd p;have en:En2 (some x) g:=fun _=>⟨hd,q0⟩;have qk:QKe (some x) g=some d.2:=qk_t z hc p
   have qs:QS (some x) g=some d.2:=by rw [QS_k hd]; exact qk
   have J:=s2_m (g:=g) (a:=a) (b:=x::(dr s (i+1)++rest)) (ea:=ea) (eb:=eb) (l:=dr s (i+1)++rest) (e:=eb) (j:=some x) hc ⟨rfl,rfl⟩ en qs;have R:Iw ⟨g,a,x::(dr s (i+1)++rest),ea,eb⟩:=w;have n1:=nf_2 dia _ _ _ (Nat.le_refl _) R J;have M:=Ig_2 hc w en qs;obtain ⟨D,U,P⟩:=QKe_u z hc qk
   have L2:Lv (sg d.2):=by
    refine Lv_s ?_
    rcases P with c|⟨c1,c2⟩
    ·exact .inl c
    ·refine .inr ⟨?_,rs_l sd W B1.2.2.2.2.2.1 (by omega) p⟩;unfold Lc at Y ⊢;rw [c1,c2]; exact Y
   obtain ⟨gs,G,t1,t2,t3,t4,t5,_⟩:=(inferInstance:T (zg d.2) _ _).ok ⟨p3,by omega⟩;have S:=zwE G;subst S;have kB:Bu (sg d.2) m:=⟨t1,by rw [zxD,D]; exact W,by omega,by omega⟩;rw [X];show QW (NF ⟨g,a,x::(dr s (i+1)++rest),ea,eb⟩) _∧_
   have a1:zi i 1=some (i+1):=by simp [zi,inI]; omega
   have fin:∀v,m<v→za s v (sg d.2) (i+1)=some r→QW (NF ⟨g,a,x::(dr s (i+1)++rest),ea,eb⟩) (NF ⟨r.2.2,a,dr s r.1++rest,ea,eb⟩)∧Ig r.2.2 ea∧Lv r.2.2∧r.2.2.zZF=g.zZF∧r.2.2.zZ3=g.zZ3:=fun v L e'=>by
    obtain ⟨z1,z2,z3,z4,z5⟩:=zNf hs rest a ea eb m v (i+1) (sg d.2) r (by omega) (by omega) L kB M L2 e';exact ⟨n1.trans z1,z2,z3,by rw [z4,zxD,D],by rw [z5,zNc,U]⟩
   rcases y with y|⟨⟨c,t,E,k4,k5⟩,y⟩
   ·rw [y _ (by unfold dr; rw [List.length_drop]; omega)] at e;have e:(zi i d.1).bind (fun k=>(zg d.2).bind fun f=>za s n f k)=some r:=e;rw [k1,a1] at e;have e:(zg d.2).bind (fun f=>za s n f (i+1))=some r:=e;rw [G] at e;exact fin n (by omega) e
   ·have same:sg d.2=d.2:=by
     rw [E];exact zHs I4 fun c=>⟨(Z c).1,(Z c).2.1⟩
    rw [same] at fin G;refine fin (n+1) (by omega) ?_;have e:=e;rw [y _ (by unfold dr; rw [List.length_drop]; omega)] at e;obtain ⟨q2,I,e⟩:=bi e;obtain ⟨o,Q,I⟩:=bi I;cases I;have V:(zi i (o.1+1)).bind (fun k=>(zg o.2).bind fun f=>za s n f k)=some r:=e
    by_cases B:i+1<s.length
    ·have N:d.2.Queue=some q:=by rw [E]; exact F
     rw [uf n d.2 q (i+1) B (by rw [E]; exact hc) (by rw [E]; exact hd) N,decide_eq_true n0];show (zar s (i+1)).bind _=_;rw [dr_s s (i+1) (by omega) (by omega)];show (zj d.2 (dr s (i+1))).bind _=_;rw [Q];show (zi (i+1) o.1).bind _=_;rw [zNd]; exact V
    ·have K:dr s (i+1)=[]:=List.drop_eq_nil_of_le (by omega);have H:=y [] (by simp);rw [K] at Q;rw [p,Q] at H;have H:some d=some (o.1+1,o.2):=H;cases H;have O:o.1+1=1:=k1;rw [O] at V;have e:(zi i 1).bind (fun k=>(zg o.2).bind fun f=>za s n f k)=some r:=V;rw [a1] at e;have e:(zg o.2).bind (fun f=>za s n f (i+1))=some r:=e;rw [G] at e;have e:za s n o.2 (i+1)=some r:=e;obtain ⟨v,rfl⟩:∃v,n=v+1:=⟨n-1,by omega⟩;unfold za at e ⊢;rw [if_neg (by simpa using B)] at e ⊢;exact e
  ·rw [decide_eq_false n0] at e;exact out e
end Go.Dm
end
