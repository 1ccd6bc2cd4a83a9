/-
 When the models come to something: printed by a program (wip/gen/yt.py) off the models and a table. No program in sight.
 When the models come to something: printed by a program (wip/gen/yt.py) off the models and a table. No program in sight.
 AuditGrows in plain Lean: event by event what was sent only grows; New's error is the document's. No program in sight. The three halves' definitions: printed by ypw.py.
 AuditGrows in plain Lean: New's error is the document's; the law. No program in sight.
 Walks by evaluation: operations that turn nothing. Over any program.
 Walks by evaluation: each o
-/
import Derived.Test.YtlgjcjonmfcacaaGreatDoorG16
import Derived.Test.YtlgjcjonmfcacaaGreatDoorXC1
import Derived.Test.YtlgjcjonmfcacaaGreatDoorYRun
import Derived.Test.YtlgjcjonmfcacaaGreatDoorP0
set_option linter.unusedVariables false
set_option linter.unusedSimpArgs false
set_option linter.unusedVariables false
set_option linter.unusedSimpArgs false
section
set_option linter.unusedVariables false
set_option maxRecDepth 10000
set_option maxHeartbeats 2000000
namespace Go.Dm
instance (x_g:zWv):T (zaU x_g) (Gw x_g∧tc x_g≤40000000000000) (fun r=>Gw r.2∧kc r.2≤kc x_g∧ku r.2≤ku x_g∧tc r.2≤tc x_g+1310000∧tu r.2=tu x_g∧(x_g.zW3=true→r.2.zW3=true)):=⟨by unfold zaU; exact goJ⟩

instance  : T (zlO) (True) (fun r=>True):=⟨by unfold zlO; exact gu⟩

instance (x_b:zW2):T (zjg x_b) (Bm x_b) (fun r=>Bm r.2.2):=⟨by unfold zjg zgx; exact goG⟩

instance (vp0:zWv) (t3:Bool):T (z6 vp0 t3) (Gw vp0∧tc vp0≤40000000000000) (fun r=>Gw r.2∧kc r.2≤kc vp0∧ku r.2≤ku vp0∧tc r.2≤tc vp0+1310000∧tu r.2=tu vp0):=⟨by unfold z6; exact goJ⟩

instance (x_g:zWv):T (zT x_g) (Gw x_g∧tc x_g≤40000000000000) (fun r=>Gw r.2∧kc r.2≤kc x_g∧ku r.2≤ku x_g∧tc r.2≤tc x_g+1310000∧tu r.2=tu x_g∧(x_g.zW3=true→r.2.zW3=true)):=⟨by unfold zT; exact goJ⟩

end Go.Dm
end
section
set_option linter.unusedVariables false
set_option maxRecDepth 10000
set_option maxHeartbeats 2000000
namespace Go.Dm
instance (x_g:zWv):T (zax x_g) (True) (fun r=>r=x_g.zW3):=⟨by unfold zax; exact gu⟩

end Go.Dm
end
section
set_option linter.unusedVariables false
set_option maxRecDepth 10000
set_option maxHeartbeats 4000000
namespace Go.Dm
theorem L0_s (n:Nat) (w:zWF) (i3 i4:Int):zbn (n+1) w i3 i4=if (decide (i4<2)) then zEG (zbn n) w i3 i4 else some (i3,some w):=rfl
def uc (w:zWF):Int:=w.zWy.zXj.length-w.zWy.zXa
def uu (w:zWF):Int:=w.zWw.zXj.length-w.zWw.zXa
def Mz (w:zWF):Int:=uc w+uu w+st w.zWy.zXl+st w.zWw.zXl
def Bz (w:zWF):Int:=10000000*(uc w+uu w)+30000000*Mz w
def Wr (w:zWF):Prop:=Gw w.Gateway∧tc w.Gateway=0∧tu w.Gateway=0∧w.zWy.zXj.length≤3000∧w.zWw.zXj.length≤3000∧0≤w.zWy.zXa∧w.zWy.zXa≤w.zWy.zXj.length∧0≤w.zWw.zXa∧w.zWw.zXa≤w.zWw.zXj.length∧kc w.Gateway+uc w≤3000∧ku w.Gateway+uu w≤3000
def Sn (w:zWF) (k:Int):Prop:=w.zWy.zW6.length+Bz w≤k∧w.zWw.zW6.length+Bz w≤k
def Gr (a b:List UInt8) (m:zXx) (w:zWF):Prop:=a <+: w.zWy.zW6∧b <+: w.zWw.zW6∧m.Client≤w.zWT.Client∧m.Upstream≤w.zWT.Upstream
def Gq (a b:List UInt8) (m:zXx):Option zWF→Prop
 | none=>False
 | some w=>Gr a b m w
theorem pre_ap {a s:List UInt8} (h:a <+: s) (t:List UInt8):a <+: s++t:=by
 obtain ⟨u,rfl⟩:=h; exact ⟨u++t,by simp⟩
theorem pre_t {a b c:List UInt8} (h:a <+: b) (h2:b <+: c):a <+: c:=h.trans h2
theorem goTk {G:Prop} (h:G:=by
 (with_reducible repeat' first|intro _|refine And.intro ?_ ?_|refine Wf ?_ ?_|refine Wi ?_ ?_|refine Ws ?_|refine Wc ?_ ?_|refine Wo ?_ ?_|refine Wk ?_|refine We ?_ ?_)
 all_goals (try simp only [List.length_cons,List.length_nil])
 all_goals grind (gen:=8) (ematch:=8) [pre_ap,List.prefix_append,oA,kb, = kb_e,oB,oW,Sd,oQ,Gw,Cd,kc,ku,tc,tu,Rs1,st,fuel,zay,zH]):G:=h
instance takeG (x_w:zWF):T (zw x_w) (Gw x_w.Gateway∧0≤tc x_w.Gateway∧x_w.zWy.zW6.length+tc x_w.Gateway≤100000000000000∧x_w.zWw.zW6.length+tu x_w.Gateway≤100000000000000) (fun r=>(Gw r.Gateway∧kc r.Gateway=kc x_w.Gateway∧ku r.Gateway=ku x_w.Gateway∧tc r.Gateway=0∧tu r.Gateway=0∧r.zWy.zXj=x_w.zWy.zXj∧r.zWy.zXa=x_w.zWy.zXa∧r.zWy.zXq=x_w.zWy.zXq∧r.zWy.zXl=x_w.zWy.zXl∧r.zWy.zW6.length=x_w.zWy.zW6.length+tc x_w.Gateway∧r.zWw.zXj=x_w.zWw.zXj∧r.zWw.zXa=x_w.zWw.zXa∧r.zWw.zXq=x_w.zWw.zXq∧r.zWw.zXl=x_w.zWw.zXl∧r.zWw.zW6.length=x_w.zWw.zW6.length+tu x_w.Gateway)∧x_w.zWy.zW6 <+: r.zWy.zW6∧x_w.zWw.zW6 <+: r.zWw.zW6∧x_w.zWT.Client≤r.zWT.Client∧x_w.zWT.Upstream≤r.zWT.Upstream∧r.Gateway.zW3=x_w.Gateway.zW3):=⟨fun h=>by unfold zw; exact goTk⟩
theorem goWi {G:Prop} (h:G:=by
 (with_reducible repeat' first|intro _|refine And.intro ?_ ?_|refine Wf ?_ ?_|refine Wi ?_ ?_|refine Ws ?_|refine Wc ?_ ?_|refine Wo ?_ ?_|refine Wk ?_|refine We ?_ ?_)
 all_goals (try simp only [List.length_cons,List.length_nil])
 all_goals grind (gen:=8) (ematch:=8) [Gr,Gq, → pre_t,tc,tu,Wr,Sn,Bz,uc,uu,Mz,st,fuel]):G:=h
section
variable {a b:List UInt8} {m:zXx} {F:zWF→Int→Int→Option (Int × Option zWF)} {n:Int}
instance iU0 [h:∀w i3 i4,K (F w i3 i4) (fun r=>Gq a b m r.2) (Wr w∧0≤i3∧i3+uc w+uu w≤6000∧0≤i4∧i4≤3∧(i4<2→Mz w+2≤n∧Sn w 10000000000000)∧1≤n∧Gr a b m w)] (w:zWF) (i3:Int):K (zuZ F w i3) (fun r=>Gq a b m r.2) (Wr w∧0≤i3∧i3+uc w+uu w≤6000∧Mz w+2≤n∧1≤n∧Sn w 9999988000000∧Gr a b m w):=⟨fun h=>by unfold zuZ; exact goWi⟩
instance iU1 [h:∀w i3 i4,K (F w i3 i4) (fun r=>Gq a b m r.2) (Wr w∧0≤i3∧i3+uc w+uu w≤6000∧0≤i4∧i4≤3∧(i4<2→Mz w+2≤n∧Sn w 10000000000000)∧1≤n∧Gr a b m w)] (w:zWF) (i3 i4:Int):K (zAn F w i3 i4) (fun r=>Gq a b m r.2) (Wr w∧0≤i3∧i3+uc w+uu w≤6000∧1≤i4∧i4≤2∧Mz w+1≤n∧1≤n∧Sn w 10000018000000∧Gr a b m w):=⟨fun h=>by unfold zAn; exact goWi⟩
instance iCH [h:∀w i3 i4,K (F w i3 i4) (fun r=>Gq a b m r.2) (Wr w∧0≤i3∧i3+uc w+uu w≤6000∧0≤i4∧i4≤3∧(i4<2→Mz w+2≤n∧Sn w 10000000000000)∧1≤n∧Gr a b m w)] (w:zWF) (i3 i4:Int):K (zEG F w i3 i4) (fun r=>Gq a b m r.2) (Wr w∧0≤i3∧i3+uc w+uu w≤6000∧0≤i4∧i4<2∧Mz w+1≤n∧1≤n∧Sn w 10000000000000∧Gr a b m w):=⟨fun h=>by unfold zEG; exact goWi⟩
end
theorem Mz_0 {w:zWF} (h:Wr w):0≤Mz w:=by grind [Wr,Mz,uc,uu,st]
instance iL0 (a b:List UInt8) (m:zXx) (n:Nat) (w:zWF) (i3 i4:Int):K (zbn n w i3 i4) (fun r=>Gq a b m r.2) (Wr w∧0≤i3∧i3+uc w+uu w≤6000∧0≤i4∧i4≤3∧(i4<2→Mz w+2≤(n:Int)∧Sn w 10000000000000)∧1≤(n:Int)∧Gr a b m w):=by
 induction n generalizing w i3 i4 with
 | zero=>exact ⟨fun h=>by omega⟩
 | succ n ih =>
  refine ⟨fun ⟨h1,h2,h3,h4,h5,h6,h7,h9⟩=>?_⟩;have:=Mz_0 h1;rw [L0_s];refine Wi (fun c=>?_) fun _=>Ws h9
  have c2:i4<2:=by simpa using c
  have h8:=h6 c2;exact (iCH (F:=zbn n) (n:=(n:Int)) (h:=ih) w i3 i4).ok ⟨h1,h2,h3,h4,c2,by omega,by omega,h8.2,h9⟩
def Iv (w:zWF) (k:Int):Prop:=Wr w∧uc w+uu w≤6000∧Sn w k
def Dq (v:zWF) (k:Int):Option zWF→Prop
 | none=>False
 | some w=>Iv w k∧Gr v.zWy.zW6 v.zWw.zW6 v.zWT w∧(v.Gateway.zW3=true→w.Gateway.zW3=true)
theorem Gr_r (w:zWF):Gr w.zWy.zW6 w.zWw.zW6 w.zWT w:=⟨List.prefix_refl _,List.prefix_refl _,Int.le_refl _,Int.le_refl _⟩
theorem goWd {G:Prop} (h:G:=by
 (with_reducible repeat' first|intro _|refine And.intro ?_ ?_|refine Wf ?_ ?_|refine Wi ?_ ?_|refine Ws ?_|refine Wc ?_ ?_|refine Wo ?_ ?_|refine Wk ?_|refine We ?_ ?_)
 all_goals (try simp only [List.length_cons,List.length_nil])
 all_goals grind (gen:=8) (ematch:=8) [Gr_r,Iv,Dq,Gr, → pre_t,tc,tu,Wr,Sn,Bz,uc,uu,Mz,st,fuel]):G:=h
theorem Do_w (w:zWF) (e:zXh) (k:Int) (h:Iv w k) (hk:k≤9000000000000):W (ze1 (some w) e) (fun r=>Dq w (k+10000000) r.2.2):=by
 have hr:=Gr_r w;unfold ze1 zgU;show W ((zkl e).bind _) _;exact goWd
inductive Dos:List zXh→zWF→zWF→Prop
 | nil (w:zWF):Dos [] w w
 | cons {e:zXh} {l:List zXh} {w v u:zWF} {a b:Int} (h:ze1 (some w) e=some (a,b,some v)) (d:Dos l v u):Dos (e::l) w u
theorem Dos_i {e:zXh} {l:List zXh} {w u:zWF} (d:Dos (e::l) w u):∃a b v,ze1 (some w) e=some (a,b,some v)∧Dos l v u:=by
 cases d with
 | cons h d=>exact ⟨_,_,_,h,d⟩
theorem Dos_n {w u:zWF} (d:Dos [] w u):u=w:=by cases d; rfl
theorem Dos_t:∀(l:List zXh) (w:zWF) (k:Int),Iv w k→k+10000000*l.length≤9000000000000→∃u,Dos l w u∧Iv u (k+10000000*l.length)
 | [],w,k,h,_=>⟨w, .nil w,by simpa using h⟩
 | e::l,w,k,h,hk=>by
  rw [List.length_cons] at hk;obtain ⟨⟨a,b,o⟩,e1,h1⟩:=Do_w w e k h (by omega)
  cases o with
  | none=>exact h1.elim
  | some v =>
   obtain ⟨u,d,hu⟩:=Dos_t l v (k+10000000) h1.1 (by omega);refine ⟨u, .cons e1 d,?_⟩;rw [List.length_cons]
   have:k+10000000+10000000*(l.length:Int)=k+10000000*((l.length+1:Nat):Int):=by omega
   rw [← this]; exact hu
theorem zLc {α:Type} {l:List α} {i:Int} (h0:0≤i) (h:i<l.length):∃x,lAt l i=some x∧l.drop i.toNat=x::l.drop (i+1).toNat:=by
 have hi:i.toNat<l.length:=by omega
 have e:(i+1).toNat=i.toNat+1:=by omega
 exact ⟨l[i.toNat],by simp [lAt,h0,hi],by rw [e]; exact List.drop_eq_getElem_cons hi⟩
theorem add1 {i:Int} {l:List zXh} (h0:0≤i) (h:i<l.length) (hl:l.length≤150):zd i 1=some (i+1):=by
 simp [zd,inI]; omega
theorem run_l (l:List zXh) (hl:l.length≤150):∀(n:Nat) (i:Int) (w u:zWF),0≤i→i≤l.length→(l.length:Int)<i+n→Dos (l.drop i.toNat) w u →
  zmh l (l.length:Int) n (some w) i=(ziu (some u)).bind fun r4=>(zcU r4.2).bind fun r5=>some (r5.1,0)
 | 0,i,w,u,h0,h1,h2,_=>by omega
 | n+1,i,w,u,h0,h1,h2,d=>by
  unfold zmh
  by_cases h:i<l.length
  ·obtain ⟨x,e1,e2⟩:=zLc h0 h;rw [e2] at d;obtain ⟨a,b,v,hd,d⟩:=Dos_i d;rw [if_pos (by simpa using h),e1];show (ze1 (some w) x).bind _=_;rw [hd];show (zd i 1).bind _=_;rw [add1 h0 h hl];exact run_l l hl n (i+1) v u (by omega) (by omega) (by omega) d
  ·have e:l.drop i.toNat=[]:=List.drop_eq_nil_of_le (by omega);rw [e] at d;rw [Dos_n d,if_neg (by simpa using h)]
theorem bs {α β:Type} (a:α) (f:α→Option β):(some a).bind f=f a:=rfl
def rsO (w:zWF):zXd:=⟨w.zWy.zW6,w.zWw.zW6,w.zWy.zXa,w.zWw.zXa,w.zWT,w.Gateway.zW3⟩
theorem Res_s (w:zWF):zcU (some w)=some (rsO w,some w):=rfl
theorem pre_b {a b:List UInt8} (h:b <+: a):strings_HasPrefix a b=some true:=by
 obtain ⟨r,e,h1,_⟩:=(inferInstance:T (strings_HasPrefix a b) _ _).ok trivial;rw [e,h1,List.isPrefixOf_iff_prefix.2 h]
theorem Beg {x y:zXd} (h:y.Client <+: x.Client) (h2:y.Upstream <+: x.Upstream):zgy x y=some true:=by
 unfold zgy;rw [pre_b h];show (strings_HasPrefix x.Upstream y.Upstream).bind _=_;rw [pre_b h2]; rfl
theorem law_l (s:zW5) (hl:s.Events.length≤150) (R:zXd) (hR:zsL s=some (R,0)):∀(n:Nat) (i:Int) (w u:zWF) (k:Int),0≤i→i≤s.Events.length→(s.Events.length:Int)<i+n→Iv w k→k+10000000*(s.Events.length-i)≤9000000000000 →
  Dos (s.Events.drop i.toNat) w u→u.zWy.zW6 <+: R.Client→u.zWw.zW6 <+: R.Upstream→zJ n s (some w) (rsO w) i=some true
 | 0,i,w,u,k,h0,h1,h2,_,_,_,_,_=>by omega
 | n+1,i,w,u,k,h0,h1,h2,hv,hk,d,p1,p2=>by
  unfold zJ
  by_cases h:i<s.Events.length
  ·obtain ⟨x,e1,e2⟩:=zLc h0 h;rw [e2] at d;obtain ⟨⟨a,b,o⟩,ew,hw⟩:=Do_w w x k hv (by omega);obtain ⟨a',b',v,hd,d⟩:=Dos_i d;rw [hd] at ew;cases ew;obtain ⟨q1,q2,q3⟩:=hw;have hB:zgy (rsO v) (rsO w)=some true:=Beg q2.1 q2.2.1;rw [if_pos (by simpa using h),e1,bs,hd,bs,Res_s,bs,hB,bs]
   have c1:¬ (rsO v).Most.Client<(rsO w).Most.Client:=by have:=q2.2.2.1; show ¬ v.zWT.Client<w.zWT.Client; omega
   have c2:¬ (rsO v).Most.Upstream<(rsO w).Most.Upstream:=by have:=q2.2.2.2; show ¬ v.zWT.Upstream<w.zWT.Upstream; omega
   have go:zae (zJ n) s (some v) i (rsO v) false=some true:=by
    unfold zae;rw [if_neg Bool.false_ne_true,add1 h0 h hl];exact law_l s hl R hR n (i+1) v u (k+10000000) (by omega) (by omega) (by omega) q1 (by omega) d p1 p2
   show (if (!true)=true then _ else if decide ((rsO v).Most.Client<(rsO w).Most.Client)=true then _ else if decide ((rsO v).Most.Upstream<(rsO w).Most.Upstream)=true then _ else if (rsO w).Closed=true then _ else _)=_;rw [if_neg (by simp),if_neg (by simpa using c1),if_neg (by simpa using c2)]
   by_cases hc:(rsO w).Closed=true
   ·rw [if_pos hc];have:(rsO v).Closed=true:=q3 hc;show zae _ _ _ _ _ (!(rsO v).Closed)=_;rw [this]; exact go
   ·rw [if_neg hc]; exact go
  ·have e:s.Events.drop i.toNat=[]:=List.drop_eq_nil_of_le (by omega);rw [e] at d;rw [Dos_n d] at p1 p2;have hB:zgy R (rsO w)=some true:=Beg p1 p2;rw [if_neg (by simpa using h),hR,bs,if_pos (show ((R,(0:Int)).snd==0)=true from rfl),hB]; rfl
def Wn:Option zWF × Int→Prop
 | (none,e)=>e≠0
 | (some w,e)=>e=0∧Iv w 1000000000000∧w.zWy.zXl=false
instance iNew (s:zW5):T (zl0 s) (En s.Env∧s.Rules.length≤400∧(∀r∈s.Rules,Rm r)∧s.Client.length≤3000∧s.Upstream.length≤3000) Wn:=⟨fun ⟨h1,h2,h3,h4,h5⟩=>by
 obtain ⟨⟨o,e⟩,he,hN⟩:=(inferInstance:T (zf4 s.Env s.Caps s.Rules) _ _).ok ⟨h1,h2,h3⟩;unfold zl0;rw [he]
 cases o with
 | none =>
  have hN:e≠0:=hN;exact ⟨(none,e),by simp [Go.Rk.optK,hN],hN⟩
 | some g =>
  have hN:Gf g:=hN
  by_cases c:e=0
  ·refine ⟨(some ⟨g,⟨s.Client,0,s.ClientEnds,false,[],(),()⟩,⟨s.Upstream,0,s.UpstreamEnds,false,[],(),()⟩,⟨0,0⟩⟩,0),?_,?_⟩
   ·simp only [Go.Rk.optK,Option.bind,c];rw [if_neg (by simp),if_neg (by simp; omega),if_neg (by simp; omega)]
   ·obtain ⟨n1,n2,n3,n4,n5,n6⟩:=hN;simp only [Wn,Iv,Wr,Sn,Bz,uc,uu,Mz,st,List.length_nil,n1,n2,n3,n4,n5,n6];refine ⟨trivial,⟨⟨trivial,trivial,trivial,h4,h5,?_⟩,?_,?_⟩,trivial⟩<;>simp<;>omega
  ·exact ⟨(none,e),by simp [Go.Rk.optK,c],c⟩⟩
end Go.Dm
end
section
set_option linter.unusedVariables false
set_option maxRecDepth 10000
set_option maxHeartbeats 4000000
namespace Go.Dm
theorem NL0 (c:zXr) (l:List zWC) (k:Int):∀(n:Nat) (g:zWv) (i:Int) (r:Option zWv × Int),zed c l k n g i=some r→r.2=0
 | 0,g,i,r,h=>by cases h
 | n+1,g,i,r,h=>by
  unfold zed at h
  split at h
  ·obtain ⟨a,_,h⟩:=Option.bind_eq_some_iff.1 h;obtain ⟨b,_,h⟩:=Option.bind_eq_some_iff.1 h
   split at h
   ·obtain ⟨d,_,h⟩:=Option.bind_eq_some_iff.1 h;exact NL0 c l k n _ _ r h
   ·cases h
  ·obtain ⟨a,_,h⟩:=Option.bind_eq_some_iff.1 h;obtain ⟨b,_,h⟩:=Option.bind_eq_some_iff.1 h;cases h; rfl
def Bd (s:zW5):Prop:=s.Env.By.length≤1000∧s.Env.Host.length≤1000∧Swm s.Env.Domains∧Swm s.Env.Locations∧Rl s.Rules
theorem zNO {l:List zWC} {e:zWJ} {c:zXr} {i10 i12:Int} {o:Option zWV} {r:Option zWv × Int} (hb:Rl l) (h0:stC e=0) (h1:i10=if c.Chunk<1∨65536<c.Chunk then 1 else 0) (h2:i12=if c.Queue<1∨64<c.Queue then 1 else 0)
  (h:zfE l e c i10 o i12=some r) (hr:r.2≠0):gwC e c l=r.2:=by
 unfold zfE at h;unfold gwC;rw [if_neg (by simpa using h0)]
 split at h
 ·rename_i hc
  cases h
  have:c.Chunk<1∨65536<c.Chunk:=by
   by_cases q:c.Chunk<1∨65536<c.Chunk
   ·exact q
   ·rw [if_neg q] at h1; subst h1; simp at hc
  rw [if_pos (by rcases this with q|q<;>simp [q])]
 ·rename_i hc
  have hc:¬ (c.Chunk<1∨65536<c.Chunk):=fun q=>hc (by rw [if_pos q] at h1; subst h1; rfl)
  split at h
  ·rename_i hq
   cases h
   have:c.Queue<1∨64<c.Queue:=by
    by_cases q:c.Queue<1∨64<c.Queue
    ·exact q
    ·rw [if_neg q] at h2; subst h2; simp at hq
   rw [if_pos (by rcases this with q|q<;>simp [q])]
  ·rename_i hq
   have hq:¬ (c.Queue<1∨64<c.Queue):=fun q=>hq (by rw [if_pos q] at h2; subst h2; rfl)
   split at h
   ·rename_i q
    cases h
    have q:c.Head<1:=by simpa using q
    rw [if_pos (.inl q)]
   ·rename_i g1
    split at h
    ·rename_i q
     cases h
     have q:65536<c.Head:=by simpa using q
     rw [if_pos (.inr (.inl q))]
    ·rename_i g2
     have g1:¬ c.Head<1:=by simpa using g1
     have g2:¬ 65536<c.Head:=by simpa using g2
     rw [if_neg (by
      rintro (a|a|a|a|a|a)
      ·exact g1 a
      ·exact g2 a
      ·exact hc (.inl a)
      ·exact hc (.inr a)
      ·exact hq (.inl a)
      ·exact hq (.inr a))]
     obtain ⟨k,ek,hk1,hk2⟩:=(inferInstance:T (zjF l) _ _).ok hb;rw [ek] at h
     change (if (!(k.2==0))=true then some (none,k.2) else _)=some r at h
     split at h
     ·cases h
      by_cases hp:zn1 l
      ·rw [if_pos hp,hk1 hp]
      ·rw [if_neg hp,hk2 hp]
     ·obtain ⟨a,_,h⟩:=Option.bind_eq_some_iff.1 h;obtain ⟨b,_,h⟩:=Option.bind_eq_some_iff.1 h;exact absurd (NL0 _ _ _ _ _ _ _ h) hr
theorem New_2 {s:zW5} {r:Option zWv × Int} (hb:Bd s) (h:zf4 s.Env s.Caps s.Rules=some r) (hr:r.2≠0):gwC s.Env s.Caps s.Rules=r.2:=by
 obtain ⟨b1,b2,b3,b4,b5⟩:=hb;obtain ⟨k,ek,hk⟩:=(inferInstance:T (zlY s.Env) _ _).ok ⟨b1,b2,b3,b4⟩;unfold zf4 at h;rw [ek] at h
 change (if (!(k==0))=true then some (none,k) else _)=some r at h
 split at h
 ·cases h;have hr:k≠0:=hr;unfold gwC;rw [if_pos (by rw [← hk]; exact hr),hk]
 ·rename_i k0
  have k0:k=0:=by simpa using k0
  have h0:stC s.Env=0:=by rw [← hk]; exact k0
  have key:∀i10:Int,i10=(if s.Caps.Chunk<1∨65536<s.Caps.Chunk then 1 else 0)→zfF s.Rules s.Env s.Caps i10=some r→gwC s.Env s.Caps s.Rules=r.2:=by
   intro i10 h1 h;unfold zfF zlZ at h
   by_cases q1:s.Caps.Queue<1
   ·rw [if_pos (by simpa using q1)] at h;exact zNO b5 h0 h1 (by rw [if_pos (.inl q1)]) h hr
   ·rw [if_neg (by simpa using q1)] at h
    by_cases q2:64<s.Caps.Queue
    ·rw [if_pos (by simpa using q2)] at h;exact zNO b5 h0 h1 (by rw [if_pos (.inr q2)]) h hr
    ·rw [if_neg (by simpa using q2)] at h;exact zNO b5 h0 h1 (by rw [if_neg (by rintro (a|a); exact q1 a; exact q2 a)]) h hr
  unfold zhw at h
  by_cases q1:s.Caps.Chunk<1
  ·rw [if_pos (by simpa using q1)] at h;exact key 1 (by rw [if_pos (.inl q1)]) h
  ·rw [if_neg (by simpa using q1)] at h
   by_cases q2:65536<s.Caps.Chunk
   ·rw [if_pos (by simpa using q2)] at h;exact key 1 (by rw [if_pos (.inr q2)]) h
   ·rw [if_neg (by simpa using q2)] at h;exact key 0 (by rw [if_neg (by rintro (a|a); exact q1 a; exact q2 a)]) h
theorem New_e {s:zW5} {e:Int} (hb:Bd s) (h4:s.Client.length≤3000) (h5:s.Upstream.length≤3000) (h:zl0 s=some (none,e)) (he:e≠0):zjK s=some e:=by
 have hg:∃o,zf4 s.Env s.Caps s.Rules=some (o,e):=by
  unfold zl0 at h;obtain ⟨⟨o,k⟩,eg,h⟩:=Option.bind_eq_some_iff.1 h;refine ⟨o,?_⟩;rw [eg]
  have c1:¬ decide ((1048576:Int)<(s.Client.length:Int))=true:=by simp; omega
  have c2:¬ decide ((1048576:Int)<(s.Upstream.length:Int))=true:=by simp; omega
  cases o with
  | none =>
   change (if (!(k==0))=true then some (none,k) else _)=_ at h
   split at h
   ·cases h; rfl
   ·first|cases h|(rw [if_neg c1,if_neg c2] at h; cases h)
  | some g =>
   change (if (!(k==0))=true then some (none,k) else _)=_ at h
   split at h
   ·cases h; rfl
   ·first|cases h|(rw [if_neg c1,if_neg c2] at h; cases h)
 obtain ⟨o,hg⟩:=hg;have:=New_2 hb hg he;obtain ⟨b1,b2,b3,b4,b5⟩:=hb;obtain ⟨r,er,hr⟩:=(inferInstance:T (zjK s) _ _).ok ⟨b1,b2,b3,b4,b5,h4,h5⟩;rw [er,hr,this]
theorem Fin_g {w:zWF} {k:Int} (h:Iv w k) (hk:k≤10000000000000):∃n v,ziu (some w)=some (n,some v)∧Gr w.zWy.zW6 w.zWw.zW6 w.zWT v:=by
 obtain ⟨h1,h2,h3⟩:=h
 have hm:Mz w≤6002:=by
  have a:st w.zWy.zXl≤1:=by unfold st; split<;>omega
  have b:st w.zWw.zXl≤1:=by unfold st; split<;>omega
  unfold Mz; omega
 have hs:Sn w 10000000000000:=⟨by have:=h3.1; omega,by have:=h3.2; omega⟩
 have u0:0≤uc w∧0≤uu w:=by
  obtain ⟨_,_,_,_,_,_,a,_,b,_⟩:=h1;unfold uc uu; omega
 obtain ⟨⟨n,o⟩,er,hq⟩:=(iL0 w.zWy.zW6 w.zWw.zW6 w.zWT fuel w 0 0).ok ⟨h1,by omega,by omega,by omega,by omega,fun _=>⟨by unfold fuel; omega,hs⟩,by unfold fuel; omega,Gr_r w⟩
 cases o with
 | none=>exact hq.elim
 | some v=>exact ⟨n,v,er,hq⟩
theorem zK0 (x:zW5):ziv x=some true:=by
 obtain ⟨s,es,h1,h2,h3,h4,h5,h6,h7,h8,h9,h10,h11⟩:=(inferInstance:T (znf x) _ _).ok trivial;obtain ⟨⟨o,e⟩,he,hN⟩:=(iNew s).ok ⟨⟨by omega,by omega,by omega,by omega,h5,h6⟩,by omega,h8,h9,h10⟩;have hb:Bd s:=⟨by omega,by omega,h5,h6,by omega,h8⟩;unfold ziv;rw [show zEF=some true from rfl];show (znf x).bind _=_;rw [es];show (zl0 s).bind _=_;rw [he]
 cases o with
 | none =>
  have hN:e≠0:=hN;show zbo s none e=some true;unfold zbo;rw [if_pos (by simpa using hN),New_e hb h9 h10 he hN];show some (e==e)=_;rw [beq_self_eq_true]
 | some w =>
  obtain ⟨h0,hv,_⟩:=hN;show zbo s (some w) e=some true;unfold zbo;subst h0;rw [if_neg (by simp),Res_s];obtain ⟨u,d,hu⟩:=Dos_t s.Events w 1000000000000 hv (by omega);obtain ⟨n,v,ef,hg⟩:=Fin_g hu (by omega)
  have hrun:zsL s=some (rsO v,0):=by
   unfold zsL;rw [he];show zmi s (some w) 0=_;unfold zmi;rw [if_neg (by simp),run_l s.Events h11 fuel 0 w u (by omega) (by omega) (by unfold fuel; omega) d,ef];rfl
  exact law_l s h11 (rsO v) hrun fuel 0 w u 1000000000000 (by omega) (by omega) (by unfold fuel; omega) hv (by omega) d hg.1 hg.2.1
end Go.Dm
end
section
namespace Go.Rk
open Go.RowKit Go.Dm Go.Dk
variable {τ:Nat→Type}

def zjP:XV τ→Bool
 | .gv _ _=>true
 | _=>false
section
variable (X:Cx τ) (h:Fz) (ν:Vn τ) (a:Act)
def zjo (t:Nat) (x:XV τ):Prop:=∃v,XOk X.P X.G h ν x v∧(Nat.blt t gh=true→zjP x=false→a.tmps[t]? = some v)∧(gb≤t→v=ptr (t-gb) 0)∧(gh≤t→t<20000→v=X.fx (t-gh))
def zd8 (r:List Nat) (E:zu τ):Prop:=∀t∈r, ∀x,asc E t=some x→zjo X h ν a t x
end
structure TyOk (X:Cx τ):Prop where
 el:∀p∈X.ty, ∃i z,X.P.info? p.1=some i∧i.zero=some z∧i.size=(ets X.G p.2).length∧z.cells.size=i.size∧0<i.size
 eq:∀t n,asc X.ty t=some (.st n)→(X.G.fs n).all zhk=true→∀(p q:DP τ (X.G.fs n)) (h:Fz) (xs ys:List Value),RpL X.P X.G h (X.G.fs n) p xs→RpL X.P X.G h (X.G.fs n) q ys →
  X.P.eqGuardType X.P.depth t=false∧∀w,(Op.equalIn 10000 t (.agg ⟨xs⟩) (.agg ⟨ys⟩)).run X.P w = .ok (X.G.eq n (X.G.ctor n p) (X.G.ctor n q)) w
theorem zmP {α:Type}:∀{l:List (Nat × α)} {t:Nat} {v:α},asc l t=some v→(t,v)∈l
 | [],_,_,h=>by cases h
 | (k,u)::l,t,v,h=>by
  simp only [zdf,zbP] at h
  by_cases e:Nat.beq k t=true
  ·simp only [e,cond_true,Option.some.injEq] at h
   have:k=t:=by simpa using e
   subst this; subst h;exact List.mem_cons_self ..
  ·simp only [e] at h;exact List.mem_cons_of_mem _ (zmP h)
theorem zgb {α:Type}:∀(l:List α) (n:Nat),zh2 l n=l[n]?
 | [],_=>by simp [zh2]
 | _::_,0=>by simp [zh2]
 | _::l,n+1=>by simp [zh2,zgb l n]
theorem zdC (a:Act) (hd:a.defers=[]):∃E,Fits a.tmps.size E a∧∀t,Dk.look E t=a.tmps[t]? := by
 have key:∀(l:List Value) (k t:Nat),Dk.look (params k l) t=if k≤t then l[t-k]? else none:=by
  intro l
  induction l with
  | nil=>intro k t; simp [params,Dk.look]
  | cons v l ih =>
   intro k t;simp only [params,Dk.look]
   by_cases e:k=t
   ·subst e; simp
   ·rw [zbN.2 e,cond_false,ih]
    by_cases h:k≤t
    ·rw [if_pos (by omega),if_pos h,show t-k=(t-(k+1))+1 by omega,List.getElem?_cons_succ]
    ·rw [if_neg (by omega),if_neg h]
 have hl:∀t,Dk.look (params 0 a.tmps.toList) t=a.tmps[t]? := by intro t; rw [key]; simp
 exact ⟨_,⟨hd,rfl,fun t v h=>by rw [← hl]; exact h⟩,hl⟩

section
variable {X:Cx τ} {h:Fz} {ν:Vn τ} {a:Act} {E:zu τ} {w:World}
theorem zd8.op {o:Op} (hE:zd8 X h ν a (rdO o) E) {x:Operand} (hx:x∈o.operands.toList):zd8 X h ν a (zxl x) E :=
 fun t ht=>hE t (List.mem_flatMap.2 ⟨x,hx,ht⟩)
theorem zMS {v:Value} {c:CV τ} (e:cvV v=some c):zcI X.P X.G h ν c v:=by
 unfold cvV at e
 split at e
 ·cases e; rfl
 ·cases e; rfl
 ·rename_i n
  by_cases hn:Nat.blt n 256=true
  ·rw [hn] at e; cases e
   have:n<256:=by simpa using hn
   show _=Value.int .u8 _;simp [UInt8.toNat_ofNat',Nat.mod_eq_of_lt this]
  ·simp only [Bool.not_eq_true] at hn; rw [hn] at e; cases e
 ·rename_i n
  by_cases hn:Nat.blt n 65536=true
  ·rw [hn] at e; cases e
   have:n<65536:=by simpa using hn
   show _=Value.int .u16 _;simp [UInt16.toNat_ofNat',Nat.mod_eq_of_lt this]
  ·simp only [Bool.not_eq_true] at hn; rw [hn] at e; cases e
 ·cases e; rfl
 ·cases e; rfl
 ·cases e; rfl
 ·cases e; rfl
 ·cases e; rfl
 ·cases e
theorem zy1:∀{vs:List Value} {cs:List (CV τ)},cvVs vs=some cs→CVs X.P X.G h ν cs vs
 | [],cs,e=>by cases e; rfl
 | v::vs,cs,e=>by
  unfold cvVs at e
  split at e
  ·rename_i c hc
   split at e
   ·rename_i cs' hcs
    cases e;exact ⟨v,vs,rfl,zMS hc,zy1 hcs⟩
   ·cases e
  ·cases e
theorem zno {Ea:Env} (hl:∀t,Dk.look Ea t=a.tmps[t]?) {x:Operand} {xv:XV τ} (hE:zd8 X h ν a (zxl x) E) (e:evX E x=some xv) (hg:zjP xv=false):∃v,evl Ea x=some v∧XOk X.P X.G h ν xv v:=by
 unfold evX at e
 split at e
 ·rename_i t
  by_cases ht:Nat.blt t gh=true
  ·rw [ht] at e;obtain ⟨v,h1,h2,_⟩:=hE t (by simp [zxl,ht]) xv e;exact ⟨v,(hl t).trans (h2 ht hg),h1⟩
  ·simp only [Bool.not_eq_true] at ht; rw [ht] at e; cases e
 ·rename_i v
  split at e
  ·rename_i c hc
   cases e;exact ⟨v,rfl,zMS hc⟩
  ·cases e
 ·cases e;exact ⟨_,rfl,rfl⟩
 ·rename_i g
  obtain ⟨v,h1,_,h2,_⟩:=hE (gb+g) (List.mem_singleton.2 rfl) xv e;rw [h2 (Nat.le_add_right ..),Nat.add_sub_cancel_left] at h1;exact ⟨_,rfl,h1⟩
theorem zrj (hd:a.defers=[]) {x:Operand} {xv:XV τ} (hE:zd8 X h ν a (zxl x) E) (e:evX E x=some xv):XOk X.P X.G h ν xv (a.eval x):=by
 cases hg:zjP xv with
 | true =>
  cases xv with
  | gv t y=>trivial
  | _=>cases hg
 | false =>
  obtain ⟨Ea,hf,hl⟩:=zdC a hd;obtain ⟨v,h1,h2⟩:=zno hl hE e hg;rw [hf.ev h1];exact h2
theorem zh {Ea:Env} (hl:∀t,Dk.look Ea t=a.tmps[t]?) {x:Operand} {c:CV τ} (hE:zd8 X h ν a (zxl x) E) (e:evC E x=some c):∃v,evl Ea x=some v∧zcI X.P X.G h ν c v:=by
 unfold evC at e
 split at e
 ·rename_i c' hc
  cases e;exact zno hl hE hc rfl
 ·cases e
theorem CVs.len:∀{cs:List (CV τ)} {vs:List Value},CVs X.P X.G h ν cs vs→vs.length=cs.length
 | [],vs,e=>by cases e; rfl
 | _::_,_,⟨v,us,rfl,_,h2⟩=>by simp [CVs.len h2]
theorem CVs.get:∀{cs:List (CV τ)} {vs:List Value} {i:Nat} {c:CV τ},CVs X.P X.G h ν cs vs→cs[i]? = some c→∃v,vs[i]? = some v∧zcI X.P X.G h ν c v
 | [],_,_,_,_,hc=>by simp at hc
 | _::_,_,0,_,⟨v,us,rfl,h1,_⟩,hc=>by simp at hc; subst hc; exact ⟨v,by simp,h1⟩
 | _::_,_,i+1,_,⟨v,us,rfl,_,h2⟩,hc=>by
  simp at hc;obtain ⟨u,h3,h4⟩:=CVs.get h2 hc;exact ⟨u,by simpa using h3,h4⟩
theorem TVs.get:∀{cs:List (Bool × List (CV τ))} {vs:List Value} {i:Nat} {b:Bool} {l:List (CV τ)},TVs X.P X.G h ν cs vs→cs[i]? = some (b,l) →
  ∃v,vs[i]? = some v∧((b=true∧∃ws,v = .agg ⟨ws⟩∧CVs X.P X.G h ν l ws)∨(b=false∧∃c,l=[c]∧zcI X.P X.G h ν c v))
 | [],_,_,_,_,_,hc=>by simp at hc
 | (false,[c])::_,_,0,_,_,⟨v,us,rfl,h1,_⟩,hc=>by simp at hc; obtain ⟨rfl,rfl⟩:=hc; exact ⟨v,by simp, .inr ⟨rfl,c,rfl,h1⟩⟩
 | (true,l)::_,_,0,_,_,⟨ws,us,rfl,h1,_⟩,hc=>by simp at hc; obtain ⟨rfl,rfl⟩:=hc; exact ⟨.agg ⟨ws⟩,by simp, .inl ⟨rfl,ws,rfl,h1⟩⟩
 | (false,[_])::_,_,i+1,_,_,⟨v,us,rfl,_,h2⟩,hc=>by
  simp at hc;obtain ⟨u,h3,h4⟩:=TVs.get h2 hc;exact ⟨u,by simpa using h3,h4⟩
 | (true,_)::_,_,i+1,_,_,⟨ws,us,rfl,_,h2⟩,hc=>by
  simp at hc;obtain ⟨u,h3,h4⟩:=TVs.get h2 hc;exact ⟨u,by simpa using h3,h4⟩
 | (false,[])::_,_,_,_,_,e,_=>e.elim
 | (false,_::_::_)::_,_,_,_,_,e,_=>e.elim
theorem CVs.cut:∀{n o:Nat} {cs l:List (CV τ)} {vs:List Value},CVs X.P X.G h ν cs vs→zuV cs o n=some l→CVs X.P X.G h ν l ((vs.drop o).take n)∧o+n≤vs.length+(if n=0 then o else 0)
 | 0,o,cs,l,vs,hv,e=>by cases e; exact ⟨by simp [CVs],by simp⟩
 | n + 1,o,cs,l,vs,hv,e=>by
  unfold zuV at e
  split at e
  ·rename_i c hc
   split at e
   ·rename_i r hr
    cases e;rw [zgb] at hc;obtain ⟨v,h1,h2⟩:=hv.get hc;obtain ⟨h3,h4⟩:=CVs.cut hv hr;have hlt:o<vs.length:=(List.getElem?_eq_some_iff.1 h1).1;refine ⟨⟨v,_,?_,h2,h3⟩,?_⟩
    ·rw [List.drop_eq_getElem_cons hlt,List.take_succ_cons,(List.getElem?_eq_some_iff.1 h1).2]
    ·split at h4
     ·omega
     ·rw [if_neg (by omega)]; omega
   ·cases e
  ·cases e
theorem zfA {P:Program} {t:TypeId} {n:Nat} (e:szO P t=some n):zkT P t=some n:=by
 unfold szO at e;unfold zkT
 split at e
 ·rename_i i hi; rw [hi]; exact e
 ·cases e
theorem zJN {P:Program} {t i f ft:Nat} (e:zGG P t i=some (f,ft)):∃fs fd,P.underlying t=some (.struct fs)∧fs[i]? = some fd∧fd.offset=f∧fd.type=ft∧∃n,zkT P ft=some (n+1):=by
 unfold zGG at e
 split at e
 ·rename_i fs hu
  split at e
  ·rename_i fd hn
   split at e
   ·rename_i n hs
    cases e;rw [zgb] at hn;exact ⟨⟨fs⟩,fd,hu,by simpa using hn,rfl,rfl,n,zfA hs⟩
   ·cases e
  ·cases e
 ·cases e
theorem zy2:∀{o:Nat} {cs ws cs':List (CV τ)} {us vs:List Value},CVs X.P X.G h ν cs us→CVs X.P X.G h ν ws vs→zv3 cs o ws=some cs' →
  o+vs.length≤us.length∧CVs X.P X.G h ν cs' (us.take o++vs++us.drop (o+vs.length))
 | 0,cs,ws,cs',us,vs,hc,hw,e=>by
  unfold zv3 at e;have:=go hc hw e;simpa using this
 | o+1,c::cs,ws,cs',_,vs,⟨u,us,rfl,h1,h2⟩,hw,e=>by
  unfold zv3 at e
  split at e
  ·rename_i r hr
   cases e;obtain ⟨h3,h4⟩:=zy2 h2 hw hr;refine ⟨by simp; omega,u,_,?_,h1,h4⟩;rw [show o+1+vs.length=(o+vs.length)+1 by omega];simp
  ·cases e
 | o+1,[],ws,cs',us,vs,hc,hw,e=>by simp [zv3] at e
where
 go:∀{cs ws cs':List (CV τ)} {us vs:List Value},CVs X.P X.G h ν cs us→CVs X.P X.G h ν ws vs→zv3.go cs ws=some cs'→vs.length≤us.length∧CVs X.P X.G h ν cs' (vs++us.drop vs.length)
 | cs,[],cs',us,vs,hc,hw,e=>by
  obtain rfl:vs=[]:=hw;simp [zv3.go] at e;subst e;exact ⟨by simp,by simpa using hc⟩
 | c::cs,w::ws,cs',_,_,⟨u,us,rfl,h1,h2⟩,⟨v,vs,rfl,h3,h4⟩,e=>by
  simp only [zv3.go] at e
  split at e
  ·rename_i r hr
   cases e;obtain ⟨h5,h6⟩:=go h2 h4 hr;exact ⟨by simp; omega,v,_,by simp,h3,h6⟩
  ·cases e
 | [],w::ws,cs',us,vs,hc,hw,e=>by simp [zv3.go] at e
theorem zwW {P:Program} {t:TypeId} {b:Bool} (e:isA P t=some b):zEV P t=some b:=by
 unfold isA at e;unfold zEV
 split at e<;>first|(cases e; done)|(rename_i hu; rw [hu]; simpa using e)
end
end Go.Rk
end
section
namespace Go.Rk
open Go.RowKit Go.Dm Go.Dk
variable {τ:Nat→Type}
section
variable {X:Cx τ} {h:Fz} {ν:Vn τ} {a:Act} {E:zu τ} {Ea:Env} {N:Nat} {w:World} {x y:Operand} {dst:Option Nat} {t t' ty:Nat} {p:String} {af:Array Edge} {gd:Option (Nat × Bool)}
theorem lok0:∀{d:Nat} {t:Ty} {c:CV τ} {x:t.den τ} {v:Value} {m:List Nat},zhk t=true→lok X.G [] d t c=some (x,m)→zcI X.P X.G h ν c v→Rp X.P X.G h t x v:=by
 intro d t c x v m hs e hv
 cases d with
 | zero=>cases e
 | succ d =>
  unfold lok at e
  cases t<;>first|(cases hs; done)|(dsimp only at e; split at e<;>first|(cases e; done)|(cases e; cases hv; constructor))
theorem zMc {d:Nat}:∀{ts:List Ty} {cs:List (CV τ)} {q:DP τ ts} {vs:List Value} {m:List Nat},ts.all zhk=true→zxj (lok X.G [] d) ts cs=some (q,m)→CVs X.P X.G h ν cs vs→RpL X.P X.G h ts q vs
 | [],[],q,vs,_,_,e,hv=>by cases e; cases hv; exact .nil
 | t::ts,c::cs,q,_,_,hs,e,⟨v,us,rfl,h1,h2⟩=>by
  simp only [List.all_cons,Bool.and_eq_true] at hs;unfold zxj at e
  split at e
  ·rename_i x m hx
   split at e
   ·rename_i q' m' hq
    cases e;refine .cons t ts _ v us ?_ ?_
    ·rw [DP.hd_mk]; exact lok0 hs.1 hx h1
    ·rw [DP.tl_mk]; exact zMc hs.2 hq h2
   ·cases e
  ·cases e
 | [],_::_,_,_,_,_,e,_=>by cases e
 | _::_,[],_,_,_,_,e,_=>by cases e
theorem zzo {o:Option Bool} {v:XV τ} (e:obX o=some v):∃b,o=some b∧v = .c (.b b):=by
 cases o with
 | none=>cases e
 | some b=>cases e; exact ⟨b,rfl,rfl⟩
theorem zDj {o:Option Bool} {v:XV τ} (e:okX o=some v):∃b,o=some b∧v = .c (.k b):=by
 cases o with
 | none=>cases e
 | some b=>cases e; exact ⟨b,rfl,rfl⟩
theorem zMd {c:CV τ} {v:Value} (e:adC c=true) (hc:zcI X.P X.G h ν c v):∃ad,v = .pointer (some ad):=by
 cases c with
 | ea t z o=>obtain ⟨b,k,vs,rfl,_⟩:=hc; exact ⟨_,rfl⟩
 | oe i k m t z o=>obtain ⟨b,d,n,c,q,xs,u,_,_,_,rfl⟩:=hc; exact ⟨_,rfl⟩
 | _=>cases e
theorem zFI {c:CV τ} {b:Bool} {v:Value} (e:zM3 c=some b) (hc:zcI X.P X.G h ν c v):v = .bool b:=by
 cases c with
 | b x=>cases e; exact hc
 | k x=>cases e; exact hc
 | _=>cases e
theorem zOA (hT:TyOk X) (hf:Fits N Ea a) {o:BinOp} {A B v:XV τ} {vx vy:Value} (hx:evl Ea x=some vx) (hy:evl Ea y=some vy) (ca:XOk X.P X.G h ν A vx) (cb:XOk X.P X.G h ν B vy)
  (e:binX X o t' A B=some v):∃u,(∀w,(execOp a.eval ⟨dst, .binOp o t' x y ty,t,p,af,gd⟩).run X.P w = .ok (.value u) w)∧XOk X.P X.G h ν v u:=by
 unfold binX at e
 split at e
 ·obtain rfl:vx=_:=ca;obtain rfl:vy=_:=cb;obtain ⟨b,h1,rfl⟩:=zzo e
  cases o<;>first|(cases h1; done)|skip
  all_goals cases h1
  ·exact ⟨_,fun w=>zLm hf hx hy,rfl⟩
  ·exact ⟨_,fun w=>zHC hf hx hy,rfl⟩
  ·exact ⟨_,fun w=>zLn hf hx hy,rfl⟩
  ·exact ⟨_,fun w=>zLo hf hx hy,rfl⟩
  ·exact ⟨_,fun w=>zLp hf hx hy,rfl⟩
  ·exact ⟨_,fun w=>zLq hf hx hy,rfl⟩
 ·obtain rfl:vx=_:=ca;obtain rfl:vy=_:=cb
  split at e
  ·cases e; exact ⟨_,fun w=>zLx hf hx hy,rfl⟩
  ·cases e; exact ⟨_,fun w=>zLy hf hx hy,rfl⟩
  ·obtain ⟨b,h1,rfl⟩:=zzo e
   cases o<;>first|(cases h1; done)|skip
   all_goals cases h1
   ·exact ⟨_,fun w=>zLr hf hx hy,rfl⟩
   ·exact ⟨_,fun w=>zLs hf hx hy,rfl⟩
   ·exact ⟨_,fun w=>zLt hf hx hy,rfl⟩
   ·exact ⟨_,fun w=>zLu hf hx hy,rfl⟩
   ·exact ⟨_,fun w=>zLv hf hx hy,rfl⟩
   ·exact ⟨_,fun w=>zLw hf hx hy,rfl⟩
 ·obtain rfl:vx=_:=ca;obtain rfl:vy=_:=cb
  split at e
  ·cases e; exact ⟨_,fun w=>zLN hf hx hy,rfl⟩
  ·cases e
   rename_i m n _
   refine ⟨_,fun w=>zHC hf hx hy,?_⟩;show Value.bool _ = .bool _
   have:((m.toNat:Int)==(n.toNat:Int))=(m==n):=by
    rw [Bool.eq_iff_iff];simp only [beq_iff_eq];exact ⟨fun e=>UInt16.toNat_inj.1 (by omega),fun e=>by rw [e]⟩
   rw [this]
  ·cases e
 ·obtain rfl:vx=_:=ca;obtain rfl:vy=_:=cb;obtain ⟨b,h1,rfl⟩:=zzo e
  cases o<;>first|(cases h1; done)|skip
  all_goals cases h1
  ·exact ⟨_,fun w=>zFz hf hx hy,rfl⟩
  ·exact ⟨_,fun w=>zFA hf hx hy,rfl⟩
  ·exact ⟨_,fun w=>zLD hf hx hy,rfl⟩
  ·exact ⟨_,fun w=>zLE hf hx hy,rfl⟩
  ·exact ⟨_,fun w=>zLF hf hx hy,rfl⟩
  ·exact ⟨_,fun w=>zLG hf hx hy,rfl⟩
 ·obtain rfl:vx=_:=ca;obtain rfl:vy=_:=cb
  split at e
  ·rename_i hu
   obtain ⟨b,h1,rfl⟩:=zDj e
   cases o<;>first|(cases h1; done)|skip
   all_goals cases h1
   ·exact ⟨_,fun w=>zCH hu hf hx hy,rfl⟩
   ·exact ⟨_,fun w=>zCI hu hf hx hy,rfl⟩
  ·cases e
 ·obtain rfl:vy=_:=cb
  split at e
  ·rename_i hu
   cases ha:adC (τ:=τ) ‹_› with
   | false=>rw [ha] at e; cases e
   | true =>
    rw [ha] at e;obtain ⟨ad,rfl⟩:=zMd ha ca;obtain ⟨b,h1,rfl⟩:=zDj e
    cases o<;>first|(cases h1; done)|skip
    all_goals cases h1
    ·exact ⟨_,fun w=>zCF hu hf hx hy,rfl⟩
    ·exact ⟨_,fun w=>zCG hu hf hx hy,rfl⟩
  ·cases e
 ·split at e
  ·rename_i hb
   split at e
   ·rename_i hb'
    split at e
    ·rename_i hu
     obtain rfl:=zFI hb ca;obtain rfl:=zFI hb' cb;obtain ⟨b,h1,rfl⟩:=zzo e
     cases o<;>first|(cases h1; done)|skip
     all_goals cases h1
     ·exact ⟨_,fun w=>zLz hu hf hx hy,rfl⟩
     ·exact ⟨_,fun w=>zLA hu hf hx hy,rfl⟩
    ·cases e
   ·cases e
  ·cases e
 ·split at e
  ·rename_i n hn
   cases hs:(X.G.fs n).all zhk with
   | false=>rw [hs] at e; cases e
   | true =>
    rw [hs] at e;dsimp only [cond_true] at e
    split at e
    ·rename_i q hq
     split at e
     ·rename_i q' hq'
      obtain ⟨xs,rfl,ha⟩:=ca;obtain ⟨ys,rfl,hb⟩:=cb;obtain ⟨h1,h2⟩:=hT.eq t' n hn hs q q' h xs ys (zMc hs hq ha) (zMc hs hq' hb);obtain ⟨b,h3,rfl⟩:=zzo e
      cases o<;>first|(cases h3; done)|skip
      all_goals cases h3
      ·exact ⟨_,fun w=>zLB h1 h2 hf hx hy,rfl⟩
      ·exact ⟨_,fun w=>zLC h1 h2 hf hx hy,rfl⟩
     ·cases e
    ·cases e
  ·cases e
 ·cases e
theorem zOB {o:BinOp} {A B v:XV τ} (e:binX X o t A B=some v):zjP A=false∧zjP B=false:=by
 unfold binX at e
 split at e<;>first|exact ⟨rfl,rfl⟩|cases e
theorem zMe (hf:Fits N Ea a) {c:CV τ} {v:XV τ} {vx:Value} (hx:evl Ea x=some vx) (ca:zcI X.P X.G h ν c vx) {s:Nat} (hw:h.on w)
  (e:zM6 X.P s t' c=some v):∃u,(execOp a.eval ⟨dst, .convert s t' x,t,p,af,gd⟩).run X.P w = .ok (.value u) w∧XOk X.P X.G h ν v u:=by
 unfold zM6 at e
 split at e
 ·obtain rfl:vx=_:=ca
  split at e
  ·rename_i hd
   split at e
   ·rename_i hs
    cases e;exact ⟨_,zwJ hd hs (zLL _) hf hx,rfl⟩
   ·cases e
  ·cases e
 ·obtain rfl:vx=_:=ca
  split at e
  ·rename_i hd
   split at e
   ·rename_i hs
    cases e;exact ⟨_,zwJ hd hs (zOo _) hf hx,rfl⟩
   ·cases e
  ·cases e
 ·obtain rfl:vx=_:=ca
  split at e
  ·rename_i hd
   split at e
   ·rename_i hs
    cases e;exact ⟨_,zKe hd hs hf hx,rfl⟩
   ·cases e
  ·cases e
 ·obtain rfl:vx=_:=ca
  split at e
  ·rename_i hd
   split at e
   ·rename_i hs
    cases e;exact ⟨_,zKf hd hs hf hx,rfl⟩
   ·cases e
  ·cases e
 ·split at e
  ·rename_i hd
   split at e
   ·rename_i e' hs
    split at e
    ·rename_i he
     cases e;obtain ⟨ad,k,vs,hvx,hsees,hc⟩:=slU8 ca;subst hvx;exact ⟨_,zAz (en:=fun b=>[zcW b]) (fun _=>rfl) hd hs he (hsees.sees hw) hf hx,rfl⟩
    ·cases e
   ·cases e
  ·cases e
 ·cases e
where
 slU8 {l:List UInt8} {v:Value} (hv:Rp X.P X.G h (.sl .u8) l v):∃ad k vs,v = .slice ad l.length k∧zpm h ad (cells (fun b=>[zcW b]) l)∧vs=():=by
  cases hv with
  | sl e xs ad c vs hc hs hr =>
   refine ⟨ad,c,(),rfl,?_,rfl⟩
   suffices vs=cells (fun b=>[zcW b]) l by rw [← this]; exact hs
   clear hs hc
   induction l generalizing vs with
   | nil=>cases hr; rfl
   | cons b l ih =>
    cases hr with
    | cons _ _ _ us ws h1 h2 =>
     have h3:=ih _ h2
     cases h1 with
     | cons _ _ _ v vs h4 h5 =>
      cases h5;cases h4;subst h3;rfl
theorem zcI.one {c:CV τ} {v:Value} (hv:zcI X.P X.G h ν c v):v.oneCell'=true∧v.cells = #[v]:=by
 cases c with
 | sl e xs=>cases hv; exact ⟨rfl,rfl⟩
 | os i=>obtain ⟨ad,n,c,q,_,rfl⟩:=hv; exact ⟨rfl,rfl⟩
 | pt i o=>obtain ⟨u,q,_,rfl,_⟩:=hv; cases u<;>exact ⟨rfl,rfl⟩
 | ea t z o=>obtain ⟨b,k,vs,rfl,_⟩:=hv; exact ⟨rfl,rfl⟩
 | oe i k m t z o=>obtain ⟨b,d,n,c,q,xs,u',_,_,_,rfl⟩:=hv; exact ⟨rfl,rfl⟩
 | mf f=>cases hv; exact ⟨rfl,rfl⟩
 | mv f i=>obtain ⟨u,q,_,rfl⟩:=hv; exact ⟨rfl,rfl⟩
 | mp i=>obtain ⟨b,q,_,rfl⟩:=hv; exact ⟨rfl,rfl⟩
 | fm m=>cases hv; exact ⟨rfl,rfl⟩
 | cf i=>obtain ⟨f,us,vs,q,_,rfl⟩:=hv; exact ⟨rfl,rfl⟩
 | ep n x =>
  cases hv with
  | pn0=>exact ⟨rfl,rfl⟩
  | pn1 _ x v hr=>cases hr; exact ⟨rfl,rfl⟩
 | bad=>exact hv.elim
 | _=>cases hv; exact ⟨rfl,rfl⟩
theorem CVs.one:∀{cs:List (CV τ)} {vs:List Value},CVs X.P X.G h ν cs vs→∀v∈vs,v.oneCell'=true
 | [],vs,e,v,hv=>by cases e; cases hv
 | c::cs,_,⟨u,us,rfl,h1,h2⟩,v,hv=>by
  rcases List.mem_cons.1 hv with rfl|hv
  ·exact h1.one.1
  ·exact CVs.one h2 v hv
theorem ztc {v:XV τ} {cs:List (CV τ)} {u:Value} (e:zsE v=some cs) (hv:XOk X.P X.G h ν v u):∃us,u.cells=⟨us⟩∧CVs X.P X.G h ν cs us∧zjP v=false:=by
 unfold zsE at e
 split at e
 ·rename_i c
  cases e;have hv:zcI X.P X.G h ν c u:=hv;exact ⟨[u],hv.one.2,⟨u,[],rfl,hv,rfl⟩,rfl⟩
 ·rename_i l
  cases e;obtain ⟨vs,rfl,hc⟩:=hv;exact ⟨vs,rfl,hc,rfl⟩
 ·cases e
theorem zsa:∀(vs us:List Value) (o k:Nat),o+k+vs.length≤us.length→((vs.zipIdx k).foldl (fun cs (q:Value × Nat)=>cs.setIfInBounds (o+q.2) q.1) us.toArray)=(us.take (o+k)++vs++us.drop (o+k+vs.length)).toArray
 | [],us,o,k,_=>by simp
 | v::vs,us,o,k,hl=>by
  simp only [List.zipIdx_cons,List.foldl_cons,List.length_cons] at hl ⊢
  have h1:us.toArray.setIfInBounds (o+k) v=(us.set (o+k) v).toArray:=by simp
  rw [h1,zsa vs (us.set (o+k) v) o (k+1) (by simp; omega)]
  have hA:(us.take (o+k)).length=o+k:=by rw [List.length_take]; omega
  have h2:us.set (o+k) v=(us.take (o+k)++[v])++us.drop (o+k+1):=by rw [List.set_eq_take_append_cons_drop,if_pos (by omega)]; simp
  have h3:(us.take (o+k)++[v]).length=o+(k+1):=by simp [hA]; omega
  rw [h2,List.take_append_of_le_length (by omega),List.take_of_length_le (by omega),List.drop_append,List.drop_eq_nil_of_le (by omega),h3,List.drop_drop];simp only [List.append_assoc,List.nil_append,List.cons_append];rw [show o+k+1+(o+(k+1)+vs.length-(o+(k+1)))=o+k+(vs.length+1) by omega]
theorem zCJ {pl:Nat→Option (Nat × Nat)} (hd:a.defers=[]):∀{ps:List (Nat × Operand)} {cs cs':List (CV τ)} {us:List Value},zAi pl E ps cs=some cs'→(∀q∈ps,zd8 X h ν a (zxl q.2) E)→CVs X.P X.G h ν cs us →
  ∃us',Instr.fill pl us.toArray (ps.map fun q=>(q.1,a.eval q.2))=some us'.toArray∧CVs X.P X.G h ν cs' us'
 | [],cs,cs',us,e,_,hc=>by cases e; exact ⟨us,rfl,hc⟩
 | (i,x)::ps,cs,cs',us,e,hE,hc=>by
  unfold zAi at e
  split at e
  ·rename_i o s hpl
   split at e
   ·rename_i v hv
    split at e
    ·rename_i vs hvs
     cases hb:Nat.beq vs.length s with
     | false=>rw [hb] at e; cases e
     | true =>
      rw [hb] at e;dsimp only [cond_true] at e
      split at e
      ·rename_i cs2 hp
       obtain ⟨ws,h1,h2,_⟩:=ztc hvs (zrj hd (hE _ (List.mem_cons_self ..)) hv);obtain ⟨h3,h4⟩:=zy2 hc h2 hp;obtain ⟨us',h5,h6⟩:=zCJ hd e (fun q hq=>hE q (List.mem_cons_of_mem _ hq)) h4;refine ⟨us',?_,h6⟩
       have hs:vs.length=s:=by simpa using hb
       have hl:=h2.len;have h7:=zsa ws us o 0 (by omega);simp only [Nat.add_zero] at h7;simp only [List.map_cons,Instr.fill,hpl,h1];rw [if_neg (by simp; omega)]
       have h8:(Array.zipIdx ⟨ws⟩).foldl (fun cs (q:Value × Nat)=>cs.setIfInBounds (o+q.2) q.1) us.toArray=(ws.zipIdx).foldl (fun cs (q:Value × Nat)=>cs.setIfInBounds (o+q.2) q.1) us.toArray:=by
        rw [← Array.foldl_toList]; simp
       refine Eq.trans (congrArg (fun z=>Instr.fill pl z _) (h8.trans h7)) h5
      ·cases e
    ·cases e
   ·cases e
  ·cases e
theorem zzp {P:Program}:∀{fs:List Field} {l:List (Nat × Nat)},zy5 P fs=some l→fs.mapM (fun f=>(P.info? f.type).map fun i=>(f.offset,i.size))=some l
 | [],l,e=>by cases e; rfl
 | f :: fs,l,e=>by
  unfold zy5 at e
  split at e
  ·rename_i s hs
   split at e
   ·rename_i r hr
    cases e;have h1:=zfA hs;unfold zkT at h1
    cases hi:P.info? f.type with
    | none=>rw [hi] at h1; cases h1
    | some i =>
     rw [hi] at h1;cases h1;simp [List.mapM_cons,hi,zzp hr]
   ·cases e
  ·cases e
theorem zzq {P:Program} {t:TypeId} {cs:List (CV τ)} (e:zAh P t=some cs):∃it z,P.info? t=some it∧it.zero=some z∧cvVs z.cells.toList=some cs:=by
 unfold zAh at e
 split at e
 ·rename_i it hi
  split at e
  ·rename_i z hz
   exact ⟨it,z,hi,hz,e⟩
  ·cases e
 ·cases e
theorem zMf (hd:a.defers=[]) {z cs:List (CV τ)} {pl:Nat→Option (Nat × Nat)} {ps:List (Nat × Operand)} (hz:zAh X.P t'=some z) (hp:zII X.P t'=some pl) (e:zAi pl E ps z=some cs)
  (hE:∀q∈ps,zd8 X h ν a (zxl q.2) E):∃u,(∀w,(execOp a.eval ⟨dst, .build t' ⟨ps⟩,t,p,af,gd⟩).run X.P w = .ok (.value u) w)∧XOk X.P X.G h ν (.g cs) u:=by
 obtain ⟨it,z0,hi,hz0,hc⟩:=zzq hz;obtain ⟨us,h1,h2⟩:=zCJ hd e hE (zy1 hc)
 have h3:z0.cells.toList.toArray=z0.cells:=by simp
 rw [h3] at h1;refine ⟨.agg ⟨us⟩,fun w=>?_,us,rfl,h2⟩
 have hb:X.P.built t' ((ps.map fun q=>(q.1,a.eval q.2)).toArray).toList=some us.toArray:=by
  unfold zII at hp
  split at hp
  ·rename_i n e' hu
   split at hp
   ·rename_i s hs
    cases hp;have h4:=zfA hs;unfold zkT at h4
    cases hie:X.P.info? e' with
    | none=>rw [hie] at h4; cases h4
    | some ie =>
     rw [hie] at h4;cases h4;simpa [Program.built,hi,hu,hz0,hie] using h1
   ·cases hp
  ·rename_i fs hu
   split at hp
   ·rename_i l hl
    cases hp
    have h5:(l.toArray[·]?)=zh2 l:=funext fun i=>by rw [zgb]; simp
    simp only [Program.built,hi,hu,hz0,zzp hl];rw [h5];exact h1
   ·cases hp
  ·cases hp
 have:=run_build w t' _ _ hb;simp only [execOp]
 have h6:(Array.map (fun (q:Nat × Operand)=>(q.1,a.eval q.2)) ⟨ps⟩)=(ps.map fun q=>(q.1,a.eval q.2)).toArray:=by simp
 have h7:(Array.map (fun x=>match x with|(i,x)=>(i,a.eval x)) (⟨ps⟩:Array (Nat × Operand)))=(ps.map fun q=>(q.1,a.eval q.2)).toArray:=h6
 first
 | (rw [h7]; simp only [Sem.run_bind,this,Result.andThen,Sem.run_pure])
 | (simp only [Sem.run_bind,this,Result.andThen,Sem.run_pure])
theorem zsb {P:Program} {i f ft b o:Nat} (e:zGG P t i=some (f,ft)):(Instr.fieldAt t (ptr b o) i).run P w = .ok (ptr b (o+f)) w:=by
 obtain ⟨fs,fd,hu,hf,rfl,rfl,n,hs⟩:=zJN e
 have hadd:(⟨b,o,none⟩:Addr).add fd.offset=⟨b,o+fd.offset,none⟩:=by unfold Addr.add; split<;>simp_all
 simp [Instr.fieldAt,run_underlying hu,hf,Instr.sureAddr,fieldPlace,zcV hs,hadd,Result.andThen]
theorem zMg {i f ft:Nat} {cs:List (CV τ)} {vx:Value} {v:XV τ} (hx:XOk X.P X.G h ν (.g cs) vx) (e:zGG X.P t i=some (f,ft))
  (hv : (match isA X.P ft with
    | some true=>match szO X.P ft with
     | some s=>match zuV cs f s with
      | some l=>some (XV.g l)
      | none=>none
     | none=>none
    | some false=>match zh2 cs f with
     | some c=>some (.c c)
     | none=>none
    | none=>none)=some v):∃u,(∀w,(Instr.field t vx i).run X.P w = .ok u w)∧XOk X.P X.G h ν v u:=by
 obtain ⟨fs,fd,hu,hf,rfl,rfl,n,hs⟩:=zJN e;obtain ⟨us,rfl,hc⟩:=hx
 split at hv
 ·rename_i ha
  split at hv
  ·rename_i s hs'
   split at hv
   ·rename_i l hl
    cases hv;obtain ⟨h1,h2⟩:=hc.cut hl;refine ⟨.agg ⟨_⟩,fun w=>?_,_,rfl,h1⟩;simp [Instr.field,run_underlying hu,hf,asAgg,part,ztz (zwW ha),zcV (zfA hs'),Result.andThen,List.extract_eq_take_drop]
   ·cases hv
  ·cases hv
 ·rename_i ha
  split at hv
  ·rename_i c hn
   cases hv;rw [zgb] at hn;obtain ⟨u,h1,h2⟩:=hc.get hn;refine ⟨u,fun w=>?_,h2⟩;simp [Instr.field,run_underlying hu,hf,asAgg,part,ztz (zwW ha),h1,Result.andThen]
  ·cases hv
 ·cases hv
theorem zJt {c:CV τ} {vx:Value} (ha:adC c=true) (hc:zcI X.P X.G h ν c vx) {f:Nat}:(∃b o,vx=ptr b o)∧(∀b o,vx=ptr b o→∀c',(match c with
      | .ea t z o=>some (.ea t z (o+f))
      | .oe id k m t z o=>some (.oe id k m t z (o+f))
      | _=>none)=some c'→zcI X.P X.G h ν c' (ptr b (o+f))):=by
  cases c with
  | ea t z o =>
    obtain ⟨b,k,vs,rfl,h1,h2⟩:=hc;refine ⟨⟨b,k+o,rfl⟩,fun b' o' e c' e'=>?_⟩;cases e; cases e';exact ⟨b,k,vs,by rw [Nat.add_assoc],h1,h2⟩
  | oe i k m t z o =>
    obtain ⟨b,d,n,c,q,xs,u,h1,h2,h3,rfl⟩:=hc;refine ⟨⟨b,_,rfl⟩,fun b' o' e c' e'=>?_⟩;cases e; cases e';exact ⟨b,d,n,c,q,xs,u,h1,h2,h3,by rw [Nat.add_assoc]⟩
  | _=>cases ha
theorem opP_ok (hT:TyOk X) {o:Oper} (hd:a.defers=[]) (hw:h.on w) (hE:zd8 X h ν a (rdO o.op) E) {v:XV τ} (e:opP X E o.op=some v) :
  ∃u,(execOp a.eval o).run X.P w = .ok (.value u) w∧XOk X.P X.G h ν v u:=by
 obtain ⟨Ea,hf,hl⟩:=zdC a hd;obtain ⟨dst,op,t,p,af,gd⟩:=o;dsimp only at e hE;unfold opP at e
 split at e
 ·exact ⟨_,by simp [execOp],zrj hd (hE.op (by simp [Op.operands])) e⟩
 ·exact ⟨_,by simp [execOp],zrj hd (hE.op (by simp [Op.operands])) e⟩
 ·split at e
  ·rename_i hc
   obtain ⟨u,h1,h2⟩:=zh hl (hE.op (by simp [Op.operands])) hc;refine ⟨_,?_,zrj hd (hE.op (by simp [Op.operands])) e⟩;simp only [execOp]; rw [hf.ev h1,show u=_ from h2]; simp [asBool]
  ·rename_i hc
   obtain ⟨u,h1,h2⟩:=zh hl (hE.op (by simp [Op.operands])) hc;refine ⟨_,?_,zrj hd (hE.op (by simp [Op.operands])) e⟩;simp only [execOp]; rw [hf.ev h1,show u=_ from h2]; simp [asBool]
  ·cases e
 ·split at e
  ·rename_i hc
   obtain ⟨u,h1,h2⟩:=zh hl (hE.op (by simp [Op.operands])) hc;obtain rfl:u=_:=h2;cases e;exact ⟨_,zHB hf h1,rfl⟩
  ·rename_i hc
   obtain ⟨u,h1,h2⟩:=zh hl (hE.op (by simp [Op.operands])) hc;obtain rfl:u=_:=h2;cases e;exact ⟨_,zHB hf h1,rfl⟩
  ·cases e
 ·split at e
  ·rename_i l hx
   obtain ⟨u,h1,h2⟩:=zno hl (hE.op (by simp [Op.operands])) hx rfl;obtain ⟨vs,rfl,h3⟩:=h2
   split at e
   ·rename_i c hc
    cases e;rw [zgb] at hc;obtain ⟨v,h4,⟨h5,_⟩|⟨_,c',e',h5⟩⟩:=h3.get hc
    ·cases h5
    ·cases e';exact ⟨v,zus hf h1 (by simpa using h4),h5⟩
   ·rename_i cs hc
    cases e;rw [zgb] at hc;obtain ⟨v,h4,⟨_,ws,rfl,h5⟩|⟨h5,_⟩⟩:=h3.get hc
    ·exact ⟨_,zus hf h1 (by simpa using h4),ws,rfl,h5⟩
    ·cases h5
   ·cases e
  ·cases e
 ·split at e
  ·rename_i c hc
   cases ha:adC c with
   | false=>rw [ha] at e; cases e
   | true =>
    rw [ha] at e;cases e;obtain ⟨u,h1,h2⟩:=zh hl (hE.op (by simp [Op.operands])) hc;obtain ⟨ad,rfl⟩:=zMd ha h2;exact ⟨_,zr1 hf h1,h2⟩
  ·cases e
 ·split at e
  ·rename_i f ft hfl
   split at e
   ·rename_i t z o hc
    cases e;obtain ⟨u,h1,h2⟩:=zh hl (hE.op (by simp [Op.operands])) hc;obtain ⟨⟨b,k,rfl⟩,h3⟩:=zJt (f:=f) rfl h2;refine ⟨ptr b (k+f),?_,h3 _ _ rfl _ rfl⟩;simp only [execOp]; rw [hf.ev h1]; simp [zsb hfl,Result.andThen]
   ·rename_i hc
    cases e;obtain ⟨u,h1,h2⟩:=zh hl (hE.op (by simp [Op.operands])) hc;obtain ⟨⟨b,k,rfl⟩,h3⟩:=zJt (f:=f) rfl h2;refine ⟨ptr b (k+f),?_,h3 _ _ rfl _ rfl⟩;simp only [execOp]; rw [hf.ev h1]; simp [zsb hfl,Result.andThen]
   ·cases e
  ·cases e
 ·split at e
  ·rename_i f ft hfl
   split at e
   ·rename_i cs hx
    obtain ⟨u,h1,h2⟩:=zno hl (hE.op (by simp [Op.operands])) hx rfl;obtain ⟨r,h3,h4⟩:=zMg h2 hfl e;exact ⟨r,zKV hf h1 (h3 w),h4⟩
   ·cases e
  ·cases e
 ·split at e
  ·rename_i A hA
   split at e
   ·rename_i B hB
    obtain ⟨hgA,hgB⟩:=zOB e;obtain ⟨vx,h1,h2⟩:=zno hl (hE.op (by simp [Op.operands])) hA hgA;obtain ⟨vy,h3,h4⟩:=zno hl (hE.op (by simp [Op.operands])) hB hgB;obtain ⟨u,h5,h6⟩:=zOA hT hf h1 h3 h2 h4 e;exact ⟨u,h5 w,h6⟩
   ·cases e
  ·cases e
 ·split at e
  ·rename_i c hc
   obtain ⟨vx,h1,h2⟩:=zh hl (hE.op (by simp [Op.operands])) hc;exact zMe hf h1 h2 hw e
  ·cases e
 ·split at e
  ·rename_i z hz
   split at e
   ·rename_i pl hp
    split at e
    ·rename_i cs hc
     cases e;obtain ⟨u,h1,h2⟩:=zMf (dst:=dst) (t:=t) (p:=p) (af:=af) (gd:=gd) hd hz hp hc fun q hq=>hE.op (by simp only [Op.operands,List.toList_toArray,List.mem_map]; exact ⟨q,hq,rfl⟩);exact ⟨u,h1 w,h2⟩
    ·cases e
   ·cases e
  ·cases e
 ·split at e
  ·rename_i hc
   obtain ⟨vx,h1,h2⟩:=zh hl (hE.op (by simp [Op.operands,Call.operands])) hc;obtain rfl:vx=_:=h2
   split at e
   ·rename_i hu
    cases e;exact ⟨_,zFB hu hf h1,rfl⟩
   ·cases e
  ·rename_i hc
   obtain ⟨vx,h1,h2⟩:=zh hl (hE.op (by simp [Op.operands,Call.operands])) hc
   split at e
   ·rename_i hu
    cases e;cases h2;exact ⟨_,zpc hu hf h1,rfl⟩
   ·cases e
  ·rename_i hc
   obtain ⟨vx,h1,h2⟩:=zh hl (hE.op (by simp [Op.operands,Call.operands])) hc;obtain rfl:vx=_:=h2
   split at e
   ·rename_i hu
    cases e;exact ⟨_,zpc hu hf h1,rfl⟩
   ·cases e
  ·cases e
 ·split at e
  ·rename_i hc
   obtain ⟨vx,h1,h2⟩:=zh hl (hE.op (by simp [Op.operands,Call.operands])) hc;obtain rfl:vx=_:=h2
   split at e
   ·rename_i hc'
    obtain ⟨vy,h3,h4⟩:=zh hl (hE.op (by simp [Op.operands,Call.operands])) hc';obtain rfl:vy=_:=h4;cases e;exact ⟨_,ex_min hf h1 h3,rfl⟩
   ·cases e
  ·cases e
 ·split at e
  ·rename_i hc
   obtain ⟨vx,h1,h2⟩:=zh hl (hE.op (by simp [Op.operands,Call.operands])) hc;obtain rfl:vx=_:=h2
   split at e
   ·rename_i hc'
    obtain ⟨vy,h3,h4⟩:=zh hl (hE.op (by simp [Op.operands,Call.operands])) hc';obtain rfl:vy=_:=h4;cases e;exact ⟨_,ex_max hf h1 h3,rfl⟩
   ·cases e
  ·cases e
 ·cases e
end
end Go.Rk
end
section
namespace Go.Rk
open Go.RowKit Go.Dm Go.Dk
variable {τ:Nat→Type}

open Classical in
noncomputable def zrw (h:Fz) (w:World) (bs:List Nat):Fz:=fun b=>if b∈bs then w.heap[b]? else h b
section
variable {P:Program} {G:Sig τ} {w0 w w':World} {h0 h h' H:Fz} {F:List Nat} {L L' L2:Hp τ} {ν ν':Vn τ} {φ φ':Nat→List Nat}
theorem Fz.le.refl (h:Fz):h.le h:=fun _ _ e=>e
theorem Fz.le.trans {h h' h'':Fz} (a:h.le h') (b:h'.le h''):h.le h'':=fun _ _ e=>b _ _ (a _ _ e)
theorem Vn.le.refl (ν:Vn τ):ν.le ν:=fun _ _ e=>e
theorem Vn.le.trans {ν ν' ν'':Vn τ} (a:ν.le ν') (b:ν'.le ν''):ν.le ν'':=fun _ _ e=>b _ _ (a _ _ e)
theorem zqg {bs:List Nat} {b:Nat} (hb:b∈bs):zrw h w bs b=w.heap[b]? := by simp [zrw,hb]
theorem zjX {bs:List Nat} {b:Nat} (hb:b∉bs):zrw h w bs b=h b:=by simp [zrw,hb]
theorem zvt {bs:List Nat} (hw:h.on w):(zrw h w bs).on w:=by
 intro b o e
 by_cases hb:b∈bs
 ·rwa [zqg hb] at e
 ·rw [zjX hb] at e; exact hw _ _ e
theorem Mem.lend_le (M:Mem P G w0 h0 F L w ν h φ) (ids:List Nat):h.le (zrw h w (fps φ ids)):=by
 intro b o e
 by_cases hb:b∈fps φ ids
 ·obtain ⟨i,_,hi⟩:=mem_fps.1 hb;rw [(M.out i b hi).1] at e; cases e
 ·rw [zjX hb]; exact e
theorem ze4 (φ:Nat→List Nat) (l m:List Nat):fps φ (l++m)=fps φ l++fps φ m:=by simp [fps]
theorem zc3 (φ:Nat→List Nat) (i:Nat) (m:List Nat):fps φ (i::m)=φ i++fps φ m:=by simp [fps]

theorem zwO {te:TypeId} {e:Ty} {xs:List (e.den τ)} {v:Value} {vs:List Value} (hH:h.le H) (ho:zgC G w te (ets G e).length v xs.length vs) (hr:RpR P G h e xs vs) (hb:∀b∈v.ownBlock.toList,H b=w.heap[b]?):Rp P G H (.sl e) xs v:=by
 obtain ⟨hl,⟨rfl,hn⟩|⟨g,d,cap,cur,rfl,_,hg,hc,_,hs,ht⟩⟩:=ho
 ·rw [hn] at hl;have:vs=[]:=List.eq_nil_of_length_eq_zero (by simpa using hl);have hxs:xs=[]:=List.eq_nil_of_length_eq_zero hn;subst this; subst hxs;exact .sl e [] none 0 [] (Nat.le_refl _) (.inl rfl) (.nil _)
 ·refine .sl e xs _ cap vs hc (.inr ⟨g,_,cur,te,(0,0),rfl,?_,?_⟩) (hr.le hH)
  ·rw [hb g (by simp [Value.ownBlock])]; exact hg
  ·intro k v hk;rw [← ht,List.getElem?_take] at hk
   split at hk
   ·rw [List.getElem?_drop] at hk; simpa using hk
   ·cases hk

theorem RpL.len:∀{ts:List Ty} {q:DP τ ts} {vs:List Value},RpL P G h ts q vs→vs.length=ts.length
 | _,_,_, .nil=>rfl
 | _,_,_, .cons _ _ _ _ _ _ h2=>by simp [RpL.len h2]
theorem RpR.len:∀{e:Ty} {xs:List (e.den τ)} {vs:List Value},RpR P G h e xs vs→vs.length=xs.length*(ets G e).length
 | _,_,_, .nil _=>by simp
 | _,_,_, .cons e x xs vs ws h1 h2=>by simp [RpR.len h2,h1.len,Nat.add_mul]; omega
theorem RpR.drop:∀{e:Ty} {xs:List (e.den τ)} {vs:List Value},RpR P G h e xs vs→∀(i:Nat),RpR P G h e (xs.drop i) (vs.drop (i*(ets G e).length))
 | _,_,_, .nil e,i=>by simp; exact .nil e
 | _,_,_, .cons e x xs vs ws h1 h2,0=>by simp; exact .cons e x xs vs ws h1 h2
 | _,_,_, .cons e x xs vs ws h1 h2,i+1=>by
  have hl:=h1.len;have e1:vs.drop (i*(ets G e).length+(ets G e).length)=[]:=List.drop_eq_nil_of_le (by omega);rw [List.drop_succ_cons,Nat.add_mul,Nat.one_mul,List.drop_append,e1,List.nil_append,hl,Nat.add_sub_cancel];exact h2.drop i
theorem RpR.take:∀{e:Ty} {xs:List (e.den τ)} {vs:List Value},RpR P G h e xs vs→∀(i:Nat),RpR P G h e (xs.take i) (vs.take (i*(ets G e).length))
 | _,_,_, .nil e,i=>by simp; exact .nil e
 | _,_,_, .cons e x xs vs ws h1 h2,0=>by simp; exact .nil e
 | _,_,_, .cons e x xs vs ws h1 h2,i+1=>by
  have hl:=h1.len;have e1:vs.take (i*(ets G e).length+(ets G e).length)=vs:=List.take_of_length_le (by omega);rw [List.take_succ_cons,Nat.add_mul,Nat.one_mul,List.take_append,e1,hl,Nat.add_sub_cancel];exact .cons e x _ vs _ h1 (h2.take i)
theorem zpm.part {ad:Option Addr} {vs us:List Value} {k:Nat} (hs:zpm h ad vs) (hu:∀j v,us[j]? = some v→vs[k+j]? = some v):zpm h (ad.map (·.add k)) us:=by
 rcases hs with rfl|⟨b,o,c,e,z,rfl,h1,h2⟩
 ·left
  apply List.eq_nil_iff_forall_not_mem.2
  intro v hv;obtain ⟨j,hj⟩:=List.mem_iff_getElem?.1 hv;have:=hu j v hj;simp at this
 ·have hadd:(⟨b,o,none⟩:Addr).add k=⟨b,o+k,none⟩:=by unfold Addr.add; split<;>simp_all
  refine .inr ⟨b,o+k,c,e,z,by simp [hadd],h1,fun j v hj=>?_⟩;rw [Nat.add_assoc]; exact h2 _ _ (hu j v hj)
theorem zMr {e:Ty} {xs:List (e.den τ)} {ad:Option Addr} {n c i j:Nat} (hr:Rp P G h (.sl e) xs (.slice ad n c)) (hij:i≤j) (hj:j≤xs.length):n=xs.length∧xs.length≤c ∧
  Rp P G h (.sl e) ((xs.take j).drop i) (.slice (if c=i then ad else ad.map (·.add (i*(ets G e).length))) (j-i) (c-i)):=by
 cases hr with
 | sl _ _ _ _ vs hc hs hrr =>
  refine ⟨rfl,hc,?_⟩
  have hlen:((xs.take j).drop i).length=j-i:=by rw [List.length_drop,List.length_take]; omega
  rw [← hlen]
  have hcell:∀k v,((vs.take (j*(ets G e).length)).drop (i*(ets G e).length))[k]? = some v→vs[i*(ets G e).length+k]? = some v:=by
   intro k v hk;rw [List.getElem?_drop,List.getElem?_take] at hk
   split at hk
   ·exact hk
   ·cases hk
  refine .sl e _ _ _ ((vs.take (j*(ets G e).length)).drop (i*(ets G e).length)) (by rw [hlen]; omega) ?_ ((hrr.take j).drop i)
  by_cases hci:c=i
  ·rw [if_pos hci]
   left
   have h1:=((hrr.take j).drop i).len;rw [hlen,show j-i=0 by omega,Nat.zero_mul] at h1;exact List.eq_nil_of_length_eq_zero h1
  ·rw [if_neg hci]; exact hs.part hcell
theorem vw_rp {e:Ty} {xs ys:List (e.den τ)} {a a':Option Addr} {n c c' lo:Nat} (hr:Rp P G H (.sl e) ys (.slice a n c)) (h1:lo+xs.length≤ys.length) (h2:xs=(ys.take (lo+xs.length)).drop lo) (h3:xs.length≤c') (h4:xs≠[]→a'=a.map (·.add (lo*(ets G e).length))):Rp P G H (.sl e) xs (.slice a' xs.length c'):=by
 by_cases hx:xs=[]
 ·subst hx; exact .sl e [] a' c' [] h3 (.inl rfl) (.nil _)
 ·obtain ⟨_,hc,hs⟩:=zMr hr (i:=lo) (j:=lo+xs.length) (by omega) h1;have hl:0<xs.length:=List.length_pos_iff.2 hx;rw [← h2,if_neg (by omega), ← h4 hx] at hs;rw [show lo+xs.length-lo=xs.length by omega] at hs
  cases hs with
  | sl _ _ _ _ vs _ hs hrr=>exact .sl e xs a' c' vs h3 hs hrr
theorem zd5.part {ad:Option Addr} {vs us:List Value} {k:Nat} (hs:zd5 w ad vs) (hu:∀(j:Nat) v,us[j]? = some v→vs[k+j]? = some v):zd5 w (ad.map (·.add k)) us:=by
 by_cases hne:us=[]
 ·subst hne
  cases ad with
  | none=>rfl
  | some x=>exact .inl rfl
 ·have hv:vs≠[]:=by
   rintro rfl
   apply hne
   apply List.eq_nil_iff_forall_not_mem.2
   intro v hv;obtain ⟨j,hj⟩:=List.mem_iff_getElem?.1 hv;have:=hu j v hj;simp at this
  cases ad with
  | none=>exact (hv hs).elim
  | some x =>
   obtain ⟨h1,h2,h3⟩:=hs.hard hv;obtain ⟨b,o,sp⟩:=x;simp only at h1 h2 h3;subst h1
   have hadd:(⟨b,o,none⟩:Addr).add k=⟨b,o+k,none⟩:=by unfold Addr.add; split<;>simp_all
   simp only [Option.map_some,hadd];refine .inr ⟨rfl,h2,fun i v hv=>?_⟩;have:=h3 _ _ (hu i v hv);simpa [Nat.add_assoc] using this
mutual
theorem Tr.rp (hH:h.le H):∀{t:Ty} {x:t.den τ} {v:Value} {fp:List Nat},Tr P G h w t x v fp→(∀b∈fp,H b=w.heap[b]?)→Rp P G H t x v
 | _,_,_,_, .fz t x v hz hr,_=>hr.le hH
 | _,_,_,_, .so te e xs v vs ho hr,hb => .so te e xs v (zwO hH ho hr hb)
 | _,_,_,_, .po n x b vs fp h1 h2 hn _,hb => .po n x _ (.pt n x b 0 vs (.inr ⟨b,0,vs.toArray,G.ti n,(0,0),rfl,(hb b (List.mem_cons_self ..)).trans h1,fun k v hk=>by simpa using hk⟩) (h2.rp hH fun c hc=>hb c (List.mem_cons_of_mem _ hc)))
 | _,_,_,_, .pn0 n,_ => .pn0 n
 | _,_,_,_, .pn1 n x v fp hp,hb => .pn1 n x v (match hp.rp hH hb with | .po _ _ _ hr=>hr)
theorem TrL.rp (hH:h.le H):∀{ts:List Ty} {p:DP τ ts} {vs:List Value} {fp:List Nat},TrL P G h w ts p vs fp→(∀b∈fp,H b=w.heap[b]?)→RpL P G H ts p vs
 | _,_,_,_, .nil,_ => .nil
 | _,_,_,_, .cons t ts p v vs f f' h1 h2 hd,hb => .cons t ts p v vs (h1.rp hH fun b hf=>hb b (List.mem_append_left _ hf)) (h2.rp hH fun b hf=>hb b (List.mem_append_right _ hf))
end
theorem zDo (M:Mem P G w0 h0 F L2 w ν h φ) (hH:h.le H) {e:Ty} {c:CV τ} {xs:List (e.den τ)} {m:List Nat} {v:Value} (k:zEB L e c=some (xs,m)) (hL:∀i∈m,lk L2 i=lk L i) (hb:∀b∈fps φ m,H b=w.heap[b]?)
  (hv:zcI P G h ν c v):Rp P G H (.sl e) xs v:=by
 unfold zEB at k
 split at k
 ·split at k
  ·rename_i hx
   obtain ⟨rfl,rfl⟩:=zgE hx;cases k;exact Rp.le hH hv
  ·cases k
 ·cases k; cases hv;exact .sl e [] none 0 [] (Nat.le_refl _) (.inl rfl) (.nil _)
 ·rename_i id
  obtain ⟨ad,n,cp,q,hν,rfl⟩:=hv
  split at k
  ·rename_i te e' xs' kk hlk
   split at k
   ·rename_i hx
    obtain ⟨rfl,rfl⟩:=zgE hx;cases k;have hr:=M.res id;rw [hL id (List.mem_singleton.2 rfl),hlk] at hr;obtain ⟨v',q',vs,u,h1,h2,h3,h4,_⟩:=hr;rw [hν] at h1;cases h1;exact zwO hH h3 h4 fun b hbb=>hb b (by rw [zc3,h2]; exact List.mem_append_left _ hbb)
   ·cases k
  ·rename_i e' xs' hlk
   split at k
   ·rename_i hx
    obtain ⟨rfl,rfl⟩:=zgE hx;cases k;have hr:=M.res id;rw [hL id (List.mem_singleton.2 rfl),hlk] at hr;obtain ⟨v',q',h1,_,h3⟩:=hr;rw [hν] at h1;cases h1;exact h3.le hH
   ·cases k
  ·rename_i i kk e' lo xs' hlk
   split at k
   ·rename_i te e2 ys k' hlk2
    cases hkk:Nat.beq kk k' with
    | false=>rw [hkk] at k; cases k
    | true =>
     rw [hkk] at k
     have:kk=k':=by simpa using hkk
     subst this;dsimp only [cond_true] at k
     split at k
     ·rename_i hx
      obtain ⟨rfl,rfl⟩:=zgE hx;cases k;have hr:=M.res id;rw [hL id (List.mem_cons_self ..),hlk] at hr;obtain ⟨a1,n1,c1,q1,q2,u1,ys1,a2,c2,g1,g2,g3,g4,g5,g6,g7,_⟩:=hr;have hr2:=M.res i;rw [hL i (List.mem_cons_of_mem _ (List.mem_cons_self ..)),hlk2] at hr2;obtain ⟨v',q',vs,u,h1,h2,h3,h4,h5⟩:=hr2;rw [g1] at h1;cases h1;rw [g2] at h5
      injection h5 with h5
      injection h5 with _ h5
      injection h5 with h5
      cases h5;rw [hν] at g5;cases g5;exact vw_rp (zwO hH h3 h4 fun b hbb=>hb b (by rw [zc3,zc3,h2]; exact List.mem_append_right _ (List.mem_append_left _ hbb))) g3 g4 g6 g7.1
     ·cases k
   ·cases k
  ·cases k
 ·cases k
theorem ztd {f:(t:Ty)→CV τ→Option (t.den τ × List Nat)} {A:List Nat→Prop} (hA:∀l m,A (l++m)→A l∧A m)
  (hf:∀t c x m v,f t c=some (x,m)→A m→zcI P G h ν c v→Rp P G H t x v):∀{ts:List Ty} {cs:List (CV τ)} {q:DP τ ts} {vs:List Value} {m:List Nat},zxj f ts cs=some (q,m)→A m→CVs P G h ν cs vs→RpL P G H ts q vs
 | [],[],q,vs,_,e,_,hv=>by cases e; cases hv; exact .nil
 | t::ts,c::cs,q,_,_,e,ha,⟨v,us,rfl,h1,h2⟩=>by
  unfold zxj at e
  split at e
  ·rename_i x m hx
   split at e
   ·rename_i q' m' hq
    cases e;refine .cons t ts _ v us ?_ ?_
    ·rw [DP.hd_mk]; exact hf _ _ _ _ _ hx (hA _ _ ha).1 h1
    ·rw [DP.tl_mk]; exact ztd hA hf hq (hA _ _ ha).2 h2
   ·cases e
  ·cases e
 | [],_::_,_,_,_,e,_,_=>by cases e
 | _::_,[],_,_,_,e,_,_=>by cases e
theorem zJz {t:Ty} {x:t.den τ} {v:Value} (hr:Rp P G h t x v):zcI P G h ν (t.av x) v:=by
 cases hr with
 | sl e xs a c vs hc hs hr=>exact .sl e xs a c vs hc hs hr
 | so te e xs v hr=>exact hr
 | pt n x b k vs hs hr=>exact ⟨b,k,vs,rfl,hs,hr⟩
 | po n x v hr=>cases hr with|pt n x b k vs hs hr=>exact ⟨b,k,vs,rfl,hs,hr⟩
 | pn0 n=>exact .pn0 n
 | pn1 n x v hr=>exact .pn1 n x v hr
 | fn m f hf=>exact .fn m f hf
 | cl f t x u hr=>exact .cl f t x u hr
 | mv f u=>exact .mv f u
 | _=>rfl
theorem zzv:∀{ts:List Ty} {q:DP τ ts} {vs:List Value},RpL P G h ts q vs→CVs P G h ν (avs ts q) vs
 | _,_,_, .nil=>rfl
 | _,_,_, .cons t ts q v vs h1 h2=>⟨v,vs,rfl,zJz h1,zzv h2⟩
def zbJ (L2 L:Hp τ) (φ:Nat→List Nat) (H:Fz) (w:World) (m:List Nat):Prop:=(∀i∈m,lk L2 i=lk L i)∧∀b∈fps φ m,H b=w.heap[b]?
theorem zbJ.app {l m:List Nat} (a:zbJ L2 L φ H w (l++m)):zbJ L2 L φ H w l∧zbJ L2 L φ H w m :=
  ⟨⟨fun i hi=>a.1 i (List.mem_append_left _ hi),fun b hb=>a.2 b (by rw [ze4]; exact List.mem_append_left _ hb)⟩,
   ⟨fun i hi=>a.1 i (List.mem_append_right _ hi),fun b hb=>a.2 b (by rw [ze4]; exact List.mem_append_right _ hb)⟩⟩
theorem zDp (M:Mem P G w0 h0 F L2 w ν h φ) (hH:h.le H) {f:(t:Ty)→CV τ→Option (t.den τ × List Nat)} (hf:∀t c x m v,f t c=some (x,m)→zbJ L2 L φ H w m→zcI P G h ν c v→Rp P G H t x v)
  {n:Nat} {c:CV τ} {x:τ n} {m:List Nat} {v:Value} (k:lokP f G L n c=some (x,m)) (ha:zbJ L2 L φ H w m) (hv:zcI P G h ν c v):Rp P G H (.pt n) x v:=by
 unfold lokP at k
 split at k
 ·rename_i t z o
  obtain ⟨b,q,vs,rfl,h1,h2⟩:=hv
  split at k
  ·rename_i x' hx
   cases k;unfold eaO at hx
   split at hx
   ·rename_i n' z
    cases ho:Nat.beq o 0
    ·rw [ho] at hx; cases hx
    ·rw [ho] at hx
     replace ho:=Nat.eq_of_beq_eq_true ho
     subst ho;obtain ⟨rfl,rfl⟩:=zMq hx;exact .pt _ _ b _ vs (h1.le hH) (h2.le hH)
   ·cases hx
  ·split at k
   ·rename_i cs hcut
    split at k
    ·rename_i p m' hq
     cases k;have hc:=(CVs.cut (X:=⟨P,G,[],[],0,fun _ => .bool false⟩) (zzv (ν:=ν) h2) hcut).1;refine .pt n _ b (q+o) ((vs.drop o).take (G.fs n).length) ?_ ?_
     ·rcases h1 with rfl|⟨b',o',c,e,z',h3,h4,h5⟩
      ·exact .inl (by simp)
      ·cases h3;refine .inr ⟨b,q+o,c,e,z',rfl,hH _ _ h4,fun k v hk=>?_⟩;rw [List.getElem?_take] at hk
       split at hk
       ·rw [List.getElem?_drop] at hk;rw [Nat.add_assoc];exact h5 _ _ hk
       ·cases hk
     ·rw [G.dc]; exact ztd (A:=zbJ L2 L φ H w) (fun _ _=>zbJ.app) hf hq ha hc
    ·cases k
   ·cases k
 ·rename_i id o
  split at k
  ·rename_i t cs hlk
   split at k
   ·rename_i cs' hcut
    split at k
    ·rename_i p m' hq
     cases k;have ha':=zbJ.app (l:=[id]) ha;have hr:=M.res id;rw [ha.1 id (List.mem_cons_self ..),hlk] at hr;obtain ⟨b,q,vs,h1,h2,h3,h4⟩:=hr;obtain ⟨u,q',h5,rfl,_⟩:=hv;rw [h1] at h5;cases h5;have hc:=(CVs.cut (X:=⟨P,G,[],[],0,fun _ => .bool false⟩) h4 hcut).1;refine .pt n _ b (0+o) ((vs.drop o).take (G.fs n).length) (.inr ⟨b,0+o,vs.toArray,t,(0,0),rfl,?_,fun k v hk=>?_⟩) ?_
     ·rw [ha.2 b (by rw [zc3,h2]; simp)]; exact h3
     ·rw [List.getElem?_take] at hk
      split at hk
      ·rw [List.getElem?_drop] at hk;simpa using hk
      ·cases hk
     ·rw [G.dc]; exact ztd (A:=zbJ L2 L φ H w) (fun _ _=>zbJ.app) hf hq ha'.2 hc
    ·cases k
   ·cases k
  ·cases k
 ·cases k
theorem zOH (M:Mem P G w0 h0 F L2 w ν h φ) (hH:h.le H) {n:Nat} {c:CV τ} {x:Option (τ n)} {m:List Nat} {v:Value} (k:lokT L n c=some (x,m)) (ha:zbJ L2 L φ H w m) (hv:zcI P G h ν c v):Rp P G H (.pn n) x v:=by
 unfold lokT at k
 split at k
 ·rename_i id
  obtain ⟨u,q',h5,rfl,_⟩:=hv
  have e0:zuo (.pointer u) 0 = .pointer u:=by cases u<;>rfl
  rw [e0]
  split at k
  ·rename_i n' y hlk
   split at k
   ·rename_i hx
    obtain ⟨rfl,rfl⟩:=zzu hx;cases k;have hr:=M.res id;rw [ha.1 id (List.mem_singleton.2 rfl),hlk] at hr;obtain ⟨v',q,h1,h2⟩:=hr;rw [h1] at h5; cases h5;exact h2.rp hH fun b hb=>ha.2 b (by rw [zc3]; exact List.mem_append_left _ hb)
   ·cases k
  ·rename_i hlk
   cases k;have hr:=M.res id;rw [ha.1 id (List.mem_singleton.2 rfl),hlk] at hr;obtain ⟨q,h1,h2⟩:=hr;rw [h1] at h5; cases h5;exact .pn0 n
  ·cases k
 ·cases k
theorem zwP (M:Mem P G w0 h0 F L2 w ν h φ) (hH:h.le H):∀(d:Nat) (t:Ty) (c:CV τ) (x:t.den τ) (m:List Nat) (v:Value),lok G L d t c=some (x,m)→zbJ L2 L φ H w m→zcI P G h ν c v→Rp P G H t x v
 | 0,t,c,x,m,v,k,_,_=>by cases k
 | d + 1,t,c,x,m,v,k,ha,hv=>by
  have ih:=zwP M hH d;unfold lok at k;cases t<;>dsimp only at k
  case sl e=>exact zDo M hH k ha.1 ha.2 hv
  case so te e=>exact .so te e x v (zDo M hH k ha.1 ha.2 hv)
  case pt n=>exact zDp M hH ih k ha hv
  case po n=>exact .po n x v (zDp M hH ih k ha hv)
  case pn n =>
   split at k
   ·cases k; cases hv; exact .pn0 n
   ·split at k
    ·rename_i hx
     obtain ⟨rfl,rfl⟩:=zzu hx;cases k;exact Rp.le hH hv
    ·cases k
   ·split at k
    ·rename_i hy
     cases k;exact zOH M hH hy ha hv
    ·split at k
     ·rename_i y m' hy
      cases k;exact .pn1 n y v (zDp M hH ih hy ha hv)
     ·cases k
  case fn =>
   split at k
   ·cases k; exact Rp.le hH hv
   ·split at k
    ·rename_i f m hm
     cases k; cases hv;exact .fn _ _ (M.fp _ (zmP hm))
    ·cases k
   ·cases k
  case fc f =>
   split at k
   ·rename_i g
    cases hb:Nat.beq g f with
    | false=>rw [hb] at k; cases k
    | true =>
     rw [hb] at k;cases k
     have:g=f:=by simpa using hb
     subst this;cases hv;exact .fc g
   ·cases k
  case mv f =>
   split at k
   ·rename_i g
    cases hb:Nat.beq g f with
    | false=>rw [hb] at k; cases k
    | true =>
     rw [hb] at k;cases k
     have:g=f:=by simpa using hb
     subst this;exact Rp.le hH hv
   ·rename_i g i
    cases hb:Nat.beq g f with
    | false=>rw [hb] at k; cases k
    | true =>
     rw [hb] at k;cases k
     have:g=f:=by simpa using hb
     subst this;obtain ⟨u,q,_,rfl⟩:=hv;exact .mv _ _
   ·cases k
  case cl f t' =>
   split at k
   ·rename_i g t2 y
    cases hb:Nat.beq g f with
    | false=>rw [hb] at k; cases k
    | true =>
     rw [hb] at k;dsimp only [cond_true] at k
     have:g=f:=by simpa using hb
     subst this
     split at k
     ·rename_i hx
      obtain ⟨rfl,rfl⟩:=zMp hx;cases k;exact Rp.le hH hv
     ·cases k
   ·rename_i id
    split at k
    ·rename_i g c' hl
     cases hb:Nat.beq g f with
     | false=>rw [hb] at k; cases k
     | true =>
      rw [hb] at k;dsimp only [cond_true] at k
      have:g=f:=by simpa using hb
      subst this
      split at k
      ·rename_i x' m' hx
       cases k;obtain ⟨f',us,vs,q,hν,rfl⟩:=hv;have hr:=M.res id;rw [ha.1 id (List.mem_cons_self ..),hl] at hr;obtain ⟨us',vs',q',h1,_,h2,h3⟩:=hr;rw [hν] at h1;cases h1;obtain rfl:us=[]:=h2;obtain ⟨v',_,rfl,h4,rfl⟩:=h3;exact .cl _ _ _ _ (ih _ _ _ _ _ hx (zbJ.app (l:=[id]) ha).2 h4)
      ·cases k
    ·cases k
   ·cases k
  all_goals first|(cases k; done)|(split at k<;>first|(cases k; done)|(cases k; cases hv; constructor))

theorem zep {l:List Nat} {i:Nat}:mem l i=true↔i∈l:=by simp [zte,List.any_eq_true]
theorem zvu:∀{l m:List Nat},nod (l++m)=true→nod l=true∧nod m=true∧∀i∈l,i∉m
 | [],m,h=>⟨rfl,h,fun i hi=>by cases hi⟩
 | a::l,m,h=>by
  simp only [List.cons_append,nod,Bool.and_eq_true,Bool.not_eq_true'] at h;obtain ⟨h1,h2⟩:=h;obtain ⟨h3,h4,h5⟩:=zvu h2
  have hn:a∉l++m:=fun e=>by rw [zep.2 e] at h1; cases h1
  refine ⟨?_,h4,fun i hi=>?_⟩
  ·simp only [nod,Bool.and_eq_true,Bool.not_eq_true'];exact ⟨Bool.eq_false_iff.2 fun e=>hn (List.mem_append_left _ (zep.1 e)),h3⟩
  ·rcases List.mem_cons.1 hi with rfl|hi
   ·exact fun e=>hn (List.mem_append_right _ e)
   ·exact h5 i hi
theorem zwQ {l m:List Nat} (h:zyu l m=true):∀i∈l,i∉m:=by
 intro i hi e;have:=List.all_eq_true.1 (zAg l m▸h) i hi;rw [zep.2 e] at this;cases this
theorem Mem.fps_dis (M:Mem P G w0 h0 F L2 w ν h φ) {l m:List Nat} (h:∀i∈l,i∉m):∀b∈fps φ l,b∉fps φ m:=by
 intro b h1 h2;obtain ⟨i,hi,hb⟩:=mem_fps.1 h1;obtain ⟨j,hj,hb'⟩:=mem_fps.1 h2;exact h i hi (M.dis i j b hb hb'▸hj)
theorem zDq (M:Mem P G w0 h0 F L2 w ν h φ) {f:(t:Ty)→CV τ→Rs (t.den τ)}
  (hf:∀t c x l m v,f t c=some (x,l,m)→(∀i∈l,lk L2 i=lk L i)→zbJ L2 L φ H w m→nod l=true→zcI P G h ν c v→Tr P G H w t x v (fps φ l)) :
  ∀{ts:List Ty} {cs:List (CV τ)} {q:DP τ ts} {vs:List Value} {l m:List Nat},zID f ts cs=some (q,l,m)→(∀i∈l,lk L2 i=lk L i)→zbJ L2 L φ H w m→nod l=true→CVs P G h ν cs vs→TrL P G H w ts q vs (fps φ l)
 | [],[],q,vs,_,_,e,_,_,_,hv=>by cases e; cases hv; exact .nil
 | t::ts,c::cs,q,_,_,_,e,ha,hm,hn,⟨v,us,rfl,h1,h2⟩=>by
  unfold zID at e
  split at e
  ·rename_i x l m hx
   split at e
   ·rename_i q' l' m' hq
    cases e;obtain ⟨n1,n2,n3⟩:=zvu hn;rw [ze4];refine .cons t ts _ v us _ _ ?_ ?_ (M.fps_dis n3)
    ·rw [DP.hd_mk]; exact hf _ _ _ _ _ _ hx (fun i hi=>ha i (List.mem_append_left _ hi)) hm.app.1 n1 h1
    ·rw [DP.tl_mk]; exact zDq M hf hq (fun i hi=>ha i (List.mem_append_right _ hi)) hm.app.2 n2 h2
   ·cases e
  ·cases e
 | [],_::_,_,_,_,_,e,_,_,_,_=>by cases e
 | _::_,[],_,_,_,_,e,_,_,_,_=>by cases e
theorem zMs:∀{ts:List Ty},noM ts=true→∀{vs:List Value},MvOk ts vs
 | [],_,vs,i,f,h=>by simp at h
 | t::ts,hz,vs,i,f,h=>by
  simp only [noM,Bool.and_eq_true] at hz
  cases i with
  | zero =>
   simp only [List.getElem?_cons_zero,Option.some.injEq] at h;subst h;exact absurd hz.1 (by simp)
  | succ i =>
   have h3:=zMs hz.2 (vs:=[]) i f (by simpa using h);obtain ⟨u,h4,_⟩:=h3;simp at h4
theorem zMt {i:Nat} {u:Option Addr} {q:Option ((e:Ty) × List (e.den τ))} (hν:ν i=some (.pointer u,q)):∀{ts:List Ty} {cs:List (CV τ)} {vs:List Value},okM i ts cs=true→CVs P G h ν cs vs→ts.length≤cs.length→∀(k:Nat) (f:Nat),ts[k]? = some (.mv f)→vs[k]? = some (.func (.func f) #[.pointer u] #[])
 | [],_,_,_,_,_,k,f,e=>by simp at e
 | _::_,[],_,_,_,hl,_,_,_=>by simp at hl
 | t::ts,c::cs,_,hz,⟨v,us,rfl,h1,h2⟩,hl,k,f,e=>by
  simp only [okM,Bool.and_eq_true] at hz
  cases k with
  | succ k=>simpa using zMt hν hz.2 h2 (by simpa using hl) k f (by simpa using e)
  | zero =>
   simp only [List.getElem?_cons_zero,Option.some.injEq] at e;subst e
   replace hz:=hz.1
   dsimp only at hz
   split at hz
   ·rename_i g j
    simp only [Bool.and_eq_true,Nat.beq_eq] at hz;obtain ⟨rfl,rfl⟩:=hz;obtain ⟨u',q',h3,rfl⟩:=h1;rw [hν] at h3;cases h3;rfl
   ·cases hz
theorem zFP {f:(t:Ty)→CV τ→Rs (t.den τ)}:∀{ts:List Ty} {cs:List (CV τ)} {r:DP τ ts × List Nat × List Nat},zID f ts cs=some r→ts.length=cs.length
 | [],[],_,_=>rfl
 | t::ts,c::cs,r,e=>by
  unfold zID at e
  split at e
  ·split at e
   ·rename_i hq; simp [zFP hq]
   ·cases e
  ·cases e
 | [],_::_,_,e=>by cases e
 | _::_,[],_,e=>by cases e
theorem okN_ok {ts:List Ty} {cs:List (CV τ)} {vs:List Value} (h1:okN ts cs=true) (h2:CVs P G h ν cs vs) (hl:ts.length≤cs.length):MvOk ts vs:=by
 unfold okN at h1
 split at h1
 ·rename_i i cs
  obtain ⟨v,us,rfl,⟨u,q,h3,rfl,h5⟩,h4⟩:=h2;have h6:=zMt h3 h1 (show CVs P G h ν (.pt i 0::cs) _ from ⟨_,us,rfl,⟨u,q,h3,rfl,h5⟩,h4⟩) hl;intro k f e;refine ⟨.pointer u,?_,h6 k f e⟩;cases u<;>rfl
 ·exact zMs h1
theorem zJA {i:Nat} {u:Option Addr} {q:Option ((e:Ty) × List (e.den τ))} (hν:ν i=some (.pointer u,q)):∀{ts:List Ty} {cs:List (CV τ)} {vs:List Value},CVs P G h ν cs vs→(∀(k:Nat) (f:Nat),ts[k]? = some (.mv f)→vs[k]? = some (.func (.func f) #[.pointer u] #[]))→CVs P G h ν (fixM i ts cs) vs
 | [],cs,vs,h1,_=>h1
 | _::_,[],vs,h1,_=>h1
 | t::ts,c::cs,_,⟨v,us,rfl,h1,h2⟩,hm=>by
  refine ⟨v,us,rfl,?_,zJA hν h2 fun k f e=>by simpa using hm (k+1) f (by simpa using e)⟩;cases t
  case mv f =>
   have:=hm 0 f rfl;simp only [List.getElem?_cons_zero,Option.some.injEq] at this;exact ⟨u,q,hν,this⟩
  all_goals exact h1
theorem zJB {ts:List Ty} {cs:List (CV τ)} {vs:List Value} (h1:CVs P G h ν cs vs) (hm:MvOk ts vs):CVs P G h ν (zIE ts cs) vs:=by
 unfold zIE
 split
 ·rename_i i cs
  cases noM ts with
  | true=>exact h1
  | false =>
   have h0:=h1;obtain ⟨v,us,rfl,⟨u,q,h3,rfl,h5⟩,h4⟩:=h0;refine zJA h3 h1 fun k f e=>?_;obtain ⟨u',h6,h7⟩:=hm k f e;simp only [List.getElem?_cons_zero,Option.some.injEq] at h6;rw [h7, ← h6];cases u<;>rfl
 ·exact h1
theorem zJC (M:Mem P G w0 h0 F L2 w ν h φ) {f:(t:Ty)→CV τ→Rs (t.den τ)}
  (hf:∀t c x l m v,f t c=some (x,l,m)→(∀i∈l,lk L2 i=lk L i)→zbJ L2 L φ H w m→nod l=true→zcI P G h ν c v→Tr P G H w t x v (fps φ l))
  {n id:Nat} {x:τ n} {l m:List Nat} {v:Value} (k:resP f G L n id=some (x,l,m)) (ha:∀i∈l,lk L2 i=lk L i) (hm:zbJ L2 L φ H w m) (hn:nod l=true) (hv:zcI P G h ν (.pt id 0) v):Tr P G H w (.po n) x v (fps φ l):=by
 unfold resP at k
 split at k
 ·rename_i t cs hlk
  cases hb:(Nat.beq t (G.ti n)&&okN (G.fs n) cs) with
  | false=>rw [hb] at k; cases k
  | true =>
   rw [hb] at k;dsimp only [cond_true] at k;simp only [Bool.and_eq_true,Nat.beq_eq] at hb;obtain ⟨hb,hmv⟩:=hb
   split at k
   ·rename_i p l' m' hq
    cases k;have ht:t=G.ti n:=hb;have hr:=M.res id;rw [ha id (List.mem_cons_self ..),hlk] at hr;obtain ⟨b,q,vs,h1,h2,h3,h4⟩:=hr;obtain ⟨u,q',h5,rfl,_⟩:=hv;rw [h1] at h5;cases h5;obtain ⟨n1,n2,n3⟩:=zvu (l:=[id]) hn;have hd:=M.fps_dis (l:=[id]) (m:=l') n3;rw [zc3,h2];refine .po n _ b vs _ (ht▸h3) ?_ (fun hc=>hd b (by rw [zc3,h2]; simp) hc) (okN_ok hmv h4 (Nat.le_of_eq (zFP hq)));rw [G.dc];exact zDq M hf hq (fun i hi=>ha i (List.mem_cons_of_mem _ hi)) hm n2 h4
   ·cases k
 ·cases k
theorem zMu {te sz n m lo k c c':Nat} {a a':Option Addr} {vs:List Value} (h:zgC G w te sz (.slice a n c) m vs) (hk:lo+k≤m) (hd:lo=0∨G.dr te=true) (hc:c'+lo=c) (ha:a'=if c=lo then a else a.map (·.add (lo*sz))) :
  zgC G w te sz (.slice a' k c') k ((vs.take ((lo+k)*sz)).drop (lo*sz))∧(Value.slice a' k c').ownBlock=(Value.slice a n c).ownBlock:=by
 obtain ⟨h1,h2⟩:=h;have hle:(lo+k)*sz≤m*sz:=Nat.mul_le_mul_right _ hk;have hmul:(lo+k)*sz=lo*sz+k*sz:=Nat.add_mul ..
 have hlen:((vs.take ((lo+k)*sz)).drop (lo*sz)).length=k*sz:=by rw [List.length_drop,List.length_take]; omega
 rcases h2 with ⟨e,hm⟩|⟨g,d,cap,cur,e,h3,h4,h5,h6,h7,h8⟩
 ·cases e
  have hk0:k=0:=by omega
  have hc0:c'=0:=by omega
  subst hk0; subst hc0
  have:a'=none:=by rw [ha]; split<;>rfl
  subst this;exact ⟨⟨hlen, .inl ⟨rfl,rfl⟩⟩,rfl⟩
 ·cases e
  by_cases hcl:c=lo
  ·rw [if_pos hcl] at ha;subst ha
   have hk0:k=0:=by omega
   have hc0:c'=0:=by omega
   subst hk0; subst hc0;refine ⟨⟨hlen, .inr ⟨g,d,0,cur,rfl,fun hz=>?_,h4,Nat.le_refl _,Nat.zero_le _,?_,?_⟩⟩,rfl⟩
   ·rcases hd with h0|h0
    ·obtain ⟨rfl,h9⟩:=h3 hz;exact ⟨rfl,by rw [h9,hcl,h0]⟩
    ·rw [h0] at hz; cases hz
   ·exact Nat.le_trans (Nat.mul_le_mul_right _ (by omega)) h7
   ·rw [Nat.zero_mul,List.take_zero];exact (List.eq_nil_of_length_eq_zero (by rw [hlen,Nat.zero_mul])).symm
  ·rw [if_neg hcl] at ha
   have hadd:(⟨g,d*sz,none⟩:Addr).add (lo*sz)=⟨g,(d+lo)*sz,none⟩:=by rw [Nat.add_mul]; unfold Addr.add; split<;>simp_all
   simp only [Option.map_some,hadd] at ha;subst ha;refine ⟨⟨hlen, .inr ⟨g,d+lo,c',cur,rfl,fun hz=>?_,h4,by omega,by omega,?_,?_⟩⟩,rfl⟩
   ·rcases hd with h0|h0
    ·obtain ⟨rfl,h9⟩:=h3 hz;subst h0;exact ⟨rfl,by rw [h9, ← hc,Nat.add_zero]⟩
    ·rw [h0] at hz; cases hz
   ·rw [show d+lo+c'=d+c by omega]; exact h7
   ·rw [← h8,List.take_take,Nat.min_eq_left hle,List.drop_take,List.drop_drop,hmul,Nat.add_sub_cancel_left,Nat.add_mul]
theorem zDr (M:Mem P G w0 h0 F L2 w ν h φ) (hH:h.le H):∀(d:Nat) (t:Ty) (c:CV τ) (x:t.den τ) (l m:List Nat) (v:Value),res G L d t c=some (x,l,m)→(∀i∈l,lk L2 i=lk L i)→zbJ L2 L φ H w m→nod l=true→zcI P G h ν c v→Tr P G H w t x v (fps φ l)
 | 0,t,c,x,l,m,v,k,_,_,_,_=>by cases k
 | d + 1,t,c,x,l,m,v,k,ha,hm,hn,hv=>by
  have ih:=zDr M hH d
  have hlok:frz t=true→(match lok G L (d+1) t c with
   | some (x,m)=>some (x,[],m)
   | none=>none)=some (x,l,m)→Tr P G H w t x v (fps φ l):=by
   intro hz k
   split at k
   ·rename_i x' m' hx
    cases k;exact .fz t x v hz (zwP M hH _ _ _ _ _ _ hx hm hv)
   ·cases k
  unfold res at k;cases t<;>dsimp only at k
  case so te e =>
   split at k
   ·cases k; cases hv;exact .so te e [] _ [] ⟨by simp, .inl ⟨rfl,rfl⟩⟩ (.nil _)
   ·rename_i id
    split at k
    ·rename_i te' e' xs kk hlk
     cases hb:Nat.beq te te' with
     | false=>rw [hb] at k; cases k
     | true =>
      rw [hb] at k;dsimp only [cond_true] at k
      split at k
      ·rename_i hx
       obtain ⟨rfl,rfl⟩:=zgE hx;cases k
       have ht:te=te':=by simpa using hb
       subst ht;have hr:=M.res id;rw [ha id (List.mem_singleton.2 rfl),hlk] at hr;obtain ⟨v',q',vs,u,h1,h2,h3,h4,_⟩:=hr;obtain ⟨ad,n,cp,q,hν,rfl⟩:=hv;rw [hν] at h1;cases h1;rw [zc3,h2,show fps φ []=[] from rfl,List.append_nil];exact .so te _ _ _ vs h3 (h4.le hH)
      ·cases k
    ·rename_i i kk e0 lo xs hlk
     split at k
     ·rename_i te' e' ys k2 hlk2
      cases hb:(Nat.beq te te'&&(Nat.beq kk k2&&(Nat.beq lo 0||G.dr te))) with
      | false=>rw [hb] at k; cases k
      | true =>
       rw [hb] at k;dsimp only [cond_true] at k;simp only [Bool.and_eq_true,Bool.or_eq_true,Nat.beq_eq] at hb;obtain ⟨rfl,rfl,hdr⟩:=hb
       split at k
       ·rename_i hx
        obtain ⟨rfl,rfl⟩:=zgE hx;cases k;have hr:=M.res id;rw [ha id (List.mem_cons_self ..),hlk] at hr;obtain ⟨a1,n1,c1,q1,q2,u1,ys1,a2,c2,g1,g2,g3,g4,g5,g6,g7,g8⟩:=hr;have hr2:=M.res i;rw [ha i (List.mem_cons_of_mem _ (List.mem_cons_self ..)),hlk2] at hr2;obtain ⟨v',q',vs,u,h1,h2,h3,h4,h5⟩:=hr2;rw [g1] at h1;cases h1;rw [g2] at h5
        injection h5 with h5
        injection h5 with _ h5
        injection h5 with h5
        cases h5;obtain ⟨ad,n,cp,q,hν,rfl⟩:=hv;rw [hν] at g5;cases g5;obtain ⟨_,_,g9,g10⟩:=g7;rw [zc3,g8,zc3,h2,show fps φ []=[] from rfl,List.append_nil,List.nil_append];obtain ⟨hcut,hob⟩:=zMu (k:=xs.length) h3 g3 hdr g9 g10;have h6:=(h4.take (lo+xs.length)).drop lo;rw [← g4] at h6;rw [← hob];exact .so te _ _ _ _ hcut (h6.le hH)
       ·cases k
     ·cases k
    ·cases k
   ·cases k
  case po n =>
   cases c<;>first|(cases k; done)|skip
   rename_i id o
   cases o with
   | zero=>exact zJC M ih k ha hm hn hv
   | succ o=>cases k
  case pn n =>
   split at k
   ·cases k; cases hv; exact .pn0 n
   ·rename_i id
    split at k
    ·rename_i n' y hlk
     split at k
     ·rename_i hx
      obtain ⟨rfl,rfl⟩:=zzu hx;cases k;have hr:=M.res id;rw [ha id (List.mem_singleton.2 rfl),hlk] at hr;obtain ⟨v',q',h1,h2⟩:=hr;obtain ⟨u,q,hν,rfl,_⟩:=hv;rw [hν] at h1;cases h1;rw [zc3,show fps φ []=[] from rfl,List.append_nil];cases u<;>exact h2.of hH fun _ _=>rfl
     ·cases k
    ·rename_i hlk
     cases k;have hr:=M.res id;rw [ha id (List.mem_singleton.2 rfl),hlk] at hr;obtain ⟨q',h1,h2⟩:=hr;obtain ⟨u,q,hν,rfl,_⟩:=hv;rw [hν] at h1;cases h1;rw [zc3,h2];exact .pn0 n
    ·split at k
     ·rename_i y l' m' hy
      cases k;exact .pn1 n y v _ (zJC M ih hy ha hm hn hv)
     ·cases k
   ·cases k
  case sn te e =>
   have h1:lok G L (d+1) (.sn te e) c=none:=by unfold lok; rfl
   rw [h1] at k;cases k
  all_goals exact hlok rfl k

def up1 {α:Type} (f:Nat→α) (i:Nat) (x:α):Nat→α:=fun j=>if j=i then x else f j
theorem zU {α:Type} (f:Nat→α) (i:Nat) (x:α):up1 f i x i=x:=by simp [up1]
theorem zaV {α:Type} (f:Nat→α) {i j:Nat} (x:α) (h:j≠i):up1 f i x j=f j:=by simp [up1,h]
theorem zbj {ν:Vn τ} {i:Nat} {x:Option (Value × Option ((e:Ty) × List (e.den τ)))} (h:ν i=none):ν.le (up1 ν i x):=by
 intro j y e;rw [zaV]
 ·exact e
 ·rintro rfl; rw [h] at e; cases e
def zhr (w0:World) (h:Fz) (F:List Nat) (φ:Nat→List Nat) (fp:List Nat):Prop:=∀b∈fp,(∀i,b∉φ i)∧h b=none∧(b∈F∨w0.heap.size≤b)
theorem Mem.add (M:Mem P G w0 h0 F L w ν h φ) {nid:Nat} (hn:ν nid=none) (r:AR τ) (x:Value × Option ((e:Ty) × List (e.den τ))) {fp:List Nat} (hr:zmx P G h (up1 ν nid (some x)) w r (some x) fp) (hf:zhr w0 h F φ fp) :
  Mem P G w0 h0 F ((nid,r)::L) w (up1 ν nid (some x)) h (up1 φ nid fp):=by
 refine ⟨M.os,M.tape,M.output,M.size,M.frame,M.le,M.on,M.new,?_,?_,?_,M.gl,M.fp⟩
 ·intro i
  by_cases e:nid=i
  ·subst e;rw [zU,zU]
   have:lk ((nid,r)::L) nid=r:=by simp [zup,zmH]
   rw [this]; exact hr
  ·have:lk ((nid,r)::L) i=lk L i:=by simp [zup,zmH,zbN.2 e]
   have hr2:=(M.res i).of (w':=w) (Fz.le.refl _) (zbj (x:=some x) hn) fun _ _=>rfl;rw [this,zaV φ fp (Ne.symm e)];exact hr2
 ·intro i j b h1 h2
  by_cases e1:i=nid
  ·by_cases e2:j=nid
   ·rw [e1,e2]
   ·subst e1;rw [zU] at h1;rw [zaV _ _ e2] at h2;exact ((hf b h1).1 j h2).elim
  ·rw [zaV _ _ e1] at h1
   by_cases e2:j=nid
   ·subst e2;rw [zU] at h2;exact ((hf b h2).1 i h1).elim
   ·rw [zaV _ _ e2] at h2;exact M.dis i j b h1 h2
 ·intro i b hb
  by_cases e:i=nid
  ·subst e;rw [zU] at hb;exact (hf b hb).2
  ·rw [zaV _ _ e] at hb;exact M.out i b hb
structure Grew (P:Program) (G:Sig τ) (w0:World) (h0:Fz) (F:List Nat) (L:Hp τ) (w:World) (ν:Vn τ) (h:Fz) (φ:Nat→List Nat) (U:Hp τ) (nid nid':Nat) (fp:List Nat) (ν':Vn τ) (φ':Nat→List Nat):Prop where
 up:nid≤nid'
 mem:Mem P G w0 h0 F (U++L) w ν' h φ'
 le:ν.le ν'
 same:∀i, ¬(nid≤i∧i<nid')→ν' i=ν i∧φ' i=φ i
 fp:∀i b,nid≤i→i<nid'→b∈φ' i→b∈fp
theorem Grew.nil (M:Mem P G w0 h0 F L w ν h φ) (nid:Nat) (fp:List Nat):Grew P G w0 h0 F L w ν h φ [] nid nid fp ν φ :=
 ⟨Nat.le_refl _,M,Vn.le.refl _,fun _ _=>⟨rfl,rfl⟩,fun i b h1 h2=>by omega⟩
theorem Grew.one (M:Mem P G w0 h0 F L w ν h φ) {nid:Nat} (hn:ν nid=none) (r:AR τ) (x:Value × Option ((e:Ty) × List (e.den τ))) {fp:List Nat} (hr:zmx P G h (up1 ν nid (some x)) w r (some x) fp) (hf:zhr w0 h F φ fp) :
  Grew P G w0 h0 F L w ν h φ [(nid,r)] nid (nid+1) fp (up1 ν nid (some x)) (up1 φ nid fp) :=
 ⟨by omega,M.add hn r x hr hf,zbj hn,fun i hi=>⟨zaV _ _ (by rintro rfl; exact hi ⟨by omega,by omega⟩),zaV _ _ (by rintro rfl; exact hi ⟨by omega,by omega⟩)⟩,fun i b h1 h2 hb=>by
  have:i=nid:=by omega
  subst this
  rwa [zU] at hb⟩
theorem zhr.grew {U:Hp τ} {nid nid':Nat} {fp fp':List Nat} (g:Grew P G w0 h0 F L w ν h φ U nid nid' fp ν' φ') (hf:zhr w0 h F φ fp') (hd:∀b∈fp',b∉fp):zhr w0 h F φ' fp':=by
 intro b hb;refine ⟨fun i hi=>?_,(hf b hb).2⟩
 by_cases e:nid≤i∧i<nid'
 ·exact hd b hb (g.fp i b e.1 e.2 hi)
 ·rw [(g.same i e).2] at hi;exact (hf b hb).1 i hi
theorem zhr.sub {fp fp':List Nat} (hf:zhr w0 h F φ fp) (hs:∀b∈fp',b∈fp):zhr w0 h F φ fp':=fun b hb=>hf b (hs b hb)
def ExpOk (P:Program) (G:Sig τ) (w0:World) (h0:Fz) (F:List Nat) (w:World) (h:Fz) (f:(t:Ty)→t.den τ→Nat→CV τ × Hp τ × Nat):Prop :=
 ∀(t:Ty) (x:t.den τ) (nid:Nat) (c:CV τ) (U:Hp τ) (nid':Nat) (v:Value) (fp:List Nat) (L:Hp τ) (ν:Vn τ) (φ:Nat→List Nat),f t x nid=(c,U,nid')→Tr P G h w t x v fp→Mem P G w0 h0 F L w ν h φ →
  (∀i,nid≤i→i<nid'→ν i=none)→zhr w0 h F φ fp→∃ν' φ',Grew P G w0 h0 F L w ν h φ U nid nid' fp ν' φ'∧zcI P G h ν' c v
theorem zjY {f:(t:Ty)→t.den τ→Nat→CV τ × Hp τ × Nat} (hf:∀t x nid c U nid',f t x nid=(c,U,nid')→nid≤nid'):∀{ts:List Ty} {q:DP τ ts} {nid:Nat} {cs:List (CV τ)} {U:Hp τ} {nid':Nat},zBH f ts q nid=(cs,U,nid')→nid≤nid'
 | [],q,nid,cs,U,nid',e=>by cases e; exact Nat.le_refl _
 | t::ts,q,nid,cs,U,nid',e=>by
  unfold zBH at e
  split at e
  rename_i c U1 n1 h1
  split at e
  rename_i cs2 U2 n2 h2
  cases e;exact Nat.le_trans (hf _ _ _ _ _ _ h1) (zjY hf h2)
theorem zga (G:Sig τ):∀(d:Nat) (t:Ty) (x:t.den τ) (nid:Nat) (c:CV τ) (U:Hp τ) (nid':Nat),zsD G d t x nid=(c,U,nid')→nid≤nid':=by
 intro d
 induction d with
 | zero=>intro t x nid c U nid' e; cases t<;>simp only [zsD,Prod.mk.injEq] at e<;>omega
 | succ d ih =>
  intro t x nid c U nid' e;cases t
  case po n =>
   unfold zsD at e
   split at e
   rename_i cs U1 n1 h1
   cases e;exact Nat.le_trans (Nat.le_succ _) (zjY ih h1)
  all_goals (simp only [zsD,Prod.mk.injEq] at e; omega)
theorem zyY {f:(t:Ty)→t.den τ→Nat→CV τ × Hp τ × Nat} (hle:∀t x nid c U nid',f t x nid=(c,U,nid')→nid≤nid') (hf:ExpOk P G w0 h0 F w h f) :
  ∀{ts:List Ty} {q:DP τ ts} {nid:Nat} {cs:List (CV τ)} {U:Hp τ} {nid':Nat} {vs:List Value} {fp:List Nat} {L:Hp τ} {ν:Vn τ} {φ:Nat→List Nat},zBH f ts q nid=(cs,U,nid')→TrL P G h w ts q vs fp→Mem P G w0 h0 F L w ν h φ →
   (∀i,nid≤i→i<nid'→ν i=none)→zhr w0 h F φ fp→∃ν' φ',Grew P G w0 h0 F L w ν h φ U nid nid' fp ν' φ'∧CVs P G h ν' cs vs
 | [],q,nid,cs,U,nid',vs,fp,L, ν, φ,e,ht,M,hn,hfr=>by
  cases e; cases ht;exact ⟨ν, φ,Grew.nil M _ _,rfl⟩
 | t::ts,q,nid,cs,U,nid',vs,fp,L, ν, φ,e,ht,M,hn,hfr=>by
  unfold zBH at e
  split at e
  rename_i c U1 n1 h1
  split at e
  rename_i cs2 U2 n2 h2
  cases e
  cases ht with
  | cons _ _ _ v us f1 f2 t1 t2 hd =>
   have l1:=hle _ _ _ _ _ _ h1;have l2:=zjY hle h2;obtain ⟨ν1, φ1,g1,c1⟩:=zyY hle hf h2 t2 M (fun i a b=>hn i (by omega) b) (hfr.sub fun b hb=>List.mem_append_right _ hb);obtain ⟨ν2, φ2,g2,c2⟩:=hf _ _ _ _ _ _ _ _ _ _ _ h1 t1 g1.mem (fun i a b=>by rw [(g1.same i (by omega)).1]; exact hn i a (by omega))
    (zhr.grew g1 (hfr.sub fun b hb=>List.mem_append_left _ hb) hd)
   refine ⟨ν2, φ2,⟨by omega,by rw [List.append_assoc]; exact g2.mem,g1.le.trans g2.le,fun i hi=>?_,fun i b a a' hb=>?_⟩,v,us,rfl,c2,c1.le (Fz.le.refl _) g2.le⟩
   ·obtain ⟨a1,a2⟩:=g1.same i (by omega);obtain ⟨b1,b2⟩:=g2.same i (by omega);exact ⟨b1.trans a1,b2.trans a2⟩
   ·by_cases hi:i<n1
    ·exact List.mem_append_left _ (g2.fp i b a hi hb)
    ·rw [(g2.same i (by omega)).2] at hb;exact List.mem_append_right _ (g1.fp i b (by omega) a' hb)
theorem so_res {te:TypeId} {e:Ty} {xs:List (e.den τ)} {v:Value} {fp:List Nat} (ht:Tr P G h w (.so te e) xs v fp):fp=v.ownBlock.toList∧(∃a n c,v = .slice a n c)∧∃vs,zgC G w te (ets G e).length v xs.length vs∧RpR P G h e xs vs:=by
 cases ht with
 | fz _ _ _ hz _=>cases hz
 | so _ _ _ _ vs ho hr =>
  refine ⟨rfl,?_,vs,ho,hr⟩;obtain ⟨_,⟨rfl,_⟩|⟨g,d,cap,cur,rfl,_⟩⟩:=ho
  ·exact ⟨_,_,_,rfl⟩
  ·exact ⟨_,_,_,rfl⟩
theorem zMv {n:Nat} {x:Option (τ n)} {v:Value} {fp:List Nat} (ht:Tr P G h w (.pn n) x v fp):∃u,v = .pointer u:=by
 cases ht with
 | fz _ _ _ hz _=>cases hz
 | pn0 _=>exact ⟨_,rfl⟩
 | pn1 _ _ _ _ hp =>
  cases hp with
  | fz _ _ _ hz _=>cases hz
  | po _ _ b vs fp hb hl hn _=>exact ⟨_,rfl⟩
theorem zDs (d:Nat):ExpOk P G w0 h0 F w h (zsD G d):=by
 induction d with
 | zero =>
  intro t x nid c U nid' v fp L ν φ e ht M hn hfr;exact base t x nid c U nid' v fp L ν φ (by cases t<;>exact e) ht M hn hfr
 | succ d ih =>
  intro t x nid c U nid' v fp L ν φ e ht M hn hfr
  by_cases hp:∃n,t = .po n
  ·obtain ⟨n,rfl⟩:=hp;unfold zsD at e
   split at e
   rename_i cs U1 n1 h1
   cases e;have l1:=zjY (zga G d) h1
   cases ht with
   | fz _ _ _ hz _=>cases hz
   | po _ _ b vs fp hb hl hnb hmv =>
    obtain ⟨ν1, φ1,g1,c1⟩:=zyY (zga G d) ih h1 hl M (fun i a b=>hn i (by omega) b) (hfr.sub fun b hb=>List.mem_cons_of_mem _ hb)
    have hν1:ν1 nid=none:=by rw [(g1.same nid (by omega)).1]; exact hn nid (Nat.le_refl _) (by omega)
    have hf1:=zhr.grew g1 (hfr.sub (fp':=[b]) fun b' hb'=>by rw [List.mem_singleton.1 hb']; exact List.mem_cons_self ..) fun b' hb'=>by rw [List.mem_singleton.1 hb']; exact hnb
    have M2:=g1.mem.add hν1 (.blk (G.ti n) (zIE (G.fs n) cs)) (ptr b 0,none) (fp:=[b]) ⟨b,none,vs,rfl,rfl,hb,(zJB c1 hmv).le (Fz.le.refl _) (zbj hν1)⟩ hf1;refine ⟨_,_,⟨by omega,M2,g1.le.trans (zbj hν1),fun i hi=>?_,fun i b' a a' hb'=>?_⟩,⟨some ⟨b,0,none⟩,none,zU _ _ _,rfl,fun e=>(e rfl).elim⟩⟩
    ·have hne:i≠nid:=by rintro rfl; exact hi ⟨Nat.le_refl _,by omega⟩
     rw [zaV _ _ hne,zaV _ _ hne];exact g1.same i (by omega)
    ·by_cases e:i=nid
     ·subst e;rw [zU] at hb';rw [List.mem_singleton.1 hb']; exact List.mem_cons_self ..
     ·rw [zaV _ _ e] at hb';exact List.mem_cons_of_mem _ (g1.fp i b' (by omega) a' hb')
  ·exact base t x nid c U nid' v fp L ν φ (by cases t<;>first|exact e|exact absurd ⟨_,rfl⟩ hp) ht M hn hfr
where
 base (t:Ty) (x:t.den τ) (nid:Nat) (c:CV τ) (U:Hp τ) (nid':Nat) (v:Value) (fp:List Nat) (L:Hp τ) (ν:Vn τ) (φ:Nat→List Nat) (e:zsD G 0 t x nid=(c,U,nid')) (ht:Tr P G h w t x v fp) (M:Mem P G w0 h0 F L w ν h φ)
  (hn:∀i,nid≤i→i<nid'→ν i=none) (hfr:zhr w0 h F φ fp):∃ν' φ',Grew P G w0 h0 F L w ν h φ U nid nid' fp ν' φ'∧zcI P G h ν' c v:=by
  have flat:frz t=true→zsD G 0 t x nid=(t.av x,[],nid)→∃ν' φ',Grew P G w0 h0 F L w ν h φ U nid nid' fp ν' φ'∧zcI P G h ν' c v:=by
   intro hz e2;rw [e] at e2;cases e2
   cases ht with
   | fz _ _ _ _ hr=>exact ⟨ν, φ,Grew.nil M _ _,zJz hr⟩
   | _=>cases hz
  cases t
  case so te e' =>
   cases e;obtain ⟨rfl,⟨a,n,c,rfl⟩,vs,ho,hr⟩:=so_res ht;have hn':=hn nid (Nat.le_refl _) (Nat.lt_succ_self _);exact ⟨_,_,Grew.one M hn' (.row te e' x nid) (.slice a n c,some ⟨e',x⟩) ⟨_,_,vs,_,rfl,rfl,ho,hr,zU _ _ _⟩ hfr,a,n,c,_,zU _ _ _,rfl⟩
  case po n =>
   cases e;have hn':=hn nid (Nat.le_refl _) (Nat.lt_succ_self _);have ht':=Tr.pn1 n x v fp ht;obtain ⟨u,rfl⟩:=zMv ht';exact ⟨_,_,Grew.one M hn' (.tree n (some x)) (.pointer u,none) ⟨_,_,rfl,ht'⟩ hfr,u,none,zU _ _ _,by cases u<;>rfl,fun e=>(e rfl).elim⟩
  case pn n =>
   cases e;have hn':=hn nid (Nat.le_refl _) (Nat.lt_succ_self _);obtain ⟨u,rfl⟩:=zMv ht;exact ⟨_,_,Grew.one M hn' (.tree n x) (.pointer u,none) ⟨_,_,rfl,ht⟩ hfr,u,none,zU _ _ _,by cases u<;>rfl,fun e=>(e rfl).elim⟩
  case sn te e0=>cases ht with|fz _ _ _ hz _=>cases hz
  all_goals exact flat rfl rfl
end
end Go.Rk
end
section
namespace Go.Rk
open Go.RowKit Go.Dm Go.Dk
variable {τ:Nat→Type}
section
variable {P:Program} {G:Sig τ} {w0 w w':World} {h0 h h' H:Fz} {F:List Nat} {L L' L2:Hp τ} {ν ν':Vn τ} {φ φ':Nat→List Nat}
theorem Mem.congr (M:Mem P G w0 h0 F L w ν h φ) (hL:∀i,lk L' i=lk L i):Mem P G w0 h0 F L' w ν h φ :=
 ⟨M.os,M.tape,M.output,M.size,M.frame,M.le,M.on,M.new,fun i=>by rw [hL]; exact M.res i,M.dis,M.out,M.gl,M.fp⟩
theorem Mem.ext (M:Mem P G w0 h0 F L w ν h φ) (hν:ν.le ν'):Mem P G w0 h0 F L w ν' h φ :=
 ⟨M.os,M.tape,M.output,M.size,M.frame,M.le,M.on,M.new,fun i=>(M.res i).of (Fz.le.refl _) hν fun _ _=>rfl,M.dis,M.out,M.gl,M.fp⟩
theorem zaP (i:Nat) (r:AR τ) (L:Hp τ):lk ((i,r)::L) i=r:=by simp [zup,zmH]
theorem zdr {i j:Nat} (r:AR τ) (L:Hp τ) (h:j≠i):lk ((i,r)::L) j=lk L j:=by simp [zup,zmH,zbN.2 (Ne.symm h)]
theorem Mem.put (M:Mem P G w0 h0 F L w ν h φ) {i:Nat} (hg:lk L i = .gone) (r:AR τ) {fp:List Nat} (hr:zmx P G h ν w r (ν i) fp) (hf:zhr w0 h F φ fp):Mem P G w0 h0 F ((i,r)::L) w ν h (up1 φ i fp):=by
 refine ⟨M.os,M.tape,M.output,M.size,M.frame,M.le,M.on,M.new,?_,?_,?_,M.gl,M.fp⟩
 ·intro j
  by_cases e:j=i
  ·subst e; rw [zaP,zU]; exact hr
  ·rw [zdr r L e,zaV φ fp e]; exact M.res j
 ·intro j k b h1 h2
  by_cases e1:j=i
  ·by_cases e2:k=i
   ·rw [e1,e2]
   ·subst e1;rw [zU] at h1; rw [zaV φ fp e2] at h2;exact ((hf b h1).1 k h2).elim
  ·rw [zaV φ fp e1] at h1
   by_cases e2:k=i
   ·subst e2;rw [zU] at h2;exact ((hf b h2).1 j h1).elim
   ·rw [zaV φ fp e2] at h2; exact M.dis j k b h1 h2
 ·intro j b hb
  by_cases e:j=i
  ·subst e; rw [zU] at hb; exact (hf b hb).2
  ·rw [zaV φ fp e] at hb; exact M.out j b hb
theorem Mem.drop (M:Mem P G w0 h0 F L w ν h φ) (i:Nat):Mem P G w0 h0 F ((i, .gone)::L) w ν h (up1 φ i [])∧zhr w0 h F (up1 φ i []) (φ i):=by
 refine ⟨⟨M.os,M.tape,M.output,M.size,M.frame,M.le,M.on,M.new,?_,?_,?_,M.gl,M.fp⟩,?_⟩
 ·intro j
  by_cases e:j=i
  ·subst e; rw [zaP,zU]; rfl
  ·rw [zdr _ L e,zaV φ [] e]; exact M.res j
 ·intro j k b h1 h2
  by_cases e1:j=i
  ·subst e1; rw [zU] at h1; cases h1
  ·by_cases e2:k=i
   ·subst e2; rw [zU] at h2; cases h2
   ·rw [zaV φ [] e1] at h1; rw [zaV φ [] e2] at h2; exact M.dis j k b h1 h2
 ·intro j b hb
  by_cases e:j=i
  ·subst e; rw [zU] at hb; cases hb
  ·rw [zaV φ [] e] at hb; exact M.out j b hb
 ·intro b hb;refine ⟨fun j hj=>?_,M.out i b hb⟩
  by_cases e:j=i
  ·subst e; rw [zU] at hj; cases hj
  ·rw [zaV φ [] e] at hj; exact e (M.dis j i b hj hb)
def zde (ν ν':Vn τ) (nid nid':Nat):Prop:=∀i, ν i=none→ν' i≠none→nid≤i∧i<nid'
theorem zde.refl (ν:Vn τ) (nid nid':Nat):zde ν ν nid nid':=fun i h1 h2=>(h2 h1).elim
theorem Grew.fresh {U:Hp τ} {nid nid':Nat} {fp:List Nat} (g:Grew P G w0 h0 F L w ν h φ U nid nid' fp ν' φ'):zde ν ν' nid nid':=by
 intro i h1 h2
 by_cases e:nid≤i∧i<nid'
 ·exact e
 ·rw [(g.same i e).1] at h2; exact (h2 h1).elim
theorem zvv {f:(t:Ty)→t.den τ→Nat→CV τ × Hp τ × Nat} (hle:∀t x nid c U nid',f t x nid=(c,U,nid')→nid≤nid') (hf:∀t x nid c U nid',f t x nid=(c,U,nid')→∀i∈kys U,nid≤i∧i<nid') :
  ∀{ts:List Ty} {q:DP τ ts} {nid:Nat} {cs:List (CV τ)} {U:Hp τ} {nid':Nat},zBH f ts q nid=(cs,U,nid')→∀i∈kys U,nid≤i∧i<nid'
 | [],q,nid,cs,U,nid',e,i,hi=>by cases e; cases hi
 | t::ts,q,nid,cs,U,nid',e,i,hi=>by
  unfold zBH at e
  split at e
  rename_i c U1 n1 h1
  split at e
  rename_i cs2 U2 n2 h2
  cases e;have l1:=hle _ _ _ _ _ _ h1;have l2:=zjY hle h2;simp only [kys,List.map_append] at hi
  rcases List.mem_append.1 hi with hi|hi
  ·have:=hf _ _ _ _ _ _ h1 i hi; omega
  ·have:=zvv hle hf h2 i hi; omega
theorem zyZ (G:Sig τ):∀(d:Nat) (t:Ty) (x:t.den τ) (nid:Nat) (c:CV τ) (U:Hp τ) (nid':Nat),zsD G d t x nid=(c,U,nid')→∀i∈kys U,nid≤i∧i<nid':=by
 intro d
 induction d with
 | zero=>intro t x nid c U nid' e; cases t<;>simp only [zsD,Prod.mk.injEq] at e<;>obtain ⟨_,rfl,rfl⟩:=e<;>simp [kys]
 | succ d ih =>
  intro t x nid c U nid' e;cases t
  case po n =>
   unfold zsD at e
   split at e
   rename_i cs U1 n1 h1
   cases e;have l1:=zjY (zga G d) h1;intro i hi
   rcases List.mem_cons.1 hi with rfl|hi
   ·omega
   ·have:=zvv (zga G d) ih h1 i hi; omega
  all_goals (simp only [zsD,Prod.mk.injEq] at e; obtain ⟨_,rfl,rfl⟩:=e; simp [kys])
theorem zFQ (M:Mem P G w0 h0 F L w ν h φ) {i n nid nid':Nat} {x:τ n} {U:Hp τ} {v:Value} {q:Option ((e:Ty) × List (e.den τ))} {fp:List Nat} (e:zj2 G i n x nid=(U,nid')) (hg:lk L i = .gone) (hi:ν i=some (v,q)) (ht:Tr P G h w (.po n) x v fp) (hf:zhr w0 h F φ fp)
  (hn:∀i,nid≤i→i<nid'→ν i=none):nid≤nid'∧∃ν' φ' t cs b,Mem P G w0 h0 F (U++L) w ν' h φ'∧ν.le ν'∧zde ν ν' nid nid'∧v=ptr b 0∧lk U i = .blk t cs∧(∀j, ¬(nid≤j∧j<nid')→j≠i→φ' j=φ j)∧∀j b,(j=i∨nid≤j∧j<nid')→b∈φ' j→b∈fp:=by
 unfold zj2 at e
 split at e
 rename_i cs U1 n1 h1
 cases e;have l1:=zjY (zga G depth) h1
 cases ht with
 | fz _ _ _ hz _=>cases hz
 | po _ _ b vs fp hb hl hnb hmv =>
  obtain ⟨ν1, φ1,g1,c1⟩:=zyY (zga G depth) (zDs depth) h1 hl M hn (hf.sub fun b hb=>List.mem_cons_of_mem _ hb)
  have hni:¬(nid≤i∧i<nid'):=fun a=>by rw [hn i a.1 a.2] at hi; cases hi
  have hiU:i∉kys U1:=fun hk=>hni (zvv (zga G depth) (zyZ G depth) h1 i hk)
  have hf1:=zhr.grew g1 (hf.sub (fp':=[b]) fun b' hb'=>by rw [List.mem_singleton.1 hb']; exact List.mem_cons_self ..) fun b' hb'=>by rw [List.mem_singleton.1 hb']; exact hnb
  have M2:=g1.mem.put (i:=i) (by rw [zcJ L hiU]; exact hg) (.blk (G.ti n) (zIE (G.fs n) cs)) (fp:=[b]) ⟨b,q,vs,(g1.le _ _ hi),rfl,hb,zJB c1 hmv⟩ hf1;refine ⟨l1, ν1,_,G.ti n,zIE (G.fs n) cs,b,M2,g1.le,g1.fresh,rfl,zaP ..,fun j hj hne=>?_,fun j b' hj hb'=>?_⟩
  ·rw [zaV _ _ hne]; exact (g1.same j hj).2
  ·by_cases e:j=i
   ·subst e; rw [zU] at hb'; rw [List.mem_singleton.1 hb']; exact List.mem_cons_self ..
   ·rw [zaV _ _ e] at hb';exact List.mem_cons_of_mem _ (g1.fp j b' (by rcases hj with hj|hj; exact absurd hj e; exact hj.1) (by rcases hj with hj|hj; exact absurd hj e; exact hj.2) hb')
theorem zFR {i n nid nid':Nat} {x:τ n} {U:Hp τ} (e:zj2 G i n x nid=(U,nid')):∀j∈kys U,j=i∨nid≤j∧j<nid':=by
 unfold zj2 at e
 split at e
 rename_i cs U1 n1 h1
 cases e;intro j hj
 rcases List.mem_cons.1 hj with rfl|hj
 ·exact .inl rfl
 ·exact .inr (zvv (zga G depth) (zyZ G depth) h1 j hj)
theorem Tr.pn_some {n:Nat} {x:τ n} {v:Value} {fp:List Nat} (h:Tr P G H w (.pn n) (some x) v fp):Tr P G H w (.po n) x v fp:=by
 cases h with
 | fz _ _ _ hz _=>cases hz
 | pn1 _ _ _ _ hp=>exact hp
theorem Tr.pn_none {n:Nat} {v:Value} {fp:List Nat} (h:Tr P G H w (.pn n) none v fp):v = .pointer none∧fp=[]:=by
 cases h with
 | fz _ _ _ hz _=>cases hz
 | pn0 _=>exact ⟨rfl,rfl⟩
theorem zJD (M:Mem P G w0 h0 F L2 w ν h φ) {i n nid nid':Nat} {x:τ n} {U:Hp τ} (e:zj2 G i n x nid=(U,nid')) (hl:lk L2 i = .tree n (some x)) (hn:∀i,nid≤i→i<nid'→ν i=none) :
  nid≤nid'∧∃ν' φ' b q,Mem P G w0 h0 F (U++L2) w ν' h φ'∧ν.le ν'∧zde ν ν' nid nid'∧ν i=some (ptr b 0,q):=by
 have hr:=M.res i;rw [hl] at hr;obtain ⟨v,q,hv,ht⟩:=hr;obtain ⟨M1,hf⟩:=M.drop i;obtain ⟨h1, ν', φ',t,cs,b,M2,h2,h3,rfl,h5,_⟩:=zFQ M1 e (zaP ..) hv (Tr.pn_some ht) hf hn;refine ⟨h1, ν', φ',b,q,M2.congr fun j=>?_,h2,h3,hv⟩
 by_cases hj:j∈kys U
 ·rw [zgX _ hj,zgX _ hj]
 ·rw [zcJ _ hj,zcJ _ hj,zdr];rintro rfl
  apply hj
  unfold zj2 at e
  split at e
  cases e;exact List.mem_cons_self ..
end

section
variable {ρ:Type} (X:Cx τ) (w0:World) (h0:Fz) (F:List Nat)
def Ok1 (o:Oper) (E:zu τ) (L:Hp τ) (nid:Nat) (v:XV τ) (U:Hp τ) (tch:List Nat) (nid':Nat):Prop :=
 ∀(L2:Hp τ) (ν:Vn τ) (h:Fz) (φ:Nat→List Nat) (a:Act) (w:World) (next:Act→World→Prop) (Q:Exit→Act→World→Prop),a.defers=[]→Mem X.P X.G w0 h0 F L2 w ν h φ→zd8 X h ν a (rdO o.op) E →
  (∀i∈tch,lk L2 i=lk L i)→(∀i,nid≤i→i<nid'→ν i=none) →
  (∀ν' h' φ' w' u,Mem X.P X.G w0 h0 F (U++L2) w' ν' h' φ'→ν.le ν'→h.le h'→zde ν ν' nid nid'→XOk X.P X.G h' ν' v u→next (a.put o.dst u) w')→o.wp X.P a w next Q
def zc4 (o:Oper) (E:zu τ) (L:Hp τ) (nid:Nat) (K:Nx τ ρ) (r:ρ):Prop :=
 ∃v g U tch nid',K v g U tch nid'=some r∧nid≤nid'∧(∀x∈g,zjP x=true)∧Ok1 X w0 h0 F o E L nid v U tch nid'
def zvw (op:OpF τ ρ):Prop:=∀(r:ρ) (o:Oper) (E:zu τ) (L:Hp τ) (nid:Nat) (K:Nx τ ρ),op E L nid K o.op=some r→zc4 X w0 h0 F o E L nid K r
end
section
variable {ρ:Type} {X:Cx τ} {w0 w w':World} {h0:Fz} {F:List Nat} {o:Oper} {E:zu τ} {L:Hp τ} {nid nid':Nat} {K:Nx τ ρ} {r:ρ} {v:XV τ} {U:Hp τ} {tch:List Nat} {g:List (XV τ)}
theorem zfz {a:Act} {u:Value} {next:Act→World→Prop} {Q:Exit→Act→World→Prop} (hx:(execOp a.eval o).run X.P w = .ok (.value u) w') (k:next (a.put o.dst u) w'):o.wp X.P a w next Q:=by
 unfold Oper.wp; rw [hx]; exact k
theorem zHV {a:Act} {next:Act→World→Prop} {Q:Exit→Act→World→Prop} (hx:(execOp a.eval o).run X.P w = .ok .skip w') (k:next (a.put o.dst undef) w'):o.wp X.P a w next Q:=by
 unfold Oper.wp; rw [hx]; exact k
theorem zaK (e:K v [] [] tch nid=some r) (hx:∀(L2:Hp τ) ν h φ (a:Act) (w:World),a.defers=[]→Mem X.P X.G w0 h0 F L2 w ν h φ→zd8 X h ν a (rdO o.op) E→(∀i∈tch,lk L2 i=lk L i)→∃u,(execOp a.eval o).run X.P w = .ok (.value u) w∧XOk X.P X.G h ν v u) :
  zc4 X w0 h0 F o E L nid K r :=
 ⟨v,[],[],tch,nid,e,Nat.le_refl _,(fun _ h=>by cases h),fun L2 ν h φ a w next Q hd M hE ha hn k=>by
  obtain ⟨u,h1,h2⟩:=hx L2 ν h φ a w hd M hE ha
  exact zfz h1 (k ν h φ w u M (Vn.le.refl _) (Fz.le.refl _) (zde.refl _ _ _) h2)⟩
theorem zHW {b:BinOp} {t' ty t:Nat} {x y:Operand} {A B:XV τ} (hA:evX E x=some A) (hB:evX E y=some B) {dst:Option Nat} {p:String} {af:Array Edge} {gd:Option (Nat × Bool)}
    (e:opI nid K b A B=some r):zc4 X w0 h0 F ⟨dst, .binOp b t' x y ty,t,p,af,gd⟩ E L nid K r:=by
  unfold opI hi at e
  split at e
  all_goals first
  | (cases e; done)
  | (obtain ⟨z,hz,e⟩:=ob e
     refine zaK e fun L2 ν h φ a w hd M hE ha=>?_;obtain ⟨Ea,hf,hl⟩:=zdC a hd;obtain ⟨u,h1,h2⟩:=zno hl (hE.op (by simp [Op.operands])) hA rfl;obtain ⟨u',h3,h4⟩:=zno hl (hE.op (by simp [Op.operands])) hB rfl;obtain rfl:u=_:=h2;obtain rfl:u'=_:=h4
     first
     | exact ⟨_,ex_add hf h1 h3 hz,rfl⟩
     | exact ⟨_,ex_sub hf h1 h3 hz,rfl⟩
     | exact ⟨_,ex_mul hf h1 h3 hz,rfl⟩
     | exact ⟨_,ex_quo hf h1 h3 hz,rfl⟩
     | exact ⟨_,ex_rem hf h1 h3 hz,rfl⟩
     | exact ⟨_,ex_cat hf h1 h3 hz,rfl⟩)
end
end Go.Rk
end
section
namespace Go.Rk
open Go.RowKit Go.Dm Go.Dk
variable {τ:Nat→Type}
section
variable {ρ:Type} {X:Cx τ} {w0 w w':World} {h0 h H:Fz} {F:List Nat} {o:Oper} {E:zu τ} {L L2:Hp τ} {ν ν':Vn τ} {φ φ':Nat→List Nat} {nid nid':Nat} {K:Nx τ ρ} {r:ρ} {v:XV τ} {U:Hp τ} {tch:List Nat} {g:List (XV τ)}
theorem zNz {i:Nat} {k:Bool→Hp τ→List Nat→Nat→Option ρ} (e:nlK X L nid i k=some r):∃b U nid',k b U [i] nid'=some r∧nid≤nid' ∧
  ∀(L2:Hp τ) ν h φ (w:World),Mem X.P X.G w0 h0 F L2 w ν h φ→lk L2 i=lk L i→(∀i,nid≤i→i<nid'→ν i=none) →
   ∃ν' φ' u q,Mem X.P X.G w0 h0 F (U++L2) w ν' h φ'∧ν.le ν'∧zde ν ν' nid nid'∧ν i=some (.pointer u,q)∧(b=true→u=none)∧(b=false→∃bb,u=some ⟨bb,0,none⟩):=by
 unfold nlK at e
 split at e
 ·rename_i t cs hl
  refine ⟨false,[],nid,e,Nat.le_refl _,fun L2 ν h φ w M ha _=>?_⟩;have hr:=M.res i;rw [ha,hl] at hr;obtain ⟨b,q,vs,h1,_⟩:=hr;exact ⟨ν, φ,_,q,M,Vn.le.refl _,zde.refl _ _ _,h1,(by simp),fun _=>⟨b,rfl⟩⟩
 ·rename_i n y hl
  cases y with
  | none =>
   refine ⟨true,_,nid,e,Nat.le_refl _,fun L2 ν h φ w M ha _=>?_⟩;have hr:=M.res i;rw [ha,hl] at hr;obtain ⟨v,q,h1,h2⟩:=hr;obtain ⟨rfl,h3⟩:=Tr.pn_none h2;obtain ⟨M1,hf⟩:=M.drop i;have M2:=M1.put (i:=i) (zaP ..) .nilp (fp:=[]) ⟨q,h1,rfl⟩ (fun b hb=>by cases hb);refine ⟨ν,_,none,q,M2.congr fun j=>?_,Vn.le.refl _,zde.refl _ _ _,h1,fun _=>rfl,by simp⟩
   by_cases hj:j=i
   ·subst hj; exact (zaP ..).trans (zaP ..).symm
   ·show lk ((i, .nilp)::L2) j=_;rw [zdr _ _ hj,zdr _ _ hj,zdr _ _ hj]
  | some y =>
   obtain ⟨U,n1,h1⟩:∃U n1,zj2 X.G i n y nid=(U,n1):=⟨_,_,rfl⟩;simp only [optK,h1] at e;refine ⟨false,U,n1,e,?_,fun L2 ν h φ w M ha hn=>?_⟩
   ·unfold zj2 at h1
    split at h1
    rename_i h2
    cases h1;exact zjY (zga X.G depth) h2
   ·obtain ⟨_, ν', φ',b,q,h2,h3,h4,h5⟩:=zJD M h1 (ha.trans hl) hn;exact ⟨ν', φ',_,q,h2,h3,h4,h5,by simp,fun _=>⟨b,rfl⟩⟩
 ·rename_i hl
  refine ⟨true,[],nid,e,Nat.le_refl _,fun L2 ν h φ w M ha _=>?_⟩;have hr:=M.res i;rw [ha,hl] at hr;obtain ⟨q,h1,_⟩:=hr;exact ⟨ν, φ,none,q,M,Vn.le.refl _,zde.refl _ _ _,h1,fun _=>rfl,by simp⟩
 ·cases e
theorem zNA {i:Nat} {k:Hp τ→List Nat→Nat→Option ρ} (e:ptK X L nid i k=some r):∃U nid',k U [i] nid'=some r∧nid≤nid' ∧
  ∀(L2:Hp τ) ν h φ (w:World),Mem X.P X.G w0 h0 F L2 w ν h φ→lk L2 i=lk L i→(∀i,nid≤i→i<nid'→ν i=none) →
   ∃ν' φ' b q,Mem X.P X.G w0 h0 F (U++L2) w ν' h φ'∧ν.le ν'∧zde ν ν' nid nid'∧ν i=some (ptr b 0,q):=by
 unfold ptK at e
 split at e
 ·rename_i t cs hl
  refine ⟨[],nid,e,Nat.le_refl _,fun L2 ν h φ w M ha _=>?_⟩;have hr:=M.res i;rw [ha,hl] at hr;obtain ⟨b,q,vs,h1,_⟩:=hr;exact ⟨ν, φ,b,q,M,Vn.le.refl _,zde.refl _ _ _,h1⟩
 ·rename_i n y hl
  cases y with
  | none=>cases e
  | some y =>
   obtain ⟨U,n1,h1⟩:∃U n1,zj2 X.G i n y nid=(U,n1):=⟨_,_,rfl⟩;simp only [Option.bind_some,h1] at e;refine ⟨U,n1,e,?_,fun L2 ν h φ w M ha hn=>?_⟩
   ·unfold zj2 at h1
    split at h1
    rename_i h2
    cases h1;exact zjY (zga X.G depth) h2
   ·obtain ⟨_, ν', φ',b,q,h2,h3,h4,h5⟩:=zJD M h1 (ha.trans hl) hn;exact ⟨ν', φ',b,q,h2,h3,h4,h5⟩
 ·cases e

theorem zAC {α:Type}:∀{n o:Nat} {cs l:List α},zuV cs o n=some l→l.length=n
 | 0,o,cs,l,e=>by cases e; rfl
 | n+1,o,cs,l,e=>by
  unfold zuV at e
  split at e
  ·split at e
   ·rename_i h
    cases e;simp [zAC h]
   ·cases e
  ·cases e
theorem zJ1 {a:Act} {Ea:Env} {N:Nat} {x:Operand} {t' t b ob k n:Nat} {dst:Option Nat} {p:String} {af:Array Edge} {gd:Option (Nat × Bool)} (hf:Fits N Ea a) (hx:evl Ea x=some (ptr b (ob+k))) {cs:List (CV τ)} {vs:List Value}
  (hs:zd5 w (some ⟨b,ob,none⟩) vs) (hc:CVs X.P X.G h ν cs vs) (hn:szO X.P t'=some n) (e:zGH X.P t' (zuV cs k n)=some v):∃u,(execOp a.eval ⟨dst, .load t' x,t,p,af,gd⟩).run X.P w = .ok (.value u) w∧XOk X.P X.G h ν v u:=by
 unfold zGH at e
 split at e
 ·rename_i l hl
  obtain ⟨h1,h2⟩:=hc.cut hl;have hlen:=zAC hl
  split at e
  ·rename_i ha
   cases e;have h3:=h1.len;exact ⟨_,zNS (zwW ha) (zfA hn) hs rfl (by rw [h3,hlen]) hf hx,_,rfl,h1⟩
  ·rename_i ha
   split at e
   ·rename_i c
    cases e;obtain ⟨u,us,h3,h4,h5⟩:=h1;refine ⟨u,zNR (zwW ha) hs ?_ hf hx,h4⟩
    have:((vs.drop k).take n)[0]? = some u:=by rw [h3]; rfl
    rw [List.getElem?_take] at this
    split at this
    ·simpa using this
    ·cases this
   ·cases e
  ·cases e
 ·cases e
theorem RpR.get {P:Program} {G:Sig τ}:∀{e:Ty} {xs:List (e.den τ)} {vs:List Value},RpR P G h e xs vs→∀{i:Nat} {z:e.den τ},xs[i]? = some z →
  RpL P G h (ets G e) (edt G e z) ((vs.drop (i*(ets G e).length)).take (ets G e).length)∧i*(ets G e).length+(ets G e).length≤vs.length
 | _,_,_, .nil _,_,_,hz=>by simp at hz
 | _,_,_, .cons e x xs vs ws h1 h2,0,_,hz=>by
  simp at hz;subst hz;have:=h1.len;refine ⟨?_,by simp [this]⟩;rw [Nat.zero_mul,List.drop_zero,List.take_append_of_le_length (by omega),List.take_of_length_le (by omega)];exact h1
 | _,_,_, .cons e x xs vs ws h1 h2,i+1,z,hz=>by
  simp at hz;obtain ⟨h3,h4⟩:=RpR.get h2 hz;have:=h1.len;refine ⟨?_,by simp [Nat.add_mul,this]; omega⟩;rw [Nat.add_mul,Nat.one_mul,List.drop_append,List.drop_eq_nil_of_le (by omega),List.nil_append,this,Nat.add_sub_cancel];exact h3
theorem zsP {α:Type} {xs:List α} {m:Int} {z:α} (e:lAt xs m=some z):xs[m.toNat]? = some z∧0≤m:=by
 unfold lAt at e
 split at e
 ·exact ⟨e, ‹_›⟩
 ·cases e
theorem zPr (M:Mem X.P X.G w0 h0 F L2 w ν h φ) {i k:Nat} {m:Int} {t e:Ty} {z:t.den τ} {o:Nat} {v:Value} {te:TypeId} {xs:List (e.den τ)} (hv:zcI X.P X.G h ν (.oe i k m t z o) v) (hl:lk L2 i = .row te e xs k) :
  ∃b d vs,v=ptr b (d+m.toNat*(ets X.G t).length+o)∧zd5 w (some ⟨b,d+m.toNat*(ets X.G t).length,none⟩) vs∧RpL X.P X.G h (ets X.G t) (edt X.G t z) vs:=by
 obtain ⟨b,d,n,c,q,xs',u,h1,h2,h3,rfl⟩:=hv;have hr:=M.res i;rw [hl] at hr;obtain ⟨v',q',vs,u',h4,h5,h6,h7,h8⟩:=hr;rw [h1] at h4;cases h4;rw [h2] at h8
 injection h8 with h8
 injection h8 with _ h8
 injection h8 with h8
 cases h8;obtain ⟨hz,h0⟩:=zsP h3;obtain ⟨h9,h10⟩:=h7.get hz;refine ⟨b,d,_,rfl,?_,h9⟩;obtain ⟨rfl,_⟩:=h6.len;have hs:=h6.sees;obtain ⟨_,hlt,hc⟩:=hs;refine .inr ⟨rfl,hlt,fun j u hj=>?_⟩;rw [List.getElem?_take] at hj
 split at hj
 ·rw [List.getElem?_drop] at hj;have:=hc _ _ hj;simpa [Nat.add_assoc] using this
 ·cases hj
theorem zEO (M:Mem X.P X.G w0 h0 F L2 w ν h φ) {i k:Nat} {t:TypeId} {cs:List (CV τ)} {v:Value} (hv:zcI X.P X.G h ν (.pt i k) v) (hl:lk L2 i = .blk t cs) :
  ∃b q vs, ν i=some (ptr b 0,q)∧v=ptr b k∧φ i=[b]∧w.heap[b]? = some (.cells vs.toArray t (0,0))∧CVs X.P X.G h ν cs vs∧zd5 w (some ⟨b,0,none⟩) vs:=by
 have hr:=M.res i;rw [hl] at hr;obtain ⟨b,q,vs,h1,h2,h3,h4⟩:=hr;obtain ⟨u,q',h5,rfl,_⟩:=hv;rw [h1] at h5;cases h5;refine ⟨b,q,vs,h1,by simp [zuo],h2,h3,h4, .inr ⟨rfl,(Array.getElem?_eq_some_iff.1 h3).1,fun j v hj=>by simp [World.cell?,h3,hj]⟩⟩
theorem zPs {n:Nat} {u:Value} (hu:zcI X.P X.G h ν (.ep n none) u):zcI X.P X.G h ν .nl u:=by cases hu; rfl
theorem zPt {n:Nat} {y:τ n} {u:Value} (hu:zcI X.P X.G h ν (.ep n (some y)) u):zcI X.P X.G h ν (.ea (.st n) y 0) u:=by
 cases hu with
 | pn1 _ _ _ hr=>cases hr; rename_i b k vs hs hr; exact ⟨b,k,vs,rfl,hs,hr⟩
theorem zNB {x:Operand} {t' t:Nat} {dst:Option Nat} {p:String} {af:Array Edge} {gd:Option (Nat × Bool)} {c:CV τ} (hx:evC E x=some c) (e:zM8 X L nid K t' c=some r):zc4 X w0 h0 F ⟨dst, .load t' x,t,p,af,gd⟩ E L nid K r:=by
 unfold zM8 at e
 split at e
 ·rename_i id o
  split at e
  ·rename_i bt cs hl
   split at e
   ·rename_i n hn
    split at e
    ·rename_i j hv
     cases hb:Nat.beq j id with
     | true=>rw [hb] at e; cases e
     | false =>
      rw [hb] at e;obtain ⟨b,U,nid',h1,h2,h3⟩:=zNz (w0:=w0) (h0:=h0) (F:=F) e;refine ⟨if b=true then .c .nl else .c (.pt j 0),[],U,[id,j],nid',?_,h2,fun _ h=>by (cases h),fun L2 ν h φ a w next Q hd M hE ha hfr k=>?_⟩
      ·cases b<;>exact h1
      ·obtain ⟨Ea,hf,hl'⟩:=zdC a hd;obtain ⟨u,h4,h5⟩:=zh hl' (hE.op (by simp [Op.operands])) hx;obtain ⟨bb,q,vs,hν,rfl,_,hh,hc,hs⟩:=zEO M h5 ((ha id (by simp)).trans hl);obtain ⟨u,h6,h7⟩:=zJ1 (ob:=0) (dst:=dst) (t:=t) (p:=p) (af:=af) (gd:=gd) hf (by rw [Nat.zero_add]; exact h4) hs hc hn hv;obtain ⟨ν', φ',uj,q',M',hle,hfre,hνj,hb1,hb0⟩:=h3 L2 ν h φ w M (ha j (by simp)) hfr;obtain ⟨uj',q'',h8,h9,_⟩:=h7;rw [hνj] at h8;cases h8;refine zfz h6 (k ν' h φ' w u M' hle (Fz.le.refl _) hfre ?_)
       cases b with
       | true =>
        rw [hb1 rfl] at h9;subst h9;rfl
       | false=>exact ⟨uj,q',hle _ _ hνj,h9,fun e=>(e rfl).elim⟩
    ·rename_i v _ hv
     refine zaK e fun L2 ν h φ a w hd M hE ha=>?_;obtain ⟨Ea,hf,hl'⟩:=zdC a hd;obtain ⟨u,h4,h5⟩:=zh hl' (hE.op (by simp [Op.operands])) hx;obtain ⟨bb,q,vs,hν,rfl,_,hh,hc,hs⟩:=zEO M h5 ((ha id (by simp)).trans hl);exact zJ1 (ob:=0) hf (by rw [Nat.zero_add]; exact h4) hs hc hn hv
    ·cases e
   ·cases e
  ·cases e
 ·rename_i ty z o
  split at e
  ·rename_i n hn
   have key:∀{v},zGH X.P t' (zuV (zwN X.G ty z) o n)=some v→∀(L2:Hp τ) ν h φ (a:Act) (w:World),a.defers=[]→Mem X.P X.G w0 h0 F L2 w ν h φ→zd8 X h ν a (rdO (.load t' x)) E→∃u,(execOp a.eval ⟨dst, .load t' x,t,p,af,gd⟩).run X.P w = .ok (.value u) w∧XOk X.P X.G h ν v u:=by
    intro v hv L2 ν h φ a w hd M hE;obtain ⟨Ea,hf,hl'⟩:=zdC a hd;obtain ⟨u,h4,h5⟩:=zh hl' (hE.op (by simp [Op.operands])) hx;obtain ⟨b,k,vs,rfl,hs,hr⟩:=h5;exact zJ1 hf h4 (hs.sees M.on) (zzv hr) hn hv
   split at e
   ·rename_i n' y hv
    have fin:∀{c':CV τ},K (.c c') [] [] [] nid=some r→(∀{ν h u},zcI X.P X.G h ν (.ep n' y) u→zcI X.P X.G h ν c' u)→zc4 X w0 h0 F ⟨dst, .load t' x,t,p,af,gd⟩ E L nid K r:=by
     intro c' e hcc;refine zaK e fun L2 ν h φ a w hd M hE ha=>?_;obtain ⟨u,h1,h2⟩:=key hv L2 ν h φ a w hd M hE;exact ⟨u,h1,hcc h2⟩
    cases y with
    | none=>exact fin e zPs
    | some y=>exact fin e zPt
   ·rename_i v _ hv
    exact zaK e fun L2 ν h φ a w hd M hE ha=>key hv L2 ν h φ a w hd M hE
   ·cases e
  ·cases e
 ·rename_i id k m ty z o
  split at e
  ·rename_i te e' xs k' hl
   cases hb:Nat.beq k k' with
   | false=>rw [hb] at e; cases e
   | true =>
    rw [hb] at e
    have hkk:k=k':=by simpa using hb
    subst hkk
    split at e
    ·rename_i n hn
     split at e
     ·rename_i v hv
      refine zaK e fun L2 ν h φ a w hd M hE ha=>?_;obtain ⟨Ea,hf,hl'⟩:=zdC a hd;obtain ⟨u,h4,h5⟩:=zh hl' (hE.op (by simp [Op.operands])) hx;obtain ⟨b,d,vs,rfl,hs,hr⟩:=zPr M h5 ((ha id (by simp)).trans hl);exact zJ1 hf h4 hs (zzv hr) hn hv
     ·cases e
    ·cases e
  ·cases e
 ·cases e
end
end Go.Rk
end
