/-
 A wire in plain Lean: what an event makes of it, and New; for the laws of wire and audit. No program in sight.
 New's error is the document's. No program in sight.
 WireSteps in plain Lean, first part: when a side's bytes are read no further, and what is then so again. No program in sight.
 WireSteps in plain Lean, second part: what Finish tells is what was read, and a second one reads nothing. No program in sight.
 WireSteps in plain Lean, third part: what Finish tells is what was read, and behind it both sides are at rest. No program in sight.
 WireSteps in plain Lean, fourth part: Finish, 
-/
import Derived.Test.YtkmnihnifdcigaaGreatDoorG17
import Derived.Test.YtkmnihnifdcigaaGreatDoorXC1
import Derived.Test.YtkmnihnifdcigaaGreatDoorYRun
import Derived.Test.YtkmnihnifdcigaaGreatDoorP0
set_option linter.unusedVariables false
set_option linter.unusedSimpArgs false
section
set_option linter.unusedVariables false
set_option maxRecDepth 10000
set_option maxHeartbeats 4000000
namespace Go.Dm
theorem L0_s (n:Nat) (w:zWV) (i3 i4:Int):zJ (n+1) w i3 i4=if (decide (i4<2)) then zr5 (zJ n) w i3 i4 else some (i3,some w):=rfl
def uc (w:zWV):Int:=w.zWP.zXq.length-w.zWP.zXh
def uu (w:zWV):Int:=w.zWO.zXq.length-w.zWO.zXh
def Mz (w:zWV):Int:=uc w+uu w+st w.zWP.zXw+st w.zWO.zXw
def Bz (w:zWV):Int:=10000000*(uc w+uu w)+30000000*Mz w
def Wr (w:zWV):Prop:=Gw w.Gateway∧tc w.Gateway=0∧tu w.Gateway=0∧w.zWP.zXq.length≤3000∧w.zWO.zXq.length≤3000∧0≤w.zWP.zXh∧w.zWP.zXh≤w.zWP.zXq.length∧0≤w.zWO.zXh∧w.zWO.zXh≤w.zWO.zXq.length∧kc w.Gateway+uc w≤3000∧ku w.Gateway+uu w≤3000
def Sn (w:zWV) (k:Int):Prop:=w.zWP.zXe.length+Bz w≤k∧w.zWO.zXe.length+Bz w≤k
def Gr (a b:List UInt8) (m:zXP) (w:zWV):Prop:=a <+: w.zWP.zXe∧b <+: w.zWO.zXe∧m.Client≤w.zXa.Client∧m.Upstream≤w.zXa.Upstream
def Gq (a b:List UInt8) (m:zXP):Option zWV→Prop
 | none=>False
 | some w=>Gr a b m w
theorem pre_ap {a s:List UInt8} (h:a <+: s) (t:List UInt8):a <+: s++t:=by
 obtain ⟨u,rfl⟩:=h; exact ⟨u++t,by simp⟩
theorem pre_t {a b c:List UInt8} (h:a <+: b) (h2:b <+: c):a <+: c:=h.trans h2
theorem goTk {G:Prop} (h:G:=by
 (with_reducible repeat' first|intro _|refine And.intro ?_ ?_|refine Wf ?_ ?_|refine Wi ?_ ?_|refine Ws ?_|refine Wc ?_ ?_|refine Wo ?_ ?_|refine Wk ?_|refine We ?_ ?_)
 all_goals (try simp only [List.length_cons,List.length_nil])
 all_goals grind (gen:=8) (ematch:=8) [pre_ap,List.prefix_append,oA,kb, = zIL,oB,oW,Sd,oQ,Gw,Cd,kc,ku,tc,tu,Rs1,st,fuel,zau,zS]):G:=h
instance takeG (x_w:zWV):T (zu x_w) (Gw x_w.Gateway∧0≤tc x_w.Gateway∧x_w.zWP.zXe.length+tc x_w.Gateway≤100000000000000∧x_w.zWO.zXe.length+tu x_w.Gateway≤100000000000000) (fun r=>(Gw r.Gateway∧kc r.Gateway=kc x_w.Gateway∧ku r.Gateway=ku x_w.Gateway∧tc r.Gateway=0∧tu r.Gateway=0∧r.zWP.zXq=x_w.zWP.zXq∧r.zWP.zXh=x_w.zWP.zXh∧r.zWP.zXC=x_w.zWP.zXC∧r.zWP.zXw=x_w.zWP.zXw∧r.zWP.zXe.length=x_w.zWP.zXe.length+tc x_w.Gateway∧r.zWO.zXq=x_w.zWO.zXq∧r.zWO.zXh=x_w.zWO.zXh∧r.zWO.zXC=x_w.zWO.zXC∧r.zWO.zXw=x_w.zWO.zXw∧r.zWO.zXe.length=x_w.zWO.zXe.length+tu x_w.Gateway)∧x_w.zWP.zXe <+: r.zWP.zXe∧x_w.zWO.zXe <+: r.zWO.zXe∧x_w.zXa.Client≤r.zXa.Client∧x_w.zXa.Upstream≤r.zXa.Upstream∧r.Gateway.zWZ=x_w.Gateway.zWZ):=⟨fun h=>by unfold zu; exact goTk⟩
theorem goWi {G:Prop} (h:G:=by
 (with_reducible repeat' first|intro _|refine And.intro ?_ ?_|refine Wf ?_ ?_|refine Wi ?_ ?_|refine Ws ?_|refine Wc ?_ ?_|refine Wo ?_ ?_|refine Wk ?_|refine We ?_ ?_)
 all_goals (try simp only [List.length_cons,List.length_nil])
 all_goals grind (gen:=8) (ematch:=8) [Gr,Gq, → pre_t,tc,tu,Wr,Sn,Bz,uc,uu,Mz,st,fuel]):G:=h
section
variable {a b:List UInt8} {m:zXP} {F:zWV→Int→Int→Option (Int × Option zWV)} {n:Int}
instance iU0 [h:∀w i3 i4,K (F w i3 i4) (fun r=>Gq a b m r.2) (Wr w∧0≤i3∧i3+uc w+uu w≤6000∧0≤i4∧i4≤3∧(i4<2→Mz w+2≤n∧Sn w 10000000000000)∧1≤n∧Gr a b m w)] (w:zWV) (i3:Int):K (zqA F w i3) (fun r=>Gq a b m r.2) (Wr w∧0≤i3∧i3+uc w+uu w≤6000∧Mz w+2≤n∧1≤n∧Sn w 9999988000000∧Gr a b m w):=⟨fun h=>by unfold zqA; exact goWi⟩
instance iU1 [h:∀w i3 i4,K (F w i3 i4) (fun r=>Gq a b m r.2) (Wr w∧0≤i3∧i3+uc w+uu w≤6000∧0≤i4∧i4≤3∧(i4<2→Mz w+2≤n∧Sn w 10000000000000)∧1≤n∧Gr a b m w)] (w:zWV) (i3 i4:Int):K (zqB F w i3 i4) (fun r=>Gq a b m r.2) (Wr w∧0≤i3∧i3+uc w+uu w≤6000∧1≤i4∧i4≤2∧Mz w+1≤n∧1≤n∧Sn w 10000018000000∧Gr a b m w):=⟨fun h=>by unfold zqB; exact goWi⟩
instance iCH [h:∀w i3 i4,K (F w i3 i4) (fun r=>Gq a b m r.2) (Wr w∧0≤i3∧i3+uc w+uu w≤6000∧0≤i4∧i4≤3∧(i4<2→Mz w+2≤n∧Sn w 10000000000000)∧1≤n∧Gr a b m w)] (w:zWV) (i3 i4:Int):K (zr5 F w i3 i4) (fun r=>Gq a b m r.2) (Wr w∧0≤i3∧i3+uc w+uu w≤6000∧0≤i4∧i4<2∧Mz w+1≤n∧1≤n∧Sn w 10000000000000∧Gr a b m w):=⟨fun h=>by unfold zr5; exact goWi⟩
end
theorem Mz_0 {w:zWV} (h:Wr w):0≤Mz w:=by grind [Wr,Mz,uc,uu,st]
instance iL0 (a b:List UInt8) (m:zXP) (n:Nat) (w:zWV) (i3 i4:Int):K (zJ n w i3 i4) (fun r=>Gq a b m r.2) (Wr w∧0≤i3∧i3+uc w+uu w≤6000∧0≤i4∧i4≤3∧(i4<2→Mz w+2≤(n:Int)∧Sn w 10000000000000)∧1≤(n:Int)∧Gr a b m w):=by
 induction n generalizing w i3 i4 with
 | zero=>exact ⟨fun h=>by omega⟩
 | succ n ih =>
  refine ⟨fun ⟨h1,h2,h3,h4,h5,h6,h7,h9⟩=>?_⟩;have:=Mz_0 h1;rw [L0_s];refine Wi (fun c=>?_) fun _=>Ws h9
  have c2:i4<2:=by simpa using c
  have h8:=h6 c2;exact (iCH (F:=zJ n) (n:=(n:Int)) (h:=ih) w i3 i4).ok ⟨h1,h2,h3,h4,c2,by omega,by omega,h8.2,h9⟩
def Iv (w:zWV) (k:Int):Prop:=Wr w∧uc w+uu w≤6000∧Sn w k
theorem Gr_r (w:zWV):Gr w.zWP.zXe w.zWO.zXe w.zXa w:=⟨List.prefix_refl _,List.prefix_refl _,Int.le_refl _,Int.le_refl _⟩
theorem drop_c {α:Type} {l:List α} {i:Int} (h0:0≤i) (h:i<l.length):∃x,lAt l i=some x∧l.drop i.toNat=x::l.drop (i+1).toNat:=by
 have hi:i.toNat<l.length:=by omega
 have e:(i+1).toNat=i.toNat+1:=by omega
 exact ⟨l[i.toNat],by simp [lAt,h0,hi],by rw [e]; exact List.drop_eq_getElem_cons hi⟩
theorem add1 {i:Int} {l:List zXA} (h0:0≤i) (h:i<l.length) (hl:l.length≤150):zd i 1=some (i+1):=by
 simp [zd,inI]; omega
theorem bs {α β:Type} (a:α) (f:α→Option β):(some a).bind f=f a:=rfl
def rsO (w:zWV):zXN:=⟨w.zWP.zXe,w.zWO.zXe,w.zWP.zXh,w.zWO.zXh,w.zXa,w.Gateway.zWZ⟩
def Wn (s:zXo):Option zWV × Int→Prop
 | (none,e)=>e≠0
 | (some w,e)=>e=0∧Iv w 1000000000000∧w.zWP.zXw=false∧w.zWP.zXq=s.Client∧w.zWO.zXq=s.Upstream∧w.Gateway.zWZ=false
instance iNew (s:zXo):T (znm s) (En s.Env∧s.Rules.length≤400∧(∀r∈s.Rules,Rm r)∧s.Client.length≤3000∧s.Upstream.length≤3000) (Wn s):=⟨fun ⟨h1,h2,h3,h4,h5⟩=>by
 obtain ⟨⟨o,e⟩,he,hN⟩:=(inferInstance:T (zf7 s.Env s.Caps s.Rules) _ _).ok ⟨h1,h2,h3⟩;unfold znm;rw [he]
 cases o with
 | none =>
  have hN:e≠0:=hN;exact ⟨(none,e),by simp [Go.Rk.optK,hN],hN⟩
 | some g =>
  have hN:Gf g:=hN
  by_cases c:e=0
  ·refine ⟨(some ⟨g,⟨s.Client,0,s.ClientEnds,false,[],(),()⟩,⟨s.Upstream,0,s.UpstreamEnds,false,[],(),()⟩,⟨0,0⟩⟩,0),?_,?_⟩
   ·simp only [Go.Rk.optK,Option.bind,c];rw [if_neg (by simp),if_neg (by simp; omega),if_neg (by simp; omega)]
   ·obtain ⟨n1,n2,n3,n4,n5,n6⟩:=hN;simp only [Wn,Iv,Wr,Sn,Bz,uc,uu,Mz,st,List.length_nil,n1,n2,n3,n4,n5,n6];refine ⟨trivial,⟨⟨trivial,trivial,trivial,h4,h5,?_⟩,?_,?_⟩,trivial,trivial,trivial,trivial⟩<;>simp<;>omega
  ·exact ⟨(none,e),by simp [Go.Rk.optK,c],c⟩⟩
end Go.Dm
end
section
set_option linter.unusedVariables false
set_option maxRecDepth 10000
set_option maxHeartbeats 4000000
namespace Go.Dm
theorem NL0 (c:zXH) (l:List zWU) (k:Int):∀(n:Nat) (g:zWN) (i:Int) (r:Option zWN × Int),zeg c l k n g i=some r→r.2=0
 | 0,g,i,r,h=>by cases h
 | n+1,g,i,r,h=>by
  unfold zeg at h
  split at h
  ·obtain ⟨a,_,h⟩:=Option.bind_eq_some_iff.1 h;obtain ⟨b,_,h⟩:=Option.bind_eq_some_iff.1 h
   split at h
   ·obtain ⟨d,_,h⟩:=Option.bind_eq_some_iff.1 h;exact NL0 c l k n _ _ r h
   ·cases h
  ·obtain ⟨a,_,h⟩:=Option.bind_eq_some_iff.1 h;obtain ⟨b,_,h⟩:=Option.bind_eq_some_iff.1 h;cases h; rfl
def Bd (s:zXo):Prop:=s.Env.By.length≤1000∧s.Env.Host.length≤1000∧Swm s.Env.Domains∧Swm s.Env.Locations∧Rl s.Rules
theorem zNu {l:List zWU} {e:zW2} {c:zXH} {i10 i12:Int} {o:Option zXg} {r:Option zWN × Int} (hb:Rl l) (h0:stC e=0) (h1:i10=if c.Chunk<1∨65536<c.Chunk then 1 else 0) (h2:i12=if c.Queue<1∨64<c.Queue then 1 else 0)
  (h:zfG l e c i10 o i12=some r) (hr:r.2≠0):gwC e c l=r.2:=by
 unfold zfG at h;unfold gwC;rw [if_neg (by simpa using h0)]
 split at h
 ·rename_i hc
  cases h
  have:c.Chunk<1∨65536<c.Chunk:=by
   by_cases q:c.Chunk<1∨65536<c.Chunk
   ·exact q
   ·rw [if_neg q] at h1; subst h1; simp at hc
  rw [if_pos (by rcases this with q|q<;>simp [q])]
 ·rename_i hc
  have hc:¬ (c.Chunk<1∨65536<c.Chunk):=fun q=>hc (by rw [if_pos q] at h1; subst h1; rfl)
  split at h
  ·rename_i hq
   cases h
   have:c.Queue<1∨64<c.Queue:=by
    by_cases q:c.Queue<1∨64<c.Queue
    ·exact q
    ·rw [if_neg q] at h2; subst h2; simp at hq
   rw [if_pos (by rcases this with q|q<;>simp [q])]
  ·rename_i hq
   have hq:¬ (c.Queue<1∨64<c.Queue):=fun q=>hq (by rw [if_pos q] at h2; subst h2; rfl)
   split at h
   ·rename_i q
    cases h
    have q:c.Head<1:=by simpa using q
    rw [if_pos (.inl q)]
   ·rename_i g1
    split at h
    ·rename_i q
     cases h
     have q:65536<c.Head:=by simpa using q
     rw [if_pos (.inr (.inl q))]
    ·rename_i g2
     have g1:¬ c.Head<1:=by simpa using g1
     have g2:¬ 65536<c.Head:=by simpa using g2
     rw [if_neg (by
      rintro (a|a|a|a|a|a)
      ·exact g1 a
      ·exact g2 a
      ·exact hc (.inl a)
      ·exact hc (.inr a)
      ·exact hq (.inl a)
      ·exact hq (.inr a))]
     obtain ⟨k,ek,hk1,hk2⟩:=(inferInstance:T (zjF l) _ _).ok hb;rw [ek] at h
     change (if (!(k.2==0))=true then some (none,k.2) else _)=some r at h
     split at h
     ·cases h
      by_cases hp:zoC l
      ·rw [if_pos hp,hk1 hp]
      ·rw [if_neg hp,hk2 hp]
     ·obtain ⟨a,_,h⟩:=Option.bind_eq_some_iff.1 h;obtain ⟨b,_,h⟩:=Option.bind_eq_some_iff.1 h;exact absurd (NL0 _ _ _ _ _ _ _ h) hr
theorem New_2 {s:zXo} {r:Option zWN × Int} (hb:Bd s) (h:zf7 s.Env s.Caps s.Rules=some r) (hr:r.2≠0):gwC s.Env s.Caps s.Rules=r.2:=by
 obtain ⟨b1,b2,b3,b4,b5⟩:=hb;obtain ⟨k,ek,hk⟩:=(inferInstance:T (zlT s.Env) _ _).ok ⟨b1,b2,b3,b4⟩;unfold zf7 at h;rw [ek] at h
 change (if (!(k==0))=true then some (none,k) else _)=some r at h
 split at h
 ·cases h;have hr:k≠0:=hr;unfold gwC;rw [if_pos (by rw [← hk]; exact hr),hk]
 ·rename_i k0
  have k0:k=0:=by simpa using k0
  have h0:stC s.Env=0:=by rw [← hk]; exact k0
  have key:∀i10:Int,i10=(if s.Caps.Chunk<1∨65536<s.Caps.Chunk then 1 else 0)→zfH s.Rules s.Env s.Caps i10=some r→gwC s.Env s.Caps s.Rules=r.2:=by
   intro i10 h1 h;unfold zfH zlU at h
   by_cases q1:s.Caps.Queue<1
   ·rw [if_pos (by simpa using q1)] at h;exact zNu b5 h0 h1 (by rw [if_pos (.inl q1)]) h hr
   ·rw [if_neg (by simpa using q1)] at h
    by_cases q2:64<s.Caps.Queue
    ·rw [if_pos (by simpa using q2)] at h;exact zNu b5 h0 h1 (by rw [if_pos (.inr q2)]) h hr
    ·rw [if_neg (by simpa using q2)] at h;exact zNu b5 h0 h1 (by rw [if_neg (by rintro (a|a); exact q1 a; exact q2 a)]) h hr
  unfold zht at h
  by_cases q1:s.Caps.Chunk<1
  ·rw [if_pos (by simpa using q1)] at h;exact key 1 (by rw [if_pos (.inl q1)]) h
  ·rw [if_neg (by simpa using q1)] at h
   by_cases q2:65536<s.Caps.Chunk
   ·rw [if_pos (by simpa using q2)] at h;exact key 1 (by rw [if_pos (.inr q2)]) h
   ·rw [if_neg (by simpa using q2)] at h;exact key 0 (by rw [if_neg (by rintro (a|a); exact q1 a; exact q2 a)]) h
theorem New_e {s:zXo} {e:Int} (hb:Bd s) (h4:s.Client.length≤3000) (h5:s.Upstream.length≤3000) (h:znm s=some (none,e)) (he:e≠0):zhM s=some e:=by
 have hg:∃o,zf7 s.Env s.Caps s.Rules=some (o,e):=by
  unfold znm at h;obtain ⟨⟨o,k⟩,eg,h⟩:=Option.bind_eq_some_iff.1 h;refine ⟨o,?_⟩;rw [eg]
  have c1:¬ decide ((1048576:Int)<(s.Client.length:Int))=true:=by simp; omega
  have c2:¬ decide ((1048576:Int)<(s.Upstream.length:Int))=true:=by simp; omega
  cases o with
  | none =>
   change (if (!(k==0))=true then some (none,k) else _)=_ at h
   split at h
   ·cases h; rfl
   ·first|cases h|(rw [if_neg c1,if_neg c2] at h; cases h)
  | some g =>
   change (if (!(k==0))=true then some (none,k) else _)=_ at h
   split at h
   ·cases h; rfl
   ·first|cases h|(rw [if_neg c1,if_neg c2] at h; cases h)
 obtain ⟨o,hg⟩:=hg;have:=New_2 hb hg he;obtain ⟨b1,b2,b3,b4,b5⟩:=hb;obtain ⟨r,er,hr⟩:=(inferInstance:T (zhM s) _ _).ok ⟨b1,b2,b3,b4,b5,h4,h5⟩;rw [er,hr,this]
end Go.Dm
end
section
set_option linter.unusedVariables false
set_option maxRecDepth 10000
set_option maxHeartbeats 4000000
namespace Go.Dm
def Rs2 (g r:zWN):Prop:=r.Queue=g.Queue∧r.zWP=g.zWP∧r.zXr=g.zXr∧r.zYa=g.zYa∧r.zWZ=g.zWZ∧r.zXT=g.zXT
def Cr (g:zWN):Prop:=g.zWZ=true∨g.zYa=true∨zan g=some false
def Ur (g:zWN):Prop:=g.zWZ=true∨g.zXT=true∨g.Queue=none∨∃q,g.Queue=some q∧q.zX0.zXJ.length=0
theorem Cr_s {g r:zWN} (h:Rs2 g r) (c:Cr g):Cr r:=by
 obtain ⟨h1,h2,h3,h4,h5,h6⟩:=h
 have e:zan r=zan g:=by unfold zan; rw [h1,h2,h3,h5]
 unfold Cr at *
 rw [e,h4,h5]; exact c
theorem Ur_s {g r:zWN} (h:Rs2 g r) (c:Ur g):Ur r:=by
 obtain ⟨h1,h2,h3,h4,h5,h6⟩:=h
 unfold Ur at *
 rw [h1,h5,h6]; exact c
theorem Rs2_t {g r s:zWN} (h:Rs2 g r) (k:Rs2 r s):Rs2 g s:=by
 obtain ⟨h1,h2,h3,h4,h5,h6⟩:=h;obtain ⟨k1,k2,k3,k4,k5,k6⟩:=k;exact ⟨k1.trans h1,k2.trans h2,k3.trans h3,k4.trans h4,k5.trans h5,k6.trans h6⟩
theorem bi {α β:Type} {x:Option α} {f:α→Option β} {r:β} (h:x.bind f=some r):∃a,x=some a∧f a=some r:=by
 cases x with
 | none=>cases h
 | some a=>exact ⟨a,rfl,h⟩
theorem zIs (s:Str):∀(n:Nat) (g:zWN) (i:Int) (r:Int × Int × zWN),zA s n g i=some r→((s.length:Int)≤r.1∨Cr r.2.2)∧r.2.1=0
 | 0,_,_,_,h=>by cases h
 | n+1,g,i,r,h=>by
  unfold zA zak at h
  split at h
  ·obtain ⟨b,hb,h⟩:=bi h
   cases b with
   | false=>cases h; exact ⟨.inr (.inr (.inr hb)),rfl⟩
   | true =>
    obtain ⟨r1,e1,h⟩:=bi h;obtain ⟨r2,e2,h⟩:=bi h;obtain ⟨r3,e3,h⟩:=bi h;obtain ⟨r4,e4,h⟩:=bi h;exact zIs s n r4 r3 r h
  ·rename_i hc
   cases h;exact ⟨.inl (by simpa using hc),rfl⟩
theorem fu1:∃k,fuel=k+1:=⟨fuel-1,by unfold fuel; rfl⟩
def Co (g:zWN) (s:Str) (r:Int × Int × zWN):Prop:=(g.zWZ=true→r=(0,8,g))∧((s.length:Int)≤r.1∨Cr r.2.2)∧(r.2.1=0∨r.2.1=8∧r.1=0)∧(s=[]∨Cr g→r.1=0∧r.2.2=g)
theorem cl_o {g:zWN} {s:Str} {r:Int × Int × zWN} (h:zG g s=some r):Co g s r:=by
 unfold zG at h
 split at h
 ·cases h; exact ⟨fun _=>rfl, .inr (.inl ‹_›), .inr ⟨rfl,rfl⟩,fun _=>⟨rfl,rfl⟩⟩
 split at h
 ·cases h; exact ⟨fun _=>rfl, .inr (.inr (.inl ‹_›)), .inr ⟨rfl,rfl⟩,fun _=>⟨rfl,rfl⟩⟩
 rename_i hc hg
 refine ⟨fun c=>absurd c hc,(zIs s _ _ _ _ h).1, .inl (zIs s _ _ _ _ h).2,fun c=>?_⟩;obtain ⟨k,hk⟩:=fu1;rw [hk] at h;unfold zA zak at h
 split at h
 ·rename_i h0
  obtain ⟨b,hb,h⟩:=bi h
  rcases c with rfl|c|c|c
  ·simp at h0
  ·exact absurd c hc
  ·exact absurd c hg
  ·rw [c] at hb; cases hb; cases h; exact ⟨rfl,rfl⟩
 ·cases h; exact ⟨rfl,rfl⟩
theorem zIt (s:Str):∀(n:Nat) (g:zWN) (i:Int) (r:Int × Int × zWN),zh s n g i=some r→((s.length:Int)≤r.1∨Ur r.2.2)∧r.2.1=0
 | 0,_,_,_,h=>by cases h
 | n + 1,g,i,r,h=>by
  unfold zh zq at h
  split at h
  ·split at h
   ·split at h
    ·cases hq:g.Queue with
     | none =>
      rw [hq] at h;cases h;exact ⟨.inr (.inr (.inr (.inl rfl))),rfl⟩
     | some q =>
      rw [hq] at h;obtain ⟨l,hl,h⟩:=bi h;cases hl
      split at h
      ·obtain ⟨r1,e1,h⟩:=bi h;obtain ⟨r2,e2,h⟩:=bi h;obtain ⟨r3,e3,h⟩:=bi h;obtain ⟨r4,e4,h⟩:=bi h;exact zIt s n r4 r3 r h
      ·rename_i hl
       cases h;exact ⟨.inr (.inr (.inr (.inr ⟨q,rfl,by simpa using hl⟩))),rfl⟩
    ·rename_i hd
     cases h;exact ⟨.inr (.inr (.inl (by simpa using hd))),rfl⟩
   ·rename_i hd
    cases h;exact ⟨.inr (.inl (by simpa using hd)),rfl⟩
  ·rename_i hc
   cases h;exact ⟨.inl (by simpa using hc),rfl⟩
def Uo (g:zWN) (s:Str) (r:Int × Int × zWN):Prop:=(g.zWZ=true→r=(0,8,g))∧((s.length:Int)≤r.1∨Ur r.2.2)∧(r.2.1=0∨r.2.1=8∧r.1=0)∧(s=[]∨Ur g→r.1=0∧Rs2 g r.2.2)
theorem up_o {g:zWN} {s:Str} {r:Int × Int × zWN} (h:zl g s=some r):Uo g s r:=by
 have rr:Rs2 g g:=⟨rfl,rfl,rfl,rfl,rfl,rfl⟩;unfold zl at h
 split at h
 ·cases h; exact ⟨fun _=>rfl, .inr (.inl ‹_›), .inr ⟨rfl,rfl⟩,fun _=>⟨rfl,rr⟩⟩
 split at h
 ·cases h; exact ⟨fun _=>rfl, .inr (.inr (.inl ‹_›)), .inr ⟨rfl,rfl⟩,fun _=>⟨rfl,rr⟩⟩
 rename_i hc hg
 refine ⟨fun c=>absurd c hc,(zIt s _ _ _ _ h).1, .inl (zIt s _ _ _ _ h).2,fun c=>?_⟩;obtain ⟨k,hk⟩:=fu1;rw [hk] at h;unfold zh zq at h
 split at h
 ·rename_i h0
  split at h
  ·split at h
   ·cases hq:g.Queue with
    | none =>
     rw [hq] at h;cases h;exact ⟨rfl,hq.symm,rfl,rfl,rfl,rfl,rfl⟩
    | some q =>
     rw [hq] at h;obtain ⟨l,hl,h⟩:=bi h;cases hl
     split at h
     ·rename_i hl
      rcases c with rfl|c|c|c|⟨q2,c,c2⟩
      ·simp at h0
      ·exact absurd c hc
      ·exact absurd c hg
      ·rw [hq] at c; cases c
      ·rw [hq] at c; cases c; rw [c2] at hl; simp at hl
     ·cases h;exact ⟨rfl,hq.symm,rfl,rfl,rfl,rfl,rfl⟩
   ·cases h; exact ⟨rfl,rr⟩
  ·cases h; exact ⟨rfl,rr⟩
 ·cases h; exact ⟨rfl,rr⟩
def Qt (g:zWN) (m:zXP):Prop:=g.zXQ=[]∧g.zYd=[]∧∃u,zco g=some u∧u.Client≤m.Client∧u.Upstream≤m.Upstream
def To (w v:zWV):Prop:=Rs2 w.Gateway v.Gateway∧Qt v.Gateway v.zXa∧(Qt w.Gateway w.zXa→v.zWP.zXe=w.zWP.zXe∧v.zWO.zXe=w.zWO.zXe∧v.zXa=w.zXa)
theorem take_o {w v:zWV} (h:zu w=some v):To w v:=by
 unfold zu zbf zaM at h;obtain ⟨r1,e1,h⟩:=bi h;cases e1
 split at h
 ·obtain ⟨r2,e2,h⟩:=bi h;cases e2
  split at h
  ·obtain ⟨u,e3,h⟩:=bi h;cases h;refine ⟨⟨rfl,rfl,rfl,rfl,rfl,rfl⟩,⟨rfl,rfl,u,e3,Int.le_max_right ..,Int.le_max_right ..⟩,fun ⟨q1,q2,x,q3,q4,q5⟩=>?_⟩
   have:x=u:=by
    have e:zco w.Gateway=some u:=e3;rw [q3] at e; exact Option.some.inj e
   subst this;refine ⟨by simp [q1],by simp [q2],?_⟩;show (⟨max w.zXa.Client x.Client,max w.zXa.Upstream x.Upstream⟩:zXP)=w.zXa;rw [Int.max_eq_left q4,Int.max_eq_left q5]
  ·cases h
 ·cases h
end Go.Dm
end
section
set_option linter.unusedVariables false
set_option maxRecDepth 10000
set_option maxHeartbeats 4000000
namespace Go.Dm
theorem goU0 {G:Prop} (h:G:=by
 (with_reducible repeat' first|intro _|refine And.intro ?_ ?_|refine Wf ?_ ?_|refine Wi ?_ ?_|refine Ws ?_|refine Wc ?_ ?_|refine Wo ?_ ?_|refine Wk ?_|refine We ?_ ?_)
 all_goals (try simp only [List.length_cons,List.length_nil])
 all_goals grind (gen:=8) (ematch:=8) [Rs2,oA,kb, = zIL,oB,oW,Sd,oQ,Gw,Cd,kc,ku,tc,tu,Rs1,st,fuel,zau,zS]):G:=h
instance (priority:=high) upL (s1:Str) (n:Nat) (vp0:zWN) (i6:Int):T (zh s1 n vp0 i6) (Gw vp0∧0≤i6∧i6≤s1.length∧s1.length≤3000∧ku vp0+(s1.length-i6)≤3000∧(s1.length-i6)+2*st vp0.zWZ+1≤n∧tc vp0+10000000*(s1.length-i6)+10000000*st vp0.zWZ≤30000000000000) (fun r=>i6≤r.1∧(r.1=i6→Rs2 vp0 r.2.2∨r.2.2.zWZ=true)∧(vp0.zWZ=true→r.2.2.zWZ=true)):=by
 induction n generalizing vp0 i6
 ·exact ⟨goU0⟩
 exact ⟨by unfold zh zq; exact goU0⟩
theorem upT (x_g:zWN) (x_s:Str):T (zl x_g x_s) (Gw x_g∧x_s.length≤3000∧ku x_g+x_s.length≤3000∧tc x_g=0∧tu x_g=0) (fun r=>(r.1=0→Rs2 x_g r.2.2∨r.2.2.zWZ=true)):=⟨by unfold zl; exact goU0⟩
theorem upO (x_g:zWN) (x_s:Str):T (zl x_g x_s) (Gw x_g∧x_s.length≤3000∧ku x_g+x_s.length≤3000∧tc x_g=0∧tu x_g=0) (fun r=>Gw r.2.2∧0≤r.1∧r.1≤x_s.length∧ku r.2.2≤ku x_g+r.1∧kc r.2.2≤kc x_g∧tc r.2.2≤10000000*r.1+10000000∧tu r.2.2≤10000000*r.1+10000000∧(x_g.zWZ=true→r.2.2.zWZ=true)):=inferInstance
instance (priority:=high) upG (x_g:zWN) (x_s:Str):T (zl x_g x_s) (Gw x_g∧x_s.length≤3000∧ku x_g+x_s.length≤3000∧tc x_g=0∧tu x_g=0) (fun r=>Gw r.2.2∧0≤r.1∧r.1≤x_s.length∧ku r.2.2≤ku x_g+r.1∧kc r.2.2≤kc x_g∧tc r.2.2≤10000000*r.1+10000000∧tu r.2.2≤10000000*r.1+10000000∧(x_g.zWZ=true→r.2.2.zWZ=true)∧(r.1=0→Rs2 x_g r.2.2∨r.2.2.zWZ=true)∧((x_s.length:Int)≤r.1∨Ur r.2.2)∧(x_s=[]∨Ur x_g→r.1=0∧Rs2 x_g r.2.2)∧(r.2.1=0∨r.2.1=8∧r.1=0)):=⟨fun h=>by
 obtain ⟨r,e,h0⟩:=(upT x_g x_s).ok h;obtain ⟨r2,e2,h1⟩:=(upO x_g x_s).ok h;rw [e] at e2;cases e2;obtain ⟨a1,a2,a3,a4,a5,a6,a7,a8⟩:=h1;obtain ⟨-,b2,b3,b4⟩:=up_o e
 exact ⟨r,e,a1,a2,a3,a4,a5,a6,a7,a8,h0,b2,b4,b3⟩⟩
end Go.Dm
end
section
set_option linter.unusedVariables false
set_option maxRecDepth 10000
set_option maxHeartbeats 4000000
namespace Go.Dm
theorem clO (x_g:zWN) (x_s:Str):T (zG x_g x_s) (Gw x_g∧x_s.length≤3000∧kc x_g+x_s.length≤3000∧tc x_g=0∧tu x_g=0) (fun r=>Gw r.2.2∧0≤r.1∧r.1≤x_s.length∧kc r.2.2≤kc x_g+r.1∧ku r.2.2≤ku x_g∧tu r.2.2≤10000000*r.1+10000000∧tc r.2.2≤10000000*r.1+10000000∧(x_g.zWZ=true→r.2.2.zWZ=true)):=inferInstance
instance (priority:=high) clG (x_g:zWN) (x_s:Str):T (zG x_g x_s) (Gw x_g∧x_s.length≤3000∧kc x_g+x_s.length≤3000∧tc x_g=0∧tu x_g=0) (fun r=>(Gw r.2.2∧0≤r.1∧r.1≤x_s.length∧kc r.2.2≤kc x_g+r.1∧ku r.2.2≤ku x_g∧tu r.2.2≤10000000*r.1+10000000∧tc r.2.2≤10000000*r.1+10000000∧(x_g.zWZ=true→r.2.2.zWZ=true))∧((x_s.length:Int)≤r.1∨Cr r.2.2)∧(x_s=[]∨Cr x_g→r.1=0∧r.2.2=x_g)∧(r.2.1=0∨r.2.1=8∧r.1=0)):=⟨fun h=>by
 obtain ⟨r,e,h1⟩:=(clO x_g x_s).ok h;obtain ⟨-,b2,b3,b4⟩:=cl_o e
 exact ⟨r,e,h1,b2,b4,b3⟩⟩
instance (priority:=high) takeS (x_w:zWV):T (zu x_w) (Gw x_w.Gateway∧0≤tc x_w.Gateway∧x_w.zWP.zXe.length+tc x_w.Gateway≤100000000000000∧x_w.zWO.zXe.length+tu x_w.Gateway≤100000000000000) (fun r=>((Gw r.Gateway∧kc r.Gateway=kc x_w.Gateway∧ku r.Gateway=ku x_w.Gateway∧tc r.Gateway=0∧tu r.Gateway=0∧r.zWP.zXq=x_w.zWP.zXq∧r.zWP.zXh=x_w.zWP.zXh∧r.zWP.zXC=x_w.zWP.zXC∧r.zWP.zXw=x_w.zWP.zXw∧r.zWP.zXe.length=x_w.zWP.zXe.length+tc x_w.Gateway∧r.zWO.zXq=x_w.zWO.zXq∧r.zWO.zXh=x_w.zWO.zXh∧r.zWO.zXC=x_w.zWO.zXC∧r.zWO.zXw=x_w.zWO.zXw∧r.zWO.zXe.length=x_w.zWO.zXe.length+tu x_w.Gateway)∧x_w.zWP.zXe <+: r.zWP.zXe∧x_w.zWO.zXe <+: r.zWO.zXe∧x_w.zXa.Client≤r.zXa.Client∧x_w.zXa.Upstream≤r.zXa.Upstream∧r.Gateway.zWZ=x_w.Gateway.zWZ)∧Rs2 x_w.Gateway r.Gateway∧Qt r.Gateway r.zXa∧(Qt x_w.Gateway x_w.zXa→r.zWP.zXe=x_w.zWP.zXe∧r.zWO.zXe=x_w.zWO.zXe∧r.zXa=x_w.zXa)):=⟨fun h=>by
 obtain ⟨r,e,h1⟩:=(takeG x_w).ok h
 exact ⟨r,e,h1,take_o e⟩⟩
def Zc (w:zWV):Prop:=(uc w=0∨Cr w.Gateway)∧(w.zWP.zXC=true→w.zWP.zXw=false→uc w≠0)
def Zu (w:zWV):Prop:=(uu w=0∨Ur w.Gateway)∧(w.zWO.zXC=true→w.zWO.zXw=false→uu w≠0)
def Z (w:zWV):Prop:=w.Gateway.zWZ=true∨Zc w∧Zu w
def Sl (w:zWV):Prop:=w.zWP.zXe.length≤20000000000000∧w.zWO.zXe.length≤20000000000000
def Fz (k:Int):Int × Option zWV→Prop
 | (_,none)=>False
 | (i,some v)=>i+uc v+uu v=k∧Wr v∧Z v∧Sl v
theorem goWz {G:Prop} (h:G:=by
 (with_reducible repeat' first|intro _|refine And.intro ?_ ?_|refine Wf ?_ ?_|refine Wi ?_ ?_|refine Ws ?_|refine Wc ?_ ?_|refine Wo ?_ ?_|refine Wk ?_|refine We ?_ ?_)
 all_goals (try simp only [List.length_cons,List.length_nil])
 all_goals grind (gen:=8) (ematch:=8) [Fz,Z,Zc,Zu,Sl, → Cr_s, → Ur_s, → Rs2_t,tc,tu,Wr,Sn,Bz,uc,uu,Mz,st,fuel]):G:=h
section
variable {k:Int} {F:zWV→Int→Int→Option (Int × Option zWV)} {n:Int}
instance zU0 [h:∀w i3 i4,K (F w i3 i4) (Fz k) (Wr w∧0≤i3∧i3+uc w+uu w=k∧k≤6000∧0≤i4∧i4≤3∧(i4<2→Mz w+2≤n∧Sn w 10000000000000)∧1≤n∧(2≤i4→Z w∧Sl w))] (w:zWV) (i3:Int):K (zqA F w i3) (Fz k) (Wr w∧0≤i3∧i3+uc w+uu w=k∧k≤6000∧Mz w+2≤n∧1≤n∧Sn w 9999988000000):=⟨fun h=>by unfold zqA; exact goWz⟩
instance zU1 [h:∀w i3 i4,K (F w i3 i4) (Fz k) (Wr w∧0≤i3∧i3+uc w+uu w=k∧k≤6000∧0≤i4∧i4≤3∧(i4<2→Mz w+2≤n∧Sn w 10000000000000)∧1≤n∧(2≤i4→Z w∧Sl w))] (w:zWV) (i3 i4:Int):K (zqB F w i3 i4) (Fz k) (Wr w∧0≤i3∧i3+uc w+uu w=k∧k≤6000∧1≤i4∧i4≤2∧Mz w+1≤n∧1≤n∧Sn w 10000018000000∧Zc w):=⟨fun h=>by unfold zqB; exact goWz⟩
instance zCH [h:∀w i3 i4,K (F w i3 i4) (Fz k) (Wr w∧0≤i3∧i3+uc w+uu w=k∧k≤6000∧0≤i4∧i4≤3∧(i4<2→Mz w+2≤n∧Sn w 10000000000000)∧1≤n∧(2≤i4→Z w∧Sl w))] (w:zWV) (i3 i4:Int):K (zr5 F w i3 i4) (Fz k) (Wr w∧0≤i3∧i3+uc w+uu w=k∧k≤6000∧0≤i4∧i4<2∧Mz w+1≤n∧1≤n∧Sn w 10000000000000):=⟨fun h=>by unfold zr5; exact goWz⟩
end
end Go.Dm
end
section
set_option linter.unusedVariables false
set_option maxRecDepth 10000
set_option maxHeartbeats 4000000
namespace Go.Dm
instance zL0 (k:Int) (n:Nat) (w:zWV) (i3 i4:Int):K (zJ n w i3 i4) (Fz k) (Wr w∧0≤i3∧i3+uc w+uu w=k∧k≤6000∧0≤i4∧i4≤3∧(i4<2→Mz w+2≤(n:Int)∧Sn w 10000000000000)∧1≤(n:Int)∧(2≤i4→Z w∧Sl w)):=by
 induction n generalizing w i3 i4 with
 | zero=>exact ⟨fun h=>by omega⟩
 | succ n ih =>
  refine ⟨fun ⟨h1,h2,h3,h3',h4,h5,h6,h7,h9⟩=>?_⟩;have:=Mz_0 h1;rw [L0_s];refine Wi (fun c=>?_) fun c=>Ws ?_
  ·have c2:i4<2:=by simpa using c
   have h8:=h6 c2;exact (zCH (F:=zJ n) (n:=(n:Int)) (h:=ih) w i3 i4).ok ⟨h1,h2,h3,h3',h4,c2,by omega,by omega,h8.2⟩
  ·have c2:2≤i4:=by simpa using c
   exact ⟨h3,h1,(h9 c2).1,(h9 c2).2⟩
theorem Fin1 {w:zWV} (h:Iv w 9900000000000):W (zd8 (some w)) (Fz (uc w+uu w)):=by
 obtain ⟨h1,h2,h3⟩:=h;have:=Mz_0 h1;refine (zL0 (uc w+uu w) fuel w 0 0).ok ⟨h1,by omega,by omega,h2,by omega,by omega,fun _=>⟨?_,?_⟩,by simp [fuel],fun c=>by omega⟩
 ·obtain ⟨a1,a2,a3,a4,a5,a6,a7,a8,a9,a10,a11⟩:=h1
  simp only [Mz,uc,uu,st,fuel] at *
  split<;>split<;>omega
 ·obtain ⟨s1,s2⟩:=h3;exact ⟨by omega,by omega⟩
instance sL (n:Nat) (w:zWV) (i3 i4:Int):K (zJ n w i3 i4) (fun r=>r.1=0) (i3=0∧2≤i4∧1≤(n:Int)):=⟨fun ⟨h1,h2,h3⟩=>by
 cases n with
 | zero=>omega
 | succ n =>
  rw [L0_s]
  exact Wi (fun c=>by simp at c; omega) fun _=>Ws h1⟩
section
variable {F:zWV→Int→Int→Option (Int × Option zWV)}
instance sU1 [h:∀w i3 i4,K (F w i3 i4) (fun r=>r.1=0) (i3=0∧2≤i4)] (w:zWV) (i3 i4:Int):K (zqB F w i3 i4) (fun r=>r.1=0) (Wr w∧i3=0∧i4=1∧Z w∧w.zWP.zXe.length≤30000000000000∧w.zWO.zXe.length≤30000000000000):=⟨fun h=>by unfold zqB; exact goWz⟩
instance sCH [h:∀w i3 i4,K (F w i3 i4) (fun r=>r.1=0) (i3=0∧2≤i4)] (w:zWV) (i3 i4:Int):K (zr5 F w i3 i4) (fun r=>r.1=0) (Wr w∧i3=0∧i4=0∧Z w∧Sl w):=⟨fun h=>by unfold zr5; exact goWz⟩
end
theorem Fin2 {w:zWV} (h1:Wr w) (h2:Z w) (h3:Sl w):W (zd8 (some w)) (fun r=>r.1=0):=by
 show W (zJ fuel w 0 0) _;obtain ⟨k,hk⟩:∃k,fuel=k+2:=⟨fuel-2,by unfold fuel; rfl⟩;rw [hk,L0_s,if_pos (by decide)];have hF:∀w i3 i4,K (zJ (k+1) w i3 i4) (fun r=>r.1=0) (i3=0∧2≤i4):=fun w i3 i4=>⟨fun ⟨a,b⟩=>(sL (k+1) w i3 i4).ok ⟨a,b,by omega⟩⟩;exact (sCH (F:=zJ (k+1)) (h:=hF) w 0 0).ok ⟨h1,rfl,rfl,h2,h3⟩
end Go.Dm
end
section
set_option linter.unusedVariables false
set_option maxRecDepth 10000
set_option maxHeartbeats 4000000
namespace Go.Dm
theorem upP (x_g:zWN) (x_s:Str):T (zl x_g x_s) (Gw x_g∧x_s.length≤3000∧ku x_g+x_s.length≤3000∧tc x_g=0∧tu x_g=0) (fun r=>Gw r.2.2∧0≤r.1∧r.1≤x_s.length∧ku r.2.2≤ku x_g+r.1∧kc r.2.2≤kc x_g∧tc r.2.2≤10000000*r.1+10000000∧tu r.2.2≤10000000*r.1+10000000∧(x_g.zWZ=true→r.2.2=x_g∧r.1=0)∧(r.2.1=0∨r.2.1=8∧r.1=0)):=⟨fun h=>by
 obtain ⟨r,e,a1,a2,a3,a4,a5,a6,a7,a8⟩:=(upO x_g x_s).ok h;obtain ⟨b1,b2,b3,b4⟩:=up_o e
 exact ⟨r,e,a1,a2,a3,a4,a5,a6,a7,fun c=>by rw [b1 c]; exact ⟨rfl,rfl⟩,b3⟩⟩
theorem clP (x_g:zWN) (x_s:Str):T (zG x_g x_s) (Gw x_g∧x_s.length≤3000∧kc x_g+x_s.length≤3000∧tc x_g=0∧tu x_g=0) (fun r=>(Gw r.2.2∧0≤r.1∧r.1≤x_s.length∧kc r.2.2≤kc x_g+r.1∧ku r.2.2≤ku x_g∧tu r.2.2≤10000000*r.1+10000000∧tc r.2.2≤10000000*r.1+10000000)∧(x_g.zWZ=true→r.2.2=x_g∧r.1=0)∧(r.2.1=0∨r.2.1=8∧r.1=0)):=⟨fun h=>by
 obtain ⟨r,e,a1,a2,a3,a4,a5,a6,a7,a8⟩:=(clO x_g x_s).ok h;obtain ⟨b1,b2,b3,b4⟩:=cl_o e
 exact ⟨r,e,⟨a1,a2,a3,a4,a5,a6,a7⟩,fun c=>by rw [b1 c]; exact ⟨rfl,rfl⟩,b3⟩⟩
theorem ceO (x_g:zWN):T (zF x_g) (Gw x_g∧tc x_g≤40000000000000) (fun r=>Gw r.2∧kc r.2≤kc x_g∧ku r.2≤ku x_g∧tc r.2≤tc x_g+1310000∧tu r.2=tu x_g∧(x_g.zWZ=true→r.2.zWZ=true)):=inferInstance
theorem ueO (x_g:zWN):T (zr x_g) (Gw x_g∧tc x_g≤40000000000000) (fun r=>Gw r.2∧kc r.2≤kc x_g∧ku r.2≤ku x_g∧tc r.2≤tc x_g+1310000∧tu r.2=tu x_g∧(x_g.zWZ=true→r.2.zWZ=true)):=inferInstance
theorem ce_o {g:zWN} {r:Int × zWN} (h:zF g=some r):(g.zWZ=true→r.2=g)∧(r.1=0∨r.1=8):=by
 unfold zF at h
 split at h
 ·cases h; exact ⟨fun _=>rfl, .inr rfl⟩
 rename_i hc
 split at h
 ·cases h; exact ⟨fun _=>rfl, .inr rfl⟩
 obtain ⟨r1,e1,h⟩:=bi h;cases h; exact ⟨fun c=>absurd c hc, .inl rfl⟩
theorem ue_o {g:zWN} {r:Int × zWN} (h:zr g=some r):(g.zWZ=true→r.2=g)∧(r.1=0∨r.1=8):=by
 have hj:∀(v:zWN) (t:Bool) (r:Int × zWN),zH v t=some r→r.1=0:=fun v t r h=>by
  unfold zH at h
  split at h
  ·obtain ⟨r1,e1,h⟩:=bi h;obtain ⟨r2,e2,h⟩:=bi h;cases h; rfl
  ·obtain ⟨r1,e1,h⟩:=bi h;obtain ⟨r2,e2,h⟩:=bi h;cases h; rfl
 unfold zr at h
 split at h
 ·cases h; exact ⟨fun _=>rfl, .inr rfl⟩
 rename_i hc
 split at h
 ·cases h; exact ⟨fun _=>rfl, .inr rfl⟩
 refine ⟨fun c=>absurd c hc, .inl ?_⟩
 split at h
 ·cases hi:g.zWO.zXW with
  | none =>
   rw [hi] at h;obtain ⟨r1,e1,h⟩:=bi h;exact hj _ _ _ h
  | some b =>
   rw [hi] at h;obtain ⟨r1,e1,h⟩:=bi h;exact hj _ _ _ h
 ·obtain ⟨r1,e1,h⟩:=bi h;cases h; rfl
theorem ceP (x_g:zWN):T (zF x_g) (Gw x_g∧tc x_g≤40000000000000) (fun r=>Gw r.2∧kc r.2≤kc x_g∧ku r.2≤ku x_g∧tc r.2≤tc x_g+1310000∧tu r.2=tu x_g∧(x_g.zWZ=true→r.2=x_g)∧(r.1=0∨r.1=8)):=⟨fun h=>by
 obtain ⟨r,e,a1,a2,a3,a4,a5,a6⟩:=(ceO x_g).ok h
 exact ⟨r,e,a1,a2,a3,a4,a5,ce_o e⟩⟩
theorem ueP (x_g:zWN):T (zr x_g) (Gw x_g∧tc x_g≤40000000000000) (fun r=>Gw r.2∧kc r.2≤kc x_g∧ku r.2≤ku x_g∧tc r.2≤tc x_g+1310000∧tu r.2=tu x_g∧(x_g.zWZ=true→r.2=x_g)∧(r.1=0∨r.1=8)):=⟨fun h=>by
 obtain ⟨r,e,a1,a2,a3,a4,a5,a6⟩:=(ueO x_g).ok h
 exact ⟨r,e,a1,a2,a3,a4,a5,ue_o e⟩⟩
def eOk (x:zXA):Prop:=(x.Kind=1∨x.Kind=3)∧0≤x.N∧x.N≤1048576∨(x.Kind=2∨x.Kind=4)∧x.N=0
theorem evP (x:zXA):T (zae x) True (fun r=>eOk x∧r=0∨¬ eOk x∧r=1):=⟨fun _=>by
 unfold zae zgO eOk
 have c1:∀a b:Int,(a==b)=decide (a=b):=fun a b=>by by_cases h:a=b<;>simp [h]
 simp only [c1]
 by_cases k1:x.Kind=1
 ·simp only [k1]
  by_cases n0:0≤x.N<;>by_cases n1:x.N≤1048576<;>simp [W,n0,n1]<;>omega
 by_cases k3:x.Kind=3
 ·simp only [k3]
  by_cases n0:0≤x.N<;>by_cases n1:x.N≤1048576<;>simp [W,n0,n1]<;>omega
 by_cases k2:x.Kind=2
 ·simp only [k2]
  by_cases n0:x.N=0<;>simp [W,n0]
 by_cases k4:x.Kind=4
 ·simp only [k4]
  by_cases n0:x.N=0<;>simp [W,n0]
 simp [W,k1,k2,k3,k4]⟩
def Sr (w v:zWV):Prop:=v.zWP.zXe=w.zWP.zXe∧v.zWO.zXe=w.zWO.zXe∧v.zWP.zXh=w.zWP.zXh∧v.zWO.zXh=w.zWO.zXh∧v.zXa=w.zXa∧v.Gateway.zWZ=w.Gateway.zWZ
theorem Sr_e {w v:zWV} (h:Sr w v):rsO v=rsO w:=by
 obtain ⟨h1,h2,h3,h4,h5,h6⟩:=h;unfold rsO;rw [h1,h2,h3,h4,h5,h6]
def Ds (w:zWV) (x:zXA) (k:Int):Int × Int × Option zWV→Prop
 | (_,_,none)=>False
 | (n,f,some v)=>Iv v k∧(v.Gateway.zWZ=true→Qt v.Gateway v.zXa)∧Gr w.zWP.zXe w.zWO.zXe w.zXa v∧0≤n∧(n=0∨n≤x.N)∧uc v+uu v+n=uc w+uu w∧(f≠0→n=0)∧v.zWP.zXq=w.zWP.zXq∧v.zWO.zXq=w.zWO.zXq∧(w.Gateway.zWZ=true→Sr w v)∧(x.Kind=2→f=0→uc v=0)∧(x.Kind=4→f=0→uu v=0)∧(eOk x→f≠1)∧(¬ eOk x→f=1∧Sr w v)
theorem goDs {G:Prop} (h:G:=by
 (with_reducible repeat' first|intro _|refine And.intro ?_ ?_|refine Wf ?_ ?_|refine Wi ?_ ?_|refine Ws ?_|refine Wc ?_ ?_|refine Wo ?_ ?_|refine Wk ?_|refine We ?_ ?_)
 all_goals (try simp only [List.length_cons,List.length_nil])
 all_goals grind (gen:=8) (ematch:=8) [Gr_r,Iv,Ds,Sr,eOk,Gr, → pre_t,tc,tu,Wr,Sn,Bz,uc,uu,Mz,st,fuel]):G:=h
section
attribute [local instance 20000] upP clP ceP ueP evP
theorem Do_s (w:zWV) (e:zXA) (k:Int) (h:Iv w k) (hq:w.Gateway.zWZ=true→Qt w.Gateway w.zXa) (hk:k≤9000000000000):W (zmZ (some w) e) (Ds w e (k+10000000)):=by
 have hr:=Gr_r w;unfold zmZ zgU;show W ((zae e).bind _) _;exact goDs
end
end Go.Dm
end
section
set_option linter.unusedVariables false
set_option maxRecDepth 10000
set_option maxHeartbeats 4000000
namespace Go.Dm
theorem zDz {w:zWV} (h:Wr w):zfP (some w)=some (uc w,uu w,some w):=by
 obtain ⟨h1,h2,h3,h4,h5,h6,h7,h8,h9,h10,h11⟩:=h
 have a:zZ w.zWP.zXq w.zWP.zXh=some (w.zWP.zXq.drop w.zWP.zXh.toNat):=by unfold zZ; rw [if_pos ⟨h6,h7⟩]
 have b:zZ w.zWO.zXq w.zWO.zXh=some (w.zWO.zXq.drop w.zWO.zXh.toNat):=by unfold zZ; rw [if_pos ⟨h8,h9⟩]
 show ((zZ w.zWP.zXq w.zWP.zXh).bind _)=_;rw [a];show ((zZ w.zWO.zXq w.zWO.zXh).bind _)=_;rw [b];show some (((w.zWP.zXq.drop w.zWP.zXh.toNat).length:Int),((w.zWO.zXq.drop w.zWO.zXh.toNat).length:Int),some w)=_
 have e1:((w.zWP.zXq.drop w.zWP.zXh.toNat).length:Int)=uc w:=by rw [List.length_drop]; unfold uc; omega
 have e2:((w.zWO.zXq.drop w.zWO.zXh.toNat).length:Int)=uu w:=by rw [List.length_drop]; unfold uu; omega
 rw [e1,e2]
theorem Beg2 {a b:List UInt8} (h:b <+: a):zcf a b=some true:=by
 have hl:=h.length_le
 have e:sTo a (b.length:Int)=some (a.take b.length):=by unfold sTo; rw [if_pos ⟨by omega,by omega⟩]; rfl
 unfold zcf;rw [if_pos (by simpa using hl),e];show some (a.take b.length==b)=_;rw [← List.prefix_iff_eq_take.1 h,beq_self_eq_true]
theorem chk (x:zXA):∃r,zow x=some r∧(eOk x∧r=0∨¬ eOk x∧r=1):=by
 have c1:∀a b:Int,(a==b)=decide (a=b):=fun a b=>by by_cases h:a=b<;>simp [h]
 unfold zow eOk;simp only [c1]
 by_cases k1:x.Kind<1
 ·simp [k1]; omega
 by_cases k2:4<x.Kind
 ·simp [k1,k2]; omega
 by_cases n0:x.N<0
 ·simp [k1,k2,n0]; omega
 by_cases n1:1048576<x.N
 ·simp [k1,k2,n0,n1]; omega
 by_cases e2:x.Kind=2
 ·by_cases z:x.N=0<;>simp [k1,k2,n0,n1,e2,z]
 by_cases e4:x.Kind=4
 ·by_cases z:x.N=0<;>simp [k1,k2,n0,n1,e2,e4,z]
 ·simp [k1,k2,n0,n1,e2,e4]; omega
section
variable {k0:zXo→Option zWV→Int→Option Bool} {s:zXo} {v w:zWV} {i:Int} {x:zXA}
theorem j1_g (h0:0≤i) (h:i<s.Events.length) (hl:s.Events.length≤150):zg k0 s (some v) i false=k0 s (some v) (i+1):=by
 unfold zg;rw [if_neg Bool.false_ne_true,add1 h0 h hl]; rfl
theorem j2_g (h0:0≤i) (h:i<s.Events.length) (hl:s.Events.length≤150) {f c d:Int} (h1:x.Kind=2→f=0→c=0) (h2:x.Kind=4→f=0→d=0) (h3:eOk x→f≠1):zx k0 s (some v) i x f c d false=k0 s (some v) (i+1):=by
 have key:((zae x).bind fun r1=>if (r1==0) then zg k0 s (some v) i (f==1) else zg k0 s (some v) i false)=k0 s (some v) (i+1):=by
  obtain ⟨r,er,hr⟩:=(evP x).ok trivial;rw [er];show (if (r==0)=true then _ else _)=_
  rcases hr with ⟨a,b⟩|⟨a,b⟩
  ·rw [if_pos (by simp [b]),show (f==1)=false by simpa using h3 a]; exact j1_g h0 h hl
  ·rw [if_neg (by simp [b])]; exact j1_g h0 h hl
 unfold zx;rw [if_neg Bool.false_ne_true]
 repeat' split
 all_goals first
  | exact key
  | (exfalso; simp_all)
theorem j3_g (h0:0≤i) (h:i<s.Events.length) (hl:s.Events.length≤150) {f:Int} (hv:Wr v) (ec:v.zWP.zXq=s.Client) (eu:v.zWO.zXq=s.Upstream)
  (h1:x.Kind=2→f=0→uc v=0) (h2:x.Kind=4→f=0→uu v=0) (h3:eOk x→f≠1) (h4:¬ eOk x→f=1∧Sr w v) (h5:w.Gateway.zWZ=true→Sr w v) :
  zI k0 s (some v) i x (rsO w) f (rsO v) (uc v) (uu v) false=k0 s (some v) (i+1):=by
 have g:=j2_g (k0:=k0) (v:=v) h0 h hl h1 h2 h3;obtain ⟨q1,q2,q3,q4,q5,q6,q7,q8,q9,q10,q11⟩:=hv
 have a1:zd (rsO v).ReadClient (uc v)=some (s.Client.length:Int):=by
  show zd v.zWP.zXh (uc v)=_
  have:v.zWP.zXh+uc v=(s.Client.length:Int):=by unfold uc; rw [ec]; omega
  unfold zd;rw [this,if_pos (by simp [inI]; rw [← ec]; omega)]
 have a2:zd (rsO v).ReadUpstream (uu v)=some (s.Upstream.length:Int):=by
  show zd v.zWO.zXh (uu v)=_
  have:v.zWO.zXh+uu v=(s.Upstream.length:Int):=by unfold uu; rw [eu]; omega
  unfold zd;rw [this,if_pos (by simp [inI]; rw [← eu]; omega)]
 have key:((zd (rsO v).ReadClient (uc v)).bind fun r2=>if (!(r2==(s.Client.length:Int))) then zx k0 s (some v) i x f (uc v) (uu v) true else (zd (rsO v).ReadUpstream (uu v)).bind fun r3=>if (!(r3==(s.Upstream.length:Int))) then zx k0 s (some v) i x f (uc v) (uu v) true else if (rsO w).Closed then zx k0 s (some v) i x f (uc v) (uu v) (!(rsO v==rsO w)) else zx k0 s (some v) i x f (uc v) (uu v) false)=k0 s (some v) (i+1):=by
  rw [a1,a2];show (if (!((s.Client.length:Int)==(s.Client.length:Int)))=true then _ else if (!((s.Upstream.length:Int)==(s.Upstream.length:Int)))=true then _ else _)=_;rw [if_neg (by simp),if_neg (by simp)]
  by_cases c:(rsO w).Closed=true
  ·rw [if_pos c,Sr_e (h5 c),beq_self_eq_true]; exact g
  ·rw [if_neg c]; exact g
 obtain ⟨r,er,hr⟩:=chk x;unfold zI;rw [if_neg Bool.false_ne_true,er];show (if (!(r==0))=true then _ else _)=_
 rcases hr with ⟨a,b⟩|⟨a,b⟩
 ·rw [if_neg (by simp [b])]; exact key
 ·obtain ⟨f1,sr⟩:=h4 a;rw [if_pos (by simp [b]),if_neg (by simp [f1]),Sr_e sr,if_neg (by simp)];rw [Sr_e sr] at key;exact key
end
theorem Iv_m {w:zWV} {k m:Int} (h:Iv w k) (hk:k≤m):Iv w m:=⟨h.1,h.2.1,⟨Int.le_trans h.2.2.1 hk,Int.le_trans h.2.2.2 hk⟩⟩
theorem zJO (s:zXo) (hl:s.Events.length≤150):∀(n:Nat) (i:Int) (w:zWV) (k:Int),0≤i→i≤s.Events.length→(s.Events.length:Int)<i+n→Iv w k→k+10000000*(s.Events.length-i)≤9000000000000 →
  (w.Gateway.zWZ=true→Qt w.Gateway w.zXa)→w.zWP.zXq=s.Client→w.zWO.zXq=s.Upstream→zp n s (some w) i=some true
 | 0,i,w,k,h0,h1,h2,_,_,_,_,_=>by omega
 | n + 1,i,w,k,h0,h1,h2,hv,hk,hq,ec,eu=>by
  have hw:=hv.1;have hw':=hw;obtain ⟨q1,q2,q3,q4,q5,q6,q7,q8,q9,q10,q11⟩:=hw';have rs:∀w,zd4 (some w)=some (rsO w,some w):=fun w=>rfl;unfold zp
  by_cases h:i<s.Events.length
  ·obtain ⟨x,e1,_⟩:=drop_c h0 h;obtain ⟨⟨m,f,o⟩,ew,hd⟩:=Do_s w x k hv hq (by omega)
   cases o with
   | none=>exact hd.elim
   | some v =>
    obtain ⟨d1,d2,d3,d4,d5,d6,d7,d8,d9,d10,d11,d12,d13,d14⟩:=hd;have hv':=d1.1;have hv'':=hv';obtain ⟨p1,p2,p3,p4,p5,p6,p7,p8,p9,p10,p11⟩:=hv'';have ec':v.zWP.zXq=s.Client:=d8.trans ec;have eu':v.zWO.zXq=s.Upstream:=d9.trans eu
    have u0:0≤uc w∧uc w≤3000∧0≤uu w∧uu w≤3000∧0≤uc v∧uc v≤3000∧0≤uu v∧uu v≤3000:=by unfold uc uu; omega
    have a1:za3 (uc w) (uc v)=some (uc w-uc v):=by simp [za3,inI]; omega
    have a2:zd (uc w-uc v) (uu w)=some (uc w-uc v+uu w):=by simp [zd,inI]; omega
    have a3:za3 (uc w-uc v+uu w) (uu v)=some m:=by
     have:uc w-uc v+uu w-uu v=m:=by omega
     unfold za3;rw [this,if_pos (by simp [inI]; omega)]
    have b1:zcf (rsO v).Client (rsO w).Client=some true:=Beg2 d3.1;have b2:zcf (rsO v).Upstream (rsO w).Upstream=some true:=Beg2 d3.2.1
    have go:zI (zp n) s (some v) i x (rsO w) f (rsO v) (uc v) (uu v) false=some true:=by
     rw [j3_g h0 h hl hv' ec' eu' d11 d12 d13 d14 d10];exact zJO s hl n (i+1) v (k+10000000) (by omega) (by omega) (by omega) d1 (by omega) d2 ec' eu'
    have begs:((zcf (rsO v).Client (rsO w).Client).bind fun r10=>if (!r10) then zI (zp n) s (some v) i x (rsO w) f (rsO v) (uc v) (uu v) true else (zcf (rsO v).Upstream (rsO w).Upstream).bind fun r11=>zI (zp n) s (some v) i x (rsO w) f (rsO v) (uc v) (uu v) (!r11))=some true:=by
     rw [b1,b2]; exact go
    rw [if_pos (by simpa using h),e1,bs,rs,bs,zDz hw,bs,ew,bs,rs,bs,zDz hv',bs];show (if decide (m<0)=true then _ else if decide (max x.N 0<m)=true then _ else _)=_;rw [if_neg (by simpa using d4),if_neg (by simp; omega),a1,bs,a2,bs,a3,bs];show (if (!(m==m))=true then _ else if (!(f==0))=true then if (!(m==0))=true then _ else _ else _)=_;rw [if_neg (by simp)]
    by_cases c:f=0
    ·rw [if_neg (by simp [c])]; exact begs
    ·rw [if_pos (by simpa using c),if_neg (by simp [d7 c])]; exact begs
  ·obtain ⟨⟨m,o⟩,ew,hd⟩:=Fin1 (Iv_m hv (by omega))
   cases o with
   | none=>exact hd.elim
   | some v =>
    obtain ⟨f1,f2,f3,f4⟩:=hd;obtain ⟨⟨m2,o2⟩,ew2,hd2⟩:=Fin2 f2 f3 f4;have hd2:m2=0:=hd2;have f2':=f2;obtain ⟨p1,p2,p3,p4,p5,p6,p7,p8,p9,p10,p11⟩:=f2'
    have u0:0≤uc w∧uc w≤3000∧0≤uu w∧uu w≤3000∧0≤uc v∧0≤uu v:=by unfold uc uu; omega
    have u1:(v.zWP.zXq.length:Int)≤3000∧(v.zWO.zXq.length:Int)≤3000:=⟨by omega,by omega⟩
    have u2:uc v≤3000∧uu v≤3000:=by unfold uc uu; omega
    have a1:za3 (uc w) (uc v)=some (uc w-uc v):=by simp [za3,inI]; omega
    have a2:zd (uc w-uc v) (uu w)=some (uc w-uc v+uu w):=by simp [zd,inI]; omega
    have a3:za3 (uc w-uc v+uu w) (uu v)=some m:=by
     have:uc w-uc v+uu w-uu v=m:=by omega
     unfold za3;rw [this,if_pos (by simp [inI]; omega)]
    rw [if_neg (by simpa using h),zDz hw,bs,ew,bs,zDz f2,bs,a1,bs,a2,bs,a3,bs];show (if (m==m)=true then (zd8 (some v)).bind _ else _)=_;rw [if_pos (by simp),ew2];show some (m2==0)=_;rw [hd2]; rfl
theorem zKA (x:zXo):zjk x=some true:=by
 obtain ⟨s,es,h1,h2,h3,h4,h5,h6,h7,h8,h9,h10,h11⟩:=(inferInstance:T (znd x) _ _).ok trivial;obtain ⟨⟨o,e⟩,he,hN⟩:=(iNew s).ok ⟨⟨by omega,by omega,by omega,by omega,h5,h6⟩,by omega,h8,h9,h10⟩;have hb:Bd s:=⟨by omega,by omega,h5,h6,by omega,h8⟩;unfold zjk;rw [show zDo=some true from rfl];show (znd x).bind _=_;rw [es];show (znm s).bind _=_;rw [he]
 cases o with
 | none =>
  have hN:e≠0:=hN;show zbP s none e=some true;unfold zbP;rw [if_pos (by simpa using hN)];show ((zhM s).bind fun r2=>some (e==r2))=_;rw [New_e hb h9 h10 he hN];show some (e==e)=_;rw [beq_self_eq_true]
 | some w =>
  obtain ⟨h0,hv,_,ec,eu,hc⟩:=hN;show zbP s (some w) e=some true;unfold zbP;subst h0;rw [if_neg (by simp)];exact zJO s h11 fuel 0 w 1000000000000 (by omega) (by omega) (by unfold fuel; omega) hv (by omega) (fun c=>by rw [hc] at c; cases c) ec eu
end Go.Dm
end
section
namespace Go.Rk
open Go.RowKit Go.Dm Go.Dk
variable {τ:Nat→Type}

def zjQ:XV τ→Bool
 | .gv _ _=>true
 | _=>false
section
variable (X:Cx τ) (h:Fz) (ν:Vn τ) (a:Act)
def zjq (t:Nat) (x:XV τ):Prop:=∃v,XOk X.P X.G h ν x v∧(Nat.blt t gh=true→zjQ x=false→a.tmps[t]? = some v)∧(gb≤t→v=ptr (t-gb) 0)∧(gh≤t→t<20000→v=X.fx (t-gh))
def zeb (r:List Nat) (E:zE τ):Prop:=∀t∈r, ∀x,asc E t=some x→zjq X h ν a t x
end
structure TyOk (X:Cx τ):Prop where
 el:∀p∈X.ty, ∃i z,X.P.info? p.1=some i∧i.zero=some z∧i.size=(ets X.G p.2).length∧z.cells.size=i.size∧0<i.size
 eq:∀t n,asc X.ty t=some (.st n)→(X.G.fs n).all zhn=true→∀(p q:DP τ (X.G.fs n)) (h:Fz) (xs ys:List Value),RpL X.P X.G h (X.G.fs n) p xs→RpL X.P X.G h (X.G.fs n) q ys →
  X.P.eqGuardType X.P.depth t=false∧∀w,(Op.equalIn 10000 t (.agg ⟨xs⟩) (.agg ⟨ys⟩)).run X.P w = .ok (X.G.eq n (X.G.ctor n p) (X.G.ctor n q)) w
theorem zmG {α:Type}:∀{l:List (Nat × α)} {t:Nat} {v:α},asc l t=some v→(t,v)∈l
 | [],_,_,h=>by cases h
 | (k,u)::l,t,v,h=>by
  simp only [zdo,zbX] at h
  by_cases e:Nat.beq k t=true
  ·simp only [e,cond_true,Option.some.injEq] at h
   have:k=t:=by simpa using e
   subst this; subst h;exact List.mem_cons_self ..
  ·simp only [e] at h;exact List.mem_cons_of_mem _ (zmG h)
theorem zgb {α:Type}:∀(l:List α) (n:Nat),ziy l n=l[n]?
 | [],_=>by simp [ziy]
 | _::_,0=>by simp [ziy]
 | _::l,n+1=>by simp [ziy,zgb l n]
theorem zdD (a:Act) (hd:a.defers=[]):∃E,Fits a.tmps.size E a∧∀t,Dk.look E t=a.tmps[t]? := by
 have key:∀(l:List Value) (k t:Nat),Dk.look (params k l) t=if k≤t then l[t-k]? else none:=by
  intro l
  induction l with
  | nil=>intro k t; simp [params,Dk.look]
  | cons v l ih =>
   intro k t;simp only [params,Dk.look]
   by_cases e:k=t
   ·subst e; simp
   ·rw [zbL.2 e,cond_false,ih]
    by_cases h:k≤t
    ·rw [if_pos (by omega),if_pos h,show t-k=(t-(k+1))+1 by omega,List.getElem?_cons_succ]
    ·rw [if_neg (by omega),if_neg h]
 have hl:∀t,Dk.look (params 0 a.tmps.toList) t=a.tmps[t]? := by intro t; rw [key]; simp
 exact ⟨_,⟨hd,rfl,fun t v h=>by rw [← hl]; exact h⟩,hl⟩

section
variable {X:Cx τ} {h:Fz} {ν:Vn τ} {a:Act} {E:zE τ} {w:World}
theorem zeb.op {o:Op} (hE:zeb X h ν a (rdO o) E) {x:Operand} (hx:x∈o.operands.toList):zeb X h ν a (zw2 x) E :=
 fun t ht=>hE t (List.mem_flatMap.2 ⟨x,hx,ht⟩)
theorem zMy {v:Value} {c:CV τ} (e:cvV v=some c):zcT X.P X.G h ν c v:=by
 unfold cvV at e
 split at e
 ·cases e; rfl
 ·cases e; rfl
 ·rename_i n
  by_cases hn:Nat.blt n 256=true
  ·rw [hn] at e; cases e
   have:n<256:=by simpa using hn
   show _=Value.int .u8 _;simp [UInt8.toNat_ofNat',Nat.mod_eq_of_lt this]
  ·simp only [Bool.not_eq_true] at hn; rw [hn] at e; cases e
 ·rename_i n
  by_cases hn:Nat.blt n 65536=true
  ·rw [hn] at e; cases e
   have:n<65536:=by simpa using hn
   show _=Value.int .u16 _;simp [UInt16.toNat_ofNat',Nat.mod_eq_of_lt this]
  ·simp only [Bool.not_eq_true] at hn; rw [hn] at e; cases e
 ·cases e; rfl
 ·cases e; rfl
 ·cases e; rfl
 ·cases e; rfl
 ·cases e; rfl
 ·cases e
theorem zyY:∀{vs:List Value} {cs:List (CV τ)},cvVs vs=some cs→CVs X.P X.G h ν cs vs
 | [],cs,e=>by cases e; rfl
 | v::vs,cs,e=>by
  unfold cvVs at e
  split at e
  ·rename_i c hc
   split at e
   ·rename_i cs' hcs
    cases e;exact ⟨v,vs,rfl,zMy hc,zyY hcs⟩
   ·cases e
  ·cases e
theorem zng {Ea:Env} (hl:∀t,Dk.look Ea t=a.tmps[t]?) {x:Operand} {xv:XV τ} (hE:zeb X h ν a (zw2 x) E) (e:evX E x=some xv) (hg:zjQ xv=false):∃v,evl Ea x=some v∧XOk X.P X.G h ν xv v:=by
 unfold evX at e
 split at e
 ·rename_i t
  by_cases ht:Nat.blt t gh=true
  ·rw [ht] at e;obtain ⟨v,h1,h2,_⟩:=hE t (by simp [zw2,ht]) xv e;exact ⟨v,(hl t).trans (h2 ht hg),h1⟩
  ·simp only [Bool.not_eq_true] at ht; rw [ht] at e; cases e
 ·rename_i v
  split at e
  ·rename_i c hc
   cases e;exact ⟨v,rfl,zMy hc⟩
  ·cases e
 ·cases e;exact ⟨_,rfl,rfl⟩
 ·rename_i g
  obtain ⟨v,h1,_,h2,_⟩:=hE (gb+g) (List.mem_singleton.2 rfl) xv e;rw [h2 (Nat.le_add_right ..),Nat.add_sub_cancel_left] at h1;exact ⟨_,rfl,h1⟩
theorem zrj (hd:a.defers=[]) {x:Operand} {xv:XV τ} (hE:zeb X h ν a (zw2 x) E) (e:evX E x=some xv):XOk X.P X.G h ν xv (a.eval x):=by
 cases hg:zjQ xv with
 | true =>
  cases xv with
  | gv t y=>trivial
  | _=>cases hg
 | false =>
  obtain ⟨Ea,hf,hl⟩:=zdD a hd;obtain ⟨v,h1,h2⟩:=zng hl hE e hg;rw [hf.ev h1];exact h2
theorem zj {Ea:Env} (hl:∀t,Dk.look Ea t=a.tmps[t]?) {x:Operand} {c:CV τ} (hE:zeb X h ν a (zw2 x) E) (e:evC E x=some c):∃v,evl Ea x=some v∧zcT X.P X.G h ν c v:=by
 unfold evC at e
 split at e
 ·rename_i c' hc
  cases e;exact zng hl hE hc rfl
 ·cases e
theorem CVs.len:∀{cs:List (CV τ)} {vs:List Value},CVs X.P X.G h ν cs vs→vs.length=cs.length
 | [],vs,e=>by cases e; rfl
 | _::_,_,⟨v,us,rfl,_,h2⟩=>by simp [CVs.len h2]
theorem CVs.get:∀{cs:List (CV τ)} {vs:List Value} {i:Nat} {c:CV τ},CVs X.P X.G h ν cs vs→cs[i]? = some c→∃v,vs[i]? = some v∧zcT X.P X.G h ν c v
 | [],_,_,_,_,hc=>by simp at hc
 | _::_,_,0,_,⟨v,us,rfl,h1,_⟩,hc=>by simp at hc; subst hc; exact ⟨v,by simp,h1⟩
 | _::_,_,i+1,_,⟨v,us,rfl,_,h2⟩,hc=>by
  simp at hc;obtain ⟨u,h3,h4⟩:=CVs.get h2 hc;exact ⟨u,by simpa using h3,h4⟩
theorem TVs.get:∀{cs:List (Bool × List (CV τ))} {vs:List Value} {i:Nat} {b:Bool} {l:List (CV τ)},TVs X.P X.G h ν cs vs→cs[i]? = some (b,l) →
  ∃v,vs[i]? = some v∧((b=true∧∃ws,v = .agg ⟨ws⟩∧CVs X.P X.G h ν l ws)∨(b=false∧∃c,l=[c]∧zcT X.P X.G h ν c v))
 | [],_,_,_,_,_,hc=>by simp at hc
 | (false,[c])::_,_,0,_,_,⟨v,us,rfl,h1,_⟩,hc=>by simp at hc; obtain ⟨rfl,rfl⟩:=hc; exact ⟨v,by simp, .inr ⟨rfl,c,rfl,h1⟩⟩
 | (true,l)::_,_,0,_,_,⟨ws,us,rfl,h1,_⟩,hc=>by simp at hc; obtain ⟨rfl,rfl⟩:=hc; exact ⟨.agg ⟨ws⟩,by simp, .inl ⟨rfl,ws,rfl,h1⟩⟩
 | (false,[_])::_,_,i+1,_,_,⟨v,us,rfl,_,h2⟩,hc=>by
  simp at hc;obtain ⟨u,h3,h4⟩:=TVs.get h2 hc;exact ⟨u,by simpa using h3,h4⟩
 | (true,_)::_,_,i+1,_,_,⟨ws,us,rfl,_,h2⟩,hc=>by
  simp at hc;obtain ⟨u,h3,h4⟩:=TVs.get h2 hc;exact ⟨u,by simpa using h3,h4⟩
 | (false,[])::_,_,_,_,_,e,_=>e.elim
 | (false,_::_::_)::_,_,_,_,_,e,_=>e.elim
theorem CVs.cut:∀{n o:Nat} {cs l:List (CV τ)} {vs:List Value},CVs X.P X.G h ν cs vs→zuz cs o n=some l→CVs X.P X.G h ν l ((vs.drop o).take n)∧o+n≤vs.length+(if n=0 then o else 0)
 | 0,o,cs,l,vs,hv,e=>by cases e; exact ⟨by simp [CVs],by simp⟩
 | n + 1,o,cs,l,vs,hv,e=>by
  unfold zuz at e
  split at e
  ·rename_i c hc
   split at e
   ·rename_i r hr
    cases e;rw [zgb] at hc;obtain ⟨v,h1,h2⟩:=hv.get hc;obtain ⟨h3,h4⟩:=CVs.cut hv hr;have hlt:o<vs.length:=(List.getElem?_eq_some_iff.1 h1).1;refine ⟨⟨v,_,?_,h2,h3⟩,?_⟩
    ·rw [List.drop_eq_getElem_cons hlt,List.take_succ_cons,(List.getElem?_eq_some_iff.1 h1).2]
    ·split at h4
     ·omega
     ·rw [if_neg (by omega)]; omega
   ·cases e
  ·cases e
theorem zfC {P:Program} {t:TypeId} {n:Nat} (e:szO P t=some n):zkN P t=some n:=by
 unfold szO at e;unfold zkN
 split at e
 ·rename_i i hi; rw [hi]; exact e
 ·cases e
theorem zJE {P:Program} {t i f ft:Nat} (e:zF3 P t i=some (f,ft)):∃fs fd,P.underlying t=some (.struct fs)∧fs[i]? = some fd∧fd.offset=f∧fd.type=ft∧∃n,zkN P ft=some (n+1):=by
 unfold zF3 at e
 split at e
 ·rename_i fs hu
  split at e
  ·rename_i fd hn
   split at e
   ·rename_i n hs
    cases e;rw [zgb] at hn;exact ⟨⟨fs⟩,fd,hu,by simpa using hn,rfl,rfl,n,zfC hs⟩
   ·cases e
  ·cases e
 ·cases e
theorem zyZ:∀{o:Nat} {cs ws cs':List (CV τ)} {us vs:List Value},CVs X.P X.G h ν cs us→CVs X.P X.G h ν ws vs→zvF cs o ws=some cs' →
  o+vs.length≤us.length∧CVs X.P X.G h ν cs' (us.take o++vs++us.drop (o+vs.length))
 | 0,cs,ws,cs',us,vs,hc,hw,e=>by
  unfold zvF at e;have:=go hc hw e;simpa using this
 | o+1,c::cs,ws,cs',_,vs,⟨u,us,rfl,h1,h2⟩,hw,e=>by
  unfold zvF at e
  split at e
  ·rename_i r hr
   cases e;obtain ⟨h3,h4⟩:=zyZ h2 hw hr;refine ⟨by simp; omega,u,_,?_,h1,h4⟩;rw [show o+1+vs.length=(o+vs.length)+1 by omega];simp
  ·cases e
 | o+1,[],ws,cs',us,vs,hc,hw,e=>by simp [zvF] at e
where
 go:∀{cs ws cs':List (CV τ)} {us vs:List Value},CVs X.P X.G h ν cs us→CVs X.P X.G h ν ws vs→zvF.go cs ws=some cs'→vs.length≤us.length∧CVs X.P X.G h ν cs' (vs++us.drop vs.length)
 | cs,[],cs',us,vs,hc,hw,e=>by
  obtain rfl:vs=[]:=hw;simp [zvF.go] at e;subst e;exact ⟨by simp,by simpa using hc⟩
 | c::cs,w::ws,cs',_,_,⟨u,us,rfl,h1,h2⟩,⟨v,vs,rfl,h3,h4⟩,e=>by
  simp only [zvF.go] at e
  split at e
  ·rename_i r hr
   cases e;obtain ⟨h5,h6⟩:=go h2 h4 hr;exact ⟨by simp; omega,v,_,by simp,h3,h6⟩
  ·cases e
 | [],w::ws,cs',us,vs,hc,hw,e=>by simp [zvF.go] at e
theorem zwS {P:Program} {t:TypeId} {b:Bool} (e:isA P t=some b):zDp P t=some b:=by
 unfold isA at e;unfold zDp
 split at e<;>first|(cases e; done)|(rename_i hu; rw [hu]; simpa using e)
end
end Go.Rk
end
section
namespace Go.Rk
open Go.RowKit Go.Dm Go.Dk
variable {τ:Nat→Type}
section
variable {X:Cx τ} {h:Fz} {ν:Vn τ} {a:Act} {E:zE τ} {Ea:Env} {N:Nat} {w:World} {x y:Operand} {dst:Option Nat} {t t' ty:Nat} {p:String} {af:Array Edge} {gd:Option (Nat × Bool)}
theorem lok0:∀{d:Nat} {t:Ty} {c:CV τ} {x:t.den τ} {v:Value} {m:List Nat},zhn t=true→lok X.G [] d t c=some (x,m)→zcT X.P X.G h ν c v→Rp X.P X.G h t x v:=by
 intro d t c x v m hs e hv
 cases d with
 | zero=>cases e
 | succ d =>
  unfold lok at e
  cases t<;>first|(cases hs; done)|(dsimp only at e; split at e<;>first|(cases e; done)|(cases e; cases hv; constructor))
theorem zN7 {d:Nat}:∀{ts:List Ty} {cs:List (CV τ)} {q:DP τ ts} {vs:List Value} {m:List Nat},ts.all zhn=true→zw0 (lok X.G [] d) ts cs=some (q,m)→CVs X.P X.G h ν cs vs→RpL X.P X.G h ts q vs
 | [],[],q,vs,_,_,e,hv=>by cases e; cases hv; exact .nil
 | t::ts,c::cs,q,_,_,hs,e,⟨v,us,rfl,h1,h2⟩=>by
  simp only [List.all_cons,Bool.and_eq_true] at hs;unfold zw0 at e
  split at e
  ·rename_i x m hx
   split at e
   ·rename_i q' m' hq
    cases e;refine .cons t ts _ v us ?_ ?_
    ·rw [DP.hd_mk]; exact lok0 hs.1 hx h1
    ·rw [DP.tl_mk]; exact zN7 hs.2 hq h2
   ·cases e
  ·cases e
 | [],_::_,_,_,_,_,e,_=>by cases e
 | _::_,[],_,_,_,_,e,_=>by cases e
theorem zA3 {o:Option Bool} {v:XV τ} (e:obX o=some v):∃b,o=some b∧v = .c (.b b):=by
 cases o with
 | none=>cases e
 | some b=>cases e; exact ⟨b,rfl,rfl⟩
theorem zFu {o:Option Bool} {v:XV τ} (e:okX o=some v):∃b,o=some b∧v = .c (.k b):=by
 cases o with
 | none=>cases e
 | some b=>cases e; exact ⟨b,rfl,rfl⟩
theorem zN8 {c:CV τ} {v:Value} (e:adC c=true) (hc:zcT X.P X.G h ν c v):∃ad,v = .pointer (some ad):=by
 cases c with
 | ea t z o=>obtain ⟨b,k,vs,rfl,_⟩:=hc; exact ⟨_,rfl⟩
 | oe i k m t z o=>obtain ⟨b,d,n,c,q,xs,u,_,_,_,rfl⟩:=hc; exact ⟨_,rfl⟩
 | _=>cases e
theorem zHz {c:CV τ} {b:Bool} {v:Value} (e:zMW c=some b) (hc:zcT X.P X.G h ν c v):v = .bool b:=by
 cases c with
 | b x=>cases e; exact hc
 | k x=>cases e; exact hc
 | _=>cases e
theorem zPM (hT:TyOk X) (hf:Fits N Ea a) {o:BinOp} {A B v:XV τ} {vx vy:Value} (hx:evl Ea x=some vx) (hy:evl Ea y=some vy) (ca:XOk X.P X.G h ν A vx) (cb:XOk X.P X.G h ν B vy)
  (e:binX X o t' A B=some v):∃u,(∀w,(execOp a.eval ⟨dst, .binOp o t' x y ty,t,p,af,gd⟩).run X.P w = .ok (.value u) w)∧XOk X.P X.G h ν v u:=by
 unfold binX at e
 split at e
 ·obtain rfl:vx=_:=ca;obtain rfl:vy=_:=cb;obtain ⟨b,h1,rfl⟩:=zA3 e
  cases o<;>first|(cases h1; done)|skip
  all_goals cases h1
  ·exact ⟨_,fun w=>zLY hf hx hy,rfl⟩
  ·exact ⟨_,fun w=>zHP hf hx hy,rfl⟩
  ·exact ⟨_,fun w=>zLZ hf hx hy,rfl⟩
  ·exact ⟨_,fun w=>zL1 hf hx hy,rfl⟩
  ·exact ⟨_,fun w=>zL2 hf hx hy,rfl⟩
  ·exact ⟨_,fun w=>zL3 hf hx hy,rfl⟩
 ·obtain rfl:vx=_:=ca;obtain rfl:vy=_:=cb
  split at e
  ·cases e; exact ⟨_,fun w=>zMa hf hx hy,rfl⟩
  ·cases e; exact ⟨_,fun w=>zMb hf hx hy,rfl⟩
  ·obtain ⟨b,h1,rfl⟩:=zA3 e
   cases o<;>first|(cases h1; done)|skip
   all_goals cases h1
   ·exact ⟨_,fun w=>zL4 hf hx hy,rfl⟩
   ·exact ⟨_,fun w=>zL5 hf hx hy,rfl⟩
   ·exact ⟨_,fun w=>zL6 hf hx hy,rfl⟩
   ·exact ⟨_,fun w=>zL7 hf hx hy,rfl⟩
   ·exact ⟨_,fun w=>zL8 hf hx hy,rfl⟩
   ·exact ⟨_,fun w=>zL9 hf hx hy,rfl⟩
 ·obtain rfl:vx=_:=ca;obtain rfl:vy=_:=cb
  split at e
  ·cases e; exact ⟨_,fun w=>zMq hf hx hy,rfl⟩
  ·cases e
   rename_i m n _
   refine ⟨_,fun w=>zHP hf hx hy,?_⟩;show Value.bool _ = .bool _
   have:((m.toNat:Int)==(n.toNat:Int))=(m==n):=by
    rw [Bool.eq_iff_iff];simp only [beq_iff_eq];exact ⟨fun e=>UInt16.toNat_inj.1 (by omega),fun e=>by rw [e]⟩
   rw [this]
  ·cases e
 ·obtain rfl:vx=_:=ca;obtain rfl:vy=_:=cb;obtain ⟨b,h1,rfl⟩:=zA3 e
  cases o<;>first|(cases h1; done)|skip
  all_goals cases h1
  ·exact ⟨_,fun w=>zFT hf hx hy,rfl⟩
  ·exact ⟨_,fun w=>zFU hf hx hy,rfl⟩
  ·exact ⟨_,fun w=>zMg hf hx hy,rfl⟩
  ·exact ⟨_,fun w=>zMh hf hx hy,rfl⟩
  ·exact ⟨_,fun w=>zMi hf hx hy,rfl⟩
  ·exact ⟨_,fun w=>zMj hf hx hy,rfl⟩
 ·obtain rfl:vx=_:=ca;obtain rfl:vy=_:=cb
  split at e
  ·rename_i hu
   obtain ⟨b,h1,rfl⟩:=zFu e
   cases o<;>first|(cases h1; done)|skip
   all_goals cases h1
   ·exact ⟨_,fun w=>zCK hu hf hx hy,rfl⟩
   ·exact ⟨_,fun w=>zCL hu hf hx hy,rfl⟩
  ·cases e
 ·obtain rfl:vy=_:=cb
  split at e
  ·rename_i hu
   cases ha:adC (τ:=τ) ‹_› with
   | false=>rw [ha] at e; cases e
   | true =>
    rw [ha] at e;obtain ⟨ad,rfl⟩:=zN8 ha ca;obtain ⟨b,h1,rfl⟩:=zFu e
    cases o<;>first|(cases h1; done)|skip
    all_goals cases h1
    ·exact ⟨_,fun w=>zCI hu hf hx hy,rfl⟩
    ·exact ⟨_,fun w=>zCJ hu hf hx hy,rfl⟩
  ·cases e
 ·split at e
  ·rename_i hb
   split at e
   ·rename_i hb'
    split at e
    ·rename_i hu
     obtain rfl:=zHz hb ca;obtain rfl:=zHz hb' cb;obtain ⟨b,h1,rfl⟩:=zA3 e
     cases o<;>first|(cases h1; done)|skip
     all_goals cases h1
     ·exact ⟨_,fun w=>zMc hu hf hx hy,rfl⟩
     ·exact ⟨_,fun w=>zMd hu hf hx hy,rfl⟩
    ·cases e
   ·cases e
  ·cases e
 ·split at e
  ·rename_i n hn
   cases hs:(X.G.fs n).all zhn with
   | false=>rw [hs] at e; cases e
   | true =>
    rw [hs] at e;dsimp only [cond_true] at e
    split at e
    ·rename_i q hq
     split at e
     ·rename_i q' hq'
      obtain ⟨xs,rfl,ha⟩:=ca;obtain ⟨ys,rfl,hb⟩:=cb;obtain ⟨h1,h2⟩:=hT.eq t' n hn hs q q' h xs ys (zN7 hs hq ha) (zN7 hs hq' hb);obtain ⟨b,h3,rfl⟩:=zA3 e
      cases o<;>first|(cases h3; done)|skip
      all_goals cases h3
      ·exact ⟨_,fun w=>zMe h1 h2 hf hx hy,rfl⟩
      ·exact ⟨_,fun w=>zMf h1 h2 hf hx hy,rfl⟩
     ·cases e
    ·cases e
  ·cases e
 ·cases e
theorem zPN {o:BinOp} {A B v:XV τ} (e:binX X o t A B=some v):zjQ A=false∧zjQ B=false:=by
 unfold binX at e
 split at e<;>first|exact ⟨rfl,rfl⟩|cases e
theorem zN9 (hf:Fits N Ea a) {c:CV τ} {v:XV τ} {vx:Value} (hx:evl Ea x=some vx) (ca:zcT X.P X.G h ν c vx) {s:Nat} (hw:h.on w)
  (e:zMZ X.P s t' c=some v):∃u,(execOp a.eval ⟨dst, .convert s t' x,t,p,af,gd⟩).run X.P w = .ok (.value u) w∧XOk X.P X.G h ν v u:=by
 unfold zMZ at e
 split at e
 ·obtain rfl:vx=_:=ca
  split at e
  ·rename_i hd
   split at e
   ·rename_i hs
    cases e;exact ⟨_,zwO hd hs (zMo _) hf hx,rfl⟩
   ·cases e
  ·cases e
 ·obtain rfl:vx=_:=ca
  split at e
  ·rename_i hd
   split at e
   ·rename_i hs
    cases e;exact ⟨_,zwO hd hs (zOJ _) hf hx,rfl⟩
   ·cases e
  ·cases e
 ·obtain rfl:vx=_:=ca
  split at e
  ·rename_i hd
   split at e
   ·rename_i hs
    cases e;exact ⟨_,zKu hd hs hf hx,rfl⟩
   ·cases e
  ·cases e
 ·obtain rfl:vx=_:=ca
  split at e
  ·rename_i hd
   split at e
   ·rename_i hs
    cases e;exact ⟨_,zKv hd hs hf hx,rfl⟩
   ·cases e
  ·cases e
 ·split at e
  ·rename_i hd
   split at e
   ·rename_i e' hs
    split at e
    ·rename_i he
     cases e;obtain ⟨ad,k,vs,hvx,hsees,hc⟩:=slU8 ca;subst hvx;exact ⟨_,zAX (en:=fun b=>[zcV b]) (fun _=>rfl) hd hs he (hsees.sees hw) hf hx,rfl⟩
    ·cases e
   ·cases e
  ·cases e
 ·cases e
where
 slU8 {l:List UInt8} {v:Value} (hv:Rp X.P X.G h (.sl .u8) l v):∃ad k vs,v = .slice ad l.length k∧zpp h ad (cells (fun b=>[zcV b]) l)∧vs=():=by
  cases hv with
  | sl e xs ad c vs hc hs hr =>
   refine ⟨ad,c,(),rfl,?_,rfl⟩
   suffices vs=cells (fun b=>[zcV b]) l by rw [← this]; exact hs
   clear hs hc
   induction l generalizing vs with
   | nil=>cases hr; rfl
   | cons b l ih =>
    cases hr with
    | cons _ _ _ us ws h1 h2 =>
     have h3:=ih _ h2
     cases h1 with
     | cons _ _ _ v vs h4 h5 =>
      cases h5;cases h4;subst h3;rfl
theorem zcT.one {c:CV τ} {v:Value} (hv:zcT X.P X.G h ν c v):v.oneCell'=true∧v.cells = #[v]:=by
 cases c with
 | sl e xs=>cases hv; exact ⟨rfl,rfl⟩
 | os i=>obtain ⟨ad,n,c,q,_,rfl⟩:=hv; exact ⟨rfl,rfl⟩
 | pt i o=>obtain ⟨u,q,_,rfl,_⟩:=hv; cases u<;>exact ⟨rfl,rfl⟩
 | ea t z o=>obtain ⟨b,k,vs,rfl,_⟩:=hv; exact ⟨rfl,rfl⟩
 | oe i k m t z o=>obtain ⟨b,d,n,c,q,xs,u',_,_,_,rfl⟩:=hv; exact ⟨rfl,rfl⟩
 | mf f=>cases hv; exact ⟨rfl,rfl⟩
 | mv f i=>obtain ⟨u,q,_,rfl⟩:=hv; exact ⟨rfl,rfl⟩
 | mp i=>obtain ⟨b,q,_,rfl⟩:=hv; exact ⟨rfl,rfl⟩
 | fm m=>cases hv; exact ⟨rfl,rfl⟩
 | cf i=>obtain ⟨f,us,vs,q,_,rfl⟩:=hv; exact ⟨rfl,rfl⟩
 | ep n x =>
  cases hv with
  | pn0=>exact ⟨rfl,rfl⟩
  | pn1 _ x v hr=>cases hr; exact ⟨rfl,rfl⟩
 | bad=>exact hv.elim
 | _=>cases hv; exact ⟨rfl,rfl⟩
theorem CVs.one:∀{cs:List (CV τ)} {vs:List Value},CVs X.P X.G h ν cs vs→∀v∈vs,v.oneCell'=true
 | [],vs,e,v,hv=>by cases e; cases hv
 | c::cs,_,⟨u,us,rfl,h1,h2⟩,v,hv=>by
  rcases List.mem_cons.1 hv with rfl|hv
  ·exact h1.one.1
  ·exact CVs.one h2 v hv
theorem ztB {v:XV τ} {cs:List (CV τ)} {u:Value} (e:zse v=some cs) (hv:XOk X.P X.G h ν v u):∃us,u.cells=⟨us⟩∧CVs X.P X.G h ν cs us∧zjQ v=false:=by
 unfold zse at e
 split at e
 ·rename_i c
  cases e;have hv:zcT X.P X.G h ν c u:=hv;exact ⟨[u],hv.one.2,⟨u,[],rfl,hv,rfl⟩,rfl⟩
 ·rename_i l
  cases e;obtain ⟨vs,rfl,hc⟩:=hv;exact ⟨vs,rfl,hc,rfl⟩
 ·cases e
theorem zs7:∀(vs us:List Value) (o k:Nat),o+k+vs.length≤us.length→((vs.zipIdx k).foldl (fun cs (q:Value × Nat)=>cs.setIfInBounds (o+q.2) q.1) us.toArray)=(us.take (o+k)++vs++us.drop (o+k+vs.length)).toArray
 | [],us,o,k,_=>by simp
 | v::vs,us,o,k,hl=>by
  simp only [List.zipIdx_cons,List.foldl_cons,List.length_cons] at hl ⊢
  have h1:us.toArray.setIfInBounds (o+k) v=(us.set (o+k) v).toArray:=by simp
  rw [h1,zs7 vs (us.set (o+k) v) o (k+1) (by simp; omega)]
  have hA:(us.take (o+k)).length=o+k:=by rw [List.length_take]; omega
  have h2:us.set (o+k) v=(us.take (o+k)++[v])++us.drop (o+k+1):=by rw [List.set_eq_take_append_cons_drop,if_pos (by omega)]; simp
  have h3:(us.take (o+k)++[v]).length=o+(k+1):=by simp [hA]; omega
  rw [h2,List.take_append_of_le_length (by omega),List.take_of_length_le (by omega),List.drop_append,List.drop_eq_nil_of_le (by omega),h3,List.drop_drop];simp only [List.append_assoc,List.nil_append,List.cons_append];rw [show o+k+1+(o+(k+1)+vs.length-(o+(k+1)))=o+k+(vs.length+1) by omega]
theorem zC3 {pl:Nat→Option (Nat × Nat)} (hd:a.defers=[]):∀{ps:List (Nat × Operand)} {cs cs':List (CV τ)} {us:List Value},zzF pl E ps cs=some cs'→(∀q∈ps,zeb X h ν a (zw2 q.2) E)→CVs X.P X.G h ν cs us →
  ∃us',Instr.fill pl us.toArray (ps.map fun q=>(q.1,a.eval q.2))=some us'.toArray∧CVs X.P X.G h ν cs' us'
 | [],cs,cs',us,e,_,hc=>by cases e; exact ⟨us,rfl,hc⟩
 | (i,x)::ps,cs,cs',us,e,hE,hc=>by
  unfold zzF at e
  split at e
  ·rename_i o s hpl
   split at e
   ·rename_i v hv
    split at e
    ·rename_i vs hvs
     cases hb:Nat.beq vs.length s with
     | false=>rw [hb] at e; cases e
     | true =>
      rw [hb] at e;dsimp only [cond_true] at e
      split at e
      ·rename_i cs2 hp
       obtain ⟨ws,h1,h2,_⟩:=ztB hvs (zrj hd (hE _ (List.mem_cons_self ..)) hv);obtain ⟨h3,h4⟩:=zyZ hc h2 hp;obtain ⟨us',h5,h6⟩:=zC3 hd e (fun q hq=>hE q (List.mem_cons_of_mem _ hq)) h4;refine ⟨us',?_,h6⟩
       have hs:vs.length=s:=by simpa using hb
       have hl:=h2.len;have h7:=zs7 ws us o 0 (by omega);simp only [Nat.add_zero] at h7;simp only [List.map_cons,Instr.fill,hpl,h1];rw [if_neg (by simp; omega)]
       have h8:(Array.zipIdx ⟨ws⟩).foldl (fun cs (q:Value × Nat)=>cs.setIfInBounds (o+q.2) q.1) us.toArray=(ws.zipIdx).foldl (fun cs (q:Value × Nat)=>cs.setIfInBounds (o+q.2) q.1) us.toArray:=by
        rw [← Array.foldl_toList]; simp
       refine Eq.trans (congrArg (fun z=>Instr.fill pl z _) (h8.trans h7)) h5
      ·cases e
    ·cases e
   ·cases e
  ·cases e
theorem zA4 {P:Program}:∀{fs:List Field} {l:List (Nat × Nat)},zy3 P fs=some l→fs.mapM (fun f=>(P.info? f.type).map fun i=>(f.offset,i.size))=some l
 | [],l,e=>by cases e; rfl
 | f :: fs,l,e=>by
  unfold zy3 at e
  split at e
  ·rename_i s hs
   split at e
   ·rename_i r hr
    cases e;have h1:=zfC hs;unfold zkN at h1
    cases hi:P.info? f.type with
    | none=>rw [hi] at h1; cases h1
    | some i =>
     rw [hi] at h1;cases h1;simp [List.mapM_cons,hi,zA4 hr]
   ·cases e
  ·cases e
theorem zA5 {P:Program} {t:TypeId} {cs:List (CV τ)} (e:zzE P t=some cs):∃it z,P.info? t=some it∧it.zero=some z∧cvVs z.cells.toList=some cs:=by
 unfold zzE at e
 split at e
 ·rename_i it hi
  split at e
  ·rename_i z hz
   exact ⟨it,z,hi,hz,e⟩
  ·cases e
 ·cases e
theorem zOa (hd:a.defers=[]) {z cs:List (CV τ)} {pl:Nat→Option (Nat × Nat)} {ps:List (Nat × Operand)} (hz:zzE X.P t'=some z) (hp:zId X.P t'=some pl) (e:zzF pl E ps z=some cs)
  (hE:∀q∈ps,zeb X h ν a (zw2 q.2) E):∃u,(∀w,(execOp a.eval ⟨dst, .build t' ⟨ps⟩,t,p,af,gd⟩).run X.P w = .ok (.value u) w)∧XOk X.P X.G h ν (.g cs) u:=by
 obtain ⟨it,z0,hi,hz0,hc⟩:=zA5 hz;obtain ⟨us,h1,h2⟩:=zC3 hd e hE (zyY hc)
 have h3:z0.cells.toList.toArray=z0.cells:=by simp
 rw [h3] at h1;refine ⟨.agg ⟨us⟩,fun w=>?_,us,rfl,h2⟩
 have hb:X.P.built t' ((ps.map fun q=>(q.1,a.eval q.2)).toArray).toList=some us.toArray:=by
  unfold zId at hp
  split at hp
  ·rename_i n e' hu
   split at hp
   ·rename_i s hs
    cases hp;have h4:=zfC hs;unfold zkN at h4
    cases hie:X.P.info? e' with
    | none=>rw [hie] at h4; cases h4
    | some ie =>
     rw [hie] at h4;cases h4;simpa [Program.built,hi,hu,hz0,hie] using h1
   ·cases hp
  ·rename_i fs hu
   split at hp
   ·rename_i l hl
    cases hp
    have h5:(l.toArray[·]?)=ziy l:=funext fun i=>by rw [zgb]; simp
    simp only [Program.built,hi,hu,hz0,zA4 hl];rw [h5];exact h1
   ·cases hp
  ·cases hp
 have:=run_build w t' _ _ hb;simp only [execOp]
 have h6:(Array.map (fun (q:Nat × Operand)=>(q.1,a.eval q.2)) ⟨ps⟩)=(ps.map fun q=>(q.1,a.eval q.2)).toArray:=by simp
 have h7:(Array.map (fun x=>match x with|(i,x)=>(i,a.eval x)) (⟨ps⟩:Array (Nat × Operand)))=(ps.map fun q=>(q.1,a.eval q.2)).toArray:=h6
 first
 | (rw [h7]; simp only [Sem.run_bind,this,Result.andThen,Sem.run_pure])
 | (simp only [Sem.run_bind,this,Result.andThen,Sem.run_pure])
theorem zs8 {P:Program} {i f ft b o:Nat} (e:zF3 P t i=some (f,ft)):(Instr.fieldAt t (ptr b o) i).run P w = .ok (ptr b (o+f)) w:=by
 obtain ⟨fs,fd,hu,hf,rfl,rfl,n,hs⟩:=zJE e
 have hadd:(⟨b,o,none⟩:Addr).add fd.offset=⟨b,o+fd.offset,none⟩:=by unfold Addr.add; split<;>simp_all
 simp [Instr.fieldAt,run_underlying hu,hf,Instr.sureAddr,fieldPlace,zcS hs,hadd,Result.andThen]
theorem zOb {i f ft:Nat} {cs:List (CV τ)} {vx:Value} {v:XV τ} (hx:XOk X.P X.G h ν (.g cs) vx) (e:zF3 X.P t i=some (f,ft))
  (hv : (match isA X.P ft with
    | some true=>match szO X.P ft with
     | some s=>match zuz cs f s with
      | some l=>some (XV.g l)
      | none=>none
     | none=>none
    | some false=>match ziy cs f with
     | some c=>some (.c c)
     | none=>none
    | none=>none)=some v):∃u,(∀w,(Instr.field t vx i).run X.P w = .ok u w)∧XOk X.P X.G h ν v u:=by
 obtain ⟨fs,fd,hu,hf,rfl,rfl,n,hs⟩:=zJE e;obtain ⟨us,rfl,hc⟩:=hx
 split at hv
 ·rename_i ha
  split at hv
  ·rename_i s hs'
   split at hv
   ·rename_i l hl
    cases hv;obtain ⟨h1,h2⟩:=hc.cut hl;refine ⟨.agg ⟨_⟩,fun w=>?_,_,rfl,h1⟩;simp [Instr.field,run_underlying hu,hf,asAgg,part,ztu (zwS ha),zcS (zfC hs'),Result.andThen,List.extract_eq_take_drop]
   ·cases hv
  ·cases hv
 ·rename_i ha
  split at hv
  ·rename_i c hn
   cases hv;rw [zgb] at hn;obtain ⟨u,h1,h2⟩:=hc.get hn;refine ⟨u,fun w=>?_,h2⟩;simp [Instr.field,run_underlying hu,hf,asAgg,part,ztu (zwS ha),h1,Result.andThen]
  ·cases hv
 ·cases hv
theorem zKg {c:CV τ} {vx:Value} (ha:adC c=true) (hc:zcT X.P X.G h ν c vx) {f:Nat}:(∃b o,vx=ptr b o)∧(∀b o,vx=ptr b o→∀c',(match c with
      | .ea t z o=>some (.ea t z (o+f))
      | .oe id k m t z o=>some (.oe id k m t z (o+f))
      | _=>none)=some c'→zcT X.P X.G h ν c' (ptr b (o+f))):=by
  cases c with
  | ea t z o =>
    obtain ⟨b,k,vs,rfl,h1,h2⟩:=hc;refine ⟨⟨b,k+o,rfl⟩,fun b' o' e c' e'=>?_⟩;cases e; cases e';exact ⟨b,k,vs,by rw [Nat.add_assoc],h1,h2⟩
  | oe i k m t z o =>
    obtain ⟨b,d,n,c,q,xs,u,h1,h2,h3,rfl⟩:=hc;refine ⟨⟨b,_,rfl⟩,fun b' o' e c' e'=>?_⟩;cases e; cases e';exact ⟨b,d,n,c,q,xs,u,h1,h2,h3,by rw [Nat.add_assoc]⟩
  | _=>cases ha
theorem opP_ok (hT:TyOk X) {o:Oper} (hd:a.defers=[]) (hw:h.on w) (hE:zeb X h ν a (rdO o.op) E) {v:XV τ} (e:opP X E o.op=some v) :
  ∃u,(execOp a.eval o).run X.P w = .ok (.value u) w∧XOk X.P X.G h ν v u:=by
 obtain ⟨Ea,hf,hl⟩:=zdD a hd;obtain ⟨dst,op,t,p,af,gd⟩:=o;dsimp only at e hE;unfold opP at e
 split at e
 ·exact ⟨_,by simp [execOp],zrj hd (hE.op (by simp [Op.operands])) e⟩
 ·exact ⟨_,by simp [execOp],zrj hd (hE.op (by simp [Op.operands])) e⟩
 ·split at e
  ·rename_i hc
   obtain ⟨u,h1,h2⟩:=zj hl (hE.op (by simp [Op.operands])) hc;refine ⟨_,?_,zrj hd (hE.op (by simp [Op.operands])) e⟩;simp only [execOp]; rw [hf.ev h1,show u=_ from h2]; simp [asBool]
  ·rename_i hc
   obtain ⟨u,h1,h2⟩:=zj hl (hE.op (by simp [Op.operands])) hc;refine ⟨_,?_,zrj hd (hE.op (by simp [Op.operands])) e⟩;simp only [execOp]; rw [hf.ev h1,show u=_ from h2]; simp [asBool]
  ·cases e
 ·split at e
  ·rename_i hc
   obtain ⟨u,h1,h2⟩:=zj hl (hE.op (by simp [Op.operands])) hc;obtain rfl:u=_:=h2;cases e;exact ⟨_,zHO hf h1,rfl⟩
  ·rename_i hc
   obtain ⟨u,h1,h2⟩:=zj hl (hE.op (by simp [Op.operands])) hc;obtain rfl:u=_:=h2;cases e;exact ⟨_,zHO hf h1,rfl⟩
  ·cases e
 ·split at e
  ·rename_i l hx
   obtain ⟨u,h1,h2⟩:=zng hl (hE.op (by simp [Op.operands])) hx rfl;obtain ⟨vs,rfl,h3⟩:=h2
   split at e
   ·rename_i c hc
    cases e;rw [zgb] at hc;obtain ⟨v,h4,⟨h5,_⟩|⟨_,c',e',h5⟩⟩:=h3.get hc
    ·cases h5
    ·cases e';exact ⟨v,zur hf h1 (by simpa using h4),h5⟩
   ·rename_i cs hc
    cases e;rw [zgb] at hc;obtain ⟨v,h4,⟨_,ws,rfl,h5⟩|⟨h5,_⟩⟩:=h3.get hc
    ·exact ⟨_,zur hf h1 (by simpa using h4),ws,rfl,h5⟩
    ·cases h5
   ·cases e
  ·cases e
 ·split at e
  ·rename_i c hc
   cases ha:adC c with
   | false=>rw [ha] at e; cases e
   | true =>
    rw [ha] at e;cases e;obtain ⟨u,h1,h2⟩:=zj hl (hE.op (by simp [Op.operands])) hc;obtain ⟨ad,rfl⟩:=zN8 ha h2;exact ⟨_,zr1 hf h1,h2⟩
  ·cases e
 ·split at e
  ·rename_i f ft hfl
   split at e
   ·rename_i t z o hc
    cases e;obtain ⟨u,h1,h2⟩:=zj hl (hE.op (by simp [Op.operands])) hc;obtain ⟨⟨b,k,rfl⟩,h3⟩:=zKg (f:=f) rfl h2;refine ⟨ptr b (k+f),?_,h3 _ _ rfl _ rfl⟩;simp only [execOp]; rw [hf.ev h1]; simp [zs8 hfl,Result.andThen]
   ·rename_i hc
    cases e;obtain ⟨u,h1,h2⟩:=zj hl (hE.op (by simp [Op.operands])) hc;obtain ⟨⟨b,k,rfl⟩,h3⟩:=zKg (f:=f) rfl h2;refine ⟨ptr b (k+f),?_,h3 _ _ rfl _ rfl⟩;simp only [execOp]; rw [hf.ev h1]; simp [zs8 hfl,Result.andThen]
   ·cases e
  ·cases e
 ·split at e
  ·rename_i f ft hfl
   split at e
   ·rename_i cs hx
    obtain ⟨u,h1,h2⟩:=zng hl (hE.op (by simp [Op.operands])) hx rfl;obtain ⟨r,h3,h4⟩:=zOb h2 hfl e;exact ⟨r,zLd hf h1 (h3 w),h4⟩
   ·cases e
  ·cases e
 ·split at e
  ·rename_i A hA
   split at e
   ·rename_i B hB
    obtain ⟨hgA,hgB⟩:=zPN e;obtain ⟨vx,h1,h2⟩:=zng hl (hE.op (by simp [Op.operands])) hA hgA;obtain ⟨vy,h3,h4⟩:=zng hl (hE.op (by simp [Op.operands])) hB hgB;obtain ⟨u,h5,h6⟩:=zPM hT hf h1 h3 h2 h4 e;exact ⟨u,h5 w,h6⟩
   ·cases e
  ·cases e
 ·split at e
  ·rename_i c hc
   obtain ⟨vx,h1,h2⟩:=zj hl (hE.op (by simp [Op.operands])) hc;exact zN9 hf h1 h2 hw e
  ·cases e
 ·split at e
  ·rename_i z hz
   split at e
   ·rename_i pl hp
    split at e
    ·rename_i cs hc
     cases e;obtain ⟨u,h1,h2⟩:=zOa (dst:=dst) (t:=t) (p:=p) (af:=af) (gd:=gd) hd hz hp hc fun q hq=>hE.op (by simp only [Op.operands,List.toList_toArray,List.mem_map]; exact ⟨q,hq,rfl⟩);exact ⟨u,h1 w,h2⟩
    ·cases e
   ·cases e
  ·cases e
 ·split at e
  ·rename_i hc
   obtain ⟨vx,h1,h2⟩:=zj hl (hE.op (by simp [Op.operands,Call.operands])) hc;obtain rfl:vx=_:=h2
   split at e
   ·rename_i hu
    cases e;exact ⟨_,zFV hu hf h1,rfl⟩
   ·cases e
  ·rename_i hc
   obtain ⟨vx,h1,h2⟩:=zj hl (hE.op (by simp [Op.operands,Call.operands])) hc
   split at e
   ·rename_i hu
    cases e;cases h2;exact ⟨_,zpe hu hf h1,rfl⟩
   ·cases e
  ·rename_i hc
   obtain ⟨vx,h1,h2⟩:=zj hl (hE.op (by simp [Op.operands,Call.operands])) hc;obtain rfl:vx=_:=h2
   split at e
   ·rename_i hu
    cases e;exact ⟨_,zpe hu hf h1,rfl⟩
   ·cases e
  ·cases e
 ·split at e
  ·rename_i hc
   obtain ⟨vx,h1,h2⟩:=zj hl (hE.op (by simp [Op.operands,Call.operands])) hc;obtain rfl:vx=_:=h2
   split at e
   ·rename_i hc'
    obtain ⟨vy,h3,h4⟩:=zj hl (hE.op (by simp [Op.operands,Call.operands])) hc';obtain rfl:vy=_:=h4;cases e;exact ⟨_,ex_min hf h1 h3,rfl⟩
   ·cases e
  ·cases e
 ·split at e
  ·rename_i hc
   obtain ⟨vx,h1,h2⟩:=zj hl (hE.op (by simp [Op.operands,Call.operands])) hc;obtain rfl:vx=_:=h2
   split at e
   ·rename_i hc'
    obtain ⟨vy,h3,h4⟩:=zj hl (hE.op (by simp [Op.operands,Call.operands])) hc';obtain rfl:vy=_:=h4;cases e;exact ⟨_,ex_max hf h1 h3,rfl⟩
   ·cases e
  ·cases e
 ·cases e
end
end Go.Rk
end
section
namespace Go.Rk
open Go.RowKit Go.Dm Go.Dk
variable {τ:Nat→Type}

open Classical in
noncomputable def zrt (h:Fz) (w:World) (bs:List Nat):Fz:=fun b=>if b∈bs then w.heap[b]? else h b
section
variable {P:Program} {G:Sig τ} {w0 w w':World} {h0 h h' H:Fz} {F:List Nat} {L L' L2:Hp τ} {ν ν':Vn τ} {φ φ':Nat→List Nat}
theorem Fz.le.refl (h:Fz):h.le h:=fun _ _ e=>e
theorem Fz.le.trans {h h' h'':Fz} (a:h.le h') (b:h'.le h''):h.le h'':=fun _ _ e=>b _ _ (a _ _ e)
theorem Vn.le.refl (ν:Vn τ):ν.le ν:=fun _ _ e=>e
theorem Vn.le.trans {ν ν' ν'':Vn τ} (a:ν.le ν') (b:ν'.le ν''):ν.le ν'':=fun _ _ e=>b _ _ (a _ _ e)
theorem zqE {bs:List Nat} {b:Nat} (hb:b∈bs):zrt h w bs b=w.heap[b]? := by simp [zrt,hb]
theorem zkq {bs:List Nat} {b:Nat} (hb:b∉bs):zrt h w bs b=h b:=by simp [zrt,hb]
theorem zvB {bs:List Nat} (hw:h.on w):(zrt h w bs).on w:=by
 intro b o e
 by_cases hb:b∈bs
 ·rwa [zqE hb] at e
 ·rw [zkq hb] at e; exact hw _ _ e
theorem Mem.lend_le (M:Mem P G w0 h0 F L w ν h φ) (ids:List Nat):h.le (zrt h w (fps φ ids)):=by
 intro b o e
 by_cases hb:b∈fps φ ids
 ·obtain ⟨i,_,hi⟩:=mem_fps.1 hb;rw [(M.out i b hi).1] at e; cases e
 ·rw [zkq hb]; exact e
theorem zfj (φ:Nat→List Nat) (l m:List Nat):fps φ (l++m)=fps φ l++fps φ m:=by simp [fps]
theorem zdd (φ:Nat→List Nat) (i:Nat) (m:List Nat):fps φ (i::m)=φ i++fps φ m:=by simp [fps]

theorem zwV {te:TypeId} {e:Ty} {xs:List (e.den τ)} {v:Value} {vs:List Value} (hH:h.le H) (ho:zgV G w te (ets G e).length v xs.length vs) (hr:RpR P G h e xs vs) (hb:∀b∈v.ownBlock.toList,H b=w.heap[b]?):Rp P G H (.sl e) xs v:=by
 obtain ⟨hl,⟨rfl,hn⟩|⟨g,d,cap,cur,rfl,_,hg,hc,_,hs,ht⟩⟩:=ho
 ·rw [hn] at hl;have:vs=[]:=List.eq_nil_of_length_eq_zero (by simpa using hl);have hxs:xs=[]:=List.eq_nil_of_length_eq_zero hn;subst this; subst hxs;exact .sl e [] none 0 [] (Nat.le_refl _) (.inl rfl) (.nil _)
 ·refine .sl e xs _ cap vs hc (.inr ⟨g,_,cur,te,(0,0),rfl,?_,?_⟩) (hr.le hH)
  ·rw [hb g (by simp [Value.ownBlock])]; exact hg
  ·intro k v hk;rw [← ht,List.getElem?_take] at hk
   split at hk
   ·rw [List.getElem?_drop] at hk; simpa using hk
   ·cases hk

theorem RpL.len:∀{ts:List Ty} {q:DP τ ts} {vs:List Value},RpL P G h ts q vs→vs.length=ts.length
 | _,_,_, .nil=>rfl
 | _,_,_, .cons _ _ _ _ _ _ h2=>by simp [RpL.len h2]
theorem RpR.len:∀{e:Ty} {xs:List (e.den τ)} {vs:List Value},RpR P G h e xs vs→vs.length=xs.length*(ets G e).length
 | _,_,_, .nil _=>by simp
 | _,_,_, .cons e x xs vs ws h1 h2=>by simp [RpR.len h2,h1.len,Nat.add_mul]; omega
theorem RpR.drop:∀{e:Ty} {xs:List (e.den τ)} {vs:List Value},RpR P G h e xs vs→∀(i:Nat),RpR P G h e (xs.drop i) (vs.drop (i*(ets G e).length))
 | _,_,_, .nil e,i=>by simp; exact .nil e
 | _,_,_, .cons e x xs vs ws h1 h2,0=>by simp; exact .cons e x xs vs ws h1 h2
 | _,_,_, .cons e x xs vs ws h1 h2,i+1=>by
  have hl:=h1.len;have e1:vs.drop (i*(ets G e).length+(ets G e).length)=[]:=List.drop_eq_nil_of_le (by omega);rw [List.drop_succ_cons,Nat.add_mul,Nat.one_mul,List.drop_append,e1,List.nil_append,hl,Nat.add_sub_cancel];exact h2.drop i
theorem RpR.take:∀{e:Ty} {xs:List (e.den τ)} {vs:List Value},RpR P G h e xs vs→∀(i:Nat),RpR P G h e (xs.take i) (vs.take (i*(ets G e).length))
 | _,_,_, .nil e,i=>by simp; exact .nil e
 | _,_,_, .cons e x xs vs ws h1 h2,0=>by simp; exact .nil e
 | _,_,_, .cons e x xs vs ws h1 h2,i+1=>by
  have hl:=h1.len;have e1:vs.take (i*(ets G e).length+(ets G e).length)=vs:=List.take_of_length_le (by omega);rw [List.take_succ_cons,Nat.add_mul,Nat.one_mul,List.take_append,e1,hl,Nat.add_sub_cancel];exact .cons e x _ vs _ h1 (h2.take i)
theorem zpp.part {ad:Option Addr} {vs us:List Value} {k:Nat} (hs:zpp h ad vs) (hu:∀j v,us[j]? = some v→vs[k+j]? = some v):zpp h (ad.map (·.add k)) us:=by
 rcases hs with rfl|⟨b,o,c,e,z,rfl,h1,h2⟩
 ·left
  apply List.eq_nil_iff_forall_not_mem.2
  intro v hv;obtain ⟨j,hj⟩:=List.mem_iff_getElem?.1 hv;have:=hu j v hj;simp at this
 ·have hadd:(⟨b,o,none⟩:Addr).add k=⟨b,o+k,none⟩:=by unfold Addr.add; split<;>simp_all
  refine .inr ⟨b,o+k,c,e,z,by simp [hadd],h1,fun j v hj=>?_⟩;rw [Nat.add_assoc]; exact h2 _ _ (hu j v hj)
theorem zMH {e:Ty} {xs:List (e.den τ)} {ad:Option Addr} {n c i j:Nat} (hr:Rp P G h (.sl e) xs (.slice ad n c)) (hij:i≤j) (hj:j≤xs.length):n=xs.length∧xs.length≤c ∧
  Rp P G h (.sl e) ((xs.take j).drop i) (.slice (if c=i then ad else ad.map (·.add (i*(ets G e).length))) (j-i) (c-i)):=by
 cases hr with
 | sl _ _ _ _ vs hc hs hrr =>
  refine ⟨rfl,hc,?_⟩
  have hlen:((xs.take j).drop i).length=j-i:=by rw [List.length_drop,List.length_take]; omega
  rw [← hlen]
  have hcell:∀k v,((vs.take (j*(ets G e).length)).drop (i*(ets G e).length))[k]? = some v→vs[i*(ets G e).length+k]? = some v:=by
   intro k v hk;rw [List.getElem?_drop,List.getElem?_take] at hk
   split at hk
   ·exact hk
   ·cases hk
  refine .sl e _ _ _ ((vs.take (j*(ets G e).length)).drop (i*(ets G e).length)) (by rw [hlen]; omega) ?_ ((hrr.take j).drop i)
  by_cases hci:c=i
  ·rw [if_pos hci]
   left
   have h1:=((hrr.take j).drop i).len;rw [hlen,show j-i=0 by omega,Nat.zero_mul] at h1;exact List.eq_nil_of_length_eq_zero h1
  ·rw [if_neg hci]; exact hs.part hcell
theorem vw_rp {e:Ty} {xs ys:List (e.den τ)} {a a':Option Addr} {n c c' lo:Nat} (hr:Rp P G H (.sl e) ys (.slice a n c)) (h1:lo+xs.length≤ys.length) (h2:xs=(ys.take (lo+xs.length)).drop lo) (h3:xs.length≤c') (h4:xs≠[]→a'=a.map (·.add (lo*(ets G e).length))):Rp P G H (.sl e) xs (.slice a' xs.length c'):=by
 by_cases hx:xs=[]
 ·subst hx; exact .sl e [] a' c' [] h3 (.inl rfl) (.nil _)
 ·obtain ⟨_,hc,hs⟩:=zMH hr (i:=lo) (j:=lo+xs.length) (by omega) h1;have hl:0<xs.length:=List.length_pos_iff.2 hx;rw [← h2,if_neg (by omega), ← h4 hx] at hs;rw [show lo+xs.length-lo=xs.length by omega] at hs
  cases hs with
  | sl _ _ _ _ vs _ hs hrr=>exact .sl e xs a' c' vs h3 hs hrr
theorem zd9.part {ad:Option Addr} {vs us:List Value} {k:Nat} (hs:zd9 w ad vs) (hu:∀(j:Nat) v,us[j]? = some v→vs[k+j]? = some v):zd9 w (ad.map (·.add k)) us:=by
 by_cases hne:us=[]
 ·subst hne
  cases ad with
  | none=>rfl
  | some x=>exact .inl rfl
 ·have hv:vs≠[]:=by
   rintro rfl
   apply hne
   apply List.eq_nil_iff_forall_not_mem.2
   intro v hv;obtain ⟨j,hj⟩:=List.mem_iff_getElem?.1 hv;have:=hu j v hj;simp at this
  cases ad with
  | none=>exact (hv hs).elim
  | some x =>
   obtain ⟨h1,h2,h3⟩:=hs.hard hv;obtain ⟨b,o,sp⟩:=x;simp only at h1 h2 h3;subst h1
   have hadd:(⟨b,o,none⟩:Addr).add k=⟨b,o+k,none⟩:=by unfold Addr.add; split<;>simp_all
   simp only [Option.map_some,hadd];refine .inr ⟨rfl,h2,fun i v hv=>?_⟩;have:=h3 _ _ (hu i v hv);simpa [Nat.add_assoc] using this
mutual
theorem Tr.rp (hH:h.le H):∀{t:Ty} {x:t.den τ} {v:Value} {fp:List Nat},Tr P G h w t x v fp→(∀b∈fp,H b=w.heap[b]?)→Rp P G H t x v
 | _,_,_,_, .fz t x v hz hr,_=>hr.le hH
 | _,_,_,_, .so te e xs v vs ho hr,hb => .so te e xs v (zwV hH ho hr hb)
 | _,_,_,_, .po n x b vs fp h1 h2 hn _,hb => .po n x _ (.pt n x b 0 vs (.inr ⟨b,0,vs.toArray,G.ti n,(0,0),rfl,(hb b (List.mem_cons_self ..)).trans h1,fun k v hk=>by simpa using hk⟩) (h2.rp hH fun c hc=>hb c (List.mem_cons_of_mem _ hc)))
 | _,_,_,_, .pn0 n,_ => .pn0 n
 | _,_,_,_, .pn1 n x v fp hp,hb => .pn1 n x v (match hp.rp hH hb with | .po _ _ _ hr=>hr)
theorem TrL.rp (hH:h.le H):∀{ts:List Ty} {p:DP τ ts} {vs:List Value} {fp:List Nat},TrL P G h w ts p vs fp→(∀b∈fp,H b=w.heap[b]?)→RpL P G H ts p vs
 | _,_,_,_, .nil,_ => .nil
 | _,_,_,_, .cons t ts p v vs f f' h1 h2 hd,hb => .cons t ts p v vs (h1.rp hH fun b hf=>hb b (List.mem_append_left _ hf)) (h2.rp hH fun b hf=>hb b (List.mem_append_right _ hf))
end
theorem zDs (M:Mem P G w0 h0 F L2 w ν h φ) (hH:h.le H) {e:Ty} {c:CV τ} {xs:List (e.den τ)} {m:List Nat} {v:Value} (k:zDB L e c=some (xs,m)) (hL:∀i∈m,lk L2 i=lk L i) (hb:∀b∈fps φ m,H b=w.heap[b]?)
  (hv:zcT P G h ν c v):Rp P G H (.sl e) xs v:=by
 unfold zDB at k
 split at k
 ·split at k
  ·rename_i hx
   obtain ⟨rfl,rfl⟩:=zgW hx;cases k;exact Rp.le hH hv
  ·cases k
 ·cases k; cases hv;exact .sl e [] none 0 [] (Nat.le_refl _) (.inl rfl) (.nil _)
 ·rename_i id
  obtain ⟨ad,n,cp,q,hν,rfl⟩:=hv
  split at k
  ·rename_i te e' xs' kk hlk
   split at k
   ·rename_i hx
    obtain ⟨rfl,rfl⟩:=zgW hx;cases k;have hr:=M.res id;rw [hL id (List.mem_singleton.2 rfl),hlk] at hr;obtain ⟨v',q',vs,u,h1,h2,h3,h4,_⟩:=hr;rw [hν] at h1;cases h1;exact zwV hH h3 h4 fun b hbb=>hb b (by rw [zdd,h2]; exact List.mem_append_left _ hbb)
   ·cases k
  ·rename_i e' xs' hlk
   split at k
   ·rename_i hx
    obtain ⟨rfl,rfl⟩:=zgW hx;cases k;have hr:=M.res id;rw [hL id (List.mem_singleton.2 rfl),hlk] at hr;obtain ⟨v',q',h1,_,h3⟩:=hr;rw [hν] at h1;cases h1;exact h3.le hH
   ·cases k
  ·rename_i i kk e' lo xs' hlk
   split at k
   ·rename_i te e2 ys k' hlk2
    cases hkk:Nat.beq kk k' with
    | false=>rw [hkk] at k; cases k
    | true =>
     rw [hkk] at k
     have:kk=k':=by simpa using hkk
     subst this;dsimp only [cond_true] at k
     split at k
     ·rename_i hx
      obtain ⟨rfl,rfl⟩:=zgW hx;cases k;have hr:=M.res id;rw [hL id (List.mem_cons_self ..),hlk] at hr;obtain ⟨a1,n1,c1,q1,q2,u1,ys1,a2,c2,g1,g2,g3,g4,g5,g6,g7,_⟩:=hr;have hr2:=M.res i;rw [hL i (List.mem_cons_of_mem _ (List.mem_cons_self ..)),hlk2] at hr2;obtain ⟨v',q',vs,u,h1,h2,h3,h4,h5⟩:=hr2;rw [g1] at h1;cases h1;rw [g2] at h5
      injection h5 with h5
      injection h5 with _ h5
      injection h5 with h5
      cases h5;rw [hν] at g5;cases g5;exact vw_rp (zwV hH h3 h4 fun b hbb=>hb b (by rw [zdd,zdd,h2]; exact List.mem_append_right _ (List.mem_append_left _ hbb))) g3 g4 g6 g7.1
     ·cases k
   ·cases k
  ·cases k
 ·cases k
theorem ztw {f:(t:Ty)→CV τ→Option (t.den τ × List Nat)} {A:List Nat→Prop} (hA:∀l m,A (l++m)→A l∧A m)
  (hf:∀t c x m v,f t c=some (x,m)→A m→zcT P G h ν c v→Rp P G H t x v):∀{ts:List Ty} {cs:List (CV τ)} {q:DP τ ts} {vs:List Value} {m:List Nat},zw0 f ts cs=some (q,m)→A m→CVs P G h ν cs vs→RpL P G H ts q vs
 | [],[],q,vs,_,e,_,hv=>by cases e; cases hv; exact .nil
 | t::ts,c::cs,q,_,_,e,ha,⟨v,us,rfl,h1,h2⟩=>by
  unfold zw0 at e
  split at e
  ·rename_i x m hx
   split at e
   ·rename_i q' m' hq
    cases e;refine .cons t ts _ v us ?_ ?_
    ·rw [DP.hd_mk]; exact hf _ _ _ _ _ hx (hA _ _ ha).1 h1
    ·rw [DP.tl_mk]; exact ztw hA hf hq (hA _ _ ha).2 h2
   ·cases e
  ·cases e
 | [],_::_,_,_,_,e,_,_=>by cases e
 | _::_,[],_,_,_,e,_,_=>by cases e
theorem zJF {t:Ty} {x:t.den τ} {v:Value} (hr:Rp P G h t x v):zcT P G h ν (t.av x) v:=by
 cases hr with
 | sl e xs a c vs hc hs hr=>exact .sl e xs a c vs hc hs hr
 | so te e xs v hr=>exact hr
 | pt n x b k vs hs hr=>exact ⟨b,k,vs,rfl,hs,hr⟩
 | po n x v hr=>cases hr with|pt n x b k vs hs hr=>exact ⟨b,k,vs,rfl,hs,hr⟩
 | pn0 n=>exact .pn0 n
 | pn1 n x v hr=>exact .pn1 n x v hr
 | fn m f hf=>exact .fn m f hf
 | cl f t x u hr=>exact .cl f t x u hr
 | mv f u=>exact .mv f u
 | _=>rfl
theorem zzz:∀{ts:List Ty} {q:DP τ ts} {vs:List Value},RpL P G h ts q vs→CVs P G h ν (avs ts q) vs
 | _,_,_, .nil=>rfl
 | _,_,_, .cons t ts q v vs h1 h2=>⟨v,vs,rfl,zJF h1,zzz h2⟩
def zbR (L2 L:Hp τ) (φ:Nat→List Nat) (H:Fz) (w:World) (m:List Nat):Prop:=(∀i∈m,lk L2 i=lk L i)∧∀b∈fps φ m,H b=w.heap[b]?
theorem zbR.app {l m:List Nat} (a:zbR L2 L φ H w (l++m)):zbR L2 L φ H w l∧zbR L2 L φ H w m :=
  ⟨⟨fun i hi=>a.1 i (List.mem_append_left _ hi),fun b hb=>a.2 b (by rw [zfj]; exact List.mem_append_left _ hb)⟩,
   ⟨fun i hi=>a.1 i (List.mem_append_right _ hi),fun b hb=>a.2 b (by rw [zfj]; exact List.mem_append_right _ hb)⟩⟩
theorem zDt (M:Mem P G w0 h0 F L2 w ν h φ) (hH:h.le H) {f:(t:Ty)→CV τ→Option (t.den τ × List Nat)} (hf:∀t c x m v,f t c=some (x,m)→zbR L2 L φ H w m→zcT P G h ν c v→Rp P G H t x v)
  {n:Nat} {c:CV τ} {x:τ n} {m:List Nat} {v:Value} (k:lokP f G L n c=some (x,m)) (ha:zbR L2 L φ H w m) (hv:zcT P G h ν c v):Rp P G H (.pt n) x v:=by
 unfold lokP at k
 split at k
 ·rename_i t z o
  obtain ⟨b,q,vs,rfl,h1,h2⟩:=hv
  split at k
  ·rename_i x' hx
   cases k;unfold eaO at hx
   split at hx
   ·rename_i n' z
    cases ho:Nat.beq o 0
    ·rw [ho] at hx; cases hx
    ·rw [ho] at hx
     replace ho:=Nat.eq_of_beq_eq_true ho
     subst ho;obtain ⟨rfl,rfl⟩:=zNo hx;exact .pt _ _ b _ vs (h1.le hH) (h2.le hH)
   ·cases hx
  ·split at k
   ·rename_i cs hcut
    split at k
    ·rename_i p m' hq
     cases k;have hc:=(CVs.cut (X:=⟨P,G,[],[],0,fun _ => .bool false⟩) (zzz (ν:=ν) h2) hcut).1;refine .pt n _ b (q+o) ((vs.drop o).take (G.fs n).length) ?_ ?_
     ·rcases h1 with rfl|⟨b',o',c,e,z',h3,h4,h5⟩
      ·exact .inl (by simp)
      ·cases h3;refine .inr ⟨b,q+o,c,e,z',rfl,hH _ _ h4,fun k v hk=>?_⟩;rw [List.getElem?_take] at hk
       split at hk
       ·rw [List.getElem?_drop] at hk;rw [Nat.add_assoc];exact h5 _ _ hk
       ·cases hk
     ·rw [G.dc]; exact ztw (A:=zbR L2 L φ H w) (fun _ _=>zbR.app) hf hq ha hc
    ·cases k
   ·cases k
 ·rename_i id o
  split at k
  ·rename_i t cs hlk
   split at k
   ·rename_i cs' hcut
    split at k
    ·rename_i p m' hq
     cases k;have ha':=zbR.app (l:=[id]) ha;have hr:=M.res id;rw [ha.1 id (List.mem_cons_self ..),hlk] at hr;obtain ⟨b,q,vs,h1,h2,h3,h4⟩:=hr;obtain ⟨u,q',h5,rfl,_⟩:=hv;rw [h1] at h5;cases h5;have hc:=(CVs.cut (X:=⟨P,G,[],[],0,fun _ => .bool false⟩) h4 hcut).1;refine .pt n _ b (0+o) ((vs.drop o).take (G.fs n).length) (.inr ⟨b,0+o,vs.toArray,t,(0,0),rfl,?_,fun k v hk=>?_⟩) ?_
     ·rw [ha.2 b (by rw [zdd,h2]; simp)]; exact h3
     ·rw [List.getElem?_take] at hk
      split at hk
      ·rw [List.getElem?_drop] at hk;simpa using hk
      ·cases hk
     ·rw [G.dc]; exact ztw (A:=zbR L2 L φ H w) (fun _ _=>zbR.app) hf hq ha'.2 hc
    ·cases k
   ·cases k
  ·cases k
 ·cases k
theorem zOU (M:Mem P G w0 h0 F L2 w ν h φ) (hH:h.le H) {n:Nat} {c:CV τ} {x:Option (τ n)} {m:List Nat} {v:Value} (k:lokT L n c=some (x,m)) (ha:zbR L2 L φ H w m) (hv:zcT P G h ν c v):Rp P G H (.pn n) x v:=by
 unfold lokT at k
 split at k
 ·rename_i id
  obtain ⟨u,q',h5,rfl,_⟩:=hv
  have e0:zuw (.pointer u) 0 = .pointer u:=by cases u<;>rfl
  rw [e0]
  split at k
  ·rename_i n' y hlk
   split at k
   ·rename_i hx
    obtain ⟨rfl,rfl⟩:=zzV hx;cases k;have hr:=M.res id;rw [ha.1 id (List.mem_singleton.2 rfl),hlk] at hr;obtain ⟨v',q,h1,h2⟩:=hr;rw [h1] at h5; cases h5;exact h2.rp hH fun b hb=>ha.2 b (by rw [zdd]; exact List.mem_append_left _ hb)
   ·cases k
  ·rename_i hlk
   cases k;have hr:=M.res id;rw [ha.1 id (List.mem_singleton.2 rfl),hlk] at hr;obtain ⟨q,h1,h2⟩:=hr;rw [h1] at h5; cases h5;exact .pn0 n
  ·cases k
 ·cases k
theorem zwW (M:Mem P G w0 h0 F L2 w ν h φ) (hH:h.le H):∀(d:Nat) (t:Ty) (c:CV τ) (x:t.den τ) (m:List Nat) (v:Value),lok G L d t c=some (x,m)→zbR L2 L φ H w m→zcT P G h ν c v→Rp P G H t x v
 | 0,t,c,x,m,v,k,_,_=>by cases k
 | d + 1,t,c,x,m,v,k,ha,hv=>by
  have ih:=zwW M hH d;unfold lok at k;cases t<;>dsimp only at k
  case sl e=>exact zDs M hH k ha.1 ha.2 hv
  case so te e=>exact .so te e x v (zDs M hH k ha.1 ha.2 hv)
  case pt n=>exact zDt M hH ih k ha hv
  case po n=>exact .po n x v (zDt M hH ih k ha hv)
  case pn n =>
   split at k
   ·cases k; cases hv; exact .pn0 n
   ·split at k
    ·rename_i hx
     obtain ⟨rfl,rfl⟩:=zzV hx;cases k;exact Rp.le hH hv
    ·cases k
   ·split at k
    ·rename_i hy
     cases k;exact zOU M hH hy ha hv
    ·split at k
     ·rename_i y m' hy
      cases k;exact .pn1 n y v (zDt M hH ih hy ha hv)
     ·cases k
  case fn =>
   split at k
   ·cases k; exact Rp.le hH hv
   ·split at k
    ·rename_i f m hm
     cases k; cases hv;exact .fn _ _ (M.fp _ (zmG hm))
    ·cases k
   ·cases k
  case fc f =>
   split at k
   ·rename_i g
    cases hb:Nat.beq g f with
    | false=>rw [hb] at k; cases k
    | true =>
     rw [hb] at k;cases k
     have:g=f:=by simpa using hb
     subst this;cases hv;exact .fc g
   ·cases k
  case mv f =>
   split at k
   ·rename_i g
    cases hb:Nat.beq g f with
    | false=>rw [hb] at k; cases k
    | true =>
     rw [hb] at k;cases k
     have:g=f:=by simpa using hb
     subst this;exact Rp.le hH hv
   ·rename_i g i
    cases hb:Nat.beq g f with
    | false=>rw [hb] at k; cases k
    | true =>
     rw [hb] at k;cases k
     have:g=f:=by simpa using hb
     subst this;obtain ⟨u,q,_,rfl⟩:=hv;exact .mv _ _
   ·cases k
  case cl f t' =>
   split at k
   ·rename_i g t2 y
    cases hb:Nat.beq g f with
    | false=>rw [hb] at k; cases k
    | true =>
     rw [hb] at k;dsimp only [cond_true] at k
     have:g=f:=by simpa using hb
     subst this
     split at k
     ·rename_i hx
      obtain ⟨rfl,rfl⟩:=zNn hx;cases k;exact Rp.le hH hv
     ·cases k
   ·rename_i id
    split at k
    ·rename_i g c' hl
     cases hb:Nat.beq g f with
     | false=>rw [hb] at k; cases k
     | true =>
      rw [hb] at k;dsimp only [cond_true] at k
      have:g=f:=by simpa using hb
      subst this
      split at k
      ·rename_i x' m' hx
       cases k;obtain ⟨f',us,vs,q,hν,rfl⟩:=hv;have hr:=M.res id;rw [ha.1 id (List.mem_cons_self ..),hl] at hr;obtain ⟨us',vs',q',h1,_,h2,h3⟩:=hr;rw [hν] at h1;cases h1;obtain rfl:us=[]:=h2;obtain ⟨v',_,rfl,h4,rfl⟩:=h3;exact .cl _ _ _ _ (ih _ _ _ _ _ hx (zbR.app (l:=[id]) ha).2 h4)
      ·cases k
    ·cases k
   ·cases k
  all_goals first|(cases k; done)|(split at k<;>first|(cases k; done)|(cases k; cases hv; constructor))

theorem zeE {l:List Nat} {i:Nat}:mem l i=true↔i∈l:=by simp [ztx,List.any_eq_true]
theorem zvC:∀{l m:List Nat},nod (l++m)=true→nod l=true∧nod m=true∧∀i∈l,i∉m
 | [],m,h=>⟨rfl,h,fun i hi=>by cases hi⟩
 | a::l,m,h=>by
  simp only [List.cons_append,nod,Bool.and_eq_true,Bool.not_eq_true'] at h;obtain ⟨h1,h2⟩:=h;obtain ⟨h3,h4,h5⟩:=zvC h2
  have hn:a∉l++m:=fun e=>by rw [zeE.2 e] at h1; cases h1
  refine ⟨?_,h4,fun i hi=>?_⟩
  ·simp only [nod,Bool.and_eq_true,Bool.not_eq_true'];exact ⟨Bool.eq_false_iff.2 fun e=>hn (List.mem_append_left _ (zeE.1 e)),h3⟩
  ·rcases List.mem_cons.1 hi with rfl|hi
   ·exact fun e=>hn (List.mem_append_right _ e)
   ·exact h5 i hi
theorem zwX {l m:List Nat} (h:zx7 l m=true):∀i∈l,i∉m:=by
 intro i hi e;have:=List.all_eq_true.1 (zzD l m▸h) i hi;rw [zeE.2 e] at this;cases this
theorem Mem.fps_dis (M:Mem P G w0 h0 F L2 w ν h φ) {l m:List Nat} (h:∀i∈l,i∉m):∀b∈fps φ l,b∉fps φ m:=by
 intro b h1 h2;obtain ⟨i,hi,hb⟩:=mem_fps.1 h1;obtain ⟨j,hj,hb'⟩:=mem_fps.1 h2;exact h i hi (M.dis i j b hb hb'▸hj)
theorem zDu (M:Mem P G w0 h0 F L2 w ν h φ) {f:(t:Ty)→CV τ→Rs (t.den τ)}
  (hf:∀t c x l m v,f t c=some (x,l,m)→(∀i∈l,lk L2 i=lk L i)→zbR L2 L φ H w m→nod l=true→zcT P G h ν c v→Tr P G H w t x v (fps φ l)) :
  ∀{ts:List Ty} {cs:List (CV τ)} {q:DP τ ts} {vs:List Value} {l m:List Nat},zH8 f ts cs=some (q,l,m)→(∀i∈l,lk L2 i=lk L i)→zbR L2 L φ H w m→nod l=true→CVs P G h ν cs vs→TrL P G H w ts q vs (fps φ l)
 | [],[],q,vs,_,_,e,_,_,_,hv=>by cases e; cases hv; exact .nil
 | t::ts,c::cs,q,_,_,_,e,ha,hm,hn,⟨v,us,rfl,h1,h2⟩=>by
  unfold zH8 at e
  split at e
  ·rename_i x l m hx
   split at e
   ·rename_i q' l' m' hq
    cases e;obtain ⟨n1,n2,n3⟩:=zvC hn;rw [zfj];refine .cons t ts _ v us _ _ ?_ ?_ (M.fps_dis n3)
    ·rw [DP.hd_mk]; exact hf _ _ _ _ _ _ hx (fun i hi=>ha i (List.mem_append_left _ hi)) hm.app.1 n1 h1
    ·rw [DP.tl_mk]; exact zDu M hf hq (fun i hi=>ha i (List.mem_append_right _ hi)) hm.app.2 n2 h2
   ·cases e
  ·cases e
 | [],_::_,_,_,_,_,e,_,_,_,_=>by cases e
 | _::_,[],_,_,_,_,e,_,_,_,_=>by cases e
theorem zMI:∀{ts:List Ty},noM ts=true→∀{vs:List Value},MvOk ts vs
 | [],_,vs,i,f,h=>by simp at h
 | t::ts,hz,vs,i,f,h=>by
  simp only [noM,Bool.and_eq_true] at hz
  cases i with
  | zero =>
   simp only [List.getElem?_cons_zero,Option.some.injEq] at h;subst h;exact absurd hz.1 (by simp)
  | succ i =>
   have h3:=zMI hz.2 (vs:=[]) i f (by simpa using h);obtain ⟨u,h4,_⟩:=h3;simp at h4
theorem zMJ {i:Nat} {u:Option Addr} {q:Option ((e:Ty) × List (e.den τ))} (hν:ν i=some (.pointer u,q)):∀{ts:List Ty} {cs:List (CV τ)} {vs:List Value},okM i ts cs=true→CVs P G h ν cs vs→ts.length≤cs.length→∀(k:Nat) (f:Nat),ts[k]? = some (.mv f)→vs[k]? = some (.func (.func f) #[.pointer u] #[])
 | [],_,_,_,_,_,k,f,e=>by simp at e
 | _::_,[],_,_,_,hl,_,_,_=>by simp at hl
 | t::ts,c::cs,_,hz,⟨v,us,rfl,h1,h2⟩,hl,k,f,e=>by
  simp only [okM,Bool.and_eq_true] at hz
  cases k with
  | succ k=>simpa using zMJ hν hz.2 h2 (by simpa using hl) k f (by simpa using e)
  | zero =>
   simp only [List.getElem?_cons_zero,Option.some.injEq] at e;subst e
   replace hz:=hz.1
   dsimp only at hz
   split at hz
   ·rename_i g j
    simp only [Bool.and_eq_true,Nat.beq_eq] at hz;obtain ⟨rfl,rfl⟩:=hz;obtain ⟨u',q',h3,rfl⟩:=h1;rw [hν] at h3;cases h3;rfl
   ·cases hz
theorem zFY {f:(t:Ty)→CV τ→Rs (t.den τ)}:∀{ts:List Ty} {cs:List (CV τ)} {r:DP τ ts × List Nat × List Nat},zH8 f ts cs=some r→ts.length=cs.length
 | [],[],_,_=>rfl
 | t::ts,c::cs,r,e=>by
  unfold zH8 at e
  split at e
  ·split at e
   ·rename_i hq; simp [zFY hq]
   ·cases e
  ·cases e
 | [],_::_,_,e=>by cases e
 | _::_,[],_,e=>by cases e
theorem okN_ok {ts:List Ty} {cs:List (CV τ)} {vs:List Value} (h1:okN ts cs=true) (h2:CVs P G h ν cs vs) (hl:ts.length≤cs.length):MvOk ts vs:=by
 unfold okN at h1
 split at h1
 ·rename_i i cs
  obtain ⟨v,us,rfl,⟨u,q,h3,rfl,h5⟩,h4⟩:=h2;have h6:=zMJ h3 h1 (show CVs P G h ν (.pt i 0::cs) _ from ⟨_,us,rfl,⟨u,q,h3,rfl,h5⟩,h4⟩) hl;intro k f e;refine ⟨.pointer u,?_,h6 k f e⟩;cases u<;>rfl
 ·exact zMI h1
theorem zJG {i:Nat} {u:Option Addr} {q:Option ((e:Ty) × List (e.den τ))} (hν:ν i=some (.pointer u,q)):∀{ts:List Ty} {cs:List (CV τ)} {vs:List Value},CVs P G h ν cs vs→(∀(k:Nat) (f:Nat),ts[k]? = some (.mv f)→vs[k]? = some (.func (.func f) #[.pointer u] #[]))→CVs P G h ν (fixM i ts cs) vs
 | [],cs,vs,h1,_=>h1
 | _::_,[],vs,h1,_=>h1
 | t::ts,c::cs,_,⟨v,us,rfl,h1,h2⟩,hm=>by
  refine ⟨v,us,rfl,?_,zJG hν h2 fun k f e=>by simpa using hm (k+1) f (by simpa using e)⟩;cases t
  case mv f =>
   have:=hm 0 f rfl;simp only [List.getElem?_cons_zero,Option.some.injEq] at this;exact ⟨u,q,hν,this⟩
  all_goals exact h1
theorem zJH {ts:List Ty} {cs:List (CV τ)} {vs:List Value} (h1:CVs P G h ν cs vs) (hm:MvOk ts vs):CVs P G h ν (zH9 ts cs) vs:=by
 unfold zH9
 split
 ·rename_i i cs
  cases noM ts with
  | true=>exact h1
  | false =>
   have h0:=h1;obtain ⟨v,us,rfl,⟨u,q,h3,rfl,h5⟩,h4⟩:=h0;refine zJG h3 h1 fun k f e=>?_;obtain ⟨u',h6,h7⟩:=hm k f e;simp only [List.getElem?_cons_zero,Option.some.injEq] at h6;rw [h7, ← h6];cases u<;>rfl
 ·exact h1
theorem zJI (M:Mem P G w0 h0 F L2 w ν h φ) {f:(t:Ty)→CV τ→Rs (t.den τ)}
  (hf:∀t c x l m v,f t c=some (x,l,m)→(∀i∈l,lk L2 i=lk L i)→zbR L2 L φ H w m→nod l=true→zcT P G h ν c v→Tr P G H w t x v (fps φ l))
  {n id:Nat} {x:τ n} {l m:List Nat} {v:Value} (k:resP f G L n id=some (x,l,m)) (ha:∀i∈l,lk L2 i=lk L i) (hm:zbR L2 L φ H w m) (hn:nod l=true) (hv:zcT P G h ν (.pt id 0) v):Tr P G H w (.po n) x v (fps φ l):=by
 unfold resP at k
 split at k
 ·rename_i t cs hlk
  cases hb:(Nat.beq t (G.ti n)&&okN (G.fs n) cs) with
  | false=>rw [hb] at k; cases k
  | true =>
   rw [hb] at k;dsimp only [cond_true] at k;simp only [Bool.and_eq_true,Nat.beq_eq] at hb;obtain ⟨hb,hmv⟩:=hb
   split at k
   ·rename_i p l' m' hq
    cases k;have ht:t=G.ti n:=hb;have hr:=M.res id;rw [ha id (List.mem_cons_self ..),hlk] at hr;obtain ⟨b,q,vs,h1,h2,h3,h4⟩:=hr;obtain ⟨u,q',h5,rfl,_⟩:=hv;rw [h1] at h5;cases h5;obtain ⟨n1,n2,n3⟩:=zvC (l:=[id]) hn;have hd:=M.fps_dis (l:=[id]) (m:=l') n3;rw [zdd,h2];refine .po n _ b vs _ (ht▸h3) ?_ (fun hc=>hd b (by rw [zdd,h2]; simp) hc) (okN_ok hmv h4 (Nat.le_of_eq (zFY hq)));rw [G.dc];exact zDu M hf hq (fun i hi=>ha i (List.mem_cons_of_mem _ hi)) hm n2 h4
   ·cases k
 ·cases k
theorem zMK {te sz n m lo k c c':Nat} {a a':Option Addr} {vs:List Value} (h:zgV G w te sz (.slice a n c) m vs) (hk:lo+k≤m) (hd:lo=0∨G.dr te=true) (hc:c'+lo=c) (ha:a'=if c=lo then a else a.map (·.add (lo*sz))) :
  zgV G w te sz (.slice a' k c') k ((vs.take ((lo+k)*sz)).drop (lo*sz))∧(Value.slice a' k c').ownBlock=(Value.slice a n c).ownBlock:=by
 obtain ⟨h1,h2⟩:=h;have hle:(lo+k)*sz≤m*sz:=Nat.mul_le_mul_right _ hk;have hmul:(lo+k)*sz=lo*sz+k*sz:=Nat.add_mul ..
 have hlen:((vs.take ((lo+k)*sz)).drop (lo*sz)).length=k*sz:=by rw [List.length_drop,List.length_take]; omega
 rcases h2 with ⟨e,hm⟩|⟨g,d,cap,cur,e,h3,h4,h5,h6,h7,h8⟩
 ·cases e
  have hk0:k=0:=by omega
  have hc0:c'=0:=by omega
  subst hk0; subst hc0
  have:a'=none:=by rw [ha]; split<;>rfl
  subst this;exact ⟨⟨hlen, .inl ⟨rfl,rfl⟩⟩,rfl⟩
 ·cases e
  by_cases hcl:c=lo
  ·rw [if_pos hcl] at ha;subst ha
   have hk0:k=0:=by omega
   have hc0:c'=0:=by omega
   subst hk0; subst hc0;refine ⟨⟨hlen, .inr ⟨g,d,0,cur,rfl,fun hz=>?_,h4,Nat.le_refl _,Nat.zero_le _,?_,?_⟩⟩,rfl⟩
   ·rcases hd with h0|h0
    ·obtain ⟨rfl,h9⟩:=h3 hz;exact ⟨rfl,by rw [h9,hcl,h0]⟩
    ·rw [h0] at hz; cases hz
   ·exact Nat.le_trans (Nat.mul_le_mul_right _ (by omega)) h7
   ·rw [Nat.zero_mul,List.take_zero];exact (List.eq_nil_of_length_eq_zero (by rw [hlen,Nat.zero_mul])).symm
  ·rw [if_neg hcl] at ha
   have hadd:(⟨g,d*sz,none⟩:Addr).add (lo*sz)=⟨g,(d+lo)*sz,none⟩:=by rw [Nat.add_mul]; unfold Addr.add; split<;>simp_all
   simp only [Option.map_some,hadd] at ha;subst ha;refine ⟨⟨hlen, .inr ⟨g,d+lo,c',cur,rfl,fun hz=>?_,h4,by omega,by omega,?_,?_⟩⟩,rfl⟩
   ·rcases hd with h0|h0
    ·obtain ⟨rfl,h9⟩:=h3 hz;subst h0;exact ⟨rfl,by rw [h9, ← hc,Nat.add_zero]⟩
    ·rw [h0] at hz; cases hz
   ·rw [show d+lo+c'=d+c by omega]; exact h7
   ·rw [← h8,List.take_take,Nat.min_eq_left hle,List.drop_take,List.drop_drop,hmul,Nat.add_sub_cancel_left,Nat.add_mul]
theorem zDv (M:Mem P G w0 h0 F L2 w ν h φ) (hH:h.le H):∀(d:Nat) (t:Ty) (c:CV τ) (x:t.den τ) (l m:List Nat) (v:Value),res G L d t c=some (x,l,m)→(∀i∈l,lk L2 i=lk L i)→zbR L2 L φ H w m→nod l=true→zcT P G h ν c v→Tr P G H w t x v (fps φ l)
 | 0,t,c,x,l,m,v,k,_,_,_,_=>by cases k
 | d + 1,t,c,x,l,m,v,k,ha,hm,hn,hv=>by
  have ih:=zDv M hH d
  have hlok:frz t=true→(match lok G L (d+1) t c with
   | some (x,m)=>some (x,[],m)
   | none=>none)=some (x,l,m)→Tr P G H w t x v (fps φ l):=by
   intro hz k
   split at k
   ·rename_i x' m' hx
    cases k;exact .fz t x v hz (zwW M hH _ _ _ _ _ _ hx hm hv)
   ·cases k
  unfold res at k;cases t<;>dsimp only at k
  case so te e =>
   split at k
   ·cases k; cases hv;exact .so te e [] _ [] ⟨by simp, .inl ⟨rfl,rfl⟩⟩ (.nil _)
   ·rename_i id
    split at k
    ·rename_i te' e' xs kk hlk
     cases hb:Nat.beq te te' with
     | false=>rw [hb] at k; cases k
     | true =>
      rw [hb] at k;dsimp only [cond_true] at k
      split at k
      ·rename_i hx
       obtain ⟨rfl,rfl⟩:=zgW hx;cases k
       have ht:te=te':=by simpa using hb
       subst ht;have hr:=M.res id;rw [ha id (List.mem_singleton.2 rfl),hlk] at hr;obtain ⟨v',q',vs,u,h1,h2,h3,h4,_⟩:=hr;obtain ⟨ad,n,cp,q,hν,rfl⟩:=hv;rw [hν] at h1;cases h1;rw [zdd,h2,show fps φ []=[] from rfl,List.append_nil];exact .so te _ _ _ vs h3 (h4.le hH)
      ·cases k
    ·rename_i i kk e0 lo xs hlk
     split at k
     ·rename_i te' e' ys k2 hlk2
      cases hb:(Nat.beq te te'&&(Nat.beq kk k2&&(Nat.beq lo 0||G.dr te))) with
      | false=>rw [hb] at k; cases k
      | true =>
       rw [hb] at k;dsimp only [cond_true] at k;simp only [Bool.and_eq_true,Bool.or_eq_true,Nat.beq_eq] at hb;obtain ⟨rfl,rfl,hdr⟩:=hb
       split at k
       ·rename_i hx
        obtain ⟨rfl,rfl⟩:=zgW hx;cases k;have hr:=M.res id;rw [ha id (List.mem_cons_self ..),hlk] at hr;obtain ⟨a1,n1,c1,q1,q2,u1,ys1,a2,c2,g1,g2,g3,g4,g5,g6,g7,g8⟩:=hr;have hr2:=M.res i;rw [ha i (List.mem_cons_of_mem _ (List.mem_cons_self ..)),hlk2] at hr2;obtain ⟨v',q',vs,u,h1,h2,h3,h4,h5⟩:=hr2;rw [g1] at h1;cases h1;rw [g2] at h5
        injection h5 with h5
        injection h5 with _ h5
        injection h5 with h5
        cases h5;obtain ⟨ad,n,cp,q,hν,rfl⟩:=hv;rw [hν] at g5;cases g5;obtain ⟨_,_,g9,g10⟩:=g7;rw [zdd,g8,zdd,h2,show fps φ []=[] from rfl,List.append_nil,List.nil_append];obtain ⟨hcut,hob⟩:=zMK (k:=xs.length) h3 g3 hdr g9 g10;have h6:=(h4.take (lo+xs.length)).drop lo;rw [← g4] at h6;rw [← hob];exact .so te _ _ _ _ hcut (h6.le hH)
       ·cases k
     ·cases k
    ·cases k
   ·cases k
  case po n =>
   cases c<;>first|(cases k; done)|skip
   rename_i id o
   cases o with
   | zero=>exact zJI M ih k ha hm hn hv
   | succ o=>cases k
  case pn n =>
   split at k
   ·cases k; cases hv; exact .pn0 n
   ·rename_i id
    split at k
    ·rename_i n' y hlk
     split at k
     ·rename_i hx
      obtain ⟨rfl,rfl⟩:=zzV hx;cases k;have hr:=M.res id;rw [ha id (List.mem_singleton.2 rfl),hlk] at hr;obtain ⟨v',q',h1,h2⟩:=hr;obtain ⟨u,q,hν,rfl,_⟩:=hv;rw [hν] at h1;cases h1;rw [zdd,show fps φ []=[] from rfl,List.append_nil];cases u<;>exact h2.of hH fun _ _=>rfl
     ·cases k
    ·rename_i hlk
     cases k;have hr:=M.res id;rw [ha id (List.mem_singleton.2 rfl),hlk] at hr;obtain ⟨q',h1,h2⟩:=hr;obtain ⟨u,q,hν,rfl,_⟩:=hv;rw [hν] at h1;cases h1;rw [zdd,h2];exact .pn0 n
    ·split at k
     ·rename_i y l' m' hy
      cases k;exact .pn1 n y v _ (zJI M ih hy ha hm hn hv)
     ·cases k
   ·cases k
  case sn te e =>
   have h1:lok G L (d+1) (.sn te e) c=none:=by unfold lok; rfl
   rw [h1] at k;cases k
  all_goals exact hlok rfl k

def up1 {α:Type} (f:Nat→α) (i:Nat) (x:α):Nat→α:=fun j=>if j=i then x else f j
theorem zab {α:Type} (f:Nat→α) (i:Nat) (x:α):up1 f i x i=x:=by simp [up1]
theorem za2 {α:Type} (f:Nat→α) {i j:Nat} (x:α) (h:j≠i):up1 f i x j=f j:=by simp [up1,h]
theorem zbw {ν:Vn τ} {i:Nat} {x:Option (Value × Option ((e:Ty) × List (e.den τ)))} (h:ν i=none):ν.le (up1 ν i x):=by
 intro j y e;rw [za2]
 ·exact e
 ·rintro rfl; rw [h] at e; cases e
def zhX (w0:World) (h:Fz) (F:List Nat) (φ:Nat→List Nat) (fp:List Nat):Prop:=∀b∈fp,(∀i,b∉φ i)∧h b=none∧(b∈F∨w0.heap.size≤b)
theorem Mem.add (M:Mem P G w0 h0 F L w ν h φ) {nid:Nat} (hn:ν nid=none) (r:AR τ) (x:Value × Option ((e:Ty) × List (e.den τ))) {fp:List Nat} (hr:zmt P G h (up1 ν nid (some x)) w r (some x) fp) (hf:zhX w0 h F φ fp) :
  Mem P G w0 h0 F ((nid,r)::L) w (up1 ν nid (some x)) h (up1 φ nid fp):=by
 refine ⟨M.os,M.tape,M.output,M.size,M.frame,M.le,M.on,M.new,?_,?_,?_,M.gl,M.fp⟩
 ·intro i
  by_cases e:nid=i
  ·subst e;rw [zab,zab]
   have:lk ((nid,r)::L) nid=r:=by simp [zux,zm1]
   rw [this]; exact hr
  ·have:lk ((nid,r)::L) i=lk L i:=by simp [zux,zm1,zbL.2 e]
   have hr2:=(M.res i).of (w':=w) (Fz.le.refl _) (zbw (x:=some x) hn) fun _ _=>rfl;rw [this,za2 φ fp (Ne.symm e)];exact hr2
 ·intro i j b h1 h2
  by_cases e1:i=nid
  ·by_cases e2:j=nid
   ·rw [e1,e2]
   ·subst e1;rw [zab] at h1;rw [za2 _ _ e2] at h2;exact ((hf b h1).1 j h2).elim
  ·rw [za2 _ _ e1] at h1
   by_cases e2:j=nid
   ·subst e2;rw [zab] at h2;exact ((hf b h2).1 i h1).elim
   ·rw [za2 _ _ e2] at h2;exact M.dis i j b h1 h2
 ·intro i b hb
  by_cases e:i=nid
  ·subst e;rw [zab] at hb;exact (hf b hb).2
  ·rw [za2 _ _ e] at hb;exact M.out i b hb
structure Grew (P:Program) (G:Sig τ) (w0:World) (h0:Fz) (F:List Nat) (L:Hp τ) (w:World) (ν:Vn τ) (h:Fz) (φ:Nat→List Nat) (U:Hp τ) (nid nid':Nat) (fp:List Nat) (ν':Vn τ) (φ':Nat→List Nat):Prop where
 up:nid≤nid'
 mem:Mem P G w0 h0 F (U++L) w ν' h φ'
 le:ν.le ν'
 same:∀i, ¬(nid≤i∧i<nid')→ν' i=ν i∧φ' i=φ i
 fp:∀i b,nid≤i→i<nid'→b∈φ' i→b∈fp
theorem Grew.nil (M:Mem P G w0 h0 F L w ν h φ) (nid:Nat) (fp:List Nat):Grew P G w0 h0 F L w ν h φ [] nid nid fp ν φ :=
 ⟨Nat.le_refl _,M,Vn.le.refl _,fun _ _=>⟨rfl,rfl⟩,fun i b h1 h2=>by omega⟩
theorem Grew.one (M:Mem P G w0 h0 F L w ν h φ) {nid:Nat} (hn:ν nid=none) (r:AR τ) (x:Value × Option ((e:Ty) × List (e.den τ))) {fp:List Nat} (hr:zmt P G h (up1 ν nid (some x)) w r (some x) fp) (hf:zhX w0 h F φ fp) :
  Grew P G w0 h0 F L w ν h φ [(nid,r)] nid (nid+1) fp (up1 ν nid (some x)) (up1 φ nid fp) :=
 ⟨by omega,M.add hn r x hr hf,zbw hn,fun i hi=>⟨za2 _ _ (by rintro rfl; exact hi ⟨by omega,by omega⟩),za2 _ _ (by rintro rfl; exact hi ⟨by omega,by omega⟩)⟩,fun i b h1 h2 hb=>by
  have:i=nid:=by omega
  subst this
  rwa [zab] at hb⟩
theorem zhX.grew {U:Hp τ} {nid nid':Nat} {fp fp':List Nat} (g:Grew P G w0 h0 F L w ν h φ U nid nid' fp ν' φ') (hf:zhX w0 h F φ fp') (hd:∀b∈fp',b∉fp):zhX w0 h F φ' fp':=by
 intro b hb;refine ⟨fun i hi=>?_,(hf b hb).2⟩
 by_cases e:nid≤i∧i<nid'
 ·exact hd b hb (g.fp i b e.1 e.2 hi)
 ·rw [(g.same i e).2] at hi;exact (hf b hb).1 i hi
theorem zhX.sub {fp fp':List Nat} (hf:zhX w0 h F φ fp) (hs:∀b∈fp',b∈fp):zhX w0 h F φ fp':=fun b hb=>hf b (hs b hb)
def ExpOk (P:Program) (G:Sig τ) (w0:World) (h0:Fz) (F:List Nat) (w:World) (h:Fz) (f:(t:Ty)→t.den τ→Nat→CV τ × Hp τ × Nat):Prop :=
 ∀(t:Ty) (x:t.den τ) (nid:Nat) (c:CV τ) (U:Hp τ) (nid':Nat) (v:Value) (fp:List Nat) (L:Hp τ) (ν:Vn τ) (φ:Nat→List Nat),f t x nid=(c,U,nid')→Tr P G h w t x v fp→Mem P G w0 h0 F L w ν h φ →
  (∀i,nid≤i→i<nid'→ν i=none)→zhX w0 h F φ fp→∃ν' φ',Grew P G w0 h0 F L w ν h φ U nid nid' fp ν' φ'∧zcT P G h ν' c v
theorem zkr {f:(t:Ty)→t.den τ→Nat→CV τ × Hp τ × Nat} (hf:∀t x nid c U nid',f t x nid=(c,U,nid')→nid≤nid'):∀{ts:List Ty} {q:DP τ ts} {nid:Nat} {cs:List (CV τ)} {U:Hp τ} {nid':Nat},zBg f ts q nid=(cs,U,nid')→nid≤nid'
 | [],q,nid,cs,U,nid',e=>by cases e; exact Nat.le_refl _
 | t::ts,q,nid,cs,U,nid',e=>by
  unfold zBg at e
  split at e
  rename_i c U1 n1 h1
  split at e
  rename_i cs2 U2 n2 h2
  cases e;exact Nat.le_trans (hf _ _ _ _ _ _ h1) (zkr hf h2)
theorem zgw (G:Sig τ):∀(d:Nat) (t:Ty) (x:t.den τ) (nid:Nat) (c:CV τ) (U:Hp τ) (nid':Nat),zsd G d t x nid=(c,U,nid')→nid≤nid':=by
 intro d
 induction d with
 | zero=>intro t x nid c U nid' e; cases t<;>simp only [zsd,Prod.mk.injEq] at e<;>omega
 | succ d ih =>
  intro t x nid c U nid' e;cases t
  case po n =>
   unfold zsd at e
   split at e
   rename_i cs U1 n1 h1
   cases e;exact Nat.le_trans (Nat.le_succ _) (zkr ih h1)
  all_goals (simp only [zsd,Prod.mk.injEq] at e; omega)
theorem zy0 {f:(t:Ty)→t.den τ→Nat→CV τ × Hp τ × Nat} (hle:∀t x nid c U nid',f t x nid=(c,U,nid')→nid≤nid') (hf:ExpOk P G w0 h0 F w h f) :
  ∀{ts:List Ty} {q:DP τ ts} {nid:Nat} {cs:List (CV τ)} {U:Hp τ} {nid':Nat} {vs:List Value} {fp:List Nat} {L:Hp τ} {ν:Vn τ} {φ:Nat→List Nat},zBg f ts q nid=(cs,U,nid')→TrL P G h w ts q vs fp→Mem P G w0 h0 F L w ν h φ →
   (∀i,nid≤i→i<nid'→ν i=none)→zhX w0 h F φ fp→∃ν' φ',Grew P G w0 h0 F L w ν h φ U nid nid' fp ν' φ'∧CVs P G h ν' cs vs
 | [],q,nid,cs,U,nid',vs,fp,L, ν, φ,e,ht,M,hn,hfr=>by
  cases e; cases ht;exact ⟨ν, φ,Grew.nil M _ _,rfl⟩
 | t::ts,q,nid,cs,U,nid',vs,fp,L, ν, φ,e,ht,M,hn,hfr=>by
  unfold zBg at e
  split at e
  rename_i c U1 n1 h1
  split at e
  rename_i cs2 U2 n2 h2
  cases e
  cases ht with
  | cons _ _ _ v us f1 f2 t1 t2 hd =>
   have l1:=hle _ _ _ _ _ _ h1;have l2:=zkr hle h2;obtain ⟨ν1, φ1,g1,c1⟩:=zy0 hle hf h2 t2 M (fun i a b=>hn i (by omega) b) (hfr.sub fun b hb=>List.mem_append_right _ hb);obtain ⟨ν2, φ2,g2,c2⟩:=hf _ _ _ _ _ _ _ _ _ _ _ h1 t1 g1.mem (fun i a b=>by rw [(g1.same i (by omega)).1]; exact hn i a (by omega))
    (zhX.grew g1 (hfr.sub fun b hb=>List.mem_append_left _ hb) hd)
   refine ⟨ν2, φ2,⟨by omega,by rw [List.append_assoc]; exact g2.mem,g1.le.trans g2.le,fun i hi=>?_,fun i b a a' hb=>?_⟩,v,us,rfl,c2,c1.le (Fz.le.refl _) g2.le⟩
   ·obtain ⟨a1,a2⟩:=g1.same i (by omega);obtain ⟨b1,b2⟩:=g2.same i (by omega);exact ⟨b1.trans a1,b2.trans a2⟩
   ·by_cases hi:i<n1
    ·exact List.mem_append_left _ (g2.fp i b a hi hb)
    ·rw [(g2.same i (by omega)).2] at hb;exact List.mem_append_right _ (g1.fp i b (by omega) a' hb)
theorem so_res {te:TypeId} {e:Ty} {xs:List (e.den τ)} {v:Value} {fp:List Nat} (ht:Tr P G h w (.so te e) xs v fp):fp=v.ownBlock.toList∧(∃a n c,v = .slice a n c)∧∃vs,zgV G w te (ets G e).length v xs.length vs∧RpR P G h e xs vs:=by
 cases ht with
 | fz _ _ _ hz _=>cases hz
 | so _ _ _ _ vs ho hr =>
  refine ⟨rfl,?_,vs,ho,hr⟩;obtain ⟨_,⟨rfl,_⟩|⟨g,d,cap,cur,rfl,_⟩⟩:=ho
  ·exact ⟨_,_,_,rfl⟩
  ·exact ⟨_,_,_,rfl⟩
theorem zML {n:Nat} {x:Option (τ n)} {v:Value} {fp:List Nat} (ht:Tr P G h w (.pn n) x v fp):∃u,v = .pointer u:=by
 cases ht with
 | fz _ _ _ hz _=>cases hz
 | pn0 _=>exact ⟨_,rfl⟩
 | pn1 _ _ _ _ hp =>
  cases hp with
  | fz _ _ _ hz _=>cases hz
  | po _ _ b vs fp hb hl hn _=>exact ⟨_,rfl⟩
theorem zDw (d:Nat):ExpOk P G w0 h0 F w h (zsd G d):=by
 induction d with
 | zero =>
  intro t x nid c U nid' v fp L ν φ e ht M hn hfr;exact base t x nid c U nid' v fp L ν φ (by cases t<;>exact e) ht M hn hfr
 | succ d ih =>
  intro t x nid c U nid' v fp L ν φ e ht M hn hfr
  by_cases hp:∃n,t = .po n
  ·obtain ⟨n,rfl⟩:=hp;unfold zsd at e
   split at e
   rename_i cs U1 n1 h1
   cases e;have l1:=zkr (zgw G d) h1
   cases ht with
   | fz _ _ _ hz _=>cases hz
   | po _ _ b vs fp hb hl hnb hmv =>
    obtain ⟨ν1, φ1,g1,c1⟩:=zy0 (zgw G d) ih h1 hl M (fun i a b=>hn i (by omega) b) (hfr.sub fun b hb=>List.mem_cons_of_mem _ hb)
    have hν1:ν1 nid=none:=by rw [(g1.same nid (by omega)).1]; exact hn nid (Nat.le_refl _) (by omega)
    have hf1:=zhX.grew g1 (hfr.sub (fp':=[b]) fun b' hb'=>by rw [List.mem_singleton.1 hb']; exact List.mem_cons_self ..) fun b' hb'=>by rw [List.mem_singleton.1 hb']; exact hnb
    have M2:=g1.mem.add hν1 (.blk (G.ti n) (zH9 (G.fs n) cs)) (ptr b 0,none) (fp:=[b]) ⟨b,none,vs,rfl,rfl,hb,(zJH c1 hmv).le (Fz.le.refl _) (zbw hν1)⟩ hf1;refine ⟨_,_,⟨by omega,M2,g1.le.trans (zbw hν1),fun i hi=>?_,fun i b' a a' hb'=>?_⟩,⟨some ⟨b,0,none⟩,none,zab _ _ _,rfl,fun e=>(e rfl).elim⟩⟩
    ·have hne:i≠nid:=by rintro rfl; exact hi ⟨Nat.le_refl _,by omega⟩
     rw [za2 _ _ hne,za2 _ _ hne];exact g1.same i (by omega)
    ·by_cases e:i=nid
     ·subst e;rw [zab] at hb';rw [List.mem_singleton.1 hb']; exact List.mem_cons_self ..
     ·rw [za2 _ _ e] at hb';exact List.mem_cons_of_mem _ (g1.fp i b' (by omega) a' hb')
  ·exact base t x nid c U nid' v fp L ν φ (by cases t<;>first|exact e|exact absurd ⟨_,rfl⟩ hp) ht M hn hfr
where
 base (t:Ty) (x:t.den τ) (nid:Nat) (c:CV τ) (U:Hp τ) (nid':Nat) (v:Value) (fp:List Nat) (L:Hp τ) (ν:Vn τ) (φ:Nat→List Nat) (e:zsd G 0 t x nid=(c,U,nid')) (ht:Tr P G h w t x v fp) (M:Mem P G w0 h0 F L w ν h φ)
  (hn:∀i,nid≤i→i<nid'→ν i=none) (hfr:zhX w0 h F φ fp):∃ν' φ',Grew P G w0 h0 F L w ν h φ U nid nid' fp ν' φ'∧zcT P G h ν' c v:=by
  have flat:frz t=true→zsd G 0 t x nid=(t.av x,[],nid)→∃ν' φ',Grew P G w0 h0 F L w ν h φ U nid nid' fp ν' φ'∧zcT P G h ν' c v:=by
   intro hz e2;rw [e] at e2;cases e2
   cases ht with
   | fz _ _ _ _ hr=>exact ⟨ν, φ,Grew.nil M _ _,zJF hr⟩
   | _=>cases hz
  cases t
  case so te e' =>
   cases e;obtain ⟨rfl,⟨a,n,c,rfl⟩,vs,ho,hr⟩:=so_res ht;have hn':=hn nid (Nat.le_refl _) (Nat.lt_succ_self _);exact ⟨_,_,Grew.one M hn' (.row te e' x nid) (.slice a n c,some ⟨e',x⟩) ⟨_,_,vs,_,rfl,rfl,ho,hr,zab _ _ _⟩ hfr,a,n,c,_,zab _ _ _,rfl⟩
  case po n =>
   cases e;have hn':=hn nid (Nat.le_refl _) (Nat.lt_succ_self _);have ht':=Tr.pn1 n x v fp ht;obtain ⟨u,rfl⟩:=zML ht';exact ⟨_,_,Grew.one M hn' (.tree n (some x)) (.pointer u,none) ⟨_,_,rfl,ht'⟩ hfr,u,none,zab _ _ _,by cases u<;>rfl,fun e=>(e rfl).elim⟩
  case pn n =>
   cases e;have hn':=hn nid (Nat.le_refl _) (Nat.lt_succ_self _);obtain ⟨u,rfl⟩:=zML ht;exact ⟨_,_,Grew.one M hn' (.tree n x) (.pointer u,none) ⟨_,_,rfl,ht⟩ hfr,u,none,zab _ _ _,by cases u<;>rfl,fun e=>(e rfl).elim⟩
  case sn te e0=>cases ht with|fz _ _ _ hz _=>cases hz
  all_goals exact flat rfl rfl
end
end Go.Rk
end
