/- The document's references and domains in both directions: what splitting and grind take. No program in sight. The docume -/
import Derived.Test.YtkbigjfhddediaaGreatDoorD0
import Derived.Test.YtkbigjfhddediaaGreatDoorTXU
set_option linter.unusedVariables false
set_option linter.unusedSimpArgs false
set_option linter.unusedVariables false
set_option maxRecDepth 10000
set_option maxHeartbeats 2000000
section
namespace Go.Dm
variable {s:Str} {G:Prop} {c:UInt8}
theorem upt_e (l:Str):upt l []=([],[]):=rfl
theorem upt_c (l:Str) (c:UInt8) (t:Str):upt l (c::t)=if l.contains c=true then ([],c::t) else (c::(upt l t).1,(upt l t).2):=by
 unfold upt;rw [List.takeWhile_cons,List.dropWhile_cons];cases l.contains c<;>simp
theorem zK5 (l s:Str):(upt l s).1++(upt l s).2=s:=List.takeWhile_append_dropWhile
theorem zK6 (l s:Str):tk s ((upt l s).1.length:Int)=(upt l s).1∧dr s ((upt l s).1.length:Int)=(upt l s).2∧((upt l s).1.length<s.length↔(upt l s).2≠[])∧(upt l s).1.length+(upt l s).2.length=s.length:=by
 have a:=congrArg List.length (zK5 l s);rw [List.length_append] at a;have h1:(upt l s).2=[]↔(upt l s).2.length=0:=List.length_eq_zero_iff.symm;refine ⟨?_,?_,by rw [ne_eq,h1]; omega,a⟩
 ·have:=List.take_left (l₁:=(upt l s).1) (l₂:=(upt l s).2)
  rwa [zK5] at this
 ·have:=List.drop_left (l₁:=(upt l s).1) (l₂:=(upt l s).2)
  rwa [zK5] at this
theorem upt_h (l s:Str):(upt l s).2=[]∨∃c t,(upt l s).2=c::t∧l.contains c=true:=by
 obtain ⟨b,e,rfl,h,_,h2⟩:=zqp l s;rw [h]; exact h2
theorem upt_2 (s:Str):(upt [58,47] s).2=[]∨(∃t,(upt [58,47] s).2=58::t)∨∃t,(upt [58,47] s).2=47::t:=by
 rcases upt_h [58,47] s with h|⟨c,t,h,hc⟩
 ·exact .inl h
 ·simp at hc
  rcases hc with rfl|rfl
  ·exact .inr (.inl ⟨t,h⟩)
  ·exact .inr (.inr ⟨t,h⟩)
theorem upt_m (c:UInt8) (s:Str):((upt [c] s).2=[]↔s.contains c=false):=by
 obtain ⟨b,e,rfl,h,h1,h2⟩:=zqp [c] s;rw [h]
 have d:b.contains c=false:=by
  rw [← Bool.not_eq_true];intro hc;have:=h1 c (by simpa using hc);simp at this
 constructor
 ·rintro rfl; simpa using d
 ·intro hc
  rcases h2 with rfl|⟨x,t,rfl,a⟩
  ·rfl
  ·have:x=c:=by simpa using a
   subst this; simp at hc
def rpQ (s f:Str) (a:Bool):z0s:=rrB (upt [63] s).1 (rrT (upt [63] s).2) f (!((upt [63] s).2==[])) a
theorem rp_0 (s:Str):rf4 s=rpQ (upt [35] s).1 (rrT (upt [35] s).2) (!((upt [35] s).2==[])):=(rr_eq s).symm
theorem rrT_n:rrT []=[]:=rfl
theorem rrT_c (c:UInt8) (t:Str):rrT (c::t)=t:=rfl
theorem rrT_d (s:Str) (i:Int) (h:0≤i):rrT (dr s i)=dr s (i+1):=by
 have e:(i+1).toNat=i.toNat+1:=by omega
 unfold dr; rw [e];rw [← List.tail_drop];cases s.drop i.toNat<;>rfl
theorem pre_p (c:UInt8) (s:Str):[c].isPrefixOf s=true↔∃t,s=c::t:=zOj c s
theorem pre_47:([47,47].isPrefixOf s=true↔1<(s.length:Int)∧tk s 2=[47,47]):=by
 rw [List.isPrefixOf_iff_prefix,List.prefix_iff_eq_take];unfold tk;simp only [List.length_cons,List.length_nil];constructor
 ·intro h;have:=congrArg List.length h;simp at this;exact ⟨by omega,h.symm⟩
 ·rintro ⟨_,h⟩; exact h.symm
def shs (s:Str):Bool:=s.all zvy
theorem shs_n:shs []=true:=rfl
theorem shs_c (c:UInt8) (s:Str):shs (c::s)=(zvy c&&shs s):=List.all_cons
theorem schm_2 (h:dr s 0=c::dr s (0+1)):zwZ s=(zlq c&&shs (dr s 1)):=by
 have e:s=c::dr s 1:=h;rw [e]
 have:zlq c=true→zvy c=true:=fun h=>by unfold zvy; rw [h]; rfl
 show (zlq c&&(c::dr s 1).all zvy)=(zlq c&&shs (dr (c::dr s 1) 1));have a:dr (c::dr s 1) 1=dr s 1:=rfl;rw [a,List.all_cons];unfold shs
 cases hc:zlq c with
 | false=>rfl
 | true=>rw [this hc,Bool.true_and,Bool.true_and]
theorem schB_i (c:UInt8):zvy c=(zlq c||zce c||([43,45,46]:Str).contains c):=by
 unfold zvy;simp only [List.contains_cons,List.contains_nil,Bool.or_false,Bool.or_assoc]
def V4 (s:Str):Prop:=s=49::46::49::32::dr s 4
def VP (s:Str) (r:z0o × Int):Prop:=(r=(⟨[],[49,46,49],dr s 4,[]⟩,0)↔zAd (dr s 4))
theorem V4_i (b:Str):V4 (([49,46,49]++[32])++b)∧dr (([49,46,49]++[32])++b) 4=b∧(([49,46,49]++[32])++b:Str).length=4+b.length:=⟨rfl,rfl,by simp; omega⟩
theorem V4_b {i:Int} (h:V4 s) (h0:0≤i) (a:i≤3) (hd:dr s i=c::dr s (i+1)):(c=32↔i=3):=by
 unfold V4 at h;generalize dr s 4=b at h;subst h
 have:i=0∨i=1∨i=2∨i=3:=by omega
 rcases this with rfl|rfl|rfl|rfl<;>(have:=(List.cons.inj hd).1; subst this; decide)
theorem V4_l (h:V4 s):4≤s.length∧tk s 3=[49,46,49]:=by
 unfold V4 at h;generalize dr s 4=b at h;subst h;exact ⟨by simp,rfl⟩
theorem sp_v:zx 47 [49,46,49]=[[49,46,49]]:=by decide
theorem tok_v:zhO [49,46,49]=true:=by decide
theorem hasA_n (l:Str):zvX l []=false:=rfl
theorem hasA_c (l:Str) (c:UInt8) (s:Str):zvX l (c::s)=(l.contains c||zvX l s):=List.any_cons
theorem v_in {i:Int} (h0:4≤i) (h:dr s i=32::dr s (i+1)):(32:UInt8)∈dr s 4∧sb s 4 i≠dr s 4:=by
 have b:=zkv (by omega) h;have e:=zIV (l:=s) (i:=4) (j:=i) (k:=s.length) (by decide) h0 (by omega) (Int.le_refl _);rw [sb_e (Int.le_refl _),h] at e;rw [zba (l:=s) (i:=s.length) (Int.le_refl _)] at e;constructor
 ·rw [e]; simp
 ·intro a;have:=congrArg List.length e;rw [a] at this;simp at this
theorem sb_no {i j:Int} (h:dr s j=c::dr s (j+1)) (h2:32∉sb s i j) (h0:0≤i) (h1:i≤j) (hc:¬ c=32):32∉sb s i (j+1):=by
 rw [sb_1 h0 h1 h];intro e
 rcases List.mem_append.1 e with e|e
 ·exact h2 e
 ·simp at e; exact hc e.symm
theorem sb_tk {i k:Int} (h0:0≤i) (h1:0≤k):sb s i (i+k)=tk (dr s i) k∧dr s (i+k)=dr (dr s i) k:=by
 have e:(i+k).toNat=i.toNat+k.toNat:=by omega
 unfold sb tk dr;rw [e,List.drop_drop];refine ⟨?_,rfl⟩;rw [List.drop_take]; congr 1; omega
theorem upt_z {l s:Str} (h:(upt l s).2=[]):(upt l s).1=s:=by
 have:=zK5 l s;rw [h,List.append_nil] at this; exact this
theorem up_47 {r:Int} (h:r=2+((upt [47] (dr s 2)).1.length:Int)):sb s 2 r=(upt [47] (dr s 2)).1:=by
 subst h;rw [(sb_tk (s:=s) (i:=2) (k:=((upt [47] (dr s 2)).1.length:Int)) (by decide) (by omega)).1];exact (zK6 _ _).1
theorem up_48 {r:Int} (h:r=2+((upt [47] (dr s 2)).1.length:Int)):dr s r=(upt [47] (dr s 2)).2:=by
 subst h;rw [(sb_tk (s:=s) (i:=2) (k:=((upt [47] (dr s 2)).1.length:Int)) (by decide) (by omega)).2];exact (zK6 _ _).2.1
theorem goE7 (h:G:=by
 (with_reducible repeat' first|intro _|refine And.intro ?_ ?_|refine Wf ?_ ?_|refine Wi ?_ ?_|refine Ws ?_|refine Wc ?_ ?_|refine Wo ?_ ?_|refine Wk ?_|refine We ?_ ?_)
 all_goals (try simp only [List.length_cons,List.length_nil])
 all_goals grind [upt_e,upt_c,shs_n,shs_c,zOV,schm_2,schB_i,zxn,zkv,fuel,zb5,zcV,zf5,zba,zaU,zbk,zaG]):G:=h
theorem goE8 (h:G:=by
 (with_reducible repeat' first|intro _|refine And.intro ?_ ?_|refine Wf ?_ ?_|refine Wi ?_ ?_|refine Ws ?_|refine Wc ?_ ?_|refine Wo ?_ ?_|refine Wk ?_|refine We ?_ ?_)
 all_goals (try subst_vars)
 all_goals (try simp only [List.length_cons,List.length_nil])
 all_goals grind [up_47,up_48,zK6,upt_m,upt_2,seg_58,pre_p,pre_47,rrT_n,rrT_c,rrT_d,rrA,rrB,rpQ,rp_0,zH5,zw0,n37,Um,zkv,fuel,zb5,zcV,zf5,zba,zaU,zbk,zaG]):G:=h
theorem zzm (h:G:=by
 (with_reducible repeat' first|intro _|refine And.intro ?_ ?_|refine Wf ?_ ?_|refine Wi ?_ ?_|refine Ws ?_|refine Wc ?_ ?_|refine Wo ?_ ?_|refine Wk ?_|refine We ?_ ?_)
 all_goals (try subst_vars)
 all_goals (try simp only [List.length_cons,List.length_nil])
 all_goals grind [VP,V4_i, → V4_b, → V4_l,sp_v,tok_v,hasA_n,hasA_c, → v_in, → sb_no,sb_e,zyX,zNH,zAd,byP,dnP,okD,zNq,zNr,Swm,zxn,zkv,fuel,zb5,zcV,zf5,zba,zaU,zbk,zaG]):G:=h
theorem goEA (h:G:=by
 (with_reducible repeat' first|intro _|refine And.intro ?_ ?_|refine Wf ?_ ?_|refine Wi ?_ ?_|refine Ws ?_|refine Wc ?_ ?_|refine Wo ?_ ?_|refine Wk ?_|refine We ?_ ?_)
 all_goals (try subst_vars)
 all_goals (try simp only [List.length_cons,List.length_nil])
 all_goals grind [okL,zOW,zOX,stC,Swm,fuel,zb5,zcV,zf5,zba,zaU]):G:=h
theorem goEB (h:G:=by
 (with_reducible repeat' first|intro _|refine And.intro ?_ ?_|refine Wf ?_ ?_|refine Wi ?_ ?_|refine Ws ?_|refine Wc ?_ ?_|refine Wo ?_ ?_|refine Wk ?_|refine We ?_ ?_)
 all_goals (try subst_vars)
 all_goals (try simp only [List.length_cons,List.length_nil])
 all_goals grind [zK6,upt_z,rrT_n,rrT_d,rpQ,rp_0,zH5,Um,fuel]):G:=h
end Go.Dm
end
section
namespace Go.Dm
variable {s:Str} {c:UInt8} {G:Prop} {n:Int} {i:Int} {o:List zZX} {p:zZX}
def adP (o:List zZX) (p:zZX):List zZX:=if p.Kind=1 then adT o p.Text else o++[p]
def PRo (s:Str) (p:zZX) (n:Int):Prop:=∀o l,PR o s l↔(0<n∧PR (adP o p) (dr s n) l)
def NoP (s:Str):Prop:=∀o l, ¬ PR o s l
theorem NoP_p (h:NoP s) (hn:n=0):PRo s p n:=fun o l=>⟨fun a=>absurd a (h o l),fun a=>absurd a.1 (by omega)⟩
theorem zIf (h:∀o l, ¬ PR o s l):NoP s:=h
theorem PRo_1 (h:dr s 0=c::dr s (0+1)) (hc:c≠36):(zEn c=true→PRo s ⟨1,tk s 1⟩ 1)∧(zEn c=false→NoP s):=by
 have e:s=c::dr s 1:=h
 have hp:plB c=zEn c:=by
  have:(c==36)=false:=by simpa using hc
  unfold plB; rw [this]; simp
 constructor
 ·intro a o l
  have b:tk s 1=[c]:=by rw [e]; rfl
  rw [b];have:=PR_1 (o:=o) (r:=l) (t:=dr s 1) (hp.trans a);rw [← e] at this;rw [this]; unfold adP; simp
 ·intro a;refine zIf fun o l=>?_;rw [e];exact PR_x (hp.trans a) (fun u e=>hc (List.cons.inj e).1) fun u e=>hc (List.cons.inj e).1
theorem PRo_2 (h:dr s 0=36::dr s (0+1)) (h1:dr s 1=36::dr s (1+1)):PRo s ⟨1,[36]⟩ 2:=by
 intro o l
 have e:s=36::36::dr s 2:=by
  have a:s=36::dr s 1:=h;have b:dr s 1=36::dr s 2:=h1;rw [← b]; exact a
 have:=PR_2 (o:=o) (r:=l) (t:=dr s 2);rw [← e] at this;rw [this]; unfold adP; simp
def U5 (s:Str) (n:Int):Prop:=125∉tk s n∧0≤n∧n≤s.length∧(n<s.length→dr s n=125::dr s (n+1))
theorem u125 (hn:U5 s n):(125∉tk s n)∧(n<s.length→dr s n=125::dr s (n+1))∧((s.length:Int)≤n→125∉s) :=
 ⟨hn.1,hn.2.2.2,fun h=>by have:=hn.1; rwa [zIU h] at this⟩
theorem zPa (h:dr s 0=36::dr s (0+1)) (h1:dr s 1=123::dr s (1+1)) (hn:U5 s n) (m:n<s.length) (p:3≤n) :
  s=36::123::(sb s 2 n++125::dr s (n+1))∧125∉sb s 2 n∧sb s 2 n≠[]∧((sb s 2 n).length:Int)=n-2:=by
 obtain ⟨f,g,_⟩:=u125 hn;have a:s=36::dr s 1:=h;have b:dr s 1=123::dr s 2:=h1
 have c:dr s 2=sb s 2 n++dr s n:=by
  have:=zIV (l:=s) (i:=2) (j:=n) (k:=s.length) (by decide) (by omega) (by omega) (Int.le_refl _);rw [sb_e (Int.le_refl _)] at this;rw [this]
  congr 1
  rw [zba (l:=s) (i:=s.length) (Int.le_refl _)];exact List.take_length
 have d:((sb s 2 n).length:Int)=n-2:=zNH (by decide) (by omega) (by omega);refine ⟨?_,fun o=>f (List.mem_of_mem_drop o),?_,by omega⟩
 ·rw [← g m, ← c, ← b]; exact a
 ·intro e; rw [e] at d; simp at d; omega
def N36 (s:Str):Prop:=1<(s.length:Int)→∃c,dr s 1=c::dr s (1+1)∧c≠36
theorem N36_i (h:dr s 1=c::dr s (1+1)) (hc:¬ c=36):N36 s:=fun _=>⟨c,h,hc⟩
theorem N36_e (h:¬ 1<(s.length:Int)):N36 s:=fun h2=>absurd h2 h
theorem N36_u (h:N36 s) (h2:dr s 1=c::dr s (1+1)):c≠36:=by
 have a:=zkv (by decide) h2;obtain ⟨d,hd,hn⟩:=h a;rw [h2] at hd;rw [(List.cons.inj hd).1]; exact hn
theorem one_no (h:dr s 0=36::dr s (0+1)) (h2:N36 s) (hn:U5 s n) (i:n=s.length∨n<3):NoP s:=by
 obtain ⟨q,f,j⟩:=u125 hn;have a:s=36::dr s 1:=h;refine zIf fun o l=>?_
 by_cases k:1<(s.length:Int)
 ·obtain ⟨c,b,hc⟩:=h2 k
  replace b:dr s 1=c::dr s 2:=b
  by_cases d:c=123
  ·subst d
   have e:s=36::123::dr s 2:=by rw [← b]; exact a
   rw [e];show ¬ PRn o (dr s 2) l
   rcases i with i|i
   ·refine PRn_4 fun g=>j (by omega) ?_;rw [e]; simp [g]
   ·by_cases p:n<s.length
    ·have f:=f p;have t:=hn.2.2.1;have r:=hn.2.1
     have m:n=2:=by
      have n0:n≠0:=by rintro rfl; rw [zf5] at f; rw [f] at a; cases (List.cons.inj a).1
      have v:n≠1:=by rintro rfl; rw [f] at b; cases (List.cons.inj b).1
      omega
     subst m;rw [f]; exact PRn_3
    ·refine PRn_4 fun g=>j (by omega) ?_;rw [e]; simp [g]
  ·have e:s=36::c::dr s 2:=by rw [← b]; exact a
   rw [e];exact PR_x zJL (fun u e=>hc (by simpa using (List.cons.inj (List.cons.inj e).2).1)) fun u e=>d (by simpa using (List.cons.inj (List.cons.inj e).2).1)
 ·have hd:dr s 1=[]:=zba (by omega);rw [a,hd]
  exact PR_x zJL (fun u e=>by cases e) fun u e=>by cases e
theorem one_x (h:dr s 0=36::dr s (0+1)) (h1:dr s 1=c::dr s (1+1)) (hc:c≠36) (h2:c≠123):NoP s:=by
 have a:s=36::dr s 1:=h;have b:dr s 1=c::dr s 2:=h1;refine zIf fun o l=>?_
 have e:s=36::c::dr s 2:=by rw [← b]; exact a
 rw [e];exact PR_x zJL (fun u e=>hc (by simpa using (List.cons.inj (List.cons.inj e).2).1)) fun u e=>h2 (by simpa using (List.cons.inj (List.cons.inj e).2).1)
theorem one_f (h:dr s 0=36::dr s (0+1)) (h1:dr s 1=123::dr s (1+1)) (hn:U5 s n) (j:n<s.length) (f:3≤n)
  (g:dr (sb s 2 n) 0=64::dr (sb s 2 n) (0+1)):(zhO (dr (sb s 2 n) 1)=true→PRo s ⟨3,dr (sb s 2 n) 1⟩ (n+1))∧(zhO (dr (sb s 2 n) 1)=false→NoP s):=by
 obtain ⟨e,i,_,_⟩:=zPa h h1 hn j f;have d:sb s 2 n=64::dr (sb s 2 n) 1:=g
 generalize dr (sb s 2 n) 1=a at *
 have b:(125:UInt8)∉a:=fun x=>i (by rw [d]; simp [x])
 have key:∀o l,PR o s l↔(zhO a=true∧PR (o++[⟨3,a⟩]) (dr s (n+1)) l):=fun o l=>by
  rw [← PRn_1 b]
  conv=>lhs; rw [e,d]
  rfl
 constructor
 ·intro c o l;rw [key o l,adP,if_neg (by intro e; cases e)];exact ⟨fun x=>⟨by omega,x.2⟩,fun x=>⟨c,x.2⟩⟩
 ·intro c;refine zIf fun o l=>?_;rw [key o l,c]; simp
def sms (s:Str):Bool:=s.all smB
theorem sms_n:sms []=true:=rfl
theorem sms_c (c:UInt8) (s:Str):sms (c::s)=(smB c&&sms s):=List.all_cons
theorem sm_az (c:UInt8):smB c=([97,98,99,100,101,102,103,104,105,106,107,108,109,110,111,112,113,114,115,116,117,118,119,120,121,122]:Str).contains c:=by
 have:=zpX (p:=fun c=>smB c==([97,98,99,100,101,102,103,104,105,106,107,108,109,110,111,112,113,114,115,116,117,118,119,120,121,122]:Str).contains c) (by decide +kernel) c;simpa using this
theorem one_v (h:dr s 0=36::dr s (0+1)) (h1:dr s 1=123::dr s (1+1)) (hn:U5 s n) (k:n<s.length) (g:3≤n)
  (i:dr (sb s 2 n) 0=c::dr (sb s 2 n) (0+1)) (hc:c≠64):(sms (sb s 2 n)=true→PRo s ⟨2,sb s 2 n⟩ (n+1))∧(sms (sb s 2 n)=false→NoP s):=by
 obtain ⟨e,j,b,_⟩:=zPa h h1 hn k g;have m:sb s 2 n=c::dr (sb s 2 n) 1:=i;have a:∀u,sb s 2 n≠64::u:=fun u f=>hc (by rw [m] at f; exact (List.cons.inj f).1)
 have key:∀o l,PR o s l↔(sms (sb s 2 n)=true∧PR (o++[⟨2,sb s 2 n⟩]) (dr s (n+1)) l):=fun o l=>by
  rw [sms, ← PRn_2 j b a]
  conv=>lhs; rw [e]
  rfl
 constructor
 ·intro d o l;rw [key o l,adP,if_neg (by intro e; cases e)];exact ⟨fun x=>⟨by omega,x.2⟩,fun x=>⟨d,x.2⟩⟩
 ·intro d;refine zIf fun o l=>?_;rw [key o l,d]; simp
theorem adP_1 {p q:zZX} (h:lAt o i=some q) (hi:i=(o.length:Int)-1) (hp:p.Kind=1) (a:q.Kind=1):adP o p=o.set i.toNat ⟨1,q.Text++p.Text⟩:=by
 unfold adP; rw [if_pos hp,adT_2 h _ hi a]
theorem adP_2 {p q:zZX} (h:lAt o i=some q) (hi:i=(o.length:Int)-1) (hp:p.Kind=1) (a:¬ q.Kind=1):adP o p=o++[p]:=by
 unfold adP; rw [if_pos hp,adT_3 h _ hi a];cases p; simp at hp; subst hp; rfl
theorem adP_0 (h:o.length=0∨¬ p.Kind=1):adP o p=o++[p]:=by
 unfold adP
 split
 ·rename_i hp
  rcases h with h|h
  ·rw [adT_0 h]; cases p; simp at hp; subst hp; rfl
  ·exact absurd hp h
 ·rfl
theorem dbl_n:dbl []=[]:=rfl
theorem zPb (c:UInt8) (s:Str):dbl (c::s)=if c=36 then 36::36::dbl s else c::dbl s:=rfl
theorem prP_1 (p:zZX):(p.Kind=1→prP p=dbl p.Text)∧(p.Kind=2→prP p=[36,123]++(p.Text++[125]))∧(p.Kind=3→prP p=[36,123,64]++(p.Text++[125]))∧(p.Kind≠1∧p.Kind≠2∧p.Kind≠3→prP p=[]):=by
 unfold prP;refine ⟨fun h=>by rw [if_pos h],fun h=>by rw [if_neg (by omega),if_pos h],fun h=>by rw [if_neg (by omega),if_neg (by omega),if_pos h],fun h=>by rw [if_neg h.1,if_neg h.2.1,if_neg h.2.2]⟩
theorem U5_s (h:dr s i=c::dr s (i+1)) (h2:125∉tk s i) (h0:0≤i) (hc:¬ c=125):125∉tk s (i+1):=by
 rw [zyW h0 h];intro e
 rcases List.mem_append.1 e with e|e
 ·exact h2 e
 ·simp at e; exact hc e.symm
theorem U5_i (h:dr s i=125::dr s (i+1)) (h2:125∉tk s i) (h0:0≤i):U5 s i:=⟨h2,h0,by have:=zkv h0 h; omega,fun _=>h⟩
theorem U5_e (h:i=(s.length:Int)) (h2:125∉tk s i):U5 s i:=⟨h2,by omega,by omega,fun h=>by omega⟩
theorem gr0 (h:G:=by
 (with_reducible repeat' first|intro _|refine And.intro ?_ ?_|refine Wf ?_ ?_|refine Wi ?_ ?_|refine Ws ?_|refine Wc ?_ ?_|refine Wo ?_ ?_|refine Wk ?_|refine We ?_ ?_)
 all_goals (try simp only [List.length_cons,List.length_nil])
 all_goals grind [sms_n,sms_c,sm_az,fuel,zf5,zba,zaU]):G:=h
theorem gr1 (h:G:=by
 (with_reducible repeat' first|intro _|refine And.intro ?_ ?_|refine Wf ?_ ?_|refine Wi ?_ ?_|refine Ws ?_|refine Wc ?_ ?_|refine Wo ?_ ?_|refine Wk ?_|refine We ?_ ?_)
 all_goals (try simp only [List.length_cons,List.length_nil])
 all_goals grind [→ U5_s, → U5_i, → U5_e, → N36_i,N36_e, → N36_u,NoP_p, → PRo_1,PRo_2, → one_no, → one_x, → one_f, → one_v, → zPa,zxn,zAn,zkv,fuel,zf5,zba,zaU]):G:=h
theorem PRo_a {o l:List zZX} (h:PRo s p n) (h2:PR o s l):0<n∧PR (adP o p) (dr s n) l:=(h o l).1 h2
theorem PRo_c {s t:Str} {o q l:List zZX} (h:PRo s p n) (h2:PR q t l) (hn:0<n) (b:t=dr s n) (a:q=adP o p):PR o s l:=(h o l).2 ⟨hn,by rw [← b, ← a]; exact h2⟩
theorem gr2 (h:G:=by
 (with_reducible repeat' first|intro _|refine And.intro ?_ ?_|refine Wf ?_ ?_|refine Wi ?_ ?_|refine Ws ?_|refine Wc ?_ ?_|refine Wo ?_ ?_|refine Wk ?_|refine We ?_ ?_)
 all_goals (try simp only [List.length_cons,List.length_nil])
 all_goals grind [→ PRo_a,PRo_c,PR_e,adP_1,adP_2,adP_0,zBi,fuel,zb5,zcV,zf5,zba,zaU]):G:=h
def pe (l:List zZX) (i:Int):zZX:=(lAt l i).getD ⟨0,[]⟩
theorem pe_e {l:List zZX} {r:zZX} (h:lAt l i=some r):pe l i=r:=by unfold pe; rw [h]; rfl
theorem fok_e (n v:Str):fokB n v=(zhO n&&vls v&&zIT v==v):=rfl
theorem fre_e (n:Str):zJK n=(zhO n && !zDs n):=rfl
def actR (r:zZ1):Prop:=((r.Kind=1∨r.Kind=2)∧r.To=[]∧zBi r.Parts (prA r.Parts))∨(r.Kind=3∧r.To=[]∧r.Parts=[])∨(r.Kind=4∧zJK r.To=true∧r.Parts=[])
def kns (s:Int):List Str:=(zC2 s).getD []
theorem kns_e (s:Int):(s=1→kns s=[[99,108,105,101,110,116],[104,111,115,116],[109,101,116,104,111,100],[112,97,116,104],[115,99,104,101,109,101]])∧(s=2→kns s=[[99,108,105,101,110,116],[104,111,115,116],[115,99,104,101,109,101],[115,116,97,116,117,115]])∧(s≠1→s≠2→kns s=[]):=by
 unfold kns zC2;refine ⟨fun h=>by rw [if_pos h]; rfl,fun h=>by rw [if_neg (by omega),if_pos h]; rfl,fun h h2=>by rw [if_neg h,if_neg h2]; rfl⟩
theorem rul_e (r:zZ1):zHQ r↔(r.Side=1∨r.Side=2)∧guaP r.Guard∧zJK r.Name=true∧zFI (kns r.Side) (nmF [] r.Parts)∧actR r:=by
 have f:zC2 r.Side≠none↔(r.Side=1∨r.Side=2):=by
  unfold zC2
  by_cases h:r.Side=1
  ·simp [h]
  ·by_cases h2:r.Side=2
   ·simp [h2]
   ·simp [h,h2]
 unfold zHQ actP actR parP;rw [f];show _↔_;constructor
 ·rintro ⟨h1,h2,e,⟨a,b,c,d⟩|⟨a,b,c⟩|⟨a,b,c⟩⟩
  ·exact ⟨h1,h2,e,c,.inl ⟨a,b,d⟩⟩
  ·exact ⟨h1,h2,e,by rw [c]; trivial,.inr (.inl ⟨a,b,c⟩)⟩
  ·exact ⟨h1,h2,e,by rw [c]; trivial,.inr (.inr ⟨a,b,c⟩)⟩
 ·rintro ⟨h1,h2,e,k,⟨a,b,d⟩|⟨a,b,c⟩|⟨a,b,c⟩⟩
  ·exact ⟨h1,h2,e,.inl ⟨a,b,k,d⟩⟩
  ·exact ⟨h1,h2,e,.inr (.inl ⟨a,b,c⟩)⟩
  ·exact ⟨h1,h2,e,.inr (.inr ⟨a,b,c⟩)⟩
open Classical in
noncomputable def gwC (e:z0g) (c:z0Q) (l:List zZ1):Int:=if stC e≠0 then stC e else if c.Head<1∨65536<c.Head∨c.Chunk<1∨65536<c.Chunk∨c.Queue<1∨64<c.Queue then 1 else if zod l then (if 64<l.length then 3 else 0) else 9
theorem sb_c {i j:Int} (h:dr s i=c::dr s (i+1)) (a:j=i+1) (h0:0≤i):sb s i j=[c]:=by
 subst a; rw [sb_s h0 (by omega) h,zyX]
theorem dbl_2 {t:Str} (h:dr t i=c::dr t (i+1)) (hc:¬ c=36) (h0:0≤i) (a:Str):(a++sb t i (i+1))++dbl (dr t (i+1))=a++dbl (dr t i):=by
 rw [sb_c h rfl h0,h,zPb,if_neg hc,List.append_assoc]; rfl
theorem dbl_3 {t:Str} (h:dr t i=36::dr t (i+1)) (h0:0≤i) (a:Str):((a++[36])++sb t i (i+1))++dbl (dr t (i+1))=a++dbl (dr t i):=by
 rw [sb_c h rfl h0,h,zPb,if_pos rfl,List.append_assoc,List.append_assoc]; rfl
theorem gr7 (h:G:=by
 (with_reducible repeat' first|intro _|refine And.intro ?_ ?_|refine Wf ?_ ?_|refine Wi ?_ ?_|refine Ws ?_|refine Wc ?_ ?_|refine Wo ?_ ?_|refine Wk ?_|refine We ?_ ?_)
 all_goals (try subst_vars)
 all_goals (try simp only [List.length_cons,List.length_nil])
 all_goals grind [dbl_n,dbl_2,dbl_3, → pe_e,Tp,fuel,zb5,zf5,zba,zaU]):G:=h
theorem gr3 (h:G:=by
 (with_reducible repeat' first|intro _|refine And.intro ?_ ?_|refine Wf ?_ ?_|refine Wi ?_ ?_|refine Ws ?_|refine Wc ?_ ?_|refine Wo ?_ ?_|refine Wk ?_|refine We ?_ ?_)
 all_goals (try subst_vars)
 all_goals (try simp only [List.length_cons,List.length_nil])
 all_goals grind (gen:=12) (ematch:=12) [prA_n,prA_c,prP_1,dbl_n,zPb,zBi, → pe_e,sb_c,List.append_assoc,Tp,fuel,zb5,zf5,zba,zaU]):G:=h
theorem gr4 (h:G:=by
 (with_reducible repeat' first|intro _|refine And.intro ?_ ?_|refine Wf ?_ ?_|refine Wi ?_ ?_|refine Ws ?_|refine Wc ?_ ?_|refine Wo ?_ ?_|refine Wk ?_|refine We ?_ ?_)
 all_goals (try simp only [List.length_cons,List.length_nil])
 all_goals grind (gen:=14) (ematch:=14) [zIQ,conn,ownN,zDs,fok_e,guaP,Gm,fuel]):G:=h
theorem gr5 (h:G:=by
 (with_reducible repeat' first|intro _|refine And.intro ?_ ?_|refine Wf ?_ ?_|refine Wi ?_ ?_|refine Ws ?_|refine Wc ?_ ?_|refine Wo ?_ ?_|refine Wk ?_|refine We ?_ ?_)
 all_goals (try simp only [List.length_cons,List.length_nil])
 all_goals grind [→ zK1,elt_d, → pe_e,nmF_n,nmF_c,zOt,zOu,fre_e,actR,kns_e,rul_e,zKJ,zKK,Rm,Tp,Rl,Gm,fuel,zb5,zcV,zf5,zba,zaU]):G:=h
theorem gr6 (h:G:=by
 (with_reducible repeat' first|intro _|refine And.intro ?_ ?_|refine Wf ?_ ?_|refine Wi ?_ ?_|refine Ws ?_|refine Wc ?_ ?_|refine Wo ?_ ?_|refine Wk ?_|refine We ?_ ?_)
 all_goals (try simp only [List.length_cons,List.length_nil])
 all_goals grind [gwC,fuel]):G:=h
end Go.Dm
end
section
namespace Go.Dm
instance (c:Str) (e:UInt8) (n:Nat) (d:List Str) (b:Int) (a:Int):T (zf9 c e n d b a) (0≤b∧b≤a∧a≤c.length∧c.length<a+n∧c.length<1000000000∧d.length≤a) (fun r=>r=ptR c e d b a):=by
 induction n generalizing d b a
 ·exact ⟨goz⟩
 exact ⟨by unfold zf9; exact zJZ⟩
instance (a:Str) (b:UInt8):T (zj4 a b) (a.length<1000000000) (fun r=>r=zx b a):=⟨by unfold zj4; exact zJZ⟩
instance (c:UInt8) (a:Int):T (zmh c a) (a=10) (fun r => -1≤r∧r≤9∧(0≤r→zce c=true∧r=(c.toNat:Int)-48)∧(zce c=true→0≤r)):=⟨fun h=>by
 subst h;have:=zpX (p:=fun b=>match zmh b 10 with|some r=>decide (-1≤r∧r≤9∧(0≤r→zce b=true∧r=(b.toNat:Int)-48)∧(zce b=true→0≤r))|none=>false) (by decide +kernel) c
 split at this
 ·rename_i r e; exact ⟨r,e,of_decide_eq_true this⟩
 ·cases this⟩
instance (n:Nat) (b a:Int):T (zez n b a) (a=10∧0≤b∧b≤9223372036854775807∧20≤n) (fun r=>r=Go.Lib.decDigits b.toNat∧r.length≤20):=⟨fun ⟨h,h0,h1,hn⟩=>by
 subst h; exact zO6 20 n b hn (by decide) h0 (by omega) h1 (by decide)⟩
instance (b:Int) (a:Int):T (zix b a) (a=10∧0≤b∧b≤9223372036854775807) (fun r=>r=Go.Lib.decDigits b.toNat∧r.length≤20):=⟨by unfold zix; exact goRn⟩
instance (b:Str) (d:Int) (n:Nat) (c:Str) (a:Int):T (zeA b d n c a) (0≤a∧a≤b.length∧b.length<a+n∧b.length<1000000000∧d=10∧dgs c=true∧c.length≤20*a) (fun r=>(r.2=true↔dgs (dr b a)=true∧b≠[])∧(r.2=true→r.1=plf (pln c (dr b a))∧dgs r.1=true)):=by
 induction n generalizing c a
 ·exact ⟨goz⟩
 exact ⟨by unfold zeA zkE; exact goE1⟩
instance (b:Str) (a:Int):T (zoy b a) (b.length<1000000000∧a=10) (fun r=>(r.2=true↔dgs b=true∧b≠[])∧(r.2=true→r.1=plf (pln [] b)∧dgs r.1=true)):=⟨by unfold zoy; exact goE1⟩
instance (b:Str) (a:Str):T (zq5 b a) (True) (fun r=>r=true↔b.length<a.length∨(b.length=a.length∧zjs b a=true)):=⟨by unfold zq5; exact zJZ⟩
instance (d:Int) (c:Str) (n:Nat) (b:Int) (a:Int):T (zjc d c n b a) (0≤a∧a≤c.length∧c.length<a+n∧c.length≤5∧d=10∧dgs c=true∧0≤b∧dvI b (dr c a)≤10000000∧dgs (dr c a)=true) (fun r=>r=(dvI b (dr c a),0)):=by
 induction n generalizing b a
 ·exact ⟨goz⟩
 exact ⟨fun h=>by obtain ⟨h1,h2,e,g,rfl,f⟩:=h<;>(unfold zjc; exact goRn)⟩
instance (c:Str) (b:Int) (a:Int):T (zq6 c b a) (c.length<1000000000∧b=10∧(a=255∨a=65535)) (fun r=>0≤r.1∧r.1≤a∧(zhx c a→r=(dvI 0 c,0))):=⟨by unfold zq6; exact goE2⟩
instance (b:Int) (a:Int):T (zq7 b a) (a=10∧b≤9223372036854775807) (fun r=>r.length≤20∧if 0≤b then r=Go.Lib.decDigits b.toNat else r=[]):=⟨by unfold zq7; exact goRn⟩
instance (b:Str) (a:Int):T (zmi b a) (b.length<1000000000∧(a=255∨a=65535)) (fun r => -1≤r∧(0≤r↔zhx b a)):=⟨by unfold zmi; exact goE2⟩
instance (a:List Str) (n:Nat) (i4:Int):T (zjd a n i4) (0≤i4∧i4≤a.length∧a.length<i4+n∧Sm a) (fun r=>r=true↔a.length=4∧allS (dr a i4)):=by
 induction n generalizing i4
 ·exact ⟨goz⟩
 exact ⟨by unfold zjd; exact goE3⟩
instance (a:Str):T (zjT a) (a.length<900000000) (fun r=>r=true↔zmB a):=⟨by unfold zjT; exact goE3⟩
instance (a:UInt8) (s1:Str) (n:Nat) (i5:Int):T (zj5 a s1 n i5) (0≤i5∧i5≤s1.length∧s1.length<i5+n∧s1.length<1000000000) (fun r=>r=(dr s1 i5).contains a):=by
 induction n generalizing i5
 ·exact ⟨goz⟩
 exact ⟨by unfold zj5; exact zJZ⟩
instance (b:UInt8) (a:Str):T (zga b a) (a.length<1000000000) (fun r=>r=a.contains b):=⟨by unfold zga; exact zJZ⟩
instance (b:UInt8):T (ziy b) True (fun r=>r=zlr b):=bt (by decide +kernel) b
end Go.Dm
end
section
namespace Go.Dm
instance {P:Bool→Prop} (f:Int→Int→Option Bool) (c:List Str) (i4:Int) (i5:Int) (n:Nat) (d:Int):K (zhT f c i4 i5 n d) P ((Sm c∧0≤i5∧i5<c.length∧0≤d∧d≤(elt c i5).length∧(elt c i5).length<d+n∧(elt c i5).length<1000000000∧hxs (tk (elt c i5) d)=true∧0≤i4∧i4≤2*i5∧(zsf (elt c i5)=false→P false))∧(∀a b,a=i4+1∧b=i5+1∧dr c i5=elt c i5::dr c (i5+1)∧zsf (elt c i5)=true→W (f a b) P)):=by
 induction n generalizing d
 ·exact ⟨goz⟩
 exact ⟨fun ⟨h,e⟩=>by have e:=fun a0 g=>K.mk (e a0 g); unfold zhT; exact goE3⟩
instance (a:List Str) (n:Nat) (i4:Int) (i5:Int):T (zdv a n i4 i5) (Sm a∧a.length≤900000001∧(∀x∈a,x.length<900000000)∧0≤i5∧i5≤a.length∧a.length<i5+n∧0≤i4∧i4≤2*i5) (fun r=>r=true↔GT (dr a i5) i4):=by
 induction n generalizing i4 i5
 ·exact ⟨goz⟩
 exact ⟨by unfold zdv zkF; exact goE3⟩
instance (a:Str):T (zmj a) (a.length<900000000) (fun r=>r=true↔Grp true (zx 58 a) 8):=⟨by unfold zmj; exact goE3⟩
instance {P:Bool→Prop} (e:Int→Option Bool) (a:Str) (i3:Int) (i4:Int) (n:Nat) (d:Str) (b:Int):K (zgK e a i3 i4 n d b) P ((a.length<800000000∧0≤i3∧i3+2≤a.length∧1≤i4∧i4≤8∧0≤b∧b≤i4∧i4<b+n∧d.length≤i3+2*b∧SZ a i3 b d∧(wz (tk a i3) (dr a (i3+2)) i4→P true))∧(∀i,i=i4+1∧¬ wz (tk a i3) (dr a (i3+2)) i4→W (e i) P)):=by
 induction n generalizing d b
 ·exact ⟨goz⟩
 exact ⟨fun ⟨h,c⟩=>by have c:=fun a0=>K.mk (c a0); unfold zgK znj znk; exact goE4⟩
instance (a:Str) (i3:Int) (n:Nat) (i4:Int):T (zfh a i3 n i4) (a.length<800000000∧0≤i3∧i3+2≤a.length∧1≤i4∧i4≤9∧9<i4+n) (fun r=>r=true↔sxW (tk a i3) (dr a (i3+2)) i4):=by
 induction n generalizing i4
 ·exact ⟨goz⟩
 exact ⟨by unfold zfh; exact goE4⟩
instance (a:Str) (n:Nat) (i3:Int):T (ziz a n i3) (a.length<800000000∧0≤i3∧i3≤a.length∧a.length<i3+n) (fun r=>r=true↔zrx a i3):=by
 induction n generalizing i3
 ·exact ⟨goz⟩
 exact ⟨by unfold ziz; exact goE4⟩
instance (a:Str):T (ztH a) (a.length<800000000) (fun r=>r=true↔zvw a):=⟨by unfold ztH; exact goE4⟩
instance (b:UInt8):T (zer b) True (fun r=>r=zqE b):=bt (by decide +kernel) b
instance (b:UInt8):T (zny b) True (fun r=>r=zEm b):=bt (by decide +kernel) b
instance (a:Str) (n:Nat) (i3:Int):T (zei a n i3) (0≤i3∧i3≤a.length∧a.length<i3+n∧a.length<1000000000) (fun r=>r=true↔zjq (dr a i3)=true∧0<a.length):=by
 induction n generalizing i3
 ·exact ⟨goz⟩
 exact ⟨by unfold zei zlC; exact goE5⟩
instance (a:Str):T (zlv a) (a.length<1000000000) (fun r=>r=true↔zjq a=true∧a≠[]):=⟨by unfold zlv; exact goE5⟩
instance (a:Str):T (zti a) (a.length<800000000) (fun r=>(r.Kind≠0↔zrM a)∧(r.Kind≠0→r.Port = -1)):=⟨by unfold zti zj6; exact goE6⟩
instance (a:Str) (n:Nat) (i5:Int):T (zhU a n i5) (a.length<800000000 ∧ -1≤i5∧i5<a.length∧i5+1<n∧58∉dr a (i5+1)) (fun r=>(r.2=0↔zuJ a)∧(r.2=0∨r.2=27)):=by
 induction n generalizing i5
 ·exact ⟨goz⟩
 exact ⟨by unfold zhU; exact goE6⟩
instance (a:Str):T (zmk a) (a.length<800000000) (fun r=>(r.2=0↔zrM a∨zuJ a)∧(r.2=0∨r.2=27)):=⟨by unfold zmk; exact goE6⟩
end Go.Dm
end
section
namespace Go.Dm
instance (b:UInt8):T (zqi b) True (fun r=>r=zpj b):=bt (by decide +kernel) b
instance (a:Str) (n:Nat) (i3:Int):T (zhV a n i3) (0≤i3∧i3≤a.length∧a.length<i3+n∧a.length<1000000000) (fun r=>r=((dr a i3).all zpj&&decide (0<a.length))):=by
 induction n generalizing i3
 ·exact ⟨goz⟩
 exact ⟨by unfold zhV; exact zJZ⟩
instance (a:Str):T (zbi a) (a.length<1000000000) (fun r=>r=zhO a):=⟨by unfold zbi; exact zJZ⟩
instance (b:UInt8):T (zgy b) True (fun r=>r=zEn b):=bt (by decide +kernel) b
instance (a:Str) (n:Nat) (i3:Int) (i4:Int):T (zbP a n i3 i4) (0≤i4∧i4≤a.length∧a.length<i4+n∧a.length<1000000000∧0≤i3∧i3≤i4) (fun r=>True):=by
 induction n generalizing i3 i4
 ·exact ⟨goz⟩
 exact ⟨by unfold zbP ziB ziA; exact go⟩
instance (a:Str):T (zlD a) (a.length<1000000000) (fun r=>True):=⟨by unfold zlD; exact go⟩
instance (a:Str) (n:Nat) (i3:Int):T (zhW a n i3) (0≤i3∧i3≤a.length∧a.length<i3+n∧a.length<1000000000) (fun r=>r=zvX [44,40,41] (dr a i3)):=by
 induction n generalizing i3
 ·exact ⟨goz⟩
 exact ⟨by unfold zhW; exact zzm⟩
instance (a:Str):T (zml a) (a.length<1000000000) (fun r=>r=zvX [44,40,41] a):=⟨by unfold zml; exact zzm⟩
instance (a:Str) (i5:Int) (c:z0o) (b:Bool):T (zbb a i5 c b) (V4 a∧a.length<800000000∧4≤i5∧i5≤a.length∧c=⟨[],[49,46,49],sb a 4 i5,[]⟩∧32∉sb a 4 i5∧(i5<a.length→dr a i5=32::dr a (i5+1))∧(b=true↔¬ byP (sb a 4 i5))) (fun r=>VP a r):=⟨by unfold zbb; exact zzm⟩
instance (a:Str) (i5:Int) (b:z0o) (c:List Str):T (zhX a i5 b c) (V4 a∧a.length<800000000∧4≤i5∧i5≤a.length∧b=⟨[],[49,46,49],sb a 4 i5,[]⟩∧32∉sb a 4 i5∧(i5<a.length→dr a i5=32::dr a (i5+1))∧c.length=1) (fun r=>VP a r):=⟨by unfold zhX; exact zzm⟩
instance (a:Str) (i4:Int) (n:Nat) (i5:Int):T (zeB a i4 n i5) (V4 a∧a.length<800000000∧i4=3∧4≤i5∧i5≤a.length∧a.length<i5+n∧32∉sb a 4 i5) (fun r=>VP a r):=by
 induction n generalizing i5
 ·exact ⟨goz⟩
 exact ⟨by unfold zeB zkG; exact zzm⟩
instance (a:Str) (n:Nat) (i4:Int):T (zeC a n i4) (V4 a∧4≤a.length∧a.length<800000000∧0≤i4∧i4≤3∧a.length<i4+n) (fun r=>VP a r):=by
 induction n generalizing i4
 ·exact ⟨goz⟩
 exact ⟨by unfold zeC zkH; exact zzm⟩
instance (a:Str):T (zoz a) (V4 a∧a.length<800000000) (fun r=>VP a r):=⟨by unfold zoz; exact zzm⟩
instance (b:z0o) (a:Str):T (zje b a) (V4 a∧a.length<800000000∧b=⟨[],[49,46,49],dr a 4,[]⟩) (fun r=>(zAd (dr a 4)→r.2=0)∧(¬ zAd (dr a 4)→r.2=2)):=⟨by unfold zje; exact zzm⟩
instance (x_v:z0o):T (zq8 x_v) (x_v=⟨[],[49,46,49],x_v.By,[]⟩∧x_v.By.length<10000) (fun r=>(zAd x_v.By→r.2=0)∧(¬ zAd x_v.By→r.2=2)):=⟨by unfold zq8 zlE; exact zzm⟩
instance {P:Int→Prop} (d:Int→Option Int) (i3:Int) (b:Str) (n:Nat) (a:Int):K (zhY d i3 b n a) P ((b.length<1000000000∧0≤a∧a≤b.length∧b.length<a+n∧0≤i3∧i3≤10000∧(zvX [44,59] (dr b a)=true→P 27))∧(∀i,i=i3+1∧zvX [44,59] (dr b a)=false→W (d i) P)):=by
 induction n generalizing a
 ·exact ⟨goz⟩
 exact ⟨fun ⟨h,c⟩=>by have c:=fun a0=>K.mk (c a0); unfold zhY; exact zzm⟩
instance (a:List z0h) (n:Nat) (i3:Int):T (zgb a n i3) (Swm a∧0≤i3∧i3≤a.length∧a.length<i3+n) (fun r=>(zxj (dr a i3)→r=if 64<a.length then 3 else 0)∧(¬ zxj (dr a i3)→r=27)):=by
 induction n generalizing i3
 ·exact ⟨goz⟩
 exact ⟨by unfold zgb; exact zzm⟩
instance (a:List z0h):T (zoA a) (Swm a) (fun r=>(zxj a→r=if 64<a.length then 3 else 0)∧(¬ zxj a→r=27)):=⟨by unfold zoA; exact zzm⟩
end Go.Dm
end
section
namespace Go.Dm
instance (a:Str) (s1:Str) (n:Nat) (i5:Int):T (zeD a s1 n i5) (0≤i5∧i5≤a.length∧a.length<i5+n∧a.length<1000000000∧s1.length<1000) (fun r=>r=i5+((upt s1 (dr a i5)).1.length:Int)):=by
 induction n generalizing i5
 ·exact ⟨goz⟩
 exact ⟨by unfold zeD zkI; exact goE7⟩
instance (a:Str) (b:Str):T (zfi a b) (a.length<1000000000∧b.length<1000) (fun r=>r=((upt b a).1.length:Int)):=⟨by unfold zfi; exact goE7⟩
instance (b:UInt8):T (zmm b) True (fun r=>r=zlq b):=bt (by decide +kernel) b
instance (b:UInt8):T (zmn b) True (fun r=>r=zce b):=bt (by decide +kernel) b
instance (a:Str) (n:Nat) (i3:Int):T (zb9 a n i3) (0≤i3∧i3≤a.length∧a.length<i3+n∧a.length<1000000000) (fun r=>r=if i3=0 then zwZ a else shs (dr a i3)):=by
 induction n generalizing i3
 ·exact ⟨goz⟩
 exact ⟨by unfold zb9 ze7; exact goE7⟩
instance (a:Str):T (znl a) (a.length<1000000000) (fun r=>r=zwZ a):=⟨by unfold znl; exact goE7⟩
instance (b:UInt8):T (zn0 b) True (fun r=>r=zAm b):=bt (by decide +kernel) b
instance  (n:Nat) (b:Str) (a:Str):T (zjU n b a) (b.length<n∧b.length<1000000000∧a.length<1000000000) (fun r=>r=pqM a b):=by
 induction n generalizing b a
 ·exact ⟨goz⟩
 exact ⟨by unfold zjU; exact goU⟩
instance (b:Str) (a:Str):T (zn1 b a) (b.length<1000000000∧a.length<1000000000) (fun r=>r=pqM a b):=⟨by unfold zn1; exact goU⟩
instance (a:z0s):T (zoB a) (Um a) (fun r=>r=zw0 a):=⟨by unfold zoB zkJ; exact goE8⟩
instance (a:Str) (v4:z0s):T (zhZ a v4) (a.length<1000000000∧Um v4) (fun r=>r.2=if zw0 ⟨v4.Scheme,v4.Auth,a,v4.Query,v4.Frag,v4.HasAuth,v4.HasQuery,v4.HasFrag⟩=true then 0 else 2):=⟨by unfold zhZ; exact goE8⟩
instance (a:Str) (v4:z0s):T (zh0 a v4) (a.length<1000000000∧Um v4∧v4=⟨v4.Scheme,[],[],v4.Query,v4.Frag,false,v4.HasQuery,v4.HasFrag⟩) (fun r=>r.2=if zw0 (rrA v4.Scheme a v4.Query v4.Frag v4.HasQuery v4.HasFrag)=true then 0 else 2):=⟨by unfold zh0 zkK; exact goE8⟩
instance (a:Str) (v4:z0s):T (zh2 a v4) (a.length<1000000000∧Um v4∧v4=⟨[],[],[],v4.Query,v4.Frag,false,v4.HasQuery,v4.HasFrag⟩) (fun r=>r.2=if zw0 (rrB a v4.Query v4.Frag v4.HasQuery v4.HasFrag)=true then 0 else 2):=⟨by unfold zh2 zh1; exact goE8⟩
instance (a:Str) (v4:z0s):T (zh3 a v4) (a.length<1000000000∧Um v4∧v4=⟨[],[],[],[],v4.Frag,false,false,v4.HasFrag⟩) (fun r=>r.2=if zw0 (rpQ a v4.Frag v4.HasFrag)=true then 0 else 2):=⟨by unfold zh3; exact goEB⟩
instance (a:Str):T (zmo a) (a.length<1000000000) (fun r=>r.2=if zH5 a=true then 0 else 2):=⟨by unfold zmo; exact goEB⟩
instance (a:List z0h) (n:Nat) (i3:Int):T (zh4 a n i3) (Swm a∧0≤i3∧i3≤a.length∧a.length<i3+n) (fun r=>(zx0 (dr a i3)→r=if 64<a.length then 3 else 0)∧(¬ zx0 (dr a i3)→r=2)):=by
 induction n generalizing i3
 ·exact ⟨goz⟩
 exact ⟨by unfold zh4; exact goEA⟩
instance (a:List z0h):T (zoC a) (Swm a) (fun r=>(zx0 a→r=if 64<a.length then 3 else 0)∧(¬ zx0 a→r=2)):=⟨by unfold zoC; exact goEA⟩
end Go.Dm
end
section
namespace Go.Dm
instance (x_env:z0g):T (zoD x_env) (x_env.By.length≤1000∧x_env.Host.length≤1000∧Swm x_env.Domains∧Swm x_env.Locations) (fun r=>r=stC x_env):=⟨by unfold zoD zkL zh5; exact goEA⟩
instance (a:Str) (n:Nat) (i3:Int):T (zg4 a n i3) (0≤i3∧i3≤a.length∧a.length<i3+n∧a.length<1000000000) (fun r=>r=vls (dr a i3)):=by
 induction n generalizing i3
 ·exact ⟨goz⟩
 exact ⟨by unfold zg4; exact goV⟩
instance (a:Str):T (znm a) (a.length<1000000000) (fun r=>r=vls a):=⟨by unfold znm; exact goV⟩
instance (b:UInt8):T (zj7 b) True (fun r=>r=znO b):=bt (by decide +kernel) b
instance  (n:Nat) (a:Str):T (zfD n a) (a.length<n∧a.length<1000000000) (fun r=>r=zoe a):=by
 induction n generalizing a
 ·exact ⟨goz⟩
 exact ⟨by unfold zfD zlF; exact goV⟩
instance  (n:Nat) (a:Str):T (zfE n a) (a.length<n∧a.length<1000000000) (fun r=>r=zoe (zmV a)):=by
 induction n generalizing a
 ·exact ⟨goz⟩
 exact ⟨by unfold zfE zlG; exact goV⟩
instance (a:Str):T (zq9 a) (a.length<1000000000) (fun r=>r=zIT a):=⟨by unfold zq9; exact goV⟩
instance (x_f:zZU):T (zoE x_f) (x_f.Name.length<1000000000∧x_f.Value.length<1000000000) (fun r=>r=0↔fokB x_f.Name x_f.Value=true):=⟨by unfold zoE; exact gr4⟩
instance (a:z0S):T (zmp a) (Gm a) (fun r=>r=true↔guaP a):=⟨by unfold zmp; exact gr4⟩
instance {P:Str→Prop} (d:Str→Int→Option Str) (b:Str) (a:Str) (i4:Int) (n:Nat) (f:Str) (h:Int):K (zfF d b a i4 n f h) P ((∃c,f=[c]∧dr b i4=c::dr b (i4+1))∧h=0∧n=fuel∧0≤i4∧i4<1000000000∧a.length<1000000000∧∀t i,t=a++low f∧i=i4+1→W (d t i) P):=⟨fun ⟨⟨c,l,g⟩,m,p,h0,h1,h2,k⟩=>by
 have o:=zkv h0 g
 have e:sAt b i4=some c:=by
  obtain ⟨r,e,q⟩:=(inferInstance:T (sAt b i4) _ _).ok ⟨h0,o⟩;rw [q.2.2] at g;rw [e,(List.cons.inj g).1]
 subst l m p;rw [zOl d b a i4 c e,fl_v]
 have j:zck a [zlp c]=some (a++[zlp c]):=by simp [zck]; omega
 have a2:zh i4 1=some (i4+1):=by simp [zh,inI]; omega
 show W ((zck a [zlp c]).bind _) P;rw [j];show W ((zh i4 1).bind _) P;rw [a2]
 exact k _ _ ⟨rfl,rfl⟩⟩
instance (a:Str) (n:Nat) (b:Str) (i4:Int):T (zhn a n b i4) (0≤i4∧i4≤a.length∧a.length<i4+n∧a.length<1000000000∧b.length=i4) (fun r=>r=b++low (dr a i4)):=by
 induction n generalizing b i4
 ·exact ⟨goz⟩
 exact ⟨by unfold zhn; exact goF⟩
instance (a:Str):T (zn2 a) (a.length<1000000000) (fun r=>r=low a):=⟨by unfold zn2; exact goF⟩
instance (a:Str):T (zoF a) (a.length<1000000000) (fun r=>r=decide (low a∈zIQ)):=⟨by unfold zoF; exact gr4⟩
instance (a:Str):T (zlw a) (a.length<1000000000) (fun r=>r=zDs a):=⟨by unfold zlw; exact gr4⟩
instance (a:Int):T (zoG a) (True) (fun r=>r=kns a∧r.length≤10):=⟨by unfold zoG; exact gr5⟩
end Go.Dm
end
section
namespace Go.Dm
instance {P:(List Str)→Prop} (e:List Str→Int→Option (List Str)) (d:List zZX) (a:List Str) (i4:Int) (n:Nat) (t5:Bool) (b:Int):K (zgc e d a i4 n t5 b) P ((d.length≤10000∧a.length≤i4∧0≤i4∧i4<d.length∧0≤b∧b≤a.length∧a.length<b+n)∧(∀l i,i=i4+1∧l=(if t5=true∨(pe d i4).Text∈dr a b then a else a++[(pe d i4).Text])→W (e l i) P)):=by
 induction n generalizing t5 b
 ·exact ⟨goz⟩
 exact ⟨fun ⟨h,c⟩=>by have c:=fun a0 f=>K.mk (c a0 f); unfold zgc; exact gr5⟩
instance (a:List zZX) (n:Nat) (b:List Str) (i4:Int):T (zgd a n b i4) (a.length≤10000∧0≤i4∧i4≤a.length∧a.length<i4+n∧b.length≤i4) (fun r=>r=nmF b (dr a i4)∧r.length≤a.length):=by
 induction n generalizing b i4
 ·exact ⟨goz⟩
 exact ⟨by unfold zgd; exact gr5⟩
instance (a:List zZX):T (zoH a) (a.length≤10000) (fun r=>r=nmF [] a∧r.length≤a.length):=⟨by unfold zoH; exact gr5⟩
instance (i4:Int) (b:Str) (n:Nat) (a:Int):T (zkM i4 b n a) (0≤a∧a≤b.length∧b.length<a+n∧b.length<1000000000∧0≤i4∧i4<1000000000) (fun r=>r=if sms (dr b a)=true then (⟨2,b⟩,i4+1) else (⟨0,[]⟩,0)):=by
 induction n generalizing a
 ·exact ⟨goz⟩
 exact ⟨by unfold zkM; exact gr0⟩
instance (a:Str) (n:Nat) (i4:Int):T (zgL a n i4) (0≤i4∧i4≤a.length∧a.length<i4+n∧a.length<1000000000∧dr a 0=36::dr a (0+1)∧N36 a∧125∉tk a i4) (fun r=>PRo a r.1 r.2∧0≤r.2∧r.2≤a.length∧r.1.Text.length≤r.2):=by
 induction n generalizing i4
 ·exact ⟨goz⟩
 exact ⟨by unfold zgL znn; exact gr1⟩
instance (a:Str):T (ztI a) (1≤a.length∧a.length<1000000000) (fun r=>PRo a r.1 r.2∧0≤r.2∧r.2≤a.length∧r.1.Text.length≤r.2):=⟨by unfold ztI zno; exact gr1⟩
instance  (n:Nat) (a:Str) (b:List zZX):T (zdw n a b) (a.length<n∧b.length+a.length≤90000000∧(∀p∈b,p.Text.length+a.length≤90000000)) (fun r=>r.1.length≤32∧∀l,r=(l,0)↔PR b a l∧l.length≤32):=by
 induction n generalizing a b
 ·exact ⟨goz⟩
 exact ⟨by unfold zdw zh6; exact gr2⟩
instance (a:Str):T (zoI a) (a.length≤90000000) (fun r=>r.1.length≤32∧∀l,r=(l,0)↔PR [] a l∧l.length≤32):=⟨by unfold zoI; exact gr2⟩
instance (a:List zZX) (b:List zZX) (n:Nat) (i5:Int):T (zjf a b n i5) (a.length=b.length∧a.length<1000000000∧0≤i5∧i5≤a.length∧a.length<i5+n) (fun r=>r=true↔dr a i5=dr b i5):=by
 induction n generalizing i5
 ·exact ⟨goz⟩
 exact ⟨by unfold zjf; exact goR5⟩
instance (a:List zZX) (b:List zZX):T (zra a b) (a.length<1000000000) (fun r=>r=true↔a=b):=⟨by unfold zra; exact goR5⟩
instance {P:(Str × Int)→Prop} (e:Str→Int→Option (Str × Int)) (b:List zZX) (i5:Int) (n:Nat) (d:Str) (a:Int):K (zfG e b i5 n d a) P ((Tp b∧0≤i5∧i5<b.length∧0≤a∧a≤(pe b i5).Text.length∧(pe b i5).Text.length<a+n∧d.length≤20010*i5+2*a)∧(∀s i,i=i5+1∧s.length≤20010*i∧s=d++dbl (dr (pe b i5).Text a)→W (e s i) P)):=by
 induction n generalizing d a
 ·exact ⟨goz⟩
 exact ⟨fun ⟨h,c⟩=>by have c:=fun a0 f=>K.mk (c a0 f); unfold zfG zlH; exact gr7⟩
instance (a:List zZX) (n:Nat) (b:Str) (i5:Int):T (zcu a n b i5) (Tp a∧0≤i5∧i5≤a.length∧a.length<i5+n∧b.length≤20010*i5) (fun r=>(r.2=0↔zBi a (b++prA (dr a i5)))∧(r.2=0∨r.2=2)):=by
 induction n generalizing b i5
 ·exact ⟨goz⟩
 exact ⟨by unfold zcu; exact gr3⟩
instance (a:List zZX):T (zrb a) (Tp a) (fun r=>(r.2=0↔zBi a (prA a))∧(r.2=0∨r.2=2)):=⟨by unfold zrb; exact gr3⟩
end Go.Dm
end
section
namespace Go.Dm
instance (x_s:z0q):T (zox x_s) (True) (fun r=>r.Env=x_s.Env∧r.Caps=x_s.Caps∧r.Rules=x_s.Rules):=⟨by unfold zox; exact go⟩
end Go.Dm
end
section
namespace Go.Dm
instance {P:Int→Prop} (j:Bool→Int→Option Int) (t3:Bool) (e:List Str) (f:List Str) (d:Int) (n:Nat) (g:Bool) (a:Int):K (zge j t3 e f d n g a) P ((0≤a∧a≤e.length∧e.length<a+n∧e.length≤10∧0≤d∧d<f.length∧f.length≤10000)∧(∀b i,i=d+1∧(b=true↔t3=true∧(g=true∨elt f d∈dr e a))→W (j b i) P)):=by
 induction n generalizing g a
 ·exact ⟨goz⟩
 exact ⟨fun ⟨h,c⟩=>by have c:=fun a0 k=>K.mk (c a0 k); unfold zge; exact gr5⟩
instance (d:zZ1) (c:List Str) (b:List Str) (n:Nat) (t3:Bool) (a:Int):T (zgf d c b n t3 a) (Rm d∧c.length≤10∧b.length≤1000∧0≤a∧a≤b.length∧b.length<a+n) (fun r=>(r=0↔t3=true∧zFI c (dr b a)∧actR d)∧(r=0∨r=9)):=by
 induction n generalizing t3 a
 ·exact ⟨goz⟩
 exact ⟨by unfold zgf zkN; exact gr5⟩
instance (v1:zZ1) (t3:Bool):T (zb6 v1 t3) (Rm v1) (fun r=>(r=0↔t3=true∧zFI (kns v1.Side) (nmF [] v1.Parts)∧actR v1)∧(r=0∨r=9)):=⟨by unfold zb6; exact gr5⟩
instance (a:zZ1):T (zoJ a) (Rm a) (fun r=>(r=0↔zHQ a)∧(r=0∨r=9)):=⟨by unfold zoJ; exact gr5⟩
instance (a:List zZ1) (n:Nat) (i4:Int):T (zh7 a n i4) (Rl a∧0≤i4∧i4≤a.length∧a.length<i4+n) (fun r=>(zod (dr a i4)→r.2=if 64<a.length then 3 else 0)∧(¬ zod (dr a i4)→r.2=9)):=by
 induction n generalizing i4
 ·exact ⟨goz⟩
 exact ⟨by unfold zh7; exact gr5⟩
instance (a:List zZ1):T (zoK a) (Rl a) (fun r=>(zod a→r.2=if 64<a.length then 3 else 0)∧(¬ zod a→r.2=9)):=⟨by unfold zoK; exact gr5⟩
instance (x_s:ref44_Setup):T (zoL x_s) (x_s.Env.By.length≤1000∧x_s.Env.Host.length≤1000∧Swm x_s.Env.Domains∧Swm x_s.Env.Locations∧Rl x_s.Rules) (fun r=>r=gwC x_s.Env x_s.Caps x_s.Rules):=⟨by unfold zoL; exact gr6⟩
instance (x_s:z0q):T (zgz x_s) (x_s.Env.By.length≤1000∧x_s.Env.Host.length≤1000∧Swm x_s.Env.Domains∧Swm x_s.Env.Locations∧Rl x_s.Rules∧x_s.Client.length≤3000∧x_s.Upstream.length≤3000) (fun r=>r=gwC x_s.Env x_s.Caps x_s.Rules):=⟨by unfold zgz zh8; exact gr6⟩
end Go.Dm
end
section
namespace Go.Dm
instance (a:Str) (b:List Str):T (zaN a b) (a.length≤10∧sl b+10*b.length≤100000000000000) (fun r=>r.length≤sl b+10*b.length∧r=Go.Lib.join b a):=⟨by unfold zaN; exact go1⟩
instance (a:Str):T (zg5 a) (True) (fun r=>r.z03=a∧r.z0A=0):=⟨by unfold zg5; exact go1⟩
instance (b:UInt8):T (zcm b) True (fun r=>r=zlp b):=bt (by decide +kernel) b
instance (b:UInt8):T (zej b) True (fun r=>r=zlq b):=bt (by decide +kernel) b
instance (b:UInt8):T (zbM b) True (fun r=>r=zce b):=bt (by decide +kernel) b
instance (b:UInt8):T (zho b) True (fun r=>r=zpj b):=bt (by decide +kernel) b
instance (a:zZ6):T (zcW a) (True) (fun r=>r=a.z0A):=⟨by unfold zcW; exact go1⟩
instance (a:zZ6):T (zbf a) (Cw a) (fun r=>r=dr a.z03 a.z0A∧(r.length:Int)=a.z03.length-a.z0A∧(r=[]↔a.z0A=a.z03.length)):=⟨by unfold zbf; exact go1⟩
instance (a:zZ6):T (zbc a) (Cw a) (fun r=>r=decide (a.z0A=a.z03.length)):=⟨by unfold zbc; exact go1⟩
instance (a:zZ6):T (zbg a) (Cw a) (fun r=>r.2=decide (a.z0A<a.z03.length)∧(r.2=true→dr a.z03 a.z0A=r.1::dr a.z03 (a.z0A+1))∧(r.2=true→sAt a.z03 a.z0A=some r.1)):=⟨by unfold zbg; exact go1⟩
instance (c:(UInt8→Option Bool)) (i5:Int) (n:Nat) (a:zZ6) {g:UInt8→Bool} [∀b,T (c b) True (fun r=>r=g b)]:T (zcn c i5 n a) (Cw a∧0≤i5∧i5≤a.z0A∧a.z03.length<a.z0A+n) (fun r=>Cw r.2∧r.2.z03=a.z03∧a.z0A≤r.2.z0A∧r.1.length≤a.z03.length∧(r.1.length:Int)=r.2.z0A-i5∧r.1=sb a.z03 i5 a.z0A++(dr a.z03 a.z0A).takeWhile g∧dr r.2.z03 r.2.z0A=(dr a.z03 a.z0A).dropWhile g):=by
 induction n generalizing a
 ·exact ⟨goz⟩
 exact ⟨by unfold zcn; exact goW⟩
instance (a:zZ6) (c:(UInt8→Option Bool)) {g:UInt8→Bool} [∀b,T (c b) True (fun r=>r=g b)]:T (zak a c) (Cw a) (fun r=>Cw r.2∧r.2.z03=a.z03∧a.z0A≤r.2.z0A∧r.1.length≤a.z03.length∧(r.1.length:Int)=r.2.z0A-a.z0A∧r.1=(dr a.z03 a.z0A).takeWhile g∧dr r.2.z03 r.2.z0A=(dr a.z03 a.z0A).dropWhile g):=⟨by unfold zak; exact goW⟩
instance (a:zZ6):T (zau a) (Cw a) (fun r=>Cw r.2.2∧r.2.2.z03=a.z03∧a.z0A≤r.2.2.z0A∧r.1.length≤a.z03.length∧(r.1.length:Int)=r.2.2.z0A-a.z0A∧r.2.1 = !(r.1==[])∧r.1=(dr a.z03 a.z0A).takeWhile zpj∧dr r.2.2.z03 r.2.2.z0A=(dr a.z03 a.z0A).dropWhile zpj):=⟨by unfold zau; exact goW⟩
instance (a:zZ6) (b:UInt8):T (zl a b) (Cw a) (fun r=>Cw r.2∧r.2.z03=a.z03∧(if r.1=true then r.2.z0A=a.z0A+1∧dr a.z03 a.z0A=b::dr a.z03 (a.z0A+1) else r.2=a∧∀t,dr a.z03 a.z0A≠b::t)∧(sAt a.z03 a.z0A=some b→a.z0A<a.z03.length→r.1=true)):=⟨by unfold zl; exact go1⟩
instance (x_r:z02) (a:z0o):T (zeT x_r a) (Cw x_r.Scanner∧a=⟨[],[],[],[]⟩) (fun r=>Cw r.2.2∧r.2.2.z03=x_r.Scanner.z03∧∀b,dr x_r.Scanner.z03 x_r.Scanner.z0A=49::46::49::32::b→r.1=true∧r.2.1=⟨[],[49,46,49],[],[]⟩∧dr r.2.2.z03 r.2.2.z0A=32::b):=⟨by unfold zeT zdl zdk; exact zEc⟩
instance (b:UInt8):T (zg6 b) True (fun r=>r=nsp b):=bt (by decide +kernel) b
instance {P:Bool→Prop} (j:Int→Option Bool) (k:(UInt8→Option Bool)) (f:Str) (c:Int) (d:Int) (n:Nat) (a:Int) {g:UInt8→Bool} [∀b,T (k b) True (fun r=>r=g b)]:K (zkO j k f c d n a) P ((d=f.length∧0≤a∧a≤d∧d<a+n∧f.length≤4611686018427387904∧0≤c∧c≤4611686018427387904∧((dr f a).all g=false→P false))∧(∀i,i=c+1∧(dr f a).all g=true→W (j i) P)):=by
 induction n generalizing a
 ·exact ⟨goz⟩
 exact ⟨fun ⟨h,e⟩=>by have e:=fun a0=>K.mk (e a0); unfold zkO; exact goN⟩
instance (d:(UInt8→Option Bool)) (c:List Str) (i9:Int) (n:Nat) (a:Int) {g:UInt8→Bool} [∀b,T (d b) True (fun r=>r=g b)]:T (ziC d c i9 n a) (i9=c.length∧0≤a∧a≤i9∧i9<a+n∧Sm c) (fun r=>r=(dr c a).all fun s=>s.all g):=by
 induction n generalizing a
 ·exact ⟨goz⟩
 exact ⟨by unfold ziC; exact goN⟩
instance (a:(UInt8→Option Bool)) (c:List Str) {g:UInt8→Bool} [∀b,T (a b) True (fun r=>r=g b)]:T (zco a c) (Sm c) (fun r=>r=c.all fun s=>s.all g):=⟨by unfold zco; exact goN⟩
end Go.Dm
end
section
namespace Go.Dm
instance (a:UInt8):T (zlI a) True (fun r=>0≤r∧r≤265∧(zce a=true→r=(a.toNat:Int)-48)):=⟨fun _=>by
 have:=zpX (p:=fun b=>match zlI b with|some r=>decide (0≤r∧r≤265∧(zce b=true→r=(b.toNat:Int)-48))|none=>false) (by decide +kernel) a
 split at this
 ·rename_i r e; exact ⟨r,e,of_decide_eq_true this⟩
 ·cases this⟩
instance (d:Str) (e:Int) (i2:Int) (c:Int) (n:Nat) (b:Int) (a:Int):T (zg7 d e i2 c n b a) (c=d.length∧0≤a∧a≤c∧c<a+n∧c<1000000000∧1≤e∧0≤i2∧i2≤9223372036854775807∧0≤b∧b≤i2) (fun r=>0≤r.1∧r.1≤i2∧(e=10→dgs (dr d a)=true→dvI b (dr d a)≤i2→r=(dvI b (dr d a),0))):=by
 induction n generalizing b a
 ·exact ⟨goz⟩
 exact ⟨fun h=>by rcases Decidable.em (e=10) with f|f<;>(try subst f)<;>(unfold zg7; exact goD)⟩
instance (d:Str) (c:Int) (a:Int) (e:(UInt8→Option Bool)) {g:UInt8→Bool} [∀b,T (e b) True (fun r=>r=g b)]:T (zkP d c a e) (d.length<1000000000∧1≤c∧0≤a∧a≤9223372036854775807) (fun r=>0≤r.1∧r.1≤a∧(c=10→g=zce→dgs d=true→d≠[]→dvI 0 d≤a→r=(dvI 0 d,0))):=⟨by unfold zkP; exact goD⟩
instance (b:Str) (a:Int):T (zdS b a) (b.length<1000000000∧0≤a∧a≤9223372036854775807) (fun r=>0≤r.1∧r.1≤a∧(dgs b=true→b≠[]→dvI 0 b≤a→r=(dvI 0 b,0))):=⟨by unfold zdS; exact goA⟩
instance (b:Int) (a:Int):T (zkQ b a) ((a=10∨a=16∧b<1048576)∧b≤9223372036854775807) (fun r=>r.length≤21∧(a=10→if 0≤b then r=Go.Lib.decDigits b.toNat else r=[])):=⟨by unfold zkQ; exact goA⟩
instance (a:Int):T (zdm a) (a≤9223372036854775807) (fun r=>r.length≤21∧if 0≤a then r=Go.Lib.decDigits a.toNat else r=[]):=⟨by unfold zdm; exact goA⟩
instance (b:Str) (a:Int):T (zb7 b a) (b.length<1000000000∧0≤a∧a≤9223372036854775807) (fun r=>r=true↔zhx b a):=⟨by unfold zb7; exact goA⟩
instance (s:Str):T (zbN s) (s.length<1000000000) (fun r=>r=true↔zmB s):=⟨fun h=>by
 have g:∀x∈zx 46 s, ∃b,zb7 x 255=some b∧(b=true↔zhx x 255):=fun x c =>
  (inferInstance:T (zb7 x 255) _ _).ok (by have:=(zxv 46 s).2 x c; omega)
 have key:∀l:List Str,(∀x∈l, ∃b,zb7 x 255=some b∧(b=true↔zhx x 255))→∃bs,l.mapM (fun x=>zb7 x 255)=some bs∧bs.length=l.length∧(bs.all id=true↔∀x∈l,zhx x 255):=by
  intro l d
  induction l with
  | nil=>exact ⟨[],rfl,rfl,by simp⟩
  | cons x l i =>
   obtain ⟨bs,e,h1,h2⟩:=i fun x c=>d x (List.mem_cons_of_mem _ c);obtain ⟨b,eb,f⟩:=d x List.mem_cons_self;exact ⟨b::bs,by simp [List.mapM_cons,e,eb],by simp [h1],by simp [f, ← h2]⟩
 obtain ⟨bs,e,h1,h2⟩:=key _ g;refine ⟨_,by rw [zbN,if_pos h,e]; rfl,?_⟩;show _=true↔_;rw [Bool.and_eq_true,h2,decide_eq_true_eq,h1];unfold zmB;constructor
 ·rintro ⟨a,b⟩; exact ⟨by omega,a⟩
 ·rintro ⟨a,b⟩; exact ⟨b,by omega⟩⟩
instance (b:UInt8):T (zek b) True (fun r=>r=zlr b):=bt (by decide +kernel) b
end Go.Dm
end
section
namespace Go.Dm
instance (e:Bool) (c:List Str) (b:Int) (n:Nat) (d:Int) (a:Int):T (zbl e c b n d a) (Sm c∧b=c.length∧0≤a∧a≤b∧b<a+n∧0≤d∧d≤2*a) (fun r => -1≤r∧r≤2*c.length∧(∀k,Grp e (dr c a) k→r=d+k)∧(0≤r→zIn e (dr c a))):=by
 induction n generalizing d a
 ·exact ⟨goz⟩
 exact ⟨by unfold zbl zeF zeE; exact goA2⟩
instance (b:Str) (a:Bool):T (ze8 b a) (b.length<1000000000) (fun r => -1≤r∧r≤4000000000000∧(∀k,Grp a (spt b) k→r=k)∧(0≤r→zIn a (spt b))):=⟨by unfold ze8; exact goA2⟩
instance (a:Str):T (ziD a) (a.length<1000000000) (fun r=>r=true↔zvw a):=⟨by unfold ziD; exact goA2⟩
instance (a:Str):T (ziE a) (True) (fun r=>r=pct a∧(r=true→3≤a.length)):=⟨by unfold ziE; exact goQ⟩
instance (b:UInt8):T (zdb b) True (fun r=>r=zqE b):=bt (by decide +kernel) b
instance (b:UInt8):T (zj8 b) True (fun r=>r=zEm b):=bt (by decide +kernel) b
instance  (n:Nat) (a:Str):T (zdc n a) (a.length<n∧a.length<1000000000) (fun r=>r=zjq a):=by
 induction n generalizing a
 ·exact ⟨goz⟩
 exact ⟨by unfold zdc; exact goQ⟩
instance (a:Str):T (zfH a) (a.length<1000000000) (fun r=>r=true↔a≠[]∧zjq a=true):=⟨by unfold zfH; exact goQ⟩
instance (a:Str):T (zmq a) (a.length<1000000000) (fun r=>r.1.Name.length≤a.length∧r.1.Port = -1∧(zrM a↔r.2=true)∧(r.2=true→58∈a→∃m,a=m++[93])):=⟨by unfold zmq zgg; exact goA2⟩
theorem lib_w (s:Str) (b:UInt8):∀(n:Nat) (i:Int), -1≤i→i<s.length→i+1<n→i<1000000000 →
  ∃r,zbd s b n i=some r∧((r = -1∧b∉tk s (i+1))∨(0≤r∧r≤i∧dr s r=b::dr s (r+1)∧b∉sb s (r+1) (i+1)))
 | 0,i,h1,h2,j,_=>by omega
 | n + 1,i,h1,h2,j,m=>by
  unfold zbd
  by_cases h0:0≤i
  ·obtain ⟨x,e,f⟩:=(inferInstance:T (sAt s i) _ _).ok ⟨h0,h2⟩;have f:=f.2.2;rw [if_pos (by simpa using h0),e]
   by_cases g:x=b
   ·subst g;exact ⟨i,by simp,.inr ⟨h0,Int.le_refl _,f,by rw [zyX]; simp⟩⟩
   ·obtain ⟨r,k,h⟩:=lib_w s b n (i-1) (by omega) (by omega) (by omega) (by omega)
    have l:zbh i 1=some (i-1):=by simp [zbh,inI]; omega
    refine ⟨r,by simp [g,l,k],?_⟩;rw [Int.sub_add_cancel] at h
    rcases h with ⟨a,c⟩|⟨a,a2,c,d⟩
    ·left; refine ⟨a,?_⟩; rw [zyW h0 f]; simp; exact ⟨c,fun e=>g e.symm⟩
    ·right; refine ⟨a,by omega,c,?_⟩
     rw [zIV (by omega) (by omega:r+1≤i) (by omega:i≤i+1) (by omega),f]
     simp; exact ⟨d,fun e=>g e.symm⟩
  ·have hi:i = -1:=by omega
   subst hi;exact ⟨-1,by simp,.inl ⟨rfl,by rw [show (-1:Int)+1=0 from rfl,zxn]; simp⟩⟩
instance (f:Str) (g:UInt8):T (zbv f g) (f.length<1000000000) (fun r => -1≤r∧r<f.length∧(r = -1→g∉f)∧(0≤r→dr f r=g::dr f (r+1)∧g∉dr f (r+1))):=⟨fun h=>by
 obtain ⟨r,e,j⟩:=lib_w f g fuel ((f.length:Int)-1) (by omega) (by omega) (by unfold fuel; omega) (by omega)
 have i:zbh (f.length:Int) 1=some ((f.length:Int)-1):=by simp [zbh,inI]; omega
 rw [Int.sub_add_cancel,zIU (Int.le_refl _),sb_e (Int.le_refl _)] at j
 rcases j with ⟨a,c⟩|⟨a,b,c,d⟩
 ·exact ⟨r,by rw [zbv,i]; exact e,by omega,by omega,fun _=>c,fun h=>by omega⟩
 ·exact ⟨r,by rw [zbv,i]; exact e,by omega,by omega,fun h=>by omega,fun _=>⟨c,d⟩⟩⟩
instance (a:Str) (b:UInt8):T (zc2 a b) (a.length<1000000000) (fun r => -1≤r∧r<a.length∧(r = -1→b∉a)∧(0≤r→dr a r=b::dr a (r+1)∧b∉dr a (r+1))):=⟨by unfold zc2; exact goA⟩
instance (a:Str):T (zcy a) (a.length<1000000000) (fun r=>r.1.Name.length≤a.length ∧ -1≤r.1.Port∧r.1.Port≤65535∧((zrM a∨zuJ a)↔r.2=0)∧(zuJ a→0≤r.1.Port)∧(r.2=0∨r.2=27)):=⟨by unfold zcy; exact goA2⟩
instance (a:Str):T (zel a) (a.length<1000000000) (fun r=>r=zhO a):=⟨by unfold zel; exact goN⟩
instance (b:Str) (a:Str):T (zbX b a) (b.length<1000000000∧a.length<1000000000∧a.all (fun c=>c.toNat<128)=true) (fun r=>r=zvX a b):=⟨by unfold zbX; exact zEc⟩
end Go.Dm
end
section
namespace Go.Dm
instance (x_r:z02) (x_v:z0o):T (zjw x_r x_v) (Cw x_r.Scanner) (fun r=>Cw r.2.2∧r.2.2.z03=x_r.Scanner.z03∧(r.1=true↔byP ((dr x_r.Scanner.z03 x_r.Scanner.z0A).takeWhile nsp))∧r.2.1=⟨x_v.Proto,x_v.Version,(dr x_r.Scanner.z03 x_r.Scanner.z0A).takeWhile nsp,x_v.Comment⟩∧dr r.2.2.z03 r.2.2.z0A=(dr x_r.Scanner.z03 x_r.Scanner.z0A).dropWhile nsp):=⟨by unfold zjw zeG; exact zEc⟩
instance (b:Str) (a:Str):T (zb3 b a) (True) (fun r=>r=a.isPrefixOf b∧(r=true→a.length≤b.length)):=⟨by unfold zb3; exact goP⟩
instance (b:Str) (a:Str):T (zeU b a) (True) (fun r=>r.1.length≤b.length):=⟨by unfold zeU; exact go1⟩
instance (b:Str) (a:Str):T (zdH b a) (True) (fun r=>r.1.length≤b.length):=⟨by unfold zdH; exact go1⟩
instance (b:Str) (a:Str):T (zc3 b a) (b.length<1000000000) (fun r=>r=true→a.length≤b.length):=⟨by unfold zc3; exact go1⟩
instance (b:Str) (a:Str):T (zeV b a) (b.length<1000000000) (fun r=>r.1.length≤b.length):=⟨by unfold zeV; exact go1⟩
instance (b:Str) (a:Str):T (zfj b a) (b.length<1000000000) (fun r=>r.1.length≤b.length):=⟨by unfold zfj; exact go1⟩
instance (b:UInt8):T (zhp b) True (fun r=>r=znO b):=bt (by decide +kernel) b
instance (b:UInt8):T (zbq b) True (fun r=>r=zEn b):=bt (by decide +kernel) b
instance (a:Str) (n:Nat) (i3:Int) (i4:Int):T (zca a n i3 i4) (0≤i4∧i4≤a.length∧a.length<i4+n∧a.length<1000000000∧0≤i3∧i3≤i4) (fun r=>True):=by
 induction n generalizing i3 i4
 ·exact ⟨goz⟩
 exact ⟨by unfold zca ze9; exact go1⟩
instance (a:Str):T (znp a) (a.length<1000000000) (fun r=>True):=⟨by unfold znp; exact go1⟩
instance (x_r:z02) (x_v:z0o):T (zfk x_r x_v) (Cw x_r.Scanner) (fun r=>r.2.1.By=x_v.By∧(dr x_r.Scanner.z03 x_r.Scanner.z0A=[]→r=(true,x_v,x_r.Scanner))):=⟨by unfold zfk zbA; exact zEc⟩
instance (a:Str):T (ztJ a) (a.length<1000000000) (fun r=>∀b,a=49::46::49::32::b→((r.2=0∧r.1=⟨[],[49,46,49],b,[]⟩)↔zAd b)):=⟨by unfold ztJ; exact zEc⟩
instance (x_v:z0o):T (zn3 x_v) (x_v.By.length<100000000∧x_v=⟨[],[49,46,49],x_v.By,[]⟩) (fun r=>(zAd x_v.By→r.2=0)∧(¬ zAd x_v.By→r.2=2)):=⟨by unfold zn3 zms zmr; exact zEc⟩
instance (a:Str):T (zkR a) (a.length<1000000000) (fun r=>r=true↔dnP a):=⟨by unfold zkR; exact zEc⟩
instance (d:List z0h) (b:List z0h) (c:Int) (n:Nat) (a:Int):T (zgh d b c n a) (Swm b∧d=b∧c=b.length∧0≤a∧a≤c∧c<a+n) (fun r=>(zxj (dr b a)→r=if 64<d.length then 3 else 0)∧(¬ zxj (dr b a)→r=27)):=by
 induction n generalizing a
 ·exact ⟨goz⟩
 exact ⟨by unfold zgh; exact zEc⟩
instance (a:List z0h):T (zlJ a) (Swm a) (fun r=>(zxj a→r=if 64<a.length then 3 else 0)∧(¬ zxj a→r=27)):=⟨by unfold zlJ; exact zEc⟩
end Go.Dm
end
section
namespace Go.Dm
instance (b:UInt8):T (zg9 b) True (fun r=>r=zvy b):=bt (by decide +kernel) b
instance (a:Str):T (zlK a) (a.length<1000000000) (fun r=>r=zwZ a):=⟨by unfold zlK; exact zzk⟩
instance (b:Str) (a:Str):T (zbw b a) (True) (fun r=>r=a.isPrefixOf b∧(r=true→a.length≤b.length)):=⟨by unfold zbw; exact goP⟩
instance (a:Str) (b:Str):T (zh9 a b) (a.length<1000001001∧b.length<1000∧b.all (fun c=>c.toNat<128)=true) (fun r=>r=upt b a∧r.1.length≤a.length∧r.2.length≤a.length):=⟨by unfold zh9; exact zzk⟩
instance (a:Str) (v3:z0s):T (zha a v3) (a.length<1000000000∧Um v3) (fun r=>r=rf1 a v3∧Um r):=⟨by unfold zha zjx; exact zzk⟩
instance (a:Str) (v3:z0s):T (zhb a v3) (a.length<1000000000∧Um v3) (fun r=>r=rf2 a v3∧Um r):=⟨by unfold zhb; exact zzk⟩
instance (a:Str) (v3:z0s):T (zhc a v3) (a.length<1000000000∧Um v3) (fun r=>r=rf3 a v3∧Um r):=⟨by unfold zhc; exact zzk⟩
instance (a:Str):T (znq a) (a.length<1000000000) (fun r=>r=rf4 a∧Um r):=⟨by unfold znq zjy; exact zzk⟩
instance (b:UInt8):T (ziF b) True (fun r=>r=zAm b):=bt (by decide +kernel) b
instance (a:Str) (s1:Str) (n:Nat) (i5:Int):T (zcX a s1 n i5) (0≤i5∧i5≤a.length∧a.length<i5+n∧a.length<1000000000∧37∉s1) (fun r=>r=pqM s1 (dr a i5)):=by
 induction n generalizing i5
 ·exact ⟨goz⟩
 exact ⟨by unfold zcX zjz; exact goU3⟩
instance (b:Str) (a:Str):T (zgM b a) (b.length<1000000000∧37∉a) (fun r=>r=pqM a b):=⟨by unfold zgM; exact goU3⟩
instance (a:z0s):T (zoM a) (Um a) (fun r=>r=zw0 a):=⟨by unfold zoM; exact zzk⟩
instance (a:Str):T (znr a) (a.length<1000000000) (fun r=>r.2=(if zH5 a=true then 0 else 2)∧Um r.1):=⟨by unfold znr; exact zzk⟩
instance (a:Str):T (zia a) (a.length<1000000000) (fun r=>r=zH5 a):=⟨by unfold zia; exact zzk⟩
instance (d:List z0h) (b:List z0h) (c:Int) (n:Nat) (a:Int):T (zfl d b c n a) (Swm b∧d=b∧c=b.length∧0≤a∧a≤c∧c<a+n) (fun r=>(zx0 (dr b a)→r=if 64<d.length then 3 else 0)∧(¬ zx0 (dr b a)→r=2)):=by
 induction n generalizing a
 ·exact ⟨goz⟩
 exact ⟨by unfold zfl; exact zzk⟩
instance (a:List z0h):T (zkS a) (Swm a) (fun r=>(zx0 a→r=if 64<a.length then 3 else 0)∧(¬ zx0 a→r=2)):=⟨by unfold zkS; exact zzk⟩
instance (x_env:z0g):T (zj9 x_env) (x_env.By.length≤1000∧x_env.Host.length≤1000∧Swm x_env.Domains∧Swm x_env.Locations) (fun r=>r=stC x_env):=⟨by unfold zj9 zkT zib; exact zzk⟩
end Go.Dm
end
section
namespace Go.Dm
instance (x_f:zZU):T (zfa x_f) (x_f.Name.length<1000000000∧x_f.Value.length<1000000000) (fun r=>r=0↔fokB x_f.Name x_f.Value=true):=⟨by unfold zfa; exact zJJ⟩
instance (a:z0S):T (zrc a) (Gm a) (fun r=>r=true↔guaP a):=⟨by unfold zrc zlL; exact zJJ⟩
instance (s:Str):T (zbG s) (s.length<4294967281) (fun r=>r=low s∧r.length=s.length):=⟨fun h=>by
 have e:∀b,zcm b=some (zlp b):=fun b=>by
  obtain ⟨r,e,c⟩:=(inferInstance:T (zcm b) _ _).ok trivial;rw [e,c]
 have:∀s:Str,s.mapM zcm=some (low s):=by
  intro s
  induction s with
  | nil=>rfl
  | cons b s a=>simp [List.mapM_cons,e,a,low]
 unfold zbG;rw [if_pos h]
 exact ⟨_,this s,rfl,by simp [low]⟩⟩
instance (b:List Str) (s1:Str) (c:Int) (n:Nat) (a:Int):T (za9 b s1 c n a) (c=b.length∧0≤a∧a≤c∧c<a+n∧b.length<1000000000000) (fun r => -1≤r∧r<b.length∧(0≤r↔s1∈dr b a)):=by
 induction n generalizing a
 ·exact ⟨goz⟩
 exact ⟨by unfold za9; exact goN⟩
instance (a:List Str) (b:Str):T (zcb a b) (a.length<1000000000000) (fun r => -1≤r∧r<a.length∧(0≤r↔b∈a)):=⟨by unfold zcb; exact goN⟩
instance (a:List Str) (b:Str):T (zU a b) (a.length<1000000000000) (fun r=>r=decide (b∈a)):=⟨by unfold zU; exact goN⟩
instance (a:Str):T (ztL a) (a.length<1000000000) (fun r=>r=decide (low a∈zIQ)):=⟨by unfold ztL; exact zJJ⟩
instance (a:Str):T (ztM a) (a.length<1000000000) (fun r=>r=zDs a):=⟨by unfold ztM; exact zJJ⟩
instance (a:Str):T (zql a) (a.length<1000000000) (fun r=>r=zJK a):=⟨by unfold zql; exact zJJ⟩
instance (b:List zZX) (c:Int) (n:Nat) (d:List Str) (a:Int):T (zfI b c n d a) (c=b.length∧0≤a∧a≤c∧c<a+n∧b.length≤10000∧d.length≤a) (fun r=>r=nmF d (dr b a)∧r.length≤b.length):=by
 induction n generalizing d a
 ·exact ⟨goz⟩
 exact ⟨by unfold zfI zlM; exact zJJ⟩
instance (a:List zZX):T (zrd a) (a.length≤10000) (fun r=>r=nmF [] a∧r.length≤a.length):=⟨by unfold zrd; exact zJJ⟩
instance (b:UInt8):T (zn5 b) True (fun r=>r=smB b):=bt (by decide +kernel) b
instance (b:UInt8):T (zn6 b) True (fun r=>r=plB b):=bt (by decide +kernel) b
instance (a:zZ6) (b:Str):T (zcP a b) (Cw a∧b.length≤1000) (fun r=>Cw r.2∧r.2.z03=a.z03∧(if r.1=true then dr a.z03 a.z0A=b++dr a.z03 r.2.z0A∧r.2.z0A=a.z0A+b.length else r.2=a∧b.isPrefixOf (dr a.z03 a.z0A)=false)):=⟨by unfold zcP; exact goR5⟩
instance (x_r:z0E) (a:Str):T (zeH x_r a) (x_r.z0b.length<1000000000∧a.length<1000000000∧(∀p∈x_r.z0b,p.Text.length<1000000000)) (fun r=>r.Scanner=x_r.Scanner∧r.z0b=adT x_r.z0b a∧r.z0b.length≤x_r.z0b.length+1∧∀p∈r.z0b,p.Text.length≤a.length∨∃q∈x_r.z0b,p.Text.length≤q.Text.length+a.length):=⟨by unfold zeH zeW; exact goR2⟩
end Go.Dm
end
section
namespace Go.Dm
instance (x_r:z0E):T (zfP x_r) (Cw x_r.Scanner∧x_r.z0b.length≤x_r.Scanner.z0A∧(∀p∈x_r.z0b,p.Text.length≤x_r.Scanner.z0A)) (fun r=>Cw r.2.Scanner∧r.2.Scanner.z03=x_r.Scanner.z03∧x_r.Scanner.z0A≤r.2.Scanner.z0A∧r.2.z0b.length≤x_r.z0b.length+1∧(∀p∈r.2.z0b,p.Text.length≤r.2.Scanner.z0A)∧∀l,PRn x_r.z0b (dr x_r.Scanner.z03 x_r.Scanner.z0A) l↔(r.1=true∧PR r.2.z0b (dr r.2.Scanner.z03 r.2.Scanner.z0A) l)):=⟨by unfold zfP zd8 zd7; exact goR2⟩
instance (x_r:z0E):T (zgN x_r) (Rt x_r∧x_r.Scanner.z0A<x_r.Scanner.z03.length) (fun r=>(r.1=true→Rt r.2∧r.2.Scanner.z03=x_r.Scanner.z03∧x_r.Scanner.z0A<r.2.Scanner.z0A)∧∀l,PR x_r.z0b (dr x_r.Scanner.z03 x_r.Scanner.z0A) l↔(r.1=true∧PR r.2.z0b (dr r.2.Scanner.z03 r.2.Scanner.z0A) l)):=⟨by unfold zgN; exact goR2⟩
instance  (n:Nat) (v4:z0E):T (zjg n v4) (Rt v4∧v4.Scanner.z03.length<v4.Scanner.z0A+n) (fun r=>r.1.length≤32∧∀l,r=(l,0)↔PR v4.z0b (dr v4.Scanner.z03 v4.Scanner.z0A) l∧l.length≤32):=by
 induction n generalizing v4
 ·exact ⟨goz⟩
 exact ⟨by unfold zjg; exact goR2⟩
instance (a:Str):T (zre a) (a.length<1000000000) (fun r=>r.1.length≤32∧∀l,r=(l,0)↔PR [] a l∧l.length≤32):=⟨by unfold zre; exact goR2⟩
instance (c:List zZX) (d:List zZX) (b:Int) (n:Nat) (a:Int):T (zaP c d b n a) (b=c.length∧b=d.length∧0≤a∧a≤b∧b<a+n∧c.length<1000000000000) (fun r=>r=true↔dr c a=dr d a):=by
 induction n generalizing a
 ·exact ⟨goz⟩
 exact ⟨by unfold zaP; exact goR5⟩
instance (a:List zZX) (b:List zZX):T (zbx a b) (a.length<1000000000000) (fun r=>r=true↔a=b):=⟨by unfold zbx; exact goR2⟩
instance (e:List zZX) (c:List zZX) (b:Int) (n:Nat) (d:List Str) (a:Int):T (zd9 e c b n d a) (Tp c∧e.length<1000000000000∧b=c.length∧0≤a∧a≤b∧b<a+n∧d.length≤3*a∧sl d≤a*120000) (fun r=>(r.2=0↔zBi e (Go.Lib.join d []++prA (dr c a)))∧(r.2=0∨r.2=2)):=by
 induction n generalizing d a
 ·exact ⟨goz⟩
 exact ⟨by unfold zd9 ziG; exact zHO⟩
instance (a:List zZX):T (ztN a) (Tp a) (fun r=>(r.2=0↔zBi a (prA a))∧(r.2=0∨r.2=2)):=⟨by unfold ztN; exact zHO⟩
instance (d:List zZX) (e:List Str) (b:List Str) (c:Int) (n:Nat) (a:Int):T (zjh d e b c n a) (Tp d∧e.length<1000000000000∧c=b.length∧0≤a∧a≤c∧c<a+n∧b.length<1000000000000) (fun r=>r=true↔zFI e (dr b a)∧zBi d (prA d)):=by
 induction n generalizing a
 ·exact ⟨goz⟩
 exact ⟨by unfold zjh; exact zHO⟩
instance (a:Int) (b:List zZX):T (zrf a b) (Tp b) (fun r=>r=true↔parP a b):=⟨by unfold zrf zlN; exact zHO⟩
instance (a:zZ1):T (zwR a) (Rm a) (fun r=>r=true↔actP a):=⟨by unfold zwR zoN; exact zHO⟩
instance (a:zZ1):T (zrg a) (Rm a) (fun r=>(zHQ a→r=0)∧(¬ zHQ a→r=9)):=⟨by unfold zrg; exact zHO⟩
instance (c:List zZ1) (a:List zZ1) (b:Int) (n:Nat) (i9:Int):T (zid c a b n i9) (Rl a∧c=a∧b=a.length∧0≤i9∧i9≤b∧b<i9+n) (fun r=>(zod (dr a i9)→r.2=if 64<c.length then 3 else 0)∧(¬ zod (dr a i9)→r.2=9)):=by
 induction n generalizing i9
 ·exact ⟨goz⟩
 exact ⟨by unfold zid; exact zHO⟩
instance (a:List zZ1):T (zie a) (Rl a) (fun r=>(zod a→r.2=if 64<a.length then 3 else 0)∧(¬ zod a→r.2=9)):=⟨by unfold zie; exact zHO⟩
end Go.Dm
end
section
namespace Go.Dm
variable {l:List zZU} {G:Prop} {k:Nat}
theorem gu (h:G:=by
 (with_reducible repeat' first|intro _|refine And.intro ?_ ?_|refine Wf ?_ ?_|refine Wi ?_ ?_|refine Ws ?_|refine Wc ?_ ?_|refine Wo ?_ ?_|refine Wk ?_|refine We ?_ ?_)
 all_goals (try simp only [List.length_cons,List.length_nil])
 all_goals grind [fuel,zb5,zcV,zbk,zaG,zfC,Sm,Ss,Fv,Fm,Cw,Pw,Tm,Swm,Um,Ac,Km,Gm,Pm,Rt,Tp,Rm,Rl,Om,Ol,UInt8.toNat_lt]):G:=h
theorem gu1 (h:G:=by
 (with_reducible repeat' first|intro _|refine And.intro ?_ ?_|refine Wf ?_ ?_|refine Wi ?_ ?_|refine Ws ?_|refine Wc ?_ ?_|refine Wo ?_ ?_|refine Wk ?_|refine We ?_ ?_)
 all_goals (try simp only [List.length_cons,List.length_nil])
 all_goals grind (gen:=12) (ematch:=12) [fuel,zb5,zcV,zbk,zaG,zfC,Sm,Ss,Fv,Fm,Cw,Pw,Tm,Swm,Um,Ac,Km,Gm,Pm,Rt,Tp,Rm,Rl,Om,Ol,UInt8.toNat_lt]):G:=h
theorem gu2 (h:G:=by
 (with_reducible repeat' first|intro _|refine And.intro ?_ ?_|refine Wf ?_ ?_|refine Wi ?_ ?_|refine Ws ?_|refine Wc ?_ ?_|refine Wo ?_ ?_|refine Wk ?_|refine We ?_ ?_)
 all_goals (try simp only [List.length_cons,List.length_nil])
 all_goals grind (gen:=20) (ematch:=20) (instances:=5000) [fuel,zb5,zcV,zbk,zaG,zfC,Sm,Ss,Fv,Fm,Cw,Pw,Tm,Swm,Um,Ac,Km,Gm,Pm,Rt,Tp,Rm,Rl,Om,Ol,UInt8.toNat_lt]):G:=h
theorem zQm:∀s∈zIQ,s.length≤20:=by decide +kernel
@[grind →] theorem hopN_le {s:Str} (h:s∈zIQ):s.length≤20:=zQm s h
def Vb (k:Nat) (l:List zZU):Prop:=∀f∈l,f.Value.length≤k
theorem Vb_n (k:Nat):Vb k []:=fun f a=>by cases a
theorem zN5 {a v:Str} (h:Vb k l) (c:v.length≤k):Vb k (l++[⟨a,v⟩]):=fun f b=>by
 simp only [List.mem_append,List.mem_singleton] at b
 rcases b with b|rfl
 ·exact h f b
 ·exact c
theorem Vb_set {i:Int} {f:zZU} (h:Vb k l) (a:f.Value.length≤k):Vb k (l.set i.toNat f):=fun g b=>by
 rcases List.mem_or_eq_of_mem_set b with e|e
 ·exact h g e
 ·exact e▸a
theorem Vb_m {f:zZU} (h:Vb k l) (a:f∈l):f.Value.length≤k:=h f a
theorem Vb_i (h:∀f∈l,f.Value.length≤k):Vb k l:=h
theorem zyY (h:G:=by
 (with_reducible repeat' first|intro _|refine And.intro ?_ ?_|refine Wf ?_ ?_|refine Wi ?_ ?_|refine Ws ?_|refine Wc ?_ ?_|refine Wo ?_ ?_|refine Wk ?_|refine We ?_ ?_)
 all_goals (try simp only [List.length_cons,List.length_nil])
 all_goals grind (gen:=12) (ematch:=12) [Vb_n,zN5,Vb_set, → Vb_m,Vb_i,fuel,zb5,zcV,zbk,zaG,zfC,Sm,Ss,Fv,Fm,Cw,Pw,Tm,Swm,Um,Ac,Km,Gm,Pm,Rt,Tp,Rm,Rl,Om,Ol,UInt8.toNat_lt]):G:=h
theorem zCy (h:G:=by
 (with_reducible repeat' first|intro _|refine And.intro ?_ ?_|refine Wf ?_ ?_|refine Wi ?_ ?_|refine Ws ?_|refine Wc ?_ ?_|refine Wo ?_ ?_|refine Wk ?_|refine We ?_ ?_)
 all_goals (try simp only [List.length_cons,List.length_nil])
 all_goals grind (gen:=12) (ematch:=12) [fuel,zb5,zcV,zbk,zaG,zfC,Sm,Ss,Fv,Fm,Cw,Pw,Tm,Swm,Um,Ac,Km,Gm,Pm,Rt,Tp,Rm,Rl,Om,Ol,UInt8.toNat_lt]):G:=h
end Go.Dm
end
section
namespace Go.Dm
instance (l:List z0h):T (zif l) (l.length≤1000000) (fun r=>r=l):=⟨by unfold zif; exact gu⟩
instance (l:List zZX):T (zgi l) (l.length≤1000000) (fun r=>r=l):=⟨by unfold zgi; exact gu⟩
end Go.Dm
end
section
namespace Go.Dm
instance (l:List zZU):T (zhd l) (l.length≤1000000) (fun r=>r=l):=⟨by unfold zhd; exact gu⟩
instance (a:List zZU):T (zfR a) (Fm a) (fun r=>r.z0N=a):=⟨by unfold zfR; exact gu⟩
instance (a:z0w):T (zcc a) (Fm a.z0N) (fun r=>r=a.z0N):=⟨by unfold zcc; exact gu⟩
instance (b:Str) (a:Str):T (zbY b a) (b.length<4294967281∧a.length<4294967281) (fun r=>True):=⟨by unfold zbY; exact gu⟩
instance (s1:Str) (d:List zZU) (b:Int) (n:Nat) (c:List Str) (a:Int):T (zdI s1 d b n c a) (s1.length<1000000000∧Fm d∧b=d.length∧0≤a∧a≤b∧b<a+n∧c.length≤a∧∀s∈c,s.length≤70000000) (fun r=>Ss r):=by
 induction n generalizing c a
 ·exact ⟨goz⟩
 exact ⟨by unfold zdI; exact gu⟩
instance (b:z0w) (a:Str):T (zcC b a) (a.length<1000000000∧Fm b.z0N) (fun r=>Ss r):=⟨by unfold zcC; exact gu⟩
instance (b:zZ6) (a:Int):T (zfS b a) (Cw b) (fun r=>Cw r.2∧r.2.z03=b.z03∧r.2.z0A≤b.z0A∧(0≤a→a≤b.z0A→r.2.z0A=a)):=⟨by unfold zfS; exact gu⟩
instance (x_p:z0j) (a:Int):T (zc4 x_p a) (Cw x_p.Scanner∧x_p.z03=x_p.Scanner.z03∧0≤x_p.z1a∧x_p.z1a≤a∧a≤x_p.z03.length∧x_p.z0b.length<1000000000) (fun r=>r.Scanner=x_p.Scanner∧r.z03=x_p.z03∧r.z1a=x_p.Scanner.z0A∧r.z0b.length≤x_p.z0b.length+1∧∀s∈r.z0b,s∈x_p.z0b∨s.length≤x_p.z03.length):=⟨by unfold zc4 zdo; exact gu⟩
instance  (n:Nat) (vp0:z0j) (i3:Int):T (zaa n vp0 i3) (Cw vp0.Scanner∧vp0.Scanner.z03.length<vp0.Scanner.z0A+n∧0≤i3∧i3≤vp0.Scanner.z0A+1) (fun r=>Cw r.2.Scanner∧r.2.Scanner.z03=vp0.Scanner.z03∧vp0.Scanner.z0A≤r.2.Scanner.z0A∧r.2.z0b=vp0.z0b∧r.2.z1a=vp0.z1a∧r.2.z03=vp0.z03):=by
 induction n generalizing vp0 i3
 ·exact ⟨goz⟩
 exact ⟨by unfold zaa; exact gu⟩
instance (x_p:z0j):T (zcZ x_p) (Cw x_p.Scanner) (fun r=>Cw r.2.Scanner∧r.2.Scanner.z03=x_p.Scanner.z03∧x_p.Scanner.z0A≤r.2.Scanner.z0A∧r.2.z0b=x_p.z0b∧r.2.z1a=x_p.z1a∧r.2.z03=x_p.z03):=⟨by unfold zcZ; exact gu⟩
instance (i4:Int) (n:Nat) (v5:z0Z) (a:Bool):T (zdd i4 n v5 a) (Cw v5.Scanner∧0≤i4∧i4≤v5.Scanner.z0A∧v5.z0b.length≤v5.Scanner.z0A∧v5.Scanner.z03.length<v5.Scanner.z0A+n∧(a=true→v5.Scanner.z03.length+1<v5.Scanner.z0A+n)) (fun r=>Cw r.2.2∧r.2.2.z03=v5.Scanner.z03∧i4≤r.2.2.z0A∧(r.2.1=true→a=true∧v5.Scanner.z0A≤r.2.2.z0A)∧r.1.length≤v5.Scanner.z03.length):=by
 induction n generalizing v5 a
 ·exact ⟨goz⟩
 exact ⟨by unfold zdd ziI; exact gu⟩
instance (a:zZ6):T (zji a) (Cw a) (fun r=>Cw r.2.2∧r.2.2.z03=a.z03∧a.z0A≤r.2.2.z0A∧(r.2.1=true→a.z0A<r.2.2.z0A)∧r.1.length≤a.z03.length):=⟨by unfold zji; exact gu⟩
instance (x_p:z0j):T (zea x_p) (Pw x_p∧x_p.Scanner.z0A<x_p.Scanner.z03.length) (fun r=>r.1=true→Pw r.2∧r.2.Scanner.z03=x_p.Scanner.z03∧x_p.Scanner.z0A<r.2.Scanner.z0A):=⟨by unfold zea; exact gu⟩
instance (a:Str) (n:Nat) (v4:z0j):T (zhe a n v4) (Pw v4∧v4.Scanner.z03=a∧a.length<v4.Scanner.z0A+n) (fun r=>r.1.length≤a.length+1∧∀s∈r.1,s.length≤a.length):=by
 induction n generalizing v4
 ·exact ⟨goz⟩
 exact ⟨by unfold zhe; exact gu⟩
instance (a:Str):T (zkU a) (a.length<1000000000) (fun r=>r.1.length≤a.length+1∧∀s∈r.1,s.length≤a.length):=⟨by unfold zkU; exact gu⟩
instance {P:(List Str × Int)→Prop} (g:List Str→Int→Option (List Str × Int)) (f:List Str) (e:List Str) (b:Int) (c:Int) (n:Nat) (a:Int):K (zgl g f e b c n a) P ((Sm e∧c=e.length∧0≤a∧a≤c∧c<a+n∧f.length+e.length≤4000000000000∧0≤b∧b≤10000∧P ([],2))∧(∀l i,l=f++e∧i=b+1→W (g l i) P)):=by
 induction n generalizing a
 ·exact ⟨goz⟩
 exact ⟨fun ⟨h,d⟩=>by have d:=fun a0 j=>K.mk (d a0 j); unfold zgl; exact gu⟩
instance (c:List Str) (b:Int) (n:Nat) (d:List Str) (a:Int):T (zet c b n d a) (Ss c∧b=c.length∧0≤a∧a≤b∧b<a+n∧d.length≤a*70000001∧∀s∈d,s.length≤70000000) (fun r=>r.1.length≤b*70000001∧∀s∈r.1,s.length≤70000000):=by
 induction n generalizing d a
 ·exact ⟨goz⟩
 exact ⟨by unfold zet; exact gu⟩
instance (a:List Str):T (zhq a) (Ss a) (fun r=>r.1.length≤a.length*70000001∧∀s∈r.1,s.length≤70000000):=⟨by unfold zhq; exact gu⟩
instance (b:z04) (a:List Str):T (zdy b a) (Ss a) (fun r=>r.1.N=0):=⟨by unfold zdy; exact gu2⟩
instance {P:(zZ4 × Int × z0w)→Prop} (k:Int→Int→Option (zZ4 × Int × z0w)) (f:z0w) (e:Int) (g:List Str) (d:Int) (n:Nat) (j:Int) (c:Int):K (zai k f e g d n j c) P ((Sm g∧d=g.length∧0≤c∧c≤d∧d<c+n∧0≤e∧e≤10000 ∧ -1≤j∧j≤1099511627776∧P (⟨0,0⟩,28,f))∧(∀a b,b=e+1 ∧ -1≤a∧a≤1099511627776→W (k a b) P)):=by
 induction n generalizing j c
 ·exact ⟨goz⟩
 exact ⟨fun ⟨h,i⟩=>by have i:=fun a0 l=>K.mk (i a0 l); unfold zai zbr; exact gu2⟩
instance (d:z0w) (c:List Str) (b:Int) (n:Nat) (e:Int) (a:Int):T (zaQ d c b n e a) (Ss c∧b=c.length∧0≤a∧a≤b∧b<a+n ∧ -1≤e∧e≤1099511627776) (fun r=>0≤r.1.N∧r.1.N≤1099511627776):=by
 induction n generalizing e a
 ·exact ⟨goz⟩
 exact ⟨by unfold zaQ; exact gu2⟩
instance (b:z04) (a:List Str):T (zeX b a) (Ss a) (fun r=>0≤r.1.N∧r.1.N≤1099511627776):=⟨by unfold zeX; exact gu2⟩
instance (x_h:zZY) (a:Int):T (znz x_h a) (Fm x_h.Fields) (fun r=>0≤r.1.N∧r.1.N≤1099511627776):=⟨by unfold znz zkV; exact gu2⟩
instance (x_h:zZY):T (zeJ x_h) (Fm x_h.Fields) (fun r=>0≤r.1.N∧r.1.N≤1099511627776):=⟨by unfold zeJ; exact gu2⟩
instance {P:(List Str)→Prop} (g:List Str→Int→Option (List Str)) (b:Int) (d:List Str) (c:Int) (n:Nat) (f:List Str) (a:Int):K (zde g b d c n f a) P ((d.length≤70000001∧(∀s∈d,s.length≤70000000)∧c=d.length∧0≤a∧a≤c∧c<a+n∧f.length≤b*70000001+a∧(∀s∈f,s.length≤70000000)∧0≤b∧b≤10000)∧(∀l i,(l.length:Int)≤i*70000001∧i=b+1∧(∀s∈l,s.length≤70000000)→W (g l i) P)):=by
 induction n generalizing f a
 ·exact ⟨goz⟩
 exact ⟨fun ⟨h,e⟩=>by have e:=fun a0 j=>K.mk (e a0 j); unfold zde ziJ; exact gu⟩
instance (c:List Str) (b:Int) (n:Nat) (d:List Str) (a:Int):T (zdf c b n d a) (Ss c∧b=c.length∧0≤a∧a≤b∧b<a+n∧d.length≤a*70000001∧∀s∈d,s.length≤70000000) (fun r=>r.length≤b*70000001∧∀s∈r,s.length≤70000000):=by
 induction n generalizing d a
 ·exact ⟨goz⟩
 exact ⟨by unfold zdf; exact gu⟩
instance (a:List zZU):T (zlO a) (Fm a) (fun r=>r.length≤700000010000∧∀s∈r,s.length≤70000000):=⟨by unfold zlO; exact gu⟩
instance (b:Str) (a:Str):T (znA b a) (b.length<1000000000∧a.length<1000000000) (fun r=>True):=⟨by unfold znA; exact gu⟩
instance (c:List Str) (d:Str) (b:Int) (n:Nat) (a:Int):T (z7 c d b n a) (Sm c∧d.length<1000000000∧b=c.length∧0≤a∧a≤b∧b<a+n) (fun r => -1≤r∧r<c.length):=by
 induction n generalizing a
 ·exact ⟨goz⟩
 exact ⟨by unfold z7; exact gu⟩
instance (a:List Str) (b:Str):T (za5 a b) (Sm a∧b.length<1000000000) (fun r => -1≤r∧r<a.length):=⟨by unfold za5; exact gu⟩
instance (b:List Str) (a:Str):T (zaR b a) (Sm b∧a.length<1000000000) (fun r=>True):=⟨by unfold zaR; exact gu⟩
instance (b:Str) (a:List Str):T (zwS b a) (Sm a∧b.length<1000000000) (fun r=>True):=⟨by unfold zwS; exact gu⟩
instance (x_f:zZU) (a:List Str):T (zdg x_f a) (Sm a∧x_f.Name.length<1000000000) (fun r=>True):=⟨by unfold zdg; exact gu⟩
instance (c:List zZU) (d:List Str) (b:Int) (n:Nat) (a:Int):T (zJ c d b n a) (Fm c∧Sm d∧b=c.length∧0≤a∧a≤b∧b<a+n) (fun r => -1≤r∧r<c.length):=by
 induction n generalizing a
 ·exact ⟨goz⟩
 exact ⟨by unfold zJ; exact gu⟩
instance (a:List zZU) (b:List Str):T (zav a b) (Fm a∧Sm b) (fun r => -1≤r∧r<a.length):=⟨by unfold zav; exact gu⟩
instance (c:List Str) (n:Nat) (a:List zZU) (i5:Int) (b:Int):T (zE c n a i5 b) (Fm a∧Sm c∧0≤i5∧i5≤b∧b≤a.length∧a.length<b+n) (fun r=>Fm r∧r.length≤a.length∧i5≤r.length∧∀f∈r,f∈a∨f=⟨[],[]⟩):=by
 induction n generalizing a i5 b
 ·exact ⟨goz⟩
 exact ⟨by unfold zE; exact gu⟩
instance (b:List zZU) (a:List Str):T (zZ b a) (Fm b∧Sm a) (fun r=>Fm r∧r.length≤b.length∧∀f∈r,f∈b∨f=⟨[],[]⟩):=⟨by unfold zZ; exact gu⟩
instance (b:z0w) (a:List Str):T (zdh b a) (Fm b.z0N∧Sm a) (fun r=>Fm r.2.z0N∧0≤r.1∧r.2.z0N.length≤b.z0N.length∧∀f∈r.2.z0N,f∈b.z0N∨f=⟨[],[]⟩):=⟨by unfold zdh; exact gu⟩
end Go.Dm
end
section
namespace Go.Dm
instance (a:List zZU):T (ztO a) (Fm a) (fun r=>Fm r∧r.length≤a.length∧∀f∈r,f∈a∨f=⟨[],[]⟩):=⟨by unfold ztO; exact gu⟩
instance (a:Str) (s1:Str) (n:Nat) (i5:Int):T (zen a s1 n i5) (0≤i5∧i5≤a.length∧a.length<i5+n∧a.length<1000000000) (fun r=>True):=by
 induction n generalizing i5
 ·exact ⟨goz⟩
 exact ⟨by unfold zen zmt; exact gu⟩
instance (b:Str) (a:Str):T (ztk b a) (b.length<1000000000) (fun r=>True):=⟨by unfold ztk; exact gu⟩
instance (a:Str):T (zri a) (a.length<1000000000) (fun r=>True):=⟨by unfold zri; exact gu⟩
instance (a:Str):T (zoO a) (a.length<1000000000) (fun r=>True):=⟨by unfold zoO; exact gu⟩
instance (a:Str):T (zqm a) (a.length<1000000000) (fun r=>r.1.length≤a.length∧r.2.1.length≤a.length):=⟨by unfold zqm; exact gu⟩
instance (x_t:z0F) (a:Str):T (zmu x_t a) (Tm x_t∧a.length≤10000000) (fun r=>Tm r.1∧r.1.Path.length≤x_t.Path.length+a.length+1∧r.1.Query.length≤x_t.Query.length+a.length+1):=⟨by unfold zmu zkX zkW; exact gu⟩
instance (a:Str):T (zjA a) (a.length≤10000000) (fun r=>Tm r.1∧r.1.Path.length≤a.length+1∧r.1.Query.length≤a.length+1):=⟨by unfold zjA zeK zgP; exact gu⟩
instance (a:Str) (b:Str):T (ztP a b) (b.length≤10000000) (fun r=>Tm r.1∧r.1.Path.length≤b.length+1∧r.1.Query.length≤b.length+1):=⟨by unfold ztP; exact gu⟩
instance (a:Str) (b:Str):T (zkY a b) (b.length≤10000000) (fun r=>Tm r.1∧r.1.Path.length≤b.length+1∧r.1.Query.length≤b.length+1):=⟨by unfold zkY zjB; exact gu⟩
instance (b:Str) (a:Str) (c:Bool):T (zrj b a c) (b.length≤1000000000∧a.length≤1000000000) (fun r=>r.length≤b.length+a.length+1):=⟨by unfold zrj; exact gu⟩
instance (x_t:z0F):T (zlP x_t) (Tm x_t) (fun r=>r.length≤x_t.Path.length+x_t.Query.length+10):=⟨by unfold zlP ziK; exact gu⟩
instance (x_h:z0G):T (zlQ x_h) (x_h.Name.length≤70000000∧x_h.Port≤65535) (fun r=>r.1.length≤x_h.Name.length+100):=⟨by unfold zlQ ziM ziL; exact gu⟩
instance (x_x:zZU) (a:Str):T (zhr x_x a) (x_x.Name.length<1000000000∧a.length<1000000000) (fun r=>True):=⟨by unfold zhr; exact gu⟩
instance (c:List zZU) (d:Str) (b:Int) (n:Nat) (a:Int):T (zF c d b n a) (Fm c∧d.length<1000000000∧b=c.length∧0≤a∧a≤b∧b<a+n) (fun r => -1≤r∧r<c.length):=by
 induction n generalizing a
 ·exact ⟨goz⟩
 exact ⟨by unfold zF; exact gu⟩
instance (a:List zZU) (b:Str):T (zaq a b) (Fm a∧b.length<1000000000) (fun r => -1≤r∧r<a.length):=⟨by unfold zaq; exact gu⟩
instance (b:z0w) (a:Str):T (zka b a) (Fm b.z0N∧a.length<1000000000) (fun r=>r.1.length≤70000000):=⟨by unfold zka; exact gu⟩
instance (a:z0w) (b:List zZU):T (zfJ a b) (a.z0N.length+b.length≤1000000000000) (fun r=>r.z0N=a.z0N++b):=⟨by unfold zfJ; exact gu⟩
theorem zLf (a b:Str):zbY a b=zbY b a:=by
 unfold zbY;cases zbG a<;>cases zbG b<;>simp [BEq.comm]
theorem rem1 (f:zZU) (u:Str):zdg f [u]=zhr f u:=by
 unfold zdg zhr zwS zaR za5;obtain ⟨n,hn⟩:∃n,fuel=n+1+1:=⟨999999999999999998,rfl⟩;rw [hn];have c:=zLf u f.Name
 cases h:zbY f.Name u with
 | none =>
  rw [h] at c;simp [z7,znA,lAt,c]
 | some b =>
  rw [h] at c;cases b<;>simp [z7,znA,lAt,c,zh,inI]
theorem idxR (l:List zZU) (u:Str) (k:Int):∀(n:Nat) (i:Int),zJ l [u] k n i=zF l u k n i
 | 0,_=>rfl
 | n+1,i=>by
  unfold zJ zF;simp only [rem1,idxR l u k n]
instance (c:z0w) (a b:Str):T (zjj c a b) (Fm c.z0N∧a.length≤70000000∧b.length≤70000000) (fun r=>Fv r.z0N∧r.z0N.length≤c.z0N.length+1∧∀k,Vb k c.z0N→b.length≤k→Vb k r.z0N):=⟨fun ⟨h,hn,t⟩=>by
 obtain ⟨j,e,h1,h2⟩:=(inferInstance:T (zaq c.z0N a) _ _).ok ⟨h,by omega⟩;unfold zjj;rw [e];show W (if _ then _ else _) _;refine Wi (fun s=>?_) fun s=>?_
 ·with_reducible refine Wc ?_ ?_
  ·have:=h.1;simp only [List.length_cons,List.length_nil]; omega
  ·intro r m;refine Ws ?_;rw [m]
   unfold Fm Fv at *
   refine ⟨fun f g=>?_,by simp,fun k o q=>zN5 o q⟩;simp only [List.mem_append,List.mem_singleton] at g
   rcases g with g|rfl
   ·exact h.2 f g
   ·exact ⟨hn,t⟩
 ·have l:0≤j:=by simpa using s
  have x:zav c.z0N [a]=some j:=by
   rw [← e]; exact idxR _ _ _ _ _
  have u:Sm [a]:=by unfold Sm; simp; omega
  have B:=h.1;obtain ⟨d,v,i,w,n,p⟩:=(inferInstance:T (zE [a] fuel c.z0N j (j+1)) _ _).ok ⟨h,u,l,by omega,by omega,by unfold fuel; omega⟩
  have z:zZ c.z0N [a]=some d:=by
   unfold zZ;rw [x];show (if _ then _ else _)=_;rw [if_neg (by simp; omega),show zh j 1=some (j+1) by simp [zh,inI]; omega];exact v
  unfold zdh;rw [z];show W (((zbh _ _).bind fun A=>some (A,(⟨d⟩:z0w))).bind _) _;rw [show zbh (c.z0N.length:Int) (d.length:Int)=some ((c.z0N.length:Int)-d.length) by simp [zbh,inI]; omega];show W ((zcN d j [⟨a,b⟩]).bind _) _;have y:=i.1
  with_reducible refine Wc ⟨rfl,l,n,by omega⟩ ?_
  intro r m;refine Ws ?_;refine ⟨fun f g=>?_,by show r.length≤_; omega,fun k o q f g=>?_⟩
  rotate_left
  ·rcases m.2 f g with g|g
   ·rcases p f g with g|rfl
    ·exact o f g
    ·exact Nat.zero_le _
   ·simp only [List.mem_singleton] at g;subst g; exact q
  rcases m.2 f g with g|g
  ·exact i.2 f g
  ·simp only [List.mem_singleton] at g;subst g
   exact ⟨hn,t⟩⟩
instance (x_w:z0T) (x_env:z0g) (x_t:z0F):T (zfT x_w x_env x_t) (Fm x_w.Bag.z0N∧x_w.Bag.z0N.length≤9000∧x_env.Host.length≤70000000∧x_t.Host.Name.length≤10000000∧x_t.Host.Port≤65535) (fun r=>(r.z1n=x_w.z1n∧Fv r.Bag.z0N∧r.Bag.z0N.length≤x_w.Bag.z0N.length+2)∧(Vb 46000000 x_w.Bag.z0N→x_env.Host.length≤46000000→Vb 46000000 r.Bag.z0N)):=⟨by unfold zfT zeb; exact zyY⟩
instance (x_w:z0T):T (zcQ x_w) (Fm x_w.Bag.z0N) (fun r=>r.1.Kind=x_w.z1n.Kind∧r.1.Method=x_w.z1n.Method∧r.1.Target=x_w.z1n.Target∧r.1.Code=x_w.z1n.Code∧r.1.Reason=x_w.z1n.Reason∧r.1.Minor=x_w.z1n.Minor∧r.1.Fields=x_w.Bag.z0N∧r.2=0):=⟨by unfold zcQ; exact gu1⟩
end Go.Dm
end
section
namespace Go.Dm
instance (b:Str) (a:Str):T (zfn b a) (b.length<1000000000) (fun r=>r=true→a.length≤b.length):=⟨by unfold zfn; exact gu⟩
instance (d:Str) (c:List z0h) (b:Int) (n:Nat) (a:Int):T (zeL d c b n a) (d.length<1000000000∧Swm c∧b=c.length∧0≤a∧a≤b∧b<a+n) (fun r=>r.1.length≤d.length+1000):=by
 induction n generalizing a
 ·exact ⟨goz⟩
 exact ⟨by unfold zeL; exact gu1⟩
instance (a:Str) (b:List z0h):T (zoP a b) (a.length<1000000000∧Swm b) (fun r=>r.1.length≤a.length+1000):=⟨by unfold zoP; exact gu1⟩
instance (a:Str) (b:List z0h):T (ziN a b) (a.length≤900000000∧Swm b) (fun r=>r.length≤a.length+1000):=⟨by unfold ziN; exact gu1⟩
instance (b:UInt8):T (zhs b) True (fun r=>r=(gd zhs) b):=bt (by decide +kernel) b
instance (a:Str):T (zmv a) (a.length<1000000000) (fun r=>r.1.Name.length+r.1.Value.length≤a.length):=⟨by unfold zmv zkZ; exact gu1⟩
instance (b:UInt8):T (ziO b) True (fun r=>r=(gd ziO) b):=bt (by decide +kernel) b
instance (a:Str):T (zns a) (a.length<1000000000) (fun r=>True):=⟨by unfold zns; exact gu1⟩
instance (c:List Str) (d:Int) (n:Nat) (v7:z0k) (b:Int):T (zhf c d n v7 b) (Sm c∧d=c.length∧0≤b∧b≤d∧d<b+n∧v7.Attrs.length≤b) (fun r=>r.1.Name.length≤v7.Name.length∧r.1.Value.length≤v7.Value.length∧r.1.Attrs.length≤c.length∧∀a∈r.1.Attrs,a∈v7.Attrs∨∃s∈c,a.Name.length+a.Value.length≤s.length):=by
 induction n generalizing v7 b
 ·exact ⟨goz⟩
 exact ⟨by unfold zhf; exact gu1⟩
instance (b:Str):T (zk0 b) (b.length<1000000000) (fun r=>r.1.Name.length≤b.length∧r.1.Value.length≤b.length∧r.1.Attrs.length≤b.length+1∧∀a∈r.1.Attrs,a.Name.length+a.Value.length≤b.length):=⟨by unfold zk0; exact gu1⟩
instance (s1:Str) (v2:z0k) (n:Nat) (i5:Int):T (zig s1 v2 n i5) (-1≤i5∧i5<v2.Attrs.length∧i5+1<n∧s1.length<1000000000∧Ac v2) (fun r => -1≤r∧r<v2.Attrs.length):=by
 induction n generalizing i5
 ·exact ⟨goz⟩
 exact ⟨by unfold zig; exact gu1⟩
instance (x_c:z0k) (a:Str):T (zmw x_c a) (a.length<1000000000∧Ac x_c) (fun r => -1≤r∧r<x_c.Attrs.length):=⟨by unfold zmw; exact gu1⟩
instance (x_c:z0k) (b:Str):T (zrk x_c b) (b.length<1000000000∧Ac x_c) (fun r=>r.1.length=0∨∃a∈x_c.Attrs,r.1=a.Value):=⟨by unfold zrk; exact gu1⟩
instance (b:Str) (a:Str):T (zec b a) (True) (fun r=>r.length≤b.length):=⟨by unfold zec; exact gu⟩
instance (b:Str) (a:Str):T (zgQ b a) (True) (fun r=>r.length≤b.length):=⟨by unfold zgQ; exact gu⟩
instance (b:Str) (a:Str):T (zk1 b a) (b.length<1000000000∧a.length<900000000) (fun r=>r=true→a.length≤b.length):=⟨by unfold zk1; exact gu⟩
instance (e:Str) (d:Str) (c:List z0h) (b:Int) (n:Nat) (a:Int):T (zih e d c b n a) (d.length<1000000000∧Swm c∧b=c.length∧0≤a∧a≤b∧b<a+n) (fun r=>r.1.length≤e.length+d.length+1000):=by
 induction n generalizing a
 ·exact ⟨goz⟩
 exact ⟨by unfold zih; exact gu1⟩
instance (a:Str) (b:List z0h):T (zoQ a b) (a.length<1000000000∧Swm b) (fun r=>r.1.length≤2*a.length+1000):=⟨by unfold zoQ; exact gu1⟩
instance (s1:Str) (s2:Str) (e:Int) (c:List z0K) (d:Int) (n:Nat) (v8:z0k) (b:Int):T (zdp s1 s2 e c d n v8 b) (s1.length≤7500∧s2.length≤7500∧d=c.length∧0≤b∧b≤d∧d<b+n∧c.length≤3001∧v8.Attrs.length≤b∧(∀a∈c,a.Name.length≤7500∧a.Value.length≤7500)∧Km v8) (fun r=>Km r):=by
 induction n generalizing v8 b
 ·exact ⟨goz⟩
 exact ⟨by unfold zdp zlS zlR zlT; exact gu1⟩
instance (x_c:z0k) (b:Str) (a:Str):T (zrl x_c b a) (b.length≤7500∧a.length≤7500∧Km x_c∧x_c.Attrs.length≤3001) (fun r=>Km r):=⟨by unfold zrl; exact gu1⟩
instance (c:List z0K) (d:List z0K) (a:Int) (n:Nat) (b:Int):T (zaS c d a n b) (a=c.length∧a=d.length∧0≤b∧b≤a∧a<b+n∧c.length<1000000000000) (fun r=>True):=by
 induction n generalizing b
 ·exact ⟨goz⟩
 exact ⟨by unfold zaS; exact gu⟩
instance (a:List z0K) (b:List z0K):T (zby a b) (a.length<1000000000000) (fun r=>True):=⟨by unfold zby; exact gu⟩
instance (x_a:z0k) (a:z0k):T (zoR x_a a) (x_a.Attrs.length<1000000000000) (fun r=>True):=⟨by unfold zoR; exact gu1⟩
instance (e:z0k) (c:List z0K) (b:Int) (n:Nat) (d:List Str) (i20:Int):T (zgm e c b n d i20) (Km e∧b=c.length∧0≤i20∧i20≤b∧b<i20+n∧c.length≤3002∧d.length≤i20+1∧sl d≤(i20+1)*15001∧∀a∈c,a.Name.length≤7500∧a.Value.length≤7500) (fun r=>r.1.length≤46000000):=by
 induction n generalizing d i20
 ·exact ⟨goz⟩
 exact ⟨by unfold zgm; exact gu1⟩
instance (a:z0k):T (zoS a) (Km a) (fun r=>r.1.length≤46000000):=⟨by unfold zoS; exact gu1⟩
instance (a:Str) (b:List z0h):T (zjC a b) (a.length≤3000∧Swm b) (fun r=>r.length≤46000000):=⟨by unfold zjC; exact gu1⟩
instance (b:Int) (n:Nat) (v2:z0g) (c:List zZU) (a:Int):T (zcg b n v2 c a) (b=c.length∧c.length≤10000∧0≤a∧a≤b∧b<a+n∧Swm v2.Domains∧Swm v2.Locations∧Fv c∧Vb 46000000 c∧∀k f,a≤k→lAt c k=some f→f.Value.length≤3000) (fun r=>(r.length=c.length∧Fv r)∧Vb 46000000 r):=by
 induction n generalizing v2 c a
 ·exact ⟨goz⟩
 exact ⟨by unfold zcg zgR; exact zyY⟩
instance (x_env:z0g) (a:List zZU):T (zjD x_env a) (Fm a∧Swm x_env.Domains∧Swm x_env.Locations∧∀f∈a,f.Value.length≤3000) (fun r=>(r.length=a.length∧Fv r)∧Vb 46000000 r):=⟨by unfold zjD; exact zyY⟩
instance (x_a0:z0g) (x_a1:zZY):T (zoT x_a0 x_a1) (Fm x_a1.Fields∧x_a1.Fields.length≤8000∧(∀f∈x_a1.Fields,f.Value.length≤3000)∧x_a1.Target.length≤9000000∧x_a0.Host.length≤46000000∧Swm x_a0.Domains∧Swm x_a0.Locations) (fun r=>(Fv r.1.Fields∧r.1.Fields.length≤x_a1.Fields.length+2)∧Vb 46000000 r.1.Fields∧r.1.Target.length≤2*x_a1.Target.length+20∧r.1.Method.length≤x_a1.Method.length∧r.1.Reason.length≤x_a1.Reason.length∧(r.1.Code=x_a1.Code∨r.1.Code=0)∧r.1.Minor≤1):=⟨by unfold zoT; exact zyY⟩
end Go.Dm
end
section
namespace Go.Dm
instance (b:Str) (a:Str):T (zdq b a) (True) (fun r=>r=⟨b,a⟩):=⟨by unfold zdq; exact gu1⟩
instance (x_env:z0g) (x_h:zZY):T (zoU x_env x_h) (x_env.Client.length≤70000000∧x_env.Host.length≤70000000∧x_env.Scheme.length≤70000000∧x_h.Target.length≤70000000∧x_h.Method.length≤70000000∧x_h.Code≤9223372036854775807) (fun r=>Pm r):=⟨by unfold zoU; exact gu1⟩
instance (a:zZ1):T (zoV a) (Rm a) (fun r=>r.length≤2):=⟨by unfold zoV; exact gu1⟩
instance (a:List zZ1) (v3:z0S) (n:Nat) (i4:Int):T (zdz a v3 n i4) (Rl a∧Gm v3∧1≤i4∧i4≤a.length∧a.length<i4+n) (fun r=>1≤r∧r≤a.length):=by
 induction n generalizing i4
 ·exact ⟨goz⟩
 exact ⟨by unfold zdz zii; exact gu1⟩
instance (a:List zZ1):T (zoW a) (Rl a∧1≤a.length) (fun r=>1≤r∧r≤a.length):=⟨by unfold zoW; exact gu1⟩
instance (x_g:z0S) (a:Int):T (zlU x_g a) (True) (fun r=>r.N=a∧r.Name=x_g.Name∧r.Text.length≤x_g.Value.length∧r.Parts=[]):=⟨by unfold zlU; exact gu1⟩
instance (a:zZ1):T (zoX a) (Rm a) (fun r=>Om r):=⟨by unfold zoX; exact gu1⟩
instance (d:List zZ1) (c:Int) (n:Nat) (a:z0x) (b:Int):T (zbS d c n a b) (Rl d∧c=d.length∧0≤b∧b≤c∧c<b+n∧Ol a.z0b∧a.z0b.length≤1000000+b) (fun r=>Ol r.z0b∧r.z0b.length≤a.z0b.length+c-b):=by
 induction n generalizing a b
 ·exact ⟨goz⟩
 exact ⟨by unfold zbS; exact gu1⟩
instance (a:z0x) (b:List zZ1):T (zed a b) (Rl b∧Ol a.z0b∧a.z0b.length≤1000000) (fun r=>Ol r.z0b∧r.z0b.length≤a.z0b.length+b.length):=⟨by unfold zed; exact gu1⟩
instance  (n:Nat) (a:z0x) (b:List zZ1):T (za2 n a b) (Rl b∧b.length<n∧Ol a.z0b∧a.z0b.length+2*b.length≤100000) (fun r=>Ol r.z0b∧r.z0b.length≤a.z0b.length+2*b.length):=by
 induction n generalizing a b
 ·exact ⟨goz⟩
 exact ⟨by unfold za2 zc0; exact gu1⟩
instance (b:z0x) (a:List zZ1):T (zee b a) (Rl a∧b.z0b=[]) (fun r=>Ol r.z0b∧r.z0b.length≤2*a.length):=⟨by unfold zee; exact gu1⟩
instance (i0:Int) (c:List zZ1) (b:Int) (n:Nat) (d:List zZ1) (a:Int):T (zdi i0 c b n d a) (Rl c∧b=c.length∧0≤a∧a≤b∧b<a+n∧d.length≤a∧∀r∈d,Rm r) (fun r=>Ol r.1∧r.1.length≤2*c.length):=by
 induction n generalizing d a
 ·exact ⟨goz⟩
 exact ⟨by unfold zdi; exact gu1⟩
instance (a:Int) (b:List zZ1):T (zjE a b) (Rl b) (fun r=>Ol r.1∧r.1.length≤2*b.length):=⟨by unfold zjE zgS; exact gu1⟩
instance (x_m:z0p) (x_op:z0Y):T (zeY x_m x_op) (Fm x_m.Bag.z0N∧x_op.Name.length<1000000000) (fun r=>True):=⟨by unfold zeY; exact gu1⟩
instance (s1:Str) (b:List z0z) (a:Int) (n:Nat) (i9:Int):T (zk2 s1 b a n i9) (Pm b∧a=b.length∧0≤i9∧i9≤a∧a<i9+n) (fun r=>r.length≤70000000):=by
 induction n generalizing i9
 ·exact ⟨goz⟩
 exact ⟨by unfold zk2; exact gu1⟩
instance (a:List z0z) (b:Str):T (ztQ a b) (Pm a) (fun r=>r.length≤70000000):=⟨by unfold ztQ; exact gu1⟩
instance (a:Str) (n:Nat) (b:List UInt8) (i4:Int):T (zfK a n b i4) (a.length<100000000000∧0≤i4∧i4≤a.length∧a.length<i4+n∧b.length≤65536) (fun r=>r.length≤65536):=by
 induction n generalizing b i4
 ·exact ⟨goz⟩
 exact ⟨by unfold zfK zlV; exact gu1⟩
instance (a:Str):T (zrm a) (a.length<100000000000) (fun r=>r.length≤65536):=⟨by unfold zrm; exact gu1⟩
instance (f:List z0z) (e:z0w) (c:List zZX) (b:Int) (n:Nat) (d:List Str) (a:Int):T (zfo f e c b n d a) (Pm f∧Fm e.z0N∧Tp c∧b=c.length∧0≤a∧a≤b∧b<a+n∧d.length≤a∧sl d≤a*70000000) (fun r=>r.length≤65536):=by
 induction n generalizing d a
 ·exact ⟨goz⟩
 exact ⟨by unfold zfo; exact gu1⟩
instance (b:List z0z) (a:List zZU) (c:List zZX):T (ztR b a c) (Pm b∧Fm a∧Tp c) (fun r=>r.length≤65536):=⟨by unfold ztR; exact gu1⟩
instance (x_m:z0p) (a:List zZX):T (zc5 x_m a) (Pm x_m.z1k∧Fm x_m.Bag.z0N∧Tp a) (fun r=>r.length≤65536):=⟨by unfold zc5; exact gu1⟩
instance (s1:Str) (s2:Str) (c:Int) (n:Nat) (b:z0w) (d:Int) (a:Int):T (zcR s1 s2 c n b d a) (Fm b.z0N∧c=b.z0N.length∧0≤a∧a≤c∧c<a+n∧0≤d∧d≤a∧s1.length≤70000000∧s2.length≤70000000) (fun r=>(Fm r.2.z0N∧r.2.z0N.length=b.z0N.length)∧(∀k,Vb k b.z0N→Vb k r.2.z0N)):=by
 induction n generalizing b d a
 ·exact ⟨goz⟩
 exact ⟨by unfold zcR; exact zyY⟩
instance (b:z0w) (a:Str) (c:Str):T (ziP b a c) (Fm b.z0N∧a.length≤70000000∧c.length≤70000000) (fun r=>(Fm r.2.z0N∧r.2.z0N.length=b.z0N.length)∧(∀k,Vb k b.z0N→Vb k r.2.z0N)):=⟨by unfold ziP; exact zyY⟩
instance (x_m:z0p) (a:z0Y):T (zfp x_m a) (Pm x_m.z1k∧Fm x_m.Bag.z0N∧Om a) (fun r=>(r.z1k=x_m.z1k∧r.z1j=x_m.z1j∧Fv r.Bag.z0N∧r.Bag.z0N.length≤x_m.Bag.z0N.length+1)∧(Vb 66000000 x_m.Bag.z0N→Vb 66000000 r.Bag.z0N)):=⟨by unfold zfp; exact zyY⟩
instance (a:List z0Y) (n:Nat) (vp0:z0p) (i4:Int):T (za8 a n vp0 i4) (Ol a∧a.length≤1000∧0≤i4∧i4≤2*a.length+1∧1≤n∧a.length<i4+n∧Pm vp0.z1k∧Fm vp0.Bag.z0N∧vp0.Bag.z0N.length+a.length≤10000+i4∧0≤vp0.z1j∧vp0.z1j≤i4) (fun r=>(Fm r.Bag.z0N∧(r.Bag.z0N.length+i4≤vp0.Bag.z0N.length+a.length∨r.Bag.z0N.length≤vp0.Bag.z0N.length))∧(Vb 66000000 vp0.Bag.z0N→Vb 66000000 r.Bag.z0N)):=by
 induction n generalizing vp0 i4
 ·exact ⟨goz⟩
 exact ⟨by unfold za8 zdr; exact zyY⟩
instance (x_m:z0p) (a:List z0Y):T (zeZ x_m a) (Ol a∧a.length≤1000∧Pm x_m.z1k∧Fm x_m.Bag.z0N∧x_m.Bag.z0N.length≤9000∧x_m.z1j=0) (fun r=>(Fm r.Bag.z0N∧r.Bag.z0N.length≤x_m.Bag.z0N.length+a.length)∧(Vb 66000000 x_m.Bag.z0N→Vb 66000000 r.Bag.z0N)):=⟨by unfold zeZ; exact zyY⟩
instance (b:List z0z) (a:List zZU) (c:List z0Y):T (zoY b a c) (Pm b∧Fm a∧a.length≤9000∧Ol c∧c.length≤1000) (fun r=>(Fm r∧r.length≤a.length+c.length)∧(Vb 66000000 a→Vb 66000000 r)):=⟨by unfold zoY; exact zyY⟩
instance (b:List z0z) (a:List zZU) (c:Int) (d:List zZ1):T (zlW b a c d) (Pm b∧Fm a∧a.length≤9000∧Rl d∧d.length≤500) (fun r=>(Fv r.1∧r.1.length≤a.length+2*d.length)∧(Vb 66000000 a→Vb 66000000 r.1)):=⟨by unfold zlW; exact zyY⟩
instance (a:List Str):T (zmx a) (sl a+10*a.length≤100000000000000) (fun r=>r.length≤sl a+10*a.length):=⟨by unfold zmx; exact gu⟩
end Go.Dm
end
section
namespace Go.Dm
instance (priority:=high) (x_v:z0o):T (zn3 x_v) (x_v.Proto.length≤1000∧x_v.Version.length≤1000∧x_v.By.length≤1000∧x_v.Comment.length≤1000) (fun r=>r.1.length≤5000):=⟨by unfold zn3 zms zmr; exact gu1⟩
instance (b:Str) (a:List Str):T (zlX b a) (b.length<1000000000∧a.length≤1000∧sl a≤1000000000) (fun r=>r.length≤b.length+sl a+10*a.length+10):=⟨by unfold zlX; exact gu⟩
instance (a:z0w) (s1:Str) (s2:Str) (n:Nat) (b:Int):T (zdY a s1 s2 n b) (Fm a.z0N ∧ -1≤b∧b<a.z0N.length∧b+1<n∧s1.length≤70000000∧s2.length≤1000000) (fun r=>r.z0N.length≤a.z0N.length+1∧∀f∈r.z0N,f∈a.z0N∨(f.Name=s1∧f.Value=s2)∨∃g∈a.z0N,f.Name=g.Name∧f.Value.length≤g.Value.length+s2.length+20):=by
 induction n generalizing b
 ·exact ⟨goz⟩
 exact ⟨by unfold zdY; exact gu⟩
instance (c:z0w) (b:Str) (a:Str):T (zeu c b a) (Fm c.z0N∧b.length≤70000000∧a.length≤1000000) (fun r=>r.z0N.length≤c.z0N.length+1∧∀f∈r.z0N,f∈c.z0N∨(f.Name=b∧f.Value=a)∨∃g∈c.z0N,f.Name=g.Name∧f.Value.length≤g.Value.length+a.length+20):=⟨by unfold zeu; exact gu⟩
instance (x_v:z0o) (a:List zZU):T (zrn x_v a) (Fm a∧a.length≤9000∧(∀f∈a,f.Value.length≤66000000)∧x_v.Proto.length≤1000∧x_v.Version.length≤1000∧x_v.By.length≤1000∧x_v.Comment.length≤1000) (fun r=>r.1.length≤a.length+1∧∀f∈r.1,f∈a∨(f.Name.length≤10∧f.Value.length≤5000)∨∃g∈a,f.Name=g.Name∧f.Value.length≤g.Value.length+5020):=⟨by unfold zrn; exact gu1⟩
instance (a:Str):T (zk3 a) (a.length≤1000) (fun r=>r.length≤1100):=⟨by unfold zk3; exact gu2⟩
instance (x_env:z0g):T (zk4 x_env) (x_env.Client.length≤1000∧x_env.Host.length≤1000∧x_env.Scheme.length≤1000) (fun r=>r.length≤3∧∀p∈r,p.Name.length≤10∧p.Value.length≤1100):=⟨by unfold zk4 zhC zhB; exact gu2⟩
instance (c:Str) (b:Int) (n:Nat) (d:List UInt8) (a:Int):T (zcY c b n d a) (b=c.length∧0≤a∧a≤b∧b<a+n∧c.length<1000000000∧d.length≤2*a+1) (fun r=>r.1.length≤2*c.length+2):=by
 induction n generalizing d a
 ·exact ⟨goz⟩
 exact ⟨by unfold zcY zjG zjF; exact gu⟩
instance (a:Str):T (znt a) (a.length<1000000000) (fun r=>r.1.length≤2*a.length+2):=⟨by unfold znt; exact gu⟩
instance (a:Str):T (zlY a) (a.length<1000000000) (fun r=>r.1.length≤2*a.length+2):=⟨by unfold zlY; exact gu⟩
instance (c:List z0z) (b:Int) (n:Nat) (d:List Str) (a:Int):T (zij c b n d a) (b=c.length∧0≤a∧a≤b∧b<a+n∧c.length≤3∧(∀p∈c,p.Name.length≤10∧p.Value.length≤1100)∧d.length≤a∧sl d≤a*2300) (fun r=>r.1.length≤7000):=by
 induction n generalizing d a
 ·exact ⟨goz⟩
 exact ⟨by unfold zij; exact gu⟩
instance (a:List z0z):T (zoZ a) (a.length≤3∧(∀p∈a,p.Name.length≤10∧p.Value.length≤1100)) (fun r=>r.1.length≤7000):=⟨by unfold zoZ; exact gu⟩
instance (x_env:z0g) (a:List zZU):T (ziQ x_env a) (Fm a∧a.length≤9100∧(∀f∈a,f.Value.length≤67000000)∧x_env.Client.length≤1000∧x_env.Host.length≤1000∧x_env.Scheme.length≤1000) (fun r=>r.1.length≤a.length+1∧∀f∈r.1,f∈a∨(f.Name.length≤10∧f.Value.length≤7000)∨∃g∈a,f.Name=g.Name∧f.Value.length≤g.Value.length+7020):=⟨by unfold ziQ; exact gu2⟩
instance (a:Str):T (zwT a) (a.length<1000000000) (fun r=>True):=⟨by unfold zwT; exact gu2⟩
instance (a:Str) (b:List zZU):T (zro a b) (Fm b∧b.length≤9200∧(∀f∈b,f.Value.length≤68000000)∧a.length≤1000) (fun r=>r.length≤b.length+1∧Fv r):=⟨by unfold zro zlZ; exact gu2⟩
instance (x_a0:z0g) (a:Int) (x_a2:zZY):T (zrp x_a0 a x_a2) (Fm x_a2.Fields∧x_a2.Fields.length≤9000∧(∀f∈x_a2.Fields,f.Value.length≤66000000)∧x_a0.Client.length≤1000∧x_a0.Host.length≤1000∧x_a0.Scheme.length≤1000∧x_a0.By.length≤1000∧a≤9223372036854775807) (fun r=>(Fv r.1.Fields∧r.1.Fields.length≤x_a2.Fields.length+3)∧r.1.Target.length≤x_a2.Target.length∧r.1.Method.length≤x_a2.Method.length∧r.1.Reason.length≤x_a2.Reason.length∧(r.1.Code=x_a2.Code∨r.1.Code=0)∧(r.1.Minor=x_a2.Minor∨r.1.Minor=0)):=⟨by unfold zrp zfL zl1 zl0; exact gu2⟩
instance (x_f:zZ4):T (zl2 x_f) (x_f.N≤9223372036854775807) (fun r=>r.length≤1∧Fv r):=⟨by unfold zl2; exact gu2⟩
instance (x_env:z0g) (x_f:zZ4) (x_h:zZY) (a:List zZ1):T (ziR x_env x_f x_h a) (Fm x_h.Fields∧x_h.Fields.length≤8000∧(∀f∈x_h.Fields,f.Value.length≤3000)∧x_h.Method.length≤10000∧x_h.Target.length≤10000∧x_h.Reason.length≤10000∧x_h.Code≤1000∧x_h.Minor≤1000∧0≤x_f.N∧x_f.N≤1099511627776∧x_env.Client.length≤1000∧x_env.Host.length≤1000∧x_env.Scheme.length≤1000∧x_env.By.length≤1000∧Swm x_env.Domains∧Swm x_env.Locations∧Rl a∧a.length≤400) (fun r=>Fm r.1.Fields∧r.1.Fields.length≤9500∧r.1.Method.length≤10000∧r.1.Target.length≤30000∧r.1.Reason.length≤10000∧r.1.Code≤1000∧r.1.Minor≤1000):=⟨by unfold ziR; exact zyY⟩
end Go.Dm
end
