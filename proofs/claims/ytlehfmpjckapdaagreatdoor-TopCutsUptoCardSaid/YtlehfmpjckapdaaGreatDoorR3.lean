/- The document's references and domains in both directions: what splitting and grind take. No program in sight. The docume -/
import Derived.Test.YtlehfmpjckapdaaGreatDoorD0
import Derived.Test.YtlehfmpjckapdaaGreatDoorTXU
set_option linter.unusedVariables false
set_option linter.unusedSimpArgs false
set_option linter.unusedVariables false
set_option maxRecDepth 10000
set_option maxHeartbeats 2000000
section
namespace Go.Dm
variable {s:Str} {G:Prop} {c:UInt8}
theorem upt_e (l:Str):upt l []=([],[]):=rfl
theorem upt_c (l:Str) (c:UInt8) (t:Str):upt l (c::t)=if l.contains c=true then ([],c::t) else (c::(upt l t).1,(upt l t).2):=by
 unfold upt;rw [List.takeWhile_cons,List.dropWhile_cons];cases l.contains c<;>simp
theorem zKo (l s:Str):(upt l s).1++(upt l s).2=s:=List.takeWhile_append_dropWhile
theorem zKp (l s:Str):tk s ((upt l s).1.length:Int)=(upt l s).1∧dr s ((upt l s).1.length:Int)=(upt l s).2∧((upt l s).1.length<s.length↔(upt l s).2≠[])∧(upt l s).1.length+(upt l s).2.length=s.length:=by
 have a:=congrArg List.length (zKo l s);rw [List.length_append] at a;have h1:(upt l s).2=[]↔(upt l s).2.length=0:=List.length_eq_zero_iff.symm;refine ⟨?_,?_,by rw [ne_eq,h1]; omega,a⟩
 ·have:=List.take_left (l₁:=(upt l s).1) (l₂:=(upt l s).2)
  rwa [zKo] at this
 ·have:=List.drop_left (l₁:=(upt l s).1) (l₂:=(upt l s).2)
  rwa [zKo] at this
theorem upt_h (l s:Str):(upt l s).2=[]∨∃c t,(upt l s).2=c::t∧l.contains c=true:=by
 obtain ⟨b,e,rfl,h,_,h2⟩:=zrA l s;rw [h]; exact h2
theorem upt_2 (s:Str):(upt [58,47] s).2=[]∨(∃t,(upt [58,47] s).2=58::t)∨∃t,(upt [58,47] s).2=47::t:=by
 rcases upt_h [58,47] s with h|⟨c,t,h,hc⟩
 ·exact .inl h
 ·simp at hc
  rcases hc with rfl|rfl
  ·exact .inr (.inl ⟨t,h⟩)
  ·exact .inr (.inr ⟨t,h⟩)
theorem upt_m (c:UInt8) (s:Str):((upt [c] s).2=[]↔s.contains c=false):=by
 obtain ⟨b,e,rfl,h,h1,h2⟩:=zrA [c] s;rw [h]
 have a:b.contains c=false:=by
  rw [← Bool.not_eq_true];intro hc;have:=h1 c (by simpa using hc);simp at this
 constructor
 ·rintro rfl; simpa using a
 ·intro hc
  rcases h2 with rfl|⟨x,t,rfl,d⟩
  ·rfl
  ·have:x=c:=by simpa using d
   subst this; simp at hc
def rpQ (s f:Str) (a:Bool):zZT:=rrB (upt [63] s).1 (rrT (upt [63] s).2) f (!((upt [63] s).2==[])) a
theorem rp_0 (s:Str):rf4 s=rpQ (upt [35] s).1 (rrT (upt [35] s).2) (!((upt [35] s).2==[])):=(rr_eq s).symm
theorem rrT_n:rrT []=[]:=rfl
theorem rrT_c (c:UInt8) (t:Str):rrT (c::t)=t:=rfl
theorem rrT_d (s:Str) (i:Int) (h:0≤i):rrT (dr s i)=dr s (i+1):=by
 have e:(i+1).toNat=i.toNat+1:=by omega
 unfold dr; rw [e];rw [← List.tail_drop];cases s.drop i.toNat<;>rfl
theorem pre_p (c:UInt8) (s:Str):[c].isPrefixOf s=true↔∃t,s=c::t:=zNi c s
theorem pre_47:([47,47].isPrefixOf s=true↔1<(s.length:Int)∧tk s 2=[47,47]):=by
 rw [List.isPrefixOf_iff_prefix,List.prefix_iff_eq_take];unfold tk;simp only [List.length_cons,List.length_nil];constructor
 ·intro h;have:=congrArg List.length h;simp at this;exact ⟨by omega,h.symm⟩
 ·rintro ⟨_,h⟩; exact h.symm
def shs (s:Str):Bool:=s.all zuG
theorem shs_n:shs []=true:=rfl
theorem shs_c (c:UInt8) (s:Str):shs (c::s)=(zuG c&&shs s):=List.all_cons
theorem schm_2 (h:dr s 0=c::dr s (0+1)):zvu s=(zlK c&&shs (dr s 1)):=by
 have e:s=c::dr s 1:=h;rw [e]
 have:zlK c=true→zuG c=true:=fun h=>by unfold zuG; rw [h]; rfl
 show (zlK c&&(c::dr s 1).all zuG)=(zlK c&&shs (dr (c::dr s 1) 1));have a:dr (c::dr s 1) 1=dr s 1:=rfl;rw [a,List.all_cons];unfold shs
 cases hc:zlK c with
 | false=>rfl
 | true=>rw [this hc,Bool.true_and,Bool.true_and]
theorem schB_i (c:UInt8):zuG c=(zlK c||zcj c||([43,45,46]:Str).contains c):=by
 unfold zuG;simp only [List.contains_cons,List.contains_nil,Bool.or_false,Bool.or_assoc]
def V4 (s:Str):Prop:=s=49::46::49::32::dr s 4
def VP (s:Str) (r:zZR × Int):Prop:=(r=(⟨[],[49,46,49],dr s 4,[]⟩,0)↔zzX (dr s 4))
theorem V4_i (b:Str):V4 (([49,46,49]++[32])++b)∧dr (([49,46,49]++[32])++b) 4=b∧(([49,46,49]++[32])++b:Str).length=4+b.length:=⟨rfl,rfl,by simp; omega⟩
theorem V4_b {i:Int} (h:V4 s) (h0:0≤i) (a:i≤3) (hd:dr s i=c::dr s (i+1)):(c=32↔i=3):=by
 unfold V4 at h;generalize dr s 4=b at h;subst h
 have:i=0∨i=1∨i=2∨i=3:=by omega
 rcases this with rfl|rfl|rfl|rfl<;>(have:=(List.cons.inj hd).1; subst this; decide)
theorem V4_l (h:V4 s):4≤s.length∧tk s 3=[49,46,49]:=by
 unfold V4 at h;generalize dr s 4=b at h;subst h;exact ⟨by simp,rfl⟩
theorem sp_v:zy 47 [49,46,49]=[[49,46,49]]:=by decide
theorem tok_v:zij [49,46,49]=true:=by decide
theorem hasA_n (l:Str):zvQ l []=false:=rfl
theorem hasA_c (l:Str) (c:UInt8) (s:Str):zvQ l (c::s)=(l.contains c||zvQ l s):=List.any_cons
theorem v_in {i:Int} (h0:4≤i) (h:dr s i=32::dr s (i+1)):(32:UInt8)∈dr s 4∧sb s 4 i≠dr s 4:=by
 have b:=zla (by omega) h;have e:=zI7 (l:=s) (i:=4) (j:=i) (k:=s.length) (by decide) h0 (by omega) (Int.le_refl _);rw [sb_e (Int.le_refl _),h] at e;rw [za9 (l:=s) (i:=s.length) (Int.le_refl _)] at e;constructor
 ·rw [e]; simp
 ·intro a;have:=congrArg List.length e;rw [a] at this;simp at this
theorem sb_no {i j:Int} (h:dr s j=c::dr s (j+1)) (h2:32∉sb s i j) (h0:0≤i) (h1:i≤j) (hc:¬ c=32):32∉sb s i (j+1):=by
 rw [sb_1 h0 h1 h];intro e
 rcases List.mem_append.1 e with e|e
 ·exact h2 e
 ·simp at e; exact hc e.symm
theorem sb_tk {i k:Int} (h0:0≤i) (h1:0≤k):sb s i (i+k)=tk (dr s i) k∧dr s (i+k)=dr (dr s i) k:=by
 have e:(i+k).toNat=i.toNat+k.toNat:=by omega
 unfold sb tk dr;rw [e,List.drop_drop];refine ⟨?_,rfl⟩;rw [List.drop_take]; congr 1; omega
theorem upt_z {l s:Str} (h:(upt l s).2=[]):(upt l s).1=s:=by
 have:=zKo l s;rw [h,List.append_nil] at this; exact this
theorem up_47 {r:Int} (h:r=2+((upt [47] (dr s 2)).1.length:Int)):sb s 2 r=(upt [47] (dr s 2)).1:=by
 subst h;rw [(sb_tk (s:=s) (i:=2) (k:=((upt [47] (dr s 2)).1.length:Int)) (by decide) (by omega)).1];exact (zKp _ _).1
theorem up_48 {r:Int} (h:r=2+((upt [47] (dr s 2)).1.length:Int)):dr s r=(upt [47] (dr s 2)).2:=by
 subst h;rw [(sb_tk (s:=s) (i:=2) (k:=((upt [47] (dr s 2)).1.length:Int)) (by decide) (by omega)).2];exact (zKp _ _).2.1
theorem goE7 (h:G:=by
 (with_reducible repeat' first|intro _|refine And.intro ?_ ?_|refine Wf ?_ ?_|refine Wi ?_ ?_|refine Ws ?_|refine Wc ?_ ?_|refine Wo ?_ ?_|refine Wk ?_|refine We ?_ ?_)
 all_goals (try simp only [List.length_cons,List.length_nil])
 all_goals grind [upt_e,upt_c,shs_n,shs_c,zLO,schm_2,schB_i,zxF,zla,fuel,zb5,zcW,zgn,za9,zaV,zbg,zaF]):G:=h
theorem goE8 (h:G:=by
 (with_reducible repeat' first|intro _|refine And.intro ?_ ?_|refine Wf ?_ ?_|refine Wi ?_ ?_|refine Ws ?_|refine Wc ?_ ?_|refine Wo ?_ ?_|refine Wk ?_|refine We ?_ ?_)
 all_goals (try subst_vars)
 all_goals (try simp only [List.length_cons,List.length_nil])
 all_goals grind [up_47,up_48,zKp,upt_m,upt_2,seg_58,pre_p,pre_47,rrT_n,rrT_c,rrT_d,rrA,rrB,rpQ,rp_0,zFE,zvv,n37,Um,zla,fuel,zb5,zcW,zgn,za9,zaV,zbg,zaF]):G:=h
theorem zy2 (h:G:=by
 (with_reducible repeat' first|intro _|refine And.intro ?_ ?_|refine Wf ?_ ?_|refine Wi ?_ ?_|refine Ws ?_|refine Wc ?_ ?_|refine Wo ?_ ?_|refine Wk ?_|refine We ?_ ?_)
 all_goals (try subst_vars)
 all_goals (try simp only [List.length_cons,List.length_nil])
 all_goals grind [VP,V4_i, → V4_b, → V4_l,sp_v,tok_v,hasA_n,hasA_c, → v_in, → sb_no,sb_e,zy1,zNk,zzX,byP,dnP,okD,zMa,zMb,Swm,zxF,zla,fuel,zb5,zcW,zgn,za9,zaV,zbg,zaF]):G:=h
theorem goEA (h:G:=by
 (with_reducible repeat' first|intro _|refine And.intro ?_ ?_|refine Wf ?_ ?_|refine Wi ?_ ?_|refine Ws ?_|refine Wc ?_ ?_|refine Wo ?_ ?_|refine Wk ?_|refine We ?_ ?_)
 all_goals (try subst_vars)
 all_goals (try simp only [List.length_cons,List.length_nil])
 all_goals grind [okL,zLP,zLQ,stC,Swm,fuel,zb5,zcW,zgn,za9,zaV]):G:=h
theorem goEB (h:G:=by
 (with_reducible repeat' first|intro _|refine And.intro ?_ ?_|refine Wf ?_ ?_|refine Wi ?_ ?_|refine Ws ?_|refine Wc ?_ ?_|refine Wo ?_ ?_|refine Wk ?_|refine We ?_ ?_)
 all_goals (try subst_vars)
 all_goals (try simp only [List.length_cons,List.length_nil])
 all_goals grind [zKp,upt_z,rrT_n,rrT_d,rpQ,rp_0,zFE,Um,fuel]):G:=h
end Go.Dm
end
section
namespace Go.Dm
variable {s:Str} {c:UInt8} {G:Prop} {n:Int} {i:Int} {o:List zZq} {p:zZq}
def adP (o:List zZq) (p:zZq):List zZq:=if p.Kind=1 then adT o p.Text else o++[p]
def PRo (s:Str) (p:zZq) (n:Int):Prop:=∀o l,PR o s l↔(0<n∧PR (adP o p) (dr s n) l)
def NoP (s:Str):Prop:=∀o l, ¬ PR o s l
theorem NoP_p (h:NoP s) (hn:n=0):PRo s p n:=fun o l=>⟨fun a=>absurd a (h o l),fun a=>absurd a.1 (by omega)⟩
theorem zFI (h:∀o l, ¬ PR o s l):NoP s:=h
theorem PRo_1 (h:dr s 0=c::dr s (0+1)) (hc:c≠36):(zE8 c=true→PRo s ⟨1,tk s 1⟩ 1)∧(zE8 c=false→NoP s):=by
 have e:s=c::dr s 1:=h
 have hp:plB c=zE8 c:=by
  have:(c==36)=false:=by simpa using hc
  unfold plB; rw [this]; simp
 constructor
 ·intro a o l
  have b:tk s 1=[c]:=by rw [e]; rfl
  rw [b];have:=PR_1 (o:=o) (r:=l) (t:=dr s 1) (hp.trans a);rw [← e] at this;rw [this]; unfold adP; simp
 ·intro a;refine zFI fun o l=>?_;rw [e];exact PR_x (hp.trans a) (fun u e=>hc (List.cons.inj e).1) fun u e=>hc (List.cons.inj e).1
theorem PRo_2 (h:dr s 0=36::dr s (0+1)) (h1:dr s 1=36::dr s (1+1)):PRo s ⟨1,[36]⟩ 2:=by
 intro o l
 have e:s=36::36::dr s 2:=by
  have a:s=36::dr s 1:=h;have b:dr s 1=36::dr s 2:=h1;rw [← b]; exact a
 have:=PR_2 (o:=o) (r:=l) (t:=dr s 2);rw [← e] at this;rw [this]; unfold adP; simp
def U5 (s:Str) (n:Int):Prop:=125∉tk s n∧0≤n∧n≤s.length∧(n<s.length→dr s n=125::dr s (n+1))
theorem u125 (hn:U5 s n):(125∉tk s n)∧(n<s.length→dr s n=125::dr s (n+1))∧((s.length:Int)≤n→125∉s) :=
 ⟨hn.1,hn.2.2.2,fun h=>by have:=hn.1; rwa [zI6 h] at this⟩
theorem zLS (h:dr s 0=36::dr s (0+1)) (h1:dr s 1=123::dr s (1+1)) (hn:U5 s n) (o:n<s.length) (p:3≤n) :
  s=36::123::(sb s 2 n++125::dr s (n+1))∧125∉sb s 2 n∧sb s 2 n≠[]∧((sb s 2 n).length:Int)=n-2:=by
 obtain ⟨g,m,_⟩:=u125 hn;have a:s=36::dr s 1:=h;have b:dr s 1=123::dr s 2:=h1
 have c:dr s 2=sb s 2 n++dr s n:=by
  have:=zI7 (l:=s) (i:=2) (j:=n) (k:=s.length) (by decide) (by omega) (by omega) (Int.le_refl _);rw [sb_e (Int.le_refl _)] at this;rw [this]
  congr 1
  rw [za9 (l:=s) (i:=s.length) (Int.le_refl _)];exact List.take_length
 have d:((sb s 2 n).length:Int)=n-2:=zNk (by decide) (by omega) (by omega);refine ⟨?_,fun f=>g (List.mem_of_mem_drop f),?_,by omega⟩
 ·rw [← m o, ← c, ← b]; exact a
 ·intro e; rw [e] at d; simp at d; omega
def N36 (s:Str):Prop:=1<(s.length:Int)→∃c,dr s 1=c::dr s (1+1)∧c≠36
theorem N36_i (h:dr s 1=c::dr s (1+1)) (hc:¬ c=36):N36 s:=fun _=>⟨c,h,hc⟩
theorem N36_e (h:¬ 1<(s.length:Int)):N36 s:=fun h2=>absurd h2 h
theorem N36_u (h:N36 s) (h2:dr s 1=c::dr s (1+1)):c≠36:=by
 have a:=zla (by decide) h2;obtain ⟨d,hd,hn⟩:=h a;rw [h2] at hd;rw [(List.cons.inj hd).1]; exact hn
theorem one_no (h:dr s 0=36::dr s (0+1)) (h2:N36 s) (hn:U5 s n) (g:n=s.length∨n<3):NoP s:=by
 obtain ⟨q,f,j⟩:=u125 hn;have a:s=36::dr s 1:=h;refine zFI fun o l=>?_
 by_cases m:1<(s.length:Int)
 ·obtain ⟨c,b,hc⟩:=h2 m
  replace b:dr s 1=c::dr s 2:=b
  by_cases d:c=123
  ·subst d
   have e:s=36::123::dr s 2:=by rw [← b]; exact a
   rw [e];show ¬ PRn o (dr s 2) l
   rcases g with g|g
   ·refine PRn_4 fun i=>j (by omega) ?_;rw [e]; simp [i]
   ·by_cases k:n<s.length
    ·have f:=f k;have r:=hn.2.2.1;have v:=hn.2.1
     have p:n=2:=by
      have n0:n≠0:=by rintro rfl; rw [zgn] at f; rw [f] at a; cases (List.cons.inj a).1
      have t:n≠1:=by rintro rfl; rw [f] at b; cases (List.cons.inj b).1
      omega
     subst p;rw [f]; exact PRn_3
    ·refine PRn_4 fun i=>j (by omega) ?_;rw [e]; simp [i]
  ·have e:s=36::c::dr s 2:=by rw [← b]; exact a
   rw [e];exact PR_x zJe (fun u e=>hc (by simpa using (List.cons.inj (List.cons.inj e).2).1)) fun u e=>d (by simpa using (List.cons.inj (List.cons.inj e).2).1)
 ·have hd:dr s 1=[]:=za9 (by omega);rw [a,hd]
  exact PR_x zJe (fun u e=>by cases e) fun u e=>by cases e
theorem one_x (h:dr s 0=36::dr s (0+1)) (h1:dr s 1=c::dr s (1+1)) (hc:c≠36) (h2:c≠123):NoP s:=by
 have a:s=36::dr s 1:=h;have b:dr s 1=c::dr s 2:=h1;refine zFI fun o l=>?_
 have e:s=36::c::dr s 2:=by rw [← b]; exact a
 rw [e];exact PR_x zJe (fun u e=>hc (by simpa using (List.cons.inj (List.cons.inj e).2).1)) fun u e=>h2 (by simpa using (List.cons.inj (List.cons.inj e).2).1)
theorem one_f (h:dr s 0=36::dr s (0+1)) (h1:dr s 1=123::dr s (1+1)) (hn:U5 s n) (i:n<s.length) (g:3≤n)
  (f:dr (sb s 2 n) 0=64::dr (sb s 2 n) (0+1)):(zij (dr (sb s 2 n) 1)=true→PRo s ⟨3,dr (sb s 2 n) 1⟩ (n+1))∧(zij (dr (sb s 2 n) 1)=false→NoP s):=by
 obtain ⟨e,j,_,_⟩:=zLS h h1 hn i g;have d:sb s 2 n=64::dr (sb s 2 n) 1:=f
 generalize dr (sb s 2 n) 1=a at *
 have b:(125:UInt8)∉a:=fun x=>j (by rw [d]; simp [x])
 have key:∀o l,PR o s l↔(zij a=true∧PR (o++[⟨3,a⟩]) (dr s (n+1)) l):=fun o l=>by
  rw [← PRn_1 b]
  conv=>lhs; rw [e,d]
  rfl
 constructor
 ·intro c o l;rw [key o l,adP,if_neg (by intro e; cases e)];exact ⟨fun x=>⟨by omega,x.2⟩,fun x=>⟨c,x.2⟩⟩
 ·intro c;refine zFI fun o l=>?_;rw [key o l,c]; simp
def sms (s:Str):Bool:=s.all smB
theorem sms_n:sms []=true:=rfl
theorem sms_c (c:UInt8) (s:Str):sms (c::s)=(smB c&&sms s):=List.all_cons
theorem sm_az (c:UInt8):smB c=([97,98,99,100,101,102,103,104,105,106,107,108,109,110,111,112,113,114,115,116,117,118,119,120,121,122]:Str).contains c:=by
 have:=zqh (p:=fun c=>smB c==([97,98,99,100,101,102,103,104,105,106,107,108,109,110,111,112,113,114,115,116,117,118,119,120,121,122]:Str).contains c) (by decide +kernel) c;simpa using this
theorem one_v (h:dr s 0=36::dr s (0+1)) (h1:dr s 1=123::dr s (1+1)) (hn:U5 s n) (j:n<s.length) (i:3≤n)
  (g:dr (sb s 2 n) 0=c::dr (sb s 2 n) (0+1)) (hc:c≠64):(sms (sb s 2 n)=true→PRo s ⟨2,sb s 2 n⟩ (n+1))∧(sms (sb s 2 n)=false→NoP s):=by
 obtain ⟨e,k,d,_⟩:=zLS h h1 hn j i;have m:sb s 2 n=c::dr (sb s 2 n) 1:=g;have b:∀u,sb s 2 n≠64::u:=fun u f=>hc (by rw [m] at f; exact (List.cons.inj f).1)
 have key:∀o l,PR o s l↔(sms (sb s 2 n)=true∧PR (o++[⟨2,sb s 2 n⟩]) (dr s (n+1)) l):=fun o l=>by
  rw [sms, ← PRn_2 k d b]
  conv=>lhs; rw [e]
  rfl
 constructor
 ·intro a o l;rw [key o l,adP,if_neg (by intro e; cases e)];exact ⟨fun x=>⟨by omega,x.2⟩,fun x=>⟨a,x.2⟩⟩
 ·intro a;refine zFI fun o l=>?_;rw [key o l,a]; simp
theorem adP_1 {p q:zZq} (h:lAt o i=some q) (hi:i=(o.length:Int)-1) (hp:p.Kind=1) (a:q.Kind=1):adP o p=o.set i.toNat ⟨1,q.Text++p.Text⟩:=by
 unfold adP; rw [if_pos hp,adT_2 h _ hi a]
theorem adP_2 {p q:zZq} (h:lAt o i=some q) (hi:i=(o.length:Int)-1) (hp:p.Kind=1) (a:¬ q.Kind=1):adP o p=o++[p]:=by
 unfold adP; rw [if_pos hp,adT_3 h _ hi a];cases p; simp at hp; subst hp; rfl
theorem adP_0 (h:o.length=0∨¬ p.Kind=1):adP o p=o++[p]:=by
 unfold adP
 split
 ·rename_i hp
  rcases h with h|h
  ·rw [adT_0 h]; cases p; simp at hp; subst hp; rfl
  ·exact absurd hp h
 ·rfl
theorem dbl_n:dbl []=[]:=rfl
theorem zLT (c:UInt8) (s:Str):dbl (c::s)=if c=36 then 36::36::dbl s else c::dbl s:=rfl
theorem prP_1 (p:zZq):(p.Kind=1→prP p=dbl p.Text)∧(p.Kind=2→prP p=[36,123]++(p.Text++[125]))∧(p.Kind=3→prP p=[36,123,64]++(p.Text++[125]))∧(p.Kind≠1∧p.Kind≠2∧p.Kind≠3→prP p=[]):=by
 unfold prP;refine ⟨fun h=>by rw [if_pos h],fun h=>by rw [if_neg (by omega),if_pos h],fun h=>by rw [if_neg (by omega),if_neg (by omega),if_pos h],fun h=>by rw [if_neg h.1,if_neg h.2.1,if_neg h.2.2]⟩
theorem U5_s (h:dr s i=c::dr s (i+1)) (h2:125∉tk s i) (h0:0≤i) (hc:¬ c=125):125∉tk s (i+1):=by
 rw [zy0 h0 h];intro e
 rcases List.mem_append.1 e with e|e
 ·exact h2 e
 ·simp at e; exact hc e.symm
theorem U5_i (h:dr s i=125::dr s (i+1)) (h2:125∉tk s i) (h0:0≤i):U5 s i:=⟨h2,h0,by have:=zla h0 h; omega,fun _=>h⟩
theorem U5_e (h:i=(s.length:Int)) (h2:125∉tk s i):U5 s i:=⟨h2,by omega,by omega,fun h=>by omega⟩
theorem gr0 (h:G:=by
 (with_reducible repeat' first|intro _|refine And.intro ?_ ?_|refine Wf ?_ ?_|refine Wi ?_ ?_|refine Ws ?_|refine Wc ?_ ?_|refine Wo ?_ ?_|refine Wk ?_|refine We ?_ ?_)
 all_goals (try simp only [List.length_cons,List.length_nil])
 all_goals grind [sms_n,sms_c,sm_az,fuel,zgn,za9,zaV]):G:=h
theorem gr1 (h:G:=by
 (with_reducible repeat' first|intro _|refine And.intro ?_ ?_|refine Wf ?_ ?_|refine Wi ?_ ?_|refine Ws ?_|refine Wc ?_ ?_|refine Wo ?_ ?_|refine Wk ?_|refine We ?_ ?_)
 all_goals (try simp only [List.length_cons,List.length_nil])
 all_goals grind [→ U5_s, → U5_i, → U5_e, → N36_i,N36_e, → N36_u,NoP_p, → PRo_1,PRo_2, → one_no, → one_x, → one_f, → one_v, → zLS,zxF,zAU,zla,fuel,zgn,za9,zaV]):G:=h
theorem PRo_a {o l:List zZq} (h:PRo s p n) (h2:PR o s l):0<n∧PR (adP o p) (dr s n) l:=(h o l).1 h2
theorem PRo_c {s t:Str} {o q l:List zZq} (h:PRo s p n) (h2:PR q t l) (hn:0<n) (b:t=dr s n) (a:q=adP o p):PR o s l:=(h o l).2 ⟨hn,by rw [← b, ← a]; exact h2⟩
theorem gr2 (h:G:=by
 (with_reducible repeat' first|intro _|refine And.intro ?_ ?_|refine Wf ?_ ?_|refine Wi ?_ ?_|refine Ws ?_|refine Wc ?_ ?_|refine Wo ?_ ?_|refine Wk ?_|refine We ?_ ?_)
 all_goals (try simp only [List.length_cons,List.length_nil])
 all_goals grind [→ PRo_a,PRo_c,PR_e,adP_1,adP_2,adP_0,zA3,fuel,zb5,zcW,zgn,za9,zaV]):G:=h
def pe (l:List zZq) (i:Int):zZq:=(lAt l i).getD ⟨0,[]⟩
theorem pe_e {l:List zZq} {r:zZq} (h:lAt l i=some r):pe l i=r:=by unfold pe; rw [h]; rfl
theorem fok_e (n v:Str):fokB n v=(zij n&&vls v&&zI5 v==v):=rfl
theorem fre_e (n:Str):zJd n=(zij n && !zCZ n):=rfl
def actR (r:zZu):Prop:=((r.Kind=1∨r.Kind=2)∧r.To=[]∧zA3 r.Parts (prA r.Parts))∨(r.Kind=3∧r.To=[]∧r.Parts=[])∨(r.Kind=4∧zJd r.To=true∧r.Parts=[])
def kns (s:Int):List Str:=(zCF s).getD []
theorem kns_e (s:Int):(s=1→kns s=[[99,108,105,101,110,116],[104,111,115,116],[109,101,116,104,111,100],[112,97,116,104],[115,99,104,101,109,101]])∧(s=2→kns s=[[99,108,105,101,110,116],[104,111,115,116],[115,99,104,101,109,101],[115,116,97,116,117,115]])∧(s≠1→s≠2→kns s=[]):=by
 unfold kns zCF;refine ⟨fun h=>by rw [if_pos h]; rfl,fun h=>by rw [if_neg (by omega),if_pos h]; rfl,fun h h2=>by rw [if_neg h,if_neg h2]; rfl⟩
theorem rul_e (r:zZu):zHu r↔(r.Side=1∨r.Side=2)∧guaP r.Guard∧zJd r.Name=true∧zFi (kns r.Side) (nmF [] r.Parts)∧actR r:=by
 have f:zCF r.Side≠none↔(r.Side=1∨r.Side=2):=by
  unfold zCF
  by_cases h:r.Side=1
  ·simp [h]
  ·by_cases h2:r.Side=2
   ·simp [h2]
   ·simp [h,h2]
 unfold zHu actP actR parP;rw [f];show _↔_;constructor
 ·rintro ⟨h1,h2,e,⟨a,b,c,d⟩|⟨a,b,c⟩|⟨a,b,c⟩⟩
  ·exact ⟨h1,h2,e,c,.inl ⟨a,b,d⟩⟩
  ·exact ⟨h1,h2,e,by rw [c]; trivial,.inr (.inl ⟨a,b,c⟩)⟩
  ·exact ⟨h1,h2,e,by rw [c]; trivial,.inr (.inr ⟨a,b,c⟩)⟩
 ·rintro ⟨h1,h2,e,k,⟨a,b,d⟩|⟨a,b,c⟩|⟨a,b,c⟩⟩
  ·exact ⟨h1,h2,e,.inl ⟨a,b,k,d⟩⟩
  ·exact ⟨h1,h2,e,.inr (.inl ⟨a,b,c⟩)⟩
  ·exact ⟨h1,h2,e,.inr (.inr ⟨a,b,c⟩)⟩
open Classical in
noncomputable def gwC (e:zZI) (c:z0l) (l:List zZu):Int:=if stC e≠0 then stC e else if c.Head<1∨65536<c.Head∨c.Chunk<1∨65536<c.Chunk∨c.Queue<1∨64<c.Queue then 1 else if zom l then (if 64<l.length then 3 else 0) else 9
theorem sb_c {i j:Int} (h:dr s i=c::dr s (i+1)) (a:j=i+1) (h0:0≤i):sb s i j=[c]:=by
 subst a; rw [sb_s h0 (by omega) h,zy1]
theorem dbl_2 {t:Str} (h:dr t i=c::dr t (i+1)) (hc:¬ c=36) (h0:0≤i) (a:Str):(a++sb t i (i+1))++dbl (dr t (i+1))=a++dbl (dr t i):=by
 rw [sb_c h rfl h0,h,zLT,if_neg hc,List.append_assoc]; rfl
theorem dbl_3 {t:Str} (h:dr t i=36::dr t (i+1)) (h0:0≤i) (a:Str):((a++[36])++sb t i (i+1))++dbl (dr t (i+1))=a++dbl (dr t i):=by
 rw [sb_c h rfl h0,h,zLT,if_pos rfl,List.append_assoc,List.append_assoc]; rfl
theorem gr7 (h:G:=by
 (with_reducible repeat' first|intro _|refine And.intro ?_ ?_|refine Wf ?_ ?_|refine Wi ?_ ?_|refine Ws ?_|refine Wc ?_ ?_|refine Wo ?_ ?_|refine Wk ?_|refine We ?_ ?_)
 all_goals (try subst_vars)
 all_goals (try simp only [List.length_cons,List.length_nil])
 all_goals grind [dbl_n,dbl_2,dbl_3, → pe_e,Tp,fuel,zb5,zgn,za9,zaV]):G:=h
theorem gr3 (h:G:=by
 (with_reducible repeat' first|intro _|refine And.intro ?_ ?_|refine Wf ?_ ?_|refine Wi ?_ ?_|refine Ws ?_|refine Wc ?_ ?_|refine Wo ?_ ?_|refine Wk ?_|refine We ?_ ?_)
 all_goals (try subst_vars)
 all_goals (try simp only [List.length_cons,List.length_nil])
 all_goals grind (gen:=12) (ematch:=12) [prA_n,prA_c,prP_1,dbl_n,zLT,zA3, → pe_e,sb_c,List.append_assoc,Tp,fuel,zb5,zgn,za9,zaV]):G:=h
theorem gr4 (h:G:=by
 (with_reducible repeat' first|intro _|refine And.intro ?_ ?_|refine Wf ?_ ?_|refine Wi ?_ ?_|refine Ws ?_|refine Wc ?_ ?_|refine Wo ?_ ?_|refine Wk ?_|refine We ?_ ?_)
 all_goals (try simp only [List.length_cons,List.length_nil])
 all_goals grind (gen:=14) (ematch:=14) [zIr,conn,ownN,zCZ,fok_e,guaP,Gm,fuel]):G:=h
theorem gr5 (h:G:=by
 (with_reducible repeat' first|intro _|refine And.intro ?_ ?_|refine Wf ?_ ?_|refine Wi ?_ ?_|refine Ws ?_|refine Wc ?_ ?_|refine Wo ?_ ?_|refine Wk ?_|refine We ?_ ?_)
 all_goals (try simp only [List.length_cons,List.length_nil])
 all_goals grind [→ zKi,elt_d, → pe_e,nmF_n,nmF_c,zNJ,zNK,fre_e,actR,kns_e,rul_e,zKf,zKg,Rm,Tp,Rl,Gm,fuel,zb5,zcW,zgn,za9,zaV]):G:=h
theorem gr6 (h:G:=by
 (with_reducible repeat' first|intro _|refine And.intro ?_ ?_|refine Wf ?_ ?_|refine Wi ?_ ?_|refine Ws ?_|refine Wc ?_ ?_|refine Wo ?_ ?_|refine Wk ?_|refine We ?_ ?_)
 all_goals (try simp only [List.length_cons,List.length_nil])
 all_goals grind [gwC,fuel]):G:=h
end Go.Dm
end
section
namespace Go.Dm
instance (b:Str) (e:UInt8) (n:Nat) (d:List Str) (c:Int) (a:Int):T (zf2 b e n d c a) (0≤c∧c≤a∧a≤b.length∧b.length<a+n∧b.length<1000000000∧d.length≤a) (fun r=>r=ptR b e d c a):=by
 induction n generalizing d c a
 ·exact ⟨goz⟩
 exact ⟨by unfold zf2; exact zJn⟩
instance (a:Str) (b:UInt8):T (zj6 a b) (a.length<1000000000) (fun r=>r=zy b a):=⟨by unfold zj6; exact zJn⟩
instance (c:UInt8) (a:Int):T (zmr c a) (a=10) (fun r => -1≤r∧r≤9∧(0≤r→zcj c=true∧r=(c.toNat:Int)-48)∧(zcj c=true→0≤r)):=⟨fun h=>by
 subst h;have:=zqh (p:=fun b=>match zmr b 10 with|some r=>decide (-1≤r∧r≤9∧(0≤r→zcj b=true∧r=(b.toNat:Int)-48)∧(zcj b=true→0≤r))|none=>false) (by decide +kernel) c
 split at this
 ·rename_i r e; exact ⟨r,e,of_decide_eq_true this⟩
 ·cases this⟩
instance (n:Nat) (b a:Int):T (zeu n b a) (a=10∧0≤b∧b≤9223372036854775807∧20≤n) (fun r=>r=Go.Lib.decDigits b.toNat∧r.length≤20):=⟨fun ⟨h,h0,h1,hn⟩=>by
 subst h; exact zOk 20 n b hn (by decide) h0 (by omega) h1 (by decide)⟩
instance (b:Int) (a:Int):T (ziu b a) (a=10∧0≤b∧b≤9223372036854775807) (fun r=>r=Go.Lib.decDigits b.toNat∧r.length≤20):=⟨by unfold ziu; exact goRn⟩
instance (b:Str) (d:Int) (n:Nat) (c:Str) (a:Int):T (zev b d n c a) (0≤a∧a≤b.length∧b.length<a+n∧b.length<1000000000∧d=10∧dgs c=true∧c.length≤20*a) (fun r=>(r.2=true↔dgs (dr b a)=true∧b≠[])∧(r.2=true→r.1=plf (pln c (dr b a))∧dgs r.1=true)):=by
 induction n generalizing c a
 ·exact ⟨goz⟩
 exact ⟨by unfold zev zkz; exact goE1⟩
instance (b:Str) (a:Int):T (zoI b a) (b.length<1000000000∧a=10) (fun r=>(r.2=true↔dgs b=true∧b≠[])∧(r.2=true→r.1=plf (pln [] b)∧dgs r.1=true)):=⟨by unfold zoI; exact goE1⟩
instance (a:Str) (b:Str):T (zqD a b) (True) (fun r=>r=true↔a.length<b.length∨(a.length=b.length∧zjo a b=true)):=⟨by unfold zqD; exact zJn⟩
instance (d:Int) (c:Str) (n:Nat) (b:Int) (a:Int):T (zja d c n b a) (0≤a∧a≤c.length∧c.length<a+n∧c.length≤5∧d=10∧dgs c=true∧0≤b∧dvI b (dr c a)≤10000000∧dgs (dr c a)=true) (fun r=>r=(dvI b (dr c a),0)):=by
 induction n generalizing b a
 ·exact ⟨goz⟩
 exact ⟨fun h=>by obtain ⟨h1,h2,g,f,rfl,e⟩:=h<;>(unfold zja; exact goRn)⟩
instance (c:Str) (b:Int) (a:Int):T (zqE c b a) (c.length<1000000000∧b=10∧(a=255∨a=65535)) (fun r=>0≤r.1∧r.1≤a∧(zhw c a→r=(dvI 0 c,0))):=⟨by unfold zqE; exact goE2⟩
instance (b:Int) (a:Int):T (zqF b a) (a=10∧b≤9223372036854775807) (fun r=>r.length≤20∧if 0≤b then r=Go.Lib.decDigits b.toNat else r=[]):=⟨by unfold zqF; exact goRn⟩
instance (b:Str) (a:Int):T (zms b a) (b.length<1000000000∧(a=255∨a=65535)) (fun r => -1≤r∧(0≤r↔zhw b a)):=⟨by unfold zms; exact goE2⟩
instance (a:List Str) (n:Nat) (i4:Int):T (zjb a n i4) (0≤i4∧i4≤a.length∧a.length<i4+n∧Sm a) (fun r=>r=true↔a.length=4∧allS (dr a i4)):=by
 induction n generalizing i4
 ·exact ⟨goz⟩
 exact ⟨by unfold zjb; exact goE3⟩
instance (a:Str):T (zjT a) (a.length<900000000) (fun r=>r=true↔zmR a):=⟨by unfold zjT; exact goE3⟩
instance (a:UInt8) (s1:Str) (n:Nat) (i5:Int):T (zj7 a s1 n i5) (0≤i5∧i5≤s1.length∧s1.length<i5+n∧s1.length<1000000000) (fun r=>r=(dr s1 i5).contains a):=by
 induction n generalizing i5
 ·exact ⟨goz⟩
 exact ⟨by unfold zj7; exact zJn⟩
instance (b:UInt8) (a:Str):T (zf3 b a) (a.length<1000000000) (fun r=>r=a.contains b):=⟨by unfold zf3; exact zJn⟩
instance (b:UInt8):T (ziv b) True (fun r=>r=zlL b):=bt (by decide +kernel) b
end Go.Dm
end
section
namespace Go.Dm
instance {P:Bool→Prop} (f:Int→Int→Option Bool) (c:List Str) (i4:Int) (i5:Int) (n:Nat) (d:Int):K (zhK f c i4 i5 n d) P ((Sm c∧0≤i5∧i5<c.length∧0≤d∧d≤(elt c i5).length∧(elt c i5).length<d+n∧(elt c i5).length<1000000000∧hxs (tk (elt c i5) d)=true∧0≤i4∧i4≤2*i5∧(zsh (elt c i5)=false→P false))∧(∀a b,a=i4+1∧b=i5+1∧dr c i5=elt c i5::dr c (i5+1)∧zsh (elt c i5)=true→W (f a b) P)):=by
 induction n generalizing d
 ·exact ⟨goz⟩
 exact ⟨fun ⟨h,e⟩=>by have e:=fun a0 g=>K.mk (e a0 g); unfold zhK; exact goE3⟩
instance (a:List Str) (n:Nat) (i4:Int) (i5:Int):T (zds a n i4 i5) (Sm a∧a.length≤900000001∧(∀x∈a,x.length<900000000)∧0≤i5∧i5≤a.length∧a.length<i5+n∧0≤i4∧i4≤2*i5) (fun r=>r=true↔GT (dr a i5) i4):=by
 induction n generalizing i4 i5
 ·exact ⟨goz⟩
 exact ⟨by unfold zds zkA; exact goE3⟩
instance (a:Str):T (zmt a) (a.length<900000000) (fun r=>r=true↔Grp true (zy 58 a) 8):=⟨by unfold zmt; exact goE3⟩
instance {P:Bool→Prop} (e:Int→Option Bool) (a:Str) (i3:Int) (i4:Int) (n:Nat) (d:Str) (b:Int):K (zgE e a i3 i4 n d b) P ((a.length<800000000∧0≤i3∧i3+2≤a.length∧1≤i4∧i4≤8∧0≤b∧b≤i4∧i4<b+n∧d.length≤i3+2*b∧SZ a i3 b d∧(wz (tk a i3) (dr a (i3+2)) i4→P true))∧(∀i,i=i4+1∧¬ wz (tk a i3) (dr a (i3+2)) i4→W (e i) P)):=by
 induction n generalizing d b
 ·exact ⟨goz⟩
 exact ⟨fun ⟨h,c⟩=>by have c:=fun a0=>K.mk (c a0); unfold zgE znm znn; exact goE4⟩
instance (a:Str) (i3:Int) (n:Nat) (i4:Int):T (zfc a i3 n i4) (a.length<800000000∧0≤i3∧i3+2≤a.length∧1≤i4∧i4≤9∧9<i4+n) (fun r=>r=true↔sxW (tk a i3) (dr a (i3+2)) i4):=by
 induction n generalizing i4
 ·exact ⟨goz⟩
 exact ⟨by unfold zfc; exact goE4⟩
instance (a:Str) (n:Nat) (i3:Int):T (ziw a n i3) (a.length<800000000∧0≤i3∧i3≤a.length∧a.length<i3+n) (fun r=>r=true↔zrz a i3):=by
 induction n generalizing i3
 ·exact ⟨goz⟩
 exact ⟨by unfold ziw; exact goE4⟩
instance (a:Str):T (ztx a) (a.length<800000000) (fun r=>r=true↔zvr a):=⟨by unfold ztx; exact goE4⟩
instance (b:UInt8):T (zep b) True (fun r=>r=zrp b):=bt (by decide +kernel) b
instance (b:UInt8):T (znM b) True (fun r=>r=zE7 b):=bt (by decide +kernel) b
instance (a:Str) (n:Nat) (i3:Int):T (zeh a n i3) (0≤i3∧i3≤a.length∧a.length<i3+n∧a.length<1000000000) (fun r=>r=true↔zjs (dr a i3)=true∧0<a.length):=by
 induction n generalizing i3
 ·exact ⟨goz⟩
 exact ⟨by unfold zeh zlS; exact goE5⟩
instance (a:Str):T (zlA a) (a.length<1000000000) (fun r=>r=true↔zjs a=true∧a≠[]):=⟨by unfold zlA; exact goE5⟩
instance (a:Str):T (zsC a) (a.length<800000000) (fun r=>(r.Kind≠0↔zrQ a)∧(r.Kind≠0→r.Port = -1)):=⟨by unfold zsC zj8; exact goE6⟩
instance (a:Str) (n:Nat) (i5:Int):T (zhL a n i5) (a.length<800000000 ∧ -1≤i5∧i5<a.length∧i5+1<n∧58∉dr a (i5+1)) (fun r=>(r.2=0↔zuF a)∧(r.2=0∨r.2=27)):=by
 induction n generalizing i5
 ·exact ⟨goz⟩
 exact ⟨by unfold zhL; exact goE6⟩
instance (a:Str):T (zmu a) (a.length<800000000) (fun r=>(r.2=0↔zrQ a∨zuF a)∧(r.2=0∨r.2=27)):=⟨by unfold zmu; exact goE6⟩
end Go.Dm
end
section
namespace Go.Dm
instance (b:UInt8):T (zpU b) True (fun r=>r=zpv b):=bt (by decide +kernel) b
instance (a:Str) (n:Nat) (i3:Int):T (zhM a n i3) (0≤i3∧i3≤a.length∧a.length<i3+n∧a.length<1000000000) (fun r=>r=((dr a i3).all zpv&&decide (0<a.length))):=by
 induction n generalizing i3
 ·exact ⟨goz⟩
 exact ⟨by unfold zhM; exact zJn⟩
instance (a:Str):T (zbh a) (a.length<1000000000) (fun r=>r=zij a):=⟨by unfold zbh; exact zJn⟩
instance (b:UInt8):T (zgt b) True (fun r=>r=zE8 b):=bt (by decide +kernel) b
instance (a:Str) (n:Nat) (i3:Int) (i4:Int):T (zbO a n i3 i4) (0≤i4∧i4≤a.length∧a.length<i4+n∧a.length<1000000000∧0≤i3∧i3≤i4) (fun r=>True):=by
 induction n generalizing i3 i4
 ·exact ⟨goz⟩
 exact ⟨by unfold zbO ziy zix; exact go⟩
instance (a:Str):T (zlT a) (a.length<1000000000) (fun r=>True):=⟨by unfold zlT; exact go⟩
instance (a:Str) (n:Nat) (i3:Int):T (zhN a n i3) (0≤i3∧i3≤a.length∧a.length<i3+n∧a.length<1000000000) (fun r=>r=zvQ [44,40,41] (dr a i3)):=by
 induction n generalizing i3
 ·exact ⟨goz⟩
 exact ⟨by unfold zhN; exact zy2⟩
instance (a:Str):T (zmv a) (a.length<1000000000) (fun r=>r=zvQ [44,40,41] a):=⟨by unfold zmv; exact zy2⟩
instance (a:Str) (i5:Int) (c:zZR) (b:Bool):T (zba a i5 c b) (V4 a∧a.length<800000000∧4≤i5∧i5≤a.length∧c=⟨[],[49,46,49],sb a 4 i5,[]⟩∧32∉sb a 4 i5∧(i5<a.length→dr a i5=32::dr a (i5+1))∧(b=true↔¬ byP (sb a 4 i5))) (fun r=>VP a r):=⟨by unfold zba; exact zy2⟩
instance (a:Str) (i5:Int) (b:zZR) (c:List Str):T (zhO a i5 b c) (V4 a∧a.length<800000000∧4≤i5∧i5≤a.length∧b=⟨[],[49,46,49],sb a 4 i5,[]⟩∧32∉sb a 4 i5∧(i5<a.length→dr a i5=32::dr a (i5+1))∧c.length=1) (fun r=>VP a r):=⟨by unfold zhO; exact zy2⟩
instance (a:Str) (i4:Int) (n:Nat) (i5:Int):T (zew a i4 n i5) (V4 a∧a.length<800000000∧i4=3∧4≤i5∧i5≤a.length∧a.length<i5+n∧32∉sb a 4 i5) (fun r=>VP a r):=by
 induction n generalizing i5
 ·exact ⟨goz⟩
 exact ⟨by unfold zew zkB; exact zy2⟩
instance (a:Str) (n:Nat) (i4:Int):T (zex a n i4) (V4 a∧4≤a.length∧a.length<800000000∧0≤i4∧i4≤3∧a.length<i4+n) (fun r=>VP a r):=by
 induction n generalizing i4
 ·exact ⟨goz⟩
 exact ⟨by unfold zex zkC; exact zy2⟩
instance (a:Str):T (zoJ a) (V4 a∧a.length<800000000) (fun r=>VP a r):=⟨by unfold zoJ; exact zy2⟩
instance (b:zZR) (a:Str):T (zjc b a) (V4 a∧a.length<800000000∧b=⟨[],[49,46,49],dr a 4,[]⟩) (fun r=>(zzX (dr a 4)→r.2=0)∧(¬ zzX (dr a 4)→r.2=2)):=⟨by unfold zjc; exact zy2⟩
instance (x_v:zZR):T (zqG x_v) (x_v=⟨[],[49,46,49],x_v.By,[]⟩∧x_v.By.length<10000) (fun r=>(zzX x_v.By→r.2=0)∧(¬ zzX x_v.By→r.2=2)):=⟨by unfold zqG zlU; exact zy2⟩
instance {P:Int→Prop} (d:Int→Option Int) (i3:Int) (b:Str) (n:Nat) (a:Int):K (zhP d i3 b n a) P ((b.length<1000000000∧0≤a∧a≤b.length∧b.length<a+n∧0≤i3∧i3≤10000∧(zvQ [44,59] (dr b a)=true→P 27))∧(∀i,i=i3+1∧zvQ [44,59] (dr b a)=false→W (d i) P)):=by
 induction n generalizing a
 ·exact ⟨goz⟩
 exact ⟨fun ⟨h,c⟩=>by have c:=fun a0=>K.mk (c a0); unfold zhP; exact zy2⟩
instance (a:List zZJ) (n:Nat) (i3:Int):T (zf4 a n i3) (Swm a∧0≤i3∧i3≤a.length∧a.length<i3+n) (fun r=>(zw8 (dr a i3)→r=if 64<a.length then 3 else 0)∧(¬ zw8 (dr a i3)→r=27)):=by
 induction n generalizing i3
 ·exact ⟨goz⟩
 exact ⟨by unfold zf4; exact zy2⟩
instance (a:List zZJ):T (zoK a) (Swm a) (fun r=>(zw8 a→r=if 64<a.length then 3 else 0)∧(¬ zw8 a→r=27)):=⟨by unfold zoK; exact zy2⟩
end Go.Dm
end
section
namespace Go.Dm
instance (a:Str) (s1:Str) (n:Nat) (i5:Int):T (zey a s1 n i5) (0≤i5∧i5≤a.length∧a.length<i5+n∧a.length<1000000000∧s1.length<1000) (fun r=>r=i5+((upt s1 (dr a i5)).1.length:Int)):=by
 induction n generalizing i5
 ·exact ⟨goz⟩
 exact ⟨by unfold zey zkD; exact goE7⟩
instance (b:Str) (a:Str):T (zfd b a) (b.length<1000000000∧a.length<1000) (fun r=>r=((upt a b).1.length:Int)):=⟨by unfold zfd; exact goE7⟩
instance (b:UInt8):T (zmw b) True (fun r=>r=zlK b):=bt (by decide +kernel) b
instance (b:UInt8):T (zmx b) True (fun r=>r=zcj b):=bt (by decide +kernel) b
instance (a:Str) (n:Nat) (i3:Int):T (zb8 a n i3) (0≤i3∧i3≤a.length∧a.length<i3+n∧a.length<1000000000) (fun r=>r=if i3=0 then zvu a else shs (dr a i3)):=by
 induction n generalizing i3
 ·exact ⟨goz⟩
 exact ⟨by unfold zb8 ze5; exact goE7⟩
instance (a:Str):T (zno a) (a.length<1000000000) (fun r=>r=zvu a):=⟨by unfold zno; exact goE7⟩
instance (b:UInt8):T (znY b) True (fun r=>r=zAT b):=bt (by decide +kernel) b
instance  (n:Nat) (b:Str) (a:Str):T (zjU n b a) (b.length<n∧b.length<1000000000∧a.length<1000000000) (fun r=>r=pqM a b):=by
 induction n generalizing b a
 ·exact ⟨goz⟩
 exact ⟨by unfold zjU; exact goU⟩
instance (b:Str) (a:Str):T (znZ b a) (b.length<1000000000∧a.length<1000000000) (fun r=>r=pqM a b):=⟨by unfold znZ; exact goU⟩
instance (a:zZT):T (zoL a) (Um a) (fun r=>r=zvv a):=⟨by unfold zoL zkE; exact goE8⟩
instance (a:Str) (v4:zZT):T (zhQ a v4) (a.length<1000000000∧Um v4) (fun r=>r.2=if zvv ⟨v4.Scheme,v4.Auth,a,v4.Query,v4.Frag,v4.HasAuth,v4.HasQuery,v4.HasFrag⟩=true then 0 else 2):=⟨by unfold zhQ; exact goE8⟩
instance (a:Str) (v4:zZT):T (zhR a v4) (a.length<1000000000∧Um v4∧v4=⟨v4.Scheme,[],[],v4.Query,v4.Frag,false,v4.HasQuery,v4.HasFrag⟩) (fun r=>r.2=if zvv (rrA v4.Scheme a v4.Query v4.Frag v4.HasQuery v4.HasFrag)=true then 0 else 2):=⟨by unfold zhR zkF; exact goE8⟩
instance (a:Str) (v4:zZT):T (zhT a v4) (a.length<1000000000∧Um v4∧v4=⟨[],[],[],v4.Query,v4.Frag,false,v4.HasQuery,v4.HasFrag⟩) (fun r=>r.2=if zvv (rrB a v4.Query v4.Frag v4.HasQuery v4.HasFrag)=true then 0 else 2):=⟨by unfold zhT zhS; exact goE8⟩
instance (a:Str) (v4:zZT):T (zhU a v4) (a.length<1000000000∧Um v4∧v4=⟨[],[],[],[],v4.Frag,false,false,v4.HasFrag⟩) (fun r=>r.2=if zvv (rpQ a v4.Frag v4.HasFrag)=true then 0 else 2):=⟨by unfold zhU; exact goEB⟩
instance (a:Str):T (zmy a) (a.length<1000000000) (fun r=>r.2=if zFE a=true then 0 else 2):=⟨by unfold zmy; exact goEB⟩
instance (a:List zZJ) (n:Nat) (i3:Int):T (zhV a n i3) (Swm a∧0≤i3∧i3≤a.length∧a.length<i3+n) (fun r=>(zwX (dr a i3)→r=if 64<a.length then 3 else 0)∧(¬ zwX (dr a i3)→r=2)):=by
 induction n generalizing i3
 ·exact ⟨goz⟩
 exact ⟨by unfold zhV; exact goEA⟩
instance (a:List zZJ):T (zoM a) (Swm a) (fun r=>(zwX a→r=if 64<a.length then 3 else 0)∧(¬ zwX a→r=2)):=⟨by unfold zoM; exact goEA⟩
end Go.Dm
end
