/- Confluence: what was sent before is just ahead; a gateway's calls, whatever comes in a call. No program in sight. WireSt -/
import Derived.Test.YtlehfmpjckapdaaGreatDoorCfD
import Derived.Test.YtlehfmpjckapdaaGreatDoorYRun
import Derived.Test.YtlehfmpjckapdaaGreatDoorP0
set_option linter.unusedVariables false
set_option linter.unusedSimpArgs false
set_option linter.unusedVariables false
set_option maxRecDepth 10000
set_option maxHeartbeats 4000000
section
namespace Go.Dm
variable {g:zZk} {ea:Bool}
def em (g:zZk):zZk:=⟨g.Queue,g.z0h,g.zZF,g.zZ5,g.zZm,g.zZl,[],[],g.z0b,g.zZH,g.zZ3,g.z0c,g.zZU,g.zZW,g.zZX,g.zZo⟩
def px (A B:List UInt8) (g:zZk):zZk:=⟨g.Queue,g.z0h,g.zZF,g.zZ5,g.zZm,g.zZl,A++g.zZx,B++g.z0a,g.z0b,g.zZH,g.zZ3,g.z0c,g.zZU,g.zZW,g.zZX,g.zZo⟩
theorem px_em (g:zZk):px g.zZx g.z0a (em g)=g:=by
 unfold px em;simp only [List.append_nil]
theorem px_px (A B C D:List UInt8) (g:zZk):px A B (px C D g)=px (A++C) (B++D) g:=by
 unfold px;simp only [List.append_assoc]
def pxW (A B:List UInt8) (c:WS):WS:=⟨px A B c.g,c.a,c.b,c.ea,c.eb⟩
section
variable (A B:List UInt8)
theorem JC_p (g s:zZk):JC (px A B g) s=px A B (JC g s):=by
 unfold JC px;simp only [List.append_assoc]
theorem JU_p (g s:zZk):JU (px A B g) s=px A B (JU g s):=by
 unfold JU px;simp only [List.append_assoc]
theorem PKe_x (i:Option UInt8) (g:zZk):PKe i (px A B g)=(PKe i g).map (px A B):=by
 cases i with
 | none=>rfl
 | some x =>
  show (ze (bC g (zqj g)) [x]).map _=((ze (bC g (zqj g)) [x]).map _).map _
  cases ze (bC g (zqj g)) [x] with
  | none=>rfl
  | some s=>show some (JC (px A B g) s.2)=some (px A B (JC g s.2)); rw [JC_p]
theorem QKe_x (j:Option UInt8) (g:zZk):QKe j (px A B g)=(QKe j g).map (px A B):=by
 have e:∀t,bU (px A B g) t=bU g t:=fun t=>rfl
 have o:(if j=none then some (uF (px A B g) true false g.zZW g.zZX) else none)=(if j=none then some (uF g true false g.zZW g.zZX) else none:Option zZk).map (px A B):=by
  split<;>rfl
 cases hq:g.Queue with
 | none =>
  unfold QKe;have a:(px A B g).Queue=none:=hq;rw [hq,a]; exact o
 | some q =>
  obtain ⟨⟨l,m⟩,b⟩:=q
  cases l with
  | nil =>
   unfold QKe;have a:(px A B g).Queue=some ⟨⟨[],m⟩,b⟩:=hq;rw [hq,a]; exact o
  | cons t l =>
   rw [zuC hq,zuC (g:=px A B g) hq,e t]
   cases QK j (bU g t) with
   | none=>rfl
   | some s=>show some (JU (px A B g) s)=some (px A B (JU g s)); rw [JU_p]
theorem QS_x (j:Option UInt8) (g:zZk):QS j (px A B g)=(QS j g).map (px A B):=by
 unfold QS;show (if j=none∧g.z0c=true then some (px A B g) else QKe j (px A B g))=_
 by_cases c:j=none∧g.z0c=true
 ·rw [if_pos c,if_pos c]; rfl
 ·rw [if_neg c,if_neg c,QKe_x]
theorem tel_p (g:zZk) (c:Int):tel (px A B g) c=px A B (tel g c):=by
 unfold tel px;simp only [List.append_assoc]
theorem sg_p (g:zZk):sg (px A B g)=px A B (sg g):=by
 unfold sg;show (if g.zZo=true then px A B g else if 0<ql g∧g.z0c=true∧g.zZU=false then tel (px A B g) 502 else if 0<ql g then px A B g else if g.z0b≠0 then tel (px A B g) g.z0b else if g.zZ3=true then clo (px A B g) else px A B g)=_;rw [tel_p,tel_p]
 by_cases a:g.zZo=true
 ·rw [if_pos a,if_pos a]
 rw [if_neg a,if_neg a]
 by_cases b:0<ql g∧g.z0c=true∧g.zZU=false
 ·rw [if_pos b,if_pos b]
 rw [if_neg b,if_neg b]
 by_cases d:0<ql g
 ·rw [if_pos d,if_pos d]
 rw [if_neg d,if_neg d]
 by_cases c:g.z0b≠0
 ·rw [if_pos c,if_pos c]
 rw [if_neg c,if_neg c]
 by_cases e:g.zZ3=true
 ·rw [if_pos e,if_pos e]; rfl
 ·rw [if_neg e,if_neg e]
open Classical in
theorem s1_p (c:WS):s1 (pxW A B c)=(s1 c).map (pxW A B):=by
 obtain ⟨g,a,b,ea,eb⟩:=c;unfold s1;show (if g.zZo=true then none else _)=Option.map _ (if g.zZo=true then none else _)
 by_cases e:g.zZo=true
 ·rw [if_pos e,if_pos e]; rfl
 rw [if_neg e,if_neg e]
 cases a with
 | nil =>
  show (if ea=true then (PKe none (px A B g)).bind _ else none)=Option.map _ (if ea=true then (PKe none g).bind _ else none)
  by_cases d:ea=true
  ·rw [if_pos d,if_pos d,PKe_x]
   cases PKe none g with
   | none=>rfl
   | some s=>show some (⟨sg (px A B s),_,_,_,_⟩:WS)=some ⟨px A B (sg s),_,_,_,_⟩; rw [sg_p]; rfl
  ·rw [if_neg d,if_neg d]; rfl
 | cons x l =>
  show (if En1 (some x) g then (PKe (some x) (px A B g)).bind _ else none)=Option.map _ (if En1 (some x) g then (PKe (some x) g).bind _ else none)
  by_cases d:En1 (some x) g
  ·rw [if_pos d,if_pos d,PKe_x]
   cases PKe (some x) g with
   | none=>rfl
   | some s=>show some (⟨sg (px A B s),_,_,_,_⟩:WS)=some ⟨px A B (sg s),_,_,_,_⟩; rw [sg_p]; rfl
  ·rw [if_neg d,if_neg d]; rfl
open Classical in
theorem s2_p (c:WS):s2 (pxW A B c)=(s2 c).map (pxW A B):=by
 obtain ⟨g,a,b,ea,eb⟩:=c;unfold s2;show (if g.zZo=true then none else _)=Option.map _ (if g.zZo=true then none else _)
 by_cases e:g.zZo=true
 ·rw [if_pos e,if_pos e]; rfl
 rw [if_neg e,if_neg e]
 cases b with
 | nil =>
  show (if eb=true then (QS none (px A B g)).bind _ else none)=Option.map _ (if eb=true then (QS none g).bind _ else none)
  by_cases d:eb=true
  ·rw [if_pos d,if_pos d,QS_x]
   cases QS none g with
   | none=>rfl
   | some s=>show some (⟨sg (px A B s),_,_,_,_⟩:WS)=some ⟨px A B (sg s),_,_,_,_⟩; rw [sg_p]; rfl
  ·rw [if_neg d,if_neg d]; rfl
 | cons x l =>
  show (if En2 (some x) g then (QS (some x) (px A B g)).bind _ else none)=Option.map _ (if En2 (some x) g then (QS (some x) g).bind _ else none)
  by_cases d:En2 (some x) g
  ·rw [if_pos d,if_pos d,QS_x]
   cases QS (some x) g with
   | none=>rfl
   | some s=>show some (⟨sg (px A B s),_,_,_,_⟩:WS)=some ⟨px A B (sg s),_,_,_,_⟩; rw [sg_p]; rfl
  ·rw [if_neg d,if_neg d]; rfl
theorem zM9:∀(n:Nat) (c:WS),runN s1 s2 n (pxW A B c)=pxW A B (runN s1 s2 n c)
 | 0,c=>rfl
 | n+1,c=>by
  unfold runN;rw [s1_p]
  cases s1 c with
  | some y=>exact zM9 n y
  | none =>
   simp only [Option.map_none];rw [s2_p]
   cases s2 c with
   | some y=>exact zM9 n y
   | none=>rfl
theorem zHh (c:WS):NF (pxW A B c)=pxW A B (NF c):=zM9 A B (mw c) c
theorem QW_p {c d:WS} (h:QW c d):QW (pxW A B c) (pxW A B d):=by
 rcases h with rfl|⟨h1,h2,a⟩
 ·exact .inl rfl
 ·exact .inr ⟨h1,h2,by show A++c.g.zZx=A++d.g.zZx; exact congrArg _ a⟩
end
def Gc (g:zZk) (ea:Bool):Prop:=Gw g∧Vc g.zZF∧Ig g ea∧Lv g∧tc g=0∧tu g=0
theorem cl_nf {s:Str} (h:Gc g ea) (d:s.length≤3000) (k:kc g+s.length≤3000) (rest b:List UInt8) (eb:Bool) {r:Int × Int × zZk} (e:zM g s=some r) :
  NF ⟨g,s++rest,b,ea,eb⟩=NF ⟨r.2.2,dr s r.1++rest,b,ea,eb⟩∧Ig r.2.2 ea∧Lv r.2.2∧r.2.2.zZF=g.zZF:=by
 obtain ⟨h1,h2,a,c,j,m⟩:=h;unfold zM at e
 split at e
 ·cases e; exact ⟨rfl,a,c,rfl⟩
 split at e
 ·cases e; exact ⟨rfl,a,c,rfl⟩
 rename_i f
 have l:1000000≤fuel:=by simp [fuel]
 obtain ⟨i,a2,a3,a4,a5⟩:=zNe d rest b ea eb s.length fuel 0 g r (by omega) (by omega) (by omega) ⟨h1,h2,by omega,by omega,by omega⟩ a c (.inr (by simpa using f)) e;exact ⟨i,a2,a3,a5⟩
theorem up_nf {s:Str} (h:Gc g ea) (d:s.length≤3000) (j:ku g+s.length≤3000) (rest a:List UInt8) (eb:Bool) {r:Int × Int × zZk} (e:zr g s=some r) :
  QW (NF ⟨g,a,s++rest,ea,eb⟩) (NF ⟨r.2.2,a,dr s r.1++rest,ea,eb⟩)∧Ig r.2.2 ea∧Lv r.2.2∧r.2.2.zZF=g.zZF:=by
 obtain ⟨h1,h2,b,c,i,l⟩:=h;unfold zr at e
 split at e
 ·cases e; exact ⟨.inl rfl,b,c,rfl⟩
 split at e
 ·cases e; exact ⟨.inl rfl,b,c,rfl⟩
 have k:1000000≤fuel:=by simp [fuel]
 obtain ⟨f,a2,a3,a4,a5⟩:=zNf d rest a ea eb s.length fuel 0 g r (by omega) (by omega) (by omega) ⟨h1,h2,by omega,by omega⟩ b c e;exact ⟨f,a2,a3,a4⟩
theorem ce_nf (h:Gc g true) (b:List UInt8) (eb:Bool) {r:Int × zZk} (e:zG g=some r) :
  QW (NF ⟨g,[],b,true,eb⟩) (NF ⟨r.2,[],b,false,eb⟩)∧Ig r.2 false∧Lv r.2∧r.2.zZF=g.zZF:=by
 obtain ⟨h1,h2,d,j,q,s⟩:=h;unfold zG at e
 split at e
 ·rename_i hc
  cases e;exact ⟨nf_q dia (.inr ⟨hc,hc,rfl⟩),.inl hc,j,rfl⟩
 rename_i hc
 have hc:g.zZo=false:=by simpa using hc
 have n:g.zZ3=false:=by
  obtain ⟨_,_,_,_,_,_,_,_,_,k⟩:=d.resolve_left (by rw [hc]; simp);exact k rfl
 split at e
 ·rename_i c; rw [n] at c; cases c
 obtain ⟨m,p,e⟩:=bi e;cases e;have o:m=sg (ecR g):=zwE p;subst o;have f:PKe none g=some (ecR g):=rfl;have en:En1 none g:=fun c=>absurd rfl c;have st:=s1_m (g:=g) (a:=[]) (b:=b) (ea:=true) (eb:=eb) (l:=[]) (e:=false) (i:=none) hc ⟨rfl,rfl,rfl,rfl⟩ en f;refine ⟨.inl (nf_1 dia d st),Ig_1 (a:=[]) (l:=[]) (i:=none) hc d ⟨rfl,rfl,rfl,rfl⟩ en f,Lv_s ?_,by rw [zxD]; rfl⟩;exact .inr ⟨.inr rfl,(j.resolve_left (by rw [hc]; simp)).2⟩
theorem ueJ_l (h:Vc g.zZF) (t:Bool):PC Lu (ueJ g t):=zaZ (fun _=>zhG (an_l h) fun r a=>zbl a) fun _=>z6 fun r e=>by cases e; exact zbl (.inl rfl)
theorem ueR_l (h:Vc g.zZF) (a:Lu g):PC Lu (ueR g):=zaZ (fun _=>zsG (fun _=>z6 fun _ _=>ueJ_l (by exact h) _) fun _ _=>z6 fun _ _=>ueJ_l (by exact h) _) fun _=>zbl a
theorem ue_i (hc:g.zZo=false) (hd:g.z0c=false) {r:Int × zZk} (e:zn g=some r):∃a,ueR g=some a∧zg a=some r.2:=by
 have j:∀v t,zP v t=some r→∃a,ueJ v t=some a∧zg a=some r.2:=fun v t e=>by
  unfold zP at e;unfold ueJ
  split at e
  ·rename_i c
   obtain ⟨a,d,e⟩:=bi e;obtain ⟨i,f,e⟩:=bi e;cases e;exact ⟨a,by rw [if_pos c,d]; rfl,f⟩
  ·rename_i c
   obtain ⟨a,d,e⟩:=bi e;obtain ⟨i,f,e⟩:=bi e;cases e;exact ⟨a,by rw [if_neg c,d]; rfl,f⟩
 unfold zn at e;unfold ueR;rw [if_neg (by rw [hc]; simp),if_neg (by rw [hd]; simp)] at e
 split at e
 ·rename_i h
  rw [if_pos h]
  cases hi:g.zZl.z0t with
  | none =>
   rw [hi] at e;obtain ⟨a,d,e⟩:=bi e;cases d;exact j _ _ e
  | some b =>
   rw [hi] at e;obtain ⟨a,d,e⟩:=bi e;obtain ⟨i,f,k⟩:=j _ _ e;exact ⟨i,by show (zfa b).bind _=_; rw [d]; exact f,k⟩
 ·rename_i h
  rw [if_neg h];obtain ⟨a,d,e⟩:=bi e;cases e;exact ⟨_,rfl,d⟩
theorem ue_nf (h:Gc g ea) (a:List UInt8) {r:Int × zZk} (e:zn g=some r) :
  QW (NF ⟨g,a,[],ea,true⟩) (NF ⟨r.2,a,[],ea,false⟩)∧Ig r.2 ea∧Lv r.2∧r.2.zZF=g.zZF:=by
 obtain ⟨h1,h2,i,s,H,L⟩:=h
 rcases Bool.eq_false_or_eq_true g.zZo with hc|hc
 ·unfold zn at e;rw [if_pos hc] at e;cases e;exact ⟨nf_q dia (.inr ⟨hc,hc,rfl⟩),i,s,rfl⟩
 obtain ⟨q,n,J,N,C,o,G,I,M,K⟩:=i.resolve_left (by rw [hc]; simp);have en:En2 none g:=fun c=>absurd rfl c;have f:Iw ⟨g,a,[],ea,true⟩:=i
 rcases Bool.eq_false_or_eq_true g.z0c with hd|hd
 ·unfold zn at e;rw [if_neg (by rw [hc]; simp),if_pos hd] at e;cases e;have st:=s2_m (g:=g) (a:=a) (b:=[]) (ea:=ea) (eb:=true) (l:=[]) (e:=false) (j:=none) hc ⟨rfl,rfl,rfl,rfl⟩ en (QS_0 hd);rw [zHs C fun c=>⟨(o c).1,(o c).2.1⟩] at st;exact ⟨nf_2 dia _ _ _ (Nat.le_refl _) f st,i,s,rfl⟩
 ·obtain ⟨d,k,y⟩:=ue_i hc hd e;have E:r.2=sg d:=zwE y
  have p:QKe none g=some d:=by
   by_cases n0:0<ql g
   ·obtain ⟨t,l,m,_⟩:=q_c n n0;obtain ⟨O,x,rfl⟩:=(ue_j m hc).1 d k;rw [zuC m];show (ueR (bU g t)).map _=_;rw [x]; rfl
   ·have u:=(o (by omega)).2.2;unfold ueR at k;rw [if_neg (by rw [u]; simp),u] at k;rw [zHF n u hc]; exact k
  have w:QS none g=some d:=by rw [QS_k hd]; exact p
  have st:=s2_m (g:=g) (a:=a) (b:=[]) (ea:=ea) (eb:=true) (l:=[]) (e:=false) (j:=none) hc ⟨rfl,rfl,rfl,rfl⟩ en w;rw [E];have v:Lc g:=(s.resolve_left (by rw [hc]; simp)).1;have F:Lu g:=(s.resolve_left (by rw [hc]; simp)).2
  have cl:d.zZF=g.zZF∧(d.zZo=true∨d.zZm=g.zZm∧d.zZH=g.zZH):=by
   by_cases n0:0<ql g
   ·obtain ⟨t,l,m,_⟩:=q_c n n0;obtain ⟨D,_,z⟩:=QKe_u m hc p;exact ⟨D,z⟩
   ·rw [zHF n (o (by omega)).2.2 hc] at p;cases p;exact ⟨rfl,.inr ⟨rfl,rfl⟩⟩
  refine ⟨nf_2 dia _ _ _ (Nat.le_refl _) f st,Ig_2 hc i en w,Lv_s ?_,by rw [zxD]; exact cl.1⟩
  rcases cl.2 with c|⟨B,A⟩
  ·exact .inl c
  ·refine .inr ⟨?_,ueR_l h2 F d k⟩;unfold Lc at v ⊢;rw [B,A]; exact v
end Go.Dm
end
section
namespace Go.Dm
theorem goU0 {G:Prop} (h:G:=by
 (with_reducible repeat' first|intro _|refine And.intro ?_ ?_|refine Wf ?_ ?_|refine Wi ?_ ?_|refine Ws ?_|refine Wc ?_ ?_|refine Wo ?_ ?_|refine Wk ?_|refine We ?_ ?_)
 all_goals (try simp only [List.length_cons,List.length_nil])
 all_goals grind (gen:=8) (ematch:=8) [Rs2,oA,kb, = zI8,oB,oW,Sd,oQ,Gw,Cd,kc,ku,tc,tu,Rs1,st,fuel,zbg,zaF]):G:=h
instance (priority:=high) upL (s1:Str) (n:Nat) (a:zZk) (b:Int):T (za s1 n a b) (Gw a∧0≤b∧b≤s1.length∧s1.length≤3000∧ku a+(s1.length-b)≤3000∧(s1.length-b)+2*st a.zZo+1≤n∧tc a+10000000*(s1.length-b)+10000000*st a.zZo≤30000000000000) (fun r=>b≤r.1∧(r.1=b→Rs2 a r.2.2∨r.2.2.zZo=true)∧(a.zZo=true→r.2.2.zZo=true)):=by
 induction n generalizing a b
 ·exact ⟨goU0⟩
 exact ⟨by unfold za zx; exact goU0⟩
theorem upT (a:zZk) (b:Str):T (zr a b) (Gw a∧b.length≤3000∧ku a+b.length≤3000∧tc a=0∧tu a=0) (fun r=>(r.1=0→Rs2 a r.2.2∨r.2.2.zZo=true)):=⟨by unfold zr; exact goU0⟩
theorem upO (a:zZk) (b:Str):T (zr a b) (Gw a∧b.length≤3000∧ku a+b.length≤3000∧tc a=0∧tu a=0) (fun r=>Gw r.2.2∧0≤r.1∧r.1≤b.length∧ku r.2.2≤ku a+r.1∧kc r.2.2≤kc a∧tc r.2.2≤10000000*r.1+10000000∧tu r.2.2≤10000000*r.1+10000000∧(a.zZo=true→r.2.2.zZo=true)):=inferInstance
instance (priority:=high) upG (a:zZk) (b:Str):T (zr a b) (Gw a∧b.length≤3000∧ku a+b.length≤3000∧tc a=0∧tu a=0) (fun r=>Gw r.2.2∧0≤r.1∧r.1≤b.length∧ku r.2.2≤ku a+r.1∧kc r.2.2≤kc a∧tc r.2.2≤10000000*r.1+10000000∧tu r.2.2≤10000000*r.1+10000000∧(a.zZo=true→r.2.2.zZo=true)∧(r.1=0→Rs2 a r.2.2∨r.2.2.zZo=true)∧((b.length:Int)≤r.1∨Ur r.2.2)∧(b=[]∨Ur a→r.1=0∧Rs2 a r.2.2)∧(r.2.1=0∨r.2.1=8∧r.1=0)):=⟨fun h=>by
 obtain ⟨r,e,h0⟩:=(upT a b).ok h;obtain ⟨m,c,h1⟩:=(upO a b).ok h;rw [e] at c;cases c;obtain ⟨j,a2,a3,a4,a5,g,f,k⟩:=h1;obtain ⟨-,l,d,i⟩:=up_o e
 exact ⟨r,e,j,a2,a3,a4,a5,g,f,k,h0,l,i,d⟩⟩
end Go.Dm
end
section
namespace Go.Dm
theorem clO (a:zZk) (b:Str):T (zM a b) (Gw a∧b.length≤3000∧kc a+b.length≤3000∧tc a=0∧tu a=0) (fun r=>Gw r.2.2∧0≤r.1∧r.1≤b.length∧kc r.2.2≤kc a+r.1∧ku r.2.2≤ku a∧tu r.2.2≤10000000*r.1+10000000∧tc r.2.2≤10000000*r.1+10000000∧(a.zZo=true→r.2.2.zZo=true)):=inferInstance
instance (priority:=high) clG (a:zZk) (b:Str):T (zM a b) (Gw a∧b.length≤3000∧kc a+b.length≤3000∧tc a=0∧tu a=0) (fun r=>(Gw r.2.2∧0≤r.1∧r.1≤b.length∧kc r.2.2≤kc a+r.1∧ku r.2.2≤ku a∧tu r.2.2≤10000000*r.1+10000000∧tc r.2.2≤10000000*r.1+10000000∧(a.zZo=true→r.2.2.zZo=true))∧((b.length:Int)≤r.1∨Cr r.2.2)∧(b=[]∨Cr a→r.1=0∧r.2.2=a)∧(r.2.1=0∨r.2.1=8∧r.1=0)):=⟨fun h=>by
 obtain ⟨r,e,h1⟩:=(clO a b).ok h;obtain ⟨-,f,c,d⟩:=cl_o e
 exact ⟨r,e,h1,f,d,c⟩⟩
instance (priority:=high) takeS (x_w:zZt):T (zu x_w) (Gw x_w.Gateway∧0≤tc x_w.Gateway∧x_w.zZm.zZN.length+tc x_w.Gateway≤100000000000000∧x_w.zZl.zZN.length+tu x_w.Gateway≤100000000000000) (fun r=>((Gw r.Gateway∧kc r.Gateway=kc x_w.Gateway∧ku r.Gateway=ku x_w.Gateway∧tc r.Gateway=0∧tu r.Gateway=0∧r.zZm.zZ1=x_w.zZm.zZ1∧r.zZm.zZP=x_w.zZm.zZP∧r.zZm.z0k=x_w.zZm.z0k∧r.zZm.z0j=x_w.zZm.z0j∧r.zZm.zZN.length=x_w.zZm.zZN.length+tc x_w.Gateway∧r.zZl.zZ1=x_w.zZl.zZ1∧r.zZl.zZP=x_w.zZl.zZP∧r.zZl.z0k=x_w.zZl.z0k∧r.zZl.z0j=x_w.zZl.z0j∧r.zZl.zZN.length=x_w.zZl.zZN.length+tu x_w.Gateway)∧x_w.zZm.zZN <+: r.zZm.zZN∧x_w.zZl.zZN <+: r.zZl.zZN∧x_w.zZE.Client≤r.zZE.Client∧x_w.zZE.Upstream≤r.zZE.Upstream∧r.Gateway.zZo=x_w.Gateway.zZo)∧Rs2 x_w.Gateway r.Gateway∧Qt r.Gateway r.zZE∧(Qt x_w.Gateway x_w.zZE→r.zZm.zZN=x_w.zZm.zZN∧r.zZl.zZN=x_w.zZl.zZN∧r.zZE=x_w.zZE)):=⟨fun h=>by
 obtain ⟨r,e,h1⟩:=(takeG x_w).ok h
 exact ⟨r,e,h1,take_o e⟩⟩
def Zc (w:zZt):Prop:=(uc w=0∨Cr w.Gateway)∧(w.zZm.z0k=true→w.zZm.z0j=false→uc w≠0)
def Zu (w:zZt):Prop:=(uu w=0∨Ur w.Gateway)∧(w.zZl.z0k=true→w.zZl.z0j=false→uu w≠0)
def Z (w:zZt):Prop:=w.Gateway.zZo=true∨Zc w∧Zu w
def Sl (w:zZt):Prop:=w.zZm.zZN.length≤20000000000000∧w.zZl.zZN.length≤20000000000000
def Fz (k:Int):Int × Option zZt→Prop
 | (_,none)=>False
 | (i,some v)=>i+uc v+uu v=k∧Wr v∧Z v∧Sl v
theorem goWz {G:Prop} (h:G:=by
 (with_reducible repeat' first|intro _|refine And.intro ?_ ?_|refine Wf ?_ ?_|refine Wi ?_ ?_|refine Ws ?_|refine Wc ?_ ?_|refine Wo ?_ ?_|refine Wk ?_|refine We ?_ ?_)
 all_goals (try simp only [List.length_cons,List.length_nil])
 all_goals grind (gen:=8) (ematch:=8) [Fz,Z,Zc,Zu,Sl, → Cr_s, → Ur_s,tc,tu,Wr,Sn,Bz,uc,uu,Mz,st,fuel]):G:=h
section
variable {k:Int} {F:zZt→Int→Int→Option (Int × Option zZt)} {n:Int}
instance zU0 [h:∀w i3 i4,K (F w i3 i4) (Fz k) (Wr w∧0≤i3∧i3+uc w+uu w=k∧k≤6000∧0≤i4∧i4≤3∧(i4<2→Mz w+2≤n∧Sn w 10000000000000)∧1≤n∧(2≤i4→Z w∧Sl w))] (w:zZt) (i3:Int):K (zsF F w i3) (Fz k) (Wr w∧0≤i3∧i3+uc w+uu w=k∧k≤6000∧Mz w+2≤n∧1≤n∧Sn w 9999988000000):=⟨fun h=>by unfold zsF; exact goWz⟩
instance zU1 [h:∀w i3 i4,K (F w i3 i4) (Fz k) (Wr w∧0≤i3∧i3+uc w+uu w=k∧k≤6000∧0≤i4∧i4≤3∧(i4<2→Mz w+2≤n∧Sn w 10000000000000)∧1≤n∧(2≤i4→Z w∧Sl w))] (w:zZt) (i3 i4:Int):K (zxc F w i3 i4) (Fz k) (Wr w∧0≤i3∧i3+uc w+uu w=k∧k≤6000∧1≤i4∧i4≤2∧Mz w+1≤n∧1≤n∧Sn w 10000018000000∧Zc w):=⟨fun h=>by unfold zxc; exact goWz⟩
instance zCH [h:∀w i3 i4,K (F w i3 i4) (Fz k) (Wr w∧0≤i3∧i3+uc w+uu w=k∧k≤6000∧0≤i4∧i4≤3∧(i4<2→Mz w+2≤n∧Sn w 10000000000000)∧1≤n∧(2≤i4→Z w∧Sl w))] (w:zZt) (i3 i4:Int):K (zz6 F w i3 i4) (Fz k) (Wr w∧0≤i3∧i3+uc w+uu w=k∧k≤6000∧0≤i4∧i4<2∧Mz w+1≤n∧1≤n∧Sn w 10000000000000):=⟨fun h=>by unfold zz6; exact goWz⟩
end
end Go.Dm
end
section
namespace Go.Dm
instance zL0 (k:Int) (n:Nat) (w:zZt) (i3 i4:Int):K (zbq n w i3 i4) (Fz k) (Wr w∧0≤i3∧i3+uc w+uu w=k∧k≤6000∧0≤i4∧i4≤3∧(i4<2→Mz w+2≤(n:Int)∧Sn w 10000000000000)∧1≤(n:Int)∧(2≤i4→Z w∧Sl w)):=by
 induction n generalizing w i3 i4 with
 | zero=>exact ⟨fun h=>by omega⟩
 | succ n g =>
  refine ⟨fun ⟨h1,h2,d,b,j,l,i,m,e⟩=>?_⟩;have:=Mz_0 h1;rw [L0_s];refine Wi (fun c=>?_) fun c=>Ws ?_
  ·have a:i4<2:=by simpa using c
   have f:=i a;exact (zCH (F:=zbq n) (n:=(n:Int)) (h:=g) w i3 i4).ok ⟨h1,h2,d,b,j,a,by omega,by omega,f.2⟩
  ·have a:2≤i4:=by simpa using c
   exact ⟨d,h1,(e a).1,(e a).2⟩
theorem Fin1 {w:zZt} (h:Iv w 9900000000000):W (zgl (some w)) (Fz (uc w+uu w)):=by
 obtain ⟨h1,h2,b⟩:=h;have:=Mz_0 h1;refine (zL0 (uc w+uu w) fuel w 0 0).ok ⟨h1,by omega,by omega,h2,by omega,by omega,fun _=>⟨?_,?_⟩,by simp [fuel],fun c=>by omega⟩
 ·obtain ⟨g,a2,a3,a4,a5,f,e,i,a9,a,d⟩:=h1
  simp only [Mz,uc,uu,st,fuel] at *
  split<;>split<;>omega
 ·obtain ⟨s1,s2⟩:=b;exact ⟨by omega,by omega⟩
section
variable {F:zZt→Int→Int→Option (Int × Option zZt)}
end
end Go.Dm
end
section
namespace Go.Dm
theorem upP (a:zZk) (b:Str):T (zr a b) (Gw a∧b.length≤3000∧ku a+b.length≤3000∧tc a=0∧tu a=0) (fun r=>Gw r.2.2∧0≤r.1∧r.1≤b.length∧ku r.2.2≤ku a+r.1∧kc r.2.2≤kc a∧tc r.2.2≤10000000*r.1+10000000∧tu r.2.2≤10000000*r.1+10000000∧(a.zZo=true→r.2.2=a∧r.1=0)∧(r.2.1=0∨r.2.1=8∧r.1=0)):=⟨fun h=>by
 obtain ⟨r,e,f,a2,a3,a4,a5,i,d,k⟩:=(upO a b).ok h;obtain ⟨j,m,g,l⟩:=up_o e
 exact ⟨r,e,f,a2,a3,a4,a5,i,d,fun c=>by rw [j c]; exact ⟨rfl,rfl⟩,g⟩⟩
theorem clP (a:zZk) (b:Str):T (zM a b) (Gw a∧b.length≤3000∧kc a+b.length≤3000∧tc a=0∧tu a=0) (fun r=>(Gw r.2.2∧0≤r.1∧r.1≤b.length∧kc r.2.2≤kc a+r.1∧ku r.2.2≤ku a∧tu r.2.2≤10000000*r.1+10000000∧tc r.2.2≤10000000*r.1+10000000)∧(a.zZo=true→r.2.2=a∧r.1=0)∧(r.2.1=0∨r.2.1=8∧r.1=0)):=⟨fun h=>by
 obtain ⟨r,e,f,a2,a3,a4,a5,i,d,k⟩:=(clO a b).ok h;obtain ⟨j,m,g,l⟩:=cl_o e
 exact ⟨r,e,⟨f,a2,a3,a4,a5,i,d⟩,fun c=>by rw [j c]; exact ⟨rfl,rfl⟩,g⟩⟩
theorem ceO (a:zZk):T (zG a) (Gw a∧tc a≤40000000000000) (fun r=>Gw r.2∧kc r.2≤kc a∧ku r.2≤ku a∧tc r.2≤tc a+1310000∧tu r.2=tu a∧(a.zZo=true→r.2.zZo=true)):=inferInstance
theorem ueO (a:zZk):T (zn a) (Gw a∧tc a≤40000000000000) (fun r=>Gw r.2∧kc r.2≤kc a∧ku r.2≤ku a∧tc r.2≤tc a+1310000∧tu r.2=tu a∧(a.zZo=true→r.2.zZo=true)):=inferInstance
theorem ce_o {g:zZk} {r:Int × zZk} (h:zG g=some r):(g.zZo=true→r.2=g)∧(r.1=0∨r.1=8):=by
 unfold zG at h
 split at h
 ·cases h; exact ⟨fun _=>rfl,.inr rfl⟩
 rename_i hc
 split at h
 ·cases h; exact ⟨fun _=>rfl,.inr rfl⟩
 obtain ⟨a,b,h⟩:=bi h;cases h; exact ⟨fun c=>absurd c hc,.inl rfl⟩
theorem ue_o {g:zZk} {r:Int × zZk} (h:zn g=some r):(g.zZo=true→r.2=g)∧(r.1=0∨r.1=8):=by
 have e:∀(v:zZk) (t:Bool) (r:Int × zZk),zP v t=some r→r.1=0:=fun v t r h=>by
  unfold zP at h
  split at h
  ·obtain ⟨a,d,h⟩:=bi h;obtain ⟨f,i,h⟩:=bi h;cases h; rfl
  ·obtain ⟨a,d,h⟩:=bi h;obtain ⟨f,i,h⟩:=bi h;cases h; rfl
 unfold zn at h
 split at h
 ·cases h; exact ⟨fun _=>rfl,.inr rfl⟩
 rename_i hc
 split at h
 ·cases h; exact ⟨fun _=>rfl,.inr rfl⟩
 refine ⟨fun c=>absurd c hc,.inl ?_⟩
 split at h
 ·cases hi:g.zZl.z0t with
  | none =>
   rw [hi] at h;obtain ⟨a,d,h⟩:=bi h;exact e _ _ _ h
  | some b =>
   rw [hi] at h;obtain ⟨a,d,h⟩:=bi h;exact e _ _ _ h
 ·obtain ⟨a,d,h⟩:=bi h;cases h; rfl
theorem ceP (a:zZk):T (zG a) (Gw a∧tc a≤40000000000000) (fun r=>Gw r.2∧kc r.2≤kc a∧ku r.2≤ku a∧tc r.2≤tc a+1310000∧tu r.2=tu a∧(a.zZo=true→r.2=a)∧(r.1=0∨r.1=8)):=⟨fun h=>by
 obtain ⟨r,e,b,a2,a3,a4,a5,c⟩:=(ceO a).ok h
 exact ⟨r,e,b,a2,a3,a4,a5,ce_o e⟩⟩
theorem ueP (a:zZk):T (zn a) (Gw a∧tc a≤40000000000000) (fun r=>Gw r.2∧kc r.2≤kc a∧ku r.2≤ku a∧tc r.2≤tc a+1310000∧tu r.2=tu a∧(a.zZo=true→r.2=a)∧(r.1=0∨r.1=8)):=⟨fun h=>by
 obtain ⟨r,e,b,a2,a3,a4,a5,c⟩:=(ueO a).ok h
 exact ⟨r,e,b,a2,a3,a4,a5,ue_o e⟩⟩
section
attribute [local instance 20000] upP clP ceP ueP evP
end
end Go.Dm
end
section
namespace Go.Dm
variable {w r:zZt}
theorem og_i {α:Type} {b:Bool} {x:Option α} {r:α} (h:(if b=true then x else none)=some r):b=true∧x=some r:=by
 cases b with
 | true=>exact ⟨rfl,h⟩
 | false=>cases h
theorem zFr (h:zu w=some r):r.Gateway=em w.Gateway∧r.zZm=⟨w.zZm.zZ1,w.zZm.zZP,w.zZm.z0k,w.zZm.z0j,w.zZm.zZN++w.Gateway.zZx,w.zZm.z0A,w.zZm.z0F⟩∧r.zZl=⟨w.zZl.zZ1,w.zZl.zZP,w.zZl.z0k,w.zZl.z0j,w.zZl.zZN++w.Gateway.z0a,w.zZl.z0A,w.zZl.z0F⟩:=by
 obtain ⟨c,a,h⟩:=bi h;cases a;obtain ⟨_,h⟩:=og_i h;obtain ⟨d,b,h⟩:=bi h;cases b;obtain ⟨_,h⟩:=og_i h;obtain ⟨e,f,h⟩:=bi h;cases h;exact ⟨rfl,rfl,rfl⟩
def ends (x:z0f):Bool:=x.z0k && !x.z0j
def ab (w:zZt):WS:=pxW w.zZm.zZN w.zZl.zZN ⟨w.Gateway,dr w.zZm.zZ1 w.zZm.zZP,dr w.zZl.zZ1 w.zZl.zZP,ends w.zZm,ends w.zZl⟩
theorem ab_t (h:zu w=some r):ab r=ab w:=by
 obtain ⟨a,b,c⟩:=zFr h;obtain ⟨g,x,y,m⟩:=r
 change g=_ at a
 change x=_ at b
 change y=_ at c
 subst a; subst b; subst c;show pxW (w.zZm.zZN++w.Gateway.zZx) (w.zZl.zZN++w.Gateway.z0a) ⟨em w.Gateway,_,_,_,_⟩=pxW w.zZm.zZN w.zZl.zZN ⟨w.Gateway,_,_,_,_⟩;unfold pxW;rw [← px_px,px_em]; rfl
def Vw (w:zZt):Prop:=Wr w∧Vc w.Gateway.zZF∧Ig w.Gateway (ends w.zZm)∧Lv w.Gateway
theorem Vw_c {w:zZt} (h:Vw w):Gc w.Gateway (ends w.zZm):=⟨h.1.1,h.2.1,h.2.2.1,h.2.2.2,h.1.2.1,h.1.2.2.1⟩
theorem sF_i {s:Str} {i:Int} {r:Str} (h:zar s i=some r):r=dr s i∧0≤i∧i≤s.length:=by
 unfold zar at h
 split at h
 ·rename_i c; cases h; exact ⟨rfl,c.1,c.2⟩
 ·cases h
theorem sT_i {s:Str} {i:Int} {r:Str} (h:sTo s i=some r):r=s.take i.toNat∧0≤i∧i≤s.length:=by
 unfold sTo at h
 split at h
 ·rename_i c; cases h; exact ⟨rfl,c.1,c.2⟩
 ·cases h
theorem iA_i {a b r:Int} (h:zi a b=some r):r=a+b:=by
 unfold zi at h
 split at h
 ·cases h; rfl
 ·cases h
theorem cutL {all:Str} {i k n:Int} (h0:0≤i) (h1:i≤all.length) (c:0≤k) (a:k≤(dr all i).length) (n0:0≤n) (b:n≤((dr all i).take k.toNat).length):dr ((dr all i).take k.toNat) n++(dr all i).drop k.toNat=dr all (i+n):=by
 have e:dr all (i+n)=(dr all i).drop n.toNat:=by
  unfold dr; rw [List.drop_drop]; congr 1; omega
 rw [e]
 conv=>rhs; rw [← List.take_append_drop k.toNat (dr all i)]
 rw [List.drop_append_of_le_length (by omega)]; rfl
theorem Wr_t (h:zu w=some r) (h1:Gw w.Gateway) (h2:w.zZm.zZ1.length≤3000∧w.zZl.zZ1.length≤3000∧0≤w.zZm.zZP∧w.zZm.zZP≤w.zZm.zZ1.length∧0≤w.zZl.zZP∧w.zZl.zZP≤w.zZl.zZ1.length∧kc w.Gateway+uc w≤3000∧ku w.Gateway+uu w≤3000):Wr r:=by
 obtain ⟨a,b,c⟩:=zFr h;obtain ⟨g,x,y,m⟩:=r
 change g=_ at a
 change x=_ at b
 change y=_ at c
 subst a; subst b; subst c;exact ⟨h1,rfl,rfl,h2⟩
theorem Vw_t (h:zu w=some r) (h1:Vc w.Gateway.zZF) (h2:Ig w.Gateway (ends w.zZm)) (d:Lv w.Gateway):Vc r.Gateway.zZF∧Ig r.Gateway (ends r.zZm)∧Lv r.Gateway:=by
 obtain ⟨a,b,c⟩:=zFr h;obtain ⟨g,x,y,m⟩:=r
 change g=_ at a
 change x=_ at b
 change y=_ at c
 subst a; subst b; subst c;exact ⟨h1,h2,d⟩
def Al (w r:zZt):Prop:=r.zZm.zZ1=w.zZm.zZ1∧r.zZl.zZ1=w.zZl.zZ1
theorem Al_t (h:zu w=some r):Al w r:=by
 obtain ⟨_,b,c⟩:=zFr h;exact ⟨by rw [b],by rw [c]⟩
theorem fdC {w:zZt} (h:Vw w) {k:Int} {f i:Str} {a:Int × Int × zZk} {j:Int} {b:zZt} {m:z0D} (u:zar w.zZm.zZ1 w.zZm.zZP=some f) (I:sTo f k=some i) (e:zM w.Gateway i=some a) (B:zi w.zZm.zZP a.1=some j)
  (c:zu ⟨a.2.2,⟨w.zZm.zZ1,j,w.zZm.z0k,w.zZm.z0j,w.zZm.zZN,w.zZm.z0A,w.zZm.z0F⟩,w.zZl,m⟩=some b):Vw b∧NF (ab w)=NF (ab b)∧Al w b:=by
 obtain ⟨r,i0,l⟩:=sF_i u;subst r;obtain ⟨x,D,y⟩:=sT_i I;subst x;have o:=iA_i B;subst o;have v:=Vw_c h;obtain ⟨⟨M,E,s,L,G,Q,R,q,J,d,K⟩,v2,v3,v4⟩:=h
 have tl:((dr w.zZm.zZ1 w.zZm.zZP).take k.toNat).length≤3000∧(((dr w.zZm.zZ1 w.zZm.zZP).take k.toNat).length:Int)≤uc w:=by
  have:=zaV i0 l;rw [List.length_take];unfold uc; omega
 obtain ⟨r',n,p,_⟩:=(clP w.Gateway _).ok ⟨M,tl.1,by omega,E,s⟩;rw [e] at n;cases n;obtain ⟨H,F,z,P,O,_⟩:=p;obtain ⟨g,A,t,C⟩:=cl_nf v tl.1 (by omega) ((dr w.zZm.zZ1 w.zZm.zZP).drop k.toNat) (dr w.zZl.zZ1 w.zZl.zZP) (ends w.zZl) e;rw [List.take_append_drop,cutL i0 l D y F z] at g;obtain ⟨N,z2,z3⟩:=Vw_t c (by show Vc a.2.2.zZF; rw [C]; exact v2) A t;refine ⟨⟨Wr_t c H ⟨L,G,?_,?_,q,J,?_,?_⟩,N,z2,z3⟩,?_,by have:=Al_t c; exact this⟩
 ·show 0≤w.zZm.zZP+a.1; omega
 ·show w.zZm.zZP+a.1≤_;unfold uc at tl; show _≤(w.zZm.zZ1.length:Int); omega
 ·show kc a.2.2+((w.zZm.zZ1.length:Int)-(w.zZm.zZP+a.1))≤3000;unfold uc at d; omega
 ·show ku a.2.2+uu w≤3000; omega
 ·rw [ab_t c];unfold ab;rw [zHh,g, ← zHh]; rfl
theorem fdU {w:zZt} (h:Vw w) {k:Int} {f i:Str} {a:Int × Int × zZk} {j:Int} {b:zZt} {m:z0D} (s:zar w.zZl.zZ1 w.zZl.zZP=some f) (J:sTo f k=some i) (e:zr w.Gateway i=some a) (A:zi w.zZl.zZP a.1=some j)
  (c:zu ⟨a.2.2,w.zZm,⟨w.zZl.zZ1,j,w.zZl.z0k,w.zZl.z0j,w.zZl.zZN,w.zZl.z0A,w.zZl.z0F⟩,m⟩=some b):Vw b∧QW (NF (ab w)) (NF (ab b))∧Al w b:=by
 obtain ⟨p,i0,l⟩:=sF_i s;subst p;obtain ⟨u,C,v⟩:=sT_i J;subst u;have o:=iA_i A;subst o;have t:=Vw_c h;obtain ⟨⟨L,D,q,K,H,E,F,N,Q,z,d⟩,v2,v3,v4⟩:=h
 have tl:((dr w.zZl.zZ1 w.zZl.zZP).take k.toNat).length≤3000∧(((dr w.zZl.zZ1 w.zZl.zZP).take k.toNat).length:Int)≤uu w:=by
  have:=zaV i0 l;rw [List.length_take];unfold uu; omega
 obtain ⟨r',n,I,G,x,P,O,_⟩:=(upP w.Gateway _).ok ⟨L,tl.1,by omega,D,q⟩;rw [e] at n;cases n;obtain ⟨g,y,r,B⟩:=up_nf t tl.1 (by omega) ((dr w.zZl.zZ1 w.zZl.zZP).drop k.toNat) (dr w.zZm.zZ1 w.zZm.zZP) (ends w.zZl) e;rw [List.take_append_drop,cutL i0 l C v G x] at g;obtain ⟨M,z2,z3⟩:=Vw_t c (by show Vc a.2.2.zZF; rw [B]; exact v2) y r;refine ⟨⟨Wr_t c I ⟨K,H,E,F,?_,?_,?_,?_⟩,M,z2,z3⟩,?_,by have:=Al_t c; exact this⟩
 ·show 0≤w.zZl.zZP+a.1; omega
 ·show w.zZl.zZP+a.1≤_;unfold uu at tl; show _≤(w.zZl.zZ1.length:Int); omega
 ·show kc a.2.2+uc w≤3000; omega
 ·show ku a.2.2+((w.zZl.zZ1.length:Int)-(w.zZl.zZP+a.1))≤3000;unfold uu at d; omega
 ·rw [ab_t c];unfold ab;have:=QW_p w.zZm.zZN w.zZl.zZN g;rw [← zHh, ← zHh] at this;exact this
theorem enC {w:zZt} (h:Vw w) (f:w.zZm.z0k=true) (hd:w.zZm.z0j=false) (o:zar w.zZm.zZ1 w.zZm.zZP=some []) {a:Int × zZk} {b:zZt} {m:z0D} (d:zG w.Gateway=some a)
  (c:zu ⟨a.2,⟨w.zZm.zZ1,w.zZm.zZP,w.zZm.z0k,true,w.zZm.zZN,w.zZm.z0A,w.zZm.z0F⟩,w.zZl,m⟩=some b):Vw b∧QW (NF (ab w)) (NF (ab b))∧Al w b:=by
 obtain ⟨l,i0,H⟩:=sF_i o;have e:=Vw_c h
 have g:ends w.zZm=true:=by unfold ends; rw [f,hd]; rfl
 have i:ends (⟨w.zZm.zZ1,w.zZm.zZP,w.zZm.z0k,true,w.zZm.zZN,w.zZm.z0A,w.zZm.z0F⟩:z0f)=false:=by unfold ends; rw [f]; rfl
 rw [g] at e;obtain ⟨⟨B,F,D,A,v,t,u,k,y,r,z⟩,v2,v3,v4⟩:=h;obtain ⟨r',j,x,G,E,_⟩:=(ceP w.Gateway).ok ⟨B,by omega⟩;rw [d] at j;cases j;obtain ⟨p,q,n,s⟩:=ce_nf e (dr w.zZl.zZ1 w.zZl.zZP) (ends w.zZl) d;obtain ⟨C,z2,z3⟩:=Vw_t c (by show Vc a.2.zZF; rw [s]; exact v2) (by rw [i]; exact q) n;refine ⟨⟨Wr_t c x ⟨A,v,t,u,k,y,?_,?_⟩,C,z2,z3⟩,?_,by have:=Al_t c; exact this⟩
 ·show kc a.2+uc w≤3000; omega
 ·show ku a.2+uu w≤3000; omega
 ·rw [ab_t c];unfold ab;rw [g,i];show QW (NF (pxW w.zZm.zZN w.zZl.zZN ⟨w.Gateway,dr w.zZm.zZ1 w.zZm.zZP,_,true,_⟩)) (NF (pxW w.zZm.zZN w.zZl.zZN ⟨a.2,dr w.zZm.zZ1 w.zZm.zZP,_,false,_⟩));rw [← l];have:=QW_p w.zZm.zZN w.zZl.zZN p;rw [← zHh, ← zHh] at this;exact this
theorem enU {w:zZt} (h:Vw w) (e:w.zZl.z0k=true) (hd:w.zZl.z0j=false) (k:zar w.zZl.zZ1 w.zZl.zZP=some []) {a:Int × zZk} {b:zZt} {m:z0D} (d:zn w.Gateway=some a)
  (c:zu ⟨a.2,w.zZm,⟨w.zZl.zZ1,w.zZl.zZP,w.zZl.z0k,true,w.zZl.zZN,w.zZl.z0A,w.zZl.z0F⟩,m⟩=some b):Vw b∧QW (NF (ab w)) (NF (ab b))∧Al w b:=by
 obtain ⟨i,i0,H⟩:=sF_i k;have l:=Vw_c h
 have x:ends w.zZl=true:=by unfold ends; rw [e,hd]; rfl
 have y:ends (⟨w.zZl.zZ1,w.zZl.zZP,w.zZl.z0k,true,w.zZl.zZN,w.zZl.z0A,w.zZl.z0F⟩:z0f)=false:=by unfold ends; rw [e]; rfl
 obtain ⟨⟨B,F,D,A,t,r,s,g,v,p,z⟩,v2,v3,v4⟩:=h;obtain ⟨r',f,u,G,E,_⟩:=(ueP w.Gateway).ok ⟨B,by omega⟩;rw [d] at f;cases f;obtain ⟨n,o,j,q⟩:=ue_nf l (dr w.zZm.zZ1 w.zZm.zZP) d;obtain ⟨C,z2,z3⟩:=Vw_t c (by show Vc a.2.zZF; rw [q]; exact v2) o j;refine ⟨⟨Wr_t c u ⟨A,t,r,s,g,v,?_,?_⟩,C,z2,z3⟩,?_,by have:=Al_t c; exact this⟩
 ·show kc a.2+uc w≤3000; omega
 ·show ku a.2+uu w≤3000; omega
 ·rw [ab_t c];unfold ab;rw [x,y];show QW (NF (pxW w.zZm.zZN w.zZl.zZN ⟨w.Gateway,_,dr w.zZl.zZ1 w.zZl.zZP,_,true⟩)) (NF (pxW w.zZm.zZN w.zZl.zZN ⟨a.2,_,dr w.zZl.zZ1 w.zZl.zZP,_,false⟩));rw [← i];have:=QW_p w.zZm.zZN w.zZl.zZN n;rw [← zHh, ← zHh] at this;exact this
def Ps (X w:zZt):Prop:=Vw w∧QW (NF (ab X)) (NF (ab w))∧Al X w
theorem zHE {X w r:zZt} (h:Ps X w) (a:Vw r) (b:QW (NF (ab w)) (NF (ab r))) (c:Al w r):Ps X r:=⟨a,h.2.1.trans b,c.1.trans h.2.2.1,c.2.trans h.2.2.2⟩
def Po (X:zZt) (r:Int × Option zZt):Prop:=∃v,r.2=some v∧Ps X v
section
variable {X:zZt} {F:zZt→Int→Int→Option (Int × Option zZt)}
theorem fU0 (d:∀w i j,Ps X w→PC (Po X) (F w i j)) {w:zZt} (h:Ps X w) (i:Int):PC (Po X) (zsF F w i) :=
 z6 fun _ _=>zaZ (fun _=>zbl ⟨w,rfl,h⟩) fun _=>z6 fun C g=>z6 fun y s=>z6 fun A k=>z6 fun E t=>z6 fun q r=>by
  obtain ⟨a,b,c⟩:=fdU h.1 g s k t r;have p:Ps X q:=zHE h a b c;refine zaZ (fun B=>zaZ (fun x=>z6 fun o e=>zaZ (fun m=>z6 fun u f=>?_) fun _=>z6 fun _ _=>zaZ (fun _=>d _ _ _ p) fun _=>d _ _ _ p) fun _=>z6 fun _ _=>zaZ (fun _=>d _ _ _ p) fun _=>d _ _ _ p) fun _=>z6 fun _ _=>zaZ (fun _=>d _ _ _ p) fun _=>d _ _ _ p;rw [e] at f;cases f
  have m:o=[]:=by simpa using m
  subst m;refine zaZ (fun c=>by simp at c) fun _=>z6 fun z n=>z6 fun v l=>z6 fun _ _=>?_;obtain ⟨a2,G,D⟩:=enU a B (by simpa using x) e n l;exact d _ _ _ (zHE p a2 G D)
theorem fU1 (d:∀w i j,Ps X w→PC (Po X) (F w i j)) {w:zZt} (h:Ps X w) (i j:Int):PC (Po X) (zxc F w i j) :=
 z6 fun _ _=>zaZ (fun _=>zbl ⟨w,rfl,h⟩) fun _=>z6 fun C g=>z6 fun y s=>z6 fun A k=>z6 fun E t=>z6 fun q r=>by
  obtain ⟨a,b,c⟩:=fdU h.1 g s k t r;have p:Ps X q:=zHE h a b c;refine zaZ (fun B=>zaZ (fun x=>z6 fun o e=>zaZ (fun m=>z6 fun u f=>?_) fun _=>z6 fun _ _=>z6 fun _ _=>zaZ (fun _=>d _ _ _ p) fun _=>d _ _ _ p) fun _=>z6 fun _ _=>z6 fun _ _=>zaZ (fun _=>d _ _ _ p) fun _=>d _ _ _ p) fun _=>z6 fun _ _=>z6 fun _ _=>zaZ (fun _=>d _ _ _ p) fun _=>d _ _ _ p;rw [e] at f;cases f
  have m:o=[]:=by simpa using m
  subst m;refine zaZ (fun c=>by simp at c) fun _=>z6 fun z n=>z6 fun v l=>z6 fun _ _=>z6 fun _ _=>?_;obtain ⟨a2,G,D⟩:=enU a B (by simpa using x) e n l;exact d _ _ _ (zHE p a2 G D)
theorem fCH (d:∀w i j,Ps X w→PC (Po X) (F w i j)) {w:zZt} (h:Ps X w) (i j:Int):PC (Po X) (zz6 F w i j) :=
 z6 fun _ _=>zaZ (fun _=>zbl ⟨w,rfl,h⟩) fun _=>z6 fun C g=>z6 fun y s=>z6 fun A k=>z6 fun E t=>z6 fun q r=>by
  obtain ⟨a,b,c⟩:=fdC h.1 g s k t r;have p:Ps X q:=zHE h a (.inl b) c;refine zaZ (fun B=>zaZ (fun x=>z6 fun o e=>zaZ (fun m=>z6 fun u f=>?_) fun _=>z6 fun _ _=>z6 fun _ _=>zaZ (fun _=>fU0 d p _) fun _=>fU1 d p _ _) fun _=>z6 fun _ _=>z6 fun _ _=>zaZ (fun _=>fU0 d p _) fun _=>fU1 d p _ _) fun _=>z6 fun _ _=>z6 fun _ _=>zaZ (fun _=>fU0 d p _) fun _=>fU1 d p _ _;rw [e] at f;cases f
  have m:o=[]:=by simpa using m
  subst m;refine zaZ (fun c=>by simp at c) fun _=>z6 fun z n=>z6 fun v l=>z6 fun _ _=>z6 fun _ _=>?_;obtain ⟨a2,G,D⟩:=enC a B (by simpa using x) e n l;exact fU0 d (zHE p a2 G D) _
end
theorem fL0 (X:zZt):∀(n:Nat) (w:zZt) (i j:Int),Ps X w→PC (Po X) (zbq n w i j)
 | 0,w,i,j,h=>zIs
 | n+1,w,i,j,h=>by
  rw [L0_s];exact zaZ (fun _=>fCH (fL0 X n) h i j) fun _=>zbl ⟨w,rfl,h⟩
theorem rest_n {v:zZt} (z:Z v) (B:Wr v):NF (ab v)=ab v:=by
 rcases z with h|⟨⟨t,r⟩,⟨o,p⟩⟩
 ·exact nf_c dia (x:=ab v) h
 rcases Bool.eq_false_or_eq_true v.Gateway.zZo with hc|hc
 ·exact nf_c dia (x:=ab v) hc
 obtain ⟨H,E,D,G,F,u,w,m,A,s,C⟩:=B;have f:=zaV u w;have g:=zaV m A;refine zCV ?_ ?_ _
 ·cases e:s1 (ab v) with
  | none=>rfl
  | some y =>
   obtain ⟨_,i,b,l,k,hn,en,n,_⟩:=s1_i e
   exfalso
   cases i with
   | some x =>
    have d:dr v.zZm.zZ1 v.zZm.zZP=x::l:=hn.1;obtain ⟨b,a⟩:=en (by simp);have b:v.Gateway.zZ3=false:=b;have a:zI v.Gateway=some true:=a;rw [d,List.length_cons] at f
    rcases t with c|c|c|c
    ·unfold uc at c; omega
    ·rw [hc] at c; cases c
    ·rw [b] at c; cases c
    ·rw [a] at c; cases c
   | none =>
    obtain ⟨h1,_,h2,_⟩:=hn;have h1:dr v.zZm.zZ1 v.zZm.zZP=[]:=h1;have h2:ends v.zZm=true:=h2;unfold ends at h2;rw [Bool.and_eq_true] at h2;rw [h1,List.length_nil] at f;exact r h2.1 (by simpa using h2.2) (by unfold uc; omega)
 ·cases e:s2 (ab v) with
  | none=>rfl
  | some y =>
   obtain ⟨_,i,b,l,k,hn,en,n,_⟩:=s2_i e
   exfalso
   cases i with
   | some x =>
    have d:dr v.zZl.zZ1 v.zZl.zZP=x::l:=hn.1;obtain ⟨b,a⟩:=en (by simp);have b:v.Gateway.z0c=false:=b;have a:0<ql v.Gateway:=a;rw [d,List.length_cons] at g
    rcases o with c|c|c|c|⟨q,j,c⟩
    ·unfold uu at c; omega
    ·rw [hc] at c; cases c
    ·rw [b] at c; cases c
    ·unfold ql at a; rw [c] at a; exact absurd a (by simp)
    ·unfold ql at a; rw [j] at a;have a:0<q.zZQ.z0g.length:=a;omega
   | none =>
    obtain ⟨h1,_,h2,_⟩:=hn;have h1:dr v.zZl.zZ1 v.zZl.zZP=[]:=h1;have h2:ends v.zZl=true:=h2;unfold ends at h2;rw [Bool.and_eq_true] at h2;rw [h1,List.length_nil] at g;exact p h2.1 (by simpa using h2.2) (by unfold uu; omega)
theorem Fin_n {w:zZt} (h:Vw w) (d:Iv w 9900000000000):∃n v,zgl (some w)=some (n,some v)∧QW (NF (ab w)) (ab v)∧Wr v∧Al w v:=by
 obtain ⟨⟨n,o⟩,e,b⟩:=Fin1 d
 cases o with
 | none=>exact b.elim
 | some v =>
  obtain ⟨f,a,c,i⟩:=b;obtain ⟨g,ev,p⟩:=fL0 w fuel w 0 0 ⟨h,.inl rfl,rfl,rfl⟩ _ e;cases ev;exact ⟨n,v,e,by have:=p.2.1; rw [rest_n c a] at this; exact this,a,p.2.2⟩
theorem Do_n {X w:zZt} (h:Ps X w) (x:zZL) (p:x.Kind=1∨x.Kind=3):PC (fun r:Int × Int × Option zZt=>∃v,r.2.2=some v∧Ps X v) (zft (some w) x) :=
 z6 fun _ _=>zaZ (fun _=>zbl ⟨w,rfl,h⟩) fun _=>zaZ (fun _=>z6 fun l e=>z6 fun m j=>z6 fun o d=>z6 fun n g=>z6 fun f i=>by
  obtain ⟨a,b,c⟩:=fdC h.1 e j d g i
  exact zbl ⟨f,rfl,zHE h a (.inl b) c⟩) fun c=>zaZ (fun _=>z6 fun l e=>z6 fun m j=>z6 fun o d=>z6 fun n g=>z6 fun f i=>by
  obtain ⟨a,b,c⟩:=fdU h.1 e j d g i
  exact zbl ⟨f,rfl,zHE h a b c⟩) fun k=>by
  have c:x.Kind≠1:=by simpa using c
  have k:x.Kind≠3:=by simpa using k
  omega
end Go.Dm
end
section
namespace Go.Dm
def Gp (c:z0l) (g:zZk):Prop:=g.zZF=c∧(∃m,g.Queue=some ⟨⟨[],m⟩,false⟩∧1≤m∧m≤64)∧g.z0b=0∧g.zZ3=false∧g.zZU=false∧g.zZo=false
def Gi (g:zZk):Prop:=Vc g.zZF∧(∀ea,Ig g ea)∧Lv g
def Gn (r:Option zZk × Int):Prop:=∀g,r.1=some g→Gi g
theorem gn_n {e:Int}:Gn (none,e):=fun _ h=>by cases h
theorem nw0 {c:z0l} (hc:Vc c) (l:List zZu) (m:Int):∀(n:Nat) (v:zZk) (i:Int),Gp c v→PC Gn (zcw c l m n v i)
 | 0,_,_,_=>zIs
 | n+1,v,i,h=>by
  unfold zcw;refine zaZ (fun _=>z6 fun w _=>z6 fun x _=>zaZ (fun _=>z6 fun o _=>nw0 hc l m n _ o h) fun _=>zIs) fun _=>z6 fun d j=>z6 fun e k=>zbl fun g a=>?_;have a:(⟨v.Queue,v.z0h,v.zZF,v.zZ5,d,e,v.zZx,v.z0a,v.z0b,v.zZH,v.zZ3,v.z0c,v.zZU,v.zZW,v.zZX,v.zZo⟩:zZk)=g:=Option.some.inj a;subst a;obtain ⟨h1,⟨q,h2,t,r⟩,f,b,p,s⟩:=h
  have q0:∀g:zZk,g.Queue=some ⟨⟨[],q⟩,false⟩→ql g=0:=fun g a=>by unfold ql; rw [a]; rfl
  have u:=q0 ⟨v.Queue,v.z0h,v.zZF,v.zZ5,d,e,v.zZx,v.z0a,v.z0b,v.zZH,v.zZ3,v.z0c,v.zZU,v.zZW,v.zZX,v.zZo⟩ h2;refine ⟨by show Vc v.zZF; rw [h1]; exact hc,fun ea => .inr ⟨_,h2,r,by show ((([]:List zZs).length:Nat):Int)≤q; simp; omega,fun c=>by omega,fun _=>⟨f,b,p⟩,fun c=>absurd f c,fun c=>?_,fun c=>absurd (zJU j) c,fun _=>b⟩,.inr ⟨.inl (zv7 (.inl rfl) hc.1 hc.2.1 d j),.inr (zv7 (.inr rfl) hc.1 hc.2.1 e k)⟩⟩;have c:v.zZ3=true:=c;rw [b] at c; cases c
theorem nw1 {l:List zZu} {e:zZI} {c:z0l} {b a:Int} {o:Option zZC} (h1:b=0→1≤c.Chunk∧c.Chunk≤65536) (h2:a=0→∃m,o=some ⟨⟨[],m⟩,false⟩∧1≤m∧m≤64):PC Gn (zcx l e c b o a) :=
 zaZ (fun _=>zbl gn_n) fun f=>zaZ (fun _=>zbl gn_n) fun h=>zaZ (fun _=>zbl gn_n) fun j=>zaZ (fun _=>zbl gn_n) fun i=>z6 fun _ _=>zaZ (fun _=>zbl gn_n) fun _=>z6 fun _ _=>z6 fun _ _=>by
  have d:=h1 (by simpa using f);have g:=h2 (by simpa using h)
  have k:¬ c.Head<1:=by simpa using j
  have n:¬ 65536<c.Head:=by simpa using i
  exact nw0 ⟨by omega,by omega,d.1,d.2⟩ _ _ _ _ _ ⟨rfl,g,rfl,rfl,rfl,rfl⟩
theorem nw2 {l:List zZu} {e:zZI} {c:z0l} {d:Int} (h1:d=0→1≤c.Chunk∧c.Chunk≤65536):PC Gn (zcy l e c d):=by
 refine z6 fun g a=>?_
 have:g.2=0→∃q,g.1=some q∧∃m,q=⟨⟨[],m⟩,false⟩∧1≤m∧m≤64:=fun h=>by
  unfold zh3 at a
  split at a
  ·cases a; cases h
  rename_i j
  split at a
  ·cases a; cases h
  rename_i k
  cases a;exact ⟨_,rfl,_,rfl,by simpa using j,by simpa using k⟩
 refine zsG (fun c=>nw1 h1 fun h=>?_) fun q f=>nw1 h1 fun h=>?_
 ·obtain ⟨q,f,_⟩:=this h;rw [c] at f; cases f
 ·obtain ⟨n,b,m,i⟩:=this h;rw [f] at b;cases b;exact ⟨m,by rw [i.1],i.2⟩
theorem nw (e:zZI) (c:z0l) (l:List zZu):PC Gn (zdv e c l) :=
 z6 fun _ _=>zaZ (fun _=>zbl gn_n) fun _=>z6 fun d a=>by
  have h:d.2=0→1≤c.Chunk∧c.Chunk≤65536:=fun h=>by
   unfold zdu at a
   split at a
   ·cases a; cases h
   rename_i b
   split at a
   ·cases a; cases h
   rename_i f
   exact ⟨by simpa using b,by simpa using f⟩
  exact zsG (fun _=>nw2 h) fun _ _=>nw2 h
theorem new_v {s:zZV} {w:zZt} {e k:Int} (h:zdX s=some (some w,e)) (c:Iv w k):Vw w:=by
 unfold zdX at h;obtain ⟨⟨o,a⟩,b,h⟩:=bi h;have g:=nw _ _ _ _ b
 cases o with
 | none =>
  change (if (!(a==0))=true then some (none,a) else _)=_ at h
  split at h
  ·cases h
  ·split at h
   ·cases h
   ·split at h<;>cases h
 | some x =>
  obtain ⟨d,f,i⟩:=g x rfl
  change (if (!(a==0))=true then some (none,a) else _)=_ at h
  split at h
  ·cases h
  ·split at h
   ·cases h
   ·split at h
    ·cases h
    ·cases h;exact ⟨c.1,d,f _,i⟩
def Same (x y:z0v):Prop:=x.Client=y.Client∧x.Closed=y.Closed∧(x.Closed=true∨x.Upstream=y.Upstream∧x.ReadClient=y.ReadClient∧x.ReadUpstream=y.ReadUpstream)
theorem QW_r {v u:zZt} (y:Wr v) (r:Wr u) (hc:v.zZm.zZ1=u.zZm.zZ1) (hp:v.zZl.zZ1=u.zZl.zZ1) (h:QW (ab v) (ab u)):Same (rsO v) (rsO u):=by
 obtain ⟨M,v2,v3,v4,v5,D,B,F,v9,H,s⟩:=y;obtain ⟨I,q,G,L,N,z,C,u8,t,x,o⟩:=r;have m:∀g:zZk,tc g=0→g.zZx=[]:=fun g h=>List.length_eq_zero_iff.1 (by unfold tc at h; omega);have i:∀g:zZk,tu g=0→g.z0a=[]:=fun g h=>List.length_eq_zero_iff.1 (by unfold tu at h; omega)
 have k:(ab v).g.zZx=v.zZm.zZN:=by show v.zZm.zZN++v.Gateway.zZx=_; rw [m _ v2,List.append_nil]
 have f:(ab u).g.zZx=u.zZm.zZN:=by show u.zZm.zZN++u.Gateway.zZx=_; rw [m _ q,List.append_nil]
 have w:(ab v).g.z0a=v.zZl.zZN:=by show v.zZl.zZN++v.Gateway.z0a=_; rw [i _ v3,List.append_nil]
 have A:(ab u).g.z0a=u.zZl.zZN:=by show u.zZl.zZN++u.Gateway.z0a=_; rw [i _ G,List.append_nil]
 rcases h with h|⟨h1,h2,d⟩
 ·have E:v.zZm.zZN=u.zZm.zZN:=by rw [← k, ← f,h]
  have p:v.zZl.zZN=u.zZl.zZN:=by rw [← w, ← A,h]
  have n:(ab v).g.zZo=(ab u).g.zZo:=by rw [h]
  have e:(ab v).a=(ab u).a:=by rw [h]
  have c:(ab v).b=(ab u).b:=by rw [h]
  have j:=zaV D B;have J:=zaV z C;have l:=zaV F v9;have K:=zaV u8 t;have e:dr v.zZm.zZ1 v.zZm.zZP=dr u.zZm.zZ1 u.zZm.zZP:=e;have c:dr v.zZl.zZ1 v.zZl.zZP=dr u.zZl.zZ1 u.zZl.zZP:=c;rw [e] at j;rw [c] at l;rw [hc] at j;rw [hp] at l;exact ⟨E,n,.inr ⟨p,by show v.zZm.zZP=u.zZm.zZP; omega,by show v.zZl.zZP=u.zZl.zZP; omega⟩⟩
 ·have h1:v.Gateway.zZo=true:=h1;have h2:u.Gateway.zZo=true:=h2;have d:(ab v).g.zZx=(ab u).g.zZx:=d;exact ⟨by show v.zZm.zZN=u.zZm.zZN; rw [← k, ← f,d],by show v.Gateway.zZo=u.Gateway.zZo; rw [h1,h2],.inl h1⟩
end Go.Dm
end
section
namespace Go.Dm
variable {s:zZV} {w:zZt}
def By (l:List zZL):Prop:=∀x∈l,x.Kind=1∨x.Kind=3
theorem Dos_p {X:zZt}:∀(l:List zZL) (w u:zZt),By l→Dos l w u→Ps X w→Ps X u
 | [],w,u,_,d,h=>by rw [Dos_n d]; exact h
 | e::l,w,u,c,d,h=>by
  obtain ⟨a,b,v,g,d⟩:=Dos_i d;obtain ⟨i,ev,p⟩:=Do_n h e (c e (by simp)) _ g;cases ev;exact Dos_p l v u (fun x f=>c x (by simp [f])) d p
theorem run_d (l:List zZL) (g:l.length≤100000):∀(n:Nat) (i:Int) (w u:zZt),0≤i→i≤l.length→(l.length:Int)<i+n→Dos (l.drop i.toNat) w u →
  zkf l (l.length:Int) n (some w) i=(zgl (some u)).bind fun f=>(zlE f.2).bind fun j=>some (j.1,0)
 | 0,i,w,u,h0,h1,h2,_=>by omega
 | n+1,i,w,u,h0,h1,h2,d=>by
  unfold zkf
  by_cases h:i<l.length
  ·obtain ⟨x,m,c⟩:=zMm h0 h;rw [c] at d;obtain ⟨a,b,v,hd,d⟩:=Dos_i d
   have k:zi i 1=some (i+1):=by simp [zi,inI]; omega
   rw [if_pos (by simpa using h),m];show (zft (some w) x).bind _=_;rw [hd];show (zi i 1).bind _=_;rw [k];exact run_d l g n (i+1) v u (by omega) (by omega) (by omega) d
  ·have e:l.drop i.toNat=[]:=List.drop_eq_nil_of_le (by omega);rw [e] at d;rw [Dos_n d,if_neg (by simpa using h)]
def wE (s:zZV) (l:List zZL):zZV:=⟨s.Env,s.Caps,s.Rules,s.Client,s.Upstream,s.ClientEnds,s.UpstreamEnds,l⟩
theorem zJv (s:zZV) {l:List zZL} (b:l.length≤100000):zpV s l=some (wE s l):=by
 have f:zf 0 l.length 16=true:=by simp [zf]; omega
 unfold zpV;show ((if zf 0 l.length 16=true then some l else none).bind fun a=>some (wE s a))=_;rw [if_pos f]; rfl
theorem Run_e {e:Int} (h:zdX s=some (none,e)) (a:e≠0) (l:List zZL):∃r,zob (wE s l)=some (r,e):=by
 have h:zdX (wE s l)=some (none,e):=h;refine ⟨⟨[],[],0,0,⟨0,0⟩,false⟩,?_⟩;unfold zob;rw [h];show zih _ none e=_;unfold zih;rw [if_pos (by simpa using a)]
theorem Run_n (h:zdX s=some (some w,0)) (e:Iv w 1000000000000) {l:List zZL} (f:l.length≤100000) (j:By l):∃v,zob (wE s l)=some (rsO v,0)∧QW (NF (ab w)) (ab v)∧Wr v∧Al w v:=by
 have vw:=new_v h e;obtain ⟨u,d,a⟩:=Dos_t l w 1000000000000 e (by omega);obtain ⟨k,i,c⟩:=Dos_p l w u j d ⟨vw,.inl rfl,rfl,rfl⟩;obtain ⟨n,v,o,g,m,b⟩:=Fin_n k ⟨a.1,a.2.1,⟨Int.le_trans a.2.2.1 (by omega),Int.le_trans a.2.2.2 (by omega)⟩⟩;have h:zdX (wE s l)=some (some w,0):=h
 have p:1000000≤fuel:=by simp [fuel]
 refine ⟨v,?_,i.trans g,m,b.1.trans c.1,b.2.trans c.2⟩;unfold zob;rw [h];show zih (wE s l) (some w) 0=_;unfold zih;rw [if_neg (by simp)];show zkf l (l.length:Int) fuel (some w) 0=_;rw [run_d l f fuel 0 w u (by omega) (by omega) (by omega) d,o];rfl
theorem Agr_1 (h:zdX s=some (some w,0)) (e:Iv w 1000000000000) {l m:List zZL} (d:l.length≤100000) (x:By l) (a:m.length≤100000) (b:By m):zeK s l m=some (true,0):=by
 obtain ⟨v,z,r,A,f⟩:=Run_n h e d x;obtain ⟨u,i,o,p,a2⟩:=Run_n h e a b;obtain ⟨s1,s2,y⟩:=QW_r A p (f.1.trans a2.1.symm) (f.2.trans a2.2.symm) (r.symm.trans o);unfold zeK;rw [zJv s d];simp only [Option.bind_some];rw [z];simp only [Option.bind_some];rw [if_neg (by simp),zJv s a];simp only [Option.bind_some];rw [i];simp only [Option.bind_some];rw [if_neg (by simp),if_pos (by simpa using s1),s2]
 have j:∀t,((rsO v).Closed=true∨t=true)→zhr (rsO v) true t=some (true,0):=fun t g=>by
  unfold zhr;rw [if_pos rfl]
  by_cases c:(rsO v).Closed=true
  ·rw [if_pos c]
  ·rw [if_neg c,g.resolve_left c]
 show zjn (rsO v) (rsO u) ((rsO u).Closed==(rsO u).Closed)=_;rw [beq_self_eq_true];unfold zjn
 rcases y with c|⟨q,k,n⟩
 ·split
  ·split
   ·exact j _ (.inl c)
   ·exact j _ (.inl c)
  ·exact j _ (.inl c)
 ·rw [if_pos (by simpa using q),if_pos (by simpa using k)];exact j _ (.inr (by simpa using n))
theorem Agr_0 {e:Int} (h:zdX s=some (none,e)) (a:e≠0) {l m:List zZL} (c:l.length≤100000):zeK s l m=some (false,e):=by
 obtain ⟨r,b⟩:=Run_e h a l;unfold zeK;rw [zJv s c];simp only [Option.bind_some];rw [b];simp only [Option.bind_some];rw [if_pos (by simpa using a)]
theorem ev_l {k:Int} (m:1≤k) (g:k≤1048576):∀(n:Nat) (a b:Int) (l:List zZL),0≤a→0≤b→a+b<n→a+b+l.length≤6000→By l→∃e,zfe k n a b l=some (e,0)∧e.length≤6000∧By e
 | 0,a,b,l,h0,h1,h2,_,_=>by omega
 | n+1,a,b,l,h0,h1,h2,v,i=>by
  have o:∀x:Int,0≤x→x≤6000→zn1 x k=some (min x k,x-min x k):=fun x h h'=>by
   have:zbt x (min x k)=some (x-min x k):=by simp [zbt,inI]; omega
   unfold zn1; rw [this]; rfl
  have ft:∀(l:List zZL) (x:zZL),l.length≤6001→zf l.length ([x]:List zZL).length 16=true:=fun l x h=>by simp [zf]; omega
  have q:∀(l:List zZL) (x:zZL),By l→(x.Kind=1∨x.Kind=3)→By (l++[x]):=fun l x h s y t=>by
   rcases List.mem_append.1 t with c|c
   ·exact h y c
   ·have:=List.mem_singleton.1 c;subst this; exact s
  have u:zi a b=some (a+b):=by simp [zi,inI]; omega
  unfold zfe;rw [u];show ∃e,(if decide ((0:Int)<a+b)=true then _ else _)=some (e,0)∧_
  by_cases c:0<a+b
  ·rw [if_pos (by simpa using c),o a h0 (by omega)]
   have j:∀(f:Int) (l:List zZL),0≤f→f+b<n∨f+b≤n∧0<b→f+b+l.length≤6000→By l→∃e,zkJ (zfe k n) k f b l=some (e,0)∧e.length≤6000∧By e:=fun f l p w z r=>by
    unfold zkJ;rw [o b h1 (by omega)];show ∃e,(if decide ((0:Int)<min b k)=true then _ else _)=some (e,0)∧_
    by_cases d:0<min b k
    ·rw [if_pos (by simpa using d)];show ∃e,(if zf l.length ([(⟨3,min b k⟩:zZL)]:List zZL).length 16=true then _ else _)=some (e,0)∧_;rw [if_pos (ft l _ (by omega))];exact ev_l m g n f (b-min b k) (l++[⟨3,min b k⟩]) p (by omega) (by omega) (by rw [List.length_append]; simp; omega) (q l _ r (.inr rfl))
    ·rw [if_neg (by simpa using d)];exact ev_l m g n f (b-min b k) l p (by omega) (by omega) (by omega) r
   show ∃e,(if decide ((0:Int)<min a k)=true then _ else _)=some (e,0)∧_
   by_cases d:0<min a k
   ·rw [if_pos (by simpa using d)];show ∃e,(if zf l.length ([(⟨1,min a k⟩:zZL)]:List zZL).length 16=true then _ else _)=some (e,0)∧_;rw [if_pos (ft l _ (by omega))];exact j (a-min a k) (l++[⟨1,min a k⟩]) (by omega) (.inl (by omega)) (by rw [List.length_append]; simp; omega) (q l _ i (.inl rfl))
   ·rw [if_neg (by simpa using d)];exact j (a-min a k) l (by omega) (.inr (by omega)) (by omega) i
  ·rw [if_neg (by simpa using c)];exact ⟨l,rfl,by omega,i⟩
theorem zOI (h1:s.Client.length≤3000) (h2:s.Upstream.length≤3000) {k:Int} (b:1≤k) (a:k≤1048576):∃l,zlC s k=some (l,0)∧l.length≤6000∧By l:=by
 unfold zlC;rw [if_neg (by simpa using b),if_neg (by simpa using a),if_neg (by simp; omega),if_neg (by simp; omega)]
 exact ev_l b a fuel _ _ [] (by omega) (by omega) (by simp [fuel]; omega) (by simp; omega) fun x c=>by cases c
theorem zJw {l:List zZu} {e:zZI} {c:z0l} {d b:Int} {o:Option zZC} {g:zZk} {k:Int} (u:Rl l) (h0:stC e=0) (h1:d=if c.Chunk<1∨65536<c.Chunk then 1 else 0) (h2:b=if c.Queue<1∨64<c.Queue then 1 else 0)
  (h:zcx l e c d o b=some (some g,k)):gwC e c l=0:=by
 unfold zcx at h;unfold gwC;rw [if_neg (by simpa using h0)]
 split at h
 ·cases h
 rename_i s
 split at h
 ·cases h
 rename_i m
 split at h
 ·cases h
 rename_i r
 split at h
 ·cases h
 rename_i t
 have hc:¬ (c.Chunk<1∨65536<c.Chunk):=fun q=>s (by rw [if_pos q] at h1; subst h1; rfl);have j:¬ (c.Queue<1∨64<c.Queue):=fun q=>m (by rw [if_pos q] at h2; subst h2; rfl)
 have n:¬ c.Head<1:=by simpa using r
 have p:¬ 65536<c.Head:=by simpa using t
 rw [if_neg (by
  rintro (a|a|a|a|a|a)
  ·exact n a
  ·exact p a
  ·exact hc (.inl a)
  ·exact hc (.inr a)
  ·exact j (.inl a)
  ·exact j (.inr a))]
 obtain ⟨k,v,i,f⟩:=(inferInstance:T (zh5 l) _ _).ok u;rw [v] at h
 change (if (!(k.2==0))=true then some (none,k.2) else _)=_ at h
 split at h
 ·cases h
 ·rename_i z
  have z:k.2=0:=by simpa using z
  by_cases hp:zom l
  ·rw [if_pos hp, ← i hp,z]
  ·exact absurd (f hp) (by rw [z]; decide)
theorem New_0 {k:Int} (p:Bd s) (z:s.Client.length≤3000) (q:s.Upstream.length≤3000) (h:zdX s=some (some w,k)):zei s=some 0:=by
 have b:∃g e,zdv s.Env s.Caps s.Rules=some (some g,e):=by
  unfold zdX at h;obtain ⟨⟨o,e⟩,x,h⟩:=bi h
  cases o with
  | some g=>exact ⟨g,e,x⟩
  | none =>
   change (if (!(e==0))=true then some (none,e) else _)=_ at h
   split at h
   ·cases h
   ·split at h
    ·cases h
    ·split at h<;>cases h
 obtain ⟨g,e,b⟩:=b
 have y:gwC s.Env s.Caps s.Rules=0:=by
  obtain ⟨l,n,j,m,i⟩:=p;obtain ⟨k,B,t⟩:=(inferInstance:T (zkb s.Env) _ _).ok ⟨l,n,j,m⟩;unfold zdv at b;rw [B] at b
  change (if (!(k==0))=true then some (none,k) else _)=_ at b
  split at b
  ·cases b
  rename_i v
  have h0:stC s.Env=0:=by rw [← t]; simpa using v
  have key:∀f:Int,f=(if s.Caps.Chunk<1∨65536<s.Caps.Chunk then 1 else 0)→zcy s.Rules s.Env s.Caps f=some (some g,e)→gwC s.Env s.Caps s.Rules=0:=by
   intro f h1 h;unfold zcy zh3 at h
   by_cases d:s.Caps.Queue<1
   ·rw [if_pos (by simpa using d)] at h;exact zJw i h0 h1 (by rw [if_pos (.inl d)]) h
   ·rw [if_neg (by simpa using d)] at h
    by_cases c:64<s.Caps.Queue
    ·rw [if_pos (by simpa using c)] at h;exact zJw i h0 h1 (by rw [if_pos (.inr c)]) h
    ·rw [if_neg (by simpa using c)] at h;exact zJw i h0 h1 (by rw [if_neg (by rintro (a|a); exact d a; exact c a)]) h
  unfold zdu at b
  by_cases d:s.Caps.Chunk<1
  ·rw [if_pos (by simpa using d)] at b;exact key 1 (by rw [if_pos (.inl d)]) b
  ·rw [if_neg (by simpa using d)] at b
   by_cases c:65536<s.Caps.Chunk
   ·rw [if_pos (by simpa using c)] at b;exact key 1 (by rw [if_pos (.inr c)]) b
   ·rw [if_neg (by simpa using c)] at b;exact key 0 (by rw [if_neg (by rintro (a|a); exact d a; exact c a)]) b
 obtain ⟨l,n,j,m,i⟩:=p;obtain ⟨r,u,A⟩:=(inferInstance:T (zei s) _ _).ok ⟨l,n,j,m,i,z,q⟩;rw [u,A,y]
end Go.Dm
end
section
namespace Go.Dm
theorem zNg (x:zZV) (n:UInt8):zmL x n=some true:=by
 obtain ⟨s,B,h1,h2,F,K,i,p,J,j,f,a,C⟩:=(inferInstance:T (znL x) _ _).ok trivial;obtain ⟨⟨o,e⟩,d,b⟩:=(iNew s).ok ⟨⟨by omega,by omega,by omega,by omega,i,p⟩,by omega,j,f,a⟩;have r:Bd s:=⟨by omega,by omega,i,p,by omega,j⟩
 have H:(n.toNat:Int)≤255:=by have:=n.toNat_lt; omega
 obtain ⟨l,E,I,v⟩:=zOI f a (k:=1) (by omega) (by omega);obtain ⟨m,y,G,t⟩:=zOI f a (k:=1+(n.toNat:Int)) (by omega) (by omega)
 have D:zi 1 (n.toNat:Int)=some (1+(n.toNat:Int)):=by simp [zi,inI]; omega
 have A:By []:=fun x u=>by cases u
 have go:∀c,zei s=some c→zmL x n=(zeK s l m).bind fun h=>(zeK s m []).bind fun g=>if (!(c==0)) then if (!h.1) then if (!g.1) then if (!(h.2==0)) then some (!(g.2==0)) else some false else some false else some false else if ((0:Int)==0) then if ((0:Int)==0) then if (h.2==0) then if (g.2==0) then if h.1 then some g.1 else some false else some false else some false else some false else some false:=fun c hc=>by
  unfold zmL zDV
  change Option.bind (some true) _=_
  show ((znL x).bind _).bind _=_;rw [B];show ((zei s).bind _).bind _=_;rw [hc];show (zlC s 1).bind _=_;rw [E];show (zi 1 (n.toNat:Int)).bind _=_;rw [D];show (zlC s (1+(n.toNat:Int))).bind _=_;rw [y]; rfl
 cases o with
 | none =>
  have b:e≠0:=b;rw [go e (New_e r f a d b),Agr_0 d b (by omega)];show (zeK s m []).bind _=_;rw [Agr_0 d b (by omega)]
  have z:(!(e==0))=true:=by simpa using b
  show (if (!(e==0))=true then if (!false)=true then if (!false)=true then if (!(e==0))=true then some (!(e==0)) else some false else some false else some false else _)=_;rw [z]; rfl
 | some w =>
  obtain ⟨h0,q,_⟩:=b;subst h0;rw [go 0 (New_0 r f a d),Agr_1 d q (by omega) v (by omega) t];show (zeK s m []).bind _=_;rw [Agr_1 d q (by omega) t (by simp) A]; rfl
end Go.Dm
end
section
namespace Go.Rk
open Go.RowKit Go.Dm Go.Dk
variable {τ:Nat→Type}
variable {P:Program}
def zkm:XV τ→Bool
 | .gv _ _=>true
 | _=>false
section
variable (X:Cx τ) (h:Fz) (ν:Vn τ) (a:Act)
def zj0 (t:Nat) (x:XV τ):Prop:=∃v,XOk X.P X.G h ν x v∧(Nat.blt t gh=true→zkm x=false→a.tmps[t]? = some v)∧(gb≤t→v=ptr (t-gb) 0)∧(gh≤t→t<20000→v=X.fx (t-gh))
def zeL (r:List Nat) (E:zad τ):Prop:=∀t∈r, ∀x,asc E t=some x→zj0 X h ν a t x
end
structure TyOk (X:Cx τ):Prop where
 el:∀p∈X.ty, ∃i z,X.P.info? p.1=some i∧i.zero=some z∧i.size=(ets X.G p.2).length∧z.cells.size=i.size∧0<i.size
 eq:∀t n,asc X.ty t=some (.st n)→(X.G.fs n).all zhI=true→∀(p q:DP τ (X.G.fs n)) (h:Fz) (xs ys:List Value),RpL X.P X.G h (X.G.fs n) p xs→RpL X.P X.G h (X.G.fs n) q ys →
  X.P.eqGuardType X.P.depth t=false∧∀w,(Op.equalIn 10000 t (.agg ⟨xs⟩) (.agg ⟨ys⟩)).run X.P w = .ok (X.G.eq n (X.G.ctor n p) (X.G.ctor n q)) w
theorem znE {α:Type}:∀{l:List (Nat × α)} {t:Nat} {v:α},asc l t=some v→(t,v)∈l
 | [],_,_,h=>by cases h
 | (k,u)::l,t,v,h=>by
  simp only [zdO,zcp] at h
  by_cases e:Nat.beq k t=true
  ·simp only [e,cond_true,Option.some.injEq] at h
   have:k=t:=by simpa using e
   subst this; subst h;exact List.mem_cons_self ..
  ·simp only [e] at h;exact List.mem_cons_of_mem _ (znE h)
theorem zgV {α:Type}:∀(l:List α) (n:Nat),ziW l n=l[n]?
 | [],_=>by simp [ziW]
 | _::_,0=>by simp [ziW]
 | _::l,n+1=>by simp [ziW,zgV l n]
theorem zef (a:Act) (hd:a.defers=[]):∃E,Fits a.tmps.size E a∧∀t,Dk.look E t=a.tmps[t]? := by
 have key:∀(l:List Value) (k t:Nat),Dk.look (params k l) t=if k≤t then l[t-k]? else none:=by
  intro l
  induction l with
  | nil=>intro k t; simp [params,Dk.look]
  | cons v l c =>
   intro k t;simp only [params,Dk.look]
   by_cases e:k=t
   ·subst e; simp
   ·rw [zcL.2 e,cond_false,c]
    by_cases h:k≤t
    ·rw [if_pos (by omega),if_pos h,show t-k=(t-(k+1))+1 by omega,List.getElem?_cons_succ]
    ·rw [if_neg (by omega),if_neg h]
 have b:∀t,Dk.look (params 0 a.tmps.toList) t=a.tmps[t]? := by intro t; rw [key]; simp
 exact ⟨_,⟨hd,rfl,fun t v h=>by rw [← b]; exact h⟩,b⟩
section
variable {X:Cx τ} {h:Fz} {ν:Vn τ} {a:Act} {E:zad τ} {w:World}
theorem zeL.op {o:Op} (d:zeL X h ν a (rdO o) E) {x:Operand} (b:x∈o.operands.toList):zeL X h ν a (zxU x) E :=
 fun t c=>d t (List.mem_flatMap.2 ⟨x,b,c⟩)
theorem zNA {v:Value} {c:CV τ} (e:cvV v=some c):zdg X.P X.G h ν c v:=by
 unfold cvV at e
 split at e
 ·cases e; rfl
 ·cases e; rfl
 ·rename_i n
  by_cases hn:Nat.blt n 256=true
  ·rw [hn] at e; cases e
   have:n<256:=by simpa using hn
   show _=Value.int .u8 _;simp [UInt8.toNat_ofNat',Nat.mod_eq_of_lt this]
  ·simp only [Bool.not_eq_true] at hn; rw [hn] at e; cases e
 ·rename_i n
  by_cases hn:Nat.blt n 65536=true
  ·rw [hn] at e; cases e
   have:n<65536:=by simpa using hn
   show _=Value.int .u16 _;simp [UInt16.toNat_ofNat',Nat.mod_eq_of_lt this]
  ·simp only [Bool.not_eq_true] at hn; rw [hn] at e; cases e
 ·cases e; rfl
 ·cases e; rfl
 ·cases e; rfl
 ·cases e; rfl
 ·cases e; rfl
 ·cases e
theorem zzj:∀{vs:List Value} {cs:List (CV τ)},cvVs vs=some cs→CVs X.P X.G h ν cs vs
 | [],cs,e=>by cases e; rfl
 | v::vs,cs,e=>by
  unfold cvVs at e
  split at e
  ·rename_i c hc
   split at e
   ·rename_i b a
    cases e;exact ⟨v,vs,rfl,zNA hc,zzj a⟩
   ·cases e
  ·cases e
theorem zol {f:Env} (k:∀t,Dk.look f t=a.tmps[t]?) {x:Operand} {b:XV τ} (i:zeL X h ν a (zxU x) E) (e:evX E x=some b) (j:zkm b=false):∃v,evl f x=some v∧XOk X.P X.G h ν b v:=by
 unfold evX at e
 split at e
 ·rename_i t
  by_cases d:Nat.blt t gh=true
  ·rw [d] at e;obtain ⟨v,h1,h2,_⟩:=i t (by simp [zxU,d]) b e;exact ⟨v,(k t).trans (h2 d j),h1⟩
  ·simp only [Bool.not_eq_true] at d; rw [d] at e; cases e
 ·rename_i v
  split at e
  ·rename_i c hc
   cases e;exact ⟨v,rfl,zNA hc⟩
  ·cases e
 ·cases e;exact ⟨_,rfl,rfl⟩
 ·rename_i g
  obtain ⟨v,h1,_,h2,_⟩:=i (gb+g) (List.mem_singleton.2 rfl) b e;rw [h2 (Nat.le_add_right ..),Nat.add_sub_cancel_left] at h1;exact ⟨_,rfl,h1⟩
theorem zrM (hd:a.defers=[]) {x:Operand} {b:XV τ} (f:zeL X h ν a (zxU x) E) (e:evX E x=some b):XOk X.P X.G h ν b (a.eval x):=by
 cases hg:zkm b with
 | true =>
  cases b with
  | gv t y=>trivial
  | _=>cases hg
 | false =>
  obtain ⟨g,c,d⟩:=zef a hd;obtain ⟨v,h1,h2⟩:=zol d f e hg;rw [c.ev h1];exact h2
theorem zB {b:Env} (d:∀t,Dk.look b t=a.tmps[t]?) {x:Operand} {c:CV τ} (f:zeL X h ν a (zxU x) E) (e:evC E x=some c):∃v,evl b x=some v∧zdg X.P X.G h ν c v:=by
 unfold evC at e
 split at e
 ·rename_i g hc
  cases e;exact zol d f hc rfl
 ·cases e
theorem CVs.len:∀{cs:List (CV τ)} {vs:List Value},CVs X.P X.G h ν cs vs→vs.length=cs.length
 | [],vs,e=>by cases e; rfl
 | _::_,_,⟨v,us,rfl,_,h2⟩=>by simp [CVs.len h2]
theorem CVs.get:∀{cs:List (CV τ)} {vs:List Value} {i:Nat} {c:CV τ},CVs X.P X.G h ν cs vs→cs[i]? = some c→∃v,vs[i]? = some v∧zdg X.P X.G h ν c v
 | [],_,_,_,_,hc=>by simp at hc
 | _::_,_,0,_,⟨v,us,rfl,h1,_⟩,hc=>by simp at hc; subst hc; exact ⟨v,by simp,h1⟩
 | _::_,_,i+1,_,⟨v,us,rfl,_,h2⟩,hc=>by
  simp at hc;obtain ⟨u,b,a⟩:=CVs.get h2 hc;exact ⟨u,by simpa using b,a⟩
theorem TVs.get:∀{cs:List (Bool × List (CV τ))} {vs:List Value} {i:Nat} {b:Bool} {l:List (CV τ)},TVs X.P X.G h ν cs vs→cs[i]? = some (b,l) →
  ∃v,vs[i]? = some v∧((b=true∧∃a,v = .agg ⟨a⟩∧CVs X.P X.G h ν l a)∨(b=false∧∃c,l=[c]∧zdg X.P X.G h ν c v))
 | [],_,_,_,_,_,hc=>by simp at hc
 | (false,[c])::_,_,0,_,_,⟨v,us,rfl,h1,_⟩,hc=>by simp at hc; obtain ⟨rfl,rfl⟩:=hc; exact ⟨v,by simp,.inr ⟨rfl,c,rfl,h1⟩⟩
 | (true,l)::_,_,0,_,_,⟨a,us,rfl,h1,_⟩,hc=>by simp at hc; obtain ⟨rfl,rfl⟩:=hc; exact ⟨.agg ⟨a⟩,by simp,.inl ⟨rfl,a,rfl,h1⟩⟩
 | (false,[_])::_,_,i+1,_,_,⟨v,us,rfl,_,h2⟩,hc=>by
  simp at hc;obtain ⟨u,f,d⟩:=TVs.get h2 hc;exact ⟨u,by simpa using f,d⟩
 | (true,_)::_,_,i+1,_,_,⟨a,us,rfl,_,h2⟩,hc=>by
  simp at hc;obtain ⟨u,f,d⟩:=TVs.get h2 hc;exact ⟨u,by simpa using f,d⟩
 | (false,[])::_,_,_,_,_,e,_=>e.elim
 | (false,_::_::_)::_,_,_,_,_,e,_=>e.elim
theorem CVs.cut:∀{n o:Nat} {cs l:List (CV τ)} {vs:List Value},CVs X.P X.G h ν cs vs→cutL cs o n=some l→CVs X.P X.G h ν l ((vs.drop o).take n)∧o+n≤vs.length+(if n=0 then o else 0)
 | 0,o,cs,l,vs,b,e=>by cases e; exact ⟨by simp [CVs],by simp⟩
 | n + 1,o,cs,l,vs,b,e=>by
  unfold cutL at e
  split at e
  ·rename_i c hc
   split at e
   ·rename_i r d
    cases e;rw [zgV] at hc;obtain ⟨v,h1,h2⟩:=b.get hc;obtain ⟨g,f⟩:=CVs.cut b d;have a:o<vs.length:=(List.getElem?_eq_some_iff.1 h1).1;refine ⟨⟨v,_,?_,h2,g⟩,?_⟩
    ·rw [List.drop_eq_getElem_cons a,List.take_succ_cons,(List.getElem?_eq_some_iff.1 h1).2]
    ·split at f
     ·omega
     ·rw [if_neg (by omega)]; omega
   ·cases e
  ·cases e
theorem zgp {t:TypeId} {n:Nat} (e:szO P t=some n):znV P t=some n:=by
 unfold szO at e;unfold znV
 split at e
 ·rename_i i hi; rw [hi]; exact e
 ·cases e
theorem zKc {t i f ft:Nat} (e:zHP P t i=some (f,ft)):∃fs a,P.underlying t=some (.struct fs)∧fs[i]? = some a∧a.offset=f∧a.type=ft∧∃n,znV P ft=some (n+1):=by
 unfold zHP at e
 split at e
 ·rename_i fs c
  split at e
  ·rename_i a hn
   split at e
   ·rename_i n b
    cases e;rw [zgV] at hn;exact ⟨⟨fs⟩,a,c,by simpa using hn,rfl,rfl,n,zgp b⟩
   ·cases e
  ·cases e
 ·cases e
theorem zzk:∀{o:Nat} {cs b a:List (CV τ)} {us vs:List Value},CVs X.P X.G h ν cs us→CVs X.P X.G h ν b vs→zwT cs o b=some a →
  o+vs.length≤us.length∧CVs X.P X.G h ν a (us.take o++vs++us.drop (o+vs.length))
 | 0,cs,b,a,us,vs,hc,d,e=>by
  unfold zwT at e;have:=go hc d e;simpa using this
 | o+1,c::cs,b,a,_,vs,⟨u,us,rfl,h1,h2⟩,d,e=>by
  unfold zwT at e
  split at e
  ·rename_i r g
   cases e;obtain ⟨i,f⟩:=zzk h2 d g;refine ⟨by simp; omega,u,_,?_,h1,f⟩;rw [show o+1+vs.length=(o+vs.length)+1 by omega];simp
  ·cases e
 | o+1,[],b,a,us,vs,hc,d,e=>by simp [zwT] at e
where
 go:∀{cs b a:List (CV τ)} {us vs:List Value},CVs X.P X.G h ν cs us→CVs X.P X.G h ν b vs→zwT.go cs b=some a→vs.length≤us.length∧CVs X.P X.G h ν a (vs++us.drop vs.length)
 | cs,[],a,us,vs,hc,d,e=>by
  obtain rfl:vs=[]:=d;simp [zwT.go] at e;subst e;exact ⟨by simp,by simpa using hc⟩
 | c::cs,w::b,a,_,_,⟨u,us,rfl,h1,h2⟩,⟨v,vs,rfl,i,f⟩,e=>by
  simp only [zwT.go] at e
  split at e
  ·rename_i r g
   cases e;obtain ⟨k,j⟩:=go h2 f g;exact ⟨by simp; omega,v,_,by simp,i,j⟩
  ·cases e
 | [],w::b,a,us,vs,hc,d,e=>by simp [zwT.go] at e
theorem zxJ {t:TypeId} {b:Bool} (e:isA P t=some b):zGe P t=some b:=by
 unfold isA at e;unfold zGe
 split at e<;>first|(cases e; done)|(rename_i a; rw [a]; simpa using e)
end
end Go.Rk
end
section
namespace Go.Rk
open Go.RowKit Go.Dm Go.Dk
variable {τ:Nat→Type}
variable {v:Value}
section
variable {X:Cx τ} {h:Fz} {ν:Vn τ} {a:Act} {E:zad τ} {Ea:Env} {N:Nat} {w:World} {x y:Operand} {dst:Option Nat} {t t' ty:Nat} {p:String} {af:Array Edge} {gd:Option (Nat × Bool)}
theorem lok0:∀{d:Nat} {t:Ty} {c:CV τ} {x:t.den τ} {v:Value} {m:List Nat},zhI t=true→lok X.G [] d t c=some (x,m)→zdg X.P X.G h ν c v→Rp X.P X.G h t x v:=by
 intro d t c x v m a e b
 cases d with
 | zero=>cases e
 | succ d =>
  unfold lok at e
  cases t<;>first|(cases a; done)|(dsimp only at e; split at e<;>first|(cases e; done)|(cases e; cases b; constructor))
theorem zMS {d:Nat}:∀{ts:List Ty} {cs:List (CV τ)} {q:DP τ ts} {vs:List Value} {m:List Nat},ts.all zhI=true→zxS (lok X.G [] d) ts cs=some (q,m)→CVs X.P X.G h ν cs vs→RpL X.P X.G h ts q vs
 | [],[],q,vs,_,_,e,g=>by cases e; cases g; exact .nil
 | t::ts,c::cs,q,_,_,a,e,⟨v,us,rfl,h1,h2⟩=>by
  simp only [List.all_cons,Bool.and_eq_true] at a;unfold zxS at e
  split at e
  ·rename_i x m f
   split at e
   ·rename_i i j b
    cases e;refine .cons t ts _ v us ?_ ?_
    ·rw [DP.hd_mk]; exact lok0 a.1 f h1
    ·rw [DP.tl_mk]; exact zMS a.2 b h2
   ·cases e
  ·cases e
 | [],_::_,_,_,_,_,e,_=>by cases e
 | _::_,[],_,_,_,_,e,_=>by cases e
theorem zAa {o:Option Bool} {v:XV τ} (e:obX o=some v):∃b,o=some b∧v = .c (.b b):=by
 cases o with
 | none=>cases e
 | some b=>cases e; exact ⟨b,rfl,rfl⟩
theorem zDY {o:Option Bool} {v:XV τ} (e:okX o=some v):∃b,o=some b∧v = .c (.k b):=by
 cases o with
 | none=>cases e
 | some b=>cases e; exact ⟨b,rfl,rfl⟩
theorem zMT {c:CV τ} (e:adC c=true) (hc:zdg X.P X.G h ν c v):∃ad,v = .pointer (some ad):=by
 cases c with
 | ea t z o=>obtain ⟨b,k,vs,rfl,_⟩:=hc; exact ⟨_,rfl⟩
 | oe i k m t z o=>obtain ⟨b,d,n,c,q,xs,u,_,_,_,rfl⟩:=hc; exact ⟨_,rfl⟩
 | _=>cases e
theorem zGu {c:CV τ} {b:Bool} (e:zOK c=some b) (hc:zdg X.P X.G h ν c v):v = .bool b:=by
 cases c with
 | b x=>cases e; exact hc
 | k x=>cases e; exact hc
 | _=>cases e
theorem zPA (I:TyOk X) (d:Fits N Ea a) {o:BinOp} {A B v:XV τ} {l k:Value} (c:evl Ea x=some l) (f:evl Ea y=some k) (j:XOk X.P X.G h ν A l) (i:XOk X.P X.G h ν B k)
  (e:binX X o t' A B=some v):∃u,(∀w,(execOp a.eval ⟨dst,.binOp o t' x y ty,t,p,af,gd⟩).run X.P w = .ok (.value u) w)∧XOk X.P X.G h ν v u:=by
 unfold binX at e
 split at e
 ·obtain rfl:l=_:=j;obtain rfl:k=_:=i;obtain ⟨b,h1,rfl⟩:=zAa e
  cases o<;>first|(cases h1; done)|skip
  all_goals cases h1
  ·exact ⟨_,fun w=>ex_eql d c f,rfl⟩
  ·exact ⟨_,fun w=>zNN d c f,rfl⟩
  ·exact ⟨_,fun w=>ex_lss d c f,rfl⟩
  ·exact ⟨_,fun w=>ex_leq d c f,rfl⟩
  ·exact ⟨_,fun w=>ex_gtr d c f,rfl⟩
  ·exact ⟨_,fun w=>ex_geq d c f,rfl⟩
 ·obtain rfl:l=_:=j;obtain rfl:k=_:=i
  split at e
  ·cases e; exact ⟨_,fun w=>zNU d c f,rfl⟩
  ·cases e; exact ⟨_,fun w=>zNV d c f,rfl⟩
  ·obtain ⟨b,h1,rfl⟩:=zAa e
   cases o<;>first|(cases h1; done)|skip
   all_goals cases h1
   ·exact ⟨_,fun w=>zNO d c f,rfl⟩
   ·exact ⟨_,fun w=>zNP d c f,rfl⟩
   ·exact ⟨_,fun w=>zNQ d c f,rfl⟩
   ·exact ⟨_,fun w=>zNR d c f,rfl⟩
   ·exact ⟨_,fun w=>zNS d c f,rfl⟩
   ·exact ⟨_,fun w=>zNT d c f,rfl⟩
 ·obtain rfl:l=_:=j;obtain rfl:k=_:=i
  split at e
  ·cases e; exact ⟨_,fun w=>zOd d c f,rfl⟩
  ·cases e
   rename_i m n _
   refine ⟨_,fun w=>zNN d c f,?_⟩;show Value.bool _ = .bool _
   have:((m.toNat:Int)==(n.toNat:Int))=(m==n):=by
    rw [Bool.eq_iff_iff];simp only [beq_iff_eq];exact ⟨fun e=>UInt16.toNat_inj.1 (by omega),fun e=>by rw [e]⟩
   rw [this]
  ·cases e
 ·obtain rfl:l=_:=j;obtain rfl:k=_:=i;obtain ⟨b,h1,rfl⟩:=zAa e
  cases o<;>first|(cases h1; done)|skip
  all_goals cases h1
  ·exact ⟨_,fun w=>zNY d c f,rfl⟩
  ·exact ⟨_,fun w=>zNZ d c f,rfl⟩
  ·exact ⟨_,fun w=>zN2 d c f,rfl⟩
  ·exact ⟨_,fun w=>zN3 d c f,rfl⟩
  ·exact ⟨_,fun w=>zN4 d c f,rfl⟩
  ·exact ⟨_,fun w=>zN5 d c f,rfl⟩
 ·obtain rfl:l=_:=j;obtain rfl:k=_:=i
  split at e
  ·rename_i g
   obtain ⟨b,h1,rfl⟩:=zDY e
   cases o<;>first|(cases h1; done)|skip
   all_goals cases h1
   ·exact ⟨_,fun w=>zC3 g d c f,rfl⟩
   ·exact ⟨_,fun w=>zC4 g d c f,rfl⟩
  ·cases e
 ·obtain rfl:k=_:=i
  split at e
  ·rename_i g
   cases s:adC (τ:=τ) ‹_› with
   | false=>rw [s] at e; cases e
   | true =>
    rw [s] at e;obtain ⟨ad,rfl⟩:=zMT s j;obtain ⟨b,h1,rfl⟩:=zDY e
    cases o<;>first|(cases h1; done)|skip
    all_goals cases h1
    ·exact ⟨_,fun w=>zC1 g d c f,rfl⟩
    ·exact ⟨_,fun w=>zC2 g d c f,rfl⟩
  ·cases e
 ·split at e
  ·rename_i D
   split at e
   ·rename_i C
    split at e
    ·rename_i g
     obtain rfl:=zGu D j;obtain rfl:=zGu C i;obtain ⟨b,h1,rfl⟩:=zAa e
     cases o<;>first|(cases h1; done)|skip
     all_goals cases h1
     ·exact ⟨_,fun w=>zNW g d c f,rfl⟩
     ·exact ⟨_,fun w=>zNX g d c f,rfl⟩
    ·cases e
   ·cases e
  ·cases e
 ·split at e
  ·rename_i n hn
   cases r:(X.G.fs n).all zhI with
   | false=>rw [r] at e; cases e
   | true =>
    rw [r] at e;dsimp only [cond_true] at e
    split at e
    ·rename_i q F
     split at e
     ·rename_i H z
      obtain ⟨xs,rfl,s⟩:=j;obtain ⟨ys,rfl,D⟩:=i;obtain ⟨h1,h2⟩:=I.eq t' n hn r q H h xs ys (zMS r F s) (zMS r z D);obtain ⟨b,E,rfl⟩:=zAa e
      cases o<;>first|(cases E; done)|skip
      all_goals cases E
      ·exact ⟨_,fun w=>zN0 h1 h2 d c f,rfl⟩
      ·exact ⟨_,fun w=>zN1 h1 h2 d c f,rfl⟩
     ·cases e
    ·cases e
  ·cases e
 ·cases e
theorem zPB {o:BinOp} {A B v:XV τ} (e:binX X o t A B=some v):zkm A=false∧zkm B=false:=by
 unfold binX at e
 split at e<;>first|exact ⟨rfl,rfl⟩|cases e
theorem zMU (j:Fits N Ea a) {c:CV τ} {v:XV τ} {g:Value} (i:evl Ea x=some g) (m:zdg X.P X.G h ν c g) {s:Nat} (C:h.on w)
  (e:zON X.P s t' c=some v):∃u,(execOp a.eval ⟨dst,.convert s t' x,t,p,af,gd⟩).run X.P w = .ok (.value u) w∧XOk X.P X.G h ν v u:=by
 unfold zON at e
 split at e
 ·obtain rfl:g=_:=m
  split at e
  ·rename_i hd
   split at e
   ·rename_i d
    cases e;exact ⟨_,zxM hd d (zOb _) j i,rfl⟩
   ·cases e
  ·cases e
 ·obtain rfl:g=_:=m
  split at e
  ·rename_i hd
   split at e
   ·rename_i d
    cases e;exact ⟨_,zxM hd d (zQe _) j i,rfl⟩
   ·cases e
  ·cases e
 ·obtain rfl:g=_:=m
  split at e
  ·rename_i hd
   split at e
   ·rename_i d
    cases e;exact ⟨_,zLm hd d j i,rfl⟩
   ·cases e
  ·cases e
 ·obtain rfl:g=_:=m
  split at e
  ·rename_i hd
   split at e
   ·rename_i d
    cases e;exact ⟨_,zLn hd d j i,rfl⟩
   ·cases e
  ·cases e
 ·split at e
  ·rename_i hd
   split at e
   ·rename_i E d
    split at e
    ·rename_i A
     cases e;obtain ⟨ad,k,vs,n,f,hc⟩:=slU8 m;subst n;exact ⟨_,zz7 (en:=fun b=>[zcs b]) (fun _=>rfl) hd d A (f.sees C) j i,rfl⟩
    ·cases e
   ·cases e
  ·cases e
 ·cases e
where
 slU8 {l:List UInt8} {v:Value} (z:Rp X.P X.G h (.sl .u8) l v):∃ad k vs,v = .slice ad l.length k∧zqs h ad (cells (fun b=>[zcs b]) l)∧vs=():=by
  cases z with
  | sl e xs ad c vs hc d o =>
   refine ⟨ad,c,(),rfl,?_,rfl⟩
   suffices vs=cells (fun b=>[zcs b]) l by rw [← this]; exact d
   clear d hc
   induction l generalizing vs with
   | nil=>cases o; rfl
   | cons b l r =>
    cases o with
    | cons _ _ _ us D h1 h2 =>
     have y:=r _ h2
     cases h1 with
     | cons _ _ _ v vs B q =>
      cases q;cases B;subst y;rfl
theorem zdg.one {c:CV τ} (a:zdg X.P X.G h ν c v):v.oneCell'=true∧v.cells = #[v]:=by
 cases c with
 | sl e xs=>cases a; exact ⟨rfl,rfl⟩
 | os i=>obtain ⟨ad,n,c,q,_,rfl⟩:=a; exact ⟨rfl,rfl⟩
 | pt i o=>obtain ⟨u,q,_,rfl,_⟩:=a; cases u<;>exact ⟨rfl,rfl⟩
 | ea t z o=>obtain ⟨b,k,vs,rfl,_⟩:=a; exact ⟨rfl,rfl⟩
 | oe i k m t z o=>obtain ⟨b,d,n,c,q,xs,j,_,_,_,rfl⟩:=a; exact ⟨rfl,rfl⟩
 | mf f=>cases a; exact ⟨rfl,rfl⟩
 | mv f i=>obtain ⟨u,q,_,rfl⟩:=a; exact ⟨rfl,rfl⟩
 | mp i=>obtain ⟨b,q,_,rfl⟩:=a; exact ⟨rfl,rfl⟩
 | fm m=>cases a; exact ⟨rfl,rfl⟩
 | cf i=>obtain ⟨f,us,vs,q,_,rfl⟩:=a; exact ⟨rfl,rfl⟩
 | ep n x =>
  cases a with
  | pn0=>exact ⟨rfl,rfl⟩
  | pn1 _ x v g=>cases g; exact ⟨rfl,rfl⟩
 | bad=>exact a.elim
 | _=>cases a; exact ⟨rfl,rfl⟩
theorem CVs.one:∀{cs:List (CV τ)} {vs:List Value},CVs X.P X.G h ν cs vs→∀v∈vs,v.oneCell'=true
 | [],vs,e,v,a=>by cases e; cases a
 | c::cs,_,⟨u,us,rfl,h1,h2⟩,v,a=>by
  rcases List.mem_cons.1 a with rfl|a
  ·exact h1.one.1
  ·exact CVs.one h2 v a
theorem ztJ {v:XV τ} {cs:List (CV τ)} {u:Value} (e:ztk v=some cs) (a:XOk X.P X.G h ν v u):∃us,u.cells=⟨us⟩∧CVs X.P X.G h ν cs us∧zkm v=false:=by
 unfold ztk at e
 split at e
 ·rename_i c
  cases e;have a:zdg X.P X.G h ν c u:=a;exact ⟨[u],a.one.2,⟨u,[],rfl,a,rfl⟩,rfl⟩
 ·rename_i l
  cases e;obtain ⟨vs,rfl,hc⟩:=a;exact ⟨vs,rfl,hc,rfl⟩
 ·cases e
theorem zsH:∀(vs us:List Value) (o k:Nat),o+k+vs.length≤us.length→((vs.zipIdx k).foldl (fun cs (q:Value × Nat)=>cs.setIfInBounds (o+q.2) q.1) us.toArray)=(us.take (o+k)++vs++us.drop (o+k+vs.length)).toArray
 | [],us,o,k,_=>by simp
 | v::vs,us,o,k,b=>by
  simp only [List.zipIdx_cons,List.foldl_cons,List.length_cons] at b ⊢
  have h1:us.toArray.setIfInBounds (o+k) v=(us.set (o+k) v).toArray:=by simp
  rw [h1,zsH vs (us.set (o+k) v) o (k+1) (by simp; omega)]
  have a:(us.take (o+k)).length=o+k:=by rw [List.length_take]; omega
  have h2:us.set (o+k) v=(us.take (o+k)++[v])++us.drop (o+k+1):=by rw [List.set_eq_take_append_cons_drop,if_pos (by omega)]; simp
  have c:(us.take (o+k)++[v]).length=o+(k+1):=by simp [a]; omega
  rw [h2,List.take_append_of_le_length (by omega),List.take_of_length_le (by omega),List.drop_append,List.drop_eq_nil_of_le (by omega),c,List.drop_drop];simp only [List.append_assoc,List.nil_append,List.cons_append];rw [show o+k+1+(o+(k+1)+vs.length-(o+(k+1)))=o+k+(vs.length+1) by omega]
theorem zCW {f:Nat→Option (Nat × Nat)} (hd:a.defers=[]):∀{ps:List (Nat × Operand)} {cs c:List (CV τ)} {us:List Value},zBf f E ps cs=some c→(∀q∈ps,zeL X h ν a (zxU q.2) E)→CVs X.P X.G h ν cs us →
  ∃b,Instr.fill f us.toArray (ps.map fun q=>(q.1,a.eval q.2))=some b.toArray∧CVs X.P X.G h ν c b
 | [],cs,c,us,e,_,hc=>by cases e; exact ⟨us,rfl,hc⟩
 | (i,x)::ps,cs,c,us,e,m,hc=>by
  unfold zBf at e
  split at e
  ·rename_i o s d
   split at e
   ·rename_i v u
    split at e
    ·rename_i vs k
     cases j:Nat.beq vs.length s with
     | false=>rw [j] at e; cases e
     | true =>
      rw [j] at e;dsimp only [cond_true] at e
      split at e
      ·rename_i w hp
       obtain ⟨g,h1,h2,_⟩:=ztJ k (zrM hd (m _ (List.mem_cons_self ..)) u);obtain ⟨B,y⟩:=zzk hc h2 hp;obtain ⟨b,p,t⟩:=zCW hd e (fun q n=>m q (List.mem_cons_of_mem _ n)) y;refine ⟨b,?_,t⟩
       have A:vs.length=s:=by simpa using j
       have C:=h2.len;have l:=zsH g us o 0 (by omega);simp only [Nat.add_zero] at l;simp only [List.map_cons,Instr.fill,d,h1];rw [if_neg (by simp; omega)]
       have r:(Array.zipIdx ⟨g⟩).foldl (fun cs (q:Value × Nat)=>cs.setIfInBounds (o+q.2) q.1) us.toArray=(g.zipIdx).foldl (fun cs (q:Value × Nat)=>cs.setIfInBounds (o+q.2) q.1) us.toArray:=by
        rw [← Array.foldl_toList]; simp
       refine Eq.trans (congrArg (fun z=>Instr.fill f z _) (r.trans l)) p
      ·cases e
    ·cases e
   ·cases e
  ·cases e
theorem zAb {P:Program}:∀{fs:List Field} {l:List (Nat × Nat)},zzm P fs=some l→fs.mapM (fun f=>(P.info? f.type).map fun i=>(f.offset,i.size))=some l
 | [],l,e=>by cases e; rfl
 | f :: fs,l,e=>by
  unfold zzm at e
  split at e
  ·rename_i s b
   split at e
   ·rename_i r a
    cases e;have h1:=zgp b;unfold znV at h1
    cases hi:P.info? f.type with
    | none=>rw [hi] at h1; cases h1
    | some i =>
     rw [hi] at h1;cases h1;simp [List.mapM_cons,hi,zAb a]
   ·cases e
  ·cases e
theorem zAc {P:Program} {t:TypeId} {cs:List (CV τ)} (e:zBe P t=some cs):∃a z,P.info? t=some a∧a.zero=some z∧cvVs z.cells.toList=some cs:=by
 unfold zBe at e
 split at e
 ·rename_i a hi
  split at e
  ·rename_i z b
   exact ⟨a,z,hi,b,e⟩
  ·cases e
 ·cases e
theorem zMV (hd:a.defers=[]) {z cs:List (CV τ)} {j:Nat→Option (Nat × Nat)} {ps:List (Nat × Operand)} (B:zBe X.P t'=some z) (hp:zJC X.P t'=some j) (e:zBf j E ps z=some cs)
  (A:∀q∈ps,zeL X h ν a (zxU q.2) E):∃u,(∀w,(execOp a.eval ⟨dst,.build t' ⟨ps⟩,t,p,af,gd⟩).run X.P w = .ok (.value u) w)∧XOk X.P X.G h ν (.g cs) u:=by
 obtain ⟨F,z0,hi,c,hc⟩:=zAc B;obtain ⟨us,h1,h2⟩:=zCW hd e A (zzj hc)
 have o:z0.cells.toList.toArray=z0.cells:=by simp
 rw [o] at h1;refine ⟨.agg ⟨us⟩,fun w=>?_,us,rfl,h2⟩
 have C:X.P.built t' ((ps.map fun q=>(q.1,a.eval q.2)).toArray).toList=some us.toArray:=by
  unfold zJC at hp
  split at hp
  ·rename_i n D f
   split at hp
   ·rename_i s m
    cases hp;have d:=zgp m;unfold znV at d
    cases b:X.P.info? D with
    | none=>rw [b] at d; cases d
    | some H =>
     rw [b] at d;cases d;simpa [Program.built,hi,f,c,b] using h1
   ·cases hp
  ·rename_i fs f
   split at hp
   ·rename_i l v
    cases hp
    have k:(l.toArray[·]?)=ziW l:=funext fun i=>by rw [zgV]; simp
    simp only [Program.built,hi,f,c,zAb v];rw [k];exact h1
   ·cases hp
  ·cases hp
 have:=run_build w t' _ _ C;simp only [execOp]
 have r:(Array.map (fun (q:Nat × Operand)=>(q.1,a.eval q.2)) ⟨ps⟩)=(ps.map fun q=>(q.1,a.eval q.2)).toArray:=by simp
 have y:(Array.map (fun x=>match x with|(i,x)=>(i,a.eval x)) (⟨ps⟩:Array (Nat × Operand)))=(ps.map fun q=>(q.1,a.eval q.2)).toArray:=r
 first
 | (rw [y]; simp only [Sem.run_bind,this,Result.andThen,Sem.run_pure])
 | (simp only [Sem.run_bind,this,Result.andThen,Sem.run_pure])
theorem zsI {P:Program} {i f ft b o:Nat} (e:zHP P t i=some (f,ft)):(Instr.fieldAt t (ptr b o) i).run P w = .ok (ptr b (o+f)) w:=by
 obtain ⟨fs,c,h,g,rfl,rfl,n,d⟩:=zKc e
 have a:(⟨b,o,none⟩:Addr).add c.offset=⟨b,o+c.offset,none⟩:=by unfold Addr.add; split<;>simp_all
 simp [Instr.fieldAt,run_underlying h,g,Instr.sureAddr,fieldPlace,zeo d,a,Result.andThen]
theorem zMW {i f ft:Nat} {cs:List (CV τ)} {m:Value} {v:XV τ} (o:XOk X.P X.G h ν (.g cs) m) (e:zHP X.P t i=some (f,ft))
  (a : (match isA X.P ft with
    | some true=>match szO X.P ft with
     | some s=>match cutL cs f s with
      | some l=>some (XV.g l)
      | none=>none
     | none=>none
    | some false=>match ziW cs f with
     | some c=>some (.c c)
     | none=>none
    | none=>none)=some v):∃u,(∀w,(Instr.field t m i).run X.P w = .ok u w)∧XOk X.P X.G h ν v u:=by
 obtain ⟨fs,r,k,j,rfl,rfl,n,q⟩:=zKc e;obtain ⟨us,rfl,hc⟩:=o
 split at a
 ·rename_i b
  split at a
  ·rename_i s d
   split at a
   ·rename_i l p
    cases a;obtain ⟨h1,h2⟩:=hc.cut p;refine ⟨.agg ⟨_⟩,fun w=>?_,_,rfl,h1⟩;simp [Instr.field,run_underlying k,j,asAgg,part,ztp (zxJ b),zeo (zgp d),Result.andThen,List.extract_eq_take_drop]
   ·cases a
  ·cases a
 ·rename_i b
  split at a
  ·rename_i c hn
   cases a;rw [zgV] at hn;obtain ⟨u,h1,h2⟩:=hc.get hn;refine ⟨u,fun w=>?_,h2⟩;simp [Instr.field,run_underlying k,j,asAgg,part,ztp (zxJ b),h1,Result.andThen]
  ·cases a
 ·cases a
theorem zJZ {c:CV τ} {g:Value} (p:adC c=true) (hc:zdg X.P X.G h ν c g) {f:Nat}:(∃b o,g=ptr b o)∧(∀b o,g=ptr b o→∀a,(match c with
      | .ea t z o=>some (.ea t z (o+f))
      | .oe id k m t z o=>some (.oe id k m t z (o+f))
      | _=>none)=some a→zdg X.P X.G h ν a (ptr b (o+f))):=by
  cases c with
  | ea t z o =>
    obtain ⟨b,k,vs,rfl,h1,h2⟩:=hc;refine ⟨⟨b,k+o,rfl⟩,fun r o' e a j=>?_⟩;cases e; cases j;exact ⟨b,k,vs,by rw [Nat.add_assoc],h1,h2⟩
  | oe i k m t z o =>
    obtain ⟨b,d,n,c,q,xs,u,h1,h2,l,rfl⟩:=hc;refine ⟨⟨b,_,rfl⟩,fun r o' e a j=>?_⟩;cases e; cases j;exact ⟨b,d,n,c,q,xs,u,h1,h2,l,by rw [Nat.add_assoc]⟩
  | _=>cases p
theorem opP_ok (M:TyOk X) {o:Oper} (hd:a.defers=[]) (S:h.on w) (d:zeL X h ν a (rdO o.op) E) {v:XV τ} (e:opP X E o.op=some v) :
  ∃u,(execOp a.eval o).run X.P w = .ok (.value u) w∧XOk X.P X.G h ν v u:=by
 obtain ⟨V,i,g⟩:=zef a hd;obtain ⟨dst,op,t,p,af,gd⟩:=o;dsimp only at e d;unfold opP at e
 split at e
 ·exact ⟨_,by simp [execOp],zrM hd (d.op (by simp [Op.operands])) e⟩
 ·exact ⟨_,by simp [execOp],zrM hd (d.op (by simp [Op.operands])) e⟩
 ·split at e
  ·rename_i hc
   obtain ⟨u,h1,h2⟩:=zB g (d.op (by simp [Op.operands])) hc;refine ⟨_,?_,zrM hd (d.op (by simp [Op.operands])) e⟩;simp only [execOp]; rw [i.ev h1,show u=_ from h2]; simp [asBool]
  ·rename_i hc
   obtain ⟨u,h1,h2⟩:=zB g (d.op (by simp [Op.operands])) hc;refine ⟨_,?_,zrM hd (d.op (by simp [Op.operands])) e⟩;simp only [execOp]; rw [i.ev h1,show u=_ from h2]; simp [asBool]
  ·cases e
 ·split at e
  ·rename_i hc
   obtain ⟨u,h1,h2⟩:=zB g (d.op (by simp [Op.operands])) hc;obtain rfl:u=_:=h2;cases e;exact ⟨_,zNM i h1,rfl⟩
  ·rename_i hc
   obtain ⟨u,h1,h2⟩:=zB g (d.op (by simp [Op.operands])) hc;obtain rfl:u=_:=h2;cases e;exact ⟨_,zNM i h1,rfl⟩
  ·cases e
 ·split at e
  ·rename_i l F
   obtain ⟨u,h1,h2⟩:=zol g (d.op (by simp [Op.operands])) F rfl;obtain ⟨vs,rfl,j⟩:=h2
   split at e
   ·rename_i c hc
    cases e;rw [zgV] at hc;obtain ⟨v,m,⟨s,_⟩|⟨_,W,T,s⟩⟩:=j.get hc
    ·cases s
    ·cases T;exact ⟨v,zA4 i h1 (by simpa using m),s⟩
   ·rename_i cs hc
    cases e;rw [zgV] at hc;obtain ⟨v,m,⟨_,O,rfl,s⟩|⟨s,_⟩⟩:=j.get hc
    ·exact ⟨_,zA4 i h1 (by simpa using m),O,rfl,s⟩
    ·cases s
   ·cases e
  ·cases e
 ·split at e
  ·rename_i c hc
   cases H:adC c with
   | false=>rw [H] at e; cases e
   | true =>
    rw [H] at e;cases e;obtain ⟨u,h1,h2⟩:=zB g (d.op (by simp [Op.operands])) hc;obtain ⟨ad,rfl⟩:=zMT H h2;exact ⟨_,zya i h1,h2⟩
  ·cases e
 ·split at e
  ·rename_i f ft x
   split at e
   ·rename_i t z o hc
    cases e;obtain ⟨u,h1,h2⟩:=zB g (d.op (by simp [Op.operands])) hc;obtain ⟨⟨b,k,rfl⟩,j⟩:=zJZ (f:=f) rfl h2;refine ⟨ptr b (k+f),?_,j _ _ rfl _ rfl⟩;simp only [execOp]; rw [i.ev h1]; simp [zsI x,Result.andThen]
   ·rename_i hc
    cases e;obtain ⟨u,h1,h2⟩:=zB g (d.op (by simp [Op.operands])) hc;obtain ⟨⟨b,k,rfl⟩,j⟩:=zJZ (f:=f) rfl h2;refine ⟨ptr b (k+f),?_,j _ _ rfl _ rfl⟩;simp only [execOp]; rw [i.ev h1]; simp [zsI x,Result.andThen]
   ·cases e
  ·cases e
 ·split at e
  ·rename_i f ft x
   split at e
   ·rename_i cs F
    obtain ⟨u,h1,h2⟩:=zol g (d.op (by simp [Op.operands])) F rfl;obtain ⟨r,j,m⟩:=zMW h2 x e;exact ⟨r,zKW i h1 (j w),m⟩
   ·cases e
  ·cases e
 ·split at e
  ·rename_i A L
   split at e
   ·rename_i B R
    obtain ⟨I,J⟩:=zPB e;obtain ⟨n,h1,h2⟩:=zol g (d.op (by simp [Op.operands])) L I;obtain ⟨D,j,m⟩:=zol g (d.op (by simp [Op.operands])) R J;obtain ⟨u,s,N⟩:=zPA M i h1 j h2 m e;exact ⟨u,s w,N⟩
   ·cases e
  ·cases e
 ·split at e
  ·rename_i c hc
   obtain ⟨n,h1,h2⟩:=zB g (d.op (by simp [Op.operands])) hc;exact zMU i h1 h2 S e
  ·cases e
 ·split at e
  ·rename_i z Q
   split at e
   ·rename_i U hp
    split at e
    ·rename_i cs hc
     cases e;obtain ⟨u,h1,h2⟩:=zMV (dst:=dst) (t:=t) (p:=p) (af:=af) (gd:=gd) hd Q hp hc fun q K=>d.op (by simp only [Op.operands,List.toList_toArray,List.mem_map]; exact ⟨q,K,rfl⟩);exact ⟨u,h1 w,h2⟩
    ·cases e
   ·cases e
  ·cases e
 ·split at e
  ·rename_i hc
   obtain ⟨n,h1,h2⟩:=zB g (d.op (by simp [Op.operands,Call.operands])) hc;obtain rfl:n=_:=h2
   split at e
   ·rename_i C
    cases e;exact ⟨_,zN8 C i h1,rfl⟩
   ·cases e
  ·rename_i hc
   obtain ⟨n,h1,h2⟩:=zB g (d.op (by simp [Op.operands,Call.operands])) hc
   split at e
   ·rename_i C
    cases e;cases h2;exact ⟨_,ztb C i h1,rfl⟩
   ·cases e
  ·rename_i hc
   obtain ⟨n,h1,h2⟩:=zB g (d.op (by simp [Op.operands,Call.operands])) hc;obtain rfl:n=_:=h2
   split at e
   ·rename_i C
    cases e;exact ⟨_,ztb C i h1,rfl⟩
   ·cases e
  ·cases e
 ·split at e
  ·rename_i hc
   obtain ⟨n,h1,h2⟩:=zB g (d.op (by simp [Op.operands,Call.operands])) hc;obtain rfl:n=_:=h2
   split at e
   ·rename_i y
    obtain ⟨D,j,m⟩:=zB g (d.op (by simp [Op.operands,Call.operands])) y;obtain rfl:D=_:=m;cases e;exact ⟨_,ex_min i h1 j,rfl⟩
   ·cases e
  ·cases e
 ·split at e
  ·rename_i hc
   obtain ⟨n,h1,h2⟩:=zB g (d.op (by simp [Op.operands,Call.operands])) hc;obtain rfl:n=_:=h2
   split at e
   ·rename_i y
    obtain ⟨D,j,m⟩:=zB g (d.op (by simp [Op.operands,Call.operands])) y;obtain rfl:D=_:=m;cases e;exact ⟨_,ex_max i h1 j,rfl⟩
   ·cases e
  ·cases e
 ·cases e
end
end Go.Rk
end
