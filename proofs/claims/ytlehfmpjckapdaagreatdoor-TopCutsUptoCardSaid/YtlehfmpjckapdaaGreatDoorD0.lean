/- Hosts, in both directions. No program in sight. By whom, and domains: what may be. No program in sight. References to pl -/
import Derived.Test.YtlehfmpjckapdaaGreatDoorTXU
import Derived.Test.YtlehfmpjckapdaaGreatDoorYM
set_option linter.unusedVariables false
set_option linter.unusedSimpArgs false
set_option linter.unusedVariables false
set_option maxRecDepth 10000
set_option maxHeartbeats 4000000
section
namespace Go.Dm
variable {s:Str}
def zIp (b:Bool) (l:List Str):Prop:=∃k,Grp b l k
theorem Grp_h {b:Bool} {l:List Str} (a:zsh s=true) (h:zIp b l):zIp b (s::l):=by
 obtain ⟨k,h⟩:=h; exact ⟨_,.hex _ _ _ _ a h⟩
theorem Grp_f (h:zmR s):zIp true [s]:=⟨_,.four _ h⟩
theorem Grp_e (b:Bool):zIp b []:=⟨_,.nil b⟩
theorem Grp_o {b:Bool} {l:List Str} (h:zIp b l):∃k,Grp b l k:=h
theorem six_r (h:((Go.Lib.cut s [58,58]).2.2=false∧Grp true (spt s) 8) ∨
    ((Go.Lib.cut s [58,58]).2.2=true∧∃n m,Grp false (spt (Go.Lib.cut s [58,58]).1) n∧Grp true (spt (Go.Lib.cut s [58,58]).2.1) m∧n+m≤7)):zvr s:=by
  unfold zvr;rw [zFA] at h
  cases e:zmS s with
  | none => rw [e] at h; rcases h with h|h
            · exact h.2
            · cases h.1
  | some p => rw [e] at h; rcases h with h|h
              · cases h.1
              · exact h.2
theorem six_i:zvr s↔((Go.Lib.cut s [58,58]).2.2=false∧Grp true (spt s) 8) ∨
  ((Go.Lib.cut s [58,58]).2.2=true∧∃n m,Grp false (spt (Go.Lib.cut s [58,58]).1) n∧Grp true (spt (Go.Lib.cut s [58,58]).2.1) m∧n+m≤7):=⟨six_c,six_r⟩
theorem host_r (h:(2<(s.length:Int)∧sAt s 0=some 91∧sAt s ((s.length:Int)-1)=some 93∧zvr (sb s 1 ((s.length:Int)-1)))∨zmR s∨(s≠[]∧zjs s=true)):zrQ s:=by
 rcases h with ⟨h1,h2,b,a⟩|h
 ·obtain ⟨m,rfl⟩:=zzh b
  obtain ⟨x,t,rfl⟩:∃x t,m=x::t:=by
   cases m with
   | nil=>simp at h1
   | cons x t=>exact ⟨x,t,rfl⟩
  have:x=91:=by simpa [sAt] using h2
  subst this;refine .inl ⟨t,?_,rfl,?_⟩
  ·rintro rfl; simp at h1
  ·have e:=zM2 (s:=91::t++[93]) (m:=t) rfl (by rintro rfl; simp at h1);rw [e.2.2.2] at a; exact a
 ·exact .inr h
theorem zMK:zrQ s↔(2<(s.length:Int)∧sAt s 0=some 91∧sAt s ((s.length:Int)-1)=some 93∧zvr (sb s 1 ((s.length:Int)-1)))∨zmR s∨(s≠[]∧zjs s=true):=⟨zM3,host_r⟩
theorem zML {i:Int} (h0:0≤i) (h:dr s i=58::dr s (i+1)) (hn:(58:UInt8)∉dr s (i+1)) (h1:zrQ (tk s i)) (h2:zhw (dr s (i+1)) 65535):zuF s :=
 ⟨_,_,(zAg h0 h).2,hn,h1,h2⟩
theorem goA2 {G:Prop} (h:G:=by
 (with_reducible repeat' first|intro _|refine And.intro ?_ ?_|refine Wf ?_ ?_|refine Wi ?_ ?_|refine Ws ?_|refine Wc ?_ ?_|refine Wo ?_ ?_|refine Wk ?_|refine We ?_ ?_)
 all_goals (try simp only [List.length_cons,List.length_nil])
 all_goals grind [Grp_h,Grp_f,Grp_e, → Grp_o,six_i,zMK,zML,zD4, → zzg,zKD,zKE,zBj,zsh, → zzh, → zJ6, → zHX, → zAg, → zIx, → zIy,ztn,spt,zy0,zCY,zxF,sb_s,zy1,zAU,fuel,zb5,zcW,zgn,za9,zaV,List.append_assoc,zbg,zaF,zfK,Sm]):G:=h
theorem tw_n (g:UInt8→Bool):([]:Str).takeWhile g=[]:=rfl
theorem dw_n (g:UInt8→Bool):([]:Str).dropWhile g=[]:=rfl
theorem dw_c (g:UInt8→Bool) (c:UInt8) (s:Str):(c::s).dropWhile g=(if g c=true then s.dropWhile g else c::s):=by
 rw [List.dropWhile_cons]
theorem tw_c (g:UInt8→Bool) (c:UInt8) (s:Str):(c::s).takeWhile g=(if g c=true then c::s.takeWhile g else [])∧(c::s).dropWhile g=(if g c=true then s.dropWhile g else c::s):=by
 rw [List.takeWhile_cons,List.dropWhile_cons]; cases g c<;>simp
theorem sb_1 {i j:Int} {c:UInt8} (h0:0≤i) (h1:i≤j) (h:dr s j=c::dr s (j+1)):sb s i (j+1)=sb s i j++[c]:=by
 have a:=zla (by omega) h;rw [zI7 h0 h1 (by omega:j≤j+1) (by omega),h]; simp
theorem sb_2 {i j:Int} (h0:0≤i) (h1:i≤j) (h:j<s.length):sb s i (j+1)=sb s i j++(dr s j).take 1:=by
 have e:(dr s j).length-(dr s (j+1)).length=1:=by simp [dr]; omega
 rw [zI7 h0 h1 (by omega:j≤j+1) (by omega),e]
theorem take1 (c:UInt8) (t:Str):(c::t).take 1=[c]:=rfl
theorem zIq {s x t:Str} {i:Int} (h0:0≤i) (h:dr s i=x++t):dr s (i+(x.length:Int))=t:=by
 have e:(i+(x.length:Int)).toNat=i.toNat+x.length:=by omega
 unfold dr at *
 rw [e, ← List.drop_drop,h,List.drop_left]
theorem goW {G:Prop} (h:G:=by
 (with_reducible repeat' first|intro _|refine And.intro ?_ ?_|refine Wf ?_ ?_|refine Wi ?_ ?_|refine Ws ?_|refine Wc ?_ ?_|refine Wo ?_ ?_|refine Wk ?_|refine We ?_ ?_)
 all_goals (try subst_vars)
 all_goals (try simp only [List.length_cons,List.length_nil])
 all_goals grind [tw_n,dw_n,tw_c,dw_c,sb_2,take1,zIq,zij,zy1,fuel,zb5,zcW,zgn,za9,zaV,List.append_assoc,zbg,zaF,zfK,Sm,Ss,Cw,UInt8.toNat_lt]):G:=h
end Go.Dm
end
section
namespace Go.Dm
def nsp (b:UInt8):Bool := !(b==32)
def zvQ (c s:Str):Bool:=s.any c.contains
theorem zGd (c:Str):∀(s:Str) (k:Nat),decide (0≤zdf s c k)=zvQ c s
 | [],k=>by simp [zdf,zvQ]
 | x::s,k=>by
  have a:=zGd c s (k+1)
  unfold zvQ at *
  rw [zdf,List.any_cons]
  cases hx:c.contains x with
  | true=>rw [if_pos rfl]; simp
  | false=>rw [if_neg Bool.false_ne_true,a,Bool.false_or]
theorem idxA_h (c s:Str):decide (0≤zdf s c 0)=zvQ c s:=zGd c s 0
def byP (b:Str):Prop:=zij b=true∨(zrQ b∨zuF b)∧zvQ [44,40,41] b=false
def zzX (b:Str):Prop:=32∉b∧byP b
theorem ns_all {b:Str} (h:32∉b):b.takeWhile nsp=b∧b.dropWhile nsp=[]:=by
 induction b with
 | nil=>exact ⟨rfl,rfl⟩
 | cons x b c =>
  simp only [List.mem_cons,not_or] at h
  have a:nsp x=true:=by unfold nsp; simp; exact fun e=>h.1 e.symm
  have:=c h.2;rw [(tw_c nsp x b).1,dw_c,if_pos a,if_pos a,this.1,this.2];exact ⟨rfl,rfl⟩
theorem ns_no {b:Str} (h:b.takeWhile nsp=b):32∉b:=by
 induction b with
 | nil=>simp
 | cons x b c =>
  rw [(tw_c nsp x b).1] at h
  cases a:nsp x with
  | false=>rw [a,if_neg Bool.false_ne_true] at h; cases h
  | true =>
   rw [a,if_pos rfl] at h;have h2:=c (List.cons.inj h).2
   have:x≠32:=by rintro rfl; revert a; decide
   simp only [List.mem_cons,not_or]; exact ⟨fun e=>this e.symm,h2⟩
theorem cls_v:zpv 49=true∧zpv 46=true∧zpv 32=false:=by decide
theorem zL9 (a b c:Str):Go.Lib.join [a,b,c] []=a++(b++c):=by simp [Go.Lib.join]
theorem dr_0s (s:Str):dr s 0=s:=rfl
def dnP (s:Str):Prop:=(s≠[]∧zjs s=true)∧¬ zmR s
def okD (x:zZJ):Prop:=dnP x.From∧dnP x.To∧zvQ [44,59] x.To=false
def zw8 (l:List zZJ):Prop:=∀x∈l,okD x
theorem zMa:zw8 []:=fun x h=>by cases h
theorem zMb (x:zZJ) (l:List zZJ):zw8 (x::l)↔okD x∧zw8 l:=by simp [zw8]
theorem zDR {G:Prop} (h:G:=by
 (with_reducible repeat' first|intro _|refine And.intro ?_ ?_|refine Wf ?_ ?_|refine Wi ?_ ?_|refine Ws ?_|refine Wc ?_ ?_|refine Wo ?_ ?_|refine Wk ?_|refine We ?_ ?_)
 all_goals (try subst_vars)
 all_goals (try simp only [List.length_cons,List.length_nil])
 all_goals grind [idxA_h,byP,zzX,ns_all, → ns_no,cls_v,zL9,dr_0s,dnP,okD,zMa,zMb,tw_n,dw_n,tw_c,dw_c,fuel,zb5,zcW,zgn,za9,zaV,List.append_assoc,zbg,zaF,Sm,Cw,Swm,UInt8.toNat_lt]):G:=h
end Go.Dm
end
section
namespace Go.Dm
def upt (l s:Str):Str × Str:=(s.takeWhile fun c => !l.contains c,s.dropWhile fun c => !l.contains c)
theorem zHZ (l:Str):∀(s:Str) (k:Nat),(zdf s l k = -1∧(upt l s)=(s,[]))∨∃n:Nat,zdf s l k=(k+n:Nat)∧upt l s=(s.take n,s.drop n)
 | [],k => .inl ⟨rfl,rfl⟩
 | c::s,k=>by
  have b:=zHZ l s (k+1)
  unfold upt at *
  simp only [zdf,List.takeWhile_cons,List.dropWhile_cons]
  cases hx:l.contains c with
  | true =>
   rw [if_pos rfl];exact .inr ⟨0,rfl,rfl⟩
  | false =>
   rw [if_neg Bool.false_ne_true];simp only [Bool.not_false,if_true];simp only [Prod.mk.injEq] at b ⊢
   rcases b with ⟨h1,h2,a⟩|⟨n,h1,h2,a⟩
   ·exact .inl ⟨h1,by rw [h2],a⟩
   ·exact .inr ⟨n+1,by rw [h1]; congr 1; omega,by rw [h2]; rfl,a⟩
theorem upt_n {l s:Str} (h:zdf s l 0<0):upt l s=(s,[]):=by
 rcases zHZ l s 0 with h1|⟨n,h1,_⟩
 ·exact h1.2
 ·omega
theorem upt_i {l s:Str} (h:0≤zdf s l 0):upt l s=(tk s (zdf s l 0),dr s (zdf s l 0)):=by
 rcases zHZ l s 0 with h1|⟨n,h1,h2⟩
 ·omega
 ·rw [h1,h2]; unfold tk dr; simp
theorem zDe (c:UInt8):∀(s:Str) (k:Nat),zcq s c k=zdf s [c] k
 | [],_=>rfl
 | x::s,k=>by
  simp only [zcq,zdf,zDe c s (k+1),List.contains_cons,List.contains_nil,Bool.or_false]
def zuG (c:UInt8):Bool:=zlK c||zcj c||c==43||c==45||c==46
def zvu:Str→Bool
 | []=>false
 | c::s=>zlK c&&(c::s).all zuG
theorem zLO:zvu []=false:=rfl
theorem schm_c {s:Str} {c:UInt8} (h:dr s 0=c::dr s (0+1)):zvu s=(zlK c&&s.all zuG):=by
 have e:s=c::dr s 1:=h;rw [e]; rfl
def rf1 (s:Str) (v:zZT):zZT:=if s=[] then v else ⟨v.Scheme,v.Auth,v.Path,v.Query,dr s 1,v.HasAuth,v.HasQuery,true⟩
def rf2 (s:Str) (v:zZT):zZT:=if [63].isPrefixOf (upt [63,35] s).2=true then rf1 (upt [35] (dr (upt [63,35] s).2 1)).2 ⟨v.Scheme,v.Auth,(upt [63,35] s).1,(upt [35] (dr (upt [63,35] s).2 1)).1,v.Frag,v.HasAuth,true,v.HasFrag⟩
 else rf1 (upt [63,35] s).2 ⟨v.Scheme,v.Auth,(upt [63,35] s).1,v.Query,v.Frag,v.HasAuth,v.HasQuery,v.HasFrag⟩
def rf3 (s:Str) (v:zZT):zZT:=if [47,47].isPrefixOf s=true then rf2 (upt [47,63,35] (dr s 2)).2 ⟨v.Scheme,(upt [47,63,35] (dr s 2)).1,v.Path,v.Query,v.Frag,true,v.HasQuery,v.HasFrag⟩ else rf2 s v
def rf0:zZT:=⟨[],[],[],[],[],false,false,false⟩
def rf4 (s:Str):zZT:=if 0<zcq s 58 0∧zvu (tk s (zcq s 58 0))=true then rf3 (dr s (zcq s 58 0+1)) ⟨tk s (zcq s 58 0),[],[],[],[],false,false,false⟩ else rf3 s rf0
def zvv (r:zZT):Bool:=pqM [91,93] r.Auth && !r.Auth.contains 64&&pqM [47] r.Path&&pqM [47,63] r.Query&&pqM [47,63] r.Frag &&
 (if r.HasAuth=true then r.Path==[]||[47].isPrefixOf r.Path else !([47,47].isPrefixOf r.Path)&&(!(r.Scheme==[]) || !((upt [47] r.Path).1.contains 58)))
def zFE (s:Str):Bool:=zvv (rf4 s)
theorem zFF (c:UInt8):∀(s:Str) (k:Nat),decide (0≤ze2 s [c] k)=s.contains c
 | [],k=>by simp [ze2,zlI]
 | x::s,k=>by
  have a:=zFF c s (k+1);rw [ze2,List.contains_cons]
  have e:zlI (x::s) [c]=(x==c):=by simp [zlI]
  rw [e]
  by_cases h:x=c
  ·subst h; simp
  ·have h2:(x==c)=false:=by simpa using h
   have b:(c==x)=false:=by simpa using fun e=>h e.symm
   rw [h2,b,Bool.false_or,if_neg Bool.false_ne_true]; exact a
instance (s:Str) (c:UInt8):T (strings_Contains s [c]) (s.length<4294967281) (fun r=>r=s.contains c):=⟨fun h=>⟨_,by rw [strings_Contains,if_pos h],zFF c s 0⟩⟩
instance (s:Str) (c:UInt8):T (strings_IndexByte s c) True (fun r=>r=zcq s c 0 ∧ -1≤r∧r<s.length∧decide (0≤r)=s.contains c):=⟨fun _=>⟨_,rfl,rfl,by have:=zxG c s 0; omega,by have:=zxG c s 0; omega,idxB c s 0⟩⟩
theorem pre_e (c:UInt8) (s:Str) (x:UInt8) (h:dr s 0=x::dr s (0+1)):[c].isPrefixOf s=(x==c):=by
 have e:s=x::dr s 1:=h;rw [e,Bool.eq_iff_iff,zNi,beq_iff_eq];constructor
 ·rintro ⟨t,h⟩; exact (List.cons.inj h).1
 ·rintro rfl; exact ⟨_,rfl⟩
theorem n37:(37:UInt8)∉([91,93]:Str)∧(37:UInt8)∉([47]:Str)∧(37:UInt8)∉([47,63]:Str):=by decide
def okL (x:zZJ):Prop:=x.From≠[]∧zFE x.From=true∧zFE x.To=true
def zwX (l:List zZJ):Prop:=∀x∈l,okL x
theorem zLP:zwX []:=fun x h=>by cases h
theorem zLQ (x:zZJ) (l:List zZJ):zwX (x::l)↔okL x∧zwX l:=by simp [zwX]
open Classical in
noncomputable def stC (e:zZI):Int:=if zzX e.By then (if e.Host≠[]∧¬ (zrQ e.Host∨zuF e.Host) then 27 else if e.Scheme≠[]∧e.Scheme≠[104,116,116,112]∧e.Scheme≠[104,116,116,112,115] then 2
 else if zw8 e.Domains then (if 64<e.Domains.length then 3 else if zwX e.Locations then (if 64<e.Locations.length then 3 else 0) else 2) else 27) else 2
theorem zyd {G:Prop} (h:G:=by
 (with_reducible repeat' first|intro _|refine And.intro ?_ ?_|refine Wf ?_ ?_|refine Wi ?_ ?_|refine Ws ?_|refine Wc ?_ ?_|refine Wo ?_ ?_|refine Wk ?_|refine We ?_ ?_)
 all_goals (try subst_vars)
 all_goals (try simp only [List.length_cons,List.length_nil])
 all_goals grind [zLO,schm_c,upt_n,upt_i,rf1,rf2,rf3,rf4,rf0,zvv,pre_e,n37,okL,zLP,zLQ,stC,zFE,fuel,zb5,zcW,zgn,za9,zaV,zbg,zaF,Sm,Um,Swm]):G:=h
theorem pqM_p1 (m:Str) (c:UInt8) (t:Str) (hc:c=37) (b:37∉m) (h:t.length≤1):pqM m (c::t)=false:=by
 subst hc
 match t,h with
 | [],_=>exact (pq_1 _ 0).2
 | [a],_=>exact (pq_1 _ a).1
theorem pqM_p2 (m s:Str) (i:Int) (h0:0≤i) (h:dr s i=37::dr s (i+1)) (a:37∉m) (h2:i+2<s.length):pqM m (dr s i)=((sb s (i+1) (i+3)).all zlL&&pqM m (dr s (i+3))):=(pqM_s m h0 h a).1 h2
theorem goU3 {G:Prop} (h:G:=by
 (with_reducible repeat' first|intro _|refine And.intro ?_ ?_|refine Wf ?_ ?_|refine Wi ?_ ?_|refine Ws ?_|refine Wc ?_ ?_|refine Wo ?_ ?_|refine Wk ?_|refine We ?_ ?_)
 all_goals (try subst_vars)
 all_goals (try simp only [List.length_cons,List.length_nil])
 all_goals grind [zM4,pqM_o,pqM_p2,pqM_p1,ztn,n37,zy0,zCY,zxF,sb_s,zy1,zAU,fuel,zb5,zcW,zgn,za9,zaV,zbg,zaF,Sm]):G:=h
end Go.Dm
end
section
namespace Go.Dm
variable {o r:List zZq} {t:Str}
def fokB (n v:Str):Bool:=zij n&&v.all zE8&&zI5 v==v
def guaP (g:z0m):Prop:=(g.Kind=0∧g.Name=[]∧g.Value=[])∨((g.Kind=1∨g.Kind=2)∧zij g.Name=true∧g.Value=[])∨(g.Kind=3∧fokB g.Name g.Value=true)
def ownN:List Str:=[[104,111,115,116],[118,105,97],[102,111,114,119,97,114,100,101,100],[120,45,102,111,114,119,97,114,100,101,100,45,102,111,114]]
def zCZ (n:Str):Bool:=decide (low n∈zIr)||decide (low n∈ownN)
def zJd (n:Str):Bool:=zij n && !zCZ n
def nmF:List Str→List zZq→List Str
 | a,[]=>a
 | a,p::l=>if p.Kind=2∧p.Text∉a then nmF (a++[p.Text]) l else nmF a l
theorem nmF_n (a:List Str):nmF a []=a:=rfl
theorem nmF_c (a:List Str) (p:zZq) (l:List zZq):nmF a (p::l)=if p.Kind=2∧p.Text∉a then nmF (a++[p.Text]) l else nmF a l:=rfl
def smB (b:UInt8):Bool:=decide (97≤b)&&decide (b≤122)
def plB (b:UInt8):Bool:=zE8 b && !(b==36)
def adT (o:List zZq) (x:Str):List zZq:=match o.getLast? with
 | some p=>if p.Kind=1 then o.dropLast++[⟨1,p.Text++x⟩] else o++[⟨1,x⟩]
 | none=>o++[⟨1,x⟩]
inductive PR:List zZq→Str→List zZq→Prop
 | done (o:List zZq):PR o [] o
 | two {o:List zZq} {t:Str} {r:List zZq} (h:PR (adT o [36]) t r):PR o (36::36::t) r
 | fld {o:List zZq} {a t:Str} {r:List zZq} (ha:zij a=true) (h:PR (o++[⟨3,a⟩]) t r):PR o (36::123::64::(a++125::t)) r
 | var {o:List zZq} {a t:Str} {r:List zZq} (ha:a.all smB=true) (hn:a≠[]) (h:PR (o++[⟨2,a⟩]) t r):PR o (36::123::(a++125::t)) r
 | one {o:List zZq} {c:UInt8} {t:Str} {r:List zZq} (hc:plB c=true) (h:PR (adT o [c]) t r):PR o (c::t) r
theorem zJe:plB 36=false:=by decide
theorem PR_e:PR o [] r↔r=o:=by
 constructor
 ·intro h;generalize e:([]:Str)=s at h
  cases h with
  | done=>rfl
  | two h=>cases e
  | fld a h=>cases e
  | var a hn h=>cases e
  | one hc h=>cases e
 ·rintro rfl; exact .done _
theorem PR_2:PR o (36::36::t) r↔PR (adT o [36]) t r:=by
 constructor
 ·intro h;generalize e:(36::36::t:Str)=s at h
  cases h with
  | done=>cases e
  | two h=>cases e; exact h
  | fld a h=>cases e
  | var a hn h=>cases e
  | one hc h=>cases e; rw [zJe] at hc; cases hc
 ·exact .two
theorem adT_a (o:List zZq) (a b:Str):adT (adT o a) b=adT o (a++b):=by
 have key:∀(o:List zZq) (x:Str),adT (o++[⟨1,x⟩]) b=o++[⟨1,x++b⟩]:=fun o x=>by simp [adT]
 rcases List.eq_nil_or_concat o with rfl|⟨o,p,rfl⟩
 ·exact key [] a
 ·simp only [List.concat_eq_append]
  by_cases hp:p.Kind=1
  ·have e:∀x,adT (o++[p]) x=o++[⟨1,p.Text++x⟩]:=fun x=>by simp [adT,hp]
   rw [e,e,key,List.append_assoc]
  ·have e:∀x,adT (o++[p]) x=(o++[p])++[⟨1,x⟩]:=fun x=>by simp [adT,hp]
   rw [e,e,key]
theorem PR_1 {c:UInt8} (hc:plB c=true):PR o (c::t) r↔PR (adT o [c]) t r:=by
 have hn:c≠36:=by rintro rfl; rw [zJe] at hc; cases hc
 constructor
 ·intro h;generalize e:(c::t:Str)=s at h
  cases h with
  | done=>cases e
  | two h=>exact absurd (List.cons.inj e).1 hn
  | fld b h=>exact absurd (List.cons.inj e).1 hn
  | var b a h=>exact absurd (List.cons.inj e).1 hn
  | one hc h=>cases e; exact h
 ·exact .one hc
theorem PR_r {r:List zZq} {t:Str}:∀{a:Str} {o:List zZq},a≠[]→a.all plB=true→(PR o (a++t) r↔PR (adT o a) t r)
 | [],_,h,_=>absurd rfl h
 | [c],o,_,h=>PR_1 (by simpa using h)
 | c::d::a,o,_,h=>by
  rw [List.all_cons,Bool.and_eq_true] at h;have:=PR_r (r:=r) (t:=t) (a:=d::a) (o:=adT o [c]) (by simp) h.2;rw [List.cons_append,PR_1 h.1,this,adT_a]; rfl
theorem PR_x {c:UInt8} (hc:plB c=false) (h1:∀u,c::t≠36::36::u) (h2:∀u,c::t≠36::123::u):¬ PR o (c::t) r:=fun h=>by
 generalize e:(c::t:Str)=s at h
 cases h with
 | done=>cases e
 | two h=>exact h1 _ e
 | fld a h=>exact h2 _ e
 | var a hn h=>exact h2 _ e
 | one hc h=>cases e; simp_all
theorem tw_u {g:UInt8→Bool} {a:Str} (h:a.all g=true) {c:UInt8} (hc:g c=false) (b:Str):(a++c::b).takeWhile g=a∧(a++c::b).dropWhile g=c::b:=by
 induction a with
 | nil=>simp [hc]
 | cons x a d =>
  rw [List.all_cons,Bool.and_eq_true] at h;simp [h.1,d h.2]
theorem zA2 (g:UInt8→Bool) (s:Str):s.takeWhile g++s.dropWhile g=s:=List.takeWhile_append_dropWhile
theorem zC0 (g:UInt8→Bool) (s:Str):(s.takeWhile g).all g=true:=by
 induction s with
 | nil=>rfl
 | cons x s a =>
  rw [List.takeWhile_cons]
  split
  ·rw [List.all_cons,a]; simp_all
  ·rfl
theorem zFh:zpv 125=false∧smB 125=false∧smB 64=false:=by decide
def PRn (o:List zZq) (t:Str) (r:List zZq):Prop:=PR o (36::123::t) r
theorem zNI:PRn o (64::t) r↔(zij (t.takeWhile zpv)=true∧∃v,t.dropWhile zpv=125::v∧PR (o++[⟨3,t.takeWhile zpv⟩]) v r):=by
 constructor
 ·intro h;unfold PRn at h;generalize e:(36::123::64::t:Str)=s at h
  cases h with
  | done=>cases e
  | two h=>cases e
  | fld b h =>
   cases e
   rename_i a u
   have:=tw_u (g:=zpv) (a:=a) (by unfold zij at b; simp at b; simpa using b.1) zFh.1 u;rw [this.1,this.2]; exact ⟨b,_,rfl,h⟩
  | var b hn h =>
   rename_i a u
   cases a with
   | nil=>exact absurd rfl hn
   | cons x a =>
    simp at e;rw [List.all_cons, ← e.1,zFh.2.2] at b; cases b
  | one hc h=>cases e; rw [zJe] at hc; cases hc
 ·rintro ⟨h1,v,h2,c⟩;have:=zA2 zpv t;rw [h2] at this;unfold PRn;rw [← this]; exact .fld h1 c
theorem zKe (b:∀u,t≠64::u):PRn o t r↔(t.takeWhile smB≠[]∧∃v,t.dropWhile smB=125::v∧PR (o++[⟨2,t.takeWhile smB⟩]) v r):=by
 constructor
 ·intro h;unfold PRn at h;generalize e:(36::123::t:Str)=s at h
  cases h with
  | done=>cases e
  | two h=>cases e
  | fld c h=>simp at e; exact absurd e (b _)
  | var c hn h =>
   rename_i a u
   simp at e; subst e;have:=tw_u (g:=smB) c zFh.2.1 u;rw [this.1,this.2]; exact ⟨hn,_,rfl,h⟩
  | one hc h=>cases e; rw [zJe] at hc; cases hc
 ·rintro ⟨h1,v,h2,d⟩;have:=zA2 smB t;rw [h2] at this;unfold PRn;rw [← this]; exact .var (zC0 _ _) h1 d
def dbl:Str→Str
 | []=>[]
 | c::s=>if c=36 then 36::36::dbl s else c::dbl s
def prP (p:zZq):Str:=if p.Kind=1 then dbl p.Text else if p.Kind=2 then [36,123]++(p.Text++[125]) else if p.Kind=3 then [36,123,64]++(p.Text++[125]) else []
def prA:List zZq→Str
 | []=>[]
 | p::l=>prP p++prA l
theorem prA_n:prA []=[]:=rfl
theorem prA_c (p:zZq) (l:List zZq):prA (p::l)=prP p++prA l:=rfl
def zA3 (l:List zZq) (s:Str):Prop:=PR [] s l∧l.length≤32
theorem zHt {s:Str} (h:(36:UInt8)∉s):dbl s=s:=by
 induction s with
 | nil=>rfl
 | cons c s a =>
  simp only [List.mem_cons,not_or] at h;rw [dbl,if_neg fun e=>h.1 e.symm,a h.2]
theorem zP6 (s t:Str):dbl (s++t)=dbl s++dbl t:=by
 induction s with
 | nil=>rfl
 | cons c s a=>rw [List.cons_append,dbl,dbl,a]; split<;>rfl
theorem jn_n:Go.Lib.join [] []=[]:=rfl
theorem jn_a (l m:List Str):Go.Lib.join (l++m) []=Go.Lib.join l []++Go.Lib.join m []:=by
 have key:∀l:List Str,Go.Lib.join l []=l.flatten:=by
  intro l
  induction l with
  | nil=>rfl
  | cons x l a =>
   cases l with
   | nil=>simp [Go.Lib.join]
   | cons y l=>simp [Go.Lib.join] at a ⊢; exact a
 rw [key,key,key,List.flatten_append]
theorem jn_1 (a:Str):Go.Lib.join [a] []=a:=by simp [Go.Lib.join]
theorem dbl_k:∀(n:Nat) (s:Str),s.length≤n→∀k,Go.Lib.count s [36]≤k→Go.Lib.replaceK [36] [36,36] k s=dbl s
 | 0,s,h,k,_=>by
  have:s=[]:=List.eq_nil_of_length_eq_zero (by omega);subst this
  cases k with
  | zero=>rfl
  | succ k=>simp [Go.Lib.replaceK,Go.Lib.index,dbl]
 | n+1,s,h,k,e=>by
  by_cases c:(36:UInt8)∈s
  ·obtain ⟨a,b,rfl,d⟩:=List.eq_append_cons_of_mem c;have hi:Go.Lib.index (a++36::b) [36]=(a.length:Nat):=zKA 36 [] b a d
   have hd:(a++36::b).drop (a.length+([36]:Str).length)=b:=by
    rw [show a++36::b=(a++[36])++b by simp,show a.length+([36]:Str).length=(a++[(36:UInt8)]).length by simp,List.drop_left]
   have hc:=Go.Lib.count_hit (sub:=[36]) (by simp) hi;rw [hd] at hc;obtain ⟨k,rfl⟩:∃j,k=j+1:=⟨k-1,by omega⟩;rw [Go.Lib.replaceK_hit _ _ _ _ _ hi,hd,List.take_left,dbl_k n b (by simp at h; omega) k (by omega),zP6,zHt d,dbl,if_pos rfl];simp
  ·have hi:Go.Lib.index s [36] = -1:=zKB 36 [] s c;rw [zHt c]
   cases k with
   | zero=>rfl
   | succ k=>rw [Go.Lib.replaceK,if_pos (by rw [hi]; rfl)]
theorem dbl_l (s:Str):(dbl s).length≤2*s.length:=by
 induction s with
 | nil=>simp [dbl]
 | cons c s a=>rw [dbl]; split<;>simp<;>omega
instance (s:Str):T (strings_ReplaceAll s [36] [36,36]) (s.length≤1000000000) (fun r=>r=dbl s∧r.length≤2*s.length):=⟨fun h=>by
 have c:Go.Lib.countB ⟨s.toArray⟩ ⟨([36]:Str).toArray⟩≤s.length+1:=by
  have:=Go.Lib.count_le s [36];unfold Go.Lib.countB;simpa using this
 have e:Go.Lib.replaceAll s [36] [36,36]=dbl s:=by
  unfold Go.Lib.replaceAll Go.Lib.replace;rw [if_neg (by decide)];exact dbl_k s.length s (Nat.le_refl _) _ (by unfold Go.Lib.replaceNum; rw [if_pos (.inl (by omega))]; exact Nat.le_refl _)
 refine ⟨_,by rw [strings_ReplaceAll,if_pos ⟨by omega,by simp,by simp; omega⟩],?_⟩
 rw [e]; exact ⟨rfl,dbl_l s⟩⟩
instance {α:Type} (l:List α):T (Go.Rk.nnl l) (1≤l.length) (fun _=>True):=⟨fun h=>by
 cases l with
 | nil=>simp at h
 | cons x l=>exact ⟨_,rfl,trivial⟩⟩
def zCF (s:Int):Option (List Str):=if s=1 then some [[99,108,105,101,110,116],[104,111,115,116],[109,101,116,104,111,100],[112,97,116,104],[115,99,104,101,109,101]]
 else if s=2 then some [[99,108,105,101,110,116],[104,111,115,116],[115,99,104,101,109,101],[115,116,97,116,117,115]] else none
theorem kno_l {s:Int} {l:List Str} (h:zCF s=some l):1≤l.length∧l.length≤10:=by
 unfold zCF at h
 split at h
 ·cases h; simp
 ·split at h
  ·cases h; simp
  ·cases h
instance (a:Int):T (zn3 a) True (fun r=>r=zCF a):=⟨fun _=>by
 unfold zn3 zCF
 by_cases h:a=1
 ·subst h; exact ⟨_,rfl,rfl⟩
 ·by_cases h2:a=2
  ·subst h2; exact ⟨_,rfl,rfl⟩
  ·exact ⟨none,by rw [if_neg (by simpa using h),if_neg (by simpa using h2)],by rw [if_neg h,if_neg h2]⟩⟩
instance:T ztA True (fun r=>r=zIr∧r.length=8):=⟨fun _=>⟨_,rfl,rfl,rfl⟩⟩
def zFi (k:List Str):List Str→Prop
 | []=>True
 | s::l=>s∈k∧zFi k l
theorem zNJ (k:List Str):zFi k []:=trivial
theorem zNK (k:List Str) (s:Str) (l:List Str):zFi k (s::l)↔s∈k∧zFi k l:=Iff.rfl
def parP (s:Int) (l:List zZq):Prop:=zFi ((zCF s).getD []) (nmF [] l)∧zA3 l (prA l)
def actP (r:zZu):Prop:=((r.Kind=1∨r.Kind=2)∧r.To=[]∧parP r.Side r.Parts)∨(r.Kind=3∧r.To=[]∧r.Parts=[])∨(r.Kind=4∧zJd r.To=true∧r.Parts=[])
def zHu (r:zZu):Prop:=zCF r.Side≠none∧guaP r.Guard∧zJd r.Name=true∧actP r
def zom (l:List zZu):Prop:=∀r∈l,zHu r
theorem zKf:zom []:=fun x h=>by cases h
theorem zKg (x:zZu) (l:List zZu):zom (x::l)↔zHu x∧zom l:=by simp [zom]
theorem adT_1 {o:List zZq} {p:zZq} {i:Int} (h:dr o i=p::dr o (i+1)) (hi:i=(o.length:Int)-1) (h0:0<(o.length:Int)) (x:Str):adT o x=if p.Kind=1 then o.set i.toNat ⟨1,p.Text++x⟩ else o++[⟨1,x⟩]:=by
 rcases List.eq_nil_or_concat o with rfl|⟨q,y,rfl⟩
 ·simp at h0
 ·simp only [List.concat_eq_append] at *
  have e:i.toNat=q.length:=by rw [hi]; simp
  have a:y=p:=by
   unfold dr at h;rw [e,List.drop_left] at h;exact (List.cons.inj h).1
  subst a;unfold adT;rw [List.getLast?_concat,e];simp
theorem adT_0 {o:List zZq} (h:o.length=0) (x:Str):adT o x=o++[⟨1,x⟩]:=by
 have:o=[]:=List.eq_nil_of_length_eq_zero h;subst this; rfl
end Go.Dm
end
section
namespace Go.Dm
variable {G:Prop} {i:Int}
theorem t_1 (s:Str) (c:UInt8):(∀t,s≠c::t)∨∃t,s=c::t:=by
 cases s with
 | nil=>exact .inl fun t h=>by cases h
 | cons x s =>
  by_cases h:x=c
  ·subst h; exact .inr ⟨_,rfl⟩
  ·exact .inl fun t e=>h (List.cons.inj e).1
theorem PR_z {o r:List zZq} {s:Str} (h:s≠[]) (b:([36,36]:Str).isPrefixOf s=false) (d:([36,123]:Str).isPrefixOf s=false):PR o s r↔(s.takeWhile plB≠[]∧PR (adT o (s.takeWhile plB)) (s.dropWhile plB) r):=by
 have h1:∀u,s≠36::36::u:=by rintro u rfl; simp [List.isPrefixOf] at b
 have h2:∀u,s≠36::123::u:=by rintro u rfl; simp [List.isPrefixOf] at d
 obtain ⟨c,t,rfl⟩:∃c t,s=c::t:=by
  cases s with
  | nil=>exact absurd rfl h
  | cons c t=>exact ⟨c,t,rfl⟩
 cases hc:plB c with
 | false =>
  constructor
  ·intro hp; exact absurd hp (PR_x hc h1 h2)
  ·rintro ⟨hn,_⟩; rw [List.takeWhile_cons,hc] at hn; exact absurd rfl hn
 | true =>
  have hn:(c::t).takeWhile plB≠[]:=by rw [List.takeWhile_cons,hc]; simp
  have:=PR_r (r:=r) (o:=o) (a:=(c::t).takeWhile plB) (t:=(c::t).dropWhile plB) hn (zC0 _ _);rw [zA2] at this;rw [this]; exact ⟨fun h=>⟨hn,h⟩,fun h=>h.2⟩
theorem adT_2 {o:List zZq} {p:zZq} (h:lAt o i=some p) (x:Str) (hi:i=(o.length:Int)-1) (a:p.Kind=1):adT o x=o.set i.toNat ⟨1,p.Text++x⟩:=by
 unfold lAt at h
 split at h
 ·rename_i h0
  rw [adT_1 (zHi h0 h) hi (by omega),if_pos a]
 ·cases h
theorem adT_3 {o:List zZq} {p:zZq} (h:lAt o i=some p) (x:Str) (hi:i=(o.length:Int)-1) (a:¬ p.Kind=1):adT o x=o++[⟨1,x⟩]:=by
 unfold lAt at h
 split at h
 ·rename_i h0
  rw [adT_1 (zHi h0 h) hi (by omega),if_neg a]
 ·cases h
theorem pre_dr {s t:Str} (h:t <+: dr s i) (h0:0≤i):dr s i=t++dr s (i+(t.length:Int)):=by
 obtain ⟨u,h⟩:=h;rw [← h]
 congr 1
 exact (zIq h0 h.symm).symm
theorem PRn_d {o r:List zZq} {t:Str}:PR o (36::123::t) r↔PRn o t r:=Iff.rfl
theorem tok_tw (s:Str):zij (s.takeWhile zpv) = !(s.takeWhile zpv==[]):=by unfold zij; rw [zC0,Bool.true_and]
theorem zIn (h:G:=by
 (with_reducible repeat' first|intro _|refine And.intro ?_ ?_|refine Wf ?_ ?_|refine Wi ?_ ?_|refine Ws ?_|refine Wc ?_ ?_|refine Wo ?_ ?_|refine Wk ?_|refine We ?_ ?_)
 all_goals (try simp only [List.length_cons,List.length_nil])
 all_goals grind [fokB,guaP,zCZ,zJd,ownN,nmF_n,nmF_c,Gm,fuel,zb5,zcW,zgn,za9,zaV,zbg,zaF,Sm]):G:=h
theorem goR2 (h:G:=by
 (with_reducible repeat' first|intro _|refine And.intro ?_ ?_|refine Wf ?_ ?_|refine Wi ?_ ?_|refine Ws ?_|refine Wc ?_ ?_|refine Wo ?_ ?_|refine Wk ?_|refine We ?_ ?_)
 all_goals (try simp only [List.length_cons,List.length_nil])
 all_goals grind [Rt,zFh,tok_tw,adT_2,adT_3,adT_0,zNI,zKe,PR_2,PR_e,PR_z,PRn_d,zA3,fuel,zb5,zcW,zgn,za9,zaV,Cw]):G:=h
theorem zGq (h:G:=by
 (with_reducible repeat' first|intro _|refine And.intro ?_ ?_|refine Wf ?_ ?_|refine Wi ?_ ?_|refine Ws ?_|refine Wc ?_ ?_|refine Wo ?_ ?_|refine Wk ?_|refine We ?_ ?_)
 all_goals (try subst_vars)
 all_goals (try simp only [List.length_cons,List.length_nil])
 all_goals grind [zL9,prA_n,prA_c,prP,zA3,jn_n,jn_a,jn_1,zNJ,zNK, → kno_l,parP,actP,zHu,zKf,zKg,Rm,Tp,Rl,Gm,List.append_assoc,zbg,zaF,zfK,fuel,zb5,zcW,zgn,za9,zaV]):G:=h
theorem goR5 (h:G:=by
 (with_reducible repeat' first|intro _|refine And.intro ?_ ?_|refine Wf ?_ ?_|refine Wi ?_ ?_|refine Ws ?_|refine Wc ?_ ?_|refine Wo ?_ ?_|refine Wk ?_|refine We ?_ ?_)
 all_goals (try subst_vars)
 all_goals (try simp only [List.length_cons,List.length_nil])
 all_goals grind [→ pre_dr,zIq,fuel,zb5,zgn,za9,zaV,Cw]):G:=h
end Go.Dm
end
section
namespace Go.Dm
theorem ziU {l b e:Str} (d:∀x∈b,l.contains x=false) (h:e=[]∨∃c t,e=c::t∧l.contains c=true):upt l (b++e)=(b,e):=by
 unfold upt
 induction b with
 | nil =>
  rcases h with rfl|⟨c,t,rfl,hc⟩
  ·rfl
  ·rw [List.nil_append,List.takeWhile_cons,List.dropWhile_cons,hc]; rfl
 | cons x b a =>
  have g:=d x List.mem_cons_self;have a:=a fun y f=>d y (List.mem_cons_of_mem _ f);simp only [Prod.mk.injEq] at a ⊢;rw [List.cons_append,List.takeWhile_cons,List.dropWhile_cons,g];exact ⟨by simp only [Bool.not_false,if_true,a.1],by simp only [Bool.not_false,if_true,a.2]⟩
theorem zrA (l s:Str):∃b e,s=b++e∧upt l s=(b,e)∧(∀x∈b,l.contains x=false)∧(e=[]∨∃c t,e=c::t∧l.contains c=true):=by
 induction s with
 | nil=>exact ⟨[],[],rfl,rfl,fun x h=>(by cases h),.inl rfl⟩
 | cons c s g =>
  cases hc:l.contains c with
  | true =>
   exact ⟨[],c::s,rfl,ziU (b:=[]) (fun x h=>by cases h) (.inr ⟨_,_,rfl,hc⟩),fun x h=>(by cases h),.inr ⟨_,_,rfl,hc⟩⟩
  | false =>
   obtain ⟨b,e,rfl,h1,h2,f⟩:=g
   have d:∀x∈c::b,l.contains x=false:=fun x a=>by
    rcases List.mem_cons.1 a with rfl|a
    ·exact hc
    ·exact h2 x a
   exact ⟨c::b,e,rfl,ziU d f,d,f⟩
def rrT (s:Str):Str:=match s with|[]=>[]|_::t=>t
def rrA (d b q f:Str) (a c:Bool):zZT:=if [47,47].isPrefixOf b=true then ⟨d,(upt [47] (dr b 2)).1,(upt [47] (dr b 2)).2,q,f,true,a,c⟩ else ⟨d,[],b,q,f,false,a,c⟩
def rrB (b q f:Str) (a c:Bool):zZT:=if [58].isPrefixOf (upt [58,47] b).2=true∧zvu (upt [58,47] b).1=true then rrA (upt [58,47] b).1 (rrT (upt [58,47] b).2) q f a c else rrA [] b q f a c
def rr (s:Str):zZT:=rrB (upt [63] (upt [35] s).1).1 (rrT (upt [63] (upt [35] s).1).2) (rrT (upt [35] s).2) (!((upt [63] (upt [35] s).1).2==[])) (!((upt [35] s).2==[]))
theorem zKk {h g p:Str} {a:Bool} {b q f:Str} (i:∀x∈b,([63,35]:Str).contains x=false) (j:∀x∈q,([35]:Str).contains x=false) :
  rf2 b ⟨h,g,p,[],[],a,false,false⟩=⟨h,g,b,[],[],a,false,false⟩ ∧
  rf2 (b++35::f) ⟨h,g,p,[],[],a,false,false⟩=⟨h,g,b,[],f,a,false,true⟩ ∧
  rf2 (b++63::q) ⟨h,g,p,[],[],a,false,false⟩=⟨h,g,b,q,[],a,true,false⟩ ∧
  rf2 (b++63::(q++35::f)) ⟨h,g,p,[],[],a,false,false⟩=⟨h,g,b,q,f,a,true,true⟩:=by
 have n:upt [63,35] b=(b,[]):=by have:=ziU (l:=[63,35]) (e:=[]) i (.inl rfl); rwa [List.append_nil] at this
 have r:∀t,upt [63,35] (b++35::t)=(b,35::t):=fun t=>ziU i (.inr ⟨_,_,rfl,rfl⟩);have k:∀t,upt [63,35] (b++63::t)=(b,63::t):=fun t=>ziU i (.inr ⟨_,_,rfl,rfl⟩)
 have m:upt [35] q=(q,[]):=by have:=ziU (l:=[35]) (e:=[]) j (.inl rfl); rwa [List.append_nil] at this
 have o:upt [35] (q++35::f)=(q,35::f):=ziU j (.inr ⟨_,_,rfl,rfl⟩);have d:∀(c:UInt8) (t:Str),dr (c::t) 1=t:=fun _ _=>rfl;refine ⟨?_,?_,?_,?_⟩
 ·simp only [rf2,n]; rfl
 ·simp only [rf2,r]; rfl
 ·simp only [rf2,k,d,m]; rfl
 ·simp only [rf2,k,d,o]; rfl
theorem zKl {i b q f:Str} (j:∀x∈b,([63,35]:Str).contains x=false) (o:∀x∈q,([35]:Str).contains x=false) :
  rf3 b ⟨i,[],[],[],[],false,false,false⟩=rrA i b [] [] false false ∧
  rf3 (b++35::f) ⟨i,[],[],[],[],false,false,false⟩=rrA i b [] f false true ∧
  rf3 (b++63::q) ⟨i,[],[],[],[],false,false,false⟩=rrA i b q [] true false ∧
  rf3 (b++63::(q++35::f)) ⟨i,[],[],[],[],false,false,false⟩=rrA i b q f true true:=by
 have key:∀e:Str,(e=[]∨∃c t,e=c::t∧([63,35]:Str).contains c=true)→([47,47].isPrefixOf (b++e)=[47,47].isPrefixOf b) ∧
   ([47,47].isPrefixOf b=true→upt [47,63,35] (dr (b++e) 2)=((upt [47] (dr b 2)).1,(upt [47] (dr b 2)).2++e)∧∀x∈(upt [47] (dr b 2)).2,([63,35]:Str).contains x=false):=by
  intro e r
  have hc:∀c t,e=c::t→(47==c)=false:=by
   rintro c t rfl
   rcases r with r|⟨E,t',h,hc⟩
   ·cases r
   ·cases h
    by_cases n:(47:UInt8)=c
    ·subst n; revert hc; decide
    ·simpa using n
  match b,j with
  | [],_ =>
   refine ⟨?_,fun h=>by simp [List.isPrefixOf] at h⟩
   cases e with
   | nil=>rfl
   | cons c t=>simp [List.isPrefixOf,hc c t rfl]
  | [x],_ =>
   refine ⟨?_,fun h=>by simp [List.isPrefixOf] at h⟩
   cases e with
   | nil=>rfl
   | cons c t=>simp [List.isPrefixOf,hc c t rfl]
  | x::y::w,j =>
   refine ⟨by simp [List.isPrefixOf],fun _=>?_⟩;have B:∀z∈w,([63,35]:Str).contains z=false:=fun z l=>j z (List.mem_cons_of_mem _ (List.mem_cons_of_mem _ l));show upt [47,63,35] (w++e)=((upt [47] w).1,(upt [47] w).2++e)∧∀z∈(upt [47] w).2,_;obtain ⟨m,k,rfl,h1,h2,C⟩:=zrA [47] w;rw [h1];refine ⟨?_,fun z l=>B z (List.mem_append_right _ l)⟩
   have D:∀z∈m,([47,63,35]:Str).contains z=false:=fun z l=>by
    have a:=h2 z l;have b:=B z (List.mem_append_left _ l);simp only [List.contains_cons,List.contains_nil,Bool.or_false,Bool.or_eq_false_iff] at a b ⊢;exact ⟨a,b.1,b.2⟩
   rw [List.append_assoc];refine ziU D ?_
   rcases C with rfl|⟨c,t,rfl,hd⟩
   ·rcases r with rfl|⟨c,t,rfl,hd⟩
    ·exact .inl rfl
    ·refine .inr ⟨_,_,rfl,?_⟩;simp only [List.contains_cons,List.contains_nil,Bool.or_false] at hd ⊢;rw [hd,Bool.or_true]
   ·refine .inr ⟨_,_,rfl,?_⟩;simp only [List.contains_cons,List.contains_nil,Bool.or_false] at hd ⊢;rw [hd,Bool.true_or]
 have step:∀(e:Str) (A:e=[]∨∃c t,e=c::t∧([63,35]:Str).contains c=true) (R:Str→Str→Bool→zZT),
   (∀(g p b:Str) (d:Bool),(∀x∈b,([63,35]:Str).contains x=false)→rf2 (b++e) ⟨i,g,p,[],[],d,false,false⟩=R g b d) →
   rf3 (b++e) ⟨i,[],[],[],[],false,false,false⟩=if [47,47].isPrefixOf b=true then R (upt [47] (dr b 2)).1 (upt [47] (dr b 2)).2 true else R [] b false:=by
  intro e A R v;have u:=key e A;unfold rf3;rw [u.1]
  by_cases h:[47,47].isPrefixOf b=true
  ·rw [if_pos h,if_pos h,(u.2 h).1];exact v _ _ _ _ (u.2 h).2
  ·rw [if_neg h,if_neg h];exact v _ _ _ _ j
 refine ⟨?_,?_,?_,?_⟩
 ·have:=step [] (.inl rfl) (fun g b d=>⟨i,g,b,[],[],d,false,false⟩) (fun g p b d j=>(congrArg (fun s=>rf2 s ⟨i,g,p,[],[],d,false,false⟩) (List.append_nil b)).trans (zKk (q:=q) (f:=[]) j o).1);rw [List.append_nil] at this; exact this
 ·exact step (35::f) (.inr ⟨_,_,rfl,rfl⟩) (fun g b d=>⟨i,g,b,[],f,d,false,true⟩) (fun g p b d j=>(zKk j o).2.1)
 ·exact step (63::q) (.inr ⟨_,_,rfl,rfl⟩) (fun g b d=>⟨i,g,b,q,[],d,true,false⟩) (fun g p b d j=>(zKk (f:=[]) j o).2.2.1)
 ·exact step (63::(q++35::f)) (.inr ⟨_,_,rfl,rfl⟩) (fun g b d=>⟨i,g,b,q,f,d,true,true⟩) (fun g p b d j=>(zKk j o).2.2.2)
theorem zOn {A:Str} (h:zvu A=true):A≠[]∧∀x∈A,x≠58∧x≠47∧x≠63∧x≠35:=by
 have k:zuG 58=false∧zuG 47=false∧zuG 63=false∧zuG 35=false:=by decide
 cases A with
 | nil=>cases h
 | cons c A =>
  refine ⟨by simp,fun x a=>?_⟩
  have:(c::A).all zuG=true:=by unfold zvu at h; rw [Bool.and_eq_true] at h; exact h.2
  have b:=List.all_eq_true.1 this x a;refine ⟨?_,?_,?_,?_⟩<;>(rintro rfl; simp_all)
theorem idx58 (T:Str):∀(A:Str) (k:Nat),(∀x∈A,x≠58)→zcq (A++58::T) 58 k=((k+A.length:Nat):Int)
 | [],k,_=>by simp [zcq]
 | c::A,k,h=>by
  have h1:=h c List.mem_cons_self
  have h2:(c==58)=false:=by simpa using h1
  have b:=idx58 T A (k+1) fun x a=>h x (List.mem_cons_of_mem _ a);rw [List.cons_append,zcq];simp only [h2,List.length_cons];rw [if_neg (by simp),b]
  congr 1; omega
theorem rf4_y {A T:Str} (h:zvu A=true):rf4 (A++58::T)=rf3 T ⟨A,[],[],[],[],false,false,false⟩:=by
 have d:=zOn h;have hi:=idx58 T A 0 fun x c=>(d.2 x c).1;rw [Nat.zero_add] at hi
 have e:tk (A++58::T) ((A.length:Nat):Int)=A:=by unfold tk; simp
 have hd:dr (A++58::T) (((A.length:Nat):Int)+1)=T:=by
  unfold dr;rw [show (((A.length:Nat):Int)+1).toNat=(A++[(58:UInt8)]).length by simp,show A++58::T=(A++[58])++T by simp,List.drop_left]
 have h0:0<A.length:=by
  cases A with
  | nil=>exact absurd rfl d.1
  | cons a b=>simp
 unfold rf4;rw [hi,e,hd,if_pos ⟨by omega,h⟩]
theorem rf4_n {s:Str} (h:∀A T,s=A++58::T→zvu A=false):rf4 s=rf3 s rf0:=by
 unfold rf4;rw [if_neg];rintro ⟨h0,h1⟩;obtain ⟨b,e,rfl,h2,_,d⟩:=zrA [58] s
 have hi:0≤zdf (b++e) [58] 0:=by rw [← zDe]; omega
 have a:=upt_i hi;have i:=zAX [58] (b++e) 0;rw [h2, ← zDe] at a;rw [← zDe] at i;have j:=(Prod.mk.inj a).1;have g:=(Prod.mk.inj a).2
 have f:e≠[]:=by
  intro h;rw [g] at h;have:=congrArg List.length h;unfold dr at this;rw [List.length_drop,List.length_nil] at this;omega
 rcases d with d|⟨c,t,rfl,hc⟩
 ·exact absurd d f
 ·have hc:c=58:=by simpa using hc
  subst hc;have:=h b t rfl;rw [← j,this] at h1; cases h1
theorem rr_eq (s:Str):rr s=rf4 s:=by
 obtain ⟨w,F,rfl,I,E,o⟩:=zrA [35] s;obtain ⟨v,Q,rfl,G,H,r⟩:=zrA [63] w
 have l:∀x∈v,([63,35]:Str).contains x=false:=fun x g=>by
  have a:=H x g;have b:=E x (List.mem_append_left _ g);simp only [List.contains_cons,List.contains_nil,Bool.or_false,Bool.or_eq_false_iff] at a b ⊢;exact ⟨a,b⟩
 have z:∀(n b:Str),(∀x∈b,([63,35]:Str).contains x=false)→rf3 (b++(Q++F)) ⟨n,[],[],[],[],false,false,false⟩=rrA n b (rrT Q) (rrT F) (!(Q==[])) (!(F==[])):=by
  intro n b j
  rcases r with rfl|⟨c,q,rfl,hc⟩
  ·rcases o with rfl|⟨d,f,rfl,hd⟩
   ·rw [List.append_nil,List.append_nil]; exact (zKl (q:=[]) (f:=[]) j (fun x h=>by cases h)).1
   ·have hd:d=35:=by simpa using hd
    subst hd;exact (zKl (q:=[]) j (fun x h=>by cases h)).2.1
  ·have hc:c=63:=by simpa using hc
   subst hc;have p:∀x∈q,([35]:Str).contains x=false:=fun x g=>E x (List.mem_append_right _ (List.mem_cons_of_mem _ g))
   rcases o with rfl|⟨d,f,rfl,hd⟩
   ·rw [List.append_nil]; exact (zKl (f:=[]) j p).2.2.1
   ·have hd:d=35:=by simpa using hd
    subst hd;exact (zKl j p).2.2.2
 unfold rr;rw [I];simp only;rw [G];simp only;unfold rrB;obtain ⟨a,e,rfl,u,K,L⟩:=zrA [58,47] v;rw [u];simp only
 by_cases c:[58].isPrefixOf e=true∧zvu a=true
 ·rw [if_pos c];obtain ⟨t,rfl⟩:=(zNi 58 e).1 c.1;rw [show a++58::t++Q++F=a++58::(t++(Q++F)) by simp,rf4_y c.2];exact (z a t fun x g=>l x (by simp [g])).symm
 ·rw [if_neg c,List.append_assoc,rf4_n]
  ·exact (z [] (a++e) l).symm
  ·intro A T m
   cases hs:zvu A with
   | false=>rfl
   | true =>
    exfalso
    have g:=zOn hs;refine c ?_
    have k:A.length<(a++e).length:=by
     rcases Nat.lt_or_ge A.length (a++e).length with h|h
     ·exact h
     ·exfalso
      obtain ⟨B,rfl⟩:∃B,A=(a++e)++B:=by
       have hp:(a++e) <+: A:=by
        have h1:(a++e) <+: (a++e)++(Q++F):=List.prefix_append _ _
        have h2:A <+: (a++e)++(Q++F):=by rw [m]; exact List.prefix_append _ _
        exact List.prefix_of_prefix_length_le h1 h2 h
       obtain ⟨B,h⟩:=hp; exact ⟨B,h.symm⟩
      simp only [List.append_assoc] at m;have D:=List.append_cancel_left (List.append_cancel_left m);have j:∀x∈B,x≠63∧x≠35:=fun x h=>⟨(g.2 x (by simp [h])).2.2.1,(g.2 x (by simp [h])).2.2.2⟩
      have:∀c t,Q++F=c::t→c=63∨c=35:=by
       intro c t h
       rcases r with rfl|⟨M,q,rfl,hc⟩
       ·rcases o with rfl|⟨d,f,rfl,hd⟩
        ·cases h
        ·cases h; right; simpa using hd
       ·cases h; left; simpa using hc
      cases B with
      | nil=>rcases this 58 T (by simpa using D) with h|h<;>cases h
      | cons y B =>
       rcases this y (B++58::T) (by simpa using D) with h|h
       ·exact (j y List.mem_cons_self).1 h
       ·exact (j y List.mem_cons_self).2 h
    obtain ⟨C,J⟩:∃C,a++e=A++58::C:=by
     have h1:(A++[58]) <+: (a++e)++(Q++F):=by rw [m,show A++58::T=(A++[58])++T by simp]; exact List.prefix_append _ _
     have h2:(A++[58]) <+: a++e:=List.prefix_of_prefix_length_le h1 (List.prefix_append _ _) (by simp at k ⊢; omega);obtain ⟨C,h⟩:=h2;exact ⟨C,by rw [← h]; simp⟩
    have i:upt [58,47] (a++e)=(A,58::C):=by
     rw [J];refine ziU (fun x h=>?_) (.inr ⟨_,_,rfl,rfl⟩);have:=g.2 x h;simp [this.1,this.2.1]
    rw [u] at i;have h1:=(Prod.mk.inj i).1;have h2:=(Prod.mk.inj i).2;subst h1 h2;exact ⟨by simp [List.isPrefixOf],hs⟩
theorem seg_58 (p:Str):(upt [47] p).1.contains 58=([58]:Str).isPrefixOf (upt [58,47] p).2:=by
 obtain ⟨a,e,rfl,o,j,m⟩:=zrA [58,47] p
 have g:∀x∈a,([47]:Str).contains x=false:=fun x d=>by
  have:=j x d;simp only [List.contains_cons,List.contains_nil,Bool.or_false,Bool.or_eq_false_iff] at this ⊢;exact this.2
 have i:a.contains 58=false:=by
  rw [Bool.eq_false_iff];intro h;have:=j 58 (by simpa using h)
  revert this; decide
 rw [o]
 rcases m with rfl|⟨c,t,rfl,hc⟩
 ·rw [ziU g (.inl rfl)]; exact i
 ·by_cases h:c=58
  ·subst h;obtain ⟨b,f,rfl,_,n,k⟩:=zrA [47] t
   have:=ziU (l:=[47]) (b:=a++58::b) (e:=f) (fun x d=>by
    rcases List.mem_append.1 d with d|d
    ·exact g x d
    ·rcases List.mem_cons.1 d with rfl|d
     ·decide
     ·exact n x d) k
   rw [show a++58::(b++f)=(a++58::b)++f by simp,this];simp [List.isPrefixOf]
  ·have hc:c=47:=by
    simp only [List.contains_cons,List.contains_nil,Bool.or_false,Bool.or_eq_true,beq_iff_eq] at hc;exact hc.resolve_left h
   subst hc;rw [ziU g (.inr ⟨_,_,rfl,rfl⟩)];simp only [List.isPrefixOf];rw [i]; rfl
end Go.Dm
end
section
namespace Go.Dm
variable {o r:List zZq}
theorem zKt {c:UInt8} {a b v w:Str} (h:a++c::v=b++c::w) (f:c∉a) (d:c∉b):a=b∧v=w:=by
 have k:∀(x y:Str),c∉x→upt [c] (x++c::y)=(x,c::y):=fun x y e=>ziU (fun z g=>by
  have:z≠c:=by rintro rfl; exact e g
  simpa using this) (.inr ⟨_,_,rfl,by simp⟩)
 have:=(k a v f).symm.trans ((congrArg (upt [c]) h).trans (k b w d));have h1:=(Prod.mk.inj this).1;have h2:=(List.cons.inj (Prod.mk.inj this).2).2;exact ⟨h1,h2⟩
theorem zQx {a:Str} (h:a.all zpv=true):(125:UInt8)∉a:=fun e=>by
 have:=List.all_eq_true.1 h 125 e;rw [zFh.1] at this; cases this
theorem sm_125 {a:Str} (h:a.all smB=true):(125:UInt8)∉a:=fun e=>by
 have:=List.all_eq_true.1 h 125 e;rw [zFh.2.1] at this; cases this
theorem PRn_1 {a v:Str} (h:(125:UInt8)∉a):PRn o (64::(a++125::v)) r↔(zij a=true∧PR (o++[⟨3,a⟩]) v r):=by
 rw [zNI];constructor
 ·rintro ⟨h1,w,h2,b⟩;have e:=zA2 zpv (a++125::v);rw [h2] at e;obtain ⟨c,d⟩:=zKt e (zQx (zC0 _ _)) h;rw [c] at h1 b;rw [d] at b;exact ⟨h1,b⟩
 ·rintro ⟨h1,h2⟩;have:=tw_u (g:=zpv) (a:=a) (by unfold zij at h1; rw [Bool.and_eq_true] at h1; exact h1.1) zFh.1 v;rw [this.1,this.2]; exact ⟨h1,_,rfl,h2⟩
theorem PRn_2 {n v:Str} (h:(125:UInt8)∉n) (h0:n≠[]) (c:∀u,n≠64::u):PRn o (n++125::v) r↔(n.all smB=true∧PR (o++[⟨2,n⟩]) v r):=by
 have hn:∀u,n++125::v≠64::u:=by
  intro u e
  cases n with
  | nil=>exact h0 rfl
  | cons x n=>simp at e; exact c n (by rw [e.1])
 rw [zKe hn];constructor
 ·rintro ⟨h1,w,h2,b⟩;have e:=zA2 smB (n++125::v);rw [h2] at e;obtain ⟨f,d⟩:=zKt e (sm_125 (zC0 _ _)) h;have:=zC0 smB (n++125::v);rw [f] at b this;rw [d] at b;exact ⟨this,b⟩
 ·rintro ⟨h1,h2⟩;have:=tw_u (g:=smB) (a:=n) h1 zFh.2.1 v;rw [this.1,this.2]; exact ⟨h0,_,rfl,h2⟩
theorem PRn_3 {v:Str}:¬ PRn o (125::v) r:=by
 rw [zKe (by intro u e; simp at e)];rintro ⟨h,_⟩;rw [List.takeWhile_cons,zFh.2.1] at h;exact h rfl
theorem PRn_4 {t:Str} (h:(125:UInt8)∉t):¬ PRn o t r:=by
 rcases t_1 t 64 with a|⟨u,rfl⟩
 ·rw [zKe a];rintro ⟨_,v,h2,_⟩;have e:=zA2 smB t;rw [h2] at e;exact h (by rw [← e]; simp)
 ·rw [zNI];rintro ⟨_,v,h2,_⟩;have e:=zA2 zpv u;rw [h2] at e;exact h (by rw [← e]; simp)
end Go.Dm
end
section
namespace Go.Dm
def RJ {α β:Type} (φ:β→α) (Q:β→Prop) (X:Option α) (Y:Option β):Prop:=(∀a,X=some a→∃b,Y=some b∧a=φ b)∧∀b,Y=some b→Q b
theorem bi' {α β:Type} {x:Option α} {f:α→Option β} {r:β} (h:x.bind f=some r):∃a,x=some a∧f a=some r:=Option.bind_eq_some_iff.1 h
section
variable {α β γ δ τ:Type} {φ:β→α} {Q:β→Prop} {ψ:δ→γ} {S:δ→Prop}
theorem zgr {a:α} {b:β} (h:a=φ b) (k:Q b):RJ φ Q (some a) (some b):=⟨fun _ e=>by cases e; exact ⟨b,rfl,h⟩,fun _ e=>by cases e; exact k⟩
theorem rj_n:RJ φ Q none none:=⟨fun _ e=>(by cases e),fun _ e=>(by cases e)⟩
theorem zbZ {x:Option τ} {f:τ→Option γ} {g:τ→Option δ} (k:∀a,x=some a→RJ ψ S (f a) (g a)):RJ ψ S (x.bind f) (x.bind g):=by
 cases x
 ·exact rj_n
 ·exact k _ rfl
theorem zk3 {X:Option α} {Y:Option β} {f:α→Option γ} {g:β→Option δ} (h:RJ φ Q X Y) (k:∀b,Q b→RJ ψ S (f (φ b)) (g b)):RJ ψ S (X.bind f) (Y.bind g):=by
 refine ⟨fun a e=>?_,fun b e=>?_⟩
 ·obtain ⟨x,c,d⟩:=bi' e;obtain ⟨y,i,rfl⟩:=h.1 x c;rw [i];exact (k y (h.2 y i)).1 a d
 ·obtain ⟨y,c,d⟩:=bi' e;exact (k y (h.2 y c)).2 b d
theorem zi2 {c:Prop} [Decidable c] {x a:Option α} {y b:Option β} (h:RJ φ Q x y) (h':RJ φ Q a b):RJ φ Q (if c then x else a) (if c then y else b):=by
 by_cases k:c
 ·rw [if_pos k,if_pos k]; exact h
 ·rw [if_neg k,if_neg k]; exact h'
theorem rj_g {c d:Prop} [Decidable c] [Decidable d] {x:Option α} {y:Option β} (h:RJ φ Q x y) (k:c→d):RJ φ Q (if c then x else none) (if d then y else none):=by
 by_cases l:d
 ·rw [if_pos l];refine ⟨fun a e=>?_,h.2⟩
  by_cases m:c
  ·rw [if_pos m] at e; exact h.1 a e
  ·rw [if_neg m] at e; cases e
 ·rw [if_neg l,if_neg fun m=>l (k m)]; exact rj_n
theorem znx {o:Option τ} {x:Option α} {y:Option β} {f:τ→Option α} {g:τ→Option β} (h:RJ φ Q x y) (k:∀t,RJ φ Q (f t) (g t)):RJ φ Q (Go.Rk.optK o x f) (Go.Rk.optK o y g):=by
 cases o with
 | none=>exact h
 | some t=>exact k t
end
theorem zMq {n m k:Nat} (h:zf (k+n) m 1=true):zf n m 1=true:=by
 unfold zf at *
 simp at *
 omega
def idl (s:zZv):Prop:=s.z0t=none∧∀a,s.Accum=some a→a.z0L=false
theorem zJU {k n:Int} {s:zZv} (h:zbN k n=some s):idl s:=by
 have j:∀(b:Bool) (r:Option zZA × Int),zdl k n b=some r→∀a,r.1=some a→a.z0L=false:=fun b r h a e=>by
  unfold zdl at h
  split at h
  ·cases h; cases e
  ·cases h; cases e; rfl
 have a:∀r,ziE k n=some r→∀a,r.1=some a→a.z0L=false:=fun r h=>by
  unfold ziE at h
  split at h
  ·split at h
   ·exact j _ r h
   ·split at h
    ·exact j _ r h
    ·exact j _ r h
  ·split at h
   ·exact j _ r h
   ·exact j _ r h
 unfold zbN at h
 cases e:ziE k n with
 | none=>rw [e] at h; cases h
 | some r =>
  rw [e] at h;have a:=a r e;obtain ⟨o,i⟩:=r
  cases o with
  | none=>cases h; exact ⟨rfl,fun _ e=>by cases e⟩
  | some x=>cases h; exact ⟨rfl,fun y e=>by cases e; exact a x rfl⟩
def glQ:Option zZC→Option zZC→Option zZC
 | some q,some r=>some ⟨⟨q.zZQ.z0g++r.zZQ.z0g,q.zZQ.zZE⟩,r.zZW⟩
 | _,_=>none
def JC (k g:zZk):zZk:=⟨glQ k.Queue g.Queue,g.z0h,g.zZF,g.zZ5,g.zZm,k.zZl,k.zZx,k.z0a++g.z0a,g.z0b,g.zZH,k.zZ3,k.z0c,k.zZU,k.zZW,k.zZX,k.zZo⟩
def JC2 (k:zZk) (r:Int × zZk):Int × zZk:=(r.1,JC k r.2)
def C0 (e g:zZk):Prop:=g.z0h=e.z0h∧g.zZF=e.zZF∧g.zZ5=e.zZ5∧g.z0b=e.z0b∧g.Queue=e.Queue
def Cp (e g:zZk):Prop:=g.z0h=e.z0h∧g.zZF=e.zZF∧g.zZ5=e.zZ5∧g.z0b=e.z0b∧(g.Queue=e.Queue∨∃t b,g.Queue=some ⟨⟨[t],1⟩,b⟩)
def C1 (e g:zZk):Prop:=g.z0h=e.z0h∧g.zZF=e.zZF∧g.zZ5=e.zZ5∧(g.z0b=e.z0b∨g.zZH=true)∧(g.Queue=e.Queue∨(∃t b,g.Queue=some ⟨⟨[t],1⟩,b⟩)∧idl g.zZm)
theorem C0_1 {e g:zZk} (h:C0 e g):C1 e g:=⟨h.1,h.2.1,h.2.2.1,.inl h.2.2.2.1,.inl h.2.2.2.2⟩
def Hk (k e:zZk):Prop:=∃q,k.Queue=some q∧q.zZQ.z0g.length<q.zZQ.zZE∧q.zZQ.zZE≤64∧e.Queue=some ⟨⟨[],1⟩,q.zZW⟩
section
variable {k e:zZk}
theorem zz9 (x:Int) (g:zZk) (h:C0 e g):RJ (JC k) (C1 e) (zV (JC k g) x) (zV g x):=zbZ fun r _=>zgr rfl ⟨h.1,h.2.1,h.2.2.1,.inr rfl,.inl h.2.2.2.2⟩
theorem zMr (l:List Str) (m:Int):∀(n:Nat) (i:Int) (g:zZk),C0 e g→RJ (JC k) (C0 e) (zD l m n (JC k g) i) (zD l m n g i)
 | 0,_,_,_=>rj_n
 | n+1,i,g,h=>by
  unfold zD;refine zi2 (zbZ fun r _=>rj_g (zbZ fun a _=>?_) fun k=>zMq (by rw [← List.length_append]; exact k)) (zgr rfl h);have:=zMr l m n a ⟨g.Queue,g.z0h,g.zZF,g.zZ5,g.zZm,g.zZl,g.zZx,g.z0a++r,g.z0b,g.zZH,g.zZ3,g.z0c,g.zZU,g.zZW,g.zZX,g.zZo⟩ h;unfold JC at this ⊢;simp only [← List.append_assoc] at this;exact this
theorem zMs (l:List Str) (g:zZk) (h:C0 e g):RJ (JC k) (C0 e) (zae (JC k g) l) (zae g l):=zMr l _ _ _ g h
theorem push_r {q:zZC} (h:q.zZQ.z0g.length<q.zZQ.zZE) (h2:q.zZQ.zZE≤64) (t:zZs) :
  RJ (fun r:Int × zZC=>(r.1,(⟨⟨q.zZQ.z0g++r.2.zZQ.z0g,q.zZQ.zZE⟩,r.2.zZW⟩:zZC))) (fun r=>r.2=⟨⟨[],1⟩,q.zZW⟩∨∃t b,r.2=⟨⟨[t],1⟩,b⟩)
   (zbI ⟨⟨q.zZQ.z0g++[],q.zZQ.zZE⟩,q.zZW⟩ [t]) (zbI ⟨⟨[],1⟩,q.zZW⟩ [t]):=by
 rw [List.append_nil]
 have a:zbt q.zZQ.zZE (q.zZQ.z0g.length:Int)=some (q.zZQ.zZE-q.zZQ.z0g.length):=by simp [zbt,inI]; omega
 have a2:zbt 1 (([]:List zZs).length:Int)=some 1:=rfl
 have a3:zf q.zZQ.z0g.length ([t]:List zZs).length 32=true:=by simp [zf]; omega
 have a4:zf ([]:List zZs).length ([t]:List zZs).length 32=true:=rfl
 have c:¬ decide (q.zZQ.zZE-(q.zZQ.z0g.length:Int)<(([t]:List zZs).length:Int))=true:=by simp; omega
 have d:¬ decide ((1:Int)<(([t]:List zZs).length:Int))=true:=by simp
 unfold zbI;refine zi2 (zgr (by simp) (.inl rfl)) ?_;simp only [a,a2,Option.bind_some];rw [if_neg c,if_neg d];refine zbZ fun b _=>zi2 (zgr (by simp) (.inl rfl)) ?_;rw [if_pos a3,if_pos a4];exact zi2 (zbZ fun e _=>zbZ fun f _=>zgr (by simp) (.inr ⟨t,_,rfl⟩)) (zgr (by simp) (.inr ⟨t,_,rfl⟩))
theorem zMt (t:zZs) (g:zZk) (h:Cp e g):RJ (JC k) (C1 e) (zav (JC k g) t) (zav g t) :=
 zbZ fun r a=>zgr rfl ⟨h.1,h.2.1,h.2.2.1,.inl h.2.2.2.1,h.2.2.2.2.elim .inl fun c => .inr ⟨c,zJU a⟩⟩
variable (hk:Hk k e)
include hk
theorem zGl (v:zZr) (g:zZk) (h:C0 e g):RJ (JC k) (C1 e) (zaw (JC k g) v) (zaw g v):=by
 obtain ⟨q,s,A,y,o⟩:=hk;obtain ⟨Q,ev,f,i,c,u,tc,tu,d,a,go,dr,m,n,j,cl⟩:=g;obtain ⟨h1,h2,x,z,l⟩:=h
 change Q=e.Queue at l
 rw [o] at l;subst l;refine zbZ fun r _=>?_
 have eq:(JC k ⟨some ⟨⟨[],1⟩,q.zZW⟩,ev,f,i,c,u,tc,tu,d,a,go,dr,m,n,j,cl⟩).Queue=some ⟨⟨q.zZQ.z0g++[],q.zZQ.zZE⟩,q.zZW⟩:=by
  show glQ k.Queue _=_;rw [s]; rfl
 rw [eq];refine zk3 (push_r A y _) fun p hp=>?_
 have:=zMt (k:=k) (e:=e) ⟨r.Method,r.Minor,r.Close⟩ ⟨some p.2,ev,f,i,c,u,tc,tu,d,a,go,dr,m,n,j,cl⟩ ⟨h1,h2,x,z,by
  rcases hp with hp|⟨t,b,hp⟩
  ·exact .inl (by show some p.2=_; rw [hp,o])
  ·exact .inr ⟨t,b,by show some p.2=_; rw [hp]⟩⟩
 have w:JC k ⟨some p.2,ev,f,i,c,u,tc,tu,d,a,go,dr,m,n,j,cl⟩=⟨some ⟨⟨q.zZQ.z0g++p.2.zZQ.z0g,q.zZQ.zZE⟩,p.2.zZW⟩,ev,f,i,c,k.zZl,k.zZx,k.z0a++tu,d,a,k.zZ3,k.z0c,k.zZU,k.zZW,k.zZX,k.zZo⟩:=by
  unfold JC;rw [s]; rfl
 rw [w] at this;exact this
theorem zv5 (s:Str) (g:zZk) (h:C0 e g):RJ (JC k) (C1 e) (z8 (JC k g) s) (z8 g s) :=
 zk3 (zMs [s] g h) fun r1 a=>znx (zbZ fun c _=>zGl hk c.1 ⟨r1.Queue,r1.z0h,r1.zZF,r1.zZ5,⟨none,r1.zZm.z0t,r1.zZm.zZD⟩,r1.zZl,r1.zZx,r1.z0a,r1.z0b,r1.zZH,r1.zZ3,r1.z0c,r1.zZU,r1.zZW,r1.zZX,r1.zZo⟩ a)
  fun b=>zbZ fun d _=>zGl hk d.1 ⟨r1.Queue,r1.z0h,r1.zZF,r1.zZ5,⟨some b,r1.zZm.z0t,r1.zZm.zZD⟩,r1.zZl,r1.zZx,r1.z0a,r1.z0b,r1.zZH,r1.zZ3,r1.z0c,r1.zZU,r1.zZW,r1.zZX,r1.zZo⟩ a
omit hk in
def cS (g:zZk) (a:Option zZA) (i:Option zZK) (o:Option zZz):zZk:=⟨g.Queue,g.z0h,g.zZF,g.zZ5,⟨a,i,o⟩,g.zZl,g.zZx,g.z0a,g.z0b,g.zZH,g.zZ3,g.z0c,g.zZU,g.zZW,g.zZX,g.zZo⟩
theorem zJV (g:zZk) (h:C0 e g):RJ (JC k) (C1 e) (zan (JC k g)) (zan g) :=
 znx (znx (zbZ fun m _=>zbZ fun i _=>zv5 hk i.1 (cS g g.zZm.Accum none none) h) fun f=>zbZ fun n _=>zbZ fun j _=>zv5 hk j.1 (cS g g.zZm.Accum (some f) none) h)
  fun l=>znx (zbZ fun o _=>zbZ fun b _=>zv5 hk b.1 (cS g g.zZm.Accum none (some b.2.2)) h) fun d=>zbZ fun c _=>zbZ fun a _=>zv5 hk a.1 (cS g g.zZm.Accum (some d) (some a.2.2)) h
theorem zGm (t:Bool) (g:zZk) (h:C0 e g):RJ (JC k) (C1 e) (zax (JC k g) t) (zax g t) :=
 zi2 (zk3 (zJV hk g h) fun r a=>zgr rfl a) (zgr rfl (C0_1 h))
theorem zGn (g:zZk) (h:C0 e g):RJ (JC k) (C1 e) (zay (JC k g)) (zay g) :=
 znx (zbZ fun r _=>zGm hk r (cS g g.zZm.Accum none g.zZm.zZD) h) fun b=>zbZ fun r _=>zGm hk r (cS g g.zZm.Accum (some b) g.zZm.zZD) h
theorem zGo (v:zZw) (g:zZk) (h:C0 e g):RJ (JC k) (C1 e) (zaz (JC k g) v) (zaz g v) :=
 zbZ fun r _=>znx (zGn hk (cS g g.zZm.Accum g.zZm.z0t none) h) fun b=>zGn hk (cS g g.zZm.Accum g.zZm.z0t (some b)) h
theorem zGp (v:zZr) (g:zZk) (h:C0 e g):RJ (JC k) (C1 e) (zaA (JC k g) v) (zaA g v) :=
 zbZ (x:=zbP g v) fun d _=>zi2 (zk3 (zz9 _ g h) fun r b=>zgr rfl b) (zk3 (zMs _ g h) fun a b=>zbZ fun f _=>znx (zGo hk _ (cS a a.zZm.Accum none a.zZm.zZD) b) fun c=>zGo hk _ (cS a a.zZm.Accum (some c) a.zZm.zZD) b)
theorem zPt (g:zZk) (h:C0 e g):RJ (JC k) (C1 e) (zaX (JC k g)) (zaX g) :=
 znx (zbZ fun r _=>zGp hk _ (cS g none g.zZm.z0t g.zZm.zZD) h) fun b=>zbZ fun r _=>zGp hk _ (cS g (some b) g.zZm.z0t g.zZm.zZD) h
theorem zMu (i:Int) (t:Bool) (x:Int) (g:zZk) (h:C0 e g):RJ (JC2 k) (fun r=>C1 e r.2) (zp (JC k g) i t x) (zp g i t x) :=
 zi2 (zk3 (zz9 _ g h) fun r a=>zgr rfl a) (zi2 (zk3 (zPt hk g h) fun r a=>zgr rfl a) (zgr rfl (C0_1 h)))
theorem zMv (i:Int) (t:Bool) (x:Int) (s:Str) (g:zZk) (h:C0 e g):RJ (JC2 k) (fun r=>C1 e r.2) (zA (JC k g) i t x s) (zA g i t x s) :=
 zk3 (zMs _ g h) fun b h1=>zi2 (zk3 (zz9 _ b h1) fun r a=>zgr rfl a) (zi2 (zk3 (zJV hk b h1) fun r a=>zgr rfl a) (zgr rfl (C0_1 h1)))
theorem zMw (i:Int) (s:Str) (t:Bool) (x:Int) (g:zZk) (h:C0 e g):RJ (JC2 k) (fun r=>C1 e r.2) (zW (JC k g) i s t x) (zW g i s t x) :=
 znx (zbZ fun r _=>zMv hk i t x r.1 (cS g g.zZm.Accum g.zZm.z0t none) h) fun w=>zbZ fun r _=>zMv hk i t x r.1 (cS g g.zZm.Accum g.zZm.z0t (some r.2.2)) h
theorem zMx (s:Str) (t:Bool) (g:zZk) (h:C0 e g):RJ (JC2 k) (fun r=>C1 e r.2) (zK (JC k g) s t) (zK g s t) :=
 zi2 (znx (zbZ fun r _=>zMu hk _ _ _ (cS g none g.zZm.z0t g.zZm.zZD) h) fun a=>zbZ fun r _=>zMu hk _ _ _ (cS g (some r.2.2.2) g.zZm.z0t g.zZm.zZD) h)
  (znx (zbZ fun r _=>zMw hk _ _ _ _ (cS g g.zZm.Accum none g.zZm.zZD) h) fun b=>zbZ fun r _=>zMw hk _ _ _ _ (cS g g.zZm.Accum (some r.2.2.2.2) g.zZm.zZD) h)
theorem req_r (s:Str) (g:zZk) (h:C0 e g):RJ (JC2 k) (fun r=>C1 e r.2) (ze (JC k g) s) (ze g s) :=
 znx (zMx hk s true (cS g g.zZm.Accum none g.zZm.zZD) h) fun b=>zMx hk s false (cS g g.zZm.Accum (some b) g.zZm.zZD) h
end
def bC (g:zZk) (b:Bool):zZk:=⟨some ⟨⟨[],1⟩,b⟩,g.z0h,g.zZF,g.zZ5,g.zZm,⟨none,none,none⟩,[],[],g.z0b,g.zZH,false,false,false,false,false,false⟩
theorem JC_b {g:zZk} {q:zZC} (h:g.Queue=some q):JC g (bC g q.zZW)=g:=by
 obtain ⟨Q,ev,i,k,c,u,tc,tu,e,a,go,dr,f,j,d,cl⟩:=g
 change Q=some q at h
 subst h;obtain ⟨⟨l,m⟩,b⟩:=q;show (⟨some ⟨⟨l++[],m⟩,b⟩,_,_,_,_,_,_,tu++[],_,_,_,_,_,_,_,_⟩:zZk)=_;rw [List.append_nil,List.append_nil]; rfl
theorem req_j {g:zZk} {q:zZC} (h:g.Queue=some q) (h1:q.zZQ.z0g.length<q.zZQ.zZE) (h2:q.zZQ.zZE≤64) (s:Str):RJ (JC2 g) (fun r=>C1 (bC g q.zZW) r.2) (ze g s) (ze (bC g q.zZW) s):=by
 have:=req_r (k:=g) (e:=bC g q.zZW) ⟨q,h,h1,h2,rfl⟩ s (bC g q.zZW) ⟨rfl,rfl,rfl,rfl,rfl⟩
 rwa [JC_b h] at this
end Go.Dm
end
section
namespace Go.Dm
variable {l:List zZs} {b:Bool} {g:zZk} {t:zZs} {m:Int}
def guQ:Option zZC→Option zZC→Option zZC
 | some q,some r=>some ⟨⟨r.zZQ.z0g++q.zZQ.z0g.tail,q.zZQ.zZE⟩,q.zZW⟩
 | _,_=>none
def JU (k g:zZk):zZk:=⟨guQ k.Queue g.Queue,g.z0h,g.zZF,g.zZ5,bif g.zZo then g.zZm else k.zZm,g.zZl,k.zZx++g.zZx,k.z0a,k.z0b,k.zZH,k.zZ3,g.z0c,g.zZU,g.zZW,g.zZX,g.zZo⟩
def JU2 (k:zZk) (r:Int × zZk):Int × zZk:=(r.1,JU k r.2)
def D0 (e g:zZk):Prop:=g.z0h=e.z0h∧g.zZF=e.zZF∧g.zZ5=e.zZ5∧g.Queue=e.Queue
def D1 (e g:zZk):Prop:=g.z0h=e.z0h∧g.zZF=e.zZF∧g.zZ5=e.zZ5∧(g.Queue=e.Queue∨g.Queue=some ⟨⟨[],0⟩,false⟩∧g.zZU=false)
theorem zyF {e g:zZk} (h:D0 e g):D1 e g:=⟨h.1,h.2.1,h.2.2.1,.inl h.2.2.2⟩
def Hu (k e:zZk):Prop:=∃t l m b,k.Queue=some ⟨⟨t::l,m⟩,b⟩∧e.Queue=some ⟨⟨[t],0⟩,false⟩
section
variable {k e:zZk}
theorem zIo (l:List Str) (m:Int):∀(n:Nat) (i:Int) (g:zZk),D0 e g→RJ (JU k) (D0 e) (zC l m n (JU k g) i) (zC l m n g i)
 | 0,_,_,_=>rj_n
 | n+1,i,g,h=>by
  unfold zC;refine zi2 (zbZ fun r _=>rj_g (zbZ fun a _=>?_) fun k=>zMq (by rw [← List.length_append]; exact k)) (zgr rfl h);have:=zIo l m n a ⟨g.Queue,g.z0h,g.zZF,g.zZ5,g.zZm,g.zZl,g.zZx++r,g.z0a,g.z0b,g.zZH,g.zZ3,g.z0c,g.zZU,g.zZW,g.zZX,g.zZo⟩ h;unfold JU at this ⊢;simp only [← List.append_assoc] at this;exact this
theorem zGr (l:List Str) (g:zZk) (h:D0 e g):RJ (JU k) (D0 e) (zY (JU k g) l) (zY g l):=zIo l _ _ _ g h
theorem zv6 {Q:zZk→Prop} (g:zZk) (h:Q ⟨g.Queue,g.z0h,g.zZF,g.zZ5,⟨none,none,none⟩,⟨none,none,none⟩,g.zZx,g.z0a,g.z0b,g.zZH,g.zZ3,g.z0c,g.zZU,g.zZW,g.zZX,true⟩):RJ (JU k) Q (zT (JU k g)) (zT g):=zgr rfl h
theorem tell_u (c:Int) (g:zZk) (h:D0 e g):RJ (JU k) (D0 e) (zO (JU k g) c) (zO g c) :=
 zbZ fun r _=>zk3 (zGr _ g h) fun a h2=>zk3 (zv6 (Q:=D0 e) a h2) fun d b=>zgr rfl b
def uS (g:zZk) (a:Option zZA) (i:Option zZK) (o:Option zZz):zZk:=⟨g.Queue,g.z0h,g.zZF,g.zZ5,g.zZm,⟨a,i,o⟩,g.zZx,g.z0a,g.z0b,g.zZH,g.zZ3,g.z0c,g.zZU,g.zZW,g.zZX,g.zZo⟩
def uF (g:zZk) (d b l y:Bool):zZk:=⟨g.Queue,g.z0h,g.zZF,g.zZ5,g.zZm,g.zZl,g.zZx,g.z0a,g.z0b,g.zZH,g.zZ3,d,b,l,y,g.zZo⟩
theorem zGs (i:Int) (g:zZk) (h:D0 e g):RJ (JU2 k) (fun r=>D0 e r.2) (zak (JU k g) i) (zak g i):=zbZ fun r _=>zgr rfl h
theorem zGt (i:Int) (s:Str) (t:Bool) (g:zZk) (h:D0 e g):RJ (JU2 k) (fun r=>D0 e r.2) (zal (JU k g) i s t) (zal g i s t) :=
 zi2 (zk3 (zGr _ g h) fun r a=>zGs i r a) (zGs i g h)
theorem zPv (v:zZr) (t:zZs) (g:zZk) (h:D0 e g):RJ (JU2 k) (fun r=>D0 e r.2) (za2 (JU k g) v t) (za2 g v t) :=
 zbZ fun a _=>zi2 (zgr rfl h) (zbZ fun b _=>zi2 (zGt _ _ _ g h) (zGt _ _ _ g h))
theorem zMy (g:zZk) (h:D1 e g):RJ (JU k) (D1 e) (zag (JU k g)) (zag g) :=
 zbZ fun r _=>zi2 (zk3 (zv6 (Q:=D1 e) ⟨g.Queue,g.z0h,g.zZF,g.zZ5,g.zZm,r,g.zZx,g.z0a,g.z0b,g.zZH,g.zZ3,g.z0c,g.zZU,g.zZW,g.zZX,g.zZo⟩ h) fun a h2=>zgr rfl h2) (zgr rfl h)
theorem ans1_u (g:zZk) (h:D0 e g∨g.z0h=e.z0h∧g.zZF=e.zZF∧g.zZ5=e.zZ5∧g.Queue=some ⟨⟨[],0⟩,false⟩):RJ (JU k) (D1 e) (zah (JU k g)) (zah g):=by
 have d:∀x,D1 e (uF g x false g.zZW g.zZX):=fun x=>by
  rcases h with h|h
  ·exact ⟨h.1,h.2.1,h.2.2.1,.inl h.2.2.2⟩
  ·exact ⟨h.1,h.2.1,h.2.2.1,.inr ⟨h.2.2.2,rfl⟩⟩
 exact zi2 (zMy (uF g true false g.zZW g.zZX) (d _)) (zMy (uF g g.zZX false g.zZW g.zZX) (d _))
variable (hk:Hu k e)
include hk
theorem zDX (s:Str) (g:zZk) (h:D0 e g):RJ (JU k) (D1 e) (zQ (JU k g) s) (zQ g s):=by
 obtain ⟨t,l,m,b,q,y⟩:=hk;refine zk3 (zGr _ g h) fun r z=>?_;obtain ⟨Q,ev,i,n,c,u,tc,tu,o,a,go,dr,f,j,d,cl⟩:=r;obtain ⟨h1,h2,w,p⟩:=z
 change Q=e.Queue at p
 rw [y] at p;subst p
 have eq:(JU k ⟨some ⟨⟨[t],0⟩,false⟩,ev,i,n,c,u,tc,tu,o,a,go,dr,f,j,d,cl⟩).Queue=some ⟨⟨t::l,m⟩,b⟩:=by
  show guQ k.Queue _=_;rw [q]; rfl
 rw [eq];show RJ (JU k) (D1 e) ((zaY ⟨⟨t::l,m⟩,b⟩).bind _) ((zaY ⟨⟨[t],0⟩,false⟩).bind _)
 have A:zaY ⟨⟨t::l,m⟩,b⟩=some (true,⟨⟨l,m⟩,b⟩):=by
  unfold zaY;rw [if_neg (by simp; omega)];simp [lAt,zoc];rw [if_pos (by omega)]; rfl
 have x:zaY ⟨⟨[t],0⟩,false⟩=some (true,⟨⟨[],0⟩,false⟩):=by
  unfold zaY;rw [if_neg (by simp)];simp [lAt,zoc]
 rw [A,x];have:=ans1_u (k:=k) (e:=e) ⟨some ⟨⟨[],0⟩,false⟩,ev,i,n,c,u,tc,tu,o,a,go,dr,f,j,d,cl⟩ (.inr ⟨h1,h2,w,rfl⟩)
 have v:JU k ⟨some ⟨⟨[],0⟩,false⟩,ev,i,n,c,u,tc,tu,o,a,go,dr,f,j,d,cl⟩=⟨some ⟨⟨l,m⟩,b⟩,ev,i,n,bif cl then c else k.zZm,u,k.zZx++tc,k.z0a,k.z0b,k.zZH,k.zZ3,dr,f,j,d,cl⟩:=by
  unfold JU;rw [q]; rfl
 rw [v] at this;exact this
theorem zMz (g:zZk) (h:D0 e g):RJ (JU k) (D1 e) (zL (JU k g)) (zL g) :=
 znx (znx (zbZ fun m _=>zbZ fun i _=>zDX hk i.1 (uS g g.zZl.Accum none none) h) fun f=>zbZ fun n _=>zbZ fun j _=>zDX hk j.1 (uS g g.zZl.Accum (some f) none) h)
  fun l=>znx (zbZ fun o _=>zbZ fun b _=>zDX hk b.1 (uS g g.zZl.Accum none (some b.2.2)) h) fun d=>zbZ fun c _=>zbZ fun a _=>zDX hk a.1 (uS g g.zZl.Accum (some d) (some a.2.2)) h
theorem zMA (t:Bool) (g:zZk) (h:D0 e g):RJ (JU2 k) (fun r=>D1 e r.2) (zaB (JU k g) t) (zaB g t) :=
 zi2 (zk3 (zMz hk g h) fun r a=>zgr rfl a) (zgr rfl (zyF h))
theorem zMB (g:zZk) (h:D0 e g):RJ (JU2 k) (fun r=>D1 e r.2) (zaC (JU k g)) (zaC g) :=
 znx (zbZ fun r _=>zMA hk r (uS g g.zZl.Accum none g.zZl.zZD) h) fun b=>zbZ fun r _=>zMA hk r (uS g g.zZl.Accum (some b) g.zZl.zZD) h
theorem zMC (v:zZw) (g:zZk) (h:D0 e g):RJ (JU2 k) (fun r=>D1 e r.2) (zaD (JU k g) v) (zaD g v) :=
 zbZ fun r _=>znx (zMB hk (uS g g.zZl.Accum g.zZl.z0t none) h) fun w=>zMB hk (uS g g.zZl.Accum g.zZl.z0t (some w)) h
theorem zMD (t:zZs) (f b:zZw) (v:zZr) (g:zZk) (h:D0 e g):RJ (JU2 k) (fun r=>D1 e r.2) (zaE (JU k g) t f b v) (zaE g t f b v) :=
 zbZ fun i _=>zbZ fun j _=>zi2 (zgr rfl (zyF h)) (zk3 (zGr _ g h) fun a c=>zbZ fun l _=>znx (zMC hk _ (uF (uS a a.zZl.Accum none a.zZl.zZD) a.z0c true a.zZW a.zZX) c) fun d=>zMC hk _ (uF (uS a a.zZl.Accum (some d) a.zZl.zZD) a.z0c true a.zZW a.zZX) c)
theorem zME (v0:zZr) (t:zZs) (f a:zZw) (v:zZr) (g:zZk) (h:D0 e g):RJ (JU2 k) (fun r=>D1 e r.2) (zaU (JU k g) v0 t f a v) (zaU g v0 t f a v) :=
 zbZ fun r _=>zi2 (zMD hk _ _ _ _ (uF g g.z0c g.zZU g.zZW true) h) (zMD hk _ _ _ _ (uF g g.z0c g.zZU g.zZW (f.Kind==4)) h)
theorem fin_u (v:zZr) (t:zZs) (g:zZk) (h:D0 e g):RJ (JU2 k) (fun r=>D1 e r.2) (zbd (JU k g) v t) (zbd g v t) :=
 zbZ fun a _=>zi2 (zgr rfl (zyF h)) (zbZ fun r2 _=>zbZ fun b _=>zi2 (zgr rfl (zyF h)) (zi2 (zME hk _ _ _ _ _ (uF g g.z0c g.zZU true g.zZX) h) (zME hk _ _ _ _ _ (uF g g.z0c g.zZU (r2.Kind==4) g.zZX) h)))
omit hk in
theorem zPw (c:Int) (g:zZk) (h:D1 e g):RJ (JU k) (D1 e) (zO (JU k g) c) (zO g c):=by
 refine zbZ fun r _=>?_;have:=zIo (k:=k) (e:=g) [r] (([r]:List Str).length:Int) fuel 0 g ⟨rfl,rfl,rfl,rfl⟩;refine ⟨(zk3 this fun d h2=>zk3 (zv6 (Q:=fun _=>True) d trivial) fun o _=>zgr (Q:=fun _=>True) rfl trivial).1,fun b f=>?_⟩
 cases j:zY g [r] with
 | none=>rw [j] at f; cases f
 | some d =>
  rw [j] at f;have q:=this.2 d j;unfold zT at f;simp only [Option.bind_some,Option.some.injEq] at f;subst f
  have l:zZk.zZU g=d.zZU:=by
   have:∀(n:Nat) (i:Int) (g d:zZk),zC [r] (([r]:List Str).length:Int) n g i=some d→g.zZU=d.zZU:=fun n=>by
    induction n with
    | zero=>intro i g d h; cases h
    | succ n m =>
     intro i g d h;unfold zC at h
     split at h
     ·obtain ⟨a,_,h⟩:=Option.bind_eq_some_iff.1 h
      split at h
      ·obtain ⟨a2,_,h⟩:=Option.bind_eq_some_iff.1 h;have t:=m _ _ _ h;exact t
      ·cases h
     ·cases h; rfl
   exact this _ _ _ _ j
  refine ⟨q.1.trans h.1,q.2.1.trans h.2.1,q.2.2.1.trans h.2.2.1,?_⟩
  rcases h.2.2.2 with a|⟨a,b⟩
  ·exact .inl (q.2.2.2.trans a)
  ·exact .inr ⟨q.2.2.2.trans a,l.symm.trans b⟩
omit hk in
theorem zMF (i:Int) (g:zZk) (h:D1 e g):RJ (JU k) (D1 e) (zab (JU k g) i) (zab g i) :=
 zi2 (zk3 (zPw _ g h) fun r a=>zgr rfl a) (zgr rfl h)
theorem aw1_u (v:zZr) (t:zZs) (g:zZk) (h:D0 e g):RJ (JU k) (D1 e) (zam (JU k g) v t) (zam g v t) :=
 zi2 (zMF _ g (zyF h)) (zi2 (zk3 (zPv v t g h) fun r a=>zMF _ r.2 (zyF a)) (zk3 (fin_u hk v t g h) fun r a=>zMF _ r.2 a))
theorem aw2_u (v:zZr) (g:zZk) (h:D0 e g):RJ (JU k) (D1 e) (zac (JU k g) v) (zac g v):=by
 have n:=hk;obtain ⟨t,l,m,b,x,z⟩:=hk;obtain ⟨Q,ev,j,p,c,u,tc,tu,q,a,go,dr,i,o,f,cl⟩:=g;obtain ⟨h1,h2,w,d⟩:=h
 change Q=e.Queue at d
 have r:=d;rw [z] at d;subst d
 have s:JU k ⟨some ⟨⟨[t],0⟩,false⟩,ev,j,p,c,u,tc,tu,q,a,go,dr,i,o,f,cl⟩=⟨some ⟨⟨t::l,m⟩,b⟩,ev,j,p,bif cl then c else k.zZm,u,k.zZx++tc,k.z0a,k.z0b,k.zZH,k.zZ3,dr,i,o,f,cl⟩:=by
  unfold JU;rw [x]; rfl
 have y:zaH ⟨⟨t::l,m⟩,b⟩=some (t,true):=by
  unfold zaH zdL;rw [if_neg (by simp; omega)];simp [lAt]
 have A:zaH ⟨⟨[t],0⟩,false⟩=some (t,true):=by
  unfold zaH zdL;rw [if_neg (by simp)];simp [lAt]
 have:=aw1_u n v t ⟨some ⟨⟨[t],0⟩,false⟩,ev,j,p,c,u,tc,tu,q,a,go,dr,i,o,f,cl⟩ ⟨h1,h2,w,r⟩;rw [s] at this ⊢;unfold zac;show RJ (JU k) (D1 e) ((zaH ⟨⟨t::l,m⟩,b⟩).bind _) ((zaH ⟨⟨[t],0⟩,false⟩).bind _);rw [y,A];exact this
theorem aw_u (g:zZk) (h:D0 e g):RJ (JU k) (D1 e) (zaK (JU k g)) (zaK g) :=
 znx (zbZ fun r _=>aw2_u hk _ (uS g none g.zZl.z0t g.zZl.zZD) h) fun a=>zbZ fun r _=>aw2_u hk _ (uS g (some a) g.zZl.z0t g.zZl.zZD) h
theorem zMG (i:Int) (t:Bool) (x:Int) (g:zZk) (h:D0 e g):RJ (JU2 k) (fun r=>D1 e r.2) (zm (JU k g) i t x) (zm g i t x) :=
 zi2 (zk3 (tell_u _ g h) fun r a=>zgr rfl (zyF a)) (zi2 (zk3 (aw_u hk g h) fun r a=>zgr rfl a) (zgr rfl (zyF h)))
theorem zMH (i:Int) (t:Bool) (x:Int) (s:Str) (g:zZk) (h:D0 e g):RJ (JU2 k) (fun r=>D1 e r.2) (zw (JU k g) i t x s) (zw g i t x s) :=
 zk3 (zGr _ g h) fun b h1=>zi2 (zk3 (zv6 (Q:=D1 e) b (zyF h1)) fun r a=>zgr rfl a) (zi2 (zk3 (zMz hk b h1) fun r a=>zgr rfl a) (zgr rfl (zyF h1)))
theorem zMI (i:Int) (s:Str) (t:Bool) (x:Int) (g:zZk) (h:D0 e g):RJ (JU2 k) (fun r=>D1 e r.2) (zR (JU k g) i s t x) (zR g i s t x) :=
 znx (zbZ fun r _=>zMH hk i t x r.1 (uS g g.zZl.Accum g.zZl.z0t none) h) fun w=>zbZ fun r _=>zMH hk i t x r.1 (uS g g.zZl.Accum g.zZl.z0t (some r.2.2)) h
theorem zMJ (s:Str) (t:Bool) (g:zZk) (h:D0 e g):RJ (JU2 k) (fun r=>D1 e r.2) (zH (JU k g) s t) (zH g s t) :=
 zi2 (znx (zbZ fun r _=>zMG hk _ _ _ (uS g none g.zZl.z0t g.zZl.zZD) h) fun a=>zbZ fun r _=>zMG hk _ _ _ (uS g (some r.2.2.2) g.zZl.z0t g.zZl.zZD) h)
  (znx (zbZ fun r _=>zMI hk _ _ _ _ (uS g g.zZl.Accum none g.zZl.zZD) h) fun b=>zbZ fun r _=>zMI hk _ _ _ _ (uS g g.zZl.Accum (some r.2.2.2.2) g.zZl.zZD) h)
theorem res_u (s:Str) (g:zZk) (h:D0 e g):RJ (JU2 k) (fun r=>D1 e r.2) (zj (JU k g) s) (zj g s) :=
 znx (zMJ hk s true (uS g g.zZl.Accum none g.zZl.zZD) h) fun b=>zMJ hk s false (uS g g.zZl.Accum (some b) g.zZl.zZD) h
end
noncomputable def ueJ (g:zZk) (t:Bool):Option zZk:=if t then (zL g).bind fun r=>some r else (zT g).bind fun r=>some r
noncomputable def ueR (g:zZk):Option zZk:=if g.zZU then Go.Rk.optK g.zZl.z0t (zjm.bind fun r=>ueJ (uF (uS g g.zZl.Accum none g.zZl.zZD) true g.zZU g.zZW g.zZX) r.1) fun b=>(zfa b).bind fun r=>ueJ (uF (uS g g.zZl.Accum (some r.2.2) g.zZl.zZD) true g.zZU g.zZW g.zZX) r.1 else some (uF g true g.zZU g.zZW g.zZX)
theorem ueJ_u {k e:zZk} (b:Hu k e) (t:Bool) (g:zZk) (h:D0 e g):RJ (JU k) (D1 e) (ueJ (JU k g) t) (ueJ g t) :=
 zi2 (zk3 (zMz b g h) fun r a=>zgr rfl a) (zk3 (zv6 (Q:=D1 e) g (zyF h)) fun r a=>zgr rfl a)
theorem ue_u {k e:zZk} (a:Hu k e) (g:zZk) (h:D0 e g):RJ (JU k) (D1 e) (ueR (JU k g)) (ueR g) :=
 zi2 (znx (zbZ fun r _=>ueJ_u a r.1 (uF (uS g g.zZl.Accum none g.zZl.zZD) true g.zZU g.zZW g.zZX) h) fun b=>zbZ fun r _=>ueJ_u a r.1 (uF (uS g g.zZl.Accum (some r.2.2) g.zZl.zZD) true g.zZU g.zZW g.zZX) h) (zgr rfl (zyF h))
def bU (g:zZk) (t:zZs):zZk:=⟨some ⟨⟨[t],0⟩,false⟩,g.z0h,g.zZF,g.zZ5,⟨none,none,none⟩,g.zZl,[],[],0,false,false,g.z0c,g.zZU,g.zZW,g.zZX,false⟩
theorem JU_b (h:g.Queue=some ⟨⟨t::l,m⟩,b⟩) (hc:g.zZo=false):JU g (bU g t)=g:=by
 obtain ⟨Q,ev,i,k,c,u,tc,tu,e,a,go,dr,f,j,d,cl⟩:=g
 change Q=_ at h
 change cl=_ at hc
 subst h; subst hc;show (⟨_,_,_,_,_,_,tc++[],_,_,_,_,_,_,_,_,_⟩:zZk)=_;rw [List.append_nil]; rfl
theorem res_j (h:g.Queue=some ⟨⟨t::l,m⟩,b⟩) (hc:g.zZo=false) (s:Str):RJ (JU2 g) (fun r=>D1 (bU g t) r.2) (zj g s) (zj (bU g t) s):=by
 have:=res_u (k:=g) (e:=bU g t) ⟨t,l,m,b,h,rfl⟩ s (bU g t) ⟨rfl,rfl,rfl,rfl⟩
 rwa [JU_b h hc] at this
theorem ue_j (h:g.Queue=some ⟨⟨t::l,m⟩,b⟩) (hc:g.zZo=false):RJ (JU g) (D1 (bU g t)) (ueR g) (ueR (bU g t)):=by
 have:=ue_u (k:=g) (e:=bU g t) ⟨t,l,m,b,h,rfl⟩ (bU g t) ⟨rfl,rfl,rfl,rfl⟩
 rwa [JU_b h hc] at this
end Go.Dm
end
section
namespace Go.Dm
variable {g:zZk} {l:List zZs} {b:Bool} {t:zZs} {m:Int}
def ql (g:zZk):Nat:=match g.Queue with|some q=>q.zZQ.z0g.length|none=>0
def clo (g:zZk):zZk:=⟨g.Queue,g.z0h,g.zZF,g.zZ5,⟨none,none,none⟩,⟨none,none,none⟩,g.zZx,g.z0a,g.z0b,g.zZH,g.zZ3,g.z0c,g.zZU,g.zZW,g.zZX,true⟩
noncomputable def tel (g:zZk) (c:Int):zZk:=⟨g.Queue,g.z0h,g.zZF,g.zZ5,⟨none,none,none⟩,⟨none,none,none⟩,g.zZx++(zq0 c).getD [],g.z0a,g.z0b,g.zZH,g.zZ3,g.z0c,g.zZU,g.zZW,g.zZX,true⟩
noncomputable def sg (g:zZk):zZk :=
 if g.zZo=true then g else if 0<ql g∧g.z0c=true∧g.zZU=false then tel g 502 else if 0<ql g then g else if g.z0b≠0 then tel g g.z0b else if g.zZ3=true then clo g else g
theorem sg_c:(sg g).zZo=true∨sg g=g:=by
 unfold sg
 split
 ·exact .inl ‹_›
 split
 ·exact .inl rfl
 split
 ·exact .inr rfl
 split
 ·exact .inl rfl
 split
 ·exact .inl rfl
 ·exact .inr rfl
theorem sg_k (h:g.zZo=true):sg g=g:=by unfold sg; rw [if_pos h]
theorem sg_n (h:(sg g).zZo=false):g.zZo=false∧sg g=g∧(0<ql g→g.z0c=true→g.zZU=true)∧(ql g=0→g.z0b=0∧g.zZ3=false):=by
 have e:sg g=g:=sg_c.resolve_left (by rw [h]; simp)
 have hc:g.zZo=false:=by rw [e] at h; exact h
 refine ⟨hc,e,?_,?_⟩
 ·intro h1 h2
  cases hb:g.zZU with
  | true=>rfl
  | false =>
   unfold sg at h;rw [if_neg (by rw [hc]; simp),if_pos ⟨h1,h2,hb⟩] at h;cases h
 ·intro h1;unfold sg at h;rw [if_neg (by rw [hc]; simp),if_neg (by omega),if_neg (by omega)] at h
  by_cases k:g.z0b=0
  ·rw [if_neg (by simpa using k)] at h;refine ⟨k,?_⟩
   cases hg:g.zZ3 with
   | false=>rfl
   | true=>rw [if_pos hg] at h; cases h
  ·rw [if_pos k] at h; cases h
theorem zHs (h1:0<ql g→g.z0c=true→g.zZU=true) (h2:ql g=0→g.z0b=0∧g.zZ3=false):sg g=g:=by
 unfold sg
 split
 ·rfl
 rw [if_neg (by rintro ⟨a,b,c⟩; rw [h1 a b] at c; cases c)]
 split
 ·rfl
 ·obtain ⟨a,b⟩:=h2 (by omega);rw [if_neg (by simpa using a),if_neg (by rw [b]; simp)]
theorem sg_w {g w:zZk} (hc:g.zZo=false) (o:w.zZo=false) (h:(sg g).zZo=true) (e:w.zZx=g.zZx) (d:w.z0c=g.z0c∨ql g=0∧ql w=0) (m:w.zZU=g.zZU) (p:ql g≤ql w) (l:ql g=0→g.z0b=0∧g.zZ3=false∨ql w=0∧w.z0b=g.z0b∧(g.zZ3=true→w.zZ3=true)):(sg w).zZo=true∧(sg w).zZx=(sg g).zZx:=by
 have j:sg w=if 0<ql w∧w.z0c=true∧w.zZU=false then tel w 502 else if 0<ql w then w else if w.z0b≠0 then tel w w.z0b else if w.zZ3=true then clo w else w:=by
  unfold sg;rw [if_neg (by rw [o]; simp)]
 rw [j]
 have hd:∀{P:Prop},g.zZo=true→P:=fun c=>by rw [hc] at c; cases c
 by_cases n0:0<ql g
 ·by_cases a:g.z0c=true∧g.zZU=false
  ·have d:w.z0c=g.z0c:=d.elim id fun c=>by omega
   have k:sg g=tel g 502:=by
    unfold sg;rw [if_neg (by rw [hc]; simp),if_pos ⟨n0,a⟩]
   rw [k,if_pos ⟨by omega,by rw [d]; exact a.1,by rw [m]; exact a.2⟩];exact ⟨rfl,by show w.zZx++_=g.zZx++_; rw [e]⟩
  ·have k:sg g=g:=by
    unfold sg;rw [if_neg (by rw [hc]; simp),if_neg (fun c=>a c.2),if_pos n0]
   rw [k] at h; exact hd h
 ·have n:sg g=if g.z0b≠0 then tel g g.z0b else if g.zZ3=true then clo g else g:=by
   unfold sg;rw [if_neg (by rw [hc]; simp),if_neg (fun c=>n0 c.1),if_neg n0]
  rw [n] at h ⊢
  rcases l (by omega) with ⟨a,b⟩|⟨a,b,c⟩
  ·rw [if_neg (by simpa using a),if_neg (by rw [b]; simp)] at h; exact hd h
  ·rw [if_neg (by omega),if_neg (by omega),b]
   by_cases k:g.z0b=0
   ·rw [if_neg (by simpa using k)] at h
    have f:¬ g.z0b≠0:=by simpa using k
    rw [if_neg f,if_neg f]
    split at h
    ·rename_i i
     rw [if_pos (c i),if_pos i];exact ⟨rfl,e⟩
    ·exact hd h
   ·rw [if_pos k,if_pos k];exact ⟨rfl,by show w.zZx++_=g.zZx++_; rw [e]⟩
def ecR (g:zZk):zZk:=⟨g.Queue,g.z0h,g.zZF,g.zZ5,⟨none,none,none⟩,g.zZl,g.zZx,g.z0a,g.z0b,true,true,g.z0c,g.zZU,g.zZW,g.zZX,g.zZo⟩
def zqj (g:zZk):Bool:=match g.Queue with|some q=>q.zZW|none=>false
noncomputable def PKe:Option UInt8→zZk→Option zZk
 | some x,g=>(ze (bC g (zqj g)) [x]).map fun r=>JC g r.2
 | none,g=>some (ecR g)
noncomputable def QK:Option UInt8→zZk→Option zZk
 | some x,g=>(zj g [x]).bind fun r=>some r.2
 | none,g=>ueR g
noncomputable def QKe (j:Option UInt8) (g:zZk):Option zZk:=match g.Queue with
 | some ⟨⟨t::_,_⟩,_⟩=>(QK j (bU g t)).map (JU g)
 | _=>if j=none then some (uF g true false g.zZW g.zZX) else none
theorem om_i {α β:Type} {f:α→β} {x:Option α} {b:β} (h:x.map f=some b):∃a,x=some a∧b=f a:=by
 cases x with
 | none=>cases h
 | some a=>cases h; exact ⟨a,rfl,rfl⟩
theorem zuC {j:Option UInt8} (h:g.Queue=some ⟨⟨t::l,m⟩,b⟩):QKe j g=(QK j (bU g t)).map (JU g):=by
 unfold QKe; rw [h]
theorem QK_1 (j:Option UInt8) {g:zZk} {t:zZs} {l:List zZs} {m:Int} {b:Bool} (h:g.Queue=some ⟨⟨t::l,m⟩,b⟩) (hc:g.zZo=false) {s:zZk} (e:QK j (bU g t)=some s):D1 (bU g t) s:=by
 cases j with
 | none=>exact (ue_j h hc).2 s e
 | some x =>
  obtain ⟨r,a,e⟩:=bi' e;cases e;exact (res_j h hc [x]).2 r a
theorem PK_1 {x:UInt8} {q:zZC} (h:g.Queue=some q) (h1:q.zZQ.z0g.length<q.zZQ.zZE) (h2:q.zZQ.zZE≤64) {r:zZk} (e:PKe (some x) g=some r):∃s,ze (bC g q.zZW) [x]=some s∧r=JC g s.2∧C1 (bC g q.zZW) s.2:=by
 have c:zqj g=q.zZW:=by unfold zqj; rw [h]
 obtain ⟨s,a,b⟩:=om_i e;rw [c] at a;exact ⟨s,a,b,(req_j h h1 h2 [x]).2 s a⟩
def Pf (i:Option UInt8) (g r:zZk):Prop:=r.zZo=g.zZo∧r.zZx=g.zZx∧r.z0c=g.z0c∧r.zZU=g.zZU∧ql g≤ql r∧(i=none→r.z0b=g.z0b∧ql r=ql g∧r.zZ3=true∧r.zZH=true∧idl r.zZm)∧(i≠none→r.zZ3=g.zZ3∧(r.z0b=g.z0b∨r.zZH=true)∧(ql r=ql g∨ql r=ql g+1∧idl r.zZm))∧∃q a,g.Queue=some q∧r.Queue=some a∧a.zZQ.zZE=q.zZQ.zZE
theorem zNz {i:Option UInt8} {g r:zZk} {q:zZC} (h:g.Queue=some q) (h1:i≠none→q.zZQ.z0g.length<q.zZQ.zZE) (h2:q.zZQ.zZE≤64) (e:PKe i g=some r):Pf i g r:=by
 cases i with
 | none =>
  cases e;exact ⟨rfl,rfl,rfl,rfl,Nat.le_refl _,fun _=>⟨rfl,rfl,rfl,rfl,rfl,fun a c=>by cases c⟩,fun c=>absurd rfl c,q,q,h,h,rfl⟩
 | some x =>
  obtain ⟨s,_,rfl,c⟩:=PK_1 h (h1 (by simp)) h2 e;obtain ⟨n,s⟩:=s;simp only at c ⊢
  have o:ql g=q.zZQ.z0g.length:=by unfold ql; rw [h]
  obtain ⟨f,l,j⟩:∃f,s.Queue=some f∧(f.zZQ.z0g.length=0∨f.zZQ.z0g.length=1∧idl s.zZm):=by
   rcases c.2.2.2.2 with c|⟨⟨t,b,c⟩,d⟩
   ·exact ⟨_,c,.inl rfl⟩
   ·exact ⟨_,c,.inr ⟨rfl,d⟩⟩
  have k:(JC g s).Queue=some ⟨⟨q.zZQ.z0g++f.zZQ.z0g,q.zZQ.zZE⟩,f.zZW⟩:=by
   show glQ g.Queue s.Queue=_;rw [h,l]; rfl
  have p:ql (JC g s)=q.zZQ.z0g.length+f.zZQ.z0g.length:=by unfold ql; rw [k, ← List.length_append]
  refine ⟨rfl,rfl,rfl,rfl,by omega,fun c=>(by cases c),fun _=>⟨rfl,c.2.2.2.1,?_⟩,q,_,h,k,rfl⟩
  rcases j with j|⟨j,m⟩
  ·exact .inl (by omega)
  ·exact .inr ⟨by omega,m⟩
def Qf (g r:zZk):Prop:=r.zZo=true∨r.zZm=g.zZm∧r.z0b=g.z0b∧r.zZH=g.zZH∧r.zZ3=g.zZ3∧ql r≤ql g∧(ql r=0→r.zZU=false)∧∃q a,g.Queue=some q∧r.Queue=some a∧a.zZQ.zZE=q.zZQ.zZE
theorem QKe_f {j:Option UInt8} {g r:zZk} (h:g.Queue=some ⟨⟨t::l,m⟩,b⟩) (hc:g.zZo=false) (e:QKe j g=some r):Qf g r:=by
 rw [zuC h] at e;obtain ⟨s,o,rfl⟩:=om_i e;have c:=QK_1 j h hc o
 cases k:s.zZo with
 | true=>exact .inl k
 | false =>
  have p:ql g=l.length+1:=by unfold ql; rw [h]; rfl
  obtain ⟨f,n,a⟩:∃f,s.Queue=some f∧(f.zZQ.z0g.length=1∨f.zZQ.z0g.length=0∧s.zZU=false):=by
   rcases c.2.2.2 with c|⟨c,d⟩
   ·exact ⟨_,c,.inl rfl⟩
   ·exact ⟨_,c,.inr ⟨rfl,d⟩⟩
  have i:(JU g s).Queue=some ⟨⟨f.zZQ.z0g++l,m⟩,b⟩:=by
   show guQ g.Queue s.Queue=_;rw [h,n]; rfl
  have q:ql (JU g s)=f.zZQ.z0g.length+l.length:=by unfold ql; rw [i, ← List.length_append]
  refine .inr ⟨?_,rfl,rfl,rfl,?_,?_,_,_,h,i,rfl⟩
  ·show (bif s.zZo then s.zZm else g.zZm)=_;rw [k]; rfl
  ·rcases a with a|⟨a,_⟩<;>omega
  ·intro h0
   rcases a with a|⟨_,a⟩
   ·omega
   ·exact a
theorem raw_e {i j:Option UInt8} {g D e:zZk} (h:g.Queue=some ⟨⟨t::l,m⟩,b⟩) (hc:g.zZo=false) (h1:i≠none→((t::l).length:Int)<m) (h2:m≤64) (E:PKe i g=some D) (B:QKe j g=some e) :
  ∃w,QKe j D=some w∧(e.zZo=true→w.zZo=true∧w.zZx=e.zZx)∧(e.zZo=false→PKe i e=some w):=by
 rw [zuC h] at B;obtain ⟨s,v,rfl⟩:=om_i B;obtain ⟨s1,s2,y,G⟩:=QK_1 j h hc v
 change s.z0h=g.z0h at s1
 change s.zZF=g.zZF at s2
 change s.zZ5=g.zZ5 at y
 obtain ⟨f,k⟩:∃f,s.Queue=some f:=by
  rcases G with c|⟨c,_⟩
  ·exact ⟨_,c⟩
  ·exact ⟨_,c⟩
 have C:(JU g s).Queue=some ⟨⟨f.zZQ.z0g++l,m⟩,b⟩:=by
  show guQ g.Queue s.Queue=_;rw [h,k]; rfl
 cases i with
 | none =>
  cases E;refine ⟨JU (ecR g) s,?_,fun c=>⟨c,rfl⟩,fun c=>?_⟩
  ·rw [zuC (g:=ecR g) h];show (QK j (bU g t)).map _=_;rw [v]; rfl
  ·change s.zZo=false at c
   show some (ecR (JU g s))=some (JU (ecR g) s);unfold ecR JU;rw [c]; rfl
 | some x =>
  obtain ⟨⟨n,r⟩,p,rfl,d⟩:=PK_1 h (h1 (by simp)) h2 E;obtain ⟨u,z,q,M,J⟩:=d
  change r.z0h=g.z0h at u
  change r.zZF=g.zZF at z
  change r.zZ5=g.zZ5 at q
  obtain ⟨a,o⟩:∃a,r.Queue=some a:=by
   rcases J with c|⟨⟨_,_,c⟩,_⟩
   ·exact ⟨_,c⟩
   ·exact ⟨_,c⟩
  have A:(JC g r).Queue=some ⟨⟨t::(l++a.zZQ.z0g),m⟩,a.zZW⟩:=by
   show glQ g.Queue r.Queue=_;rw [h,o]; rfl
  have F:bU (JC g r) t=bU g t:=by
   show (⟨_,r.z0h,r.zZF,r.zZ5,_,_,_,_,_,_,_,_,_,_,_,_⟩:zZk)=⟨_,g.z0h,g.zZF,g.zZ5,_,_,_,_,_,_,_,_,_,_,_,_⟩;rw [u,z,q]; rfl
  refine ⟨JU (JC g r) s,?_,fun c=>⟨c,rfl⟩,fun c=>?_⟩
  ·show QKe j (JC g r)=_;rw [zuC A,F,v]; rfl
  ·change s.zZo=false at c
   have L:bC (JU g s) b=bC g b:=by
    show (⟨_,s.z0h,s.zZF,s.zZ5,bif s.zZo then s.zZm else g.zZm,_,_,_,_,_,_,_,_,_,_,_⟩:zZk)=⟨_,g.z0h,g.zZF,g.zZ5,_,_,_,_,_,_,_,_,_,_,_,_⟩;rw [s1,s2,y,c]; rfl
   have K:zqj (JU g s)=b:=by unfold zqj; rw [C]
   have p:ze (bC g b) [x]=some (n,r):=p;show (ze (bC (JU g s) (zqj (JU g s))) [x]).map _=_;rw [K,L,p]
   have H:glQ (JU g s).Queue r.Queue=guQ (JC g r).Queue s.Queue:=by
    rw [C,A,o,k];show some (⟨⟨f.zZQ.z0g++l++a.zZQ.z0g,m⟩,a.zZW⟩:zZC)=some ⟨⟨f.zZQ.z0g++(l++a.zZQ.z0g),m⟩,a.zZW⟩;rw [List.append_assoc]
   show some (⟨glQ (JU g s).Queue r.Queue,r.z0h,r.zZF,r.zZ5,r.zZm,_,_,_,_,_,_,_,_,_,_,_⟩:zZk)=some ⟨guQ (JC g r).Queue s.Queue,s.z0h,s.zZF,s.zZ5,bif s.zZo then s.zZm else r.zZm,_,_,_,_,_,_,_,_,_,_,_⟩
   have I:(bif s.zZo then s.zZm else r.zZm)=r.zZm:=by rw [c]; rfl
   rw [H,u,z,q,s1,s2,y,I]; rfl
end Go.Dm
end
section
namespace Go.Dm
section
variable {A B:Type} (s1 s2:A→Option A) (cl:A→Prop) (o:A→B) (μ:A→Nat) (I:A→Prop)
def Q2 (x y:A):Prop:=x=y∨cl x∧cl y∧o x=o y
def runN:Nat→A→A
 | 0,x=>x
 | n+1,x=>match s1 x with
  | some y=>runN n y
  | none=>match s2 x with
   | some z=>runN n z
   | none=>x
structure Dia:Prop where
 h1:∀x y,I x→s1 x=some y→I y∧μ y<μ x
 h2:∀x y,I x→s2 x=some y→I y∧μ y<μ x
 hc:∀x,cl x→s1 x=none∧s2 x=none
 hd:∀x y z,I x→s1 x=some y→s2 x=some z→(∃b c,s2 y=some b∧s1 z=some c∧Q2 cl o b c)∨(cl y∧∃b,s1 z=some b∧Q2 cl o y b)∨(cl z∧∃b,s2 y=some b∧Q2 cl o z b)
def nf (x:A):A:=runN s1 s2 (μ x) x
variable {s1 s2 cl o μ I}
theorem Q2.symm {x y:A} (h:Q2 cl o x y):Q2 cl o y x:=by
 rcases h with h|⟨a,b,c⟩
 ·exact .inl h.symm
 ·exact .inr ⟨b,a,c.symm⟩
theorem Q2.trans {x y z:A} (h:Q2 cl o x y) (k:Q2 cl o y z):Q2 cl o x z:=by
 rcases h with rfl|⟨a,b,c⟩
 ·exact k
 ·rcases k with rfl|⟨d,e,f⟩
  ·exact .inr ⟨a,b,c⟩
  ·exact .inr ⟨a,e,c.trans f⟩
theorem zCV {x:A} (h1:s1 x=none) (h2:s2 x=none):∀n,runN s1 s2 n x=x
 | 0=>rfl
 | n+1=>by simp only [runN,h1,h2]
theorem run_m (D:Dia s1 s2 cl o μ I):∀(n m:Nat) (x:A),I x→μ x≤n→μ x≤m→runN s1 s2 n x=runN s1 s2 m x:=by
 have z:∀x,I x→μ x=0→s1 x=none∧s2 x=none:=fun x i h=>by
  constructor
  ·cases e:s1 x with
   | none=>rfl
   | some y=>have:=(D.h1 x y i e).2; omega
  ·cases e:s2 x with
   | none=>rfl
   | some y=>have:=(D.h2 x y i e).2; omega
 intro n
 induction n with
 | zero =>
  intro m x i h _;obtain ⟨a,b⟩:=z x i (by omega);rw [zCV a b,zCV a b]
 | succ n c =>
  intro m x i h k
  cases m with
  | zero =>
   obtain ⟨a,b⟩:=z x i (by omega);rw [zCV a b,zCV a b]
  | succ m =>
   unfold runN
   cases e:s1 x with
   | some y =>
    have:=D.h1 x y i e;exact c m y this.1 (by omega) (by omega)
   | none =>
    cases e2:s2 x with
    | some y =>
     have:=D.h2 x y i e2;exact c m y this.1 (by omega) (by omega)
    | none=>rfl
theorem nf_c (D:Dia s1 s2 cl o μ I) {x:A} (h:cl x):nf s1 s2 μ x=x:=zCV (D.hc x h).1 (D.hc x h).2 _
theorem nf_q (D:Dia s1 s2 cl o μ I) {x y:A} (h:Q2 cl o x y):Q2 cl o (nf s1 s2 μ x) (nf s1 s2 μ y):=by
 rcases h with rfl|⟨a,b,c⟩
 ·exact .inl rfl
 ·rw [nf_c D a,nf_c D b]; exact .inr ⟨a,b,c⟩
theorem nf_1 (D:Dia s1 s2 cl o μ I) {x y:A} (i:I x) (e:s1 x=some y):nf s1 s2 μ x=nf s1 s2 μ y:=by
 obtain ⟨j,l⟩:=D.h1 x y i e;unfold nf;obtain ⟨k,a⟩:∃k, μ x=k+1:=⟨μ x-1,by omega⟩;rw [a]
 conv=>lhs; unfold runN
 rw [e];exact run_m D k (μ y) y j (by omega) (by omega)
theorem nf_2 (D:Dia s1 s2 cl o μ I):∀(n:Nat) (x z:A), μ x≤n→I x→s2 x=some z→Q2 cl o (nf s1 s2 μ x) (nf s1 s2 μ z):=by
 intro n
 induction n with
 | zero=>intro x z h i e; have:=(D.h2 x z i e).2; omega
 | succ n f =>
  intro x z h i e;obtain ⟨a,l⟩:=D.h2 x z i e
  cases e1:s1 x with
  | none =>
   refine .inl ?_;unfold nf;obtain ⟨k,j⟩:∃k, μ x=k+1:=⟨μ x-1,by omega⟩;rw [j]
   conv=>lhs; unfold runN
   rw [e1,e];exact run_m D k (μ z) z a (by omega) (by omega)
  | some y =>
   obtain ⟨g,m⟩:=D.h1 x y i e1;rw [nf_1 D i e1]
   rcases D.hd x y z i e1 e with ⟨b,c,d,a2,a3⟩|⟨p,b,a2,a3⟩|⟨q,b,d,a3⟩
   ·rw [nf_1 D a a2];exact (f y b (by omega) g d).trans (nf_q D a3)
   ·rw [nf_1 D a a2];exact nf_q D a3
   ·exact (f y b (by omega) g d).trans (nf_q D a3).symm
end
end Go.Dm
end
section
namespace Go.Dm
variable {i:Option UInt8} {g:zZk} {j:Option UInt8} {q:zZC}
theorem idle_e (s:zZv):∃b,zfi s=some b∧(b=true↔idl s):=by
 obtain ⟨a,i,o⟩:=s
 cases i with
 | some b=>exact ⟨false,rfl,by simp [idl]⟩
 | none =>
  cases a with
  | none=>exact ⟨true,rfl,by simp [idl]⟩
  | some a=>exact ⟨!a.z0L,rfl,by simp [idl]⟩
theorem ztQ (h:g.Queue=some q) (h2:q.zZQ.zZE≤64) (f:(q.zZQ.z0g.length:Int)≤q.zZQ.zZE):zI g=some true↔g.zZo=false∧g.zZH=false∧(¬ idl g.zZm∨(q.zZQ.z0g.length:Int)<q.zZQ.zZE):=by
 obtain ⟨b,a,hi⟩:=idle_e g.zZm
 have c:zbt q.zZQ.zZE (q.zZQ.z0g.length:Int)=some (q.zZQ.zZE-q.zZQ.z0g.length):=by simp [zbt,inI]; omega
 have e:zI g=some (!g.zZo && !g.zZH&&(!b || !(q.zZQ.zZE-(q.zZQ.z0g.length:Int)==0))):=by
  unfold zI;rw [a,h]
  cases g.zZo with
  | true=>rfl
  | false =>
   cases g.zZH with
   | true=>rfl
   | false =>
    cases b with
    | false=>rfl
    | true =>
     show ((zcn q).bind fun d=>some (!d))=_;unfold zcn zgc;rw [c]; rfl
 rw [e, ← hi]
 have z:(q.zZQ.zZE-(q.zZQ.z0g.length:Int)==0)=false↔(q.zZQ.z0g.length:Int)<q.zZQ.zZE:=by
  rw [beq_eq_false_iff_ne]; omega
 cases g.zZo<;>cases g.zZH<;>cases b<;>simp_all
structure WS where
 g:zZk
 a:List UInt8
 b:List UInt8
 ea:Bool
 eb:Bool
def nx:Option UInt8→List UInt8→Bool→List UInt8→Bool→Prop
 | some x,l,e,a,b=>l=x::a∧b=e
 | none,l,e,a,b=>l=[]∧a=[]∧e=true∧b=false
def En1 (i:Option UInt8) (g:zZk):Prop:=i≠none→g.zZ3=false∧zI g=some true
def En2 (j:Option UInt8) (g:zZk):Prop:=j≠none→g.z0c=false∧0<ql g
theorem q_c (h:g.Queue=some q) (h0:0<ql g):∃t l,g.Queue=some ⟨⟨t::l,q.zZQ.zZE⟩,q.zZW⟩∧q.zZQ.z0g=t::l:=by
 obtain ⟨⟨l,m⟩,b⟩:=q
 cases l with
 | nil=>unfold ql at h0; rw [h] at h0; simp at h0
 | cons t l=>exact ⟨t,l,h,rfl⟩
theorem zHF (h:g.Queue=some q) (a:g.zZU=false) (hc:g.zZo=false):QKe none g=some (uF g true false g.zZW g.zZX):=by
 obtain ⟨⟨l,m⟩,b⟩:=q
 cases l with
 | nil=>unfold QKe; rw [h]; rfl
 | cons t l =>
  rw [zuC h]
  have e:ueR (bU g t)=some (uF (bU g t) true false g.zZW g.zZX):=by
   unfold ueR;rw [if_neg (by show ¬ g.zZU=true; rw [a]; simp)];show some (uF (bU g t) true g.zZU g.zZW g.zZX)=_;rw [a]
  show (ueR (bU g t)).map _=_;rw [e];show some (uF (JU g (bU g t)) true false g.zZW g.zZX)=_;rw [JU_b h hc]
theorem PKe_d {g a:zZk} (e:PKe i g=some a) (d b l y:Bool):PKe i (uF g d b l y)=some (uF a d b l y):=by
 cases i with
 | none=>cases e; rfl
 | some x =>
  obtain ⟨r,c,rfl⟩:=om_i e;show (ze (bC g (zqj g)) [x]).map _=_;rw [c]; rfl
open Classical in
noncomputable def QS (j:Option UInt8) (g:zZk):Option zZk:=if j=none∧g.z0c=true then some g else QKe j g
open Classical in
noncomputable def s1 (c:WS):Option WS:=if c.g.zZo=true then none else match c.a with
 | x::l=>if En1 (some x) c.g then (PKe (some x) c.g).bind fun g=>some ⟨sg g,l,c.b,c.ea,c.eb⟩ else none
 | []=>if c.ea=true then (PKe none c.g).bind fun g=>some ⟨sg g,[],c.b,false,c.eb⟩ else none
open Classical in
noncomputable def s2 (c:WS):Option WS:=if c.g.zZo=true then none else match c.b with
 | x::l=>if En2 (some x) c.g then (QS (some x) c.g).bind fun g=>some ⟨sg g,c.a,l,c.ea,c.eb⟩ else none
 | []=>if c.eb=true then (QS none c.g).bind fun g=>some ⟨sg g,c.a,[],c.ea,false⟩ else none
theorem s1_i {c y:WS} (h:s1 c=some y):c.g.zZo=false∧∃i d l e,nx i c.a c.ea l e∧En1 i c.g∧PKe i c.g=some d∧y=⟨sg d,l,c.b,e,c.eb⟩:=by
 obtain ⟨g,a,b,ea,eb⟩:=c;unfold s1 at h
 split at h
 ·cases h
 rename_i hc
 refine ⟨by simpa using hc,?_⟩
 split at h
 ·rename_i x l e
  change a=x::l at e
  subst e
  split at h
  ·obtain ⟨d,f,h⟩:=bi' h;cases h;exact ⟨some x,d,l,ea,⟨rfl,rfl⟩, ‹_›,f,rfl⟩
  ·cases h
 ·rename_i e
  change a=[] at e
  subst e
  split at h
  ·obtain ⟨d,f,h⟩:=bi' h;cases h;exact ⟨none,d,[],false,⟨rfl,rfl, ‹_›,rfl⟩,fun c=>absurd rfl c,f,rfl⟩
  ·cases h
theorem s2_i {c y:WS} (h:s2 c=some y):c.g.zZo=false∧∃j d l e,nx j c.b c.eb l e∧En2 j c.g∧QS j c.g=some d∧y=⟨sg d,c.a,l,c.ea,e⟩:=by
 obtain ⟨g,a,b,ea,eb⟩:=c;unfold s2 at h
 split at h
 ·cases h
 rename_i hc
 refine ⟨by simpa using hc,?_⟩
 split at h
 ·rename_i x l e
  change b=x::l at e
  subst e
  split at h
  ·obtain ⟨d,f,h⟩:=bi' h;cases h;exact ⟨some x,d,l,eb,⟨rfl,rfl⟩, ‹_›,f,rfl⟩
  ·cases h
 ·rename_i e
  change b=[] at e
  subst e
  split at h
  ·obtain ⟨d,f,h⟩:=bi' h;cases h;exact ⟨none,d,[],false,⟨rfl,rfl, ‹_›,rfl⟩,fun c=>absurd rfl c,f,rfl⟩
  ·cases h
open Classical in
theorem s1_m {g c:zZk} {a b l:List UInt8} {ea eb e:Bool} (hc:g.zZo=false) (hn:nx i a ea l e) (d:En1 i g) (h:PKe i g=some c):s1 ⟨g,a,b,ea,eb⟩=some ⟨sg c,l,b,e,eb⟩:=by
 unfold s1;rw [if_neg (by rw [hc]; simp)]
 cases i with
 | some x =>
  obtain ⟨rfl,rfl⟩:=hn;show (if En1 (some x) g then (PKe (some x) g).bind _ else none)=_;rw [if_pos d,h]; rfl
 | none =>
  obtain ⟨rfl,rfl,rfl,rfl⟩:=hn;show (if true=true then (PKe none g).bind _ else none)=_;rw [if_pos rfl,h]; rfl
open Classical in
theorem s2_m {g c:zZk} {a b l:List UInt8} {ea eb e:Bool} (hc:g.zZo=false) (hn:nx j b eb l e) (d:En2 j g) (h:QS j g=some c):s2 ⟨g,a,b,ea,eb⟩=some ⟨sg c,a,l,ea,e⟩:=by
 unfold s2;rw [if_neg (by rw [hc]; simp)]
 cases j with
 | some x =>
  obtain ⟨rfl,rfl⟩:=hn;show (if En2 (some x) g then (QS (some x) g).bind _ else none)=_;rw [if_pos d,h]; rfl
 | none =>
  obtain ⟨rfl,rfl,rfl,rfl⟩:=hn;show (if true=true then (QS none g).bind _ else none)=_;rw [if_pos rfl,h]; rfl
def Ig (g:zZk) (ea:Bool):Prop:=g.zZo=true∨∃q,g.Queue=some q∧q.zZQ.zZE≤64∧(q.zZQ.z0g.length:Int)≤q.zZQ.zZE∧(0<ql g→g.z0c=true→g.zZU=true)∧(ql g=0→g.z0b=0∧g.zZ3=false∧g.zZU=false)∧(g.z0b≠0→g.zZH=true)∧(g.zZ3=true→g.zZH=true)∧(¬ idl g.zZm→(q.zZQ.z0g.length:Int)<q.zZQ.zZE)∧(ea=true→g.zZ3=false)
def Iw (c:WS):Prop:=Ig c.g c.ea
def mw (c:WS):Nat:=c.a.length+c.b.length+(if c.ea=true then 1 else 0)+(if c.eb=true then 1 else 0)
theorem nx_m {l a:List UInt8} {e b:Bool} (h:nx i l e a b):a.length+(if b=true then 1 else 0)<l.length+(if e=true then 1 else 0):=by
 cases i with
 | some x=>obtain ⟨rfl,rfl⟩:=h; simp
 | none=>obtain ⟨rfl,rfl,rfl,rfl⟩:=h; simp
theorem room {ea:Bool} (h:g.Queue=some q) (h2:q.zZQ.zZE≤64) (b:(q.zZQ.z0g.length:Int)≤q.zZQ.zZE) (hi:¬ idl g.zZm→(q.zZQ.z0g.length:Int)<q.zZQ.zZE) (a:En1 i g):i≠none→(q.zZQ.z0g.length:Int)<q.zZQ.zZE:=fun c =>
 ((ztQ h h2 b).1 (a c).2).2.2.elim hi id
theorem Ig_1 {g k:zZk} {a l:List UInt8} {ea e:Bool} (hc:g.zZo=false) (I:Ig g ea) (hn:nx i a ea l e) (m:En1 i g) (h:PKe i g=some k):Ig (sg k) e:=by
 cases s:(sg k).zZo with
 | true=>exact .inl s
 | false =>
  obtain ⟨J,D,z,p⟩:=sg_n s;obtain ⟨q,b,n,u,N,A,w,E,y,G⟩:=I.resolve_left (by rw [hc]; simp);have o:=room (ea:=ea) b n u y m;obtain ⟨P,O,K,C,H,j,f,F,t,v,r,B⟩:=zNz b o n h;rw [b] at v;cases v
  have M:ql g=q.zZQ.z0g.length:=by unfold ql; rw [b]
  have L:ql k=t.zZQ.z0g.length:=by unfold ql; rw [r]
  rw [D];refine .inr ⟨t,r,by omega,?_,z,fun c=>⟨(p c).1,(p c).2,by rw [C]; exact (A (by omega)).2.2⟩,?_,?_,?_,?_⟩
  ·cases i with
   | none=>have:=(j rfl).2.1; omega
   | some x=>have:=o (by simp); have:=(f (by simp)).2.2; omega
  ·intro c
   cases i with
   | none=>exact (j rfl).2.2.2.1
   | some x =>
    refine (f (by simp)).2.1.elim (fun d=>?_) id;have h0:=((ztQ b n u).1 (m (by simp)).2).2.1;rw [d] at c;rw [w c] at h0; cases h0
  ·intro c
   cases i with
   | none=>exact (j rfl).2.2.2.1
   | some x=>rw [(f (by simp)).1,(m (by simp)).1] at c; cases c
  ·intro c
   cases i with
   | none=>exact absurd (j rfl).2.2.2.2 c
   | some x =>
    have:=o (by simp)
    rcases (f (by simp)).2.2 with d|⟨_,d⟩
    ·omega
    ·exact absurd d c
  ·intro c
   cases i with
   | none=>obtain ⟨_,_,_,rfl⟩:=hn; cases c
   | some x=>rw [(f (by simp)).1]; exact (m (by simp)).1
theorem QS_k (h:g.z0c=false):QS j g=QKe j g:=by
 unfold QS; rw [if_neg (by rw [h]; simp)]
theorem QS_0 (h:g.z0c=true):QS none g=some g:=by
 unfold QS; rw [if_pos ⟨rfl,h⟩]
theorem Ig_2 {g e:zZk} {ea:Bool} (hc:g.zZo=false) (I:Ig g ea) (w:En2 j g) (h:QS j g=some e):Ig (sg e) ea:=by
 obtain ⟨q,a,B,F,E,b,f,k,p,n⟩:=I.resolve_left (by rw [hc]; simp)
 by_cases z:j=none∧g.z0c=true
 ·obtain ⟨rfl,hd⟩:=z;rw [QS_0 hd] at h;cases h;rw [zHs E fun c=>⟨(b c).1,(b c).2.1⟩];exact I
 ·have hd:g.z0c=false:=by
   cases d:g.z0c with
   | false=>rfl
   | true =>
    cases j with
    | none=>exact absurd ⟨rfl,d⟩ z
    | some x=>rw [(w (by simp)).1] at d; cases d
  rw [QS_k hd] at h
  cases m:(sg e).zZo with
  | true=>exact .inl m
  | false =>
   obtain ⟨D,H,r,i⟩:=sg_n m;rw [H]
   by_cases n0:0<ql g
   ·obtain ⟨t,l,A,M⟩:=q_c a n0;obtain ⟨J,G,o,v,N,C,K,u,s,y,L⟩:=(QKe_f A hc h).resolve_left (by rw [D]; simp);rw [a] at s;cases s
    have P:ql g=q.zZQ.z0g.length:=by unfold ql; rw [a]
    have O:ql e=u.zZQ.z0g.length:=by unfold ql; rw [y]
    refine .inr ⟨u,y,by omega,by omega,r,fun c=>⟨(i c).1,(i c).2,C c⟩,by rw [G,o]; exact f,by rw [o,v]; exact k,?_,by rw [v]; exact n⟩;rw [J];intro c;have:=p c;omega
   ·have n0:ql g=0:=by omega
    cases j with
    | some x=>exact absurd (w (by simp)).2 (by omega)
    | none =>
     rw [zHF a (b n0).2.2 hc] at h;cases h;exact .inr ⟨q,a,B,F,r,fun c=>⟨(b n0).1,(b n0).2.1,rfl⟩,f,k,p,n⟩
theorem dia:Dia s1 s2 (fun c:WS=>c.g.zZo=true) (fun c:WS=>c.g.zZx) mw Iw where
 h1 x y I e:=by
  obtain ⟨hc,i,f,l,ee,n,S,hp,rfl⟩:=s1_i e;refine ⟨Ig_1 hc I n S hp,?_⟩;have:=nx_m n;unfold mw;simp only;omega
 h2 x y I e:=by
  obtain ⟨hc,i,f,l,ee,n,S,hp,rfl⟩:=s2_i e;refine ⟨Ig_2 hc I S hp,?_⟩;have:=nx_m n;unfold mw;simp only;omega
 hc x h:=by
  unfold s1 s2;rw [if_pos h,if_pos h];exact ⟨rfl,rfl⟩
 hd c y z I e1 e2:=by
  obtain ⟨g,a,b,ea,eb⟩:=c;obtain ⟨hc,i,f,Q,v,P,o,F,rfl⟩:=s1_i e1;obtain ⟨_,j,A,V,D,O,C,B,rfl⟩:=s2_i e2
  change g.zZo=false at hc
  change En1 i g at o
  change PKe i g=some f at F
  change En2 j g at C
  change QS j g=some A at B
  change nx i a ea Q v at P
  change nx j b eb V D at O
  obtain ⟨q,u,L,Y,I4,X,I6,I7,I8,I9⟩:=I.resolve_left (by show ¬ g.zZo=true; rw [hc]; simp)
  change g.Queue=some q at u
  have rm:=room (ea:=ea) u L Y I8 o;have pf:=zNz u rm L F;obtain ⟨f1,f2,G,f4,f5,f6,f7,f8⟩:=pf
  by_cases sk:j=none∧g.z0c=true
  ·obtain ⟨rfl,hd⟩:=sk;rw [QS_0 hd] at B;cases B;have R:sg g=g:=zHs I4 fun c=>⟨(X c).1,(X c).2.1⟩;rw [R];have J:=s1_m (b:=V) (eb:=D) hc P o F
   rcases Bool.eq_false_or_eq_true (sg f).zZo with m|m
   ·exact .inr (.inl ⟨m,_,J,.inr ⟨m,m,rfl⟩⟩)
   ·
    obtain ⟨k1,E,_⟩:=sg_n m;have y1:=s2_m (g:=sg f) (a:=Q) (ea:=v) m O (fun c=>absurd rfl c) (QS_0 (by rw [E,G]; exact hd));exact .inl ⟨_,_,y1,J,.inl (by rw [E,E])⟩
  ·have hd:g.z0c=false:=by
    cases d:g.z0c with
    | false=>rfl
    | true =>
     cases j with
     | none=>exact absurd ⟨rfl,d⟩ sk
     | some x=>rw [(C (by simp)).1] at d; cases d
   rw [QS_k hd] at B
   by_cases n0:0<ql g
   ·obtain ⟨t,l,hq,ht⟩:=q_c u n0
    have rm':i≠none→((t::l).length:Int)<q.zZQ.zZE:=by rw [← ht]; exact rm
    obtain ⟨w,w1,w2,w3⟩:=raw_e hq hc rm' L F B
    have n1':0<ql f:=by omega
    have U:sg f=f:=zHs (fun _ c=>by rw [G,hd] at c; cases c) fun c=>by omega
    have p:f.zZo=false:=by rw [f1]; exact hc
    rw [U];have y1:=s2_m (g:=f) (a:=Q) (ea:=v) p O (fun _=>⟨by rw [G]; exact hd,n1'⟩) (by rw [QS_k (by rw [G]; exact hd)]; exact w1)
    cases c2:A.zZo with
    | true =>
     obtain ⟨H,v2⟩:=w2 c2;refine .inr (.inr ⟨by show (sg A).zZo=true; rw [sg_k c2]; exact c2,_,y1,.inr ⟨by show (sg A).zZo=true; rw [sg_k c2]; exact c2,by show (sg w).zZo=true; rw [sg_k H]; exact H,?_⟩⟩);show (sg A).zZx=(sg w).zZx;rw [sg_k c2,sg_k H,v2]
    | false =>
     have N:=w3 c2;obtain ⟨o1,o2,o3,o4,o5,o6,qa,qb,o7,o8,o9⟩:=(QKe_f hq hc B).resolve_left (by rw [c2]; simp);rw [u] at o7;cases o7
     have g0:ql g=q.zZQ.z0g.length:=by unfold ql; rw [u]
     have gg2:ql A=qb.zZQ.z0g.length:=by unfold ql; rw [o8]
     have M:i≠none→(qb.zZQ.z0g.length:Int)<qb.zZQ.zZE:=fun c=>by have:=rm c; omega
     obtain ⟨H,v2,v3,v4,v5,T,v7,_⟩:=zNz o8 M (by omega) N
     rcases Bool.eq_false_or_eq_true (sg A).zZo with m|m
     ·
      have:=sg_w c2 (by rw [H]; exact c2) m v2 (.inl v3) v4 v5 fun c=>by
       cases i with
       | none=>exact .inr ⟨by have:=(T rfl).2.1; omega,(T rfl).1,fun _=>(T rfl).2.2.1⟩
       | some x =>
        refine .inl ⟨?_,by rw [o4]; exact (o (by simp)).1⟩;have h0:=((ztQ u L Y).1 (o (by simp)).2).2.1
        by_cases k:g.z0b=0
        ·rw [o2]; exact k
        ·have:=I6 k
         change g.zZH=true at this
         rw [this] at h0; cases h0
      exact .inr (.inr ⟨m,_,y1,.inr ⟨m,this.1,this.2.symm⟩⟩)
     ·
      obtain ⟨_,E,_⟩:=sg_n m;rw [E];have en:En1 i A:=fun c=>⟨by rw [o4]; exact (o c).1,(ztQ o8 (by omega) (by omega)).2 ⟨c2,by rw [o3]; exact ((ztQ u L Y).1 (o c).2).2.1,.inr (M c)⟩⟩;exact .inl ⟨_,_,y1,s1_m c2 P en N,.inl rfl⟩
   ·have n0:ql g=0:=by omega
    have s:=X n0
    cases j with
    | some x=>exact absurd (C (by simp)).2 (by omega)
    | none =>
     rw [zHF u s.2.2 hc] at B;cases B;have N:=PKe_d F true false g.zZW g.zZX;have W:sg (uF g true false g.zZW g.zZX)=uF g true false g.zZW g.zZX:=zHs (fun c=>by change 0<ql g at c; omega) fun _=>⟨s.1,s.2.1⟩;rw [W];have J:=s1_m (g:=uF g true false g.zZW g.zZX) (b:=V) (eb:=D) hc P o N
     have K:f.zZU=false:=by rw [f4]; exact s.2.2
     have p:f.zZo=false:=by rw [f1]; exact hc
     rcases Bool.eq_false_or_eq_true (sg f).zZo with m|m
     ·
      have q0:ql f=0:=by
       by_cases c:ql f=0
       ·exact c
       ·have:sg f=f:=zHs (fun _ c=>by rw [G,hd] at c; cases c) fun d=>absurd d c;rw [this,p] at m; cases m
      have:=sg_w (w:=uF f true false g.zZW g.zZX) p p m rfl (.inr ⟨q0,q0⟩) K.symm (Nat.le_refl _) fun _ => .inr ⟨q0,rfl,id⟩;exact .inr (.inl ⟨m,_,J,.inr ⟨m,this.1,this.2.symm⟩⟩)
     ·
      obtain ⟨_,E,_⟩:=sg_n m;rw [E];have y1:=s2_m (g:=f) (a:=Q) (ea:=v) p O (fun c=>absurd rfl c) (by rw [QS_k (by rw [G]; exact hd)]; obtain ⟨_,q2,_,Z,_⟩:=f8; exact zHF Z K p);refine .inl ⟨_,_,y1,J,.inl ?_⟩
      have l1:f.zZW=g.zZW∧f.zZX=g.zZX:=by
       cases i with
       | none=>cases F; exact ⟨rfl,rfl⟩
       | some x =>
        obtain ⟨r,_,rfl⟩:=om_i F;exact ⟨rfl,rfl⟩
      rw [l1.1,l1.2]
end Go.Dm
end
section
namespace Go.Dm
variable {s:Str} {i:Int} {G:Prop} {c:UInt8} {a b:Str}
def pln:Str→Str→Str
 | o,[]=>o
 | o,c::t=>if o=[]∧c=48 then pln [] t else pln (o++[c]) t
def plf (o:Str):Str:=if o=[] then [48] else o
theorem pln_n (o:Str):pln o []=o:=rfl
theorem zMY (o:Str) (c:UInt8) (t:Str):pln o (c::t)=if o=[]∧c=48 then pln [] t else pln (o++[c]) t:=rfl
theorem pln_o:∀(t o:Str),o≠[]→pln o t=o++t
 | [],o,_=>by rw [pln_n,List.append_nil]
 | c::t,o,h=>by
  rw [zMY,if_neg (fun e=>h e.1),pln_o t _ (by simp)]; simp
theorem dec_hd (k:Nat):1≤k→∃c t,Go.Lib.decDigits k=c::t∧c≠48:=by
 induction k using Nat.strongRecOn with
 | _ k a =>
  intro b;rw [Go.Lib.decDigits]
  split
  ·rename_i h
   refine ⟨_,_,rfl,?_⟩;intro e;have:=(zHV h).2;rw [e] at this;have:(48:UInt8).toNat=48:=rfl;omega
  ·obtain ⟨c,t,e,hc⟩:=a (k/10) (by omega) (by omega);rw [e]; exact ⟨c,_,rfl,hc⟩
theorem pln_s {m:Int} (h:zhw s m):plf (pln [] s)=s:=by
 obtain ⟨k,_,rfl⟩:=h
 by_cases a:k=0
 ·subst a
  have:Go.Lib.decDigits 0=[48]:=by rw [Go.Lib.decDigits]; rfl
  rw [this]; rfl
 ·obtain ⟨c,t,e,hc⟩:=dec_hd k (by omega);rw [e,zMY,if_neg (fun e=>hc e.2),List.nil_append,pln_o _ _ (by simp)];rfl
theorem dgs_b (b:UInt8) (k:Int) (h:k=(b.toNat:Int)-48) (a:zcj b=true):Go.Lib.decDigits k.toNat=[b]∧(0<k↔¬ b=48):=by
 have c:=zHW b a;subst h
 have e:((b.toNat:Int)-48).toNat=b.toNat-48:=by omega
 rw [e,Go.Lib.decDigits,dif_pos (by omega),show 48+(b.toNat-48)=b.toNat by omega];refine ⟨by simp,?_⟩;have:b=48↔b.toNat=48:=⟨fun e=>by subst e; rfl,fun e=>UInt8.toNat_inj.1 e⟩;rw [this]; omega
theorem less_s {m:Int} (n:m=255∨m=65535) (h:zhw s m) :
  ¬ (Go.Lib.decDigits m.toNat).length<s.length∧((Go.Lib.decDigits m.toNat).length=s.length→zjo (Go.Lib.decDigits m.toNat) s=false)∧s.length≤5:=by
 have p:Go.Lib.decDigits 255=[50,53,53]:=by simp [Go.Lib.decDigits]
 have j:Go.Lib.decDigits 65535=[54,53,53,51,53]:=by simp [Go.Lib.decDigits]
 obtain ⟨h1,h2,r,i,_⟩:=zzg h;obtain ⟨k,q,g⟩:=h;have dr:∀b∈s,48≤b.toNat∧b.toNat≤57:=fun b o=>zHW b (List.all_eq_true.1 h1 b o);have lt:∀a b:UInt8,(a<b)↔a.toNat<b.toNat:=fun a b=>Iff.rfl
 rcases n with rfl|rfl
 ·have l:s.length≤3:=by rw [g]; exact zKC k 3 (by decide) (by omega)
  simp only [show (255:Int).toNat=255 from rfl,p,List.length_cons,List.length_nil];refine ⟨by omega,fun f=>?_,by omega⟩
  match s,f with
  | [a,b,c],_ =>
   have:=dr a (by simp); have:=dr b (by simp); have:=dr c (by simp);simp only [dvI] at i;simp only [zjo,Bool.or_eq_false_iff,Bool.and_eq_false_iff,decide_eq_false_iff_not,lt,beq_eq_false_iff_ne,ne_eq, ← UInt8.toNat_inj];simp at *; omega
 ·have l:s.length≤5:=by rw [g]; exact zKC k 5 (by decide) (by omega)
  simp only [show (65535:Int).toNat=65535 from rfl,j,List.length_cons,List.length_nil];refine ⟨by omega,fun f=>?_,by omega⟩
  match s,f with
  | [a,b,c,d,e],_ =>
   have:=dr a (by simp); have:=dr b (by simp); have:=dr c (by simp); have:=dr d (by simp); have:=dr e (by simp);simp only [dvI] at i;simp only [zjo,Bool.or_eq_false_iff,Bool.and_eq_false_iff,decide_eq_false_iff_not,lt,beq_eq_false_iff_ne,ne_eq, ← UInt8.toNat_inj];simp at *; omega
def allS (l:List Str):Prop:=∀x∈l,zhw x 255
theorem allS_n:allS []:=fun x h=>by cases h
theorem allS_c (x:Str) (l:List Str):allS (x::l)↔zhw x 255∧allS l:=by simp [allS]
theorem four_e (s:Str):zmR s↔(zy 46 s).length=4∧allS (zy 46 s):=Iff.rfl
theorem GT_n (a:Int):GT [] a↔a=8:=⟨fun ⟨k,h1,h2⟩=>by have:=(zKD true k).1 h1; omega,GT_e⟩
theorem GT_c (s:Str) (l:List Str) (a:Int):GT (s::l) a↔(l=[]∧zmR s∧a=6)∨(zsh s=true∧GT l (a+1)):=by
 constructor
 ·rintro ⟨k,h1,h2⟩;rw [zKE] at h1
  rcases h1 with ⟨_,rfl,rfl,h⟩|⟨h,h1,g⟩
  ·exact .inl ⟨rfl,h,by omega⟩
  ·exact .inr ⟨h,k-1,g,by omega⟩
 ·rintro (⟨rfl,h,rfl⟩|⟨h,g⟩)
  ·exact ⟨2,.four s h,rfl⟩
  ·exact GT_h h g
theorem elt_d {l:List Str} (h0:0≤i) (h:i<l.length):dr l i=elt l i::dr l (i+1):=by
 have a:i.toNat<l.length:=by omega
 have:lAt l i=some l[i.toNat]:=by simp [lAt,h0,a]
 rw [zKi this]; exact zHi h0 (by simp [a])
theorem GT_x {l:List Str} {i a:Int} (h0:0≤i) (h:i<l.length) (b:zsh (elt l i)=false) (hi:i≠(l.length:Int)-1∨¬ zmR (elt l i)):¬ GT (dr l i) a:=by
 rw [elt_d h0 h,GT_c];rintro (⟨e,c,_⟩|⟨e,_⟩)
 ·rcases hi with hi|hi
  ·have:=zaV (l:=l) (i:=i+1) (by omega) (by omega);rw [e] at this; simp at this; omega
  ·exact hi c
 ·rw [b] at e; cases e
theorem GT_8 (l:List Str):Grp true l 8↔GT l 0:=⟨fun h=>⟨8,h,rfl⟩,GT_0⟩
theorem hex_no {x:Str} (h:dr x i=c::dr x (i+1)) (hc:zlL c=false):zsh x=false:=by
 have a:c∈x:=by rw [← zCY x i,h]; simp
 unfold zsh;rw [Bool.and_eq_false_iff,Bool.and_eq_false_iff]
 left; left
 rw [List.all_eq_false];exact ⟨c,a,by rw [hc]; exact Bool.false_ne_true⟩
theorem hex_ln {x:Str} (h:x.length<1∨4<x.length):zsh x=false:=by
 unfold zsh;rw [Bool.and_eq_false_iff,Bool.and_eq_false_iff]
 rcases h with h|h
 ·left; right; exact decide_eq_false (by omega)
 ·right; exact decide_eq_false (by omega)
def wz (a b:Str) (n:Int):Prop:=Grp true (spt a++List.replicate n.toNat [48]++spt b) 8
def sxW (a b:Str) (i:Int):Prop:=∃n:Int,i≤n∧n≤8∧wz a b n
theorem sxW_9 (h:8<i):¬ sxW a b i:=fun ⟨n,h1,h2,_⟩=>by omega
theorem sxW_s (h:i≤8):sxW a b i↔wz a b i∨sxW a b (i+1):=by
 constructor
 ·rintro ⟨n,h1,h2,c⟩
  by_cases e:n=i
  ·exact .inl (e▸c)
  ·exact .inr ⟨n,by omega,h2,c⟩
 ·rintro (c|⟨n,h1,h2,c⟩)
  ·exact ⟨i,Int.le_refl _,h,c⟩
  ·exact ⟨n,by omega,h2,c⟩
theorem grp_z:∀n:Nat,Grp false (List.replicate n [48]) n
 | 0 => .nil _
 | n+1=>by rw [List.replicate_succ]; exact .hex _ _ _ _ (by decide) (grp_z n)
theorem sxW_1:sixW a b↔sxW a b 1:=by
 constructor
 ·rintro ⟨i,j,h1,h2,c⟩;refine ⟨((8-i-j:Nat):Int),by omega,by omega,?_⟩;unfold wz;rw [List.append_assoc];have:=Grp.app (Grp.app h2 (grp_z (8-i-j))) h1;rw [show i+(8-i-j+j)=8 by omega] at this;simpa using this
 ·rintro ⟨n,h1,h2,c⟩;exact zQG (n:=n.toNat) (by omega) c
theorem SZ_w {i n:Int} {t:Str} (c:SZ s i n t) (hn:1≤n):(dr s (i+2)=[]→(Grp true (zy 58 t) 8↔wz (tk s i) (dr s (i+2)) n)) ∧
  (dr s (i+2)≠[]→(Grp true (zy 58 ((t++[58])++dr s (i+2))) 8↔wz (tk s i) (dr s (i+2)) n)):=by
 unfold SZ at c
 have a:t≠[]:=by
  rintro rfl;have:(spt []).length=0:=rfl;rw [c] at this; simp at this; omega
 unfold wz;rw [← c];generalize dr s (i+2)=b;constructor
 ·rintro rfl;have e:spt []=[]:=rfl;rw [e,List.append_nil];unfold spt; rw [if_neg a]
 ·intro d;have:=zHU (t:=t) (x:=b) d;rw [if_neg a] at this;rw [← this];unfold spt;rw [if_neg (by simp)]
theorem zPF (h:(dr s i).length≤1):zrz s i↔Grp true (zy 58 s) 8:=by
 have:zmS (dr s i)=none:=by
  match dr s i,h with
  | [],_=>rfl
  | [c],_=>simp [zmS]
 unfold zrz; rw [this]
theorem zJ2 (h0:0≤i) (h:dr s i=c::dr s (i+1)) (hc:c≠58∨∀t,dr s (i+1)≠58::t):zrz s i↔zrz s (i+1):=by
 refine ⟨fun d=>?_,sixA_s h0 h hc⟩
 have e:zmS (dr s i)=(zmS (dr s (i+1))).map fun p=>(c::p.1,p.2):=by
  rw [h]; exact zmS.eq_2 _ _ (fun t a b=>by rcases hc with hc|hc; exact hc a; exact hc t b)
 unfold zrz at d ⊢;rw [e] at d
 cases f:zmS (dr s (i+1)) with
 | none=>rw [f] at d; exact d
 | some p =>
  rw [f] at d;simp only [Option.map_some] at d;show sixW (tk s (i+1)++p.1) p.2;rw [zy0 h0 h,List.append_assoc]; exact d
theorem sixA_2 {c d:UInt8} (h0:0≤i) (h:dr s i=c::dr s (i+1)) (h2:dr s (i+1)=d::dr s (i+1+1)) (hc:¬ (c=58∧d=58)):zrz s i↔zrz s (i+1) :=
 zJ2 h0 h (by
  by_cases e:c=58
  ·right; intro t a; rw [h2] at a; exact hc ⟨e,(List.cons.inj a).1⟩
  ·exact .inl e)
theorem sixA_1 (h0:0≤i) (h:dr s i=c::dr s (i+1)) (hc:¬ c=58):zrz s i↔zrz s (i+1):=zJ2 h0 h (.inl hc)
theorem zPG (h0:0≤i) (h:dr s i=58::dr s (i+1)) (h2:dr s (i+1)=58::dr s (i+1+1)):zrz s i↔sxW (tk s i) (dr s (i+2)) 1:=by
 rw [← sxW_1];unfold zrz;rw [h,h2,show i+1+1=i+2 by omega];simp only [zmS,List.append_nil]
theorem sixA_i (s:Str):zvr s↔zrz s 0:=by
 refine ⟨fun h=>?_,sixA_0⟩;unfold zvr at h;unfold zrz;rw [zgn]
 cases e:zmS s with
 | none =>
  rw [e] at h;unfold spt at h
  by_cases a:s=[]
  ·subst a;rw [if_pos rfl,zKD] at h; cases h
  ·rw [if_neg a] at h; exact h
 | some p=>rw [e] at h; exact h
theorem nm_sh (h:dr s i=37::dr s (i+1)) (h0:0≤i) (b:(s.length:Int)≤i+2):zjs (dr s i)=false:=by
 rw [h]
 have:(dr s (i+1)).length≤1:=by simp [dr]; omega
 match dr s (i+1),this with
 | [],_=>exact (zJF 0).2
 | [a],_=>exact (zJF a).1
theorem nm_h {a:UInt8} (h:dr s i=37::dr s (i+1)) (d:dr s (i+1)=a::dr s (i+1+1)) (c:zlL a=false):zjs (dr s i)=false:=by
 rw [h,d]
 match dr s (i+1+1) with
 | []=>exact (zJF a).1
 | b::t=>rw [nm_p,c]; simp
theorem nm_oo (h:dr s i=c::dr s (i+1)) (hc:c≠37):zjs (dr s i)=((zrp c||zE7 c)&&zjs (dr s (i+1))):=by rw [h,nm_o _ _ hc]
theorem zPH (h:58∉s):¬ zuF s:=fun e=>h (zIy e).1
theorem dvI_p (h:dgs s=true):dvI 0 s=((dvI 0 s).toNat:Int):=by have:=zJE s 0 (Int.le_refl _) h; omega
theorem goE1 (h:G:=by
 (with_reducible repeat' first|intro _|refine And.intro ?_ ?_|refine Wf ?_ ?_|refine Wi ?_ ?_|refine Ws ?_|refine Wc ?_ ?_|refine Wo ?_ ?_|refine Wk ?_|refine We ?_ ?_)
 all_goals (try simp only [List.length_cons,List.length_nil])
 all_goals grind [cd48, → dgs_b,zJ5,zM0,dgs_a,pln_n,zMY,plf,fuel,zgn,za9,zaV,zla]):G:=h
theorem goE2 (h:G:=by
 (with_reducible repeat' first|intro _|refine And.intro ?_ ?_|refine Wf ?_ ?_|refine Wi ?_ ?_|refine Ws ?_|refine Wc ?_ ?_|refine Wo ?_ ?_|refine Wk ?_|refine We ?_ ?_)
 all_goals (try simp only [List.length_cons,List.length_nil])
 all_goals grind [dvI_p,pln_s, → less_s, → zzg,zKj,zOl,dec_d,cd48,zJ5,plf,fuel,zb5,zcW,zgn,za9,zaV,zbg,zaF,Sm]):G:=h
theorem goE3 (h:G:=by
 (with_reducible repeat' first|intro _|refine And.intro ?_ ?_|refine Wf ?_ ?_|refine Wi ?_ ?_|refine Ws ?_|refine Wc ?_ ?_|refine Wo ?_ ?_|refine Wk ?_|refine We ?_ ?_)
 all_goals (try simp only [List.length_cons,List.length_nil])
 all_goals grind [zHA,allS_n,allS_c,four_e,GT_n,GT_c,GT_x,GT_8,zBj,hex_no,hex_ln,hex_i,hxs_a,hxs_1,hxs_0,elt_m, → zKi,zy0,zxF,zla,fuel,zb5,zcW,zgn,za9,zaV,zbg,zaF,Sm]):G:=h
theorem goE4 (h:G:=by
 (with_reducible repeat' first|intro _|refine And.intro ?_ ?_|refine Wf ?_ ?_|refine Wi ?_ ?_|refine Ws ?_|refine Wc ?_ ?_|refine Wo ?_ ?_|refine Wk ?_|refine We ?_ ?_)
 all_goals (try simp only [List.length_cons,List.length_nil])
 all_goals grind [sxW_9,sxW_s,SZ_0, → SZ_a, → SZ_b, → SZ_w,zPF,sixA_2,sixA_1,zPG,sixA_i,GT_8,zxF,zla,fuel,zb5,zcW,zgn,za9,zaV,List.append_assoc,zbg,zaF,Sm]):G:=h
theorem goE5 (h:G:=by
 (with_reducible repeat' first|intro _|refine And.intro ?_ ?_|refine Wf ?_ ?_|refine Wi ?_ ?_|refine Ws ?_|refine Wc ?_ ?_|refine Wo ?_ ?_|refine Wk ?_|refine We ?_ ?_)
 all_goals (try subst_vars)
 all_goals (try simp only [List.length_cons,List.length_nil])
 all_goals grind [nm_e,nm_3,nm_oo,nm_sh,nm_h,zla,fuel,zb5,zcW,zgn,za9,zaV,zbg,zaF,Sm]):G:=h
theorem goE6 (h:G:=by
 (with_reducible repeat' first|intro _|refine And.intro ?_ ?_|refine Wf ?_ ?_|refine Wi ?_ ?_|refine Ws ?_|refine Wc ?_ ?_|refine Wo ?_ ?_|refine Wk ?_|refine We ?_ ?_)
 all_goals (try simp only [List.length_cons,List.length_nil])
 all_goals grind [zMK,zML,zPH, → zAg, → zIx,no_58,zy0,zxF,zy1,zla,fuel,zb5,zcW,zgn,za9,zaV,zbg,zaF,Sm]):G:=h
end Go.Dm
end
