/-
 Hosts, in both directions. No program in sight.
 By whom, and domains: what may be. No program in sight.
 References to places, as the program takes them apart. No program in sight.
 Rules: which ones may be; templates, as they are read. No program in sight.
 Rules: what splitting and grind take. No program in sight.
 A reference to a place taken apart from its end: the same parts. No program in sight.
 Templates, read by the place of the first brace that closes. No program in sight.
 The document's hosts in both directions: what splitting and grind take. No program in sight.
 The document's 
-/
import Derived.Test.YtkmnihnifdcigaaGreatDoorTXU
set_option linter.unusedVariables false
set_option linter.unusedSimpArgs false
section
set_option linter.unusedVariables false
namespace Go.Dm
def zJd (b:Bool) (l:List Str):Prop:=∃k,Grp b l k
theorem Grp_h {b:Bool} {s:Str} {l:List Str} (hx:zru s=true) (h:zJd b l):zJd b (s::l):=by
 obtain ⟨k,h⟩:=h; exact ⟨_, .hex _ _ _ _ hx h⟩
theorem Grp_f {s:Str} (h:zmb s):zJd true [s]:=⟨_, .four _ h⟩
theorem Grp_e (b:Bool):zJd b []:=⟨_, .nil b⟩
theorem Grp_o {b:Bool} {l:List Str} (h:zJd b l):∃k,Grp b l k:=h
theorem six_r {s:Str} (h:((Go.Lib.cut s [58,58]).2.2=false∧Grp true (spt s) 8) ∨
    ((Go.Lib.cut s [58,58]).2.2=true∧∃n m,Grp false (spt (Go.Lib.cut s [58,58]).1) n∧Grp true (spt (Go.Lib.cut s [58,58]).2.1) m∧n+m≤7)):zut s:=by
  unfold zut;rw [zDx] at h
  cases e:zmc s with
  | none => rw [e] at h; rcases h with h|h
            · exact h.2
            · cases h.1
  | some p => rw [e] at h; rcases h with h|h
              · cases h.1
              · exact h.2
theorem six_i {s:Str}:zut s↔((Go.Lib.cut s [58,58]).2.2=false∧Grp true (spt s) 8) ∨
  ((Go.Lib.cut s [58,58]).2.2=true∧∃n m,Grp false (spt (Go.Lib.cut s [58,58]).1) n∧Grp true (spt (Go.Lib.cut s [58,58]).2.1) m∧n+m≤7):=⟨six_c,six_r⟩
theorem host_r {s:Str} (h:(2<(s.length:Int)∧sAt s 0=some 91∧sAt s ((s.length:Int)-1)=some 93∧zut (sb s 1 ((s.length:Int)-1)))∨zmb s∨(s≠[]∧ziV s=true)):zoy s:=by
 rcases h with ⟨h1,h2,h3,h4⟩|h
 ·obtain ⟨m,rfl⟩:=zyU h3
  obtain ⟨x,t,rfl⟩:∃x t,m=x::t:=by
   cases m with
   | nil=>simp at h1
   | cons x t=>exact ⟨x,t,rfl⟩
  have:x=91:=by simpa [sAt] using h2
  subst this;refine .inl ⟨t,?_,rfl,?_⟩
  ·rintro rfl; simp at h1
  ·have e:=zLF (s:=91::t++[93]) (m:=t) rfl (by rintro rfl; simp at h1);rw [e.2.2.2] at h4; exact h4
 ·exact .inr h
theorem zNU {s:Str}:zoy s↔(2<(s.length:Int)∧sAt s 0=some 91∧sAt s ((s.length:Int)-1)=some 93∧zut (sb s 1 ((s.length:Int)-1)))∨zmb s∨(s≠[]∧ziV s=true):=⟨zLG,host_r⟩
theorem zNV {s:Str} {i:Int} (h0:0≤i) (h:dr s i=58::dr s (i+1)) (hn:(58:UInt8)∉dr s (i+1)) (h1:zoy (tk s i)) (h2:zha (dr s (i+1)) 65535):zpn s :=
 ⟨_,_,(zzg h0 h).2,hn,h1,h2⟩
theorem goA2 {G:Prop} (h:G:=by
 (with_reducible repeat' first|intro _|refine And.intro ?_ ?_|refine Wf ?_ ?_|refine Wi ?_ ?_|refine Ws ?_|refine Wc ?_ ?_|refine Wo ?_ ?_|refine Wk ?_|refine We ?_ ?_)
 all_goals (try simp only [List.length_cons,List.length_nil])
 all_goals grind [Grp_h,Grp_f,Grp_e, → Grp_o,six_i,zNU,zNV,zDd, → zyT,zJM,zJN,zzB,zru, → zyU, → zJs, → zF2, → zzg, → zHH, → zHI,zr9,spt,zx3,zCO,zwU,sb_0,sb_s,zx4,zzy,fuel,zb0,zct,zfZ,zam,zaR,List.append_assoc,zau,zS,ze7,Sm]):G:=h
theorem tw_n (g:UInt8→Bool):([]:Str).takeWhile g=[]:=rfl
theorem dw_n (g:UInt8→Bool):([]:Str).dropWhile g=[]:=rfl
theorem dw_c (g:UInt8→Bool) (c:UInt8) (s:Str):(c::s).dropWhile g=(if g c=true then s.dropWhile g else c::s):=by
 rw [List.dropWhile_cons]
theorem tw_c (g:UInt8→Bool) (c:UInt8) (s:Str):(c::s).takeWhile g=(if g c=true then c::s.takeWhile g else [])∧(c::s).dropWhile g=(if g c=true then s.dropWhile g else c::s):=by
 rw [List.takeWhile_cons,List.dropWhile_cons]; cases g c<;>simp
theorem sb_1 {s:Str} {i j:Int} {c:UInt8} (h0:0≤i) (h1:i≤j) (h:dr s j=c::dr s (j+1)):sb s i (j+1)=sb s i j++[c]:=by
 have hl:=zkp (by omega) h;rw [zH4 h0 h1 (by omega:j≤j+1) (by omega),h]; simp
theorem sb_2 {s:Str} {i j:Int} (h0:0≤i) (h1:i≤j) (h:j<s.length):sb s i (j+1)=sb s i j++(dr s j).take 1:=by
 have e:(dr s j).length-(dr s (j+1)).length=1:=by simp [dr]; omega
 rw [zH4 h0 h1 (by omega:j≤j+1) (by omega),e]
theorem take1 (c:UInt8) (t:Str):(c::t).take 1=[c]:=rfl
theorem zKe (x t:Str):x.isPrefixOf (x++t)=true:=by rw [List.isPrefixOf_iff_prefix]; exact List.prefix_append x t
theorem zJe {s x t:Str} {i:Int} (h0:0≤i) (h:dr s i=x++t):dr s (i+(x.length:Int))=t:=by
 have e:(i+(x.length:Int)).toNat=i.toNat+x.length:=by omega
 unfold dr at *
 rw [e, ← List.drop_drop,h,List.drop_left]
theorem idxA_n {c s:Str} (h:∀x∈s,x∉c):zbD s c 0 = -1:=by
 have:=idxA c s [] 0 h (by simp);simpa using this
theorem goW {G:Prop} (h:G:=by
 (with_reducible repeat' first|intro _|refine And.intro ?_ ?_|refine Wf ?_ ?_|refine Wi ?_ ?_|refine Ws ?_|refine Wc ?_ ?_|refine Wo ?_ ?_|refine Wk ?_|refine We ?_ ?_)
 all_goals (try subst_vars)
 all_goals (try simp only [List.length_cons,List.length_nil])
 all_goals grind [tw_n,dw_n,tw_c,dw_c,sb_2,take1,zKe,zJe,zfY,idxA_n,zx4,fuel,zb0,zct,zfZ,zam,zaR,List.append_assoc,zau,zS,ze7,Sm,Ss,Cw,UInt8.toNat_lt]):G:=h
end Go.Dm
end
section
set_option linter.unusedVariables false
namespace Go.Dm
def nsp (b:UInt8):Bool := !(b==32)
def zvf (c s:Str):Bool:=s.any c.contains
theorem zFF (c:Str):∀(s:Str) (k:Nat),decide (0≤zbD s c k)=zvf c s
 | [],k=>by simp [zbD,zvf]
 | x::s,k=>by
  have ih:=zFF c s (k+1)
  unfold zvf at *
  rw [zbD,List.any_cons]
  cases hx:c.contains x with
  | true=>rw [if_pos rfl]; simp
  | false=>rw [if_neg Bool.false_ne_true,ih,Bool.false_or]
theorem idxA_h (c s:Str):decide (0≤zbD s c 0)=zvf c s:=zFF c s 0
def byP (b:Str):Prop:=zfY b=true∨(zoy b∨zpn b)∧zvf [44,40,41] b=false
def zzh (b:Str):Prop:=32∉b∧byP b
theorem ns_all {b:Str} (h:32∉b):b.takeWhile nsp=b∧b.dropWhile nsp=[]:=by
 induction b with
 | nil=>exact ⟨rfl,rfl⟩
 | cons x b ih =>
  simp only [List.mem_cons,not_or] at h
  have hx:nsp x=true:=by unfold nsp; simp; exact fun e=>h.1 e.symm
  have:=ih h.2;rw [(tw_c nsp x b).1,dw_c,if_pos hx,if_pos hx,this.1,this.2];exact ⟨rfl,rfl⟩
theorem ns_no {b:Str} (h:b.takeWhile nsp=b):32∉b:=by
 induction b with
 | nil=>simp
 | cons x b ih =>
  rw [(tw_c nsp x b).1] at h
  cases hx:nsp x with
  | false=>rw [hx,if_neg Bool.false_ne_true] at h; cases h
  | true =>
   rw [hx,if_pos rfl] at h;have h2:=ih (List.cons.inj h).2
   have:x≠32:=by rintro rfl; revert hx; decide
   simp only [List.mem_cons,not_or]; exact ⟨fun e=>this e.symm,h2⟩
theorem cls_v:zoI 49=true∧zoI 46=true∧zoI 32=false:=by decide
theorem zLK (a b c:Str):Go.Lib.join [a,b,c] []=a++(b++c):=by simp [Go.Lib.join]
theorem dr_0s (s:Str):dr s 0=s:=rfl
def dnP (s:Str):Prop:=(s≠[]∧ziV s=true)∧¬ zmb s
def okD (x:zW3):Prop:=dnP x.From∧dnP x.To∧zvf [44,59] x.To=false
def zwI (l:List zW3):Prop:=∀x∈l,okD x
theorem zLL:zwI []:=fun x h=>by cases h
theorem zLM (x:zW3) (l:List zW3):zwI (x::l)↔okD x∧zwI l:=by simp [zwI]
theorem zDe {G:Prop} (h:G:=by
 (with_reducible repeat' first|intro _|refine And.intro ?_ ?_|refine Wf ?_ ?_|refine Wi ?_ ?_|refine Ws ?_|refine Wc ?_ ?_|refine Wo ?_ ?_|refine Wk ?_|refine We ?_ ?_)
 all_goals (try subst_vars)
 all_goals (try simp only [List.length_cons,List.length_nil])
 all_goals grind [idxA_h,byP,zzh,ns_all, → ns_no,cls_v,zLK,dr_0s,dnP,okD,zLL,zLM,tw_n,dw_n,tw_c,dw_c,fuel,zb0,zct,zfZ,zam,zaR,List.append_assoc,zau,zS,Sm,Cw,Swm,UInt8.toNat_lt]):G:=h
end Go.Dm
end
section
set_option linter.unusedVariables false
namespace Go.Dm
def upt (l s:Str):Str × Str:=(s.takeWhile fun c => !l.contains c,s.dropWhile fun c => !l.contains c)
theorem zHM (l:Str):∀(s:Str) (k:Nat),(zbD s l k = -1∧(upt l s)=(s,[]))∨∃n:Nat,zbD s l k=(k+n:Nat)∧upt l s=(s.take n,s.drop n)
 | [],k => .inl ⟨rfl,rfl⟩
 | c::s,k=>by
  have ih:=zHM l s (k+1)
  unfold upt at *
  simp only [zbD,List.takeWhile_cons,List.dropWhile_cons]
  cases hx:l.contains c with
  | true =>
   rw [if_pos rfl];exact .inr ⟨0,rfl,rfl⟩
  | false =>
   rw [if_neg Bool.false_ne_true];simp only [Bool.not_false,if_true];simp only [Prod.mk.injEq] at ih ⊢
   rcases ih with ⟨h1,h2,h3⟩|⟨n,h1,h2,h3⟩
   ·exact .inl ⟨h1,by rw [h2],h3⟩
   ·exact .inr ⟨n+1,by rw [h1]; congr 1; omega,by rw [h2]; rfl,h3⟩
theorem upt_n {l s:Str} (h:zbD s l 0<0):upt l s=(s,[]):=by
 rcases zHM l s 0 with h1|⟨n,h1,_⟩
 ·exact h1.2
 ·omega
theorem upt_i {l s:Str} (h:0≤zbD s l 0):upt l s=(tk s (zbD s l 0),dr s (zbD s l 0)):=by
 rcases zHM l s 0 with h1|⟨n,h1,h2⟩
 ·omega
 ·rw [h1,h2]; unfold tk dr; simp
theorem zDf (c:UInt8):∀(s:Str) (k:Nat),zbY s c k=zbD s [c] k
 | [],_=>rfl
 | x::s,k=>by
  simp only [zbY,zbD,zDf c s (k+1),List.contains_cons,List.contains_nil,Bool.or_false]
def zuq (c:UInt8):Bool:=zk2 c||zbQ c||c==43||c==45||c==46
def zvk:Str→Bool
 | []=>false
 | c::s=>zk2 c&&(c::s).all zuq
theorem zLT:zvk []=false:=rfl
theorem schm_c {s:Str} {c:UInt8} (h:dr s 0=c::dr s (0+1)):zvk s=(zk2 c&&s.all zuq):=by
 have e:s=c::dr s 1:=h;rw [e]; rfl
def rf1 (s:Str) (v:zXc):zXc:=if s=[] then v else ⟨v.Scheme,v.Auth,v.Path,v.Query,dr s 1,v.HasAuth,v.HasQuery,true⟩
def rf2 (s:Str) (v:zXc):zXc:=if [63].isPrefixOf (upt [63,35] s).2=true then rf1 (upt [35] (dr (upt [63,35] s).2 1)).2 ⟨v.Scheme,v.Auth,(upt [63,35] s).1,(upt [35] (dr (upt [63,35] s).2 1)).1,v.Frag,v.HasAuth,true,v.HasFrag⟩
 else rf1 (upt [63,35] s).2 ⟨v.Scheme,v.Auth,(upt [63,35] s).1,v.Query,v.Frag,v.HasAuth,v.HasQuery,v.HasFrag⟩
def rf3 (s:Str) (v:zXc):zXc:=if [47,47].isPrefixOf s=true then rf2 (upt [47,63,35] (dr s 2)).2 ⟨v.Scheme,(upt [47,63,35] (dr s 2)).1,v.Path,v.Query,v.Frag,true,v.HasQuery,v.HasFrag⟩ else rf2 s v
def rf0:zXc:=⟨[],[],[],[],[],false,false,false⟩
def rf4 (s:Str):zXc:=if 0<zbY s 58 0∧zvk (tk s (zbY s 58 0))=true then rf3 (dr s (zbY s 58 0+1)) ⟨tk s (zbY s 58 0),[],[],[],[],false,false,false⟩ else rf3 s rf0
def zvl (r:zXc):Bool:=pqM [91,93] r.Auth && !r.Auth.contains 64&&pqM [47] r.Path&&pqM [47,63] r.Query&&pqM [47,63] r.Frag &&
 (if r.HasAuth=true then r.Path==[]||[47].isPrefixOf r.Path else !([47,47].isPrefixOf r.Path)&&(!(r.Scheme==[]) || !((upt [47] r.Path).1.contains 58)))
def zFM (s:Str):Bool:=zvl (rf4 s)
theorem zFN (c:UInt8):∀(s:Str) (k:Nat),decide (0≤zeH s [c] k)=s.contains c
 | [],k=>by simp [zeH,zk6]
 | x::s,k=>by
  have ih:=zFN c s (k+1);rw [zeH,List.contains_cons]
  have e:zk6 (x::s) [c]=(x==c):=by simp [zk6]
  rw [e]
  by_cases h:x=c
  ·subst h; simp
  ·have h2:(x==c)=false:=by simpa using h
   have h3:(c==x)=false:=by simpa using fun e=>h e.symm
   rw [h2,h3,Bool.false_or,if_neg Bool.false_ne_true]; exact ih
instance (s:Str) (c:UInt8):T (strings_Contains s [c]) (s.length<4294967281) (fun r=>r=s.contains c):=⟨fun h=>⟨_,by rw [strings_Contains,if_pos h],zFN c s 0⟩⟩
instance (s:Str) (c:UInt8):T (strings_IndexByte s c) True (fun r=>r=zbY s c 0 ∧ -1≤r∧r<s.length∧decide (0≤r)=s.contains c):=⟨fun _=>⟨_,rfl,rfl,by have:=zpa c s 0; omega,by have:=zpa c s 0; omega,idxB c s 0⟩⟩
theorem pre_e (c:UInt8) (s:Str) (x:UInt8) (h:dr s 0=x::dr s (0+1)):[c].isPrefixOf s=(x==c):=by
 have e:s=x::dr s 1:=h;rw [e,Bool.eq_iff_iff,zNX,beq_iff_eq];constructor
 ·rintro ⟨t,h⟩; exact (List.cons.inj h).1
 ·rintro rfl; exact ⟨_,rfl⟩
theorem n37:(37:UInt8)∉([91,93]:Str)∧(37:UInt8)∉([47]:Str)∧(37:UInt8)∉([47,63]:Str):=by decide
def okL (x:zW3):Prop:=x.From≠[]∧zFM x.From=true∧zFM x.To=true
def zwL (l:List zW3):Prop:=∀x∈l,okL x
theorem zLU:zwL []:=fun x h=>by cases h
theorem zLV (x:zW3) (l:List zW3):zwL (x::l)↔okL x∧zwL l:=by simp [zwL]
open Classical in
noncomputable def stC (e:zW2):Int:=if zzh e.By then (if e.Host≠[]∧¬ (zoy e.Host∨zpn e.Host) then 27 else if e.Scheme≠[]∧e.Scheme≠[104,116,116,112]∧e.Scheme≠[104,116,116,112,115] then 2
 else if zwI e.Domains then (if 64<e.Domains.length then 3 else if zwL e.Locations then (if 64<e.Locations.length then 3 else 0) else 2) else 27) else 2
theorem zx2 {G:Prop} (h:G:=by
 (with_reducible repeat' first|intro _|refine And.intro ?_ ?_|refine Wf ?_ ?_|refine Wi ?_ ?_|refine Ws ?_|refine Wc ?_ ?_|refine Wo ?_ ?_|refine Wk ?_|refine We ?_ ?_)
 all_goals (try subst_vars)
 all_goals (try simp only [List.length_cons,List.length_nil])
 all_goals grind [zLT,schm_c,upt_n,upt_i,rf1,rf2,rf3,rf4,rf0,zvl,pre_e,n37,okL,zLU,zLV,stC,zFM,fuel,zb0,zct,zfZ,zam,zaR,zau,zS,Sm,Um,Swm]):G:=h
theorem pqM_p1 (m:Str) (c:UInt8) (t:Str) (hc:c=37) (hm:37∉m) (h:t.length≤1):pqM m (c::t)=false:=by
 subst hc
 match t,h with
 | [],_=>exact (pq_1 _ 0).2
 | [a],_=>exact (pq_1 _ a).1
theorem pqM_p2 (m s:Str) (i:Int) (h0:0≤i) (h:dr s i=37::dr s (i+1)) (hm:37∉m) (h2:i+2<s.length):pqM m (dr s i)=((sb s (i+1) (i+3)).all zk3&&pqM m (dr s (i+3))):=(pqM_s m h0 h hm).1 h2
theorem goU3 {G:Prop} (h:G:=by
 (with_reducible repeat' first|intro _|refine And.intro ?_ ?_|refine Wf ?_ ?_|refine Wi ?_ ?_|refine Ws ?_|refine Wc ?_ ?_|refine Wo ?_ ?_|refine Wk ?_|refine We ?_ ?_)
 all_goals (try subst_vars)
 all_goals (try simp only [List.length_cons,List.length_nil])
 all_goals grind [zLH,pqM_o,pqM_p2,pqM_p1,zr9,n37,zx3,zCO,zwU,sb_0,sb_s,zx4,zzy,fuel,zb0,zct,zfZ,zam,zaR,zau,zS,Sm]):G:=h
end Go.Dm
end
section
set_option linter.unusedVariables false
namespace Go.Dm
def fokB (n v:Str):Bool:=zfY n&&v.all zzx&&zBc v==v
def guaP (g:zXx):Prop:=(g.Kind=0∧g.Name=[]∧g.Value=[])∨((g.Kind=1∨g.Kind=2)∧zfY g.Name=true∧g.Value=[])∨(g.Kind=3∧fokB g.Name g.Value=true)
def ownN:List Str:=[[104,111,115,116],[118,105,97],[102,111,114,119,97,114,100,101,100],[120,45,102,111,114,119,97,114,100,101,100,45,102,111,114]]
def zCY (n:Str):Bool:=decide (low n∈zIm)||decide (low n∈ownN)
def zIv (n:Str):Bool:=zfY n && !zCY n
def nmF:List Str→List zWR→List Str
 | a,[]=>a
 | a,p::l=>if p.Kind=2∧p.Text∉a then nmF (a++[p.Text]) l else nmF a l
theorem nmF_n (a:List Str):nmF a []=a:=rfl
theorem nmF_c (a:List Str) (p:zWR) (l:List zWR):nmF a (p::l)=if p.Kind=2∧p.Text∉a then nmF (a++[p.Text]) l else nmF a l:=rfl
def smB (b:UInt8):Bool:=decide (97≤b)&&decide (b≤122)
def plB (b:UInt8):Bool:=zzx b && !(b==36)
def adT (o:List zWR) (x:Str):List zWR:=match o.getLast? with
 | some p=>if p.Kind=1 then o.dropLast++[⟨1,p.Text++x⟩] else o++[⟨1,x⟩]
 | none=>o++[⟨1,x⟩]
inductive PR:List zWR→Str→List zWR→Prop
 | done (o:List zWR):PR o [] o
 | two {o:List zWR} {t:Str} {r:List zWR} (h:PR (adT o [36]) t r):PR o (36::36::t) r
 | fld {o:List zWR} {a t:Str} {r:List zWR} (ha:zfY a=true) (h:PR (o++[⟨3,a⟩]) t r):PR o (36::123::64::(a++125::t)) r
 | var {o:List zWR} {a t:Str} {r:List zWR} (ha:a.all smB=true) (hn:a≠[]) (h:PR (o++[⟨2,a⟩]) t r):PR o (36::123::(a++125::t)) r
 | one {o:List zWR} {c:UInt8} {t:Str} {r:List zWR} (hc:plB c=true) (h:PR (adT o [c]) t r):PR o (c::t) r
theorem zIw:plB 36=false:=by decide
theorem PR_e {o r:List zWR}:PR o [] r↔r=o:=by
 constructor
 ·intro h;generalize e:([]:Str)=s at h
  cases h with
  | done=>rfl
  | two h=>cases e
  | fld ha h=>cases e
  | var ha hn h=>cases e
  | one hc h=>cases e
 ·rintro rfl; exact .done _
theorem PR_2 {o r:List zWR} {t:Str}:PR o (36::36::t) r↔PR (adT o [36]) t r:=by
 constructor
 ·intro h;generalize e:(36::36::t:Str)=s at h
  cases h with
  | done=>cases e
  | two h=>cases e; exact h
  | fld ha h=>cases e
  | var ha hn h=>cases e
  | one hc h=>cases e; rw [zIw] at hc; cases hc
 ·exact .two
theorem adT_a (o:List zWR) (a b:Str):adT (adT o a) b=adT o (a++b):=by
 have key:∀(o:List zWR) (x:Str),adT (o++[⟨1,x⟩]) b=o++[⟨1,x++b⟩]:=fun o x=>by simp [adT]
 rcases List.eq_nil_or_concat o with rfl|⟨o,p,rfl⟩
 ·exact key [] a
 ·simp only [List.concat_eq_append]
  by_cases hp:p.Kind=1
  ·have e:∀x,adT (o++[p]) x=o++[⟨1,p.Text++x⟩]:=fun x=>by simp [adT,hp]
   rw [e,e,key,List.append_assoc]
  ·have e:∀x,adT (o++[p]) x=(o++[p])++[⟨1,x⟩]:=fun x=>by simp [adT,hp]
   rw [e,e,key]
theorem PR_1 {o r:List zWR} {c:UInt8} {t:Str} (hc:plB c=true):PR o (c::t) r↔PR (adT o [c]) t r:=by
 have hn:c≠36:=by rintro rfl; rw [zIw] at hc; cases hc
 constructor
 ·intro h;generalize e:(c::t:Str)=s at h
  cases h with
  | done=>cases e
  | two h=>exact absurd (List.cons.inj e).1 hn
  | fld ha h=>exact absurd (List.cons.inj e).1 hn
  | var ha hn2 h=>exact absurd (List.cons.inj e).1 hn
  | one hc h=>cases e; exact h
 ·exact .one hc
theorem PR_r {r:List zWR} {t:Str}:∀{a:Str} {o:List zWR},a≠[]→a.all plB=true→(PR o (a++t) r↔PR (adT o a) t r)
 | [],_,h,_=>absurd rfl h
 | [c],o,_,h=>PR_1 (by simpa using h)
 | c::d::a,o,_,h=>by
  rw [List.all_cons,Bool.and_eq_true] at h;have:=PR_r (r:=r) (t:=t) (a:=d::a) (o:=adT o [c]) (by simp) h.2;rw [List.cons_append,PR_1 h.1,this,adT_a]; rfl
theorem PR_x {o r:List zWR} {c:UInt8} {t:Str} (hc:plB c=false) (h1:∀u,c::t≠36::36::u) (h2:∀u,c::t≠36::123::u):¬ PR o (c::t) r:=fun h=>by
 generalize e:(c::t:Str)=s at h
 cases h with
 | done=>cases e
 | two h=>exact h1 _ e
 | fld ha h=>exact h2 _ e
 | var ha hn h=>exact h2 _ e
 | one hc h=>cases e; simp_all
theorem tw_u {g:UInt8→Bool} {a:Str} (h:a.all g=true) {c:UInt8} (hc:g c=false) (b:Str):(a++c::b).takeWhile g=a∧(a++c::b).dropWhile g=c::b:=by
 induction a with
 | nil=>simp [hc]
 | cons x a ih =>
  rw [List.all_cons,Bool.and_eq_true] at h;simp [h.1,ih h.2]
theorem zz1 (g:UInt8→Bool) (s:Str):s.takeWhile g++s.dropWhile g=s:=List.takeWhile_append_dropWhile
theorem zCZ (g:UInt8→Bool) (s:Str):(s.takeWhile g).all g=true:=by
 induction s with
 | nil=>rfl
 | cons x s ih =>
  rw [List.takeWhile_cons]
  split
  ·rw [List.all_cons,ih]; simp_all
  ·rfl
theorem zDV:zoI 125=false∧smB 125=false∧smB 64=false:=by decide
def PRn (o:List zWR) (t:Str) (r:List zWR):Prop:=PR o (36::123::t) r
theorem zNx {o r:List zWR} {t:Str}:PRn o (64::t) r↔(zfY (t.takeWhile zoI)=true∧∃v,t.dropWhile zoI=125::v∧PR (o++[⟨3,t.takeWhile zoI⟩]) v r):=by
 constructor
 ·intro h;unfold PRn at h;generalize e:(36::123::64::t:Str)=s at h
  cases h with
  | done=>cases e
  | two h=>cases e
  | fld ha h =>
   cases e
   rename_i a u
   have:=tw_u (g:=zoI) (a:=a) (by unfold zfY at ha; simp at ha; simpa using ha.1) zDV.1 u;rw [this.1,this.2]; exact ⟨ha,_,rfl,h⟩
  | var ha hn h =>
   rename_i a u
   cases a with
   | nil=>exact absurd rfl hn
   | cons x a =>
    simp at e;rw [List.all_cons, ← e.1,zDV.2.2] at ha; cases ha
  | one hc h=>cases e; rw [zIw] at hc; cases hc
 ·rintro ⟨h1,v,h2,h3⟩;have:=zz1 zoI t;rw [h2] at this;unfold PRn;rw [← this]; exact .fld h1 h3
theorem zJ4 {o r:List zWR} {t:Str} (h64:∀u,t≠64::u):PRn o t r↔(t.takeWhile smB≠[]∧∃v,t.dropWhile smB=125::v∧PR (o++[⟨2,t.takeWhile smB⟩]) v r):=by
 constructor
 ·intro h;unfold PRn at h;generalize e:(36::123::t:Str)=s at h
  cases h with
  | done=>cases e
  | two h=>cases e
  | fld ha h=>simp at e; exact absurd e (h64 _)
  | var ha hn h =>
   rename_i a u
   simp at e; subst e;have:=tw_u (g:=smB) ha zDV.2.1 u;rw [this.1,this.2]; exact ⟨hn,_,rfl,h⟩
  | one hc h=>cases e; rw [zIw] at hc; cases hc
 ·rintro ⟨h1,v,h2,h3⟩;have:=zz1 smB t;rw [h2] at this;unfold PRn;rw [← this]; exact .var (zCZ _ _) h1 h3
def dbl:Str→Str
 | []=>[]
 | c::s=>if c=36 then 36::36::dbl s else c::dbl s
def prP (p:zWR):Str:=if p.Kind=1 then dbl p.Text else if p.Kind=2 then [36,123]++(p.Text++[125]) else if p.Kind=3 then [36,123,64]++(p.Text++[125]) else []
def prA:List zWR→Str
 | []=>[]
 | p::l=>prP p++prA l
theorem prA_n:prA []=[]:=rfl
theorem prA_c (p:zWR) (l:List zWR):prA (p::l)=prP p++prA l:=rfl
def zz2 (l:List zWR) (s:Str):Prop:=PR [] s l∧l.length≤32
theorem zGj {s:Str} (h:(36:UInt8)∉s):dbl s=s:=by
 induction s with
 | nil=>rfl
 | cons c s ih =>
  simp only [List.mem_cons,not_or] at h;rw [dbl,if_neg fun e=>h.1 e.symm,ih h.2]
theorem zPs (s t:Str):dbl (s++t)=dbl s++dbl t:=by
 induction s with
 | nil=>rfl
 | cons c s ih=>rw [List.cons_append,dbl,dbl,ih]; split<;>rfl
theorem jn_n:Go.Lib.join [] []=[]:=rfl
theorem jn_a (l m:List Str):Go.Lib.join (l++m) []=Go.Lib.join l []++Go.Lib.join m []:=by
 have key:∀l:List Str,Go.Lib.join l []=l.flatten:=by
  intro l
  induction l with
  | nil=>rfl
  | cons x l ih =>
   cases l with
   | nil=>simp [Go.Lib.join]
   | cons y l=>simp [Go.Lib.join] at ih ⊢; exact ih
 rw [key,key,key,List.flatten_append]
theorem jn_1 (a:Str):Go.Lib.join [a] []=a:=by simp [Go.Lib.join]
theorem dbl_k:∀(n:Nat) (s:Str),s.length≤n→∀k,Go.Lib.count s [36]≤k→Go.Lib.replaceK [36] [36,36] k s=dbl s
 | 0,s,h,k,_=>by
  have:s=[]:=List.eq_nil_of_length_eq_zero (by omega);subst this
  cases k with
  | zero=>rfl
  | succ k=>simp [Go.Lib.replaceK,Go.Lib.index,dbl]
 | n+1,s,h,k,hk=>by
  by_cases h36:(36:UInt8)∈s
  ·obtain ⟨a,b,rfl,ha⟩:=List.eq_append_cons_of_mem h36;have hi:Go.Lib.index (a++36::b) [36]=(a.length:Nat):=zJJ 36 [] b a ha
   have hd:(a++36::b).drop (a.length+([36]:Str).length)=b:=by
    rw [show a++36::b=(a++[36])++b by simp,show a.length+([36]:Str).length=(a++[(36:UInt8)]).length by simp,List.drop_left]
   have hc:=Go.Lib.count_hit (sub:=[36]) (by simp) hi;rw [hd] at hc;obtain ⟨k,rfl⟩:∃j,k=j+1:=⟨k-1,by omega⟩;rw [Go.Lib.replaceK_hit _ _ _ _ _ hi,hd,List.take_left,dbl_k n b (by simp at h; omega) k (by omega),zPs,zGj ha,dbl,if_pos rfl];simp
  ·have hi:Go.Lib.index s [36] = -1:=zJK 36 [] s h36;rw [zGj h36]
   cases k with
   | zero=>rfl
   | succ k=>rw [Go.Lib.replaceK,if_pos (by rw [hi]; rfl)]
theorem dbl_l (s:Str):(dbl s).length≤2*s.length:=by
 induction s with
 | nil=>simp [dbl]
 | cons c s ih=>rw [dbl]; split<;>simp<;>omega
instance (s:Str):T (strings_ReplaceAll s [36] [36,36]) (s.length≤1000000000) (fun r=>r=dbl s∧r.length≤2*s.length):=⟨fun h=>by
 have c:Go.Lib.countB ⟨s.toArray⟩ ⟨([36]:Str).toArray⟩≤s.length+1:=by
  have:=Go.Lib.count_le s [36];unfold Go.Lib.countB;simpa using this
 have e:Go.Lib.replaceAll s [36] [36,36]=dbl s:=by
  unfold Go.Lib.replaceAll Go.Lib.replace;rw [if_neg (by decide)];exact dbl_k s.length s (Nat.le_refl _) _ (by unfold Go.Lib.replaceNum; rw [if_pos (.inl (by omega))]; exact Nat.le_refl _)
 refine ⟨_,by rw [strings_ReplaceAll,if_pos ⟨by omega,by simp,by simp; omega⟩],?_⟩
 rw [e]; exact ⟨rfl,dbl_l s⟩⟩
instance {α:Type} (l:List α):T (Go.Rk.nnl l) (1≤l.length) (fun _=>True):=⟨fun h=>by
 cases l with
 | nil=>simp at h
 | cons x l=>exact ⟨_,rfl,trivial⟩⟩
def zBq (s:Int):Option (List Str):=if s=1 then some [[99,108,105,101,110,116],[104,111,115,116],[109,101,116,104,111,100],[112,97,116,104],[115,99,104,101,109,101]]
 else if s=2 then some [[99,108,105,101,110,116],[104,111,115,116],[115,99,104,101,109,101],[115,116,97,116,117,115]] else none
theorem kno_l {s:Int} {l:List Str} (h:zBq s=some l):1≤l.length∧l.length≤10:=by
 unfold zBq at h
 split at h
 ·cases h; simp
 ·split at h
  ·cases h; simp
  ·cases h
instance (x_side:Int):T (znj x_side) True (fun r=>r=zBq x_side):=⟨fun _=>by
 unfold znj zBq
 by_cases h:x_side=1
 ·subst h; exact ⟨_,rfl,rfl⟩
 ·by_cases h2:x_side=2
  ·subst h2; exact ⟨_,rfl,rfl⟩
  ·exact ⟨none,by rw [if_neg (by simpa using h),if_neg (by simpa using h2)],by rw [if_neg h,if_neg h2]⟩⟩
instance:T zti True (fun r=>r=zIm∧r.length=8):=⟨fun _=>⟨_,rfl,rfl,rfl⟩⟩
def zDW (k:List Str):List Str→Prop
 | []=>True
 | s::l=>s∈k∧zDW k l
theorem zNy (k:List Str):zDW k []:=trivial
theorem zNz (k:List Str) (s:Str) (l:List Str):zDW k (s::l)↔s∈k∧zDW k l:=Iff.rfl
def parP (s:Int) (l:List zWR):Prop:=zDW ((zBq s).getD []) (nmF [] l)∧zz2 l (prA l)
def actP (r:zWU):Prop:=((r.Kind=1∨r.Kind=2)∧r.To=[]∧parP r.Side r.Parts)∨(r.Kind=3∧r.To=[]∧r.Parts=[])∨(r.Kind=4∧zIv r.To=true∧r.Parts=[])
def zGk (r:zWU):Prop:=zBq r.Side≠none∧guaP r.Guard∧zIv r.Name=true∧actP r
def zoC (l:List zWU):Prop:=∀r∈l,zGk r
theorem zJ5:zoC []:=fun x h=>by cases h
theorem zJ6 (x:zWU) (l:List zWU):zoC (x::l)↔zGk x∧zoC l:=by simp [zoC]
theorem low_l (s:Str):(low s).length=s.length:=by simp [low]
theorem adT_1 {o:List zWR} {p:zWR} {i:Int} (h:dr o i=p::dr o (i+1)) (hi:i=(o.length:Int)-1) (h0:0<(o.length:Int)) (x:Str):adT o x=if p.Kind=1 then o.set i.toNat ⟨1,p.Text++x⟩ else o++[⟨1,x⟩]:=by
 rcases List.eq_nil_or_concat o with rfl|⟨q,y,rfl⟩
 ·simp at h0
 ·simp only [List.concat_eq_append] at *
  have e:i.toNat=q.length:=by rw [hi]; simp
  have ey:y=p:=by
   unfold dr at h;rw [e,List.drop_left] at h;exact (List.cons.inj h).1
  subst ey;unfold adT;rw [List.getLast?_concat,e];simp
theorem adT_0 {o:List zWR} (h:o.length=0) (x:Str):adT o x=o++[⟨1,x⟩]:=by
 have:o=[]:=List.eq_nil_of_length_eq_zero h;subst this; rfl
end Go.Dm
end
section
set_option linter.unusedVariables false
namespace Go.Dm
theorem t_1 (s:Str) (c:UInt8):(∀t,s≠c::t)∨∃t,s=c::t:=by
 cases s with
 | nil=>exact .inl fun t h=>by cases h
 | cons x s =>
  by_cases h:x=c
  ·subst h; exact .inr ⟨_,rfl⟩
  ·exact .inl fun t e=>h (List.cons.inj e).1
theorem PR_z {o r:List zWR} {s:Str} (h:s≠[]) (g1:([36,36]:Str).isPrefixOf s=false) (g2:([36,123]:Str).isPrefixOf s=false):PR o s r↔(s.takeWhile plB≠[]∧PR (adT o (s.takeWhile plB)) (s.dropWhile plB) r):=by
 have h1:∀u,s≠36::36::u:=by rintro u rfl; simp [List.isPrefixOf] at g1
 have h2:∀u,s≠36::123::u:=by rintro u rfl; simp [List.isPrefixOf] at g2
 obtain ⟨c,t,rfl⟩:∃c t,s=c::t:=by
  cases s with
  | nil=>exact absurd rfl h
  | cons c t=>exact ⟨c,t,rfl⟩
 cases hc:plB c with
 | false =>
  constructor
  ·intro hp; exact absurd hp (PR_x hc h1 h2)
  ·rintro ⟨hn,_⟩; rw [List.takeWhile_cons,hc] at hn; exact absurd rfl hn
 | true =>
  have hn:(c::t).takeWhile plB≠[]:=by rw [List.takeWhile_cons,hc]; simp
  have:=PR_r (r:=r) (o:=o) (a:=(c::t).takeWhile plB) (t:=(c::t).dropWhile plB) hn (zCZ _ _);rw [zz1] at this;rw [this]; exact ⟨fun h=>⟨hn,h⟩,fun h=>h.2⟩
theorem adT_2 {o:List zWR} {p:zWR} {i:Int} (h:lAt o i=some p) (x:Str) (hi:i=(o.length:Int)-1) (hk:p.Kind=1):adT o x=o.set i.toNat ⟨1,p.Text++x⟩:=by
 unfold lAt at h
 split at h
 ·rename_i h0
  rw [adT_1 (zCN h0 h) hi (by omega),if_pos hk]
 ·cases h
theorem adT_3 {o:List zWR} {p:zWR} {i:Int} (h:lAt o i=some p) (x:Str) (hi:i=(o.length:Int)-1) (hk:¬ p.Kind=1):adT o x=o++[⟨1,x⟩]:=by
 unfold lAt at h
 split at h
 ·rename_i h0
  rw [adT_1 (zCN h0 h) hi (by omega),if_neg hk]
 ·cases h
theorem pre_dr {s t:Str} {i:Int} (h:t <+: dr s i) (h0:0≤i):dr s i=t++dr s (i+(t.length:Int)):=by
 obtain ⟨u,h⟩:=h;rw [← h]
 congr 1
 exact (zJe h0 h.symm).symm
theorem PRn_d {o r:List zWR} {t:Str}:PR o (36::123::t) r↔PRn o t r:=Iff.rfl
theorem tok_tw (s:Str):zfY (s.takeWhile zoI) = !(s.takeWhile zoI==[]):=by unfold zfY; rw [zCZ,Bool.true_and]
theorem zIH {G:Prop} (h:G:=by
 (with_reducible repeat' first|intro _|refine And.intro ?_ ?_|refine Wf ?_ ?_|refine Wi ?_ ?_|refine Ws ?_|refine Wc ?_ ?_|refine Wo ?_ ?_|refine Wk ?_|refine We ?_ ?_)
 all_goals (try simp only [List.length_cons,List.length_nil])
 all_goals grind [fokB,guaP,zCY,zIv,ownN,nmF_n,nmF_c,low_l,Gm,fuel,zb0,zct,zfZ,zam,zaR,zau,zS,Sm]):G:=h
theorem goR2 {G:Prop} (h:G:=by
 (with_reducible repeat' first|intro _|refine And.intro ?_ ?_|refine Wf ?_ ?_|refine Wi ?_ ?_|refine Ws ?_|refine Wc ?_ ?_|refine Wo ?_ ?_|refine Wk ?_|refine We ?_ ?_)
 all_goals (try simp only [List.length_cons,List.length_nil])
 all_goals grind [Rt,zDV,tok_tw,adT_2,adT_3,adT_0,zNx,zJ4,PR_2,PR_e,PR_z,PRn_d,zz2,fuel,zb0,zct,zfZ,zam,zaR,Cw]):G:=h
theorem zGK {G:Prop} (h:G:=by
 (with_reducible repeat' first|intro _|refine And.intro ?_ ?_|refine Wf ?_ ?_|refine Wi ?_ ?_|refine Ws ?_|refine Wc ?_ ?_|refine Wo ?_ ?_|refine Wk ?_|refine We ?_ ?_)
 all_goals (try subst_vars)
 all_goals (try simp only [List.length_cons,List.length_nil])
 all_goals grind [zLK,prA_n,prA_c,prP,zz2,jn_n,jn_a,jn_1,zNy,zNz, → kno_l,parP,actP,zGk,zJ5,zJ6,Rm,Tp,Rl,Gm,List.append_assoc,zau,zS,ze7,fuel,zb0,zct,zfZ,zam,zaR]):G:=h
theorem goR5 {G:Prop} (h:G:=by
 (with_reducible repeat' first|intro _|refine And.intro ?_ ?_|refine Wf ?_ ?_|refine Wi ?_ ?_|refine Ws ?_|refine Wc ?_ ?_|refine Wo ?_ ?_|refine Wk ?_|refine We ?_ ?_)
 all_goals (try subst_vars)
 all_goals (try simp only [List.length_cons,List.length_nil])
 all_goals grind [zKe, → pre_dr,zJe,fuel,zb0,zfZ,zam,zaR,Cw]):G:=h
end Go.Dm
end
section
set_option linter.unusedVariables false
namespace Go.Dm
theorem zh5 {l b e:Str} (hb:∀x∈b,l.contains x=false) (he:e=[]∨∃c t,e=c::t∧l.contains c=true):upt l (b++e)=(b,e):=by
 unfold upt
 induction b with
 | nil =>
  rcases he with rfl|⟨c,t,rfl,hc⟩
  ·rfl
  ·rw [List.nil_append,List.takeWhile_cons,List.dropWhile_cons,hc]; rfl
 | cons x b ih =>
  have hx:=hb x List.mem_cons_self;have ih:=ih fun y hy=>hb y (List.mem_cons_of_mem _ hy);simp only [Prod.mk.injEq] at ih ⊢;rw [List.cons_append,List.takeWhile_cons,List.dropWhile_cons,hx];exact ⟨by simp only [Bool.not_false,if_true,ih.1],by simp only [Bool.not_false,if_true,ih.2]⟩
theorem zp7 (l s:Str):∃b e,s=b++e∧upt l s=(b,e)∧(∀x∈b,l.contains x=false)∧(e=[]∨∃c t,e=c::t∧l.contains c=true):=by
 induction s with
 | nil=>exact ⟨[],[],rfl,rfl,fun x h=>(by cases h), .inl rfl⟩
 | cons c s ih =>
  cases hc:l.contains c with
  | true =>
   exact ⟨[],c::s,rfl,zh5 (b:=[]) (fun x h=>by cases h) (.inr ⟨_,_,rfl,hc⟩),fun x h=>(by cases h), .inr ⟨_,_,rfl,hc⟩⟩
  | false =>
   obtain ⟨b,e,rfl,h1,h2,h3⟩:=ih
   have hb:∀x∈c::b,l.contains x=false:=fun x hx=>by
    rcases List.mem_cons.1 hx with rfl|hx
    ·exact hc
    ·exact h2 x hx
   exact ⟨c::b,e,rfl,zh5 hb h3,hb,h3⟩
def rrT (s:Str):Str:=match s with|[]=>[]|_::t=>t
def rrA (sc b q f:Str) (hq hf:Bool):zXc:=if [47,47].isPrefixOf b=true then ⟨sc,(upt [47] (dr b 2)).1,(upt [47] (dr b 2)).2,q,f,true,hq,hf⟩ else ⟨sc,[],b,q,f,false,hq,hf⟩
def rrB (b q f:Str) (hq hf:Bool):zXc:=if [58].isPrefixOf (upt [58,47] b).2=true∧zvk (upt [58,47] b).1=true then rrA (upt [58,47] b).1 (rrT (upt [58,47] b).2) q f hq hf else rrA [] b q f hq hf
def rr (s:Str):zXc:=rrB (upt [63] (upt [35] s).1).1 (rrT (upt [63] (upt [35] s).1).2) (rrT (upt [35] s).2) (!((upt [63] (upt [35] s).1).2==[])) (!((upt [35] s).2==[]))
theorem zJp {sc au p:Str} {ha:Bool} {b q f:Str} (hb:∀x∈b,([63,35]:Str).contains x=false) (hq:∀x∈q,([35]:Str).contains x=false) :
  rf2 b ⟨sc,au,p,[],[],ha,false,false⟩=⟨sc,au,b,[],[],ha,false,false⟩ ∧
  rf2 (b++35::f) ⟨sc,au,p,[],[],ha,false,false⟩=⟨sc,au,b,[],f,ha,false,true⟩ ∧
  rf2 (b++63::q) ⟨sc,au,p,[],[],ha,false,false⟩=⟨sc,au,b,q,[],ha,true,false⟩ ∧
  rf2 (b++63::(q++35::f)) ⟨sc,au,p,[],[],ha,false,false⟩=⟨sc,au,b,q,f,ha,true,true⟩:=by
 have e0:upt [63,35] b=(b,[]):=by have:=zh5 (l:=[63,35]) (e:=[]) hb (.inl rfl); rwa [List.append_nil] at this
 have e1:∀t,upt [63,35] (b++35::t)=(b,35::t):=fun t=>zh5 hb (.inr ⟨_,_,rfl,rfl⟩);have e2:∀t,upt [63,35] (b++63::t)=(b,63::t):=fun t=>zh5 hb (.inr ⟨_,_,rfl,rfl⟩)
 have e3:upt [35] q=(q,[]):=by have:=zh5 (l:=[35]) (e:=[]) hq (.inl rfl); rwa [List.append_nil] at this
 have e4:upt [35] (q++35::f)=(q,35::f):=zh5 hq (.inr ⟨_,_,rfl,rfl⟩);have d:∀(c:UInt8) (t:Str),dr (c::t) 1=t:=fun _ _=>rfl;refine ⟨?_,?_,?_,?_⟩
 ·simp only [rf2,e0]; rfl
 ·simp only [rf2,e1]; rfl
 ·simp only [rf2,e2,d,e3]; rfl
 ·simp only [rf2,e2,d,e4]; rfl
theorem zJq {sc b q f:Str} (hb:∀x∈b,([63,35]:Str).contains x=false) (hq:∀x∈q,([35]:Str).contains x=false) :
  rf3 b ⟨sc,[],[],[],[],false,false,false⟩=rrA sc b [] [] false false ∧
  rf3 (b++35::f) ⟨sc,[],[],[],[],false,false,false⟩=rrA sc b [] f false true ∧
  rf3 (b++63::q) ⟨sc,[],[],[],[],false,false,false⟩=rrA sc b q [] true false ∧
  rf3 (b++63::(q++35::f)) ⟨sc,[],[],[],[],false,false,false⟩=rrA sc b q f true true:=by
 have key:∀e:Str,(e=[]∨∃c t,e=c::t∧([63,35]:Str).contains c=true)→([47,47].isPrefixOf (b++e)=[47,47].isPrefixOf b) ∧
   ([47,47].isPrefixOf b=true→upt [47,63,35] (dr (b++e) 2)=((upt [47] (dr b 2)).1,(upt [47] (dr b 2)).2++e)∧∀x∈(upt [47] (dr b 2)).2,([63,35]:Str).contains x=false):=by
  intro e he
  have hc:∀c t,e=c::t→(47==c)=false:=by
   rintro c t rfl
   rcases he with he|⟨c',t',h,hc⟩
   ·cases he
   ·cases h
    by_cases h47:(47:UInt8)=c
    ·subst h47; revert hc; decide
    ·simpa using h47
  match b,hb with
  | [],_ =>
   refine ⟨?_,fun h=>by simp [List.isPrefixOf] at h⟩
   cases e with
   | nil=>rfl
   | cons c t=>simp [List.isPrefixOf,hc c t rfl]
  | [x],_ =>
   refine ⟨?_,fun h=>by simp [List.isPrefixOf] at h⟩
   cases e with
   | nil=>rfl
   | cons c t=>simp [List.isPrefixOf,hc c t rfl]
  | x::y::w,hb =>
   refine ⟨by simp [List.isPrefixOf],fun _=>?_⟩;have hw:∀z∈w,([63,35]:Str).contains z=false:=fun z hz=>hb z (List.mem_cons_of_mem _ (List.mem_cons_of_mem _ hz));show upt [47,63,35] (w++e)=((upt [47] w).1,(upt [47] w).2++e)∧∀z∈(upt [47] w).2,_;obtain ⟨m,k,rfl,h1,h2,h3⟩:=zp7 [47] w;rw [h1];refine ⟨?_,fun z hz=>hw z (List.mem_append_right _ hz)⟩
   have hm:∀z∈m,([47,63,35]:Str).contains z=false:=fun z hz=>by
    have a:=h2 z hz;have b:=hw z (List.mem_append_left _ hz);simp only [List.contains_cons,List.contains_nil,Bool.or_false,Bool.or_eq_false_iff] at a b ⊢;exact ⟨a,b.1,b.2⟩
   rw [List.append_assoc];refine zh5 hm ?_
   rcases h3 with rfl|⟨c,t,rfl,hd⟩
   ·rcases he with rfl|⟨c,t,rfl,hd⟩
    ·exact .inl rfl
    ·refine .inr ⟨_,_,rfl,?_⟩;simp only [List.contains_cons,List.contains_nil,Bool.or_false] at hd ⊢;rw [hd,Bool.or_true]
   ·refine .inr ⟨_,_,rfl,?_⟩;simp only [List.contains_cons,List.contains_nil,Bool.or_false] at hd ⊢;rw [hd,Bool.true_or]
 have step:∀(e:Str) (hE:e=[]∨∃c t,e=c::t∧([63,35]:Str).contains c=true) (R:Str→Str→Bool→zXc),
   (∀(au p b:Str) (ha:Bool),(∀x∈b,([63,35]:Str).contains x=false)→rf2 (b++e) ⟨sc,au,p,[],[],ha,false,false⟩=R au b ha) →
   rf3 (b++e) ⟨sc,[],[],[],[],false,false,false⟩=if [47,47].isPrefixOf b=true then R (upt [47] (dr b 2)).1 (upt [47] (dr b 2)).2 true else R [] b false:=by
  intro e hE R hR;have hk:=key e hE;unfold rf3;rw [hk.1]
  by_cases h:[47,47].isPrefixOf b=true
  ·rw [if_pos h,if_pos h,(hk.2 h).1];exact hR _ _ _ _ (hk.2 h).2
  ·rw [if_neg h,if_neg h];exact hR _ _ _ _ hb
 refine ⟨?_,?_,?_,?_⟩
 ·have:=step [] (.inl rfl) (fun au b ha=>⟨sc,au,b,[],[],ha,false,false⟩) (fun au p b ha hb=>(congrArg (fun s=>rf2 s ⟨sc,au,p,[],[],ha,false,false⟩) (List.append_nil b)).trans (zJp (q:=q) (f:=[]) hb hq).1);rw [List.append_nil] at this; exact this
 ·exact step (35::f) (.inr ⟨_,_,rfl,rfl⟩) (fun au b ha=>⟨sc,au,b,[],f,ha,false,true⟩) (fun au p b ha hb=>(zJp hb hq).2.1)
 ·exact step (63::q) (.inr ⟨_,_,rfl,rfl⟩) (fun au b ha=>⟨sc,au,b,q,[],ha,true,false⟩) (fun au p b ha hb=>(zJp (f:=[]) hb hq).2.2.1)
 ·exact step (63::(q++35::f)) (.inr ⟨_,_,rfl,rfl⟩) (fun au b ha=>⟨sc,au,b,q,f,ha,true,true⟩) (fun au p b ha hb=>(zJp hb hq).2.2.2)
theorem zLC {A:Str} (h:zvk A=true):A≠[]∧∀x∈A,x≠58∧x≠47∧x≠63∧x≠35:=by
 have k:zuq 58=false∧zuq 47=false∧zuq 63=false∧zuq 35=false:=by decide
 cases A with
 | nil=>cases h
 | cons c A =>
  refine ⟨by simp,fun x hx=>?_⟩
  have:(c::A).all zuq=true:=by unfold zvk at h; rw [Bool.and_eq_true] at h; exact h.2
  have hs:=List.all_eq_true.1 this x hx;refine ⟨?_,?_,?_,?_⟩<;>(rintro rfl; simp_all)
theorem idx58 (T:Str):∀(A:Str) (k:Nat),(∀x∈A,x≠58)→zbY (A++58::T) 58 k=((k+A.length:Nat):Int)
 | [],k,_=>by simp [zbY]
 | c::A,k,h=>by
  have h1:=h c List.mem_cons_self
  have h2:(c==58)=false:=by simpa using h1
  have ih:=idx58 T A (k+1) fun x hx=>h x (List.mem_cons_of_mem _ hx);rw [List.cons_append,zbY];simp only [h2,List.length_cons];rw [if_neg (by simp),ih]
  congr 1; omega
theorem rf4_y {A T:Str} (h:zvk A=true):rf4 (A++58::T)=rf3 T ⟨A,[],[],[],[],false,false,false⟩:=by
 have hx:=zLC h;have hi:=idx58 T A 0 fun x hx'=>(hx.2 x hx').1;rw [Nat.zero_add] at hi
 have ht:tk (A++58::T) ((A.length:Nat):Int)=A:=by unfold tk; simp
 have hd:dr (A++58::T) (((A.length:Nat):Int)+1)=T:=by
  unfold dr;rw [show (((A.length:Nat):Int)+1).toNat=(A++[(58:UInt8)]).length by simp,show A++58::T=(A++[58])++T by simp,List.drop_left]
 have h0:0<A.length:=by
  cases A with
  | nil=>exact absurd rfl hx.1
  | cons a b=>simp
 unfold rf4;rw [hi,ht,hd,if_pos ⟨by omega,h⟩]
theorem rf4_n {s:Str} (h:∀A T,s=A++58::T→zvk A=false):rf4 s=rf3 s rf0:=by
 unfold rf4;rw [if_neg];rintro ⟨h0,h1⟩;obtain ⟨b,e,rfl,h2,_,h3⟩:=zp7 [58] s
 have hi:0≤zbD (b++e) [58] 0:=by rw [← zDf]; omega
 have hu:=upt_i hi;have hl:=zzi [58] (b++e) 0;rw [h2, ← zDf] at hu;rw [← zDf] at hl;have e1:=(Prod.mk.inj hu).1;have e2:=(Prod.mk.inj hu).2
 have hne:e≠[]:=by
  intro h;rw [e2] at h;have:=congrArg List.length h;unfold dr at this;rw [List.length_drop,List.length_nil] at this;omega
 rcases h3 with h3|⟨c,t,rfl,hc⟩
 ·exact absurd h3 hne
 ·have hc:c=58:=by simpa using hc
  subst hc;have:=h b t rfl;rw [← e1,this] at h1; cases h1
theorem rr_eq (s:Str):rr s=rf4 s:=by
 obtain ⟨w,F,rfl,e1,hw,hF⟩:=zp7 [35] s;obtain ⟨v,Q,rfl,e2,hv,hQ⟩:=zp7 [63] w
 have hvv:∀x∈v,([63,35]:Str).contains x=false:=fun x hx=>by
  have a:=hv x hx;have b:=hw x (List.mem_append_left _ hx);simp only [List.contains_cons,List.contains_nil,Bool.or_false,Bool.or_eq_false_iff] at a b ⊢;exact ⟨a,b⟩
 have r3:∀(sc b:Str),(∀x∈b,([63,35]:Str).contains x=false)→rf3 (b++(Q++F)) ⟨sc,[],[],[],[],false,false,false⟩=rrA sc b (rrT Q) (rrT F) (!(Q==[])) (!(F==[])):=by
  intro sc b hb
  rcases hQ with rfl|⟨c,q,rfl,hc⟩
  ·rcases hF with rfl|⟨d,f,rfl,hd⟩
   ·rw [List.append_nil,List.append_nil]; exact (zJq (q:=[]) (f:=[]) hb (fun x h=>by cases h)).1
   ·have hd:d=35:=by simpa using hd
    subst hd;exact (zJq (q:=[]) hb (fun x h=>by cases h)).2.1
  ·have hc:c=63:=by simpa using hc
   subst hc;have hq:∀x∈q,([35]:Str).contains x=false:=fun x hx=>hw x (List.mem_append_right _ (List.mem_cons_of_mem _ hx))
   rcases hF with rfl|⟨d,f,rfl,hd⟩
   ·rw [List.append_nil]; exact (zJq (f:=[]) hb hq).2.2.1
   ·have hd:d=35:=by simpa using hd
    subst hd;exact (zJq hb hq).2.2.2
 unfold rr;rw [e1];simp only;rw [e2];simp only;unfold rrB;obtain ⟨a,e,rfl,e3,ha,he⟩:=zp7 [58,47] v;rw [e3];simp only
 by_cases c:[58].isPrefixOf e=true∧zvk a=true
 ·rw [if_pos c];obtain ⟨t,rfl⟩:=(zNX 58 e).1 c.1;rw [show a++58::t++Q++F=a++58::(t++(Q++F)) by simp,rf4_y c.2];exact (r3 a t fun x hx=>hvv x (by simp [hx])).symm
 ·rw [if_neg c,List.append_assoc,rf4_n]
  ·exact (r3 [] (a++e) hvv).symm
  ·intro A T hA
   cases hs:zvk A with
   | false=>rfl
   | true =>
    exfalso
    have hx:=zLC hs;refine c ?_
    -- A stands within a, and a colon behind it
    have hlen:A.length<(a++e).length:=by
     rcases Nat.lt_or_ge A.length (a++e).length with h|h
     ·exact h
     ·exfalso
      obtain ⟨B,rfl⟩:∃B,A=(a++e)++B:=by
       have hp:(a++e) <+: A:=by
        have h1:(a++e) <+: (a++e)++(Q++F):=List.prefix_append _ _
        have h2:A <+: (a++e)++(Q++F):=by rw [hA]; exact List.prefix_append _ _
        exact List.prefix_of_prefix_length_le h1 h2 h
       obtain ⟨B,h⟩:=hp; exact ⟨B,h.symm⟩
      simp only [List.append_assoc] at hA;have hB:=List.append_cancel_left (List.append_cancel_left hA);have hb:∀x∈B,x≠63∧x≠35:=fun x h=>⟨(hx.2 x (by simp [h])).2.2.1,(hx.2 x (by simp [h])).2.2.2⟩
      have:∀c t,Q++F=c::t→c=63∨c=35:=by
       intro c t h
       rcases hQ with rfl|⟨c',q,rfl,hc⟩
       ·rcases hF with rfl|⟨d,f,rfl,hd⟩
        ·cases h
        ·cases h; right; simpa using hd
       ·cases h; left; simpa using hc
      cases B with
      | nil=>rcases this 58 T (by simpa using hB) with h|h<;>cases h
      | cons y B =>
       rcases this y (B++58::T) (by simpa using hB) with h|h
       ·exact (hb y List.mem_cons_self).1 h
       ·exact (hb y List.mem_cons_self).2 h
    obtain ⟨C,hC⟩:∃C,a++e=A++58::C:=by
     have h1:(A++[58]) <+: (a++e)++(Q++F):=by rw [hA,show A++58::T=(A++[58])++T by simp]; exact List.prefix_append _ _
     have h2:(A++[58]) <+: a++e:=List.prefix_of_prefix_length_le h1 (List.prefix_append _ _) (by simp at hlen ⊢; omega);obtain ⟨C,h⟩:=h2;exact ⟨C,by rw [← h]; simp⟩
    have hup:upt [58,47] (a++e)=(A,58::C):=by
     rw [hC];refine zh5 (fun x h=>?_) (.inr ⟨_,_,rfl,rfl⟩);have:=hx.2 x h;simp [this.1,this.2.1]
    rw [e3] at hup;have h1:=(Prod.mk.inj hup).1;have h2:=(Prod.mk.inj hup).2;subst h1 h2;exact ⟨by simp [List.isPrefixOf],hs⟩
theorem seg_58 (p:Str):(upt [47] p).1.contains 58=([58]:Str).isPrefixOf (upt [58,47] p).2:=by
 obtain ⟨a,e,rfl,e1,ha,he⟩:=zp7 [58,47] p
 have h47:∀x∈a,([47]:Str).contains x=false:=fun x hx=>by
  have:=ha x hx;simp only [List.contains_cons,List.contains_nil,Bool.or_false,Bool.or_eq_false_iff] at this ⊢;exact this.2
 have h58:a.contains 58=false:=by
  rw [Bool.eq_false_iff];intro h;have:=ha 58 (by simpa using h)
  revert this; decide
 rw [e1]
 rcases he with rfl|⟨c,t,rfl,hc⟩
 ·rw [zh5 h47 (.inl rfl)]; exact h58
 ·by_cases h:c=58
  ·subst h;obtain ⟨b,f,rfl,_,hb,hf⟩:=zp7 [47] t
   have:=zh5 (l:=[47]) (b:=a++58::b) (e:=f) (fun x hx=>by
    rcases List.mem_append.1 hx with hx|hx
    ·exact h47 x hx
    ·rcases List.mem_cons.1 hx with rfl|hx
     ·decide
     ·exact hb x hx) hf
   rw [show a++58::(b++f)=(a++58::b)++f by simp,this];simp [List.isPrefixOf]
  ·have hc:c=47:=by
    simp only [List.contains_cons,List.contains_nil,Bool.or_false,Bool.or_eq_true,beq_iff_eq] at hc;exact hc.resolve_left h
   subst hc;rw [zh5 h47 (.inr ⟨_,_,rfl,rfl⟩)];simp only [List.isPrefixOf];rw [h58]; rfl
end Go.Dm
end
section
set_option linter.unusedVariables false
namespace Go.Dm
theorem zJn {c:UInt8} {a b v w:Str} (h:a++c::v=b++c::w) (ha:c∉a) (hb:c∉b):a=b∧v=w:=by
 have k:∀(x y:Str),c∉x→upt [c] (x++c::y)=(x,c::y):=fun x y hx=>zh5 (fun z hz=>by
  have:z≠c:=by rintro rfl; exact hx hz
  simpa using this) (.inr ⟨_,_,rfl,by simp⟩)
 have:=(k a v ha).symm.trans ((congrArg (upt [c]) h).trans (k b w hb));have h1:=(Prod.mk.inj this).1;have h2:=(List.cons.inj (Prod.mk.inj this).2).2;exact ⟨h1,h2⟩
theorem zOj {a:Str} (h:a.all zoI=true):(125:UInt8)∉a:=fun e=>by
 have:=List.all_eq_true.1 h 125 e;rw [zDV.1] at this; cases this
theorem sm_125 {a:Str} (h:a.all smB=true):(125:UInt8)∉a:=fun e=>by
 have:=List.all_eq_true.1 h 125 e;rw [zDV.2.1] at this; cases this
theorem PRn_1 {o r:List zWR} {a v:Str} (h:(125:UInt8)∉a):PRn o (64::(a++125::v)) r↔(zfY a=true∧PR (o++[⟨3,a⟩]) v r):=by
 rw [zNx];constructor
 ·rintro ⟨h1,w,h2,h3⟩;have e:=zz1 zoI (a++125::v);rw [h2] at e;obtain ⟨e1,e2⟩:=zJn e (zOj (zCZ _ _)) h;rw [e1] at h1 h3;rw [e2] at h3;exact ⟨h1,h3⟩
 ·rintro ⟨h1,h2⟩;have:=tw_u (g:=zoI) (a:=a) (by unfold zfY at h1; rw [Bool.and_eq_true] at h1; exact h1.1) zDV.1 v;rw [this.1,this.2]; exact ⟨h1,_,rfl,h2⟩
theorem PRn_2 {o r:List zWR} {n v:Str} (h:(125:UInt8)∉n) (h0:n≠[]) (h64:∀u,n≠64::u):PRn o (n++125::v) r↔(n.all smB=true∧PR (o++[⟨2,n⟩]) v r):=by
 have hn:∀u,n++125::v≠64::u:=by
  intro u e
  cases n with
  | nil=>exact h0 rfl
  | cons x n=>simp at e; exact h64 n (by rw [e.1])
 rw [zJ4 hn];constructor
 ·rintro ⟨h1,w,h2,h3⟩;have e:=zz1 smB (n++125::v);rw [h2] at e;obtain ⟨e1,e2⟩:=zJn e (sm_125 (zCZ _ _)) h;have:=zCZ smB (n++125::v);rw [e1] at h3 this;rw [e2] at h3;exact ⟨this,h3⟩
 ·rintro ⟨h1,h2⟩;have:=tw_u (g:=smB) (a:=n) h1 zDV.2.1 v;rw [this.1,this.2]; exact ⟨h0,_,rfl,h2⟩
theorem PRn_3 {o r:List zWR} {v:Str}:¬ PRn o (125::v) r:=by
 rw [zJ4 (by intro u e; simp at e)];rintro ⟨h,_⟩;rw [List.takeWhile_cons,zDV.2.1] at h;exact h rfl
theorem PRn_4 {o r:List zWR} {t:Str} (h:(125:UInt8)∉t):¬ PRn o t r:=by
 rcases t_1 t 64 with h64|⟨u,rfl⟩
 ·rw [zJ4 h64];rintro ⟨_,v,h2,_⟩;have e:=zz1 smB t;rw [h2] at e;exact h (by rw [← e]; simp)
 ·rw [zNx];rintro ⟨_,v,h2,_⟩;have e:=zz1 zoI u;rw [h2] at e;exact h (by rw [← e]; simp)
end Go.Dm
end
section
set_option linter.unusedVariables false
namespace Go.Dm
def pln:Str→Str→Str
 | o,[]=>o
 | o,c::t=>if o=[]∧c=48 then pln [] t else pln (o++[c]) t
def plf (o:Str):Str:=if o=[] then [48] else o
theorem pln_n (o:Str):pln o []=o:=rfl
theorem zNi (o:Str) (c:UInt8) (t:Str):pln o (c::t)=if o=[]∧c=48 then pln [] t else pln (o++[c]) t:=rfl
theorem pln_o:∀(t o:Str),o≠[]→pln o t=o++t
 | [],o,_=>by rw [pln_n,List.append_nil]
 | c::t,o,h=>by
  rw [zNi,if_neg (fun e=>h e.1),pln_o t _ (by simp)]; simp
theorem dec_hd (k:Nat):1≤k→∃c t,Go.Lib.decDigits k=c::t∧c≠48:=by
 induction k using Nat.strongRecOn with
 | _ k ih =>
  intro hk;rw [Go.Lib.decDigits]
  split
  ·rename_i h
   refine ⟨_,_,rfl,?_⟩;intro e;have:=(zF0 h).2;rw [e] at this;have:(48:UInt8).toNat=48:=rfl;omega
  ·obtain ⟨c,t,e,hc⟩:=ih (k/10) (by omega) (by omega);rw [e]; exact ⟨c,_,rfl,hc⟩
theorem pln_s {s:Str} {m:Int} (h:zha s m):plf (pln [] s)=s:=by
 obtain ⟨k,_,rfl⟩:=h
 by_cases hk:k=0
 ·subst hk
  have:Go.Lib.decDigits 0=[48]:=by rw [Go.Lib.decDigits]; rfl
  rw [this]; rfl
 ·obtain ⟨c,t,e,hc⟩:=dec_hd k (by omega);rw [e,zNi,if_neg (fun e=>hc e.2),List.nil_append,pln_o _ _ (by simp)];rfl
theorem dgs_b (b:UInt8) (k:Int) (h:k=(b.toNat:Int)-48) (hb:zbQ b=true):Go.Lib.decDigits k.toNat=[b]∧(0<k↔¬ b=48):=by
 have hr:=zF1 b hb;subst h
 have e:((b.toNat:Int)-48).toNat=b.toNat-48:=by omega
 rw [e,Go.Lib.decDigits,dif_pos (by omega),show 48+(b.toNat-48)=b.toNat by omega];refine ⟨by simp,?_⟩;have:b=48↔b.toNat=48:=⟨fun e=>by subst e; rfl,fun e=>UInt8.toNat_inj.1 e⟩;rw [this]; omega
theorem less_s {s:Str} {m:Int} (hm:m=255∨m=65535) (h:zha s m) :
  ¬ (Go.Lib.decDigits m.toNat).length<s.length∧((Go.Lib.decDigits m.toNat).length=s.length→ziW (Go.Lib.decDigits m.toNat) s=false)∧s.length≤5:=by
 have e1:Go.Lib.decDigits 255=[50,53,53]:=by simp [Go.Lib.decDigits]
 have e3:Go.Lib.decDigits 65535=[54,53,53,51,53]:=by simp [Go.Lib.decDigits]
 obtain ⟨h1,h2,h3,h4,_⟩:=zyT h;obtain ⟨k,hk,he⟩:=h;have dr:∀b∈s,48≤b.toNat∧b.toNat≤57:=fun b hb=>zF1 b (List.all_eq_true.1 h1 b hb);have lt:∀a b:UInt8,(a<b)↔a.toNat<b.toNat:=fun a b=>Iff.rfl
 rcases hm with rfl|rfl
 ·have hl:s.length≤3:=by rw [he]; exact zJL k 3 (by decide) (by omega)
  simp only [show (255:Int).toNat=255 from rfl,e1,List.length_cons,List.length_nil];refine ⟨by omega,fun hs=>?_,by omega⟩
  match s,hs with
  | [a,b,c],_ =>
   have:=dr a (by simp); have:=dr b (by simp); have:=dr c (by simp);simp only [dvI] at h4;simp only [ziW,Bool.or_eq_false_iff,Bool.and_eq_false_iff,decide_eq_false_iff_not,lt,beq_eq_false_iff_ne,ne_eq, ← UInt8.toNat_inj];simp at *; omega
 ·have hl:s.length≤5:=by rw [he]; exact zJL k 5 (by decide) (by omega)
  simp only [show (65535:Int).toNat=65535 from rfl,e3,List.length_cons,List.length_nil];refine ⟨by omega,fun hs=>?_,by omega⟩
  match s,hs with
  | [a,b,c,d,e],_ =>
   have:=dr a (by simp); have:=dr b (by simp); have:=dr c (by simp); have:=dr d (by simp); have:=dr e (by simp);simp only [dvI] at h4;simp only [ziW,Bool.or_eq_false_iff,Bool.and_eq_false_iff,decide_eq_false_iff_not,lt,beq_eq_false_iff_ne,ne_eq, ← UInt8.toNat_inj];simp at *; omega
def allS (l:List Str):Prop:=∀x∈l,zha x 255
theorem allS_n:allS []:=fun x h=>by cases h
theorem allS_c (x:Str) (l:List Str):allS (x::l)↔zha x 255∧allS l:=by simp [allS]
theorem four_e (s:Str):zmb s↔(zi 46 s).length=4∧allS (zi 46 s):=Iff.rfl
theorem GT_n (a:Int):GT [] a↔a=8:=⟨fun ⟨k,h1,h2⟩=>by have:=(zJM true k).1 h1; omega,GT_e⟩
theorem GT_c (s:Str) (l:List Str) (a:Int):GT (s::l) a↔(l=[]∧zmb s∧a=6)∨(zru s=true∧GT l (a+1)):=by
 constructor
 ·rintro ⟨k,h1,h2⟩;rw [zJN] at h1
  rcases h1 with ⟨_,rfl,rfl,h⟩|⟨h,h1,g⟩
  ·exact .inl ⟨rfl,h,by omega⟩
  ·exact .inr ⟨h,k-1,g,by omega⟩
 ·rintro (⟨rfl,h,rfl⟩|⟨h,g⟩)
  ·exact ⟨2, .four s h,rfl⟩
  ·exact GT_h h g
theorem elt_d {l:List Str} {i:Int} (h0:0≤i) (h:i<l.length):dr l i=elt l i::dr l (i+1):=by
 have h3:i.toNat<l.length:=by omega
 have:lAt l i=some l[i.toNat]:=by simp [lAt,h0,h3]
 rw [zJ2 this]; exact zCN h0 (by simp [h3])
theorem GT_x {l:List Str} {i a:Int} (h0:0≤i) (h:i<l.length) (hx:zru (elt l i)=false) (hi:i≠(l.length:Int)-1∨¬ zmb (elt l i)):¬ GT (dr l i) a:=by
 rw [elt_d h0 h,GT_c];rintro (⟨e,h4,_⟩|⟨e,_⟩)
 ·rcases hi with hi|hi
  ·have:=zaR (l:=l) (i:=i+1) (by omega) (by omega);rw [e] at this; simp at this; omega
  ·exact hi h4
 ·rw [hx] at e; cases e
theorem GT_8 (l:List Str):Grp true l 8↔GT l 0:=⟨fun h=>⟨8,h,rfl⟩,GT_0⟩
theorem hex_no {x:Str} {i:Int} {c:UInt8} (h:dr x i=c::dr x (i+1)) (hc:zk3 c=false):zru x=false:=by
 have hm:c∈x:=by rw [← zCO x i,h]; simp
 unfold zru;rw [Bool.and_eq_false_iff,Bool.and_eq_false_iff]
 left; left
 rw [List.all_eq_false];exact ⟨c,hm,by rw [hc]; exact Bool.false_ne_true⟩
theorem hex_ln {x:Str} (h:x.length<1∨4<x.length):zru x=false:=by
 unfold zru;rw [Bool.and_eq_false_iff,Bool.and_eq_false_iff]
 rcases h with h|h
 ·left; right; exact decide_eq_false (by omega)
 ·right; exact decide_eq_false (by omega)
def wz (a b:Str) (n:Int):Prop:=Grp true (spt a++List.replicate n.toNat [48]++spt b) 8
def sxW (a b:Str) (i:Int):Prop:=∃n:Int,i≤n∧n≤8∧wz a b n
theorem sxW_9 {a b:Str} {i:Int} (h:8<i):¬ sxW a b i:=fun ⟨n,h1,h2,_⟩=>by omega
theorem sxW_s {a b:Str} {i:Int} (h:i≤8):sxW a b i↔wz a b i∨sxW a b (i+1):=by
 constructor
 ·rintro ⟨n,h1,h2,h3⟩
  by_cases e:n=i
  ·exact .inl (e▸h3)
  ·exact .inr ⟨n,by omega,h2,h3⟩
 ·rintro (h3|⟨n,h1,h2,h3⟩)
  ·exact ⟨i,Int.le_refl _,h,h3⟩
  ·exact ⟨n,by omega,h2,h3⟩
theorem grp_z:∀n:Nat,Grp false (List.replicate n [48]) n
 | 0 => .nil _
 | n+1=>by rw [List.replicate_succ]; exact .hex _ _ _ _ (by decide) (grp_z n)
theorem sxW_1 {a b:Str}:sixW a b↔sxW a b 1:=by
 constructor
 ·rintro ⟨i,j,h1,h2,h3⟩;refine ⟨((8-i-j:Nat):Int),by omega,by omega,?_⟩;unfold wz;rw [List.append_assoc];have:=Grp.app (Grp.app h2 (grp_z (8-i-j))) h1;rw [show i+(8-i-j+j)=8 by omega] at this;simpa using this
 ·rintro ⟨n,h1,h2,h3⟩;exact zOV (n:=n.toNat) (by omega) h3
theorem SZ_w {s:Str} {i n:Int} {t:Str} (ht:SZ s i n t) (hn:1≤n):(dr s (i+2)=[]→(Grp true (zi 58 t) 8↔wz (tk s i) (dr s (i+2)) n)) ∧
  (dr s (i+2)≠[]→(Grp true (zi 58 ((t++[58])++dr s (i+2))) 8↔wz (tk s i) (dr s (i+2)) n)):=by
 unfold SZ at ht
 have hne:t≠[]:=by
  rintro rfl;have:(spt []).length=0:=rfl;rw [ht] at this; simp at this; omega
 unfold wz;rw [← ht];generalize dr s (i+2)=b;constructor
 ·rintro rfl;have e:spt []=[]:=rfl;rw [e,List.append_nil];unfold spt; rw [if_neg hne]
 ·intro hb;have:=zFZ (t:=t) (x:=b) hb;rw [if_neg hne] at this;rw [← this];unfold spt;rw [if_neg (by simp)]
theorem zPa {s:Str} {i:Int} (h:(dr s i).length≤1):zqN s i↔Grp true (zi 58 s) 8:=by
 have:zmc (dr s i)=none:=by
  match dr s i,h with
  | [],_=>rfl
  | [c],_=>simp [zmc]
 unfold zqN; rw [this]
theorem zJY {s:Str} {i:Int} {c:UInt8} (h0:0≤i) (h:dr s i=c::dr s (i+1)) (hc:c≠58∨∀t,dr s (i+1)≠58::t):zqN s i↔zqN s (i+1):=by
 refine ⟨fun hs=>?_,sixA_s h0 h hc⟩
 have e:zmc (dr s i)=(zmc (dr s (i+1))).map fun p=>(c::p.1,p.2):=by
  rw [h]; exact zmc.eq_2 _ _ (fun t a b=>by rcases hc with hc|hc; exact hc a; exact hc t b)
 unfold zqN at hs ⊢;rw [e] at hs
 cases e2:zmc (dr s (i+1)) with
 | none=>rw [e2] at hs; exact hs
 | some p =>
  rw [e2] at hs;simp only [Option.map_some] at hs;show sixW (tk s (i+1)++p.1) p.2;rw [zx3 h0 h,List.append_assoc]; exact hs
theorem sixA_2 {s:Str} {i:Int} {c d:UInt8} (h0:0≤i) (h:dr s i=c::dr s (i+1)) (h2:dr s (i+1)=d::dr s (i+1+1)) (hc:¬ (c=58∧d=58)):zqN s i↔zqN s (i+1) :=
 zJY h0 h (by
  by_cases e:c=58
  ·right; intro t e2; rw [h2] at e2; exact hc ⟨e,(List.cons.inj e2).1⟩
  ·exact .inl e)
theorem sixA_1 {s:Str} {i:Int} {c:UInt8} (h0:0≤i) (h:dr s i=c::dr s (i+1)) (hc:¬ c=58):zqN s i↔zqN s (i+1):=zJY h0 h (.inl hc)
theorem zPb {s:Str} {i:Int} (h0:0≤i) (h:dr s i=58::dr s (i+1)) (h2:dr s (i+1)=58::dr s (i+1+1)):zqN s i↔sxW (tk s i) (dr s (i+2)) 1:=by
 rw [← sxW_1];unfold zqN;rw [h,h2,show i+1+1=i+2 by omega];simp only [zmc,List.append_nil]
theorem sixA_i (s:Str):zut s↔zqN s 0:=by
 refine ⟨fun h=>?_,sixA_0⟩;unfold zut at h;unfold zqN;rw [zfZ]
 cases e:zmc s with
 | none =>
  rw [e] at h;unfold spt at h
  by_cases hs:s=[]
  ·subst hs;rw [if_pos rfl,zJM] at h; cases h
  ·rw [if_neg hs] at h; exact h
 | some p=>rw [e] at h; exact h
theorem nm_sh {s:Str} {i:Int} (h:dr s i=37::dr s (i+1)) (h0:0≤i) (hl:(s.length:Int)≤i+2):ziV (dr s i)=false:=by
 rw [h]
 have:(dr s (i+1)).length≤1:=by simp [dr]; omega
 match dr s (i+1),this with
 | [],_=>exact (zH6 0).2
 | [a],_=>exact (zH6 a).1
theorem nm_h {s:Str} {i:Int} {a:UInt8} (h:dr s i=37::dr s (i+1)) (ha:dr s (i+1)=a::dr s (i+1+1)) (hx:zk3 a=false):ziV (dr s i)=false:=by
 rw [h,ha]
 match dr s (i+1+1) with
 | []=>exact (zH6 a).1
 | b::t=>rw [nm_p,hx]; simp
theorem nm_oo {s:Str} {i:Int} {c:UInt8} (h:dr s i=c::dr s (i+1)) (hc:c≠37):ziV (dr s i)=((zqD c||zDr c)&&ziV (dr s (i+1))):=by rw [h,nm_o _ _ hc]
theorem zPc {s:Str} (h:58∉s):¬ zpn s:=fun e=>h (zHI e).1
theorem dvI_p {s:Str} (h:dgs s=true):dvI 0 s=((dvI 0 s).toNat:Int):=by have:=zH5 s 0 (Int.le_refl _) h; omega
theorem goE1 {G:Prop} (h:G:=by
 (with_reducible repeat' first|intro _|refine And.intro ?_ ?_|refine Wf ?_ ?_|refine Wi ?_ ?_|refine Ws ?_|refine Wc ?_ ?_|refine Wo ?_ ?_|refine Wk ?_|refine We ?_ ?_)
 all_goals (try simp only [List.length_cons,List.length_nil])
 all_goals grind [cd48, → dgs_b,zJr,zLD,dgs_a,pln_n,zNi,plf,fuel,zfZ,zam,zaR,zkp]):G:=h
theorem goE2 {G:Prop} (h:G:=by
 (with_reducible repeat' first|intro _|refine And.intro ?_ ?_|refine Wf ?_ ?_|refine Wi ?_ ?_|refine Ws ?_|refine Wc ?_ ?_|refine Wo ?_ ?_|refine Wk ?_|refine We ?_ ?_)
 all_goals (try simp only [List.length_cons,List.length_nil])
 all_goals grind [dvI_p,pln_s, → less_s, → zyT,zJ3,zNt,dec_d,cd48,zJr,plf,fuel,zb0,zct,zfZ,zam,zaR,zau,zS,Sm]):G:=h
theorem goE3 {G:Prop} (h:G:=by
 (with_reducible repeat' first|intro _|refine And.intro ?_ ?_|refine Wf ?_ ?_|refine Wi ?_ ?_|refine Ws ?_|refine Wc ?_ ?_|refine Wo ?_ ?_|refine Wk ?_|refine We ?_ ?_)
 all_goals (try simp only [List.length_cons,List.length_nil])
 all_goals grind [zGf,allS_n,allS_c,four_e,GT_n,GT_c,GT_x,GT_8,zzB,hex_no,hex_ln,hex_i,hxs_a,hxs_1,hxs_0,elt_m, → zJ2,zx3,zwU,zkp,fuel,zb0,zct,zfZ,zam,zaR,zau,zS,Sm]):G:=h
theorem goE4 {G:Prop} (h:G:=by
 (with_reducible repeat' first|intro _|refine And.intro ?_ ?_|refine Wf ?_ ?_|refine Wi ?_ ?_|refine Ws ?_|refine Wc ?_ ?_|refine Wo ?_ ?_|refine Wk ?_|refine We ?_ ?_)
 all_goals (try simp only [List.length_cons,List.length_nil])
 all_goals grind [sxW_9,sxW_s,SZ_0, → SZ_a, → SZ_b, → SZ_w,zPa,sixA_2,sixA_1,zPb,sixA_i,GT_8,zwU,zkp,fuel,zb0,zct,zfZ,zam,zaR,List.append_assoc,zau,zS,Sm]):G:=h
theorem goE5 {G:Prop} (h:G:=by
 (with_reducible repeat' first|intro _|refine And.intro ?_ ?_|refine Wf ?_ ?_|refine Wi ?_ ?_|refine Ws ?_|refine Wc ?_ ?_|refine Wo ?_ ?_|refine Wk ?_|refine We ?_ ?_)
 all_goals (try subst_vars)
 all_goals (try simp only [List.length_cons,List.length_nil])
 all_goals grind [nm_e,nm_3,nm_oo,nm_sh,nm_h,zkp,fuel,zb0,zct,zfZ,zam,zaR,zau,zS,Sm]):G:=h
theorem goE6 {G:Prop} (h:G:=by
 (with_reducible repeat' first|intro _|refine And.intro ?_ ?_|refine Wf ?_ ?_|refine Wi ?_ ?_|refine Ws ?_|refine Wc ?_ ?_|refine Wo ?_ ?_|refine Wk ?_|refine We ?_ ?_)
 all_goals (try simp only [List.length_cons,List.length_nil])
 all_goals grind [zNU,zNV,zPc, → zzg, → zHH,no_58,zx3,zwU,zx4,zkp,fuel,zb0,zct,zfZ,zam,zaR,zau,zS,Sm]):G:=h
end Go.Dm
end
section
set_option linter.unusedVariables false
namespace Go.Dm
theorem upt_e (l:Str):upt l []=([],[]):=rfl
theorem upt_c (l:Str) (c:UInt8) (t:Str):upt l (c::t)=if l.contains c=true then ([],c::t) else (c::(upt l t).1,(upt l t).2):=by
 unfold upt;rw [List.takeWhile_cons,List.dropWhile_cons];cases l.contains c<;>simp
theorem zJQ (l s:Str):(upt l s).1++(upt l s).2=s:=List.takeWhile_append_dropWhile
theorem zJR (l s:Str):tk s ((upt l s).1.length:Int)=(upt l s).1∧dr s ((upt l s).1.length:Int)=(upt l s).2∧((upt l s).1.length<s.length↔(upt l s).2≠[])∧(upt l s).1.length+(upt l s).2.length=s.length:=by
 have hl:=congrArg List.length (zJQ l s);rw [List.length_append] at hl;have h1:(upt l s).2=[]↔(upt l s).2.length=0:=List.length_eq_zero_iff.symm;refine ⟨?_,?_,by rw [ne_eq,h1]; omega,hl⟩
 ·have:=List.take_left (l₁:=(upt l s).1) (l₂:=(upt l s).2)
  rwa [zJQ] at this
 ·have:=List.drop_left (l₁:=(upt l s).1) (l₂:=(upt l s).2)
  rwa [zJQ] at this
theorem upt_h (l s:Str):(upt l s).2=[]∨∃c t,(upt l s).2=c::t∧l.contains c=true:=by
 obtain ⟨b,e,rfl,h,_,h2⟩:=zp7 l s;rw [h]; exact h2
theorem upt_2 (s:Str):(upt [58,47] s).2=[]∨(∃t,(upt [58,47] s).2=58::t)∨∃t,(upt [58,47] s).2=47::t:=by
 rcases upt_h [58,47] s with h|⟨c,t,h,hc⟩
 ·exact .inl h
 ·simp at hc
  rcases hc with rfl|rfl
  ·exact .inr (.inl ⟨t,h⟩)
  ·exact .inr (.inr ⟨t,h⟩)
theorem upt_m (c:UInt8) (s:Str):((upt [c] s).2=[]↔s.contains c=false):=by
 obtain ⟨b,e,rfl,h,h1,h2⟩:=zp7 [c] s;rw [h]
 have hb:b.contains c=false:=by
  rw [← Bool.not_eq_true];intro hc;have:=h1 c (by simpa using hc);simp at this
 constructor
 ·rintro rfl; simpa using hb
 ·intro hc
  rcases h2 with rfl|⟨x,t,rfl,hx⟩
  ·rfl
  ·have:x=c:=by simpa using hx
   subst this; simp at hc
def rpQ (s f:Str) (hf:Bool):zXc:=rrB (upt [63] s).1 (rrT (upt [63] s).2) f (!((upt [63] s).2==[])) hf
theorem rp_0 (s:Str):rf4 s=rpQ (upt [35] s).1 (rrT (upt [35] s).2) (!((upt [35] s).2==[])):=(rr_eq s).symm
theorem rrT_n:rrT []=[]:=rfl
theorem rrT_c (c:UInt8) (t:Str):rrT (c::t)=t:=rfl
theorem rrT_d (s:Str) (i:Int) (h:0≤i):rrT (dr s i)=dr s (i+1):=by
 have e:(i+1).toNat=i.toNat+1:=by omega
 unfold dr; rw [e];rw [← List.tail_drop];cases s.drop i.toNat<;>rfl
theorem pre_p (c:UInt8) (s:Str):[c].isPrefixOf s=true↔∃t,s=c::t:=zNX c s
theorem pre_47 {s:Str}:([47,47].isPrefixOf s=true↔1<(s.length:Int)∧tk s 2=[47,47]):=by
 rw [List.isPrefixOf_iff_prefix,List.prefix_iff_eq_take];unfold tk;simp only [List.length_cons,List.length_nil];constructor
 ·intro h;have:=congrArg List.length h;simp at this;exact ⟨by omega,h.symm⟩
 ·rintro ⟨_,h⟩; exact h.symm
def shs (s:Str):Bool:=s.all zuq
theorem shs_n:shs []=true:=rfl
theorem shs_c (c:UInt8) (s:Str):shs (c::s)=(zuq c&&shs s):=List.all_cons
theorem schm_2 {s:Str} {c:UInt8} (h:dr s 0=c::dr s (0+1)):zvk s=(zk2 c&&shs (dr s 1)):=by
 have e:s=c::dr s 1:=h;rw [e]
 have:zk2 c=true→zuq c=true:=fun h=>by unfold zuq; rw [h]; rfl
 show (zk2 c&&(c::dr s 1).all zuq)=(zk2 c&&shs (dr (c::dr s 1) 1));have e2:dr (c::dr s 1) 1=dr s 1:=rfl;rw [e2,List.all_cons];unfold shs
 cases hc:zk2 c with
 | false=>rfl
 | true=>rw [this hc,Bool.true_and,Bool.true_and]
theorem schB_i (c:UInt8):zuq c=(zk2 c||zbQ c||([43,45,46]:Str).contains c):=by
 unfold zuq;simp only [List.contains_cons,List.contains_nil,Bool.or_false,Bool.or_assoc]
def V4 (s:Str):Prop:=s=49::46::49::32::dr s 4
def VP (s:Str) (r:zW9 × Int):Prop:=(r=(⟨[],[49,46,49],dr s 4,[]⟩,0)↔zzh (dr s 4))
theorem V4_i (b:Str):V4 (([49,46,49]++[32])++b)∧dr (([49,46,49]++[32])++b) 4=b∧(([49,46,49]++[32])++b:Str).length=4+b.length:=⟨rfl,rfl,by simp; omega⟩
theorem V4_b {s:Str} {i:Int} {c:UInt8} (h:V4 s) (h0:0≤i) (h3:i≤3) (hd:dr s i=c::dr s (i+1)):(c=32↔i=3):=by
 unfold V4 at h;generalize dr s 4=b at h;subst h
 have:i=0∨i=1∨i=2∨i=3:=by omega
 rcases this with rfl|rfl|rfl|rfl<;>(have:=(List.cons.inj hd).1; subst this; decide)
theorem V4_l {s:Str} (h:V4 s):4≤s.length∧tk s 3=[49,46,49]:=by
 unfold V4 at h;generalize dr s 4=b at h;subst h;exact ⟨by simp,rfl⟩
theorem sp_v:zi 47 [49,46,49]=[[49,46,49]]:=by decide
theorem tok_v:zfY [49,46,49]=true:=by decide
theorem hasA_n (l:Str):zvf l []=false:=rfl
theorem hasA_c (l:Str) (c:UInt8) (s:Str):zvf l (c::s)=(l.contains c||zvf l s):=List.any_cons
theorem v_in {s:Str} {i:Int} (h0:4≤i) (h:dr s i=32::dr s (i+1)):(32:UInt8)∈dr s 4∧sb s 4 i≠dr s 4:=by
 have hl:=zkp (by omega) h;have e:=zH4 (l:=s) (i:=4) (j:=i) (k:=s.length) (by decide) h0 (by omega) (Int.le_refl _);rw [sb_e (Int.le_refl _),h] at e;rw [zam (l:=s) (i:=s.length) (Int.le_refl _)] at e;constructor
 ·rw [e]; simp
 ·intro e2;have:=congrArg List.length e;rw [e2] at this;simp at this
theorem sb_no {s:Str} {i j:Int} {c:UInt8} (h:dr s j=c::dr s (j+1)) (h2:32∉sb s i j) (h0:0≤i) (h1:i≤j) (hc:¬ c=32):32∉sb s i (j+1):=by
 rw [sb_1 h0 h1 h];intro e
 rcases List.mem_append.1 e with e|e
 ·exact h2 e
 ·simp at e; exact hc e.symm
theorem sb_tk {s:Str} {i k:Int} (h0:0≤i) (h1:0≤k):sb s i (i+k)=tk (dr s i) k∧dr s (i+k)=dr (dr s i) k:=by
 have e:(i+k).toNat=i.toNat+k.toNat:=by omega
 unfold sb tk dr;rw [e,List.drop_drop];refine ⟨?_,rfl⟩;rw [List.drop_take]; congr 1; omega
theorem upt_z {l s:Str} (h:(upt l s).2=[]):(upt l s).1=s:=by
 have:=zJQ l s;rw [h,List.append_nil] at this; exact this
theorem up_47 {s:Str} {r:Int} (h:r=2+((upt [47] (dr s 2)).1.length:Int)):sb s 2 r=(upt [47] (dr s 2)).1:=by
 subst h;rw [(sb_tk (s:=s) (i:=2) (k:=((upt [47] (dr s 2)).1.length:Int)) (by decide) (by omega)).1];exact (zJR _ _).1
theorem up_48 {s:Str} {r:Int} (h:r=2+((upt [47] (dr s 2)).1.length:Int)):dr s r=(upt [47] (dr s 2)).2:=by
 subst h;rw [(sb_tk (s:=s) (i:=2) (k:=((upt [47] (dr s 2)).1.length:Int)) (by decide) (by omega)).2];exact (zJR _ _).2.1
theorem goE7 {G:Prop} (h:G:=by
 (with_reducible repeat' first|intro _|refine And.intro ?_ ?_|refine Wf ?_ ?_|refine Wi ?_ ?_|refine Ws ?_|refine Wc ?_ ?_|refine Wo ?_ ?_|refine Wk ?_|refine We ?_ ?_)
 all_goals (try simp only [List.length_cons,List.length_nil])
 all_goals grind [upt_e,upt_c,shs_n,shs_c,zLT,schm_2,schB_i,zwU,zkp,fuel,zb0,zct,zfZ,zam,zaR,zau,zS]):G:=h
theorem goE8 {G:Prop} (h:G:=by
 (with_reducible repeat' first|intro _|refine And.intro ?_ ?_|refine Wf ?_ ?_|refine Wi ?_ ?_|refine Ws ?_|refine Wc ?_ ?_|refine Wo ?_ ?_|refine Wk ?_|refine We ?_ ?_)
 all_goals (try subst_vars)
 all_goals (try simp only [List.length_cons,List.length_nil])
 all_goals grind [up_47,up_48,zJR,upt_m,upt_2,seg_58,pre_p,pre_47,rrT_n,rrT_c,rrT_d,rrA,rrB,rpQ,rp_0,zFM,zvl,n37,Um,zkp,fuel,zb0,zct,zfZ,zam,zaR,zau,zS]):G:=h
theorem zx5 {G:Prop} (h:G:=by
 (with_reducible repeat' first|intro _|refine And.intro ?_ ?_|refine Wf ?_ ?_|refine Wi ?_ ?_|refine Ws ?_|refine Wc ?_ ?_|refine Wo ?_ ?_|refine Wk ?_|refine We ?_ ?_)
 all_goals (try subst_vars)
 all_goals (try simp only [List.length_cons,List.length_nil])
 all_goals grind [VP,V4_i, → V4_b, → V4_l,sp_v,tok_v,hasA_n,hasA_c, → v_in, → sb_no,sb_e,zx4,zME,zzh,byP,dnP,okD,zLL,zLM,Swm,zwU,zkp,fuel,zb0,zct,zfZ,zam,zaR,zau,zS]):G:=h
theorem goEA {G:Prop} (h:G:=by
 (with_reducible repeat' first|intro _|refine And.intro ?_ ?_|refine Wf ?_ ?_|refine Wi ?_ ?_|refine Ws ?_|refine Wc ?_ ?_|refine Wo ?_ ?_|refine Wk ?_|refine We ?_ ?_)
 all_goals (try subst_vars)
 all_goals (try simp only [List.length_cons,List.length_nil])
 all_goals grind [okL,zLU,zLV,stC,Swm,fuel,zb0,zct,zfZ,zam,zaR]):G:=h
theorem goEB {G:Prop} (h:G:=by
 (with_reducible repeat' first|intro _|refine And.intro ?_ ?_|refine Wf ?_ ?_|refine Wi ?_ ?_|refine Ws ?_|refine Wc ?_ ?_|refine Wo ?_ ?_|refine Wk ?_|refine We ?_ ?_)
 all_goals (try subst_vars)
 all_goals (try simp only [List.length_cons,List.length_nil])
 all_goals grind [zJR,upt_z,rrT_n,rrT_d,rpQ,rp_0,zFM,Um,fuel]):G:=h
end Go.Dm
end
section
set_option linter.unusedVariables false
namespace Go.Dm
def adP (o:List zWR) (p:zWR):List zWR:=if p.Kind=1 then adT o p.Text else o++[p]
def PRo (s:Str) (p:zWR) (n:Int):Prop:=∀o l,PR o s l↔(0<n∧PR (adP o p) (dr s n) l)
def NoP (s:Str):Prop:=∀o l, ¬ PR o s l
theorem NoP_p {s:Str} {p:zWR} {n:Int} (h:NoP s) (hn:n=0):PRo s p n:=fun o l=>⟨fun a=>absurd a (h o l),fun a=>absurd a.1 (by omega)⟩
theorem zFC {s:Str} (h:∀o l, ¬ PR o s l):NoP s:=h
theorem PRo_1 {s:Str} {c:UInt8} (h:dr s 0=c::dr s (0+1)) (hc:c≠36):(zzx c=true→PRo s ⟨1,tk s 1⟩ 1)∧(zzx c=false→NoP s):=by
 have e:s=c::dr s 1:=h
 have hp:plB c=zzx c:=by
  have:(c==36)=false:=by simpa using hc
  unfold plB; rw [this]; simp
 constructor
 ·intro hv o l
  have ht:tk s 1=[c]:=by rw [e]; rfl
  rw [ht];have:=PR_1 (o:=o) (r:=l) (t:=dr s 1) (hp.trans hv);rw [← e] at this;rw [this]; unfold adP; simp
 ·intro hv;refine zFC fun o l=>?_;rw [e];exact PR_x (hp.trans hv) (fun u e=>hc (List.cons.inj e).1) fun u e=>hc (List.cons.inj e).1
theorem PRo_2 {s:Str} (h:dr s 0=36::dr s (0+1)) (h1:dr s 1=36::dr s (1+1)):PRo s ⟨1,[36]⟩ 2:=by
 intro o l
 have e:s=36::36::dr s 2:=by
  have a:s=36::dr s 1:=h;have b:dr s 1=36::dr s 2:=h1;rw [← b]; exact a
 have:=PR_2 (o:=o) (r:=l) (t:=dr s 2);rw [← e] at this;rw [this]; unfold adP; simp
def U5 (s:Str) (n:Int):Prop:=125∉tk s n∧0≤n∧n≤s.length∧(n<s.length→dr s n=125::dr s (n+1))
theorem u125 {s:Str} {n:Int} (hn:U5 s n):(125∉tk s n)∧(n<s.length→dr s n=125::dr s (n+1))∧((s.length:Int)≤n→125∉s) :=
 ⟨hn.1,hn.2.2.2,fun h=>by have:=hn.1; rwa [zH3 h] at this⟩
theorem zLz {s:Str} {n:Int} (h:dr s 0=36::dr s (0+1)) (h1:dr s 1=123::dr s (1+1)) (hn:U5 s n) (hl:n<s.length) (h3:3≤n) :
  s=36::123::(sb s 2 n++125::dr s (n+1))∧125∉sb s 2 n∧sb s 2 n≠[]∧((sb s 2 n).length:Int)=n-2:=by
 obtain ⟨u1,u2,_⟩:=u125 hn;have a:s=36::dr s 1:=h;have b:dr s 1=123::dr s 2:=h1
 have c:dr s 2=sb s 2 n++dr s n:=by
  have:=zH4 (l:=s) (i:=2) (j:=n) (k:=s.length) (by decide) (by omega) (by omega) (Int.le_refl _);rw [sb_e (Int.le_refl _)] at this;rw [this]
  congr 1
  rw [zam (l:=s) (i:=s.length) (Int.le_refl _)];exact List.take_length
 have hlen:((sb s 2 n).length:Int)=n-2:=zME (by decide) (by omega) (by omega);refine ⟨?_,fun hm=>u1 (List.mem_of_mem_drop hm),?_,by omega⟩
 ·rw [← u2 hl, ← c, ← b]; exact a
 ·intro e; rw [e] at hlen; simp at hlen; omega
def N36 (s:Str):Prop:=1<(s.length:Int)→∃c,dr s 1=c::dr s (1+1)∧c≠36
theorem N36_i {s:Str} {c:UInt8} (h:dr s 1=c::dr s (1+1)) (hc:¬ c=36):N36 s:=fun _=>⟨c,h,hc⟩
theorem N36_e {s:Str} (h:¬ 1<(s.length:Int)):N36 s:=fun h2=>absurd h2 h
theorem N36_u {s:Str} {c:UInt8} (h:N36 s) (h2:dr s 1=c::dr s (1+1)):c≠36:=by
 have hl:=zkp (by decide) h2;obtain ⟨d,hd,hn⟩:=h hl;rw [h2] at hd;rw [(List.cons.inj hd).1]; exact hn
theorem one_no {s:Str} {n:Int} (h:dr s 0=36::dr s (0+1)) (h2:N36 s) (hn:U5 s n) (hl:n=s.length∨n<3):NoP s:=by
 obtain ⟨u1,u2,u3⟩:=u125 hn;have a:s=36::dr s 1:=h;refine zFC fun o l=>?_
 by_cases hs:1<(s.length:Int)
 ·obtain ⟨c,b,hc⟩:=h2 hs
  replace b:dr s 1=c::dr s 2:=b
  by_cases h123:c=123
  ·subst h123
   have e:s=36::123::dr s 2:=by rw [← b]; exact a
   rw [e];show ¬ PRn o (dr s 2) l
   rcases hl with hl|hl
   ·refine PRn_4 fun hm=>u3 (by omega) ?_;rw [e]; simp [hm]
   ·by_cases hx:n<s.length
    ·have u2:=u2 hx;have hu:=hn.2.2.1;have hv:=hn.2.1
     have e2:n=2:=by
      have n0:n≠0:=by rintro rfl; rw [zfZ] at u2; rw [u2] at a; cases (List.cons.inj a).1
      have n1:n≠1:=by rintro rfl; rw [u2] at b; cases (List.cons.inj b).1
      omega
     subst e2;rw [u2]; exact PRn_3
    ·refine PRn_4 fun hm=>u3 (by omega) ?_;rw [e]; simp [hm]
  ·have e:s=36::c::dr s 2:=by rw [← b]; exact a
   rw [e];exact PR_x zIw (fun u e=>hc (by simpa using (List.cons.inj (List.cons.inj e).2).1)) fun u e=>h123 (by simpa using (List.cons.inj (List.cons.inj e).2).1)
 ·have hd:dr s 1=[]:=zam (by omega);rw [a,hd]
  exact PR_x zIw (fun u e=>by cases e) fun u e=>by cases e
theorem one_x {s:Str} {c:UInt8} (h:dr s 0=36::dr s (0+1)) (h1:dr s 1=c::dr s (1+1)) (hc:c≠36) (h2:c≠123):NoP s:=by
 have a:s=36::dr s 1:=h;have b:dr s 1=c::dr s 2:=h1;refine zFC fun o l=>?_
 have e:s=36::c::dr s 2:=by rw [← b]; exact a
 rw [e];exact PR_x zIw (fun u e=>hc (by simpa using (List.cons.inj (List.cons.inj e).2).1)) fun u e=>h2 (by simpa using (List.cons.inj (List.cons.inj e).2).1)
theorem one_f {s:Str} {n:Int} (h:dr s 0=36::dr s (0+1)) (h1:dr s 1=123::dr s (1+1)) (hn:U5 s n) (hl:n<s.length) (h3:3≤n)
  (hf:dr (sb s 2 n) 0=64::dr (sb s 2 n) (0+1)):(zfY (dr (sb s 2 n) 1)=true→PRo s ⟨3,dr (sb s 2 n) 1⟩ (n+1))∧(zfY (dr (sb s 2 n) 1)=false→NoP s):=by
 obtain ⟨e,hm,_,_⟩:=zLz h h1 hn hl h3;have ef:sb s 2 n=64::dr (sb s 2 n) 1:=hf
 generalize dr (sb s 2 n) 1=a at *
 have h125:(125:UInt8)∉a:=fun x=>hm (by rw [ef]; simp [x])
 have key:∀o l,PR o s l↔(zfY a=true∧PR (o++[⟨3,a⟩]) (dr s (n+1)) l):=fun o l=>by
  rw [← PRn_1 h125]
  conv=>lhs; rw [e,ef]
  rfl
 constructor
 ·intro ht o l;rw [key o l,adP,if_neg (by intro e; cases e)];exact ⟨fun x=>⟨by omega,x.2⟩,fun x=>⟨ht,x.2⟩⟩
 ·intro ht;refine zFC fun o l=>?_;rw [key o l,ht]; simp
def sms (s:Str):Bool:=s.all smB
theorem sms_n:sms []=true:=rfl
theorem sms_c (c:UInt8) (s:Str):sms (c::s)=(smB c&&sms s):=List.all_cons
theorem sm_az (c:UInt8):smB c=([97,98,99,100,101,102,103,104,105,106,107,108,109,110,111,112,113,114,115,116,117,118,119,120,121,122]:Str).contains c:=by
 have:=zpm (p:=fun c=>smB c==([97,98,99,100,101,102,103,104,105,106,107,108,109,110,111,112,113,114,115,116,117,118,119,120,121,122]:Str).contains c) (by decide +kernel) c;simpa using this
theorem one_v {s:Str} {n:Int} {c:UInt8} (h:dr s 0=36::dr s (0+1)) (h1:dr s 1=123::dr s (1+1)) (hn:U5 s n) (hl:n<s.length) (h3:3≤n)
  (hf:dr (sb s 2 n) 0=c::dr (sb s 2 n) (0+1)) (hc:c≠64):(sms (sb s 2 n)=true→PRo s ⟨2,sb s 2 n⟩ (n+1))∧(sms (sb s 2 n)=false→NoP s):=by
 obtain ⟨e,hm,hne,_⟩:=zLz h h1 hn hl h3;have ef:sb s 2 n=c::dr (sb s 2 n) 1:=hf;have h64:∀u,sb s 2 n≠64::u:=fun u e2=>hc (by rw [ef] at e2; exact (List.cons.inj e2).1)
 have key:∀o l,PR o s l↔(sms (sb s 2 n)=true∧PR (o++[⟨2,sb s 2 n⟩]) (dr s (n+1)) l):=fun o l=>by
  rw [sms, ← PRn_2 hm hne h64]
  conv=>lhs; rw [e]
  rfl
 constructor
 ·intro ht o l;rw [key o l,adP,if_neg (by intro e; cases e)];exact ⟨fun x=>⟨by omega,x.2⟩,fun x=>⟨ht,x.2⟩⟩
 ·intro ht;refine zFC fun o l=>?_;rw [key o l,ht]; simp
theorem adP_1 {o:List zWR} {p q:zWR} {i:Int} (h:lAt o i=some q) (hi:i=(o.length:Int)-1) (hp:p.Kind=1) (hk:q.Kind=1):adP o p=o.set i.toNat ⟨1,q.Text++p.Text⟩:=by
 unfold adP; rw [if_pos hp,adT_2 h _ hi hk]
theorem adP_2 {o:List zWR} {p q:zWR} {i:Int} (h:lAt o i=some q) (hi:i=(o.length:Int)-1) (hp:p.Kind=1) (hk:¬ q.Kind=1):adP o p=o++[p]:=by
 unfold adP; rw [if_pos hp,adT_3 h _ hi hk];cases p; simp at hp; subst hp; rfl
theorem adP_0 {o:List zWR} {p:zWR} (h:o.length=0∨¬ p.Kind=1):adP o p=o++[p]:=by
 unfold adP
 split
 ·rename_i hp
  rcases h with h|h
  ·rw [adT_0 h]; cases p; simp at hp; subst hp; rfl
  ·exact absurd hp h
 ·rfl
theorem dbl_n:dbl []=[]:=rfl
theorem zLA (c:UInt8) (s:Str):dbl (c::s)=if c=36 then 36::36::dbl s else c::dbl s:=rfl
theorem prP_1 (p:zWR):(p.Kind=1→prP p=dbl p.Text)∧(p.Kind=2→prP p=[36,123]++(p.Text++[125]))∧(p.Kind=3→prP p=[36,123,64]++(p.Text++[125]))∧(p.Kind≠1∧p.Kind≠2∧p.Kind≠3→prP p=[]):=by
 unfold prP;refine ⟨fun h=>by rw [if_pos h],fun h=>by rw [if_neg (by omega),if_pos h],fun h=>by rw [if_neg (by omega),if_neg (by omega),if_pos h],fun h=>by rw [if_neg h.1,if_neg h.2.1,if_neg h.2.2]⟩
theorem U5_s {s:Str} {i:Int} {c:UInt8} (h:dr s i=c::dr s (i+1)) (h2:125∉tk s i) (h0:0≤i) (hc:¬ c=125):125∉tk s (i+1):=by
 rw [zx3 h0 h];intro e
 rcases List.mem_append.1 e with e|e
 ·exact h2 e
 ·simp at e; exact hc e.symm
theorem U5_i {s:Str} {i:Int} (h:dr s i=125::dr s (i+1)) (h2:125∉tk s i) (h0:0≤i):U5 s i:=⟨h2,h0,by have:=zkp h0 h; omega,fun _=>h⟩
theorem U5_e {s:Str} {i:Int} (h:i=(s.length:Int)) (h2:125∉tk s i):U5 s i:=⟨h2,by omega,by omega,fun h=>by omega⟩
theorem gr0 {G:Prop} (h:G:=by
 (with_reducible repeat' first|intro _|refine And.intro ?_ ?_|refine Wf ?_ ?_|refine Wi ?_ ?_|refine Ws ?_|refine Wc ?_ ?_|refine Wo ?_ ?_|refine Wk ?_|refine We ?_ ?_)
 all_goals (try simp only [List.length_cons,List.length_nil])
 all_goals grind [sms_n,sms_c,sm_az,fuel,zfZ,zam,zaR]):G:=h
theorem gr1 {G:Prop} (h:G:=by
 (with_reducible repeat' first|intro _|refine And.intro ?_ ?_|refine Wf ?_ ?_|refine Wi ?_ ?_|refine Ws ?_|refine Wc ?_ ?_|refine Wo ?_ ?_|refine Wk ?_|refine We ?_ ?_)
 all_goals (try simp only [List.length_cons,List.length_nil])
 all_goals grind [→ U5_s, → U5_i, → U5_e, → N36_i,N36_e, → N36_u,NoP_p, → PRo_1,PRo_2, → one_no, → one_x, → one_f, → one_v, → zLz,zwU,zzy,zkp,fuel,zfZ,zam,zaR]):G:=h
theorem PRo_a {s:Str} {p:zWR} {n:Int} {o l:List zWR} (h:PRo s p n) (h2:PR o s l):0<n∧PR (adP o p) (dr s n) l:=(h o l).1 h2
theorem PRo_c {s t:Str} {p:zWR} {n:Int} {o q l:List zWR} (h:PRo s p n) (h2:PR q t l) (hn:0<n) (ht:t=dr s n) (hq:q=adP o p):PR o s l:=(h o l).2 ⟨hn,by rw [← ht, ← hq]; exact h2⟩
theorem gr2 {G:Prop} (h:G:=by
 (with_reducible repeat' first|intro _|refine And.intro ?_ ?_|refine Wf ?_ ?_|refine Wi ?_ ?_|refine Ws ?_|refine Wc ?_ ?_|refine Wo ?_ ?_|refine Wk ?_|refine We ?_ ?_)
 all_goals (try simp only [List.length_cons,List.length_nil])
 all_goals grind [→ PRo_a,PRo_c,PR_e,adP_1,adP_2,adP_0,zz2,fuel,zb0,zct,zfZ,zam,zaR]):G:=h
def pe (l:List zWR) (i:Int):zWR:=(lAt l i).getD ⟨0,[]⟩
theorem pe_e {l:List zWR} {i:Int} {r:zWR} (h:lAt l i=some r):pe l i=r:=by unfold pe; rw [h]; rfl
theorem pe_m {l:List zWR} {i:Int} (h0:0≤i) (h:i<l.length):pe l i∈l∧dr l i=pe l i::dr l (i+1):=by
 have h3:i.toNat<l.length:=by omega
 have:lAt l i=some l[i.toNat]:=by simp [lAt,h0,h3]
 rw [pe_e this]; exact ⟨List.getElem_mem h3,zCN h0 (by simp [h3])⟩
theorem fok_e (n v:Str):fokB n v=(zfY n&&vls v&&zBc v==v):=rfl
theorem fre_e (n:Str):zIv n=(zfY n && !zCY n):=rfl
def actR (r:zWU):Prop:=((r.Kind=1∨r.Kind=2)∧r.To=[]∧zz2 r.Parts (prA r.Parts))∨(r.Kind=3∧r.To=[]∧r.Parts=[])∨(r.Kind=4∧zIv r.To=true∧r.Parts=[])
def kns (s:Int):List Str:=(zBq s).getD []
theorem kns_e (s:Int):(s=1→kns s=[[99,108,105,101,110,116],[104,111,115,116],[109,101,116,104,111,100],[112,97,116,104],[115,99,104,101,109,101]])∧(s=2→kns s=[[99,108,105,101,110,116],[104,111,115,116],[115,99,104,101,109,101],[115,116,97,116,117,115]])∧(s≠1→s≠2→kns s=[]):=by
 unfold kns zBq;refine ⟨fun h=>by rw [if_pos h]; rfl,fun h=>by rw [if_neg (by omega),if_pos h]; rfl,fun h h2=>by rw [if_neg h,if_neg h2]; rfl⟩
theorem rul_e (r:zWU):zGk r↔(r.Side=1∨r.Side=2)∧guaP r.Guard∧zIv r.Name=true∧zDW (kns r.Side) (nmF [] r.Parts)∧actR r:=by
 have hk:zBq r.Side≠none↔(r.Side=1∨r.Side=2):=by
  unfold zBq
  by_cases h:r.Side=1
  ·simp [h]
  ·by_cases h2:r.Side=2
   ·simp [h2]
   ·simp [h,h2]
 unfold zGk actP actR parP;rw [hk];show _↔_;constructor
 ·rintro ⟨h1,h2,h3,⟨a,b,c,d⟩|⟨a,b,c⟩|⟨a,b,c⟩⟩
  ·exact ⟨h1,h2,h3,c, .inl ⟨a,b,d⟩⟩
  ·exact ⟨h1,h2,h3,by rw [c]; trivial, .inr (.inl ⟨a,b,c⟩)⟩
  ·exact ⟨h1,h2,h3,by rw [c]; trivial, .inr (.inr ⟨a,b,c⟩)⟩
 ·rintro ⟨h1,h2,h3,k,⟨a,b,d⟩|⟨a,b,c⟩|⟨a,b,c⟩⟩
  ·exact ⟨h1,h2,h3, .inl ⟨a,b,k,d⟩⟩
  ·exact ⟨h1,h2,h3, .inr (.inl ⟨a,b,c⟩)⟩
  ·exact ⟨h1,h2,h3, .inr (.inr ⟨a,b,c⟩)⟩
open Classical in
noncomputable def gwC (e:zW2) (c:zXH) (l:List zWU):Int:=if stC e≠0 then stC e else if c.Head<1∨65536<c.Head∨c.Chunk<1∨65536<c.Chunk∨c.Queue<1∨64<c.Queue then 1 else if zoC l then (if 64<l.length then 3 else 0) else 9
theorem sb_c {s:Str} {i j:Int} {c:UInt8} (h:dr s i=c::dr s (i+1)) (hj:j=i+1) (h0:0≤i):sb s i j=[c]:=by
 subst hj; rw [sb_s h0 (by omega) h,zx4]
theorem dbl_2 {t:Str} {i:Int} {c:UInt8} (h:dr t i=c::dr t (i+1)) (hc:¬ c=36) (h0:0≤i) (a:Str):(a++sb t i (i+1))++dbl (dr t (i+1))=a++dbl (dr t i):=by
 rw [sb_c h rfl h0,h,zLA,if_neg hc,List.append_assoc]; rfl
theorem dbl_3 {t:Str} {i:Int} (h:dr t i=36::dr t (i+1)) (h0:0≤i) (a:Str):((a++[36])++sb t i (i+1))++dbl (dr t (i+1))=a++dbl (dr t i):=by
 rw [sb_c h rfl h0,h,zLA,if_pos rfl,List.append_assoc,List.append_assoc]; rfl
theorem gr7 {G:Prop} (h:G:=by
 (with_reducible repeat' first|intro _|refine And.intro ?_ ?_|refine Wf ?_ ?_|refine Wi ?_ ?_|refine Ws ?_|refine Wc ?_ ?_|refine Wo ?_ ?_|refine Wk ?_|refine We ?_ ?_)
 all_goals (try subst_vars)
 all_goals (try simp only [List.length_cons,List.length_nil])
 all_goals grind [dbl_n,dbl_2,dbl_3, → pe_e,pe_m,Tp,fuel,zb0,zfZ,zam,zaR]):G:=h
theorem gr3 {G:Prop} (h:G:=by
 (with_reducible repeat' first|intro _|refine And.intro ?_ ?_|refine Wf ?_ ?_|refine Wi ?_ ?_|refine Ws ?_|refine Wc ?_ ?_|refine Wo ?_ ?_|refine Wk ?_|refine We ?_ ?_)
 all_goals (try subst_vars)
 all_goals (try simp only [List.length_cons,List.length_nil])
 all_goals grind (gen:=12) (ematch:=12) [prA_n,prA_c,prP_1,dbl_n,zLA,zz2, → pe_e,pe_m,sb_c,List.append_assoc,Tp,fuel,zb0,zfZ,zam,zaR]):G:=h
theorem gr4 {G:Prop} (h:G:=by
 (with_reducible repeat' first|intro _|refine And.intro ?_ ?_|refine Wf ?_ ?_|refine Wi ?_ ?_|refine Ws ?_|refine Wc ?_ ?_|refine Wo ?_ ?_|refine Wk ?_|refine We ?_ ?_)
 all_goals (try simp only [List.length_cons,List.length_nil])
 all_goals grind (gen:=14) (ematch:=14) [zIm,conn,ownN,zCY,fok_e,guaP,Gm,fuel]):G:=h
theorem gr5 {G:Prop} (h:G:=by
 (with_reducible repeat' first|intro _|refine And.intro ?_ ?_|refine Wf ?_ ?_|refine Wi ?_ ?_|refine Ws ?_|refine Wc ?_ ?_|refine Wo ?_ ?_|refine Wk ?_|refine We ?_ ?_)
 all_goals (try simp only [List.length_cons,List.length_nil])
 all_goals grind [→ zJ2,elt_d, → pe_e,pe_m,nmF_n,nmF_c,zNy,zNz,fre_e,actR,kns_e,rul_e,zJ5,zJ6,Rm,Tp,Rl,Gm,fuel,zb0,zct,zfZ,zam,zaR]):G:=h
theorem gr6 {G:Prop} (h:G:=by
 (with_reducible repeat' first|intro _|refine And.intro ?_ ?_|refine Wf ?_ ?_|refine Wi ?_ ?_|refine Ws ?_|refine Wc ?_ ?_|refine Wo ?_ ?_|refine Wk ?_|refine We ?_ ?_)
 all_goals (try simp only [List.length_cons,List.length_nil])
 all_goals grind [gwC,fuel]):G:=h
end Go.Dm
end
section
set_option linter.unusedVariables false
set_option maxRecDepth 10000
set_option maxHeartbeats 2000000
namespace Go.Dm
instance (s0:Str) (b1:UInt8) (n:Nat) (l5:List Str) (i6:Int) (i7:Int):T (zfI s0 b1 n l5 i6 i7) (0≤i6∧i6≤i7∧i7≤s0.length∧s0.length<i7+n∧s0.length<1000000000∧l5.length≤i7) (fun r=>r=ptR s0 b1 l5 i6 i7):=by
 induction n generalizing l5 i6 i7
 ·exact ⟨goz⟩
 exact ⟨by unfold zfI; exact zIr⟩

instance (x_s:Str) (x_c:UInt8):T (zjG x_s x_c) (x_s.length<1000000000) (fun r=>r=zi x_c x_s):=⟨by unfold zjG; exact zIr⟩

instance (x_b:UInt8) (x_base:Int):T (zlV x_b x_base) (x_base=10) (fun r => -1≤r∧r≤9∧(0≤r→zbQ x_b=true∧r=(x_b.toNat:Int)-48)∧(zbQ x_b=true→0≤r)):=⟨fun h=>by
 subst h;have:=zpm (p:=fun b=>match zlV b 10 with|some r=>decide (-1≤r∧r≤9∧(0≤r→zbQ b=true∧r=(b.toNat:Int)-48)∧(zbQ b=true→0≤r))|none=>false) (by decide +kernel) x_b
 split at this
 ·rename_i r e; exact ⟨r,e,of_decide_eq_true this⟩
 ·cases this⟩

instance (n:Nat) (x_n x_base:Int):T (zeh n x_n x_base) (x_base=10∧0≤x_n∧x_n≤9223372036854775807∧20≤n) (fun r=>r=Go.Lib.decDigits x_n.toNat∧r.length≤20):=⟨fun ⟨h,h0,h1,hn⟩=>by
 subst h; exact zNs 20 n x_n hn (by decide) h0 (by omega) h1 (by decide)⟩

instance (x_n:Int) (x_base:Int):T (zib x_n x_base) (x_base=10∧0≤x_n∧x_n≤9223372036854775807) (fun r=>r=Go.Lib.decDigits x_n.toNat∧r.length≤20):=⟨by unfold zib; exact goRn⟩

instance (s0:Str) (i1:Int) (n:Nat) (s6:Str) (i7:Int):T (zei s0 i1 n s6 i7) (0≤i7∧i7≤s0.length∧s0.length<i7+n∧s0.length<1000000000∧i1=10∧dgs s6=true∧s6.length≤20*i7) (fun r=>(r.2=true↔dgs (dr s0 i7)=true∧s0≠[])∧(r.2=true→r.1=plf (pln s6 (dr s0 i7))∧dgs r.1=true)):=by
 induction n generalizing s6 i7
 ·exact ⟨goz⟩
 exact ⟨by unfold zei zj2; exact goE1⟩

instance (x_s:Str) (x_base:Int):T (zn1 x_s x_base) (x_s.length<1000000000∧x_base=10) (fun r=>(r.2=true↔dgs x_s=true∧x_s≠[])∧(r.2=true→r.1=plf (pln [] x_s)∧dgs r.1=true)):=⟨by unfold zn1; exact goE1⟩

instance (x_a:Str) (x_b:Str):T (zqh x_a x_b) (True) (fun r=>r=true↔x_a.length<x_b.length∨(x_a.length=x_b.length∧ziW x_a x_b=true)):=⟨by unfold zqh; exact zIr⟩

instance (i1:Int) (s8:Str) (n:Nat) (i10:Int) (i11:Int):T (ziL i1 s8 n i10 i11) (0≤i11∧i11≤s8.length∧s8.length<i11+n∧s8.length≤5∧i1=10∧dgs s8=true∧0≤i10∧dvI i10 (dr s8 i11)≤10000000∧dgs (dr s8 i11)=true) (fun r=>r=(dvI i10 (dr s8 i11),0)):=by
 induction n generalizing i10 i11
 ·exact ⟨goz⟩
 exact ⟨fun h=>by obtain ⟨h1,h2,h3,h4,rfl,h5⟩:=h<;>(unfold ziL; exact goRn)⟩

instance (x_s:Str) (x_base:Int) (x_most:Int):T (zqi x_s x_base x_most) (x_s.length<1000000000∧x_base=10∧(x_most=255∨x_most=65535)) (fun r=>0≤r.1∧r.1≤x_most∧(zha x_s x_most→r=(dvI 0 x_s,0))):=⟨by unfold zqi; exact goE2⟩

instance (x_n:Int) (x_base:Int):T (zqj x_n x_base) (x_base=10∧x_n≤9223372036854775807) (fun r=>r.length≤20∧if 0≤x_n then r=Go.Lib.decDigits x_n.toNat else r=[]):=⟨by unfold zqj; exact goRn⟩

instance (x_s:Str) (x_most:Int):T (zlW x_s x_most) (x_s.length<1000000000∧(x_most=255∨x_most=65535)) (fun r => -1≤r∧(0≤r↔zha x_s x_most)):=⟨by unfold zlW; exact goE2⟩

instance (l3:List Str) (n:Nat) (i4:Int):T (ziM l3 n i4) (0≤i4∧i4≤l3.length∧l3.length<i4+n∧Sm l3) (fun r=>r=true↔l3.length=4∧allS (dr l3 i4)):=by
 induction n generalizing i4
 ·exact ⟨goz⟩
 exact ⟨by unfold ziM; exact goE3⟩

instance (x_s:Str):T (zjr x_s) (x_s.length<900000000) (fun r=>r=true↔zmb x_s):=⟨by unfold zjr; exact goE3⟩

instance (b0:UInt8) (s1:Str) (n:Nat) (i5:Int):T (zjH b0 s1 n i5) (0≤i5∧i5≤s1.length∧s1.length<i5+n∧s1.length<1000000000) (fun r=>r=(dr s1 i5).contains b0):=by
 induction n generalizing i5
 ·exact ⟨goz⟩
 exact ⟨by unfold zjH; exact zIr⟩

instance (x_b:UInt8) (x_l:Str):T (zfJ x_b x_l) (x_l.length<1000000000) (fun r=>r=x_l.contains x_b):=⟨by unfold zfJ; exact zIr⟩

instance (b:UInt8):T (zic b) True (fun r=>r=zk3 b):=bt (by decide +kernel) b

end Go.Dm
end
section
set_option linter.unusedVariables false
set_option maxRecDepth 10000
set_option maxHeartbeats 2000000
namespace Go.Dm
instance {P:Bool→Prop} (k0:Int→Int→Option Bool) (l3:List Str) (i4:Int) (i5:Int) (n:Nat) (i6:Int):K (zhw k0 l3 i4 i5 n i6) P ((Sm l3∧0≤i5∧i5<l3.length∧0≤i6∧i6≤(elt l3 i5).length∧(elt l3 i5).length<i6+n∧(elt l3 i5).length<1000000000∧hxs (tk (elt l3 i5) i6)=true∧0≤i4∧i4≤2*i5∧(zru (elt l3 i5)=false→P false))∧(∀a b,a=i4+1∧b=i5+1∧dr l3 i5=elt l3 i5::dr l3 (i5+1)∧zru (elt l3 i5)=true→W (k0 a b) P)):=by
 induction n generalizing i6
 ·exact ⟨goz⟩
 exact ⟨fun ⟨h,hk0⟩=>by have hk0:=fun a0 a1=>K.mk (hk0 a0 a1); unfold zhw; exact goE3⟩

instance (l3:List Str) (n:Nat) (i4:Int) (i5:Int):T (zc4 l3 n i4 i5) (Sm l3∧l3.length≤900000001∧(∀x∈l3,x.length<900000000)∧0≤i5∧i5≤l3.length∧l3.length<i5+n∧0≤i4∧i4≤2*i5) (fun r=>r=true↔GT (dr l3 i5) i4):=by
 induction n generalizing i4 i5
 ·exact ⟨goz⟩
 exact ⟨by unfold zc4 zj3; exact goE3⟩

instance (x_s:Str):T (zlX x_s) (x_s.length<900000000) (fun r=>r=true↔Grp true (zi 58 x_s) 8):=⟨by unfold zlX; exact goE3⟩

instance {P:Bool→Prop} (k1:Int→Option Bool) (s0:Str) (i3:Int) (i4:Int) (n:Nat) (s5:Str) (i6:Int):K (zgj k1 s0 i3 i4 n s5 i6) P ((s0.length<800000000∧0≤i3∧i3+2≤s0.length∧1≤i4∧i4≤8∧0≤i6∧i6≤i4∧i4<i6+n∧s5.length≤i3+2*i6∧SZ s0 i3 i6 s5∧(wz (tk s0 i3) (dr s0 (i3+2)) i4→P true))∧(∀i,i=i4+1∧¬ wz (tk s0 i3) (dr s0 (i3+2)) i4→W (k1 i) P)):=by
 induction n generalizing s5 i6
 ·exact ⟨goz⟩
 exact ⟨fun ⟨h,hk0⟩=>by have hk0:=fun a0=>K.mk (hk0 a0); unfold zgj zmQ zmR; exact goE4⟩

instance (s0:Str) (i3:Int) (n:Nat) (i4:Int):T (zeR s0 i3 n i4) (s0.length<800000000∧0≤i3∧i3+2≤s0.length∧1≤i4∧i4≤9∧9<i4+n) (fun r=>r=true↔sxW (tk s0 i3) (dr s0 (i3+2)) i4):=by
 induction n generalizing i4
 ·exact ⟨goz⟩
 exact ⟨by unfold zeR; exact goE4⟩

instance (s0:Str) (n:Nat) (i3:Int):T (zid s0 n i3) (s0.length<800000000∧0≤i3∧i3≤s0.length∧s0.length<i3+n) (fun r=>r=true↔zqN s0 i3):=by
 induction n generalizing i3
 ·exact ⟨goz⟩
 exact ⟨by unfold zid; exact goE4⟩

instance (x_s:Str):T (ztn x_s) (x_s.length<800000000) (fun r=>r=true↔zut x_s):=⟨by unfold ztn; exact goE4⟩

instance (b:UInt8):T (zd3 b) True (fun r=>r=zqD b):=bt (by decide +kernel) b

instance (b:UInt8):T (zne b) True (fun r=>r=zDr b):=bt (by decide +kernel) b

instance (s0:Str) (n:Nat) (i3:Int):T (zd0 s0 n i3) (0≤i3∧i3≤s0.length∧s0.length<i3+n∧s0.length<1000000000) (fun r=>r=true↔ziV (dr s0 i3)=true∧0<s0.length):=by
 induction n generalizing i3
 ·exact ⟨goz⟩
 exact ⟨by unfold zd0 zln; exact goE5⟩

instance (x_s:Str):T (zkY x_s) (x_s.length<1000000000) (fun r=>r=true↔ziV x_s=true∧x_s≠[]):=⟨by unfold zkY; exact goE5⟩

instance (x_s:Str):T (zr2 x_s) (x_s.length<800000000) (fun r=>(r.Kind≠0↔zoy x_s)∧(r.Kind≠0→r.Port = -1)):=⟨by unfold zr2 zjI; exact goE6⟩

instance (s0:Str) (n:Nat) (i5:Int):T (zhx s0 n i5) (s0.length<800000000 ∧ -1≤i5∧i5<s0.length∧i5+1<n∧58∉dr s0 (i5+1)) (fun r=>(r.2=0↔zpn s0)∧(r.2=0∨r.2=27)):=by
 induction n generalizing i5
 ·exact ⟨goz⟩
 exact ⟨by unfold zhx; exact goE6⟩

instance (x_s:Str):T (zlY x_s) (x_s.length<800000000) (fun r=>(r.2=0↔zoy x_s∨zpn x_s)∧(r.2=0∨r.2=27)):=⟨by unfold zlY; exact goE6⟩

end Go.Dm
end
section
set_option linter.unusedVariables false
set_option maxRecDepth 10000
set_option maxHeartbeats 2000000
namespace Go.Dm
instance (b:UInt8):T (zpi b) True (fun r=>r=zoI b):=bt (by decide +kernel) b

instance (s0:Str) (n:Nat) (i3:Int):T (zhy s0 n i3) (0≤i3∧i3≤s0.length∧s0.length<i3+n∧s0.length<1000000000) (fun r=>r=((dr s0 i3).all zoI&&decide (0<s0.length))):=by
 induction n generalizing i3
 ·exact ⟨goz⟩
 exact ⟨by unfold zhy; exact zIr⟩

instance (x_s:Str):T (zav x_s) (x_s.length<1000000000) (fun r=>r=zfY x_s):=⟨by unfold zav; exact zIr⟩

instance (b:UInt8):T (zf8 b) True (fun r=>r=zzx b):=bt (by decide +kernel) b

instance (s0:Str) (n:Nat) (i3:Int) (i4:Int):T (zbo s0 n i3 i4) (0≤i4∧i4≤s0.length∧s0.length<i4+n∧s0.length<1000000000∧0≤i3∧i3≤i4) (fun r=>True):=by
 induction n generalizing i3 i4
 ·exact ⟨goz⟩
 exact ⟨by unfold zbo zif zie; exact go⟩

instance (x_s:Str):T (zlo x_s) (x_s.length<1000000000) (fun r=>True):=⟨by unfold zlo; exact go⟩

instance (s0:Str) (n:Nat) (i3:Int):T (zhz s0 n i3) (0≤i3∧i3≤s0.length∧s0.length<i3+n∧s0.length<1000000000) (fun r=>r=zvf [44,40,41] (dr s0 i3)):=by
 induction n generalizing i3
 ·exact ⟨goz⟩
 exact ⟨by unfold zhz; exact zx5⟩

instance (x_s:Str):T (zlZ x_s) (x_s.length<1000000000) (fun r=>r=zvf [44,40,41] x_s):=⟨by unfold zlZ; exact zx5⟩

instance (s0:Str) (i5:Int) (v6:zW9) (t107:Bool):T (zaq s0 i5 v6 t107) (V4 s0∧s0.length<800000000∧4≤i5∧i5≤s0.length∧v6=⟨[],[49,46,49],sb s0 4 i5,[]⟩∧32∉sb s0 4 i5∧(i5<s0.length→dr s0 i5=32::dr s0 (i5+1))∧(t107=true↔¬ byP (sb s0 4 i5))) (fun r=>VP s0 r):=⟨by unfold zaq; exact zx5⟩

instance (s0:Str) (i5:Int) (v6:zW9) (l7:List Str):T (zhA s0 i5 v6 l7) (V4 s0∧s0.length<800000000∧4≤i5∧i5≤s0.length∧v6=⟨[],[49,46,49],sb s0 4 i5,[]⟩∧32∉sb s0 4 i5∧(i5<s0.length→dr s0 i5=32::dr s0 (i5+1))∧l7.length=1) (fun r=>VP s0 r):=⟨by unfold zhA; exact zx5⟩

instance (s0:Str) (i4:Int) (n:Nat) (i5:Int):T (zej s0 i4 n i5) (V4 s0∧s0.length<800000000∧i4=3∧4≤i5∧i5≤s0.length∧s0.length<i5+n∧32∉sb s0 4 i5) (fun r=>VP s0 r):=by
 induction n generalizing i5
 ·exact ⟨goz⟩
 exact ⟨by unfold zej zj4; exact zx5⟩

instance (s0:Str) (n:Nat) (i4:Int):T (zek s0 n i4) (V4 s0∧4≤s0.length∧s0.length<800000000∧0≤i4∧i4≤3∧s0.length<i4+n) (fun r=>VP s0 r):=by
 induction n generalizing i4
 ·exact ⟨goz⟩
 exact ⟨by unfold zek zj5; exact zx5⟩

instance (x_a0:Str):T (zn2 x_a0) (V4 x_a0∧x_a0.length<800000000) (fun r=>VP x_a0 r):=⟨by unfold zn2; exact zx5⟩

instance (v1:zW9) (s4:Str):T (ziN v1 s4) (V4 s4∧s4.length<800000000∧v1=⟨[],[49,46,49],dr s4 4,[]⟩) (fun r=>(zzh (dr s4 4)→r.2=0)∧(¬ zzh (dr s4 4)→r.2=2)):=⟨by unfold ziN; exact zx5⟩

instance (x_v:zW9):T (zqk x_v) (x_v=⟨[],[49,46,49],x_v.By,[]⟩∧x_v.By.length<10000) (fun r=>(zzh x_v.By→r.2=0)∧(¬ zzh x_v.By→r.2=2)):=⟨by unfold zqk zlp; exact zx5⟩

instance {P:Int→Prop} (k0:Int→Option Int) (i3:Int) (s5:Str) (n:Nat) (i6:Int):K (zhB k0 i3 s5 n i6) P ((s5.length<1000000000∧0≤i6∧i6≤s5.length∧s5.length<i6+n∧0≤i3∧i3≤10000∧(zvf [44,59] (dr s5 i6)=true→P 27))∧(∀i,i=i3+1∧zvf [44,59] (dr s5 i6)=false→W (k0 i) P)):=by
 induction n generalizing i6
 ·exact ⟨goz⟩
 exact ⟨fun ⟨h,hk0⟩=>by have hk0:=fun a0=>K.mk (hk0 a0); unfold zhB; exact zx5⟩

instance (l0:List zW3) (n:Nat) (i3:Int):T (zfK l0 n i3) (Swm l0∧0≤i3∧i3≤l0.length∧l0.length<i3+n) (fun r=>(zwI (dr l0 i3)→r=if 64<l0.length then 3 else 0)∧(¬ zwI (dr l0 i3)→r=27)):=by
 induction n generalizing i3
 ·exact ⟨goz⟩
 exact ⟨by unfold zfK; exact zx5⟩

instance (x_l:List zW3):T (zn3 x_l) (Swm x_l) (fun r=>(zwI x_l→r=if 64<x_l.length then 3 else 0)∧(¬ zwI x_l→r=27)):=⟨by unfold zn3; exact zx5⟩

end Go.Dm
end
section
set_option linter.unusedVariables false
set_option maxRecDepth 10000
set_option maxHeartbeats 2000000
namespace Go.Dm
instance (s0:Str) (s1:Str) (n:Nat) (i5:Int):T (zel s0 s1 n i5) (0≤i5∧i5≤s0.length∧s0.length<i5+n∧s0.length<1000000000∧s1.length<1000) (fun r=>r=i5+((upt s1 (dr s0 i5)).1.length:Int)):=by
 induction n generalizing i5
 ·exact ⟨goz⟩
 exact ⟨by unfold zel zj6; exact goE7⟩

instance (x_s:Str) (x_l:Str):T (zeS x_s x_l) (x_s.length<1000000000∧x_l.length<1000) (fun r=>r=((upt x_l x_s).1.length:Int)):=⟨by unfold zeS; exact goE7⟩

instance (b:UInt8):T (zl0 b) True (fun r=>r=zk2 b):=bt (by decide +kernel) b

instance (b:UInt8):T (zl1 b) True (fun r=>r=zbQ b):=bt (by decide +kernel) b

instance (s0:Str) (n:Nat) (i3:Int):T (zbH s0 n i3) (0≤i3∧i3≤s0.length∧s0.length<i3+n∧s0.length<1000000000) (fun r=>r=if i3=0 then zvk s0 else shs (dr s0 i3)):=by
 induction n generalizing i3
 ·exact ⟨goz⟩
 exact ⟨by unfold zbH zeL; exact goE7⟩

instance (x_s:Str):T (zmS x_s) (x_s.length<1000000000) (fun r=>r=zvk x_s):=⟨by unfold zmS; exact goE7⟩

instance (b:UInt8):T (zno b) True (fun r=>r=zzw b):=bt (by decide +kernel) b

instance  (n:Nat) (x_s:Str) (x_more:Str):T (zjs n x_s x_more) (x_s.length<n∧x_s.length<1000000000∧x_more.length<1000000000) (fun r=>r=pqM x_more x_s):=by
 induction n generalizing x_s x_more
 ·exact ⟨goz⟩
 exact ⟨by unfold zjs; exact goU⟩

instance (x_s:Str) (x_more:Str):T (znp x_s x_more) (x_s.length<1000000000∧x_more.length<1000000000) (fun r=>r=pqM x_more x_s):=⟨by unfold znp; exact goU⟩

instance (x_a0:zXc):T (zn4 x_a0) (Um x_a0) (fun r=>r=zvl x_a0):=⟨by unfold zn4 zj7; exact goE8⟩

instance (s0:Str) (v4:zXc):T (zhC s0 v4) (s0.length<1000000000∧Um v4) (fun r=>r.2=if zvl ⟨v4.Scheme,v4.Auth,s0,v4.Query,v4.Frag,v4.HasAuth,v4.HasQuery,v4.HasFrag⟩=true then 0 else 2):=⟨by unfold zhC; exact goE8⟩

instance (s0:Str) (v4:zXc):T (zhD s0 v4) (s0.length<1000000000∧Um v4∧v4=⟨v4.Scheme,[],[],v4.Query,v4.Frag,false,v4.HasQuery,v4.HasFrag⟩) (fun r=>r.2=if zvl (rrA v4.Scheme s0 v4.Query v4.Frag v4.HasQuery v4.HasFrag)=true then 0 else 2):=⟨by unfold zhD zj8; exact goE8⟩

instance (s0:Str) (v4:zXc):T (zhF s0 v4) (s0.length<1000000000∧Um v4∧v4=⟨[],[],[],v4.Query,v4.Frag,false,v4.HasQuery,v4.HasFrag⟩) (fun r=>r.2=if zvl (rrB s0 v4.Query v4.Frag v4.HasQuery v4.HasFrag)=true then 0 else 2):=⟨by unfold zhF zhE; exact goE8⟩

instance (s0:Str) (v4:zXc):T (zhG s0 v4) (s0.length<1000000000∧Um v4∧v4=⟨[],[],[],[],v4.Frag,false,false,v4.HasFrag⟩) (fun r=>r.2=if zvl (rpQ s0 v4.Frag v4.HasFrag)=true then 0 else 2):=⟨by unfold zhG; exact goEB⟩

instance (x_a0:Str):T (zl2 x_a0) (x_a0.length<1000000000) (fun r=>r.2=if zFM x_a0=true then 0 else 2):=⟨by unfold zl2; exact goEB⟩

instance (l0:List zW3) (n:Nat) (i3:Int):T (zhH l0 n i3) (Swm l0∧0≤i3∧i3≤l0.length∧l0.length<i3+n) (fun r=>(zwL (dr l0 i3)→r=if 64<l0.length then 3 else 0)∧(¬ zwL (dr l0 i3)→r=2)):=by
 induction n generalizing i3
 ·exact ⟨goz⟩
 exact ⟨by unfold zhH; exact goEA⟩

instance (x_l:List zW3):T (zn5 x_l) (Swm x_l) (fun r=>(zwL x_l→r=if 64<x_l.length then 3 else 0)∧(¬ zwL x_l→r=2)):=⟨by unfold zn5; exact goEA⟩

end Go.Dm
end
section
set_option linter.unusedVariables false
set_option maxRecDepth 10000
set_option maxHeartbeats 2000000
namespace Go.Dm
instance (x_env:zW2):T (zn6 x_env) (x_env.By.length≤1000∧x_env.Host.length≤1000∧Swm x_env.Domains∧Swm x_env.Locations) (fun r=>r=stC x_env):=⟨by unfold zn6 zj9 zhI; exact goEA⟩

instance (s0:Str) (n:Nat) (i3:Int):T (zgN s0 n i3) (0≤i3∧i3≤s0.length∧s0.length<i3+n∧s0.length<1000000000) (fun r=>r=vls (dr s0 i3)):=by
 induction n generalizing i3
 ·exact ⟨goz⟩
 exact ⟨by unfold zgN; exact goV⟩

instance (x_s:Str):T (zmT x_s) (x_s.length<1000000000) (fun r=>r=vls x_s):=⟨by unfold zmT; exact goV⟩

instance (b:UInt8):T (zjJ b) True (fun r=>r=znv b):=bt (by decide +kernel) b

instance  (n:Nat) (s0:Str):T (zfa n s0) (s0.length<n∧s0.length<1000000000) (fun r=>r=znB s0):=by
 induction n generalizing s0
 ·exact ⟨goz⟩
 exact ⟨by unfold zfa zlq; exact goV⟩

instance  (n:Nat) (s0:Str):T (zfb n s0) (s0.length<n∧s0.length<1000000000) (fun r=>r=znB (zmx s0)):=by
 induction n generalizing s0
 ·exact ⟨goz⟩
 exact ⟨by unfold zfb zlr; exact goV⟩

instance (x_s:Str):T (zql x_s) (x_s.length<1000000000) (fun r=>r=zBc x_s):=⟨by unfold zql; exact goV⟩

instance (x_f:zWQ):T (zn7 x_f) (x_f.Name.length<1000000000∧x_f.Value.length<1000000000) (fun r=>r=0↔fokB x_f.Name x_f.Value=true):=⟨by unfold zn7; exact gr4⟩

instance (x_g:zXx):T (zl3 x_g) (Gm x_g) (fun r=>r=true↔guaP x_g):=⟨by unfold zl3; exact gr4⟩

instance {P:Str→Prop} (k0:Str→Int→Option Str) (s0:Str) (s3:Str) (i4:Int) (n:Nat) (s5:Str) (i6:Int):K (zfc k0 s0 s3 i4 n s5 i6) P ((∃c,s5=[c]∧dr s0 i4=c::dr s0 (i4+1))∧i6=0∧n=fuel∧0≤i4∧i4<1000000000∧s3.length<1000000000∧∀t i,t=s3++low s5∧i=i4+1→W (k0 t i) P):=⟨fun ⟨⟨c,e1,e2⟩,e3,e4,h0,h1,h2,hk⟩=>by
 have hl:=zkp h0 e2
 have e:sAt s0 i4=some c:=by
  obtain ⟨r,e,hr⟩:=(inferInstance:T (sAt s0 i4) _ _).ok ⟨h0,hl⟩;rw [hr.2.2] at e2;rw [e,(List.cons.inj e2).1]
 subst e1 e3 e4;rw [zMT k0 s0 s3 i4 c e,fl_v]
 have a1:zb1 s3 [zk1 c]=some (s3++[zk1 c]):=by simp [zb1]; omega
 have a2:zd i4 1=some (i4+1):=by simp [zd,inI]; omega
 show W ((zb1 s3 [zk1 c]).bind _) P;rw [a1];show W ((zd i4 1).bind _) P;rw [a2]
 exact hk _ _ ⟨rfl,rfl⟩⟩

instance (s0:Str) (n:Nat) (s3:Str) (i4:Int):T (zg4 s0 n s3 i4) (0≤i4∧i4≤s0.length∧s0.length<i4+n∧s0.length<1000000000∧s3.length=i4) (fun r=>r=s3++low (dr s0 i4)):=by
 induction n generalizing s3 i4
 ·exact ⟨goz⟩
 exact ⟨by unfold zg4; exact goF⟩

instance (x_s:Str):T (znq x_s) (x_s.length<1000000000) (fun r=>r=low x_s):=⟨by unfold znq; exact goF⟩

instance (x_name:Str):T (zn8 x_name) (x_name.length<1000000000) (fun r=>r=decide (low x_name∈zIm)):=⟨by unfold zn8; exact gr4⟩

instance (x_name:Str):T (zkZ x_name) (x_name.length<1000000000) (fun r=>r=zCY x_name):=⟨by unfold zkZ; exact gr4⟩

instance (x_side:Int):T (zn9 x_side) (True) (fun r=>r=kns x_side∧r.length≤10):=⟨by unfold zn9; exact gr5⟩

end Go.Dm
end
section
set_option linter.unusedVariables false
set_option maxRecDepth 10000
set_option maxHeartbeats 2000000
namespace Go.Dm
instance {P:(List Str)→Prop} (k0:List Str→Int→Option (List Str)) (l0:List zWR) (l3:List Str) (i4:Int) (n:Nat) (t5:Bool) (i6:Int):K (zfL k0 l0 l3 i4 n t5 i6) P ((l0.length≤10000∧l3.length≤i4∧0≤i4∧i4<l0.length∧0≤i6∧i6≤l3.length∧l3.length<i6+n)∧(∀l i,i=i4+1∧l=(if t5=true∨(pe l0 i4).Text∈dr l3 i6 then l3 else l3++[(pe l0 i4).Text])→W (k0 l i) P)):=by
 induction n generalizing t5 i6
 ·exact ⟨goz⟩
 exact ⟨fun ⟨h,hk0⟩=>by have hk0:=fun a0 a1=>K.mk (hk0 a0 a1); unfold zfL; exact gr5⟩

instance (l0:List zWR) (n:Nat) (l3:List Str) (i4:Int):T (zfM l0 n l3 i4) (l0.length≤10000∧0≤i4∧i4≤l0.length∧l0.length<i4+n∧l3.length≤i4) (fun r=>r=nmF l3 (dr l0 i4)∧r.length≤l0.length):=by
 induction n generalizing l3 i4
 ·exact ⟨goz⟩
 exact ⟨by unfold zfM; exact gr5⟩

instance (x_l:List zWR):T (zoa x_l) (x_l.length≤10000) (fun r=>r=nmF [] x_l∧r.length≤x_l.length):=⟨by unfold zoa; exact gr5⟩

instance (i4:Int) (s5:Str) (n:Nat) (i6:Int):T (zka i4 s5 n i6) (0≤i6∧i6≤s5.length∧s5.length<i6+n∧s5.length<1000000000∧0≤i4∧i4<1000000000) (fun r=>r=if sms (dr s5 i6)=true then (⟨2,s5⟩,i4+1) else (⟨0,[]⟩,0)):=by
 induction n generalizing i6
 ·exact ⟨goz⟩
 exact ⟨by unfold zka; exact gr0⟩

instance (s0:Str) (n:Nat) (i4:Int):T (zgk s0 n i4) (0≤i4∧i4≤s0.length∧s0.length<i4+n∧s0.length<1000000000∧dr s0 0=36::dr s0 (0+1)∧N36 s0∧125∉tk s0 i4) (fun r=>PRo s0 r.1 r.2∧0≤r.2∧r.2≤s0.length∧r.1.Text.length≤r.2):=by
 induction n generalizing i4
 ·exact ⟨goz⟩
 exact ⟨by unfold zgk zmU; exact gr1⟩

instance (x_a0:Str):T (zto x_a0) (1≤x_a0.length∧x_a0.length<1000000000) (fun r=>PRo x_a0 r.1 r.2∧0≤r.2∧r.2≤x_a0.length∧r.1.Text.length≤r.2):=⟨by unfold zto zmV; exact gr1⟩

instance  (n:Nat) (s0:Str) (l4:List zWR):T (zc5 n s0 l4) (s0.length<n∧l4.length+s0.length≤90000000∧(∀p∈l4,p.Text.length+s0.length≤90000000)) (fun r=>r.1.length≤32∧∀l,r=(l,0)↔PR l4 s0 l∧l.length≤32):=by
 induction n generalizing s0 l4
 ·exact ⟨goz⟩
 exact ⟨by unfold zc5 zhJ; exact gr2⟩

instance (x_s:Str):T (zob x_s) (x_s.length≤90000000) (fun r=>r.1.length≤32∧∀l,r=(l,0)↔PR [] x_s l∧l.length≤32):=⟨by unfold zob; exact gr2⟩

instance (l0:List zWR) (l1:List zWR) (n:Nat) (i5:Int):T (ziO l0 l1 n i5) (l0.length=l1.length∧l0.length<1000000000∧0≤i5∧i5≤l0.length∧l0.length<i5+n) (fun r=>r=true↔dr l0 i5=dr l1 i5):=by
 induction n generalizing i5
 ·exact ⟨goz⟩
 exact ⟨by unfold ziO; exact goR5⟩

instance (x_a:List zWR) (x_b:List zWR):T (zqm x_a x_b) (x_a.length<1000000000) (fun r=>r=true↔x_a=x_b):=⟨by unfold zqm; exact goR5⟩

instance {P:(Str × Int)→Prop} (k0:Str→Int→Option (Str × Int)) (l0:List zWR) (i5:Int) (n:Nat) (s4:Str) (i6:Int):K (zfd k0 l0 i5 n s4 i6) P ((Tp l0∧0≤i5∧i5<l0.length∧0≤i6∧i6≤(pe l0 i5).Text.length∧(pe l0 i5).Text.length<i6+n∧s4.length≤20010*i5+2*i6)∧(∀s i,i=i5+1∧s.length≤20010*i∧s=s4++dbl (dr (pe l0 i5).Text i6)→W (k0 s i) P)):=by
 induction n generalizing s4 i6
 ·exact ⟨goz⟩
 exact ⟨fun ⟨h,hk0⟩=>by have hk0:=fun a0 a1=>K.mk (hk0 a0 a1); unfold zfd zls; exact gr7⟩

instance (l0:List zWR) (n:Nat) (s4:Str) (i5:Int):T (zb2 l0 n s4 i5) (Tp l0∧0≤i5∧i5≤l0.length∧l0.length<i5+n∧s4.length≤20010*i5) (fun r=>(r.2=0↔zz2 l0 (s4++prA (dr l0 i5)))∧(r.2=0∨r.2=2)):=by
 induction n generalizing s4 i5
 ·exact ⟨goz⟩
 exact ⟨by unfold zb2; exact gr3⟩

instance (x_a0:List zWR):T (zqn x_a0) (Tp x_a0) (fun r=>(r.2=0↔zz2 x_a0 (prA x_a0))∧(r.2=0∨r.2=2)):=⟨by unfold zqn; exact gr3⟩

end Go.Dm
end
section
set_option linter.unusedVariables false
set_option maxRecDepth 10000
set_option maxHeartbeats 2000000
namespace Go.Dm
instance (x_s:zXo):T (zn0 x_s) (True) (fun r=>r.Env=x_s.Env∧r.Caps=x_s.Caps∧r.Rules=x_s.Rules):=⟨by unfold zn0; exact go1⟩

end Go.Dm
end
section
set_option linter.unusedVariables false
set_option maxRecDepth 10000
set_option maxHeartbeats 2000000
namespace Go.Dm
instance {P:Int→Prop} (k0:Bool→Int→Option Int) (t3:Bool) (l4:List Str) (l5:List Str) (i6:Int) (n:Nat) (t7:Bool) (i8:Int):K (zfN k0 t3 l4 l5 i6 n t7 i8) P ((0≤i8∧i8≤l4.length∧l4.length<i8+n∧l4.length≤10∧0≤i6∧i6<l5.length∧l5.length≤10000)∧(∀b i,i=i6+1∧(b=true↔t3=true∧(t7=true∨elt l5 i6∈dr l4 i8))→W (k0 b i) P)):=by
 induction n generalizing t7 i8
 ·exact ⟨goz⟩
 exact ⟨fun ⟨h,hk0⟩=>by have hk0:=fun a0 a1=>K.mk (hk0 a0 a1); unfold zfN; exact gr5⟩

instance (v1:zWU) (l4:List Str) (l5:List Str) (n:Nat) (t3:Bool) (i6:Int):T (zfO v1 l4 l5 n t3 i6) (Rm v1∧l4.length≤10∧l5.length≤1000∧0≤i6∧i6≤l5.length∧l5.length<i6+n) (fun r=>(r=0↔t3=true∧zDW l4 (dr l5 i6)∧actR v1)∧(r=0∨r=9)):=by
 induction n generalizing t3 i6
 ·exact ⟨goz⟩
 exact ⟨by unfold zfO zkb; exact gr5⟩

instance (v1:zWU) (t3:Bool):T (zbA v1 t3) (Rm v1) (fun r=>(r=0↔t3=true∧zDW (kns v1.Side) (nmF [] v1.Parts)∧actR v1)∧(r=0∨r=9)):=⟨by unfold zbA; exact gr5⟩

instance (x_a0:zWU):T (zoc x_a0) (Rm x_a0) (fun r=>(r=0↔zGk x_a0)∧(r=0∨r=9)):=⟨by unfold zoc; exact gr5⟩

instance (l0:List zWU) (n:Nat) (i4:Int):T (zhK l0 n i4) (Rl l0∧0≤i4∧i4≤l0.length∧l0.length<i4+n) (fun r=>(zoC (dr l0 i4)→r.2=if 64<l0.length then 3 else 0)∧(¬ zoC (dr l0 i4)→r.2=9)):=by
 induction n generalizing i4
 ·exact ⟨goz⟩
 exact ⟨by unfold zhK; exact gr5⟩

instance (x_l:List zWU):T (zod x_l) (Rl x_l) (fun r=>(zoC x_l→r.2=if 64<x_l.length then 3 else 0)∧(¬ zoC x_l→r.2=9)):=⟨by unfold zod; exact gr5⟩

instance (x_s:ref44_Setup):T (zoe x_s) (x_s.Env.By.length≤1000∧x_s.Env.Host.length≤1000∧Swm x_s.Env.Domains∧Swm x_s.Env.Locations∧Rl x_s.Rules) (fun r=>r=gwC x_s.Env x_s.Caps x_s.Rules):=⟨by unfold zoe; exact gr6⟩

instance (x_s:zXo):T (zhM x_s) (x_s.Env.By.length≤1000∧x_s.Env.Host.length≤1000∧Swm x_s.Env.Domains∧Swm x_s.Env.Locations∧Rl x_s.Rules∧x_s.Client.length≤3000∧x_s.Upstream.length≤3000) (fun r=>r=gwC x_s.Env x_s.Caps x_s.Rules):=⟨by unfold zhM zhL; exact gr6⟩

end Go.Dm
end
section
set_option linter.unusedVariables false
set_option maxRecDepth 10000
set_option maxHeartbeats 2000000
namespace Go.Dm
instance (x_sep:Str) (x_l:List Str):T (zbt x_sep x_l) (x_sep.length≤10∧sl x_l+10*x_l.length≤100000000000000) (fun r=>r.length≤sl x_l+10*x_l.length∧r=Go.Lib.join x_l x_sep):=⟨by unfold zbt; exact go⟩

instance (x_s:Str):T (zgG x_s) (True) (fun r=>r.zXI=x_s∧r.zXj=0):=⟨by unfold zgG; exact go⟩

instance (b:UInt8):T (zbS b) True (fun r=>r=zk1 b):=bt (by decide +kernel) b

instance (b:UInt8):T (zdW b) True (fun r=>r=zk2 b):=bt (by decide +kernel) b

instance (b:UInt8):T (zbm b) True (fun r=>r=zbQ b):=bt (by decide +kernel) b

instance (x_b:UInt8) (x_l:Str):T (zkX x_b x_l) (True) (fun r=>r=x_l.contains x_b):=⟨by unfold zkX; exact go⟩

instance (b:UInt8):T (zg2 b) True (fun r=>r=zoI b):=bt (by decide +kernel) b

instance (x_c:zWW):T (zcq x_c) (True) (fun r=>r=x_c.zXj):=⟨by unfold zcq; exact go⟩

instance (x_c:zWW):T (zas x_c) (Cw x_c) (fun r=>r=dr x_c.zXI x_c.zXj∧(r.length:Int)=x_c.zXI.length-x_c.zXj∧(r=[]↔x_c.zXj=x_c.zXI.length)):=⟨by unfold zas; exact go⟩

instance (x_c:zWW):T (zao x_c) (Cw x_c) (fun r=>r=decide (x_c.zXj=x_c.zXI.length)):=⟨by unfold zao; exact go⟩

instance (x_c:zWW):T (zat x_c) (Cw x_c) (fun r=>r.2=decide (x_c.zXj<x_c.zXI.length)∧(r.2=true→dr x_c.zXI x_c.zXj=r.1::dr x_c.zXI (x_c.zXj+1))∧(r.2=true→sAt x_c.zXI x_c.zXj=some r.1)):=⟨by unfold zat; exact go⟩

instance (f1:(UInt8→Option Bool)) (i5:Int) (n:Nat) (vp0:zWW) {g:UInt8→Bool} [∀b,T (f1 b) True (fun r=>r=g b)]:T (zbT f1 i5 n vp0) (Cw vp0∧0≤i5∧i5≤vp0.zXj∧vp0.zXI.length<vp0.zXj+n) (fun r=>Cw r.2∧r.2.zXI=vp0.zXI∧vp0.zXj≤r.2.zXj∧r.1.length≤vp0.zXI.length∧(r.1.length:Int)=r.2.zXj-i5∧r.1=sb vp0.zXI i5 vp0.zXj++(dr vp0.zXI vp0.zXj).takeWhile g∧dr r.2.zXI r.2.zXj=(dr vp0.zXI vp0.zXj).dropWhile g):=by
 induction n generalizing vp0
 ·exact ⟨goz⟩
 exact ⟨by unfold zbT; exact goW⟩

instance (x_c:zWW) (x_is:(UInt8→Option Bool)) {g:UInt8→Bool} [∀b,T (x_is b) True (fun r=>r=g b)]:T (zK x_c x_is) (Cw x_c) (fun r=>Cw r.2∧r.2.zXI=x_c.zXI∧x_c.zXj≤r.2.zXj∧r.1.length≤x_c.zXI.length∧(r.1.length:Int)=r.2.zXj-x_c.zXj∧r.1=(dr x_c.zXI x_c.zXj).takeWhile g∧dr r.2.zXI r.2.zXj=(dr x_c.zXI x_c.zXj).dropWhile g):=⟨by unfold zK; exact goW⟩

instance (x_c:zWW):T (zP x_c) (Cw x_c) (fun r=>Cw r.2.2∧r.2.2.zXI=x_c.zXI∧x_c.zXj≤r.2.2.zXj∧r.1.length≤x_c.zXI.length∧(r.1.length:Int)=r.2.2.zXj-x_c.zXj∧r.2.1 = !(r.1==[])∧r.1=(dr x_c.zXI x_c.zXj).takeWhile zoI∧dr r.2.2.zXI r.2.2.zXj=(dr x_c.zXI x_c.zXj).dropWhile zoI):=⟨by unfold zP; exact goW⟩

instance (x_c:zWW) (x_b:UInt8):T (zf x_c x_b) (Cw x_c) (fun r=>Cw r.2∧r.2.zXI=x_c.zXI∧(if r.1=true then r.2.zXj=x_c.zXj+1∧dr x_c.zXI x_c.zXj=x_b::dr x_c.zXI (x_c.zXj+1) else r.2=x_c∧∀t,dr x_c.zXI x_c.zXj≠x_b::t)∧(sAt x_c.zXI x_c.zXj=some x_b→x_c.zXj<x_c.zXI.length→r.1=true)):=⟨by unfold zf; exact go⟩

instance (x_r:zXG) (x_v:zW9):T (zeu x_r x_v) (Cw x_r.Scanner∧x_v=⟨[],[],[],[]⟩) (fun r=>Cw r.2.2∧r.2.2.zXI=x_r.Scanner.zXI∧∀b,dr x_r.Scanner.zXI x_r.Scanner.zXj=49::46::49::32::b→r.1=true∧r.2.1=⟨[],[49,46,49],[],[]⟩∧dr r.2.2.zXI r.2.2.zXj=32::b):=⟨by unfold zeu zcX zcW; exact zDe⟩

instance (b:UInt8):T (zgH b) True (fun r=>r=nsp b):=bt (by decide +kernel) b

instance {P:Bool→Prop} (k0:Int→Option Bool) (f0:(UInt8→Option Bool)) (s6:Str) (i10:Int) (i15:Int) (n:Nat) (i16:Int) {g:UInt8→Bool} [∀b,T (f0 b) True (fun r=>r=g b)]:K (zjW k0 f0 s6 i10 i15 n i16) P ((i15=s6.length∧0≤i16∧i16≤i15∧i15<i16+n∧s6.length≤4611686018427387904∧0≤i10∧i10≤4611686018427387904∧((dr s6 i16).all g=false→P false))∧(∀i,i=i10+1∧(dr s6 i16).all g=true→W (k0 i) P)):=by
 induction n generalizing i16
 ·exact ⟨goz⟩
 exact ⟨fun ⟨h,hk0⟩=>by have hk0:=fun a0=>K.mk (hk0 a0); unfold zjW; exact goN⟩

instance (f0:(UInt8→Option Bool)) (l8:List Str) (i9:Int) (n:Nat) (i10:Int) {g:UInt8→Bool} [∀b,T (f0 b) True (fun r=>r=g b)]:T (zh6 f0 l8 i9 n i10) (i9=l8.length∧0≤i10∧i10≤i9∧i9<i10+n∧Sm l8) (fun r=>r=(dr l8 i10).all fun s=>s.all g):=by
 induction n generalizing i10
 ·exact ⟨goz⟩
 exact ⟨by unfold zh6; exact goN⟩

instance (x_is:(UInt8→Option Bool)) (x_l:List Str) {g:UInt8→Bool} [∀b,T (x_is b) True (fun r=>r=g b)]:T (zbU x_is x_l) (Sm x_l) (fun r=>r=x_l.all fun s=>s.all g):=⟨by unfold zbU; exact goN⟩

end Go.Dm
end
section
set_option linter.unusedVariables false
set_option maxRecDepth 10000
set_option maxHeartbeats 2000000
namespace Go.Dm
instance (x_b:UInt8):T (zlh x_b) True (fun r=>0≤r∧r≤265∧(zbQ x_b=true→r=(x_b.toNat:Int)-48)):=⟨fun _=>by
 have:=zpm (p:=fun b=>match zlh b with|some r=>decide (0≤r∧r≤265∧(zbQ b=true→r=(b.toNat:Int)-48))|none=>false) (by decide +kernel) x_b
 split at this
 ·rename_i r e; exact ⟨r,e,of_decide_eq_true this⟩
 ·cases this⟩

instance (s0:Str) (i1:Int) (i2:Int) (i23:Int) (n:Nat) (i10:Int) (i24:Int):T (zgI s0 i1 i2 i23 n i10 i24) (i23=s0.length∧0≤i24∧i24≤i23∧i23<i24+n∧i23<1000000000∧1≤i1∧0≤i2∧i2≤9223372036854775807∧0≤i10∧i10≤i2) (fun r=>0≤r.1∧r.1≤i2∧(i1=10→dgs (dr s0 i24)=true→dvI i10 (dr s0 i24)≤i2→r=(dvI i10 (dr s0 i24),0))):=by
 induction n generalizing i10 i24
 ·exact ⟨goz⟩
 exact ⟨fun h=>by rcases Decidable.em (i1=10) with he|he<;>(try subst he)<;>(unfold zgI; exact goD)⟩

instance (x_s:Str) (x_base:Int) (x_most:Int) (x_is:(UInt8→Option Bool)) {g:UInt8→Bool} [∀b,T (x_is b) True (fun r=>r=g b)]:T (zjX x_s x_base x_most x_is) (x_s.length<1000000000∧1≤x_base∧0≤x_most∧x_most≤9223372036854775807) (fun r=>0≤r.1∧r.1≤x_most∧(x_base=10→g=zbQ→dgs x_s=true→x_s≠[]→dvI 0 x_s≤x_most→r=(dvI 0 x_s,0))):=⟨by unfold zjX; exact goD⟩

instance (x_s:Str) (x_most:Int):T (zdr x_s x_most) (x_s.length<1000000000∧0≤x_most∧x_most≤9223372036854775807) (fun r=>0≤r.1∧r.1≤x_most∧(dgs x_s=true→x_s≠[]→dvI 0 x_s≤x_most→r=(dvI 0 x_s,0))):=⟨by unfold zdr; exact goA⟩

instance (x_n:Int) (x_base:Int):T (zjY x_n x_base) ((x_base=10∨x_base=16∧x_n<1048576)∧x_n≤9223372036854775807) (fun r=>r.length≤21∧(x_base=10→if 0≤x_n then r=Go.Lib.decDigits x_n.toNat else r=[])):=⟨by unfold zjY; exact goA⟩

instance (x_n:Int):T (zcY x_n) (x_n≤9223372036854775807) (fun r=>r.length≤21∧if 0≤x_n then r=Go.Lib.decDigits x_n.toNat else r=[]):=⟨by unfold zcY; exact goA⟩

instance (x_s:Str) (x_most:Int):T (zbz x_s x_most) (x_s.length<1000000000∧0≤x_most∧x_most≤9223372036854775807) (fun r=>r=true↔zha x_s x_most):=⟨by unfold zbz; exact goA⟩

instance (s:Str):T (zbn s) (s.length<1000000000) (fun r=>r=true↔zmb s):=⟨fun h=>by
 have hm:∀x∈zi 46 s, ∃b,zbz x 255=some b∧(b=true↔zha x 255):=fun x hx =>
  (inferInstance:T (zbz x 255) _ _).ok (by have:=(zwJ 46 s).2 x hx; omega)
 have key:∀l:List Str,(∀x∈l, ∃b,zbz x 255=some b∧(b=true↔zha x 255))→∃bs,l.mapM (fun x=>zbz x 255)=some bs∧bs.length=l.length∧(bs.all id=true↔∀x∈l,zha x 255):=by
  intro l hl
  induction l with
  | nil=>exact ⟨[],rfl,rfl,by simp⟩
  | cons x l ih =>
   obtain ⟨bs,e,h1,h2⟩:=ih fun x hx=>hl x (List.mem_cons_of_mem _ hx);obtain ⟨b,eb,hb⟩:=hl x List.mem_cons_self;exact ⟨b::bs,by simp [List.mapM_cons,e,eb],by simp [h1],by simp [hb, ← h2]⟩
 obtain ⟨bs,e,h1,h2⟩:=key _ hm;refine ⟨_,by rw [zbn,if_pos h,e]; rfl,?_⟩;show _=true↔_;rw [Bool.and_eq_true,h2,decide_eq_true_eq,h1];unfold zmb;constructor
 ·rintro ⟨a,b⟩; exact ⟨by omega,a⟩
 ·rintro ⟨a,b⟩; exact ⟨b,by omega⟩⟩

instance (b:UInt8):T (zdX b) True (fun r=>r=zk3 b):=bt (by decide +kernel) b

end Go.Dm
end
