/- Hosts, in both directions. No program in sight. By whom, and domains: what may be. No program in sight. References to pl -/
import Derived.Test.YtkbigjfhddediaaGreatDoorTXU
import Derived.Test.YtkbigjfhddediaaGreatDoorYM
set_option linter.unusedVariables false
set_option linter.unusedSimpArgs false
set_option linter.unusedVariables false
set_option maxRecDepth 10000
set_option maxHeartbeats 4000000
section
namespace Go.Dm
variable {s:Str}
def zIn (b:Bool) (l:List Str):Prop:=∃k,Grp b l k
theorem Grp_h {b:Bool} {l:List Str} (a:zsf s=true) (h:zIn b l):zIn b (s::l):=by
 obtain ⟨k,h⟩:=h; exact ⟨_,.hex _ _ _ _ a h⟩
theorem Grp_f (h:zmB s):zIn true [s]:=⟨_,.four _ h⟩
theorem Grp_e (b:Bool):zIn b []:=⟨_,.nil b⟩
theorem Grp_o {b:Bool} {l:List Str} (h:zIn b l):∃k,Grp b l k:=h
theorem six_r (h:((Go.Lib.cut s [58,58]).2.2=false∧Grp true (spt s) 8) ∨
    ((Go.Lib.cut s [58,58]).2.2=true∧∃n m,Grp false (spt (Go.Lib.cut s [58,58]).1) n∧Grp true (spt (Go.Lib.cut s [58,58]).2.1) m∧n+m≤7)):zvw s:=by
  unfold zvw;rw [zFL] at h
  cases e:zmC s with
  | none => rw [e] at h; rcases h with h|h
            · exact h.2
            · cases h.1
  | some p => rw [e] at h; rcases h with h|h
              · cases h.1
              · exact h.2
theorem six_i:zvw s↔((Go.Lib.cut s [58,58]).2.2=false∧Grp true (spt s) 8) ∨
  ((Go.Lib.cut s [58,58]).2.2=true∧∃n m,Grp false (spt (Go.Lib.cut s [58,58]).1) n∧Grp true (spt (Go.Lib.cut s [58,58]).2.1) m∧n+m≤7):=⟨six_c,six_r⟩
theorem host_r (h:(2<(s.length:Int)∧sAt s 0=some 91∧sAt s ((s.length:Int)-1)=some 93∧zvw (sb s 1 ((s.length:Int)-1)))∨zmB s∨(s≠[]∧zjq s=true)):zrM s:=by
 rcases h with ⟨h1,h2,b,a⟩|h
 ·obtain ⟨m,rfl⟩:=zzo b
  obtain ⟨x,t,rfl⟩:∃x t,m=x::t:=by
   cases m with
   | nil=>simp at h1
   | cons x t=>exact ⟨x,t,rfl⟩
  have:x=91:=by simpa [sAt] using h2
  subst this;refine .inl ⟨t,?_,rfl,?_⟩
  ·rintro rfl; simp at h1
  ·have e:=zM8 (s:=91::t++[93]) (m:=t) rfl (by rintro rfl; simp at h1);rw [e.2.2.2] at a; exact a
 ·exact .inr h
theorem zL9:zrM s↔(2<(s.length:Int)∧sAt s 0=some 91∧sAt s ((s.length:Int)-1)=some 93∧zvw (sb s 1 ((s.length:Int)-1)))∨zmB s∨(s≠[]∧zjq s=true):=⟨zM9,host_r⟩
theorem zMa {i:Int} (h0:0≤i) (h:dr s i=58::dr s (i+1)) (hn:(58:UInt8)∉dr s (i+1)) (h1:zrM (tk s i)) (h2:zhx (dr s (i+1)) 65535):zuJ s :=
 ⟨_,_,(zzX h0 h).2,hn,h1,h2⟩
theorem goA2 {G:Prop} (h:G:=by
 (with_reducible repeat' first|intro _|refine And.intro ?_ ?_|refine Wf ?_ ?_|refine Wi ?_ ?_|refine Ws ?_|refine Wc ?_ ?_|refine Wo ?_ ?_|refine Wk ?_|refine We ?_ ?_)
 all_goals (try simp only [List.length_cons,List.length_nil])
 all_goals grind [Grp_h,Grp_f,Grp_e, → Grp_o,six_i,zL9,zMa,zD9, → zzn,zKS,zKT,zBl,zsf, → zzo, → zKg, → zH2, → zzX, → zII, → zIJ,ztl,spt,zyW,zDi,zxn,sb_s,zyX,zAn,fuel,zb5,zcV,zf5,zba,zaU,List.append_assoc,zbk,zaG,zfC,Sm]):G:=h
theorem tw_n (g:UInt8→Bool):([]:Str).takeWhile g=[]:=rfl
theorem dw_n (g:UInt8→Bool):([]:Str).dropWhile g=[]:=rfl
theorem dw_c (g:UInt8→Bool) (c:UInt8) (s:Str):(c::s).dropWhile g=(if g c=true then s.dropWhile g else c::s):=by
 rw [List.dropWhile_cons]
theorem tw_c (g:UInt8→Bool) (c:UInt8) (s:Str):(c::s).takeWhile g=(if g c=true then c::s.takeWhile g else [])∧(c::s).dropWhile g=(if g c=true then s.dropWhile g else c::s):=by
 rw [List.takeWhile_cons,List.dropWhile_cons]; cases g c<;>simp
theorem sb_1 {i j:Int} {c:UInt8} (h0:0≤i) (h1:i≤j) (h:dr s j=c::dr s (j+1)):sb s i (j+1)=sb s i j++[c]:=by
 have a:=zkv (by omega) h;rw [zIV h0 h1 (by omega:j≤j+1) (by omega),h]; simp
theorem sb_2 {i j:Int} (h0:0≤i) (h1:i≤j) (h:j<s.length):sb s i (j+1)=sb s i j++(dr s j).take 1:=by
 have e:(dr s j).length-(dr s (j+1)).length=1:=by simp [dr]; omega
 rw [zIV h0 h1 (by omega:j≤j+1) (by omega),e]
theorem take1 (c:UInt8) (t:Str):(c::t).take 1=[c]:=rfl
theorem zIo {s x t:Str} {i:Int} (h0:0≤i) (h:dr s i=x++t):dr s (i+(x.length:Int))=t:=by
 have e:(i+(x.length:Int)).toNat=i.toNat+x.length:=by omega
 unfold dr at *
 rw [e, ← List.drop_drop,h,List.drop_left]
theorem goW {G:Prop} (h:G:=by
 (with_reducible repeat' first|intro _|refine And.intro ?_ ?_|refine Wf ?_ ?_|refine Wi ?_ ?_|refine Ws ?_|refine Wc ?_ ?_|refine Wo ?_ ?_|refine Wk ?_|refine We ?_ ?_)
 all_goals (try subst_vars)
 all_goals (try simp only [List.length_cons,List.length_nil])
 all_goals grind [tw_n,dw_n,tw_c,dw_c,sb_2,take1,zIo,zhO,zyX,fuel,zb5,zcV,zf5,zba,zaU,List.append_assoc,zbk,zaG,zfC,Sm,Ss,Cw,UInt8.toNat_lt]):G:=h
end Go.Dm
end
section
namespace Go.Dm
def nsp (b:UInt8):Bool := !(b==32)
def zvX (c s:Str):Bool:=s.any c.contains
theorem zGJ (c:Str):∀(s:Str) (k:Nat),decide (0≤zdj s c k)=zvX c s
 | [],k=>by simp [zdj,zvX]
 | x::s,k=>by
  have a:=zGJ c s (k+1)
  unfold zvX at *
  rw [zdj,List.any_cons]
  cases hx:c.contains x with
  | true=>rw [if_pos rfl]; simp
  | false=>rw [if_neg Bool.false_ne_true,a,Bool.false_or]
theorem idxA_h (c s:Str):decide (0≤zdj s c 0)=zvX c s:=zGJ c s 0
def byP (b:Str):Prop:=zhO b=true∨(zrM b∨zuJ b)∧zvX [44,40,41] b=false
def zAd (b:Str):Prop:=32∉b∧byP b
theorem ns_all {b:Str} (h:32∉b):b.takeWhile nsp=b∧b.dropWhile nsp=[]:=by
 induction b with
 | nil=>exact ⟨rfl,rfl⟩
 | cons x b c =>
  simp only [List.mem_cons,not_or] at h
  have a:nsp x=true:=by unfold nsp; simp; exact fun e=>h.1 e.symm
  have:=c h.2;rw [(tw_c nsp x b).1,dw_c,if_pos a,if_pos a,this.1,this.2];exact ⟨rfl,rfl⟩
theorem ns_no {b:Str} (h:b.takeWhile nsp=b):32∉b:=by
 induction b with
 | nil=>simp
 | cons x b c =>
  rw [(tw_c nsp x b).1] at h
  cases a:nsp x with
  | false=>rw [a,if_neg Bool.false_ne_true] at h; cases h
  | true =>
   rw [a,if_pos rfl] at h;have h2:=c (List.cons.inj h).2
   have:x≠32:=by rintro rfl; revert a; decide
   simp only [List.mem_cons,not_or]; exact ⟨fun e=>this e.symm,h2⟩
theorem cls_v:zpj 49=true∧zpj 46=true∧zpj 32=false:=by decide
theorem zNp (a b c:Str):Go.Lib.join [a,b,c] []=a++(b++c):=by simp [Go.Lib.join]
theorem dr_0s (s:Str):dr s 0=s:=rfl
def dnP (s:Str):Prop:=(s≠[]∧zjq s=true)∧¬ zmB s
def okD (x:z0h):Prop:=dnP x.From∧dnP x.To∧zvX [44,59] x.To=false
def zxj (l:List z0h):Prop:=∀x∈l,okD x
theorem zNq:zxj []:=fun x h=>by cases h
theorem zNr (x:z0h) (l:List z0h):zxj (x::l)↔okD x∧zxj l:=by simp [zxj]
theorem zEc {G:Prop} (h:G:=by
 (with_reducible repeat' first|intro _|refine And.intro ?_ ?_|refine Wf ?_ ?_|refine Wi ?_ ?_|refine Ws ?_|refine Wc ?_ ?_|refine Wo ?_ ?_|refine Wk ?_|refine We ?_ ?_)
 all_goals (try subst_vars)
 all_goals (try simp only [List.length_cons,List.length_nil])
 all_goals grind [idxA_h,byP,zAd,ns_all, → ns_no,cls_v,zNp,dr_0s,dnP,okD,zNq,zNr,tw_n,dw_n,tw_c,dw_c,fuel,zb5,zcV,zf5,zba,zaU,List.append_assoc,zbk,zaG,Sm,Cw,Swm,UInt8.toNat_lt]):G:=h
end Go.Dm
end
section
namespace Go.Dm
def upt (l s:Str):Str × Str:=(s.takeWhile fun c => !l.contains c,s.dropWhile fun c => !l.contains c)
theorem zJU (l:Str):∀(s:Str) (k:Nat),(zdj s l k = -1∧(upt l s)=(s,[]))∨∃n:Nat,zdj s l k=(k+n:Nat)∧upt l s=(s.take n,s.drop n)
 | [],k => .inl ⟨rfl,rfl⟩
 | c::s,k=>by
  have b:=zJU l s (k+1)
  unfold upt at *
  simp only [zdj,List.takeWhile_cons,List.dropWhile_cons]
  cases hx:l.contains c with
  | true =>
   rw [if_pos rfl];exact .inr ⟨0,rfl,rfl⟩
  | false =>
   rw [if_neg Bool.false_ne_true];simp only [Bool.not_false,if_true];simp only [Prod.mk.injEq] at b ⊢
   rcases b with ⟨h1,h2,a⟩|⟨n,h1,h2,a⟩
   ·exact .inl ⟨h1,by rw [h2],a⟩
   ·exact .inr ⟨n+1,by rw [h1]; congr 1; omega,by rw [h2]; rfl,a⟩
theorem upt_n {l s:Str} (h:zdj s l 0<0):upt l s=(s,[]):=by
 rcases zJU l s 0 with h1|⟨n,h1,_⟩
 ·exact h1.2
 ·omega
theorem upt_i {l s:Str} (h:0≤zdj s l 0):upt l s=(tk s (zdj s l 0),dr s (zdj s l 0)):=by
 rcases zJU l s 0 with h1|⟨n,h1,h2⟩
 ·omega
 ·rw [h1,h2]; unfold tk dr; simp
theorem zFO (c:UInt8):∀(s:Str) (k:Nat),zcr s c k=zdj s [c] k
 | [],_=>rfl
 | x::s,k=>by
  simp only [zcr,zdj,zFO c s (k+1),List.contains_cons,List.contains_nil,Bool.or_false]
def zvy (c:UInt8):Bool:=zlq c||zce c||c==43||c==45||c==46
def zwZ:Str→Bool
 | []=>false
 | c::s=>zlq c&&(c::s).all zvy
theorem zOV:zwZ []=false:=rfl
theorem schm_c {s:Str} {c:UInt8} (h:dr s 0=c::dr s (0+1)):zwZ s=(zlq c&&s.all zvy):=by
 have e:s=c::dr s 1:=h;rw [e]; rfl
def rf1 (s:Str) (v:z0s):z0s:=if s=[] then v else ⟨v.Scheme,v.Auth,v.Path,v.Query,dr s 1,v.HasAuth,v.HasQuery,true⟩
def rf2 (s:Str) (v:z0s):z0s:=if [63].isPrefixOf (upt [63,35] s).2=true then rf1 (upt [35] (dr (upt [63,35] s).2 1)).2 ⟨v.Scheme,v.Auth,(upt [63,35] s).1,(upt [35] (dr (upt [63,35] s).2 1)).1,v.Frag,v.HasAuth,true,v.HasFrag⟩
 else rf1 (upt [63,35] s).2 ⟨v.Scheme,v.Auth,(upt [63,35] s).1,v.Query,v.Frag,v.HasAuth,v.HasQuery,v.HasFrag⟩
def rf3 (s:Str) (v:z0s):z0s:=if [47,47].isPrefixOf s=true then rf2 (upt [47,63,35] (dr s 2)).2 ⟨v.Scheme,(upt [47,63,35] (dr s 2)).1,v.Path,v.Query,v.Frag,true,v.HasQuery,v.HasFrag⟩ else rf2 s v
def rf0:z0s:=⟨[],[],[],[],[],false,false,false⟩
def rf4 (s:Str):z0s:=if 0<zcr s 58 0∧zwZ (tk s (zcr s 58 0))=true then rf3 (dr s (zcr s 58 0+1)) ⟨tk s (zcr s 58 0),[],[],[],[],false,false,false⟩ else rf3 s rf0
def zw0 (r:z0s):Bool:=pqM [91,93] r.Auth && !r.Auth.contains 64&&pqM [47] r.Path&&pqM [47,63] r.Query&&pqM [47,63] r.Frag &&
 (if r.HasAuth=true then r.Path==[]||[47].isPrefixOf r.Path else !([47,47].isPrefixOf r.Path)&&(!(r.Scheme==[]) || !((upt [47] r.Path).1.contains 58)))
def zH5 (s:Str):Bool:=zw0 (rf4 s)
theorem zH6 (c:UInt8):∀(s:Str) (k:Nat),decide (0≤ze4 s [c] k)=s.contains c
 | [],k=>by simp [ze4,zlz]
 | x::s,k=>by
  have b:=zH6 c s (k+1);rw [ze4,List.contains_cons]
  have e:zlz (x::s) [c]=(x==c):=by simp [zlz]
  rw [e]
  by_cases h:x=c
  ·subst h; simp
  ·have h2:(x==c)=false:=by simpa using h
   have a:(c==x)=false:=by simpa using fun e=>h e.symm
   rw [h2,a,Bool.false_or,if_neg Bool.false_ne_true]; exact b
instance (s:Str) (c:UInt8):T (strings_Contains s [c]) (s.length<4294967281) (fun r=>r=s.contains c):=⟨fun h=>⟨_,by rw [strings_Contains,if_pos h],zH6 c s 0⟩⟩
instance (s:Str) (c:UInt8):T (strings_IndexByte s c) True (fun r=>r=zcr s c 0 ∧ -1≤r∧r<s.length∧decide (0≤r)=s.contains c):=⟨fun _=>⟨_,rfl,rfl,by have:=zxu c s 0; omega,by have:=zxu c s 0; omega,idxB c s 0⟩⟩
theorem pre_e (c:UInt8) (s:Str) (x:UInt8) (h:dr s 0=x::dr s (0+1)):[c].isPrefixOf s=(x==c):=by
 have e:s=x::dr s 1:=h;rw [e,Bool.eq_iff_iff,zOj,beq_iff_eq];constructor
 ·rintro ⟨t,h⟩; exact (List.cons.inj h).1
 ·rintro rfl; exact ⟨_,rfl⟩
theorem n37:(37:UInt8)∉([91,93]:Str)∧(37:UInt8)∉([47]:Str)∧(37:UInt8)∉([47,63]:Str):=by decide
def okL (x:z0h):Prop:=x.From≠[]∧zH5 x.From=true∧zH5 x.To=true
def zx0 (l:List z0h):Prop:=∀x∈l,okL x
theorem zOW:zx0 []:=fun x h=>by cases h
theorem zOX (x:z0h) (l:List z0h):zx0 (x::l)↔okL x∧zx0 l:=by simp [zx0]
open Classical in
noncomputable def stC (e:z0g):Int:=if zAd e.By then (if e.Host≠[]∧¬ (zrM e.Host∨zuJ e.Host) then 27 else if e.Scheme≠[]∧e.Scheme≠[104,116,116,112]∧e.Scheme≠[104,116,116,112,115] then 2
 else if zxj e.Domains then (if 64<e.Domains.length then 3 else if zx0 e.Locations then (if 64<e.Locations.length then 3 else 0) else 2) else 27) else 2
theorem zzk {G:Prop} (h:G:=by
 (with_reducible repeat' first|intro _|refine And.intro ?_ ?_|refine Wf ?_ ?_|refine Wi ?_ ?_|refine Ws ?_|refine Wc ?_ ?_|refine Wo ?_ ?_|refine Wk ?_|refine We ?_ ?_)
 all_goals (try subst_vars)
 all_goals (try simp only [List.length_cons,List.length_nil])
 all_goals grind [zOV,schm_c,upt_n,upt_i,rf1,rf2,rf3,rf4,rf0,zw0,pre_e,n37,okL,zOW,zOX,stC,zH5,fuel,zb5,zcV,zf5,zba,zaU,zbk,zaG,Sm,Um,Swm]):G:=h
theorem pqM_p1 (m:Str) (c:UInt8) (t:Str) (hc:c=37) (b:37∉m) (h:t.length≤1):pqM m (c::t)=false:=by
 subst hc
 match t,h with
 | [],_=>exact (pq_1 _ 0).2
 | [a],_=>exact (pq_1 _ a).1
theorem pqM_p2 (m s:Str) (i:Int) (h0:0≤i) (h:dr s i=37::dr s (i+1)) (a:37∉m) (h2:i+2<s.length):pqM m (dr s i)=((sb s (i+1) (i+3)).all zlr&&pqM m (dr s (i+3))):=(pqM_s m h0 h a).1 h2
theorem goU3 {G:Prop} (h:G:=by
 (with_reducible repeat' first|intro _|refine And.intro ?_ ?_|refine Wf ?_ ?_|refine Wi ?_ ?_|refine Ws ?_|refine Wc ?_ ?_|refine Wo ?_ ?_|refine Wk ?_|refine We ?_ ?_)
 all_goals (try subst_vars)
 all_goals (try simp only [List.length_cons,List.length_nil])
 all_goals grind [zNa,pqM_o,pqM_p2,pqM_p1,ztl,n37,zyW,zDi,zxn,sb_s,zyX,zAn,fuel,zb5,zcV,zf5,zba,zaU,zbk,zaG,Sm]):G:=h
end Go.Dm
end
section
namespace Go.Dm
variable {o r:List zZX} {t:Str}
def fokB (n v:Str):Bool:=zhO n&&v.all zEn&&zIT v==v
def guaP (g:z0S):Prop:=(g.Kind=0∧g.Name=[]∧g.Value=[])∨((g.Kind=1∨g.Kind=2)∧zhO g.Name=true∧g.Value=[])∨(g.Kind=3∧fokB g.Name g.Value=true)
def ownN:List Str:=[[104,111,115,116],[118,105,97],[102,111,114,119,97,114,100,101,100],[120,45,102,111,114,119,97,114,100,101,100,45,102,111,114]]
def zDs (n:Str):Bool:=decide (low n∈zIQ)||decide (low n∈ownN)
def zJK (n:Str):Bool:=zhO n && !zDs n
def nmF:List Str→List zZX→List Str
 | a,[]=>a
 | a,p::l=>if p.Kind=2∧p.Text∉a then nmF (a++[p.Text]) l else nmF a l
theorem nmF_n (a:List Str):nmF a []=a:=rfl
theorem nmF_c (a:List Str) (p:zZX) (l:List zZX):nmF a (p::l)=if p.Kind=2∧p.Text∉a then nmF (a++[p.Text]) l else nmF a l:=rfl
def smB (b:UInt8):Bool:=decide (97≤b)&&decide (b≤122)
def plB (b:UInt8):Bool:=zEn b && !(b==36)
def adT (o:List zZX) (x:Str):List zZX:=match o.getLast? with
 | some p=>if p.Kind=1 then o.dropLast++[⟨1,p.Text++x⟩] else o++[⟨1,x⟩]
 | none=>o++[⟨1,x⟩]
inductive PR:List zZX→Str→List zZX→Prop
 | done (o:List zZX):PR o [] o
 | two {o:List zZX} {t:Str} {r:List zZX} (h:PR (adT o [36]) t r):PR o (36::36::t) r
 | fld {o:List zZX} {a t:Str} {r:List zZX} (ha:zhO a=true) (h:PR (o++[⟨3,a⟩]) t r):PR o (36::123::64::(a++125::t)) r
 | var {o:List zZX} {a t:Str} {r:List zZX} (ha:a.all smB=true) (hn:a≠[]) (h:PR (o++[⟨2,a⟩]) t r):PR o (36::123::(a++125::t)) r
 | one {o:List zZX} {c:UInt8} {t:Str} {r:List zZX} (hc:plB c=true) (h:PR (adT o [c]) t r):PR o (c::t) r
theorem zJL:plB 36=false:=by decide
theorem PR_e:PR o [] r↔r=o:=by
 constructor
 ·intro h;generalize e:([]:Str)=s at h
  cases h with
  | done=>rfl
  | two h=>cases e
  | fld a h=>cases e
  | var a hn h=>cases e
  | one hc h=>cases e
 ·rintro rfl; exact .done _
theorem PR_2:PR o (36::36::t) r↔PR (adT o [36]) t r:=by
 constructor
 ·intro h;generalize e:(36::36::t:Str)=s at h
  cases h with
  | done=>cases e
  | two h=>cases e; exact h
  | fld a h=>cases e
  | var a hn h=>cases e
  | one hc h=>cases e; rw [zJL] at hc; cases hc
 ·exact .two
theorem adT_a (o:List zZX) (a b:Str):adT (adT o a) b=adT o (a++b):=by
 have key:∀(o:List zZX) (x:Str),adT (o++[⟨1,x⟩]) b=o++[⟨1,x++b⟩]:=fun o x=>by simp [adT]
 rcases List.eq_nil_or_concat o with rfl|⟨o,p,rfl⟩
 ·exact key [] a
 ·simp only [List.concat_eq_append]
  by_cases hp:p.Kind=1
  ·have e:∀x,adT (o++[p]) x=o++[⟨1,p.Text++x⟩]:=fun x=>by simp [adT,hp]
   rw [e,e,key,List.append_assoc]
  ·have e:∀x,adT (o++[p]) x=(o++[p])++[⟨1,x⟩]:=fun x=>by simp [adT,hp]
   rw [e,e,key]
theorem PR_1 {c:UInt8} (hc:plB c=true):PR o (c::t) r↔PR (adT o [c]) t r:=by
 have hn:c≠36:=by rintro rfl; rw [zJL] at hc; cases hc
 constructor
 ·intro h;generalize e:(c::t:Str)=s at h
  cases h with
  | done=>cases e
  | two h=>exact absurd (List.cons.inj e).1 hn
  | fld a h=>exact absurd (List.cons.inj e).1 hn
  | var a b h=>exact absurd (List.cons.inj e).1 hn
  | one hc h=>cases e; exact h
 ·exact .one hc
theorem PR_r {r:List zZX} {t:Str}:∀{a:Str} {o:List zZX},a≠[]→a.all plB=true→(PR o (a++t) r↔PR (adT o a) t r)
 | [],_,h,_=>absurd rfl h
 | [c],o,_,h=>PR_1 (by simpa using h)
 | c::d::a,o,_,h=>by
  rw [List.all_cons,Bool.and_eq_true] at h;have:=PR_r (r:=r) (t:=t) (a:=d::a) (o:=adT o [c]) (by simp) h.2;rw [List.cons_append,PR_1 h.1,this,adT_a]; rfl
theorem PR_x {c:UInt8} (hc:plB c=false) (h1:∀u,c::t≠36::36::u) (h2:∀u,c::t≠36::123::u):¬ PR o (c::t) r:=fun h=>by
 generalize e:(c::t:Str)=s at h
 cases h with
 | done=>cases e
 | two h=>exact h1 _ e
 | fld a h=>exact h2 _ e
 | var a hn h=>exact h2 _ e
 | one hc h=>cases e; simp_all
theorem tw_u {g:UInt8→Bool} {a:Str} (h:a.all g=true) {c:UInt8} (hc:g c=false) (b:Str):(a++c::b).takeWhile g=a∧(a++c::b).dropWhile g=c::b:=by
 induction a with
 | nil=>simp [hc]
 | cons x a d =>
  rw [List.all_cons,Bool.and_eq_true] at h;simp [h.1,d h.2]
theorem zBh (g:UInt8→Bool) (s:Str):s.takeWhile g++s.dropWhile g=s:=List.takeWhile_append_dropWhile
theorem zDt (g:UInt8→Bool) (s:Str):(s.takeWhile g).all g=true:=by
 induction s with
 | nil=>rfl
 | cons x s a =>
  rw [List.takeWhile_cons]
  split
  ·rw [List.all_cons,a]; simp_all
  ·rfl
theorem zFH:zpj 125=false∧smB 125=false∧smB 64=false:=by decide
def PRn (o:List zZX) (t:Str) (r:List zZX):Prop:=PR o (36::123::t) r
theorem zOs:PRn o (64::t) r↔(zhO (t.takeWhile zpj)=true∧∃v,t.dropWhile zpj=125::v∧PR (o++[⟨3,t.takeWhile zpj⟩]) v r):=by
 constructor
 ·intro h;unfold PRn at h;generalize e:(36::123::64::t:Str)=s at h
  cases h with
  | done=>cases e
  | two h=>cases e
  | fld b h =>
   cases e
   rename_i a u
   have:=tw_u (g:=zpj) (a:=a) (by unfold zhO at b; simp at b; simpa using b.1) zFH.1 u;rw [this.1,this.2]; exact ⟨b,_,rfl,h⟩
  | var b hn h =>
   rename_i a u
   cases a with
   | nil=>exact absurd rfl hn
   | cons x a =>
    simp at e;rw [List.all_cons, ← e.1,zFH.2.2] at b; cases b
  | one hc h=>cases e; rw [zJL] at hc; cases hc
 ·rintro ⟨h1,v,h2,c⟩;have:=zBh zpj t;rw [h2] at this;unfold PRn;rw [← this]; exact .fld h1 c
theorem zKI (b:∀u,t≠64::u):PRn o t r↔(t.takeWhile smB≠[]∧∃v,t.dropWhile smB=125::v∧PR (o++[⟨2,t.takeWhile smB⟩]) v r):=by
 constructor
 ·intro h;unfold PRn at h;generalize e:(36::123::t:Str)=s at h
  cases h with
  | done=>cases e
  | two h=>cases e
  | fld c h=>simp at e; exact absurd e (b _)
  | var c hn h =>
   rename_i a u
   simp at e; subst e;have:=tw_u (g:=smB) c zFH.2.1 u;rw [this.1,this.2]; exact ⟨hn,_,rfl,h⟩
  | one hc h=>cases e; rw [zJL] at hc; cases hc
 ·rintro ⟨h1,v,h2,d⟩;have:=zBh smB t;rw [h2] at this;unfold PRn;rw [← this]; exact .var (zDt _ _) h1 d
def dbl:Str→Str
 | []=>[]
 | c::s=>if c=36 then 36::36::dbl s else c::dbl s
def prP (p:zZX):Str:=if p.Kind=1 then dbl p.Text else if p.Kind=2 then [36,123]++(p.Text++[125]) else if p.Kind=3 then [36,123,64]++(p.Text++[125]) else []
def prA:List zZX→Str
 | []=>[]
 | p::l=>prP p++prA l
theorem prA_n:prA []=[]:=rfl
theorem prA_c (p:zZX) (l:List zZX):prA (p::l)=prP p++prA l:=rfl
def zBi (l:List zZX) (s:Str):Prop:=PR [] s l∧l.length≤32
theorem zHP {s:Str} (h:(36:UInt8)∉s):dbl s=s:=by
 induction s with
 | nil=>rfl
 | cons c s a =>
  simp only [List.mem_cons,not_or] at h;rw [dbl,if_neg fun e=>h.1 e.symm,a h.2]
theorem zQy (s t:Str):dbl (s++t)=dbl s++dbl t:=by
 induction s with
 | nil=>rfl
 | cons c s a=>rw [List.cons_append,dbl,dbl,a]; split<;>rfl
theorem jn_n:Go.Lib.join [] []=[]:=rfl
theorem jn_a (l m:List Str):Go.Lib.join (l++m) []=Go.Lib.join l []++Go.Lib.join m []:=by
 have key:∀l:List Str,Go.Lib.join l []=l.flatten:=by
  intro l
  induction l with
  | nil=>rfl
  | cons x l a =>
   cases l with
   | nil=>simp [Go.Lib.join]
   | cons y l=>simp [Go.Lib.join] at a ⊢; exact a
 rw [key,key,key,List.flatten_append]
theorem jn_1 (a:Str):Go.Lib.join [a] []=a:=by simp [Go.Lib.join]
theorem dbl_k:∀(n:Nat) (s:Str),s.length≤n→∀k,Go.Lib.count s [36]≤k→Go.Lib.replaceK [36] [36,36] k s=dbl s
 | 0,s,h,k,_=>by
  have:s=[]:=List.eq_nil_of_length_eq_zero (by omega);subst this
  cases k with
  | zero=>rfl
  | succ k=>simp [Go.Lib.replaceK,Go.Lib.index,dbl]
 | n+1,s,h,k,e=>by
  by_cases c:(36:UInt8)∈s
  ·obtain ⟨a,b,rfl,d⟩:=List.eq_append_cons_of_mem c;have hi:Go.Lib.index (a++36::b) [36]=(a.length:Nat):=zKP 36 [] b a d
   have hd:(a++36::b).drop (a.length+([36]:Str).length)=b:=by
    rw [show a++36::b=(a++[36])++b by simp,show a.length+([36]:Str).length=(a++[(36:UInt8)]).length by simp,List.drop_left]
   have hc:=Go.Lib.count_hit (sub:=[36]) (by simp) hi;rw [hd] at hc;obtain ⟨k,rfl⟩:∃j,k=j+1:=⟨k-1,by omega⟩;rw [Go.Lib.replaceK_hit _ _ _ _ _ hi,hd,List.take_left,dbl_k n b (by simp at h; omega) k (by omega),zQy,zHP d,dbl,if_pos rfl];simp
  ·have hi:Go.Lib.index s [36] = -1:=zKQ 36 [] s c;rw [zHP c]
   cases k with
   | zero=>rfl
   | succ k=>rw [Go.Lib.replaceK,if_pos (by rw [hi]; rfl)]
theorem dbl_l (s:Str):(dbl s).length≤2*s.length:=by
 induction s with
 | nil=>simp [dbl]
 | cons c s a=>rw [dbl]; split<;>simp<;>omega
instance (s:Str):T (strings_ReplaceAll s [36] [36,36]) (s.length≤1000000000) (fun r=>r=dbl s∧r.length≤2*s.length):=⟨fun h=>by
 have c:Go.Lib.countB ⟨s.toArray⟩ ⟨([36]:Str).toArray⟩≤s.length+1:=by
  have:=Go.Lib.count_le s [36];unfold Go.Lib.countB;simpa using this
 have e:Go.Lib.replaceAll s [36] [36,36]=dbl s:=by
  unfold Go.Lib.replaceAll Go.Lib.replace;rw [if_neg (by decide)];exact dbl_k s.length s (Nat.le_refl _) _ (by unfold Go.Lib.replaceNum; rw [if_pos (.inl (by omega))]; exact Nat.le_refl _)
 refine ⟨_,by rw [strings_ReplaceAll,if_pos ⟨by omega,by simp,by simp; omega⟩],?_⟩
 rw [e]; exact ⟨rfl,dbl_l s⟩⟩
instance {α:Type} (l:List α):T (Go.Rk.nnl l) (1≤l.length) (fun _=>True):=⟨fun h=>by
 cases l with
 | nil=>simp at h
 | cons x l=>exact ⟨_,rfl,trivial⟩⟩
def zC2 (s:Int):Option (List Str):=if s=1 then some [[99,108,105,101,110,116],[104,111,115,116],[109,101,116,104,111,100],[112,97,116,104],[115,99,104,101,109,101]]
 else if s=2 then some [[99,108,105,101,110,116],[104,111,115,116],[115,99,104,101,109,101],[115,116,97,116,117,115]] else none
theorem kno_l {s:Int} {l:List Str} (h:zC2 s=some l):1≤l.length∧l.length≤10:=by
 unfold zC2 at h
 split at h
 ·cases h; simp
 ·split at h
  ·cases h; simp
  ·cases h
instance (a:Int):T (zn4 a) True (fun r=>r=zC2 a):=⟨fun _=>by
 unfold zn4 zC2
 by_cases h:a=1
 ·subst h; exact ⟨_,rfl,rfl⟩
 ·by_cases h2:a=2
  ·subst h2; exact ⟨_,rfl,rfl⟩
  ·exact ⟨none,by rw [if_neg (by simpa using h),if_neg (by simpa using h2)],by rw [if_neg h,if_neg h2]⟩⟩
instance:T ztK True (fun r=>r=zIQ∧r.length=8):=⟨fun _=>⟨_,rfl,rfl,rfl⟩⟩
def zFI (k:List Str):List Str→Prop
 | []=>True
 | s::l=>s∈k∧zFI k l
theorem zOt (k:List Str):zFI k []:=trivial
theorem zOu (k:List Str) (s:Str) (l:List Str):zFI k (s::l)↔s∈k∧zFI k l:=Iff.rfl
def parP (s:Int) (l:List zZX):Prop:=zFI ((zC2 s).getD []) (nmF [] l)∧zBi l (prA l)
def actP (r:zZ1):Prop:=((r.Kind=1∨r.Kind=2)∧r.To=[]∧parP r.Side r.Parts)∨(r.Kind=3∧r.To=[]∧r.Parts=[])∨(r.Kind=4∧zJK r.To=true∧r.Parts=[])
def zHQ (r:zZ1):Prop:=zC2 r.Side≠none∧guaP r.Guard∧zJK r.Name=true∧actP r
def zod (l:List zZ1):Prop:=∀r∈l,zHQ r
theorem zKJ:zod []:=fun x h=>by cases h
theorem zKK (x:zZ1) (l:List zZ1):zod (x::l)↔zHQ x∧zod l:=by simp [zod]
theorem adT_1 {o:List zZX} {p:zZX} {i:Int} (h:dr o i=p::dr o (i+1)) (hi:i=(o.length:Int)-1) (h0:0<(o.length:Int)) (x:Str):adT o x=if p.Kind=1 then o.set i.toNat ⟨1,p.Text++x⟩ else o++[⟨1,x⟩]:=by
 rcases List.eq_nil_or_concat o with rfl|⟨q,y,rfl⟩
 ·simp at h0
 ·simp only [List.concat_eq_append] at *
  have e:i.toNat=q.length:=by rw [hi]; simp
  have a:y=p:=by
   unfold dr at h;rw [e,List.drop_left] at h;exact (List.cons.inj h).1
  subst a;unfold adT;rw [List.getLast?_concat,e];simp
theorem adT_0 {o:List zZX} (h:o.length=0) (x:Str):adT o x=o++[⟨1,x⟩]:=by
 have:o=[]:=List.eq_nil_of_length_eq_zero h;subst this; rfl
end Go.Dm
end
section
namespace Go.Dm
variable {G:Prop} {i:Int}
theorem t_1 (s:Str) (c:UInt8):(∀t,s≠c::t)∨∃t,s=c::t:=by
 cases s with
 | nil=>exact .inl fun t h=>by cases h
 | cons x s =>
  by_cases h:x=c
  ·subst h; exact .inr ⟨_,rfl⟩
  ·exact .inl fun t e=>h (List.cons.inj e).1
theorem PR_z {o r:List zZX} {s:Str} (h:s≠[]) (b:([36,36]:Str).isPrefixOf s=false) (d:([36,123]:Str).isPrefixOf s=false):PR o s r↔(s.takeWhile plB≠[]∧PR (adT o (s.takeWhile plB)) (s.dropWhile plB) r):=by
 have h1:∀u,s≠36::36::u:=by rintro u rfl; simp [List.isPrefixOf] at b
 have h2:∀u,s≠36::123::u:=by rintro u rfl; simp [List.isPrefixOf] at d
 obtain ⟨c,t,rfl⟩:∃c t,s=c::t:=by
  cases s with
  | nil=>exact absurd rfl h
  | cons c t=>exact ⟨c,t,rfl⟩
 cases hc:plB c with
 | false =>
  constructor
  ·intro hp; exact absurd hp (PR_x hc h1 h2)
  ·rintro ⟨hn,_⟩; rw [List.takeWhile_cons,hc] at hn; exact absurd rfl hn
 | true =>
  have hn:(c::t).takeWhile plB≠[]:=by rw [List.takeWhile_cons,hc]; simp
  have:=PR_r (r:=r) (o:=o) (a:=(c::t).takeWhile plB) (t:=(c::t).dropWhile plB) hn (zDt _ _);rw [zBh] at this;rw [this]; exact ⟨fun h=>⟨hn,h⟩,fun h=>h.2⟩
theorem adT_2 {o:List zZX} {p:zZX} (h:lAt o i=some p) (x:Str) (hi:i=(o.length:Int)-1) (a:p.Kind=1):adT o x=o.set i.toNat ⟨1,p.Text++x⟩:=by
 unfold lAt at h
 split at h
 ·rename_i h0
  rw [adT_1 (zGN h0 h) hi (by omega),if_pos a]
 ·cases h
theorem adT_3 {o:List zZX} {p:zZX} (h:lAt o i=some p) (x:Str) (hi:i=(o.length:Int)-1) (a:¬ p.Kind=1):adT o x=o++[⟨1,x⟩]:=by
 unfold lAt at h
 split at h
 ·rename_i h0
  rw [adT_1 (zGN h0 h) hi (by omega),if_neg a]
 ·cases h
theorem pre_dr {s t:Str} (h:t <+: dr s i) (h0:0≤i):dr s i=t++dr s (i+(t.length:Int)):=by
 obtain ⟨u,h⟩:=h;rw [← h]
 congr 1
 exact (zIo h0 h.symm).symm
theorem PRn_d {o r:List zZX} {t:Str}:PR o (36::123::t) r↔PRn o t r:=Iff.rfl
theorem tok_tw (s:Str):zhO (s.takeWhile zpj) = !(s.takeWhile zpj==[]):=by unfold zhO; rw [zDt,Bool.true_and]
theorem zJJ (h:G:=by
 (with_reducible repeat' first|intro _|refine And.intro ?_ ?_|refine Wf ?_ ?_|refine Wi ?_ ?_|refine Ws ?_|refine Wc ?_ ?_|refine Wo ?_ ?_|refine Wk ?_|refine We ?_ ?_)
 all_goals (try simp only [List.length_cons,List.length_nil])
 all_goals grind [fokB,guaP,zDs,zJK,ownN,nmF_n,nmF_c,Gm,fuel,zb5,zcV,zf5,zba,zaU,zbk,zaG,Sm]):G:=h
theorem goR2 (h:G:=by
 (with_reducible repeat' first|intro _|refine And.intro ?_ ?_|refine Wf ?_ ?_|refine Wi ?_ ?_|refine Ws ?_|refine Wc ?_ ?_|refine Wo ?_ ?_|refine Wk ?_|refine We ?_ ?_)
 all_goals (try simp only [List.length_cons,List.length_nil])
 all_goals grind [Rt,zFH,tok_tw,adT_2,adT_3,adT_0,zOs,zKI,PR_2,PR_e,PR_z,PRn_d,zBi,fuel,zb5,zcV,zf5,zba,zaU,Cw]):G:=h
theorem zHO (h:G:=by
 (with_reducible repeat' first|intro _|refine And.intro ?_ ?_|refine Wf ?_ ?_|refine Wi ?_ ?_|refine Ws ?_|refine Wc ?_ ?_|refine Wo ?_ ?_|refine Wk ?_|refine We ?_ ?_)
 all_goals (try subst_vars)
 all_goals (try simp only [List.length_cons,List.length_nil])
 all_goals grind [zNp,prA_n,prA_c,prP,zBi,jn_n,jn_a,jn_1,zOt,zOu, → kno_l,parP,actP,zHQ,zKJ,zKK,Rm,Tp,Rl,Gm,List.append_assoc,zbk,zaG,zfC,fuel,zb5,zcV,zf5,zba,zaU]):G:=h
theorem goR5 (h:G:=by
 (with_reducible repeat' first|intro _|refine And.intro ?_ ?_|refine Wf ?_ ?_|refine Wi ?_ ?_|refine Ws ?_|refine Wc ?_ ?_|refine Wo ?_ ?_|refine Wk ?_|refine We ?_ ?_)
 all_goals (try subst_vars)
 all_goals (try simp only [List.length_cons,List.length_nil])
 all_goals grind [→ pre_dr,zIo,fuel,zb5,zf5,zba,zaU,Cw]):G:=h
end Go.Dm
end
section
namespace Go.Dm
theorem zit {l b e:Str} (d:∀x∈b,l.contains x=false) (h:e=[]∨∃c t,e=c::t∧l.contains c=true):upt l (b++e)=(b,e):=by
 unfold upt
 induction b with
 | nil =>
  rcases h with rfl|⟨c,t,rfl,hc⟩
  ·rfl
  ·rw [List.nil_append,List.takeWhile_cons,List.dropWhile_cons,hc]; rfl
 | cons x b a =>
  have f:=d x List.mem_cons_self;have a:=a fun y g=>d y (List.mem_cons_of_mem _ g);simp only [Prod.mk.injEq] at a ⊢;rw [List.cons_append,List.takeWhile_cons,List.dropWhile_cons,f];exact ⟨by simp only [Bool.not_false,if_true,a.1],by simp only [Bool.not_false,if_true,a.2]⟩
theorem zqp (l s:Str):∃b e,s=b++e∧upt l s=(b,e)∧(∀x∈b,l.contains x=false)∧(e=[]∨∃c t,e=c::t∧l.contains c=true):=by
 induction s with
 | nil=>exact ⟨[],[],rfl,rfl,fun x h=>(by cases h),.inl rfl⟩
 | cons c s g =>
  cases hc:l.contains c with
  | true =>
   exact ⟨[],c::s,rfl,zit (b:=[]) (fun x h=>by cases h) (.inr ⟨_,_,rfl,hc⟩),fun x h=>(by cases h),.inr ⟨_,_,rfl,hc⟩⟩
  | false =>
   obtain ⟨b,e,rfl,h1,h2,d⟩:=g
   have f:∀x∈c::b,l.contains x=false:=fun x a=>by
    rcases List.mem_cons.1 a with rfl|a
    ·exact hc
    ·exact h2 x a
   exact ⟨c::b,e,rfl,zit f d,f,d⟩
def rrT (s:Str):Str:=match s with|[]=>[]|_::t=>t
def rrA (a b q f:Str) (c d:Bool):z0s:=if [47,47].isPrefixOf b=true then ⟨a,(upt [47] (dr b 2)).1,(upt [47] (dr b 2)).2,q,f,true,c,d⟩ else ⟨a,[],b,q,f,false,c,d⟩
def rrB (b q f:Str) (a c:Bool):z0s:=if [58].isPrefixOf (upt [58,47] b).2=true∧zwZ (upt [58,47] b).1=true then rrA (upt [58,47] b).1 (rrT (upt [58,47] b).2) q f a c else rrA [] b q f a c
def rr (s:Str):z0s:=rrB (upt [63] (upt [35] s).1).1 (rrT (upt [63] (upt [35] s).1).2) (rrT (upt [35] s).2) (!((upt [63] (upt [35] s).1).2==[])) (!((upt [35] s).2==[]))
theorem zJ9 {a g p:Str} {h:Bool} {b q f:Str} (i:∀x∈b,([63,35]:Str).contains x=false) (j:∀x∈q,([35]:Str).contains x=false) :
  rf2 b ⟨a,g,p,[],[],h,false,false⟩=⟨a,g,b,[],[],h,false,false⟩ ∧
  rf2 (b++35::f) ⟨a,g,p,[],[],h,false,false⟩=⟨a,g,b,[],f,h,false,true⟩ ∧
  rf2 (b++63::q) ⟨a,g,p,[],[],h,false,false⟩=⟨a,g,b,q,[],h,true,false⟩ ∧
  rf2 (b++63::(q++35::f)) ⟨a,g,p,[],[],h,false,false⟩=⟨a,g,b,q,f,h,true,true⟩:=by
 have m:upt [63,35] b=(b,[]):=by have:=zit (l:=[63,35]) (e:=[]) i (.inl rfl); rwa [List.append_nil] at this
 have n:∀t,upt [63,35] (b++35::t)=(b,35::t):=fun t=>zit i (.inr ⟨_,_,rfl,rfl⟩);have k:∀t,upt [63,35] (b++63::t)=(b,63::t):=fun t=>zit i (.inr ⟨_,_,rfl,rfl⟩)
 have o:upt [35] q=(q,[]):=by have:=zit (l:=[35]) (e:=[]) j (.inl rfl); rwa [List.append_nil] at this
 have r:upt [35] (q++35::f)=(q,35::f):=zit j (.inr ⟨_,_,rfl,rfl⟩);have d:∀(c:UInt8) (t:Str),dr (c::t) 1=t:=fun _ _=>rfl;refine ⟨?_,?_,?_,?_⟩
 ·simp only [rf2,m]; rfl
 ·simp only [rf2,n]; rfl
 ·simp only [rf2,k,d,o]; rfl
 ·simp only [rf2,k,d,r]; rfl
theorem zKa {d b q f:Str} (j:∀x∈b,([63,35]:Str).contains x=false) (r:∀x∈q,([35]:Str).contains x=false) :
  rf3 b ⟨d,[],[],[],[],false,false,false⟩=rrA d b [] [] false false ∧
  rf3 (b++35::f) ⟨d,[],[],[],[],false,false,false⟩=rrA d b [] f false true ∧
  rf3 (b++63::q) ⟨d,[],[],[],[],false,false,false⟩=rrA d b q [] true false ∧
  rf3 (b++63::(q++35::f)) ⟨d,[],[],[],[],false,false,false⟩=rrA d b q f true true:=by
 have key:∀e:Str,(e=[]∨∃c t,e=c::t∧([63,35]:Str).contains c=true)→([47,47].isPrefixOf (b++e)=[47,47].isPrefixOf b) ∧
   ([47,47].isPrefixOf b=true→upt [47,63,35] (dr (b++e) 2)=((upt [47] (dr b 2)).1,(upt [47] (dr b 2)).2++e)∧∀x∈(upt [47] (dr b 2)).2,([63,35]:Str).contains x=false):=by
  intro e o
  have hc:∀c t,e=c::t→(47==c)=false:=by
   rintro c t rfl
   rcases o with o|⟨E,t',h,hc⟩
   ·cases o
   ·cases h
    by_cases n:(47:UInt8)=c
    ·subst n; revert hc; decide
    ·simpa using n
  match b,j with
  | [],_ =>
   refine ⟨?_,fun h=>by simp [List.isPrefixOf] at h⟩
   cases e with
   | nil=>rfl
   | cons c t=>simp [List.isPrefixOf,hc c t rfl]
  | [x],_ =>
   refine ⟨?_,fun h=>by simp [List.isPrefixOf] at h⟩
   cases e with
   | nil=>rfl
   | cons c t=>simp [List.isPrefixOf,hc c t rfl]
  | x::y::w,j =>
   refine ⟨by simp [List.isPrefixOf],fun _=>?_⟩;have A:∀z∈w,([63,35]:Str).contains z=false:=fun z l=>j z (List.mem_cons_of_mem _ (List.mem_cons_of_mem _ l));show upt [47,63,35] (w++e)=((upt [47] w).1,(upt [47] w).2++e)∧∀z∈(upt [47] w).2,_;obtain ⟨m,k,rfl,h1,h2,C⟩:=zqp [47] w;rw [h1];refine ⟨?_,fun z l=>A z (List.mem_append_right _ l)⟩
   have D:∀z∈m,([47,63,35]:Str).contains z=false:=fun z l=>by
    have a:=h2 z l;have b:=A z (List.mem_append_left _ l);simp only [List.contains_cons,List.contains_nil,Bool.or_false,Bool.or_eq_false_iff] at a b ⊢;exact ⟨a,b.1,b.2⟩
   rw [List.append_assoc];refine zit D ?_
   rcases C with rfl|⟨c,t,rfl,hd⟩
   ·rcases o with rfl|⟨c,t,rfl,hd⟩
    ·exact .inl rfl
    ·refine .inr ⟨_,_,rfl,?_⟩;simp only [List.contains_cons,List.contains_nil,Bool.or_false] at hd ⊢;rw [hd,Bool.or_true]
   ·refine .inr ⟨_,_,rfl,?_⟩;simp only [List.contains_cons,List.contains_nil,Bool.or_false] at hd ⊢;rw [hd,Bool.true_or]
 have step:∀(e:Str) (B:e=[]∨∃c t,e=c::t∧([63,35]:Str).contains c=true) (R:Str→Str→Bool→z0s),
   (∀(g p b:Str) (i:Bool),(∀x∈b,([63,35]:Str).contains x=false)→rf2 (b++e) ⟨d,g,p,[],[],i,false,false⟩=R g b i) →
   rf3 (b++e) ⟨d,[],[],[],[],false,false,false⟩=if [47,47].isPrefixOf b=true then R (upt [47] (dr b 2)).1 (upt [47] (dr b 2)).2 true else R [] b false:=by
  intro e B R v;have u:=key e B;unfold rf3;rw [u.1]
  by_cases h:[47,47].isPrefixOf b=true
  ·rw [if_pos h,if_pos h,(u.2 h).1];exact v _ _ _ _ (u.2 h).2
  ·rw [if_neg h,if_neg h];exact v _ _ _ _ j
 refine ⟨?_,?_,?_,?_⟩
 ·have:=step [] (.inl rfl) (fun g b i=>⟨d,g,b,[],[],i,false,false⟩) (fun g p b i j=>(congrArg (fun s=>rf2 s ⟨d,g,p,[],[],i,false,false⟩) (List.append_nil b)).trans (zJ9 (q:=q) (f:=[]) j r).1);rw [List.append_nil] at this; exact this
 ·exact step (35::f) (.inr ⟨_,_,rfl,rfl⟩) (fun g b i=>⟨d,g,b,[],f,i,false,true⟩) (fun g p b i j=>(zJ9 j r).2.1)
 ·exact step (63::q) (.inr ⟨_,_,rfl,rfl⟩) (fun g b i=>⟨d,g,b,q,[],i,true,false⟩) (fun g p b i j=>(zJ9 (f:=[]) j r).2.2.1)
 ·exact step (63::(q++35::f)) (.inr ⟨_,_,rfl,rfl⟩) (fun g b i=>⟨d,g,b,q,f,i,true,true⟩) (fun g p b i j=>(zJ9 j r).2.2.2)
theorem zMd {A:Str} (h:zwZ A=true):A≠[]∧∀x∈A,x≠58∧x≠47∧x≠63∧x≠35:=by
 have k:zvy 58=false∧zvy 47=false∧zvy 63=false∧zvy 35=false:=by decide
 cases A with
 | nil=>cases h
 | cons c A =>
  refine ⟨by simp,fun x a=>?_⟩
  have:(c::A).all zvy=true:=by unfold zwZ at h; rw [Bool.and_eq_true] at h; exact h.2
  have b:=List.all_eq_true.1 this x a;refine ⟨?_,?_,?_,?_⟩<;>(rintro rfl; simp_all)
theorem idx58 (T:Str):∀(A:Str) (k:Nat),(∀x∈A,x≠58)→zcr (A++58::T) 58 k=((k+A.length:Nat):Int)
 | [],k,_=>by simp [zcr]
 | c::A,k,h=>by
  have h1:=h c List.mem_cons_self
  have h2:(c==58)=false:=by simpa using h1
  have b:=idx58 T A (k+1) fun x a=>h x (List.mem_cons_of_mem _ a);rw [List.cons_append,zcr];simp only [h2,List.length_cons];rw [if_neg (by simp),b]
  congr 1; omega
theorem rf4_y {A T:Str} (h:zwZ A=true):rf4 (A++58::T)=rf3 T ⟨A,[],[],[],[],false,false,false⟩:=by
 have d:=zMd h;have hi:=idx58 T A 0 fun x c=>(d.2 x c).1;rw [Nat.zero_add] at hi
 have e:tk (A++58::T) ((A.length:Nat):Int)=A:=by unfold tk; simp
 have hd:dr (A++58::T) (((A.length:Nat):Int)+1)=T:=by
  unfold dr;rw [show (((A.length:Nat):Int)+1).toNat=(A++[(58:UInt8)]).length by simp,show A++58::T=(A++[58])++T by simp,List.drop_left]
 have h0:0<A.length:=by
  cases A with
  | nil=>exact absurd rfl d.1
  | cons a b=>simp
 unfold rf4;rw [hi,e,hd,if_pos ⟨by omega,h⟩]
theorem rf4_n {s:Str} (h:∀A T,s=A++58::T→zwZ A=false):rf4 s=rf3 s rf0:=by
 unfold rf4;rw [if_neg];rintro ⟨h0,h1⟩;obtain ⟨b,e,rfl,h2,_,a⟩:=zqp [58] s
 have hi:0≤zdj (b++e) [58] 0:=by rw [← zFO]; omega
 have f:=upt_i hi;have j:=zAs [58] (b++e) 0;rw [h2, ← zFO] at f;rw [← zFO] at j;have i:=(Prod.mk.inj f).1;have g:=(Prod.mk.inj f).2
 have d:e≠[]:=by
  intro h;rw [g] at h;have:=congrArg List.length h;unfold dr at this;rw [List.length_drop,List.length_nil] at this;omega
 rcases a with a|⟨c,t,rfl,hc⟩
 ·exact absurd a d
 ·have hc:c=58:=by simpa using hc
  subst hc;have:=h b t rfl;rw [← i,this] at h1; cases h1
theorem rr_eq (s:Str):rr s=rf4 s:=by
 obtain ⟨w,F,rfl,I,z,o⟩:=zqp [35] s;obtain ⟨v,Q,rfl,H,G,E⟩:=zqp [63] w
 have l:∀x∈v,([63,35]:Str).contains x=false:=fun x g=>by
  have a:=G x g;have b:=z x (List.mem_append_left _ g);simp only [List.contains_cons,List.contains_nil,Bool.or_false,Bool.or_eq_false_iff] at a b ⊢;exact ⟨a,b⟩
 have p:∀(n b:Str),(∀x∈b,([63,35]:Str).contains x=false)→rf3 (b++(Q++F)) ⟨n,[],[],[],[],false,false,false⟩=rrA n b (rrT Q) (rrT F) (!(Q==[])) (!(F==[])):=by
  intro n b i
  rcases E with rfl|⟨c,q,rfl,hc⟩
  ·rcases o with rfl|⟨d,f,rfl,hd⟩
   ·rw [List.append_nil,List.append_nil]; exact (zKa (q:=[]) (f:=[]) i (fun x h=>by cases h)).1
   ·have hd:d=35:=by simpa using hd
    subst hd;exact (zKa (q:=[]) i (fun x h=>by cases h)).2.1
  ·have hc:c=63:=by simpa using hc
   subst hc;have r:∀x∈q,([35]:Str).contains x=false:=fun x g=>z x (List.mem_append_right _ (List.mem_cons_of_mem _ g))
   rcases o with rfl|⟨d,f,rfl,hd⟩
   ·rw [List.append_nil]; exact (zKa (f:=[]) i r).2.2.1
   ·have hd:d=35:=by simpa using hd
    subst hd;exact (zKa i r).2.2.2
 unfold rr;rw [I];simp only;rw [H];simp only;unfold rrB;obtain ⟨a,e,rfl,D,M,K⟩:=zqp [58,47] v;rw [D];simp only
 by_cases c:[58].isPrefixOf e=true∧zwZ a=true
 ·rw [if_pos c];obtain ⟨t,rfl⟩:=(zOj 58 e).1 c.1;rw [show a++58::t++Q++F=a++58::(t++(Q++F)) by simp,rf4_y c.2];exact (p a t fun x g=>l x (by simp [g])).symm
 ·rw [if_neg c,List.append_assoc,rf4_n]
  ·exact (p [] (a++e) l).symm
  ·intro A T m
   cases hs:zwZ A with
   | false=>rfl
   | true =>
    exfalso
    have g:=zMd hs;refine c ?_
    have k:A.length<(a++e).length:=by
     rcases Nat.lt_or_ge A.length (a++e).length with h|h
     ·exact h
     ·exfalso
      obtain ⟨B,rfl⟩:∃B,A=(a++e)++B:=by
       have hp:(a++e) <+: A:=by
        have h1:(a++e) <+: (a++e)++(Q++F):=List.prefix_append _ _
        have h2:A <+: (a++e)++(Q++F):=by rw [m]; exact List.prefix_append _ _
        exact List.prefix_of_prefix_length_le h1 h2 h
       obtain ⟨B,h⟩:=hp; exact ⟨B,h.symm⟩
      simp only [List.append_assoc] at m;have u:=List.append_cancel_left (List.append_cancel_left m);have i:∀x∈B,x≠63∧x≠35:=fun x h=>⟨(g.2 x (by simp [h])).2.2.1,(g.2 x (by simp [h])).2.2.2⟩
      have:∀c t,Q++F=c::t→c=63∨c=35:=by
       intro c t h
       rcases E with rfl|⟨L,q,rfl,hc⟩
       ·rcases o with rfl|⟨d,f,rfl,hd⟩
        ·cases h
        ·cases h; right; simpa using hd
       ·cases h; left; simpa using hc
      cases B with
      | nil=>rcases this 58 T (by simpa using u) with h|h<;>cases h
      | cons y B =>
       rcases this y (B++58::T) (by simpa using u) with h|h
       ·exact (i y List.mem_cons_self).1 h
       ·exact (i y List.mem_cons_self).2 h
    obtain ⟨C,J⟩:∃C,a++e=A++58::C:=by
     have h1:(A++[58]) <+: (a++e)++(Q++F):=by rw [m,show A++58::T=(A++[58])++T by simp]; exact List.prefix_append _ _
     have h2:(A++[58]) <+: a++e:=List.prefix_of_prefix_length_le h1 (List.prefix_append _ _) (by simp at k ⊢; omega);obtain ⟨C,h⟩:=h2;exact ⟨C,by rw [← h]; simp⟩
    have j:upt [58,47] (a++e)=(A,58::C):=by
     rw [J];refine zit (fun x h=>?_) (.inr ⟨_,_,rfl,rfl⟩);have:=g.2 x h;simp [this.1,this.2.1]
    rw [D] at j;have h1:=(Prod.mk.inj j).1;have h2:=(Prod.mk.inj j).2;subst h1 h2;exact ⟨by simp [List.isPrefixOf],hs⟩
theorem seg_58 (p:Str):(upt [47] p).1.contains 58=([58]:Str).isPrefixOf (upt [58,47] p).2:=by
 obtain ⟨a,e,rfl,n,j,m⟩:=zqp [58,47] p
 have g:∀x∈a,([47]:Str).contains x=false:=fun x d=>by
  have:=j x d;simp only [List.contains_cons,List.contains_nil,Bool.or_false,Bool.or_eq_false_iff] at this ⊢;exact this.2
 have i:a.contains 58=false:=by
  rw [Bool.eq_false_iff];intro h;have:=j 58 (by simpa using h)
  revert this; decide
 rw [n]
 rcases m with rfl|⟨c,t,rfl,hc⟩
 ·rw [zit g (.inl rfl)]; exact i
 ·by_cases h:c=58
  ·subst h;obtain ⟨b,f,rfl,_,k,o⟩:=zqp [47] t
   have:=zit (l:=[47]) (b:=a++58::b) (e:=f) (fun x d=>by
    rcases List.mem_append.1 d with d|d
    ·exact g x d
    ·rcases List.mem_cons.1 d with rfl|d
     ·decide
     ·exact k x d) o
   rw [show a++58::(b++f)=(a++58::b)++f by simp,this];simp [List.isPrefixOf]
  ·have hc:c=47:=by
    simp only [List.contains_cons,List.contains_nil,Bool.or_false,Bool.or_eq_true,beq_iff_eq] at hc;exact hc.resolve_left h
   subst hc;rw [zit g (.inr ⟨_,_,rfl,rfl⟩)];simp only [List.isPrefixOf];rw [i]; rfl
end Go.Dm
end
section
namespace Go.Dm
variable {o r:List zZX}
theorem zKU {c:UInt8} {a b v w:Str} (h:a++c::v=b++c::w) (g:c∉a) (e:c∉b):a=b∧v=w:=by
 have k:∀(x y:Str),c∉x→upt [c] (x++c::y)=(x,c::y):=fun x y d=>zit (fun z f=>by
  have:z≠c:=by rintro rfl; exact d f
  simpa using this) (.inr ⟨_,_,rfl,by simp⟩)
 have:=(k a v g).symm.trans ((congrArg (upt [c]) h).trans (k b w e));have h1:=(Prod.mk.inj this).1;have h2:=(List.cons.inj (Prod.mk.inj this).2).2;exact ⟨h1,h2⟩
theorem zQV {a:Str} (h:a.all zpj=true):(125:UInt8)∉a:=fun e=>by
 have:=List.all_eq_true.1 h 125 e;rw [zFH.1] at this; cases this
theorem sm_125 {a:Str} (h:a.all smB=true):(125:UInt8)∉a:=fun e=>by
 have:=List.all_eq_true.1 h 125 e;rw [zFH.2.1] at this; cases this
theorem PRn_1 {a v:Str} (h:(125:UInt8)∉a):PRn o (64::(a++125::v)) r↔(zhO a=true∧PR (o++[⟨3,a⟩]) v r):=by
 rw [zOs];constructor
 ·rintro ⟨h1,w,h2,b⟩;have e:=zBh zpj (a++125::v);rw [h2] at e;obtain ⟨d,c⟩:=zKU e (zQV (zDt _ _)) h;rw [d] at h1 b;rw [c] at b;exact ⟨h1,b⟩
 ·rintro ⟨h1,h2⟩;have:=tw_u (g:=zpj) (a:=a) (by unfold zhO at h1; rw [Bool.and_eq_true] at h1; exact h1.1) zFH.1 v;rw [this.1,this.2]; exact ⟨h1,_,rfl,h2⟩
theorem PRn_2 {n v:Str} (h:(125:UInt8)∉n) (h0:n≠[]) (c:∀u,n≠64::u):PRn o (n++125::v) r↔(n.all smB=true∧PR (o++[⟨2,n⟩]) v r):=by
 have hn:∀u,n++125::v≠64::u:=by
  intro u e
  cases n with
  | nil=>exact h0 rfl
  | cons x n=>simp at e; exact c n (by rw [e.1])
 rw [zKI hn];constructor
 ·rintro ⟨h1,w,h2,b⟩;have e:=zBh smB (n++125::v);rw [h2] at e;obtain ⟨f,d⟩:=zKU e (sm_125 (zDt _ _)) h;have:=zDt smB (n++125::v);rw [f] at b this;rw [d] at b;exact ⟨this,b⟩
 ·rintro ⟨h1,h2⟩;have:=tw_u (g:=smB) (a:=n) h1 zFH.2.1 v;rw [this.1,this.2]; exact ⟨h0,_,rfl,h2⟩
theorem PRn_3 {v:Str}:¬ PRn o (125::v) r:=by
 rw [zKI (by intro u e; simp at e)];rintro ⟨h,_⟩;rw [List.takeWhile_cons,zFH.2.1] at h;exact h rfl
theorem PRn_4 {t:Str} (h:(125:UInt8)∉t):¬ PRn o t r:=by
 rcases t_1 t 64 with a|⟨u,rfl⟩
 ·rw [zKI a];rintro ⟨_,v,h2,_⟩;have e:=zBh smB t;rw [h2] at e;exact h (by rw [← e]; simp)
 ·rw [zOs];rintro ⟨_,v,h2,_⟩;have e:=zBh zpj u;rw [h2] at e;exact h (by rw [← e]; simp)
end Go.Dm
end
section
namespace Go.Dm
def RJ {α β:Type} (φ:β→α) (Q:β→Prop) (X:Option α) (Y:Option β):Prop:=(∀a,X=some a→∃b,Y=some b∧a=φ b)∧∀b,Y=some b→Q b
theorem bi' {α β:Type} {x:Option α} {f:α→Option β} {r:β} (h:x.bind f=some r):∃a,x=some a∧f a=some r:=Option.bind_eq_some_iff.1 h
section
variable {α β γ δ τ:Type} {φ:β→α} {Q:β→Prop} {ψ:δ→γ} {S:δ→Prop}
theorem zgu {a:α} {b:β} (h:a=φ b) (k:Q b):RJ φ Q (some a) (some b):=⟨fun _ e=>by cases e; exact ⟨b,rfl,h⟩,fun _ e=>by cases e; exact k⟩
theorem rj_n:RJ φ Q none none:=⟨fun _ e=>(by cases e),fun _ e=>(by cases e)⟩
theorem zb0 {x:Option τ} {f:τ→Option γ} {g:τ→Option δ} (k:∀a,x=some a→RJ ψ S (f a) (g a)):RJ ψ S (x.bind f) (x.bind g):=by
 cases x
 ·exact rj_n
 ·exact k _ rfl
theorem zk6 {X:Option α} {Y:Option β} {f:α→Option γ} {g:β→Option δ} (h:RJ φ Q X Y) (k:∀b,Q b→RJ ψ S (f (φ b)) (g b)):RJ ψ S (X.bind f) (Y.bind g):=by
 refine ⟨fun a e=>?_,fun b e=>?_⟩
 ·obtain ⟨x,d,c⟩:=bi' e;obtain ⟨y,i,rfl⟩:=h.1 x d;rw [i];exact (k y (h.2 y i)).1 a c
 ·obtain ⟨y,d,c⟩:=bi' e;exact (k y (h.2 y d)).2 b c
theorem zi4 {c:Prop} [Decidable c] {x b:Option α} {y a:Option β} (h:RJ φ Q x y) (h':RJ φ Q b a):RJ φ Q (if c then x else b) (if c then y else a):=by
 by_cases k:c
 ·rw [if_pos k,if_pos k]; exact h
 ·rw [if_neg k,if_neg k]; exact h'
theorem rj_g {c d:Prop} [Decidable c] [Decidable d] {x:Option α} {y:Option β} (h:RJ φ Q x y) (k:c→d):RJ φ Q (if c then x else none) (if d then y else none):=by
 by_cases l:d
 ·rw [if_pos l];refine ⟨fun a e=>?_,h.2⟩
  by_cases m:c
  ·rw [if_pos m] at e; exact h.1 a e
  ·rw [if_neg m] at e; cases e
 ·rw [if_neg l,if_neg fun m=>l (k m)]; exact rj_n
theorem znu {o:Option τ} {x:Option α} {y:Option β} {f:τ→Option α} {g:τ→Option β} (h:RJ φ Q x y) (k:∀t,RJ φ Q (f t) (g t)):RJ φ Q (Go.Rk.optK o x f) (Go.Rk.optK o y g):=by
 cases o with
 | none=>exact h
 | some t=>exact k t
end
theorem zOB {n m k:Nat} (h:zf (k+n) m 1=true):zf n m 1=true:=by
 unfold zf at *
 simp at *
 omega
def idl (s:zZ3):Prop:=s.z00=none∧∀a,s.Accum=some a→a.z1i=false
theorem zKN {k n:Int} {s:zZ3} (h:zbO k n=some s):idl s:=by
 have j:∀(b:Bool) (r:Option zZ8 × Int),zdn k n b=some r→∀a,r.1=some a→a.z1i=false:=fun b r h a e=>by
  unfold zdn at h
  split at h
  ·cases h; cases e
  ·cases h; cases e; rfl
 have a:∀r,ziH k n=some r→∀a,r.1=some a→a.z1i=false:=fun r h=>by
  unfold ziH at h
  split at h
  ·split at h
   ·exact j _ r h
   ·split at h
    ·exact j _ r h
    ·exact j _ r h
  ·split at h
   ·exact j _ r h
   ·exact j _ r h
 unfold zbO at h
 cases e:ziH k n with
 | none=>rw [e] at h; cases h
 | some r =>
  rw [e] at h;have a:=a r e;obtain ⟨o,i⟩:=r
  cases o with
  | none=>cases h; exact ⟨rfl,fun _ e=>by cases e⟩
  | some x=>cases h; exact ⟨rfl,fun y e=>by cases e; exact a x rfl⟩
def glQ:Option z0a→Option z0a→Option z0a
 | some q,some r=>some ⟨⟨q.z0l.z0N++r.z0l.z0N,q.z0l.z0d⟩,r.z0t⟩
 | _,_=>none
def JC (k g:zZR):zZR:=⟨glQ k.Queue g.Queue,g.z0O,g.z0c,g.z0C,g.zZT,k.zZS,k.zZ5,k.z0H++g.z0H,g.z0I,g.z0f,k.z0y,k.z0J,k.z0r,k.z0t,k.z0u,k.zZV⟩
def JC2 (k:zZR) (r:Int × zZR):Int × zZR:=(r.1,JC k r.2)
def C0 (e g:zZR):Prop:=g.z0O=e.z0O∧g.z0c=e.z0c∧g.z0C=e.z0C∧g.z0I=e.z0I∧g.Queue=e.Queue
def Cp (e g:zZR):Prop:=g.z0O=e.z0O∧g.z0c=e.z0c∧g.z0C=e.z0C∧g.z0I=e.z0I∧(g.Queue=e.Queue∨∃t b,g.Queue=some ⟨⟨[t],1⟩,b⟩)
def C1 (e g:zZR):Prop:=g.z0O=e.z0O∧g.z0c=e.z0c∧g.z0C=e.z0C∧(g.z0I=e.z0I∨g.z0f=true)∧(g.Queue=e.Queue∨(∃t b,g.Queue=some ⟨⟨[t],1⟩,b⟩)∧idl g.zZT)
theorem C0_1 {e g:zZR} (h:C0 e g):C1 e g:=⟨h.1,h.2.1,h.2.2.1,.inl h.2.2.2.1,.inl h.2.2.2.2⟩
def Hk (k e:zZR):Prop:=∃q,k.Queue=some q∧q.z0l.z0N.length<q.z0l.z0d∧q.z0l.z0d≤64∧e.Queue=some ⟨⟨[],1⟩,q.z0t⟩
section
variable {k e:zZR}
theorem zBk (x:Int) (g:zZR) (h:C0 e g):RJ (JC k) (C1 e) (zV (JC k g) x) (zV g x):=zb0 fun r _=>zgu rfl ⟨h.1,h.2.1,h.2.2.1,.inr rfl,.inl h.2.2.2.2⟩
theorem zOC (l:List Str) (m:Int):∀(n:Nat) (i:Int) (g:zZR),C0 e g→RJ (JC k) (C0 e) (zD l m n (JC k g) i) (zD l m n g i)
 | 0,_,_,_=>rj_n
 | n+1,i,g,h=>by
  unfold zD;refine zi4 (zb0 fun r _=>rj_g (zb0 fun a _=>?_) fun k=>zOB (by rw [← List.length_append]; exact k)) (zgu rfl h);have:=zOC l m n a ⟨g.Queue,g.z0O,g.z0c,g.z0C,g.zZT,g.zZS,g.zZ5,g.z0H++r,g.z0I,g.z0f,g.z0y,g.z0J,g.z0r,g.z0t,g.z0u,g.zZV⟩ h;unfold JC at this ⊢;simp only [← List.append_assoc] at this;exact this
theorem zOD (l:List Str) (g:zZR) (h:C0 e g):RJ (JC k) (C0 e) (zae (JC k g) l) (zae g l):=zOC l _ _ _ g h
theorem push_r {q:z0a} (h:q.z0l.z0N.length<q.z0l.z0d) (h2:q.z0l.z0d≤64) (t:zZZ) :
  RJ (fun r:Int × z0a=>(r.1,(⟨⟨q.z0l.z0N++r.2.z0l.z0N,q.z0l.z0d⟩,r.2.z0t⟩:z0a))) (fun r=>r.2=⟨⟨[],1⟩,q.z0t⟩∨∃t b,r.2=⟨⟨[t],1⟩,b⟩)
   (zbJ ⟨⟨q.z0l.z0N++[],q.z0l.z0d⟩,q.z0t⟩ [t]) (zbJ ⟨⟨[],1⟩,q.z0t⟩ [t]):=by
 rw [List.append_nil]
 have d:zbh q.z0l.z0d (q.z0l.z0N.length:Int)=some (q.z0l.z0d-q.z0l.z0N.length):=by simp [zbh,inI]; omega
 have a2:zbh 1 (([]:List zZZ).length:Int)=some 1:=rfl
 have a3:zf q.z0l.z0N.length ([t]:List zZZ).length 32=true:=by simp [zf]; omega
 have a4:zf ([]:List zZZ).length ([t]:List zZZ).length 32=true:=rfl
 have c:¬ decide (q.z0l.z0d-(q.z0l.z0N.length:Int)<(([t]:List zZZ).length:Int))=true:=by simp; omega
 have a:¬ decide ((1:Int)<(([t]:List zZZ).length:Int))=true:=by simp
 unfold zbJ;refine zi4 (zgu (by simp) (.inl rfl)) ?_;simp only [d,a2,Option.bind_some];rw [if_neg c,if_neg a];refine zb0 fun b _=>zi4 (zgu (by simp) (.inl rfl)) ?_;rw [if_pos a3,if_pos a4];exact zi4 (zb0 fun f _=>zb0 fun e _=>zgu (by simp) (.inr ⟨t,_,rfl⟩)) (zgu (by simp) (.inr ⟨t,_,rfl⟩))
theorem zOE (t:zZZ) (g:zZR) (h:Cp e g):RJ (JC k) (C1 e) (zaw (JC k g) t) (zaw g t) :=
 zb0 fun r a=>zgu rfl ⟨h.1,h.2.1,h.2.2.1,.inl h.2.2.2.1,h.2.2.2.2.elim .inl fun c => .inr ⟨c,zKN a⟩⟩
variable (hk:Hk k e)
include hk
theorem zHU (v:zZY) (g:zZR) (h:C0 e g):RJ (JC k) (C1 e) (zax (JC k g) v) (zax g v):=by
 obtain ⟨q,s,x,z,o⟩:=hk;obtain ⟨Q,ev,i,f,c,u,tc,tu,d,a,go,dr,n,j,l,cl⟩:=g;obtain ⟨h1,h2,w,y,m⟩:=h
 change Q=e.Queue at m
 rw [o] at m;subst m;refine zb0 fun r _=>?_
 have eq:(JC k ⟨some ⟨⟨[],1⟩,q.z0t⟩,ev,i,f,c,u,tc,tu,d,a,go,dr,n,j,l,cl⟩).Queue=some ⟨⟨q.z0l.z0N++[],q.z0l.z0d⟩,q.z0t⟩:=by
  show glQ k.Queue _=_;rw [s]; rfl
 rw [eq];refine zk6 (push_r x z _) fun p hp=>?_
 have:=zOE (k:=k) (e:=e) ⟨r.Method,r.Minor,r.Close⟩ ⟨some p.2,ev,i,f,c,u,tc,tu,d,a,go,dr,n,j,l,cl⟩ ⟨h1,h2,w,y,by
  rcases hp with hp|⟨t,b,hp⟩
  ·exact .inl (by show some p.2=_; rw [hp,o])
  ·exact .inr ⟨t,b,by show some p.2=_; rw [hp]⟩⟩
 have A:JC k ⟨some p.2,ev,i,f,c,u,tc,tu,d,a,go,dr,n,j,l,cl⟩=⟨some ⟨⟨q.z0l.z0N++p.2.z0l.z0N,q.z0l.z0d⟩,p.2.z0t⟩,ev,i,f,c,k.zZS,k.zZ5,k.z0H++tu,d,a,k.z0y,k.z0J,k.z0r,k.z0t,k.z0u,k.zZV⟩:=by
  unfold JC;rw [s]; rfl
 rw [A] at this;exact this
theorem zwV (s:Str) (g:zZR) (h:C0 e g):RJ (JC k) (C1 e) (z8 (JC k g) s) (z8 g s) :=
 zk6 (zOD [s] g h) fun r1 a=>znu (zb0 fun d _=>zHU hk d.1 ⟨r1.Queue,r1.z0O,r1.z0c,r1.z0C,⟨none,r1.zZT.z00,r1.zZT.z0b⟩,r1.zZS,r1.zZ5,r1.z0H,r1.z0I,r1.z0f,r1.z0y,r1.z0J,r1.z0r,r1.z0t,r1.z0u,r1.zZV⟩ a)
  fun b=>zb0 fun c _=>zHU hk c.1 ⟨r1.Queue,r1.z0O,r1.z0c,r1.z0C,⟨some b,r1.zZT.z00,r1.zZT.z0b⟩,r1.zZS,r1.zZ5,r1.z0H,r1.z0I,r1.z0f,r1.z0y,r1.z0J,r1.z0r,r1.z0t,r1.z0u,r1.zZV⟩ a
omit hk in
def cS (g:zZR) (a:Option zZ8) (i:Option z0i) (o:Option zZ7):zZR:=⟨g.Queue,g.z0O,g.z0c,g.z0C,⟨a,i,o⟩,g.zZS,g.zZ5,g.z0H,g.z0I,g.z0f,g.z0y,g.z0J,g.z0r,g.z0t,g.z0u,g.zZV⟩
theorem zKO (g:zZR) (h:C0 e g):RJ (JC k) (C1 e) (zao (JC k g)) (zao g) :=
 znu (znu (zb0 fun n _=>zb0 fun d _=>zwV hk d.1 (cS g g.zZT.Accum none none) h) fun f=>zb0 fun m _=>zb0 fun c _=>zwV hk c.1 (cS g g.zZT.Accum (some f) none) h)
  fun l=>znu (zb0 fun o _=>zb0 fun b _=>zwV hk b.1 (cS g g.zZT.Accum none (some b.2.2)) h) fun j=>zb0 fun i _=>zb0 fun a _=>zwV hk a.1 (cS g g.zZT.Accum (some j) (some a.2.2)) h
theorem zHV (t:Bool) (g:zZR) (h:C0 e g):RJ (JC k) (C1 e) (zay (JC k g) t) (zay g t) :=
 zi4 (zk6 (zKO hk g h) fun r a=>zgu rfl a) (zgu rfl (C0_1 h))
theorem zHW (g:zZR) (h:C0 e g):RJ (JC k) (C1 e) (zaz (JC k g)) (zaz g) :=
 znu (zb0 fun r _=>zHV hk r (cS g g.zZT.Accum none g.zZT.z0b) h) fun b=>zb0 fun r _=>zHV hk r (cS g g.zZT.Accum (some b) g.zZT.z0b) h
theorem zHX (v:zZ4) (g:zZR) (h:C0 e g):RJ (JC k) (C1 e) (zaA (JC k g) v) (zaA g v) :=
 zb0 fun r _=>znu (zHW hk (cS g g.zZT.Accum g.zZT.z00 none) h) fun b=>zHW hk (cS g g.zZT.Accum g.zZT.z00 (some b)) h
theorem zHY (v:zZY) (g:zZR) (h:C0 e g):RJ (JC k) (C1 e) (zaB (JC k g) v) (zaB g v) :=
 zb0 (x:=zbQ g v) fun f _=>zi4 (zk6 (zBk _ g h) fun r b=>zgu rfl b) (zk6 (zOD _ g h) fun a b=>zb0 fun d _=>znu (zHX hk _ (cS a a.zZT.Accum none a.zZT.z0b) b) fun c=>zHX hk _ (cS a a.zZT.Accum (some c) a.zZT.z0b) b)
theorem zQR (g:zZR) (h:C0 e g):RJ (JC k) (C1 e) (zaY (JC k g)) (zaY g) :=
 znu (zb0 fun r _=>zHY hk _ (cS g none g.zZT.z00 g.zZT.z0b) h) fun b=>zb0 fun r _=>zHY hk _ (cS g (some b) g.zZT.z00 g.zZT.z0b) h
theorem zOF (i:Int) (t:Bool) (x:Int) (g:zZR) (h:C0 e g):RJ (JC2 k) (fun r=>C1 e r.2) (zp (JC k g) i t x) (zp g i t x) :=
 zi4 (zk6 (zBk _ g h) fun r a=>zgu rfl a) (zi4 (zk6 (zQR hk g h) fun r a=>zgu rfl a) (zgu rfl (C0_1 h)))
theorem zOG (i:Int) (t:Bool) (x:Int) (s:Str) (g:zZR) (h:C0 e g):RJ (JC2 k) (fun r=>C1 e r.2) (zy (JC k g) i t x s) (zy g i t x s) :=
 zk6 (zOD _ g h) fun b h1=>zi4 (zk6 (zBk _ b h1) fun r a=>zgu rfl a) (zi4 (zk6 (zKO hk b h1) fun r a=>zgu rfl a) (zgu rfl (C0_1 h1)))
theorem zOH (i:Int) (s:Str) (t:Bool) (x:Int) (g:zZR) (h:C0 e g):RJ (JC2 k) (fun r=>C1 e r.2) (zW (JC k g) i s t x) (zW g i s t x) :=
 znu (zb0 fun r _=>zOG hk i t x r.1 (cS g g.zZT.Accum g.zZT.z00 none) h) fun w=>zb0 fun r _=>zOG hk i t x r.1 (cS g g.zZT.Accum g.zZT.z00 (some r.2.2)) h
theorem zOI (s:Str) (t:Bool) (g:zZR) (h:C0 e g):RJ (JC2 k) (fun r=>C1 e r.2) (zK (JC k g) s t) (zK g s t) :=
 zi4 (znu (zb0 fun r _=>zOF hk _ _ _ (cS g none g.zZT.z00 g.zZT.z0b) h) fun a=>zb0 fun r _=>zOF hk _ _ _ (cS g (some r.2.2.2) g.zZT.z00 g.zZT.z0b) h)
  (znu (zb0 fun r _=>zOH hk _ _ _ _ (cS g g.zZT.Accum none g.zZT.z0b) h) fun b=>zb0 fun r _=>zOH hk _ _ _ _ (cS g g.zZT.Accum (some r.2.2.2.2) g.zZT.z0b) h)
theorem req_r (s:Str) (g:zZR) (h:C0 e g):RJ (JC2 k) (fun r=>C1 e r.2) (ze (JC k g) s) (ze g s) :=
 znu (zOI hk s true (cS g g.zZT.Accum none g.zZT.z0b) h) fun b=>zOI hk s false (cS g g.zZT.Accum (some b) g.zZT.z0b) h
end
def bC (g:zZR) (b:Bool):zZR:=⟨some ⟨⟨[],1⟩,b⟩,g.z0O,g.z0c,g.z0C,g.zZT,⟨none,none,none⟩,[],[],g.z0I,g.z0f,false,false,false,false,false,false⟩
theorem JC_b {g:zZR} {q:z0a} (h:g.Queue=some q):JC g (bC g q.z0t)=g:=by
 obtain ⟨Q,ev,i,e,c,u,tc,tu,d,a,go,dr,k,f,j,cl⟩:=g
 change Q=some q at h
 subst h;obtain ⟨⟨l,m⟩,b⟩:=q;show (⟨some ⟨⟨l++[],m⟩,b⟩,_,_,_,_,_,_,tu++[],_,_,_,_,_,_,_,_⟩:zZR)=_;rw [List.append_nil,List.append_nil]; rfl
theorem req_j {g:zZR} {q:z0a} (h:g.Queue=some q) (h1:q.z0l.z0N.length<q.z0l.z0d) (h2:q.z0l.z0d≤64) (s:Str):RJ (JC2 g) (fun r=>C1 (bC g q.z0t) r.2) (ze g s) (ze (bC g q.z0t) s):=by
 have:=req_r (k:=g) (e:=bC g q.z0t) ⟨q,h,h1,h2,rfl⟩ s (bC g q.z0t) ⟨rfl,rfl,rfl,rfl,rfl⟩
 rwa [JC_b h] at this
end Go.Dm
end
section
namespace Go.Dm
variable {l:List zZZ} {b:Bool} {g:zZR} {t:zZZ} {m:Int}
def guQ:Option z0a→Option z0a→Option z0a
 | some q,some r=>some ⟨⟨r.z0l.z0N++q.z0l.z0N.tail,q.z0l.z0d⟩,q.z0t⟩
 | _,_=>none
def JU (k g:zZR):zZR:=⟨guQ k.Queue g.Queue,g.z0O,g.z0c,g.z0C,bif g.zZV then g.zZT else k.zZT,g.zZS,k.zZ5++g.zZ5,k.z0H,k.z0I,k.z0f,k.z0y,g.z0J,g.z0r,g.z0t,g.z0u,g.zZV⟩
def JU2 (k:zZR) (r:Int × zZR):Int × zZR:=(r.1,JU k r.2)
def D0 (e g:zZR):Prop:=g.z0O=e.z0O∧g.z0c=e.z0c∧g.z0C=e.z0C∧g.Queue=e.Queue
def D1 (e g:zZR):Prop:=g.z0O=e.z0O∧g.z0c=e.z0c∧g.z0C=e.z0C∧(g.Queue=e.Queue∨g.Queue=some ⟨⟨[],0⟩,false⟩∧g.z0r=false)
theorem zyu {e g:zZR} (h:D0 e g):D1 e g:=⟨h.1,h.2.1,h.2.2.1,.inl h.2.2.2⟩
def Hu (k e:zZR):Prop:=∃t l m b,k.Queue=some ⟨⟨t::l,m⟩,b⟩∧e.Queue=some ⟨⟨[t],0⟩,false⟩
section
variable {k e:zZR}
theorem zIr (l:List Str) (m:Int):∀(n:Nat) (i:Int) (g:zZR),D0 e g→RJ (JU k) (D0 e) (zC l m n (JU k g) i) (zC l m n g i)
 | 0,_,_,_=>rj_n
 | n+1,i,g,h=>by
  unfold zC;refine zi4 (zb0 fun r _=>rj_g (zb0 fun a _=>?_) fun k=>zOB (by rw [← List.length_append]; exact k)) (zgu rfl h);have:=zIr l m n a ⟨g.Queue,g.z0O,g.z0c,g.z0C,g.zZT,g.zZS,g.zZ5++r,g.z0H,g.z0I,g.z0f,g.z0y,g.z0J,g.z0r,g.z0t,g.z0u,g.zZV⟩ h;unfold JU at this ⊢;simp only [← List.append_assoc] at this;exact this
theorem zF2 (l:List Str) (g:zZR) (h:D0 e g):RJ (JU k) (D0 e) (zY (JU k g) l) (zY g l):=zIr l _ _ _ g h
theorem zvC {Q:zZR→Prop} (g:zZR) (h:Q ⟨g.Queue,g.z0O,g.z0c,g.z0C,⟨none,none,none⟩,⟨none,none,none⟩,g.zZ5,g.z0H,g.z0I,g.z0f,g.z0y,g.z0J,g.z0r,g.z0t,g.z0u,true⟩):RJ (JU k) Q (zT (JU k g)) (zT g):=zgu rfl h
theorem tell_u (c:Int) (g:zZR) (h:D0 e g):RJ (JU k) (D0 e) (zO (JU k g) c) (zO g c) :=
 zb0 fun r _=>zk6 (zF2 _ g h) fun a h2=>zk6 (zvC (Q:=D0 e) a h2) fun d b=>zgu rfl b
def uS (g:zZR) (a:Option zZ8) (i:Option z0i) (o:Option zZ7):zZR:=⟨g.Queue,g.z0O,g.z0c,g.z0C,g.zZT,⟨a,i,o⟩,g.zZ5,g.z0H,g.z0I,g.z0f,g.z0y,g.z0J,g.z0r,g.z0t,g.z0u,g.zZV⟩
def uF (g:zZR) (d b l y:Bool):zZR:=⟨g.Queue,g.z0O,g.z0c,g.z0C,g.zZT,g.zZS,g.zZ5,g.z0H,g.z0I,g.z0f,g.z0y,d,b,l,y,g.zZV⟩
theorem zF3 (i:Int) (g:zZR) (h:D0 e g):RJ (JU2 k) (fun r=>D0 e r.2) (zal (JU k g) i) (zal g i):=zb0 fun r _=>zgu rfl h
theorem zF4 (i:Int) (s:Str) (t:Bool) (g:zZR) (h:D0 e g):RJ (JU2 k) (fun r=>D0 e r.2) (zam (JU k g) i s t) (zam g i s t) :=
 zi4 (zk6 (zF2 _ g h) fun r a=>zF3 i r a) (zF3 i g h)
theorem zPC (v:zZY) (t:zZZ) (g:zZR) (h:D0 e g):RJ (JU2 k) (fun r=>D0 e r.2) (za3 (JU k g) v t) (za3 g v t) :=
 zb0 fun b _=>zi4 (zgu rfl h) (zb0 fun a _=>zi4 (zF4 _ _ _ g h) (zF4 _ _ _ g h))
theorem zMh (g:zZR) (h:D1 e g):RJ (JU k) (D1 e) (zag (JU k g)) (zag g) :=
 zb0 fun r _=>zi4 (zk6 (zvC (Q:=D1 e) ⟨g.Queue,g.z0O,g.z0c,g.z0C,g.zZT,r,g.zZ5,g.z0H,g.z0I,g.z0f,g.z0y,g.z0J,g.z0r,g.z0t,g.z0u,g.zZV⟩ h) fun a h2=>zgu rfl h2) (zgu rfl h)
theorem ans1_u (g:zZR) (h:D0 e g∨g.z0O=e.z0O∧g.z0c=e.z0c∧g.z0C=e.z0C∧g.Queue=some ⟨⟨[],0⟩,false⟩):RJ (JU k) (D1 e) (zah (JU k g)) (zah g):=by
 have d:∀x,D1 e (uF g x false g.z0t g.z0u):=fun x=>by
  rcases h with h|h
  ·exact ⟨h.1,h.2.1,h.2.2.1,.inl h.2.2.2⟩
  ·exact ⟨h.1,h.2.1,h.2.2.1,.inr ⟨h.2.2.2,rfl⟩⟩
 exact zi4 (zMh (uF g true false g.z0t g.z0u) (d _)) (zMh (uF g g.z0u false g.z0t g.z0u) (d _))
variable (hk:Hu k e)
include hk
theorem zDA (s:Str) (g:zZR) (h:D0 e g):RJ (JU k) (D1 e) (zQ (JU k g) s) (zQ g s):=by
 obtain ⟨t,l,m,b,q,w⟩:=hk;refine zk6 (zF2 _ g h) fun r A=>?_;obtain ⟨Q,ev,i,d,c,u,tc,tu,o,a,go,dr,n,f,j,cl⟩:=r;obtain ⟨h1,h2,v,p⟩:=A
 change Q=e.Queue at p
 rw [w] at p;subst p
 have eq:(JU k ⟨some ⟨⟨[t],0⟩,false⟩,ev,i,d,c,u,tc,tu,o,a,go,dr,n,f,j,cl⟩).Queue=some ⟨⟨t::l,m⟩,b⟩:=by
  show guQ k.Queue _=_;rw [q]; rfl
 rw [eq];show RJ (JU k) (D1 e) ((zaZ ⟨⟨t::l,m⟩,b⟩).bind _) ((zaZ ⟨⟨[t],0⟩,false⟩).bind _)
 have z:zaZ ⟨⟨t::l,m⟩,b⟩=some (true,⟨⟨l,m⟩,b⟩):=by
  unfold zaZ;rw [if_neg (by simp; omega)];simp [lAt,zof];rw [if_pos (by omega)]; rfl
 have x:zaZ ⟨⟨[t],0⟩,false⟩=some (true,⟨⟨[],0⟩,false⟩):=by
  unfold zaZ;rw [if_neg (by simp)];simp [lAt,zof]
 rw [z,x];have:=ans1_u (k:=k) (e:=e) ⟨some ⟨⟨[],0⟩,false⟩,ev,i,d,c,u,tc,tu,o,a,go,dr,n,f,j,cl⟩ (.inr ⟨h1,h2,v,rfl⟩)
 have y:JU k ⟨some ⟨⟨[],0⟩,false⟩,ev,i,d,c,u,tc,tu,o,a,go,dr,n,f,j,cl⟩=⟨some ⟨⟨l,m⟩,b⟩,ev,i,d,bif cl then c else k.zZT,u,k.zZ5++tc,k.z0H,k.z0I,k.z0f,k.z0y,dr,n,f,j,cl⟩:=by
  unfold JU;rw [q]; rfl
 rw [y] at this;exact this
theorem zMi (g:zZR) (h:D0 e g):RJ (JU k) (D1 e) (zL (JU k g)) (zL g) :=
 znu (znu (zb0 fun n _=>zb0 fun d _=>zDA hk d.1 (uS g g.zZS.Accum none none) h) fun f=>zb0 fun m _=>zb0 fun c _=>zDA hk c.1 (uS g g.zZS.Accum (some f) none) h)
  fun l=>znu (zb0 fun o _=>zb0 fun b _=>zDA hk b.1 (uS g g.zZS.Accum none (some b.2.2)) h) fun j=>zb0 fun i _=>zb0 fun a _=>zDA hk a.1 (uS g g.zZS.Accum (some j) (some a.2.2)) h
theorem zMj (t:Bool) (g:zZR) (h:D0 e g):RJ (JU2 k) (fun r=>D1 e r.2) (zaC (JU k g) t) (zaC g t) :=
 zi4 (zk6 (zMi hk g h) fun r a=>zgu rfl a) (zgu rfl (zyu h))
theorem zMk (g:zZR) (h:D0 e g):RJ (JU2 k) (fun r=>D1 e r.2) (zaD (JU k g)) (zaD g) :=
 znu (zb0 fun r _=>zMj hk r (uS g g.zZS.Accum none g.zZS.z0b) h) fun b=>zb0 fun r _=>zMj hk r (uS g g.zZS.Accum (some b) g.zZS.z0b) h
theorem zMl (v:zZ4) (g:zZR) (h:D0 e g):RJ (JU2 k) (fun r=>D1 e r.2) (zaE (JU k g) v) (zaE g v) :=
 zb0 fun r _=>znu (zMk hk (uS g g.zZS.Accum g.zZS.z00 none) h) fun w=>zMk hk (uS g g.zZS.Accum g.zZS.z00 (some w)) h
theorem zMm (t:zZZ) (f c:zZ4) (v:zZY) (g:zZR) (h:D0 e g):RJ (JU2 k) (fun r=>D1 e r.2) (zaF (JU k g) t f c v) (zaF g t f c v) :=
 zb0 fun l _=>zb0 fun i _=>zi4 (zgu rfl (zyu h)) (zk6 (zF2 _ g h) fun a b=>zb0 fun j _=>znu (zMl hk _ (uF (uS a a.zZS.Accum none a.zZS.z0b) a.z0J true a.z0t a.z0u) b) fun d=>zMl hk _ (uF (uS a a.zZS.Accum (some d) a.zZS.z0b) a.z0J true a.z0t a.z0u) b)
theorem zMn (v0:zZY) (t:zZZ) (f a:zZ4) (v:zZY) (g:zZR) (h:D0 e g):RJ (JU2 k) (fun r=>D1 e r.2) (zaW (JU k g) v0 t f a v) (zaW g v0 t f a v) :=
 zb0 fun r _=>zi4 (zMm hk _ _ _ _ (uF g g.z0J g.z0r g.z0t true) h) (zMm hk _ _ _ _ (uF g g.z0J g.z0r g.z0t (f.Kind==4)) h)
theorem fin_u (v:zZY) (t:zZZ) (g:zZR) (h:D0 e g):RJ (JU2 k) (fun r=>D1 e r.2) (zbe (JU k g) v t) (zbe g v t) :=
 zb0 fun a _=>zi4 (zgu rfl (zyu h)) (zb0 fun r2 _=>zb0 fun b _=>zi4 (zgu rfl (zyu h)) (zi4 (zMn hk _ _ _ _ _ (uF g g.z0J g.z0r true g.z0u) h) (zMn hk _ _ _ _ _ (uF g g.z0J g.z0r (r2.Kind==4) g.z0u) h)))
omit hk in
theorem zPD (c:Int) (g:zZR) (h:D1 e g):RJ (JU k) (D1 e) (zO (JU k g) c) (zO g c):=by
 refine zb0 fun r _=>?_;have:=zIr (k:=k) (e:=g) [r] (([r]:List Str).length:Int) fuel 0 g ⟨rfl,rfl,rfl,rfl⟩;refine ⟨(zk6 this fun d h2=>zk6 (zvC (Q:=fun _=>True) d trivial) fun o _=>zgu (Q:=fun _=>True) rfl trivial).1,fun b f=>?_⟩
 cases j:zY g [r] with
 | none=>rw [j] at f; cases f
 | some d =>
  rw [j] at f;have q:=this.2 d j;unfold zT at f;simp only [Option.bind_some,Option.some.injEq] at f;subst f
  have l:zZR.z0r g=d.z0r:=by
   have:∀(n:Nat) (i:Int) (g d:zZR),zC [r] (([r]:List Str).length:Int) n g i=some d→g.z0r=d.z0r:=fun n=>by
    induction n with
    | zero=>intro i g d h; cases h
    | succ n m =>
     intro i g d h;unfold zC at h
     split at h
     ·obtain ⟨a,_,h⟩:=Option.bind_eq_some_iff.1 h
      split at h
      ·obtain ⟨a2,_,h⟩:=Option.bind_eq_some_iff.1 h;have t:=m _ _ _ h;exact t
      ·cases h
     ·cases h; rfl
   exact this _ _ _ _ j
  refine ⟨q.1.trans h.1,q.2.1.trans h.2.1,q.2.2.1.trans h.2.2.1,?_⟩
  rcases h.2.2.2 with a|⟨a,b⟩
  ·exact .inl (q.2.2.2.trans a)
  ·exact .inr ⟨q.2.2.2.trans a,l.symm.trans b⟩
omit hk in
theorem zMo (i:Int) (g:zZR) (h:D1 e g):RJ (JU k) (D1 e) (zab (JU k g) i) (zab g i) :=
 zi4 (zk6 (zPD _ g h) fun r a=>zgu rfl a) (zgu rfl h)
theorem aw1_u (v:zZY) (t:zZZ) (g:zZR) (h:D0 e g):RJ (JU k) (D1 e) (zan (JU k g) v t) (zan g v t) :=
 zi4 (zMo _ g (zyu h)) (zi4 (zk6 (zPC v t g h) fun r a=>zMo _ r.2 (zyu a)) (zk6 (fin_u hk v t g h) fun r a=>zMo _ r.2 a))
theorem aw2_u (v:zZY) (g:zZR) (h:D0 e g):RJ (JU k) (D1 e) (zac (JU k g) v) (zac g v):=by
 have o:=hk;obtain ⟨t,l,m,b,z,s⟩:=hk;obtain ⟨Q,ev,j,f,c,u,tc,tu,q,a,go,dr,p,i,n,cl⟩:=g;obtain ⟨h1,h2,r,d⟩:=h
 change Q=e.Queue at d
 have A:=d;rw [s] at d;subst d
 have y:JU k ⟨some ⟨⟨[t],0⟩,false⟩,ev,j,f,c,u,tc,tu,q,a,go,dr,p,i,n,cl⟩=⟨some ⟨⟨t::l,m⟩,b⟩,ev,j,f,bif cl then c else k.zZT,u,k.zZ5++tc,k.z0H,k.z0I,k.z0f,k.z0y,dr,p,i,n,cl⟩:=by
  unfold JU;rw [z]; rfl
 have x:zaI ⟨⟨t::l,m⟩,b⟩=some (t,true):=by
  unfold zaI zdO;rw [if_neg (by simp; omega)];simp [lAt]
 have w:zaI ⟨⟨[t],0⟩,false⟩=some (t,true):=by
  unfold zaI zdO;rw [if_neg (by simp)];simp [lAt]
 have:=aw1_u o v t ⟨some ⟨⟨[t],0⟩,false⟩,ev,j,f,c,u,tc,tu,q,a,go,dr,p,i,n,cl⟩ ⟨h1,h2,r,A⟩;rw [y] at this ⊢;unfold zac;show RJ (JU k) (D1 e) ((zaI ⟨⟨t::l,m⟩,b⟩).bind _) ((zaI ⟨⟨[t],0⟩,false⟩).bind _);rw [x,w];exact this
theorem aw_u (g:zZR) (h:D0 e g):RJ (JU k) (D1 e) (zaL (JU k g)) (zaL g) :=
 znu (zb0 fun r _=>aw2_u hk _ (uS g none g.zZS.z00 g.zZS.z0b) h) fun a=>zb0 fun r _=>aw2_u hk _ (uS g (some a) g.zZS.z00 g.zZS.z0b) h
theorem zMp (i:Int) (t:Bool) (x:Int) (g:zZR) (h:D0 e g):RJ (JU2 k) (fun r=>D1 e r.2) (zm (JU k g) i t x) (zm g i t x) :=
 zi4 (zk6 (tell_u _ g h) fun r a=>zgu rfl (zyu a)) (zi4 (zk6 (aw_u hk g h) fun r a=>zgu rfl a) (zgu rfl (zyu h)))
theorem zMq (i:Int) (t:Bool) (x:Int) (s:Str) (g:zZR) (h:D0 e g):RJ (JU2 k) (fun r=>D1 e r.2) (zu (JU k g) i t x s) (zu g i t x s) :=
 zk6 (zF2 _ g h) fun b h1=>zi4 (zk6 (zvC (Q:=D1 e) b (zyu h1)) fun r a=>zgu rfl a) (zi4 (zk6 (zMi hk b h1) fun r a=>zgu rfl a) (zgu rfl (zyu h1)))
theorem zMr (i:Int) (s:Str) (t:Bool) (x:Int) (g:zZR) (h:D0 e g):RJ (JU2 k) (fun r=>D1 e r.2) (zR (JU k g) i s t x) (zR g i s t x) :=
 znu (zb0 fun r _=>zMq hk i t x r.1 (uS g g.zZS.Accum g.zZS.z00 none) h) fun w=>zb0 fun r _=>zMq hk i t x r.1 (uS g g.zZS.Accum g.zZS.z00 (some r.2.2)) h
theorem zMs (s:Str) (t:Bool) (g:zZR) (h:D0 e g):RJ (JU2 k) (fun r=>D1 e r.2) (zH (JU k g) s t) (zH g s t) :=
 zi4 (znu (zb0 fun r _=>zMp hk _ _ _ (uS g none g.zZS.z00 g.zZS.z0b) h) fun a=>zb0 fun r _=>zMp hk _ _ _ (uS g (some r.2.2.2) g.zZS.z00 g.zZS.z0b) h)
  (znu (zb0 fun r _=>zMr hk _ _ _ _ (uS g g.zZS.Accum none g.zZS.z0b) h) fun b=>zb0 fun r _=>zMr hk _ _ _ _ (uS g g.zZS.Accum (some r.2.2.2.2) g.zZS.z0b) h)
theorem res_u (s:Str) (g:zZR) (h:D0 e g):RJ (JU2 k) (fun r=>D1 e r.2) (zj (JU k g) s) (zj g s) :=
 znu (zMs hk s true (uS g g.zZS.Accum none g.zZS.z0b) h) fun b=>zMs hk s false (uS g g.zZS.Accum (some b) g.zZS.z0b) h
end
noncomputable def ueJ (g:zZR) (t:Bool):Option zZR:=if t then (zL g).bind fun r=>some r else (zT g).bind fun r=>some r
noncomputable def ueR (g:zZR):Option zZR:=if g.z0r then Go.Rk.optK g.zZS.z00 (zjo.bind fun r=>ueJ (uF (uS g g.zZS.Accum none g.zZS.z0b) true g.z0r g.z0t g.z0u) r.1) fun b=>(zfc b).bind fun r=>ueJ (uF (uS g g.zZS.Accum (some r.2.2) g.zZS.z0b) true g.z0r g.z0t g.z0u) r.1 else some (uF g true g.z0r g.z0t g.z0u)
theorem ueJ_u {k e:zZR} (b:Hu k e) (t:Bool) (g:zZR) (h:D0 e g):RJ (JU k) (D1 e) (ueJ (JU k g) t) (ueJ g t) :=
 zi4 (zk6 (zMi b g h) fun r a=>zgu rfl a) (zk6 (zvC (Q:=D1 e) g (zyu h)) fun r a=>zgu rfl a)
theorem ue_u {k e:zZR} (a:Hu k e) (g:zZR) (h:D0 e g):RJ (JU k) (D1 e) (ueR (JU k g)) (ueR g) :=
 zi4 (znu (zb0 fun r _=>ueJ_u a r.1 (uF (uS g g.zZS.Accum none g.zZS.z0b) true g.z0r g.z0t g.z0u) h) fun b=>zb0 fun r _=>ueJ_u a r.1 (uF (uS g g.zZS.Accum (some r.2.2) g.zZS.z0b) true g.z0r g.z0t g.z0u) h) (zgu rfl (zyu h))
def bU (g:zZR) (t:zZZ):zZR:=⟨some ⟨⟨[t],0⟩,false⟩,g.z0O,g.z0c,g.z0C,⟨none,none,none⟩,g.zZS,[],[],0,false,false,g.z0J,g.z0r,g.z0t,g.z0u,false⟩
theorem JU_b (h:g.Queue=some ⟨⟨t::l,m⟩,b⟩) (hc:g.zZV=false):JU g (bU g t)=g:=by
 obtain ⟨Q,ev,i,e,c,u,tc,tu,d,a,go,dr,k,f,j,cl⟩:=g
 change Q=_ at h
 change cl=_ at hc
 subst h; subst hc;show (⟨_,_,_,_,_,_,tc++[],_,_,_,_,_,_,_,_,_⟩:zZR)=_;rw [List.append_nil]; rfl
theorem res_j (h:g.Queue=some ⟨⟨t::l,m⟩,b⟩) (hc:g.zZV=false) (s:Str):RJ (JU2 g) (fun r=>D1 (bU g t) r.2) (zj g s) (zj (bU g t) s):=by
 have:=res_u (k:=g) (e:=bU g t) ⟨t,l,m,b,h,rfl⟩ s (bU g t) ⟨rfl,rfl,rfl,rfl⟩
 rwa [JU_b h hc] at this
theorem ue_j (h:g.Queue=some ⟨⟨t::l,m⟩,b⟩) (hc:g.zZV=false):RJ (JU g) (D1 (bU g t)) (ueR g) (ueR (bU g t)):=by
 have:=ue_u (k:=g) (e:=bU g t) ⟨t,l,m,b,h,rfl⟩ (bU g t) ⟨rfl,rfl,rfl,rfl⟩
 rwa [JU_b h hc] at this
end Go.Dm
end
section
namespace Go.Dm
variable {g:zZR} {l:List zZZ} {b:Bool} {t:zZZ} {m:Int}
def ql (g:zZR):Nat:=match g.Queue with|some q=>q.z0l.z0N.length|none=>0
def clo (g:zZR):zZR:=⟨g.Queue,g.z0O,g.z0c,g.z0C,⟨none,none,none⟩,⟨none,none,none⟩,g.zZ5,g.z0H,g.z0I,g.z0f,g.z0y,g.z0J,g.z0r,g.z0t,g.z0u,true⟩
noncomputable def tel (g:zZR) (c:Int):zZR:=⟨g.Queue,g.z0O,g.z0c,g.z0C,⟨none,none,none⟩,⟨none,none,none⟩,g.zZ5++(zrs c).getD [],g.z0H,g.z0I,g.z0f,g.z0y,g.z0J,g.z0r,g.z0t,g.z0u,true⟩
noncomputable def sg (g:zZR):zZR :=
 if g.zZV=true then g else if 0<ql g∧g.z0J=true∧g.z0r=false then tel g 502 else if 0<ql g then g else if g.z0I≠0 then tel g g.z0I else if g.z0y=true then clo g else g
theorem sg_c:(sg g).zZV=true∨sg g=g:=by
 unfold sg
 split
 ·exact .inl ‹_›
 split
 ·exact .inl rfl
 split
 ·exact .inr rfl
 split
 ·exact .inl rfl
 split
 ·exact .inl rfl
 ·exact .inr rfl
theorem sg_k (h:g.zZV=true):sg g=g:=by unfold sg; rw [if_pos h]
theorem sg_n (h:(sg g).zZV=false):g.zZV=false∧sg g=g∧(0<ql g→g.z0J=true→g.z0r=true)∧(ql g=0→g.z0I=0∧g.z0y=false):=by
 have e:sg g=g:=sg_c.resolve_left (by rw [h]; simp)
 have hc:g.zZV=false:=by rw [e] at h; exact h
 refine ⟨hc,e,?_,?_⟩
 ·intro h1 h2
  cases hb:g.z0r with
  | true=>rfl
  | false =>
   unfold sg at h;rw [if_neg (by rw [hc]; simp),if_pos ⟨h1,h2,hb⟩] at h;cases h
 ·intro h1;unfold sg at h;rw [if_neg (by rw [hc]; simp),if_neg (by omega),if_neg (by omega)] at h
  by_cases k:g.z0I=0
  ·rw [if_neg (by simpa using k)] at h;refine ⟨k,?_⟩
   cases hg:g.z0y with
   | false=>rfl
   | true=>rw [if_pos hg] at h; cases h
  ·rw [if_pos k] at h; cases h
theorem zGB (h1:0<ql g→g.z0J=true→g.z0r=true) (h2:ql g=0→g.z0I=0∧g.z0y=false):sg g=g:=by
 unfold sg
 split
 ·rfl
 rw [if_neg (by rintro ⟨a,b,c⟩; rw [h1 a b] at c; cases c)]
 split
 ·rfl
 ·obtain ⟨a,b⟩:=h2 (by omega);rw [if_neg (by simpa using a),if_neg (by rw [b]; simp)]
theorem sg_w {g w:zZR} (hc:g.zZV=false) (n:w.zZV=false) (h:(sg g).zZV=true) (e:w.zZ5=g.zZ5) (d:w.z0J=g.z0J∨ql g=0∧ql w=0) (o:w.z0r=g.z0r) (p:ql g≤ql w) (m:ql g=0→g.z0I=0∧g.z0y=false∨ql w=0∧w.z0I=g.z0I∧(g.z0y=true→w.z0y=true)):(sg w).zZV=true∧(sg w).zZ5=(sg g).zZ5:=by
 have l:sg w=if 0<ql w∧w.z0J=true∧w.z0r=false then tel w 502 else if 0<ql w then w else if w.z0I≠0 then tel w w.z0I else if w.z0y=true then clo w else w:=by
  unfold sg;rw [if_neg (by rw [n]; simp)]
 rw [l]
 have hd:∀{P:Prop},g.zZV=true→P:=fun c=>by rw [hc] at c; cases c
 by_cases n0:0<ql g
 ·by_cases a:g.z0J=true∧g.z0r=false
  ·have d:w.z0J=g.z0J:=d.elim id fun c=>by omega
   have k:sg g=tel g 502:=by
    unfold sg;rw [if_neg (by rw [hc]; simp),if_pos ⟨n0,a⟩]
   rw [k,if_pos ⟨by omega,by rw [d]; exact a.1,by rw [o]; exact a.2⟩];exact ⟨rfl,by show w.zZ5++_=g.zZ5++_; rw [e]⟩
  ·have k:sg g=g:=by
    unfold sg;rw [if_neg (by rw [hc]; simp),if_neg (fun c=>a c.2),if_pos n0]
   rw [k] at h; exact hd h
 ·have j:sg g=if g.z0I≠0 then tel g g.z0I else if g.z0y=true then clo g else g:=by
   unfold sg;rw [if_neg (by rw [hc]; simp),if_neg (fun c=>n0 c.1),if_neg n0]
  rw [j] at h ⊢
  rcases m (by omega) with ⟨a,b⟩|⟨a,b,c⟩
  ·rw [if_neg (by simpa using a),if_neg (by rw [b]; simp)] at h; exact hd h
  ·rw [if_neg (by omega),if_neg (by omega),b]
   by_cases k:g.z0I=0
   ·rw [if_neg (by simpa using k)] at h
    have i:¬ g.z0I≠0:=by simpa using k
    rw [if_neg i,if_neg i]
    split at h
    ·rename_i f
     rw [if_pos (c f),if_pos f];exact ⟨rfl,e⟩
    ·exact hd h
   ·rw [if_pos k,if_pos k];exact ⟨rfl,by show w.zZ5++_=g.zZ5++_; rw [e]⟩
def ecR (g:zZR):zZR:=⟨g.Queue,g.z0O,g.z0c,g.z0C,⟨none,none,none⟩,g.zZS,g.zZ5,g.z0H,g.z0I,true,true,g.z0J,g.z0r,g.z0t,g.z0u,g.zZV⟩
def zpK (g:zZR):Bool:=match g.Queue with|some q=>q.z0t|none=>false
noncomputable def PKe:Option UInt8→zZR→Option zZR
 | some x,g=>(ze (bC g (zpK g)) [x]).map fun r=>JC g r.2
 | none,g=>some (ecR g)
noncomputable def QK:Option UInt8→zZR→Option zZR
 | some x,g=>(zj g [x]).bind fun r=>some r.2
 | none,g=>ueR g
noncomputable def QKe (j:Option UInt8) (g:zZR):Option zZR:=match g.Queue with
 | some ⟨⟨t::_,_⟩,_⟩=>(QK j (bU g t)).map (JU g)
 | _=>if j=none then some (uF g true false g.z0t g.z0u) else none
theorem om_i {α β:Type} {f:α→β} {x:Option α} {b:β} (h:x.map f=some b):∃a,x=some a∧b=f a:=by
 cases x with
 | none=>cases h
 | some a=>cases h; exact ⟨a,rfl,rfl⟩
theorem zuB {j:Option UInt8} (h:g.Queue=some ⟨⟨t::l,m⟩,b⟩):QKe j g=(QK j (bU g t)).map (JU g):=by
 unfold QKe; rw [h]
theorem QK_1 (j:Option UInt8) {g:zZR} {t:zZZ} {l:List zZZ} {m:Int} {b:Bool} (h:g.Queue=some ⟨⟨t::l,m⟩,b⟩) (hc:g.zZV=false) {s:zZR} (e:QK j (bU g t)=some s):D1 (bU g t) s:=by
 cases j with
 | none=>exact (ue_j h hc).2 s e
 | some x =>
  obtain ⟨r,a,e⟩:=bi' e;cases e;exact (res_j h hc [x]).2 r a
theorem PK_1 {x:UInt8} {q:z0a} (h:g.Queue=some q) (h1:q.z0l.z0N.length<q.z0l.z0d) (h2:q.z0l.z0d≤64) {r:zZR} (e:PKe (some x) g=some r):∃s,ze (bC g q.z0t) [x]=some s∧r=JC g s.2∧C1 (bC g q.z0t) s.2:=by
 have c:zpK g=q.z0t:=by unfold zpK; rw [h]
 obtain ⟨s,a,b⟩:=om_i e;rw [c] at a;exact ⟨s,a,b,(req_j h h1 h2 [x]).2 s a⟩
def Pf (i:Option UInt8) (g r:zZR):Prop:=r.zZV=g.zZV∧r.zZ5=g.zZ5∧r.z0J=g.z0J∧r.z0r=g.z0r∧ql g≤ql r∧(i=none→r.z0I=g.z0I∧ql r=ql g∧r.z0y=true∧r.z0f=true∧idl r.zZT)∧(i≠none→r.z0y=g.z0y∧(r.z0I=g.z0I∨r.z0f=true)∧(ql r=ql g∨ql r=ql g+1∧idl r.zZT))∧∃q a,g.Queue=some q∧r.Queue=some a∧a.z0l.z0d=q.z0l.z0d
theorem zNo {i:Option UInt8} {g r:zZR} {q:z0a} (h:g.Queue=some q) (h1:i≠none→q.z0l.z0N.length<q.z0l.z0d) (h2:q.z0l.z0d≤64) (e:PKe i g=some r):Pf i g r:=by
 cases i with
 | none =>
  cases e;exact ⟨rfl,rfl,rfl,rfl,Nat.le_refl _,fun _=>⟨rfl,rfl,rfl,rfl,rfl,fun a c=>by cases c⟩,fun c=>absurd rfl c,q,q,h,h,rfl⟩
 | some x =>
  obtain ⟨s,_,rfl,c⟩:=PK_1 h (h1 (by simp)) h2 e;obtain ⟨n,s⟩:=s;simp only at c ⊢
  have o:ql g=q.z0l.z0N.length:=by unfold ql; rw [h]
  obtain ⟨f,l,j⟩:∃f,s.Queue=some f∧(f.z0l.z0N.length=0∨f.z0l.z0N.length=1∧idl s.zZT):=by
   rcases c.2.2.2.2 with c|⟨⟨t,b,c⟩,d⟩
   ·exact ⟨_,c,.inl rfl⟩
   ·exact ⟨_,c,.inr ⟨rfl,d⟩⟩
  have k:(JC g s).Queue=some ⟨⟨q.z0l.z0N++f.z0l.z0N,q.z0l.z0d⟩,f.z0t⟩:=by
   show glQ g.Queue s.Queue=_;rw [h,l]; rfl
  have p:ql (JC g s)=q.z0l.z0N.length+f.z0l.z0N.length:=by unfold ql; rw [k, ← List.length_append]
  refine ⟨rfl,rfl,rfl,rfl,by omega,fun c=>(by cases c),fun _=>⟨rfl,c.2.2.2.1,?_⟩,q,_,h,k,rfl⟩
  rcases j with j|⟨j,m⟩
  ·exact .inl (by omega)
  ·exact .inr ⟨by omega,m⟩
def Qf (g r:zZR):Prop:=r.zZV=true∨r.zZT=g.zZT∧r.z0I=g.z0I∧r.z0f=g.z0f∧r.z0y=g.z0y∧ql r≤ql g∧(ql r=0→r.z0r=false)∧∃q a,g.Queue=some q∧r.Queue=some a∧a.z0l.z0d=q.z0l.z0d
theorem QKe_f {j:Option UInt8} {g r:zZR} (h:g.Queue=some ⟨⟨t::l,m⟩,b⟩) (hc:g.zZV=false) (e:QKe j g=some r):Qf g r:=by
 rw [zuB h] at e;obtain ⟨s,o,rfl⟩:=om_i e;have c:=QK_1 j h hc o
 cases i:s.zZV with
 | true=>exact .inl i
 | false =>
  have p:ql g=l.length+1:=by unfold ql; rw [h]; rfl
  obtain ⟨f,n,a⟩:∃f,s.Queue=some f∧(f.z0l.z0N.length=1∨f.z0l.z0N.length=0∧s.z0r=false):=by
   rcases c.2.2.2 with c|⟨c,d⟩
   ·exact ⟨_,c,.inl rfl⟩
   ·exact ⟨_,c,.inr ⟨rfl,d⟩⟩
  have k:(JU g s).Queue=some ⟨⟨f.z0l.z0N++l,m⟩,b⟩:=by
   show guQ g.Queue s.Queue=_;rw [h,n]; rfl
  have q:ql (JU g s)=f.z0l.z0N.length+l.length:=by unfold ql; rw [k, ← List.length_append]
  refine .inr ⟨?_,rfl,rfl,rfl,?_,?_,_,_,h,k,rfl⟩
  ·show (bif s.zZV then s.zZT else g.zZT)=_;rw [i]; rfl
  ·rcases a with a|⟨a,_⟩<;>omega
  ·intro h0
   rcases a with a|⟨_,a⟩
   ·omega
   ·exact a
theorem raw_e {i j:Option UInt8} {g E k:zZR} (h:g.Queue=some ⟨⟨t::l,m⟩,b⟩) (hc:g.zZV=false) (h1:i≠none→((t::l).length:Int)<m) (h2:m≤64) (D:PKe i g=some E) (C:QKe j g=some k) :
  ∃w,QKe j E=some w∧(k.zZV=true→w.zZV=true∧w.zZ5=k.zZ5)∧(k.zZV=false→PKe i k=some w):=by
 rw [zuB h] at C;obtain ⟨s,q,rfl⟩:=om_i C;obtain ⟨s1,s2,v,K⟩:=QK_1 j h hc q
 change s.z0O=g.z0O at s1
 change s.z0c=g.z0c at s2
 change s.z0C=g.z0C at v
 obtain ⟨o,e⟩:∃o,s.Queue=some o:=by
  rcases K with c|⟨c,_⟩
  ·exact ⟨_,c⟩
  ·exact ⟨_,c⟩
 have B:(JU g s).Queue=some ⟨⟨o.z0l.z0N++l,m⟩,b⟩:=by
  show guQ g.Queue s.Queue=_;rw [h,e]; rfl
 cases i with
 | none =>
  cases D;refine ⟨JU (ecR g) s,?_,fun c=>⟨c,rfl⟩,fun c=>?_⟩
  ·rw [zuB (g:=ecR g) h];show (QK j (bU g t)).map _=_;rw [q]; rfl
  ·change s.zZV=false at c
   show some (ecR (JU g s))=some (JU (ecR g) s);unfold ecR JU;rw [c]; rfl
 | some x =>
  obtain ⟨⟨n,r⟩,u,rfl,d⟩:=PK_1 h (h1 (by simp)) h2 D;obtain ⟨z,y,p,M,F⟩:=d
  change r.z0O=g.z0O at z
  change r.z0c=g.z0c at y
  change r.z0C=g.z0C at p
  obtain ⟨a,f⟩:∃a,r.Queue=some a:=by
   rcases F with c|⟨⟨_,_,c⟩,_⟩
   ·exact ⟨_,c⟩
   ·exact ⟨_,c⟩
  have A:(JC g r).Queue=some ⟨⟨t::(l++a.z0l.z0N),m⟩,a.z0t⟩:=by
   show glQ g.Queue r.Queue=_;rw [h,f]; rfl
  have G:bU (JC g r) t=bU g t:=by
   show (⟨_,r.z0O,r.z0c,r.z0C,_,_,_,_,_,_,_,_,_,_,_,_⟩:zZR)=⟨_,g.z0O,g.z0c,g.z0C,_,_,_,_,_,_,_,_,_,_,_,_⟩;rw [z,y,p]; rfl
  refine ⟨JU (JC g r) s,?_,fun c=>⟨c,rfl⟩,fun c=>?_⟩
  ·show QKe j (JC g r)=_;rw [zuB A,G,q]; rfl
  ·change s.zZV=false at c
   have H:bC (JU g s) b=bC g b:=by
    show (⟨_,s.z0O,s.z0c,s.z0C,bif s.zZV then s.zZT else g.zZT,_,_,_,_,_,_,_,_,_,_,_⟩:zZR)=⟨_,g.z0O,g.z0c,g.z0C,_,_,_,_,_,_,_,_,_,_,_,_⟩;rw [s1,s2,v,c]; rfl
   have L:zpK (JU g s)=b:=by unfold zpK; rw [B]
   have u:ze (bC g b) [x]=some (n,r):=u;show (ze (bC (JU g s) (zpK (JU g s))) [x]).map _=_;rw [L,H,u]
   have I:glQ (JU g s).Queue r.Queue=guQ (JC g r).Queue s.Queue:=by
    rw [B,A,f,e];show some (⟨⟨o.z0l.z0N++l++a.z0l.z0N,m⟩,a.z0t⟩:z0a)=some ⟨⟨o.z0l.z0N++(l++a.z0l.z0N),m⟩,a.z0t⟩;rw [List.append_assoc]
   show some (⟨glQ (JU g s).Queue r.Queue,r.z0O,r.z0c,r.z0C,r.zZT,_,_,_,_,_,_,_,_,_,_,_⟩:zZR)=some ⟨guQ (JC g r).Queue s.Queue,s.z0O,s.z0c,s.z0C,bif s.zZV then s.zZT else r.zZT,_,_,_,_,_,_,_,_,_,_,_⟩
   have J:(bif s.zZV then s.zZT else r.zZT)=r.zZT:=by rw [c]; rfl
   rw [I,z,y,p,s1,s2,v,J]; rfl
end Go.Dm
end
section
namespace Go.Dm
section
variable {A B:Type} (s1 s2:A→Option A) (cl:A→Prop) (o:A→B) (μ:A→Nat) (I:A→Prop)
def Q2 (x y:A):Prop:=x=y∨cl x∧cl y∧o x=o y
def runN:Nat→A→A
 | 0,x=>x
 | n+1,x=>match s1 x with
  | some y=>runN n y
  | none=>match s2 x with
   | some z=>runN n z
   | none=>x
structure Dia:Prop where
 h1:∀x y,I x→s1 x=some y→I y∧μ y<μ x
 h2:∀x y,I x→s2 x=some y→I y∧μ y<μ x
 hc:∀x,cl x→s1 x=none∧s2 x=none
 hd:∀x y z,I x→s1 x=some y→s2 x=some z→(∃b c,s2 y=some b∧s1 z=some c∧Q2 cl o b c)∨(cl y∧∃b,s1 z=some b∧Q2 cl o y b)∨(cl z∧∃b,s2 y=some b∧Q2 cl o z b)
def nf (x:A):A:=runN s1 s2 (μ x) x
variable {s1 s2 cl o μ I}
theorem Q2.symm {x y:A} (h:Q2 cl o x y):Q2 cl o y x:=by
 rcases h with h|⟨a,b,c⟩
 ·exact .inl h.symm
 ·exact .inr ⟨b,a,c.symm⟩
theorem Q2.trans {x y z:A} (h:Q2 cl o x y) (k:Q2 cl o y z):Q2 cl o x z:=by
 rcases h with rfl|⟨a,b,c⟩
 ·exact k
 ·rcases k with rfl|⟨d,e,f⟩
  ·exact .inr ⟨a,b,c⟩
  ·exact .inr ⟨a,e,c.trans f⟩
theorem zDd {x:A} (h1:s1 x=none) (h2:s2 x=none):∀n,runN s1 s2 n x=x
 | 0=>rfl
 | n+1=>by simp only [runN,h1,h2]
theorem run_m (D:Dia s1 s2 cl o μ I):∀(n m:Nat) (x:A),I x→μ x≤n→μ x≤m→runN s1 s2 n x=runN s1 s2 m x:=by
 have z:∀x,I x→μ x=0→s1 x=none∧s2 x=none:=fun x i h=>by
  constructor
  ·cases e:s1 x with
   | none=>rfl
   | some y=>have:=(D.h1 x y i e).2; omega
  ·cases e:s2 x with
   | none=>rfl
   | some y=>have:=(D.h2 x y i e).2; omega
 intro n
 induction n with
 | zero =>
  intro m x i h _;obtain ⟨a,b⟩:=z x i (by omega);rw [zDd a b,zDd a b]
 | succ n c =>
  intro m x i h k
  cases m with
  | zero =>
   obtain ⟨a,b⟩:=z x i (by omega);rw [zDd a b,zDd a b]
  | succ m =>
   unfold runN
   cases e:s1 x with
   | some y =>
    have:=D.h1 x y i e;exact c m y this.1 (by omega) (by omega)
   | none =>
    cases e2:s2 x with
    | some y =>
     have:=D.h2 x y i e2;exact c m y this.1 (by omega) (by omega)
    | none=>rfl
theorem nf_c (D:Dia s1 s2 cl o μ I) {x:A} (h:cl x):nf s1 s2 μ x=x:=zDd (D.hc x h).1 (D.hc x h).2 _
theorem nf_q (D:Dia s1 s2 cl o μ I) {x y:A} (h:Q2 cl o x y):Q2 cl o (nf s1 s2 μ x) (nf s1 s2 μ y):=by
 rcases h with rfl|⟨a,b,c⟩
 ·exact .inl rfl
 ·rw [nf_c D a,nf_c D b]; exact .inr ⟨a,b,c⟩
theorem nf_1 (D:Dia s1 s2 cl o μ I) {x y:A} (i:I x) (e:s1 x=some y):nf s1 s2 μ x=nf s1 s2 μ y:=by
 obtain ⟨j,l⟩:=D.h1 x y i e;unfold nf;obtain ⟨k,a⟩:∃k, μ x=k+1:=⟨μ x-1,by omega⟩;rw [a]
 conv=>lhs; unfold runN
 rw [e];exact run_m D k (μ y) y j (by omega) (by omega)
theorem nf_2 (D:Dia s1 s2 cl o μ I):∀(n:Nat) (x z:A), μ x≤n→I x→s2 x=some z→Q2 cl o (nf s1 s2 μ x) (nf s1 s2 μ z):=by
 intro n
 induction n with
 | zero=>intro x z h i e; have:=(D.h2 x z i e).2; omega
 | succ n g =>
  intro x z h i e;obtain ⟨d,l⟩:=D.h2 x z i e
  cases e1:s1 x with
  | none =>
   refine .inl ?_;unfold nf;obtain ⟨k,j⟩:∃k, μ x=k+1:=⟨μ x-1,by omega⟩;rw [j]
   conv=>lhs; unfold runN
   rw [e1,e];exact run_m D k (μ z) z d (by omega) (by omega)
  | some y =>
   obtain ⟨f,m⟩:=D.h1 x y i e1;rw [nf_1 D i e1]
   rcases D.hd x y z i e1 e with ⟨b,c,a,a2,a3⟩|⟨p,b,a2,a3⟩|⟨q,b,a,a3⟩
   ·rw [nf_1 D d a2];exact (g y b (by omega) f a).trans (nf_q D a3)
   ·rw [nf_1 D d a2];exact nf_q D a3
   ·exact (g y b (by omega) f a).trans (nf_q D a3).symm
end
end Go.Dm
end
section
namespace Go.Dm
variable {i:Option UInt8} {g:zZR} {j:Option UInt8} {q:z0a}
theorem idle_e (s:zZ3):∃b,zfm s=some b∧(b=true↔idl s):=by
 obtain ⟨a,i,o⟩:=s
 cases i with
 | some b=>exact ⟨false,rfl,by simp [idl]⟩
 | none =>
  cases a with
  | none=>exact ⟨true,rfl,by simp [idl]⟩
  | some a=>exact ⟨!a.z1i,rfl,by simp [idl]⟩
theorem ztU (h:g.Queue=some q) (h2:q.z0l.z0d≤64) (f:(q.z0l.z0N.length:Int)≤q.z0l.z0d):zI g=some true↔g.zZV=false∧g.z0f=false∧(¬ idl g.zZT∨(q.z0l.z0N.length:Int)<q.z0l.z0d):=by
 obtain ⟨b,c,hi⟩:=idle_e g.zZT
 have d:zbh q.z0l.z0d (q.z0l.z0N.length:Int)=some (q.z0l.z0d-q.z0l.z0N.length):=by simp [zbh,inI]; omega
 have e:zI g=some (!g.zZV && !g.z0f&&(!b || !(q.z0l.z0d-(q.z0l.z0N.length:Int)==0))):=by
  unfold zI;rw [c,h]
  cases g.zZV with
  | true=>rfl
  | false =>
   cases g.z0f with
   | true=>rfl
   | false =>
    cases b with
    | false=>rfl
    | true =>
     show ((zcp q).bind fun a=>some (!a))=_;unfold zcp zgj;rw [d]; rfl
 rw [e, ← hi]
 have z:(q.z0l.z0d-(q.z0l.z0N.length:Int)==0)=false↔(q.z0l.z0N.length:Int)<q.z0l.z0d:=by
  rw [beq_eq_false_iff_ne]; omega
 cases g.zZV<;>cases g.z0f<;>cases b<;>simp_all
structure WS where
 g:zZR
 a:List UInt8
 b:List UInt8
 ea:Bool
 eb:Bool
def nx:Option UInt8→List UInt8→Bool→List UInt8→Bool→Prop
 | some x,l,e,b,a=>l=x::b∧a=e
 | none,l,e,b,a=>l=[]∧b=[]∧e=true∧a=false
def En1 (i:Option UInt8) (g:zZR):Prop:=i≠none→g.z0y=false∧zI g=some true
def En2 (j:Option UInt8) (g:zZR):Prop:=j≠none→g.z0J=false∧0<ql g
theorem q_c (h:g.Queue=some q) (h0:0<ql g):∃t l,g.Queue=some ⟨⟨t::l,q.z0l.z0d⟩,q.z0t⟩∧q.z0l.z0N=t::l:=by
 obtain ⟨⟨l,m⟩,b⟩:=q
 cases l with
 | nil=>unfold ql at h0; rw [h] at h0; simp at h0
 | cons t l=>exact ⟨t,l,h,rfl⟩
theorem zIk (h:g.Queue=some q) (a:g.z0r=false) (hc:g.zZV=false):QKe none g=some (uF g true false g.z0t g.z0u):=by
 obtain ⟨⟨l,m⟩,b⟩:=q
 cases l with
 | nil=>unfold QKe; rw [h]; rfl
 | cons t l =>
  rw [zuB h]
  have e:ueR (bU g t)=some (uF (bU g t) true false g.z0t g.z0u):=by
   unfold ueR;rw [if_neg (by show ¬ g.z0r=true; rw [a]; simp)];show some (uF (bU g t) true g.z0r g.z0t g.z0u)=_;rw [a]
  show (ueR (bU g t)).map _=_;rw [e];show some (uF (JU g (bU g t)) true false g.z0t g.z0u)=_;rw [JU_b h hc]
theorem PKe_d {g a:zZR} (e:PKe i g=some a) (d b l y:Bool):PKe i (uF g d b l y)=some (uF a d b l y):=by
 cases i with
 | none=>cases e; rfl
 | some x =>
  obtain ⟨r,c,rfl⟩:=om_i e;show (ze (bC g (zpK g)) [x]).map _=_;rw [c]; rfl
open Classical in
noncomputable def QS (j:Option UInt8) (g:zZR):Option zZR:=if j=none∧g.z0J=true then some g else QKe j g
open Classical in
noncomputable def s1 (c:WS):Option WS:=if c.g.zZV=true then none else match c.a with
 | x::l=>if En1 (some x) c.g then (PKe (some x) c.g).bind fun g=>some ⟨sg g,l,c.b,c.ea,c.eb⟩ else none
 | []=>if c.ea=true then (PKe none c.g).bind fun g=>some ⟨sg g,[],c.b,false,c.eb⟩ else none
open Classical in
noncomputable def s2 (c:WS):Option WS:=if c.g.zZV=true then none else match c.b with
 | x::l=>if En2 (some x) c.g then (QS (some x) c.g).bind fun g=>some ⟨sg g,c.a,l,c.ea,c.eb⟩ else none
 | []=>if c.eb=true then (QS none c.g).bind fun g=>some ⟨sg g,c.a,[],c.ea,false⟩ else none
theorem s1_i {c y:WS} (h:s1 c=some y):c.g.zZV=false∧∃i d l e,nx i c.a c.ea l e∧En1 i c.g∧PKe i c.g=some d∧y=⟨sg d,l,c.b,e,c.eb⟩:=by
 obtain ⟨g,a,b,ea,eb⟩:=c;unfold s1 at h
 split at h
 ·cases h
 rename_i hc
 refine ⟨by simpa using hc,?_⟩
 split at h
 ·rename_i x l e
  change a=x::l at e
  subst e
  split at h
  ·obtain ⟨d,f,h⟩:=bi' h;cases h;exact ⟨some x,d,l,ea,⟨rfl,rfl⟩, ‹_›,f,rfl⟩
  ·cases h
 ·rename_i e
  change a=[] at e
  subst e
  split at h
  ·obtain ⟨d,f,h⟩:=bi' h;cases h;exact ⟨none,d,[],false,⟨rfl,rfl, ‹_›,rfl⟩,fun c=>absurd rfl c,f,rfl⟩
  ·cases h
theorem s2_i {c y:WS} (h:s2 c=some y):c.g.zZV=false∧∃j d l e,nx j c.b c.eb l e∧En2 j c.g∧QS j c.g=some d∧y=⟨sg d,c.a,l,c.ea,e⟩:=by
 obtain ⟨g,a,b,ea,eb⟩:=c;unfold s2 at h
 split at h
 ·cases h
 rename_i hc
 refine ⟨by simpa using hc,?_⟩
 split at h
 ·rename_i x l e
  change b=x::l at e
  subst e
  split at h
  ·obtain ⟨d,f,h⟩:=bi' h;cases h;exact ⟨some x,d,l,eb,⟨rfl,rfl⟩, ‹_›,f,rfl⟩
  ·cases h
 ·rename_i e
  change b=[] at e
  subst e
  split at h
  ·obtain ⟨d,f,h⟩:=bi' h;cases h;exact ⟨none,d,[],false,⟨rfl,rfl, ‹_›,rfl⟩,fun c=>absurd rfl c,f,rfl⟩
  ·cases h
open Classical in
theorem s1_m {g c:zZR} {a b l:List UInt8} {ea eb e:Bool} (hc:g.zZV=false) (hn:nx i a ea l e) (d:En1 i g) (h:PKe i g=some c):s1 ⟨g,a,b,ea,eb⟩=some ⟨sg c,l,b,e,eb⟩:=by
 unfold s1;rw [if_neg (by rw [hc]; simp)]
 cases i with
 | some x =>
  obtain ⟨rfl,rfl⟩:=hn;show (if En1 (some x) g then (PKe (some x) g).bind _ else none)=_;rw [if_pos d,h]; rfl
 | none =>
  obtain ⟨rfl,rfl,rfl,rfl⟩:=hn;show (if true=true then (PKe none g).bind _ else none)=_;rw [if_pos rfl,h]; rfl
open Classical in
theorem s2_m {g c:zZR} {a b l:List UInt8} {ea eb e:Bool} (hc:g.zZV=false) (hn:nx j b eb l e) (d:En2 j g) (h:QS j g=some c):s2 ⟨g,a,b,ea,eb⟩=some ⟨sg c,a,l,ea,e⟩:=by
 unfold s2;rw [if_neg (by rw [hc]; simp)]
 cases j with
 | some x =>
  obtain ⟨rfl,rfl⟩:=hn;show (if En2 (some x) g then (QS (some x) g).bind _ else none)=_;rw [if_pos d,h]; rfl
 | none =>
  obtain ⟨rfl,rfl,rfl,rfl⟩:=hn;show (if true=true then (QS none g).bind _ else none)=_;rw [if_pos rfl,h]; rfl
def Ig (g:zZR) (ea:Bool):Prop:=g.zZV=true∨∃q,g.Queue=some q∧q.z0l.z0d≤64∧(q.z0l.z0N.length:Int)≤q.z0l.z0d∧(0<ql g→g.z0J=true→g.z0r=true)∧(ql g=0→g.z0I=0∧g.z0y=false∧g.z0r=false)∧(g.z0I≠0→g.z0f=true)∧(g.z0y=true→g.z0f=true)∧(¬ idl g.zZT→(q.z0l.z0N.length:Int)<q.z0l.z0d)∧(ea=true→g.z0y=false)
def Iw (c:WS):Prop:=Ig c.g c.ea
def mw (c:WS):Nat:=c.a.length+c.b.length+(if c.ea=true then 1 else 0)+(if c.eb=true then 1 else 0)
theorem nx_m {l b:List UInt8} {e a:Bool} (h:nx i l e b a):b.length+(if a=true then 1 else 0)<l.length+(if e=true then 1 else 0):=by
 cases i with
 | some x=>obtain ⟨rfl,rfl⟩:=h; simp
 | none=>obtain ⟨rfl,rfl,rfl,rfl⟩:=h; simp
theorem room {ea:Bool} (h:g.Queue=some q) (h2:q.z0l.z0d≤64) (a:(q.z0l.z0N.length:Int)≤q.z0l.z0d) (hi:¬ idl g.zZT→(q.z0l.z0N.length:Int)<q.z0l.z0d) (b:En1 i g):i≠none→(q.z0l.z0N.length:Int)<q.z0l.z0d:=fun c =>
 ((ztU h h2 a).1 (b c).2).2.2.elim hi id
theorem Ig_1 {g m:zZR} {a l:List UInt8} {ea e:Bool} (hc:g.zZV=false) (I:Ig g ea) (hn:nx i a ea l e) (j:En1 i g) (h:PKe i g=some m):Ig (sg m) e:=by
 cases r:(sg m).zZV with
 | true=>exact .inl r
 | false =>
  obtain ⟨K,A,B,u⟩:=sg_n r;obtain ⟨q,f,o,p,N,z,C,M,D,H⟩:=I.resolve_left (by rw [hc]; simp);have n:=room (ea:=ea) f o p D j;obtain ⟨L,F,O,w,P,k,b,G,v,s,t,y⟩:=zNo f n o h;rw [f] at s;cases s
  have E:ql g=q.z0l.z0N.length:=by unfold ql; rw [f]
  have J:ql m=v.z0l.z0N.length:=by unfold ql; rw [t]
  rw [A];refine .inr ⟨v,t,by omega,?_,B,fun c=>⟨(u c).1,(u c).2,by rw [w]; exact (z (by omega)).2.2⟩,?_,?_,?_,?_⟩
  ·cases i with
   | none=>have:=(k rfl).2.1; omega
   | some x=>have:=n (by simp); have:=(b (by simp)).2.2; omega
  ·intro c
   cases i with
   | none=>exact (k rfl).2.2.2.1
   | some x =>
    refine (b (by simp)).2.1.elim (fun d=>?_) id;have h0:=((ztU f o p).1 (j (by simp)).2).2.1;rw [d] at c;rw [C c] at h0; cases h0
  ·intro c
   cases i with
   | none=>exact (k rfl).2.2.2.1
   | some x=>rw [(b (by simp)).1,(j (by simp)).1] at c; cases c
  ·intro c
   cases i with
   | none=>exact absurd (k rfl).2.2.2.2 c
   | some x =>
    have:=n (by simp)
    rcases (b (by simp)).2.2 with d|⟨_,d⟩
    ·omega
    ·exact absurd d c
  ·intro c
   cases i with
   | none=>obtain ⟨_,_,_,rfl⟩:=hn; cases c
   | some x=>rw [(b (by simp)).1]; exact (j (by simp)).1
theorem QS_k (h:g.z0J=false):QS j g=QKe j g:=by
 unfold QS; rw [if_neg (by rw [h]; simp)]
theorem QS_0 (h:g.z0J=true):QS none g=some g:=by
 unfold QS; rw [if_pos ⟨rfl,h⟩]
theorem Ig_2 {g e:zZR} {ea:Bool} (hc:g.zZV=false) (I:Ig g ea) (k:En2 j g) (h:QS j g=some e):Ig (sg e) ea:=by
 obtain ⟨q,b,A,B,J,a,p,w,u,r⟩:=I.resolve_left (by rw [hc]; simp)
 by_cases v:j=none∧g.z0J=true
 ·obtain ⟨rfl,hd⟩:=v;rw [QS_0 hd] at h;cases h;rw [zGB J fun c=>⟨(a c).1,(a c).2.1⟩];exact I
 ·have hd:g.z0J=false:=by
   cases d:g.z0J with
   | false=>rfl
   | true =>
    cases j with
    | none=>exact absurd ⟨rfl,d⟩ v
    | some x=>rw [(k (by simp)).1] at d; cases d
  rw [QS_k hd] at h
  cases m:(sg e).zZV with
  | true=>exact .inl m
  | false =>
   obtain ⟨G,C,o,s⟩:=sg_n m;rw [C]
   by_cases n0:0<ql g
   ·obtain ⟨t,l,E,O⟩:=q_c b n0;obtain ⟨H,D,z,f,P,F,M,y,i,n,L⟩:=(QKe_f E hc h).resolve_left (by rw [G]; simp);rw [b] at i;cases i
    have K:ql g=q.z0l.z0N.length:=by unfold ql; rw [b]
    have N:ql e=y.z0l.z0N.length:=by unfold ql; rw [n]
    refine .inr ⟨y,n,by omega,by omega,o,fun c=>⟨(s c).1,(s c).2,F c⟩,by rw [D,z]; exact p,by rw [z,f]; exact w,?_,by rw [f]; exact r⟩;rw [H];intro c;have:=u c;omega
   ·have n0:ql g=0:=by omega
    cases j with
    | some x=>exact absurd (k (by simp)).2 (by omega)
    | none =>
     rw [zIk b (a n0).2.2 hc] at h;cases h;exact .inr ⟨q,b,A,B,o,fun c=>⟨(a n0).1,(a n0).2.1,rfl⟩,p,w,u,r⟩
theorem dia:Dia s1 s2 (fun c:WS=>c.g.zZV=true) (fun c:WS=>c.g.zZ5) mw Iw where
 h1 x y I e:=by
  obtain ⟨hc,i,f,l,ee,n,U,hp,rfl⟩:=s1_i e;refine ⟨Ig_1 hc I n U hp,?_⟩;have:=nx_m n;unfold mw;simp only;omega
 h2 x y I e:=by
  obtain ⟨hc,i,f,l,ee,n,U,hp,rfl⟩:=s2_i e;refine ⟨Ig_2 hc I U hp,?_⟩;have:=nx_m n;unfold mw;simp only;omega
 hc x h:=by
  unfold s1 s2;rw [if_pos h,if_pos h];exact ⟨rfl,rfl⟩
 hd c y z I e1 e2:=by
  obtain ⟨g,a,b,ea,eb⟩:=c;obtain ⟨hc,i,f,P,u,N,o,E,rfl⟩:=s1_i e1;obtain ⟨_,j,A,W,F,O,D,B,rfl⟩:=s2_i e2
  change g.zZV=false at hc
  change En1 i g at o
  change PKe i g=some f at E
  change En2 j g at D
  change QS j g=some A at B
  change nx i a ea P u at N
  change nx j b eb W F at O
  obtain ⟨q,s,J,Y,I4,X,I6,I7,I8,I9⟩:=I.resolve_left (by show ¬ g.zZV=true; rw [hc]; simp)
  change g.Queue=some q at s
  have T:=room (ea:=ea) s J Y I8 o;have pf:=zNo s T J E;obtain ⟨f1,f2,G,f4,f5,f6,f7,f8⟩:=pf
  by_cases sk:j=none∧g.z0J=true
  ·obtain ⟨rfl,hd⟩:=sk;rw [QS_0 hd] at B;cases B;have Z:sg g=g:=zGB I4 fun c=>⟨(X c).1,(X c).2.1⟩;rw [Z];have K:=s1_m (b:=W) (eb:=F) hc N o E
   rcases Bool.eq_false_or_eq_true (sg f).zZV with m|m
   ·exact .inr (.inl ⟨m,_,K,.inr ⟨m,m,rfl⟩⟩)
   ·
    obtain ⟨k1,C,_⟩:=sg_n m;have y1:=s2_m (g:=sg f) (a:=P) (ea:=u) m O (fun c=>absurd rfl c) (QS_0 (by rw [C,G]; exact hd));exact .inl ⟨_,_,y1,K,.inl (by rw [C,C])⟩
  ·have hd:g.z0J=false:=by
    cases d:g.z0J with
    | false=>rfl
    | true =>
     cases j with
     | none=>exact absurd ⟨rfl,d⟩ sk
     | some x=>rw [(D (by simp)).1] at d; cases d
   rw [QS_k hd] at B
   by_cases n0:0<ql g
   ·obtain ⟨t,l,hq,ht⟩:=q_c s n0
    have rm':i≠none→((t::l).length:Int)<q.z0l.z0d:=by rw [← ht]; exact T
    obtain ⟨w,w1,w2,w3⟩:=raw_e hq hc rm' J E B
    have n1':0<ql f:=by omega
    have V:sg f=f:=zGB (fun _ c=>by rw [G,hd] at c; cases c) fun c=>by omega
    have p:f.zZV=false:=by rw [f1]; exact hc
    rw [V];have y1:=s2_m (g:=f) (a:=P) (ea:=u) p O (fun _=>⟨by rw [G]; exact hd,n1'⟩) (by rw [QS_k (by rw [G]; exact hd)]; exact w1)
    cases c2:A.zZV with
    | true =>
     obtain ⟨L,v2⟩:=w2 c2;refine .inr (.inr ⟨by show (sg A).zZV=true; rw [sg_k c2]; exact c2,_,y1,.inr ⟨by show (sg A).zZV=true; rw [sg_k c2]; exact c2,by show (sg w).zZV=true; rw [sg_k L]; exact L,?_⟩⟩);show (sg A).zZ5=(sg w).zZ5;rw [sg_k c2,sg_k L,v2]
    | false =>
     have Q:=w3 c2;obtain ⟨o1,o2,o3,o4,o5,o6,qa,S,o7,R,o9⟩:=(QKe_f hq hc B).resolve_left (by rw [c2]; simp);rw [s] at o7;cases o7
     have g0:ql g=q.z0l.z0N.length:=by unfold ql; rw [s]
     have gg2:ql A=S.z0l.z0N.length:=by unfold ql; rw [R]
     have M:i≠none→(S.z0l.z0N.length:Int)<S.z0l.z0d:=fun c=>by have:=T c; omega
     obtain ⟨L,v2,v3,v4,v5,v6,v7,_⟩:=zNo R M (by omega) Q
     rcases Bool.eq_false_or_eq_true (sg A).zZV with m|m
     ·
      have:=sg_w c2 (by rw [L]; exact c2) m v2 (.inl v3) v4 v5 fun c=>by
       cases i with
       | none=>exact .inr ⟨by have:=(v6 rfl).2.1; omega,(v6 rfl).1,fun _=>(v6 rfl).2.2.1⟩
       | some x =>
        refine .inl ⟨?_,by rw [o4]; exact (o (by simp)).1⟩;have h0:=((ztU s J Y).1 (o (by simp)).2).2.1
        by_cases k:g.z0I=0
        ·rw [o2]; exact k
        ·have:=I6 k
         change g.z0f=true at this
         rw [this] at h0; cases h0
      exact .inr (.inr ⟨m,_,y1,.inr ⟨m,this.1,this.2.symm⟩⟩)
     ·
      obtain ⟨_,C,_⟩:=sg_n m;rw [C];have en:En1 i A:=fun c=>⟨by rw [o4]; exact (o c).1,(ztU R (by omega) (by omega)).2 ⟨c2,by rw [o3]; exact ((ztU s J Y).1 (o c).2).2.1,.inr (M c)⟩⟩;exact .inl ⟨_,_,y1,s1_m c2 N en Q,.inl rfl⟩
   ·have n0:ql g=0:=by omega
    have v:=X n0
    cases j with
    | some x=>exact absurd (D (by simp)).2 (by omega)
    | none =>
     rw [zIk s v.2.2 hc] at B;cases B;have Q:=PKe_d E true false g.z0t g.z0u;have sg2:sg (uF g true false g.z0t g.z0u)=uF g true false g.z0t g.z0u:=zGB (fun c=>by change 0<ql g at c; omega) fun _=>⟨v.1,v.2.1⟩;rw [sg2];have K:=s1_m (g:=uF g true false g.z0t g.z0u) (b:=W) (eb:=F) hc N o Q
     have H:f.z0r=false:=by rw [f4]; exact v.2.2
     have p:f.zZV=false:=by rw [f1]; exact hc
     rcases Bool.eq_false_or_eq_true (sg f).zZV with m|m
     ·
      have q0:ql f=0:=by
       by_cases c:ql f=0
       ·exact c
       ·have:sg f=f:=zGB (fun _ c=>by rw [G,hd] at c; cases c) fun d=>absurd d c;rw [this,p] at m; cases m
      have:=sg_w (w:=uF f true false g.z0t g.z0u) p p m rfl (.inr ⟨q0,q0⟩) H.symm (Nat.le_refl _) fun _ => .inr ⟨q0,rfl,id⟩;exact .inr (.inl ⟨m,_,K,.inr ⟨m,this.1,this.2.symm⟩⟩)
     ·
      obtain ⟨_,C,_⟩:=sg_n m;rw [C];have y1:=s2_m (g:=f) (a:=P) (ea:=u) p O (fun c=>absurd rfl c) (by rw [QS_k (by rw [G]; exact hd)]; obtain ⟨_,q2,_,hq2,_⟩:=f8; exact zIk hq2 H p);refine .inl ⟨_,_,y1,K,.inl ?_⟩
      have l1:f.z0t=g.z0t∧f.z0u=g.z0u:=by
       cases i with
       | none=>cases E; exact ⟨rfl,rfl⟩
       | some x =>
        obtain ⟨r,_,rfl⟩:=om_i E;exact ⟨rfl,rfl⟩
      rw [l1.1,l1.2]
end Go.Dm
end
section
namespace Go.Dm
variable {s:Str} {i:Int} {G:Prop} {c:UInt8} {a b:Str}
def pln:Str→Str→Str
 | o,[]=>o
 | o,c::t=>if o=[]∧c=48 then pln [] t else pln (o++[c]) t
def plf (o:Str):Str:=if o=[] then [48] else o
theorem pln_n (o:Str):pln o []=o:=rfl
theorem zNu (o:Str) (c:UInt8) (t:Str):pln o (c::t)=if o=[]∧c=48 then pln [] t else pln (o++[c]) t:=rfl
theorem pln_o:∀(t o:Str),o≠[]→pln o t=o++t
 | [],o,_=>by rw [pln_n,List.append_nil]
 | c::t,o,h=>by
  rw [zNu,if_neg (fun e=>h e.1),pln_o t _ (by simp)]; simp
theorem dec_hd (k:Nat):1≤k→∃c t,Go.Lib.decDigits k=c::t∧c≠48:=by
 induction k using Nat.strongRecOn with
 | _ k a =>
  intro b;rw [Go.Lib.decDigits]
  split
  ·rename_i h
   refine ⟨_,_,rfl,?_⟩;intro e;have:=(zH0 h).2;rw [e] at this;have:(48:UInt8).toNat=48:=rfl;omega
  ·obtain ⟨c,t,e,hc⟩:=a (k/10) (by omega) (by omega);rw [e]; exact ⟨c,_,rfl,hc⟩
theorem pln_s {m:Int} (h:zhx s m):plf (pln [] s)=s:=by
 obtain ⟨k,_,rfl⟩:=h
 by_cases a:k=0
 ·subst a
  have:Go.Lib.decDigits 0=[48]:=by rw [Go.Lib.decDigits]; rfl
  rw [this]; rfl
 ·obtain ⟨c,t,e,hc⟩:=dec_hd k (by omega);rw [e,zNu,if_neg (fun e=>hc e.2),List.nil_append,pln_o _ _ (by simp)];rfl
theorem dgs_b (b:UInt8) (k:Int) (h:k=(b.toNat:Int)-48) (a:zce b=true):Go.Lib.decDigits k.toNat=[b]∧(0<k↔¬ b=48):=by
 have c:=zH1 b a;subst h
 have e:((b.toNat:Int)-48).toNat=b.toNat-48:=by omega
 rw [e,Go.Lib.decDigits,dif_pos (by omega),show 48+(b.toNat-48)=b.toNat by omega];refine ⟨by simp,?_⟩;have:b=48↔b.toNat=48:=⟨fun e=>by subst e; rfl,fun e=>UInt8.toNat_inj.1 e⟩;rw [this]; omega
theorem less_s {m:Int} (o:m=255∨m=65535) (h:zhx s m) :
  ¬ (Go.Lib.decDigits m.toNat).length<s.length∧((Go.Lib.decDigits m.toNat).length=s.length→zjs (Go.Lib.decDigits m.toNat) s=false)∧s.length≤5:=by
 have l:Go.Lib.decDigits 255=[50,53,53]:=by simp [Go.Lib.decDigits]
 have n:Go.Lib.decDigits 65535=[54,53,53,51,53]:=by simp [Go.Lib.decDigits]
 obtain ⟨h1,h2,q,i,_⟩:=zzn h;obtain ⟨k,r,g⟩:=h;have dr:∀b∈s,48≤b.toNat∧b.toNat≤57:=fun b j=>zH1 b (List.all_eq_true.1 h1 b j);have lt:∀a b:UInt8,(a<b)↔a.toNat<b.toNat:=fun a b=>Iff.rfl
 rcases o with rfl|rfl
 ·have p:s.length≤3:=by rw [g]; exact zKR k 3 (by decide) (by omega)
  simp only [show (255:Int).toNat=255 from rfl,l,List.length_cons,List.length_nil];refine ⟨by omega,fun f=>?_,by omega⟩
  match s,f with
  | [a,b,c],_ =>
   have:=dr a (by simp); have:=dr b (by simp); have:=dr c (by simp);simp only [dvI] at i;simp only [zjs,Bool.or_eq_false_iff,Bool.and_eq_false_iff,decide_eq_false_iff_not,lt,beq_eq_false_iff_ne,ne_eq, ← UInt8.toNat_inj];simp at *; omega
 ·have p:s.length≤5:=by rw [g]; exact zKR k 5 (by decide) (by omega)
  simp only [show (65535:Int).toNat=65535 from rfl,n,List.length_cons,List.length_nil];refine ⟨by omega,fun f=>?_,by omega⟩
  match s,f with
  | [a,b,c,d,e],_ =>
   have:=dr a (by simp); have:=dr b (by simp); have:=dr c (by simp); have:=dr d (by simp); have:=dr e (by simp);simp only [dvI] at i;simp only [zjs,Bool.or_eq_false_iff,Bool.and_eq_false_iff,decide_eq_false_iff_not,lt,beq_eq_false_iff_ne,ne_eq, ← UInt8.toNat_inj];simp at *; omega
def allS (l:List Str):Prop:=∀x∈l,zhx x 255
theorem allS_n:allS []:=fun x h=>by cases h
theorem allS_c (x:Str) (l:List Str):allS (x::l)↔zhx x 255∧allS l:=by simp [allS]
theorem four_e (s:Str):zmB s↔(zx 46 s).length=4∧allS (zx 46 s):=Iff.rfl
theorem GT_n (a:Int):GT [] a↔a=8:=⟨fun ⟨k,h1,h2⟩=>by have:=(zKS true k).1 h1; omega,GT_e⟩
theorem GT_c (s:Str) (l:List Str) (a:Int):GT (s::l) a↔(l=[]∧zmB s∧a=6)∨(zsf s=true∧GT l (a+1)):=by
 constructor
 ·rintro ⟨k,h1,h2⟩;rw [zKT] at h1
  rcases h1 with ⟨_,rfl,rfl,h⟩|⟨h,h1,g⟩
  ·exact .inl ⟨rfl,h,by omega⟩
  ·exact .inr ⟨h,k-1,g,by omega⟩
 ·rintro (⟨rfl,h,rfl⟩|⟨h,g⟩)
  ·exact ⟨2,.four s h,rfl⟩
  ·exact GT_h h g
theorem elt_d {l:List Str} (h0:0≤i) (h:i<l.length):dr l i=elt l i::dr l (i+1):=by
 have a:i.toNat<l.length:=by omega
 have:lAt l i=some l[i.toNat]:=by simp [lAt,h0,a]
 rw [zK1 this]; exact zGN h0 (by simp [a])
theorem GT_x {l:List Str} {i a:Int} (h0:0≤i) (h:i<l.length) (b:zsf (elt l i)=false) (hi:i≠(l.length:Int)-1∨¬ zmB (elt l i)):¬ GT (dr l i) a:=by
 rw [elt_d h0 h,GT_c];rintro (⟨e,c,_⟩|⟨e,_⟩)
 ·rcases hi with hi|hi
  ·have:=zaU (l:=l) (i:=i+1) (by omega) (by omega);rw [e] at this; simp at this; omega
  ·exact hi c
 ·rw [b] at e; cases e
theorem GT_8 (l:List Str):Grp true l 8↔GT l 0:=⟨fun h=>⟨8,h,rfl⟩,GT_0⟩
theorem hex_no {x:Str} (h:dr x i=c::dr x (i+1)) (hc:zlr c=false):zsf x=false:=by
 have a:c∈x:=by rw [← zDi x i,h]; simp
 unfold zsf;rw [Bool.and_eq_false_iff,Bool.and_eq_false_iff]
 left; left
 rw [List.all_eq_false];exact ⟨c,a,by rw [hc]; exact Bool.false_ne_true⟩
theorem hex_ln {x:Str} (h:x.length<1∨4<x.length):zsf x=false:=by
 unfold zsf;rw [Bool.and_eq_false_iff,Bool.and_eq_false_iff]
 rcases h with h|h
 ·left; right; exact decide_eq_false (by omega)
 ·right; exact decide_eq_false (by omega)
def wz (a b:Str) (n:Int):Prop:=Grp true (spt a++List.replicate n.toNat [48]++spt b) 8
def sxW (a b:Str) (i:Int):Prop:=∃n:Int,i≤n∧n≤8∧wz a b n
theorem sxW_9 (h:8<i):¬ sxW a b i:=fun ⟨n,h1,h2,_⟩=>by omega
theorem sxW_s (h:i≤8):sxW a b i↔wz a b i∨sxW a b (i+1):=by
 constructor
 ·rintro ⟨n,h1,h2,c⟩
  by_cases e:n=i
  ·exact .inl (e▸c)
  ·exact .inr ⟨n,by omega,h2,c⟩
 ·rintro (c|⟨n,h1,h2,c⟩)
  ·exact ⟨i,Int.le_refl _,h,c⟩
  ·exact ⟨n,by omega,h2,c⟩
theorem grp_z:∀n:Nat,Grp false (List.replicate n [48]) n
 | 0 => .nil _
 | n+1=>by rw [List.replicate_succ]; exact .hex _ _ _ _ (by decide) (grp_z n)
theorem sxW_1:sixW a b↔sxW a b 1:=by
 constructor
 ·rintro ⟨i,j,h1,h2,c⟩;refine ⟨((8-i-j:Nat):Int),by omega,by omega,?_⟩;unfold wz;rw [List.append_assoc];have:=Grp.app (Grp.app h2 (grp_z (8-i-j))) h1;rw [show i+(8-i-j+j)=8 by omega] at this;simpa using this
 ·rintro ⟨n,h1,h2,c⟩;exact zQS (n:=n.toNat) (by omega) c
theorem SZ_w {i n:Int} {t:Str} (c:SZ s i n t) (hn:1≤n):(dr s (i+2)=[]→(Grp true (zx 58 t) 8↔wz (tk s i) (dr s (i+2)) n)) ∧
  (dr s (i+2)≠[]→(Grp true (zx 58 ((t++[58])++dr s (i+2))) 8↔wz (tk s i) (dr s (i+2)) n)):=by
 unfold SZ at c
 have a:t≠[]:=by
  rintro rfl;have:(spt []).length=0:=rfl;rw [c] at this; simp at this; omega
 unfold wz;rw [← c];generalize dr s (i+2)=b;constructor
 ·rintro rfl;have e:spt []=[]:=rfl;rw [e,List.append_nil];unfold spt; rw [if_neg a]
 ·intro d;have:=zHZ (t:=t) (x:=b) d;rw [if_neg a] at this;rw [← this];unfold spt;rw [if_neg (by simp)]
theorem zP1 (h:(dr s i).length≤1):zrx s i↔Grp true (zx 58 s) 8:=by
 have:zmC (dr s i)=none:=by
  match dr s i,h with
  | [],_=>rfl
  | [c],_=>simp [zmC]
 unfold zrx; rw [this]
theorem zKq (h0:0≤i) (h:dr s i=c::dr s (i+1)) (hc:c≠58∨∀t,dr s (i+1)≠58::t):zrx s i↔zrx s (i+1):=by
 refine ⟨fun d=>?_,sixA_s h0 h hc⟩
 have e:zmC (dr s i)=(zmC (dr s (i+1))).map fun p=>(c::p.1,p.2):=by
  rw [h]; exact zmC.eq_2 _ _ (fun t a b=>by rcases hc with hc|hc; exact hc a; exact hc t b)
 unfold zrx at d ⊢;rw [e] at d
 cases f:zmC (dr s (i+1)) with
 | none=>rw [f] at d; exact d
 | some p =>
  rw [f] at d;simp only [Option.map_some] at d;show sixW (tk s (i+1)++p.1) p.2;rw [zyW h0 h,List.append_assoc]; exact d
theorem sixA_2 {c d:UInt8} (h0:0≤i) (h:dr s i=c::dr s (i+1)) (h2:dr s (i+1)=d::dr s (i+1+1)) (hc:¬ (c=58∧d=58)):zrx s i↔zrx s (i+1) :=
 zKq h0 h (by
  by_cases e:c=58
  ·right; intro t a; rw [h2] at a; exact hc ⟨e,(List.cons.inj a).1⟩
  ·exact .inl e)
theorem sixA_1 (h0:0≤i) (h:dr s i=c::dr s (i+1)) (hc:¬ c=58):zrx s i↔zrx s (i+1):=zKq h0 h (.inl hc)
theorem zP2 (h0:0≤i) (h:dr s i=58::dr s (i+1)) (h2:dr s (i+1)=58::dr s (i+1+1)):zrx s i↔sxW (tk s i) (dr s (i+2)) 1:=by
 rw [← sxW_1];unfold zrx;rw [h,h2,show i+1+1=i+2 by omega];simp only [zmC,List.append_nil]
theorem sixA_i (s:Str):zvw s↔zrx s 0:=by
 refine ⟨fun h=>?_,sixA_0⟩;unfold zvw at h;unfold zrx;rw [zf5]
 cases e:zmC s with
 | none =>
  rw [e] at h;unfold spt at h
  by_cases a:s=[]
  ·subst a;rw [if_pos rfl,zKS] at h; cases h
  ·rw [if_neg a] at h; exact h
 | some p=>rw [e] at h; exact h
theorem nm_sh (h:dr s i=37::dr s (i+1)) (h0:0≤i) (b:(s.length:Int)≤i+2):zjq (dr s i)=false:=by
 rw [h]
 have:(dr s (i+1)).length≤1:=by simp [dr]; omega
 match dr s (i+1),this with
 | [],_=>exact (zJQ 0).2
 | [a],_=>exact (zJQ a).1
theorem nm_h {a:UInt8} (h:dr s i=37::dr s (i+1)) (d:dr s (i+1)=a::dr s (i+1+1)) (c:zlr a=false):zjq (dr s i)=false:=by
 rw [h,d]
 match dr s (i+1+1) with
 | []=>exact (zJQ a).1
 | b::t=>rw [nm_p,c]; simp
theorem nm_oo (h:dr s i=c::dr s (i+1)) (hc:c≠37):zjq (dr s i)=((zqE c||zEm c)&&zjq (dr s (i+1))):=by rw [h,nm_o _ _ hc]
theorem zP3 (h:58∉s):¬ zuJ s:=fun e=>h (zIJ e).1
theorem dvI_p (h:dgs s=true):dvI 0 s=((dvI 0 s).toNat:Int):=by have:=zJP s 0 (Int.le_refl _) h; omega
theorem goE1 (h:G:=by
 (with_reducible repeat' first|intro _|refine And.intro ?_ ?_|refine Wf ?_ ?_|refine Wi ?_ ?_|refine Ws ?_|refine Wc ?_ ?_|refine Wo ?_ ?_|refine Wk ?_|refine We ?_ ?_)
 all_goals (try simp only [List.length_cons,List.length_nil])
 all_goals grind [cd48, → dgs_b,zKf,zM6,dgs_a,pln_n,zNu,plf,fuel,zf5,zba,zaU,zkv]):G:=h
theorem goE2 (h:G:=by
 (with_reducible repeat' first|intro _|refine And.intro ?_ ?_|refine Wf ?_ ?_|refine Wi ?_ ?_|refine Ws ?_|refine Wc ?_ ?_|refine Wo ?_ ?_|refine Wk ?_|refine We ?_ ?_)
 all_goals (try simp only [List.length_cons,List.length_nil])
 all_goals grind [dvI_p,pln_s, → less_s, → zzn,zK2,zO7,dec_d,cd48,zKf,plf,fuel,zb5,zcV,zf5,zba,zaU,zbk,zaG,Sm]):G:=h
theorem goE3 (h:G:=by
 (with_reducible repeat' first|intro _|refine And.intro ?_ ?_|refine Wf ?_ ?_|refine Wi ?_ ?_|refine Ws ?_|refine Wc ?_ ?_|refine Wo ?_ ?_|refine Wk ?_|refine We ?_ ?_)
 all_goals (try simp only [List.length_cons,List.length_nil])
 all_goals grind [zId,allS_n,allS_c,four_e,GT_n,GT_c,GT_x,GT_8,zBl,hex_no,hex_ln,hex_i,hxs_a,hxs_1,hxs_0,elt_m, → zK1,zyW,zxn,zkv,fuel,zb5,zcV,zf5,zba,zaU,zbk,zaG,Sm]):G:=h
theorem goE4 (h:G:=by
 (with_reducible repeat' first|intro _|refine And.intro ?_ ?_|refine Wf ?_ ?_|refine Wi ?_ ?_|refine Ws ?_|refine Wc ?_ ?_|refine Wo ?_ ?_|refine Wk ?_|refine We ?_ ?_)
 all_goals (try simp only [List.length_cons,List.length_nil])
 all_goals grind [sxW_9,sxW_s,SZ_0, → SZ_a, → SZ_b, → SZ_w,zP1,sixA_2,sixA_1,zP2,sixA_i,GT_8,zxn,zkv,fuel,zb5,zcV,zf5,zba,zaU,List.append_assoc,zbk,zaG,Sm]):G:=h
theorem goE5 (h:G:=by
 (with_reducible repeat' first|intro _|refine And.intro ?_ ?_|refine Wf ?_ ?_|refine Wi ?_ ?_|refine Ws ?_|refine Wc ?_ ?_|refine Wo ?_ ?_|refine Wk ?_|refine We ?_ ?_)
 all_goals (try subst_vars)
 all_goals (try simp only [List.length_cons,List.length_nil])
 all_goals grind [nm_e,nm_3,nm_oo,nm_sh,nm_h,zkv,fuel,zb5,zcV,zf5,zba,zaU,zbk,zaG,Sm]):G:=h
theorem goE6 (h:G:=by
 (with_reducible repeat' first|intro _|refine And.intro ?_ ?_|refine Wf ?_ ?_|refine Wi ?_ ?_|refine Ws ?_|refine Wc ?_ ?_|refine Wo ?_ ?_|refine Wk ?_|refine We ?_ ?_)
 all_goals (try simp only [List.length_cons,List.length_nil])
 all_goals grind [zL9,zMa,zP3, → zzX, → zII,no_58,zyW,zxn,zyX,zkv,fuel,zb5,zcV,zf5,zba,zaU,zbk,zaG,Sm]):G:=h
end Go.Dm
end
