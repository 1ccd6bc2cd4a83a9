/-
 What is known of the models' data, and how totality by conditions is shown: by splitting and grind. No program in sight.
 Splitting and grind with what names and lists are. No program in sight.
 Hosts, paths and targets: what splitting and grind take to show that the program takes what may be. No program in sight.
 Targets: what splitting and grind take to show that the program takes what may be. No program in sight.
 The document's hosts, targets and heads: what splitting and grind take to show that what it takes may be. No program in sight.
 The document's targets and heads: what splitting 
-/
import Derived.Test.YtkmnihnifdcigaaGreatDoorYM
import Derived.Test.YtkmnihnifdcigaaGreatDoorTWL
import Derived.Test.YtkmnihnifdcigaaGreatDoorP1
set_option linter.unusedVariables false
set_option linter.unusedSimpArgs false
section
set_option linter.unusedVariables false
namespace Go.Dm
def Sm (l:List Str):Prop:=l.length<1000000000000∧∀s∈l,s.length<1000000000
def Ss (l:List Str):Prop:=l.length≤10000∧∀s∈l,s.length≤70000000
def Fv (l:List zWQ):Prop:=∀f∈l,f.Name.length≤70000000∧f.Value.length≤70000000
def Fm (l:List zWQ):Prop:=l.length≤10000∧Fv l
def Cw (c:zWW):Prop:=0≤c.zXj∧c.zXj≤c.zXI.length∧c.zXI.length<1000000000
def Pw (p:zW6):Prop:=Cw p.Scanner∧0≤p.zXO∧p.zXO≤p.Scanner.zXj∧p.zXI=p.Scanner.zXI∧p.zW8.length≤p.Scanner.zXj∧∀s∈p.zW8,s.length≤p.zXI.length
def Tm (t:zXm):Prop:=t.Scheme.length≤70000000∧t.Host.Name.length≤10000000 ∧ -1≤t.Host.Port∧t.Host.Port≤65535∧t.Path.length≤70000001∧t.Query.length≤70000001
def Swm (l:List zW3):Prop:=l.length≤10000∧∀x∈l,x.From.length≤1000∧x.To.length≤1000
def Um (r:zXc):Prop:=r.Scheme.length<1000000000∧r.Auth.length<1000000000∧r.Path.length<1000000000∧r.Query.length<1000000000∧r.Frag.length<1000000000
def Ac (c:zW7):Prop:=c.Name.length<1000000000∧c.Value.length<1000000000∧c.Attrs.length<10000000000∧∀a∈c.Attrs,a.Name.length<1000000000∧a.Value.length<1000000000
def Km (c:zW7):Prop:=c.Name.length≤7500∧c.Value.length≤7500∧c.Attrs.length≤3002∧∀a∈c.Attrs,a.Name.length≤7500∧a.Value.length≤7500
def Gm (g:zXx):Prop:=g.Name.length<1000000000∧g.Value.length<1000000000
def Pm (l:List zXf):Prop:=l.length≤10000∧∀p∈l,p.Value.length≤70000000
def Rt (r:zXl):Prop:=Cw r.Scanner∧r.zW8.length≤r.Scanner.zXj∧∀p∈r.zW8,p.Text.length≤r.Scanner.zXj
def Tp (l:List zWR):Prop:=l.length≤1000∧∀p∈l,p.Text.length≤10000
def Rm (r:zWU):Prop:=r.Name.length≤10000∧r.To.length≤10000∧r.Guard.Name.length≤10000∧r.Guard.Value.length≤10000∧Tp r.Parts
def Rl (l:List zWU):Prop:=l.length≤10000∧∀r∈l,Rm r
def Om (o:zXD):Prop:=o.Name.length≤10000∧o.Text.length≤10000∧Tp o.Parts∧0≤o.N∧o.N≤10000
def Ol (l:List zXD):Prop:=∀o∈l,Om o
def vals (n:Str):List zWQ→List Str
 | []=>[]
 | f::l=>if low f.Name=low n then f.Value::vals n l else vals n l
theorem zPh {n m:Str} (h:low n=low m) (l:List zWQ):vals n l=vals m l:=by
 induction l with
 | nil=>rfl
 | cons f l ih=>simp only [vals,h,ih]
def conn:Str:=[99,111,110,110,101,99,116,105,111,110]
theorem zKH (l:List zWQ):vals [67,111,110,110,101,99,116,105,111,110] l=vals conn l:=zPh (by decide) l
def nom (l:List zWQ):List Str:=nmB [] (vals conn l)
def zIm:List Str:=[conn,[99,111,110,116,101,110,116,45,108,101,110,103,116,104],[107,101,101,112,45,97,108,105,118,101],[112,114,111,120,121,45,99,111,110,110,101,99,116,105,111,110],[116,101],[116,114,97,105,108,101,114],[116,114,97,110,115,102,101,114,45,101,110,99,111,100,105,110,103],[117,112,103,114,97,100,101]]
def inN (n:Str) (l:List Str):Bool:=l.any fun s=>low s==low n
def zxJ (u:List Str) (l:List zWQ):List zWQ:=l.filter fun f => !inN f.Name u
theorem zPj (u:List Str):zxJ u []=[]:=rfl
theorem zPk (u:List Str) (f:zWQ) (l:List zWQ):zxJ u (f::l)=if inN f.Name u=true then zxJ u l else f::zxJ u l:=by
 unfold zxJ; rw [List.filter_cons]; cases inN f.Name u<;>rfl
theorem zPl (u:List Str) (l m:List zWQ):zxJ u (l++m)=zxJ u l++zxJ u m:=List.filter_append ..
theorem Wo {α β:Type} {o:Option α} {a:Option β} {f:α→Option β} {P:β→Prop} (h:o=none→W a P) (h2:∀x,o=some x→W (f x) P):W (Go.Rk.optK o a f) P:=by
 cases o with
 | none=>exact h rfl
 | some x=>exact h2 x rfl
theorem goz {G:Prop} (h:G:=by grind [Sm,Ss,Fv,Fm,Cw,Pw,Tm,Swm,Um,Ac,Km,Gm,Pm,Rt,Tp,Rm,Rl,Om,Ol]):G:=h
theorem go {G:Prop} (h:G:=by
 (with_reducible repeat' first|intro _|refine And.intro ?_ ?_|refine Wf ?_ ?_|refine Wi ?_ ?_|refine Ws ?_|refine Wc ?_ ?_|refine Wo ?_ ?_|refine Wk ?_|refine We ?_ ?_)
 all_goals (try simp only [List.length_cons,List.length_nil])
 all_goals grind [fuel,zb0,zct,zfZ,zam,zaR,List.append_assoc,vals,zau,zS,ze7,Sm,Ss,Fv,Fm,Cw,Pw,Tm,Swm,Um,Ac,Km,Gm,Pm,Rt,Tp,Rm,Rl,Om,Ol,UInt8.toNat_lt]):G:=h
theorem go1 {G:Prop} (h:G:=by
 (with_reducible repeat' first|intro _|refine And.intro ?_ ?_|refine Wf ?_ ?_|refine Wi ?_ ?_|refine Ws ?_|refine Wc ?_ ?_|refine Wo ?_ ?_|refine Wk ?_|refine We ?_ ?_)
 all_goals (try simp only [List.length_cons,List.length_nil])
 all_goals grind (gen:=12) (ematch:=12) [fuel,zb0,zct,zfZ,zam,zaR,List.append_assoc,vals,zau,zS,ze7,Sm,Ss,Fv,Fm,Cw,Pw,Tm,Swm,Um,Ac,Km,Gm,Pm,Rt,Tp,Rm,Rl,Om,Ol,UInt8.toNat_lt]):G:=h
end Go.Dm
end
section
set_option linter.unusedVariables false
namespace Go.Dm
theorem ans_1 (o:Option (List Str)):(ans o).1=o.getD []:=by cases o<;>rfl
theorem tk_tk {α:Type} {l m:List α} {i:Int} (h0:0≤i) (h:i≤l.length):tk (l.take i.toNat++m) i=tk l i:=by
 unfold tk;rw [List.take_append_of_le_length (by simp; omega),List.take_take,Nat.min_self]
theorem goN {G:Prop} (h:G:=by
 (with_reducible repeat' first|intro _|refine And.intro ?_ ?_|refine Wf ?_ ?_|refine Wi ?_ ?_|refine Ws ?_|refine Wc ?_ ?_|refine Wo ?_ ?_|refine Wk ?_|refine We ?_ ?_)
 all_goals (try simp only [List.length_cons,List.length_nil])
 all_goals grind [ans_1,tk_tk,ans,zOT,zMG,tkR_0,nmA,nmB,inN,zPj,zPk,zPl,zfY,nom,zKH,tk_set,dr_set,zx3,zCO,zwU,sb_0,sb_s,zx4,zzy,fuel,zb0,zct,zfZ,zam,zaR,List.append_assoc,vals,zau,zS,ze7,Sm,Ss,Fv,Fm,Cw,Pw,Tm,Swm,Um,Ac,Km,Gm,Pm,Rt,Tp,Rm,Rl,Om,Ol,UInt8.toNat_lt]):G:=h
end Go.Dm
end
section
set_option linter.unusedVariables false
namespace Go.Dm
theorem zDd {n m:Int} (h0:0≤n) (h:n≤m):zha (Go.Lib.decDigits n.toNat) m:=⟨n.toNat,by omega,rfl⟩
def dgs (s:Str):Bool:=s.all zbQ
theorem zJr:dgs []=true:=rfl
theorem zLD (c:UInt8) (s:Str):dgs (c::s)=(zbQ c&&dgs s):=List.all_cons
theorem dgs_a (s t:Str):dgs (s++t)=(dgs s&&dgs t):=List.all_append
theorem dgs_g {g:UInt8→Bool} (s:Str) (h:g=zbQ):s.all g=dgs s:=by subst h; rfl
theorem dec_d (n:Nat):dgs (Go.Lib.decDigits n)=true:=zy1 n
theorem zLE (s:Str) (a:Int) (h0:0≤a) (h:dgs s=true):dvI a s=a+((dvI a s-a).toNat:Int):=by have:=zH5 s a h0 h; omega
theorem zyT {s:Str} {m:Int} (h:zha s m):dgs s=true∧s≠[]∧0≤dvI 0 s∧dvI 0 s≤m∧Go.Lib.decDigits (dvI 0 s).toNat=s:=by
 obtain ⟨n,hn,rfl⟩:=h;rw [zOW];exact ⟨zy1 n,zMO n,by omega,hn,rfl⟩
theorem six_c {s:Str} (h:zut s):((Go.Lib.cut s [58,58]).2.2=false∧Grp true (spt s) 8) ∨
  ((Go.Lib.cut s [58,58]).2.2=true∧∃n m,Grp false (spt (Go.Lib.cut s [58,58]).1) n∧Grp true (spt (Go.Lib.cut s [58,58]).2.1) m∧n+m≤7):=by
 unfold zut at h;rw [zDx]
 cases e:zmc s with
 | none=>rw [e] at h; exact .inl ⟨rfl,h⟩
 | some p=>rw [e] at h; exact .inr ⟨rfl,h⟩
def pct:Str→Bool
 | 37::a::b::_=>zk3 a&&zk3 b
 | _=>false
theorem nm_pct {s:Str} (h:pct s=true):3≤s.length∧ziV s=ziV (dr s 3):=by
 unfold pct at h
 split at h
 ·rename_i a b t
  rw [nm_p,h]; simp [dr]
 ·cases h
theorem nm_no {s:Str} {c:UInt8} (h:pct s=false) (hc:dr s 0=c::dr s (0+1)):ziV s=((zqD c||zDr c)&&ziV (dr s 1)):=by
 have e:s=c::dr s 1:=hc;have k:=zr9
 by_cases h37:c=37
 ·subst h37;rw [k.1,k.2.1,Bool.or_self,Bool.false_and];obtain ⟨t,rfl⟩:∃t,s=37::t:=⟨_,e⟩
  clear e hc
  match t,h with
  | [],_=>exact (zH6 0).2
  | [a],_=>exact (zH6 a).1
  | a::b::t,h=>rw [nm_p]; simp only [pct] at h; rw [h,Bool.false_and]
 ·conv=>lhs; rw [e]
  exact nm_o _ _ h37
theorem zLF {s m:Str} (h:s=91::m++[93]) (hm:m≠[]):2<(s.length:Int)∧sAt s 0=some 91∧sAt s ((s.length:Int)-1)=some 93∧sb s 1 ((s.length:Int)-1)=m:=by
 have hl:1≤m.length:=by cases m with
  | nil=>exact absurd rfl hm
  | cons a b=>simp
 have e:s.length=m.length+2:=by rw [h]; simp
 have e2:((s.length:Int)-1).toNat=m.length+1:=by omega
 refine ⟨by omega,by rw [h]; rfl,?_,?_⟩
 ·unfold sAt;rw [if_pos (by omega),e2,h]; simp
 ·unfold sb;rw [e2,h]; simp
theorem zyU {s:Str} {c:UInt8} (h:sAt s ((s.length:Int)-1)=some c):∃m,s=m++[c]:=by
 unfold sAt at h
 split at h
 ·rename_i h0
  have e:((s.length:Int)-1).toNat=s.length-1:=by omega
  have hl:s.length-1<s.length:=by omega
  rw [e,List.getElem?_eq_getElem hl] at h
  have hne:s≠[]:=by rintro rfl; simp at hl
  refine ⟨s.dropLast,?_⟩;rw [← Option.some.inj h, ← List.getLast_eq_getElem hne];exact (List.dropLast_concat_getLast hne).symm
 ·cases h
theorem zJs {s:Str} (h:zmb s):(58:UInt8)∉s:=fun e=>by
 rcases zOX h 58 e with e|e
 ·revert e; decide
 ·rw [zr9.2.2.2.2.2.1] at e; cases e
theorem zLG {s:Str} (h:zoy s):(2<(s.length:Int)∧sAt s 0=some 91∧sAt s ((s.length:Int)-1)=some 93∧zut (sb s 1 ((s.length:Int)-1)))∨zmb s∨(s≠[]∧ziV s=true):=by
 rcases h with ⟨m,hm,e,h6⟩|h
 ·have:=zLF e hm;exact .inl ⟨this.1,this.2.1,this.2.2.1,this.2.2.2.symm▸h6⟩
 ·exact .inr h
theorem pct_s {s:Str} {c:UInt8} (h:3≤(s.length:Int)) (hc:dr s 0=c::dr s (0+1)):pct s=(c==37&&(sb s 1 3).all zk3):=by
 match s,h with
 | [],h=>simp at h
 | [_],h=>simp at h
 | [_,_],h=>simp at h
 | x::a::b::t,_ =>
  have:x=c:=by simpa [dr] using hc
  subst this;have e:sb (x::a::b::t) 1 3=[a,b]:=rfl;rw [e]
  by_cases h:x=37
  ·subst h; simp [pct]
  ·have:(x==37)=false:=by simpa using h
   rw [this,Bool.false_and]; unfold pct; split
   ·rename_i h2; exact absurd (List.cons.inj h2).1 h
   ·rfl
theorem pct_l {s:Str} (h:(s.length:Int)<3):pct s=false:=by
 unfold pct; split
 ·simp at h; omega
 ·rfl
theorem nm_e:ziV []=true:=rfl
theorem zzg {s:Str} {c:UInt8} {i:Int} (h0:0≤i) (h:dr s i=c::dr s (i+1)):c∈s∧s=tk s i++c::dr s (i+1):=by
 have:=zCO s i;rw [h] at this;exact ⟨by rw [← this]; simp,this.symm⟩
theorem zHH {s:Str} {i:Int} (hp:zpn s) (h0:0≤i) (h:dr s i=58::dr s (i+1)) (hn:(58:UInt8)∉dr s (i+1)):zoy (tk s i)∧zha (dr s (i+1)) 65535:=by
 obtain ⟨a,p,e,h1,h2,h3⟩:=hp;obtain ⟨rfl,rfl⟩:=zMS ((zzg h0 h).2.symm.trans e) hn h1;exact ⟨h2,h3⟩
theorem zHI {s:Str} (hp:zpn s):(58:UInt8)∈s∧∀m,s≠m++[93]:=by
 obtain ⟨a,p,rfl,h1,h2,h3⟩:=hp;refine ⟨by simp,fun m e=>?_⟩;have hd:=(zDy h3).1
 obtain ⟨q,x,rfl⟩:∃q x,p=q++[x]:=by
  have:=(zDy h3).2;exact ⟨p.dropLast,p.getLast this,(List.dropLast_concat_getLast this).symm⟩
 have e2:(a++58::q)++[x]=m++[93]:=by simpa using e
 have:=(List.append_inj' e2 rfl).2;simp at this; subst this;simp only [List.all_append,List.all_cons,List.all_nil,Bool.and_true,Bool.and_eq_true] at hd;rw [zr9.2.2.2.2.2.2.2] at hd;exact absurd hd.2 (by decide)
theorem pre_tk {s p:Str}:(p.length≤s.length→(tk s (p.length:Int)==p)=p.isPrefixOf s)∧(s.length<p.length→p.isPrefixOf s=false):=by
 constructor
 ·intro h;rw [Bool.eq_iff_iff,beq_iff_eq,List.isPrefixOf_iff_prefix,List.prefix_iff_eq_take];unfold tk;simp only [Int.toNat_natCast];exact eq_comm
 ·intro h;rw [Bool.eq_false_iff];intro e;have:=(List.isPrefixOf_iff_prefix.1 e).length_le;omega
theorem zOo {s:Str} {i:Int} (m:UInt8→Bool) (h0:0≤i) (h:dr s i=37::dr s (i+1)) (hm:m 37=false) :
  (i+2<s.length→zr8 m (dr s i)=((sb s (i+1) (i+3)).all zk3&&zr8 m (dr s (i+3))))∧((s.length:Int)≤i+2→zr8 m (dr s i)=false):=by
 obtain ⟨k,rfl⟩:∃k:Nat,i=k:=⟨i.toNat,by omega⟩
 have e1:((k:Int)+1).toNat=k+1:=by omega
 have e3:((k:Int)+3).toNat=k+3:=by omega
 constructor
 ·intro h2
  have ea:dr s ((k:Int)+1)=s[k+1]::s[k+2]::dr s ((k:Int)+3):=by
   unfold dr;rw [e1,e3,List.drop_eq_getElem_cons (by omega),List.drop_eq_getElem_cons (by omega)]
  have eb:sb s ((k:Int)+1) ((k:Int)+3)=[s[k+1],s[k+2]]:=by
   unfold sb;rw [e1,e3,List.drop_take,List.drop_eq_getElem_cons (by omega),List.drop_eq_getElem_cons (by omega),show k+3-(k+1)=2 by omega];rfl
  rw [h,ea,pq_p,eb]; simp [Bool.and_assoc]
 ·intro h2;rw [h]
  have hl:(dr s ((k:Int)+1)).length≤1:=by simp [dr]; omega
  match dr s ((k:Int)+1),hl with
  | [],_=>exact (pq_1 m 0).2
  | [a],_=>exact (pq_1 m a).1
def pqM (m s:Str):Bool:=zr8 (fun c=>m.contains c) s
theorem zLH (m:Str):pqM m []=true:=rfl
theorem pqM_o (m:Str) (c:UInt8) (s:Str) (h:c≠37):pqM m (c::s)=((zzw c||m.contains c)&&pqM m s):=pq_o _ c s h
theorem pqM_s {s:Str} {i:Int} (m:Str) (h0:0≤i) (h:dr s i=37::dr s (i+1)) (hm:37∉m) :
  (i+2<s.length→pqM m (dr s i)=((sb s (i+1) (i+3)).all zk3&&pqM m (dr s (i+3))))∧((s.length:Int)≤i+2→pqM m (dr s i)=false) :=
 zOo _ h0 h (by simpa using hm)
theorem goA {G:Prop} (h:G:=by
 (with_reducible repeat' first|intro _|refine And.intro ?_ ?_|refine Wf ?_ ?_|refine Wi ?_ ?_|refine Ws ?_|refine Wc ?_ ?_|refine Wo ?_ ?_|refine Wk ?_|refine We ?_ ?_)
 all_goals (try simp only [List.length_cons,List.length_nil])
 all_goals grind [zDd, → zyT,zJM,zJN,zzB,zru, → six_c, → zLG, → zyU, → zJs, → zF2, → zzg, → zHH, → zHI,zLH,pqM_o,pqM_s,zr9,orig_q,spt,zx3,zCO,zwU,sb_0,sb_s,zx4,zzy,fuel,zb0,zct,zfZ,zam,zaR,List.append_assoc,zau,zS,ze7,Sm,Ss,Fv,Fm,Cw,Pw,Tm,Swm,Um,Ac,Km,Gm,Pm,Rt,Tp,Rm,Rl,Om,Ol,UInt8.toNat_lt]):G:=h
theorem goD {G:Prop} (h:G:=by
 (with_reducible repeat' first|intro _|refine And.intro ?_ ?_|refine Wf ?_ ?_|refine Wi ?_ ?_|refine Ws ?_|refine Wc ?_ ?_|refine Wo ?_ ?_|refine Wk ?_|refine We ?_ ?_)
 all_goals (try simp only [List.length_cons,List.length_nil])
 all_goals grind [dvI,zLE,zJr,zLD,dgs_g,fuel,zb0,zct,zfZ,zam,zaR,List.append_assoc,zau,zS,ze7,Sm,Ss,Fv,Fm,Cw,Pw,Tm,Swm,Um,Ac,Km,Gm,Pm,Rt,Tp,Rm,Rl,Om,Ol,UInt8.toNat_lt]):G:=h
theorem goQ {G:Prop} (h:G:=by
 (with_reducible repeat' first|intro _|refine And.intro ?_ ?_|refine Wf ?_ ?_|refine Wi ?_ ?_|refine Ws ?_|refine Wc ?_ ?_|refine Wo ?_ ?_|refine Wk ?_|refine We ?_ ?_)
 all_goals (try simp only [List.length_cons,List.length_nil])
 all_goals grind [nm_e,nm_pct,nm_no,zr9,pct_s,pct_l,fuel,zb0,zct,zfZ,zam,zaR,List.append_assoc,zau,zS,ze7,Sm,Ss,Fv,Fm,Cw,Pw,Tm,Swm,Um,Ac,Km,Gm,Pm,Rt,Tp,Rm,Rl,Om,Ol,UInt8.toNat_lt]):G:=h
theorem goP {G:Prop} (h:G:=by
 (with_reducible repeat' first|intro _|refine And.intro ?_ ?_|refine Wf ?_ ?_|refine Wi ?_ ?_|refine Ws ?_|refine Wc ?_ ?_|refine Wo ?_ ?_|refine Wk ?_|refine We ?_ ?_)
 all_goals (try simp only [List.length_cons,List.length_nil])
 all_goals grind [pre_tk,fuel,zb0,zct,zfZ,zam,zaR,List.append_assoc,zau,zS,ze7,Sm,Ss,Fv,Fm,Cw,Pw,Tm,Swm,Um,Ac,Km,Gm,Pm,Rt,Tp,Rm,Rl,Om,Ol,UInt8.toNat_lt]):G:=h
end Go.Dm
end
section
set_option linter.unusedVariables false
namespace Go.Dm
theorem zNX (c:UInt8) (s:Str):([c].isPrefixOf s=true↔∃t,s=c::t):=by
 cases s with
 | nil=>simp
 | cons x s=>simp [List.isPrefixOf]; exact eq_comm
end Go.Dm
end
section
set_option linter.unusedVariables false
namespace Go.Dm
def zmx (s:Str):Str:=s.dropWhile znv
def znB (s:Str):Str:=(s.reverse.dropWhile znv).reverse
theorem zqM (s:Str) (c:UInt8):znB (s++[c])=if znv c then znB s else s++[c]:=by
 unfold znB;rw [List.reverse_append];simp only [List.reverse_cons,List.reverse_nil,List.nil_append,List.singleton_append,List.dropWhile_cons]
 split<;>simp
theorem zGe (s:Str):(s.all znv=true∧znB s=[])∨∃a c b,s=a++c::b∧znv c=false∧b.all znv=true∧znB s=a++[c]:=by
 rw [← List.reverse_reverse s];generalize s.reverse=r
 induction r with
 | nil=>left; exact ⟨rfl,rfl⟩
 | cons x r ih =>
  rw [List.reverse_cons,zqM]
  rcases (by cases znv x<;>simp:znv x=true∨znv x=false) with h|h
  ·rw [h]
   rcases ih with ⟨h1,h2⟩|⟨a,c,b,h1,h2,h3,h4⟩
   ·left; refine ⟨?_,by simpa using h2⟩
    rw [List.all_append,h1]; simp [h]
   ·right; refine ⟨a,c,b++[x],by rw [h1]; simp,h2,by rw [List.all_append,h3]; simp [h],by simpa using h4⟩
  ·right; exact ⟨r.reverse,x,[],rfl,h,rfl,by simp [h]⟩
theorem zKN {s:Str} (h:s.all znv=true):zmx s=[]:=by
 unfold zmx
 induction s with
 | nil=>rfl
 | cons x s ih =>
  simp only [List.all_cons,Bool.and_eq_true] at h;rw [List.dropWhile_cons,h.1];exact ih h.2
theorem zKO {a:Str} {c:UInt8} {b:Str} (hc:znv c=false):zmx (a++c::b)=zmx (a++[c])++b:=by
 unfold zmx
 induction a with
 | nil=>simp [List.dropWhile_cons,hc]
 | cons x a ih =>
  simp only [List.cons_append,List.dropWhile_cons]
  split
  ·exact ih
  ·simp
theorem zNr {a:Str} {c:UInt8} (hc:znv c=false):∃d,zmx (a++[c])=d++[c]:=by
 unfold zmx
 induction a with
 | nil=>exact ⟨[],by simp [List.dropWhile_cons,hc]⟩
 | cons x a ih =>
  simp only [List.cons_append,List.dropWhile_cons]
  split
  ·exact ih
  ·exact ⟨x::a,rfl⟩
theorem zKP {d:Str} {c:UInt8} {b:Str} (hc:znv c=false) (hb:b.all znv=true):znB (d++c::b)=d++[c]:=by
 rw [← List.reverse_reverse b] at *
 generalize b.reverse=r at *
 induction r with
 | nil=>rw [List.reverse_nil,zqM,hc]; rfl
 | cons x r ih =>
  rw [List.reverse_cons,List.all_append] at hb;simp only [Bool.and_eq_true,List.all_cons,List.all_nil,Bool.and_true] at hb;rw [List.reverse_cons, ← List.cons_append, ← List.append_assoc,zqM,hb.2];exact ih hb.1
theorem zKQ (s:Str):znB (zmx s)=zBc s:=by
 show znB (zmx s)=zmx (znB s)
 rcases zGe s with ⟨h1,h2⟩|⟨a,c,b,h1,h2,h3,h4⟩
 ·rw [h2,zKN h1]; rfl
 ·rw [h4,h1,zKO h2];obtain ⟨d,hd⟩:=zNr (a:=a) h2;rw [hd,List.append_assoc];exact zKP h2 h3
theorem zPo (s:Str):zBc s=znB (zmx s):=(zKQ s).symm
theorem trl_n:zmx []=[]∧znB []=[]:=⟨rfl,rfl⟩
theorem trl_c {s:Str} {c:UInt8} (h:dr s 0=c::dr s (0+1)):zmx s=if znv c=true then zmx (dr s 1) else s:=by
 have e:s=c::dr s 1:=h;unfold zmx
 conv=>lhs; rw [e,List.dropWhile_cons]
 split
 ·rfl
 ·exact e.symm
theorem trr_c {s:Str} {c:UInt8} (h:sAt s ((s.length:Int)-1)=some c):znB s=if znv c=true then znB (tk s ((s.length:Int)-1)) else s:=by
 obtain ⟨m,rfl⟩:=zyU h;rw [zqM]
 have e:(((m++[c]:Str).length:Int)-1).toNat=m.length:=by simp
 unfold tk;rw [e,List.take_left]
theorem dig_s {d e:Int} (h:e=d+1) (h1:0≤d) (h2:d<10):sb ([48,49,50,51,52,53,54,55,56,57,97,98,99,100,101,102]:Str) d e=[UInt8.ofNat (48+d.toNat)]:=by
 have:∀k:Fin 10,sb ([48,49,50,51,52,53,54,55,56,57,97,98,99,100,101,102]:Str) (k.val:Int) ((k.val:Int)+1)=[UInt8.ofNat (48+k.val)]:=by decide
 have:=this ⟨d.toNat,by omega⟩;subst h
 rwa [show ((d.toNat:Nat):Int)=d by omega] at this
theorem dec_b {x:Int} (h0:0≤x):(x<10→Go.Lib.decDigits x.toNat=[UInt8.ofNat (48+x.toNat)])∧(10≤x→Go.Lib.decDigits x.toNat=Go.Lib.decDigits (x/10).toNat++[UInt8.ofNat (48+(x%10).toNat)]):=by
 constructor
 ·intro h; rw [Go.Lib.decDigits,dif_pos (by omega)]
 ·intro h; rw [Go.Lib.decDigits,dif_neg (by omega),show x.toNat/10=(x/10).toNat by omega,show x.toNat%10=(x%10).toNat by omega]
instance (m:Int):T (zBj m 10) (0≤m∧m≤9223372036854775807) (fun r=>r=m%10):=⟨fun ⟨h1,h2⟩=>⟨m%10,by rw [zBj,if_pos ⟨h1,by decide,by simp [inI]; omega⟩],rfl⟩⟩
theorem zNs:∀(k n:Nat) (x:Int),k≤n→1≤k→0≤x→x<(10^k:Nat)→x≤9223372036854775807→k≤20→W (zeh n x 10) (fun r=>r=Go.Lib.decDigits x.toNat∧r.length≤k)
 | 0,n,x,_,h,_,_,_,_=>absurd h (by decide)
 | k+1,0,x,h,_,_,_,_,_=>absurd h (by omega)
 | k+1,n+1,x,hn,_,h0,h,hm,h20=>by
  have hb:=dec_b h0;unfold zeh
  by_cases hx:x<10
  ·have hs:=dig_s (d:=x) rfl h0 hx;have hb:=hb.1 hx;rw [if_pos (by simpa using hx)]
   (with_reducible repeat' first|intro _|refine And.intro ?_ ?_|refine Wi ?_ ?_|refine Ws ?_|refine Wc ?_ ?_)
   all_goals (try simp only [List.length_cons,List.length_nil])
   all_goals grind
  ·have hk1:1≤k:=by
    cases k with
    | zero=>simp at h; omega
    | succ k=>omega
   have h':x<(10^k:Nat)*10:=by rw [Nat.pow_succ] at h; omega
   have ih:=zNs k n (x/10) (by omega) hk1 (Int.ediv_nonneg h0 (by decide)) (Int.ediv_lt_of_lt_mul (by decide) h') (by omega) (by omega);have hb:=hb.2 (by omega)
   have hd:zDI x 10=some (x/10):=by rw [zDI,if_pos ⟨h0,by decide,by simp [inI]; omega⟩]
   have hs:=dig_s (d:=x%10) rfl (by omega) (by omega);obtain ⟨r,e,hr,hl⟩:=ih;rw [if_neg (by simpa using hx),hd];show W ((zeh n (x/10) 10).bind _) _;rw [e];show W ((zBj x 10).bind _) _
   (with_reducible repeat' first|intro _|refine And.intro ?_ ?_|refine Wi ?_ ?_|refine Ws ?_|refine Wc ?_ ?_)
   all_goals (try simp only [List.length_cons,List.length_nil])
   all_goals grind
def ptR (s:Str) (b:UInt8) (o:List Str) (fr i:Int):List Str:=o++zk4 (sb s fr i) (zi b (dr s i))
theorem pt_e {s:Str} {b:UInt8} {o:List Str} {fr i:Int} (h:(s.length:Int)≤i):ptR s b o fr i=o++[dr s fr]:=by
 unfold ptR; rw [zam h,sb_e h,zi,zk4,List.append_nil]
theorem pt_c {s:Str} {b:UInt8} {o:List Str} {fr i:Int} (h:dr s i=b::dr s (i+1)):ptR s b o fr i=ptR s b (o++[sb s fr i]) (i+1) (i+1):=by
 unfold ptR;rw [h,zix,if_pos rfl,zx4,zuv _ (zfk _ _),zk4];simp
theorem pt_o {s:Str} {b x:UInt8} {o:List Str} {fr i:Int} (h0:0≤fr) (h1:fr≤i) (h:dr s i=x::dr s (i+1)) (hx:x≠b):ptR s b o fr i=ptR s b o fr (i+1):=by
 have hl:=zkp (by omega) h;unfold ptR;rw [h,zix,if_neg hx,zt7 _ _ _ (zfk _ _),zH4 h0 h1 (by omega:i≤i+1) (by omega),h];simp
theorem pt_0 (s:Str) (b:UInt8):ptR s b [] 0 0=zi b s:=by
 unfold ptR; rw [zx4,zfZ,zuv _ (zfk _ _)]; rfl
theorem less_v {p:Str} {m:Int} (hm:m=255∨m=599∨m=65535) (h:p.all zbQ=true) :
  (Go.Lib.decDigits m.toNat).length≤5∧(¬ (Go.Lib.decDigits m.toNat).length<p.length→((Go.Lib.decDigits m.toNat).length=p.length→ziW (Go.Lib.decDigits m.toNat) p=false)→p.length≤5∧dvI 0 p≤m):=by
 have e1:Go.Lib.decDigits 255=[50,53,53]:=by simp [Go.Lib.decDigits]
 have e2:Go.Lib.decDigits 599=[53,57,57]:=by simp [Go.Lib.decDigits]
 have e3:Go.Lib.decDigits 65535=[54,53,53,51,53]:=by simp [Go.Lib.decDigits]
 have dr:∀b∈p,48≤b.toNat∧b.toNat≤57:=fun b hb=>zF1 b (List.all_eq_true.1 h b hb);have lt:∀a b:UInt8,(a<b)↔a.toNat<b.toNat:=fun a b=>Iff.rfl
 have eq:∀a b:UInt8,(a==b)=true↔a.toNat=b.toNat:=fun a b=>by rw [beq_iff_eq]; exact ⟨fun e=>e▸rfl,UInt8.toNat_inj.1⟩
 match p with
 | []=>rcases hm with rfl|rfl|rfl<;>simp [e1,e2,e3,dvI]
 | [a]=>have:=dr a (by simp); rcases hm with rfl|rfl|rfl<;>simp [e1,e2,e3,dvI]<;>omega
 | [a,b]=>have:=dr a (by simp); have:=dr b (by simp); rcases hm with rfl|rfl|rfl<;>simp [e1,e2,e3,dvI]<;>omega
 | [a,b,c] =>
  have:=dr a (by simp); have:=dr b (by simp); have:=dr c (by simp)
  rcases hm with rfl|rfl|rfl
  ·simp only [show (255:Int).toNat=255 from rfl,e1,List.length_cons,List.length_nil];refine ⟨by omega,fun _ hs=>⟨by omega,?_⟩⟩;have hs:=hs trivial;simp only [ziW,Bool.or_eq_false_iff,Bool.and_eq_false_iff,decide_eq_false_iff_not,lt,beq_eq_false_iff_ne,ne_eq, ← UInt8.toNat_inj] at hs;simp only [dvI]; simp at hs ⊢; omega
  ·simp only [show (599:Int).toNat=599 from rfl,e2,List.length_cons,List.length_nil];refine ⟨by omega,fun _ hs=>⟨by omega,?_⟩⟩;have hs:=hs trivial;simp only [ziW,Bool.or_eq_false_iff,Bool.and_eq_false_iff,decide_eq_false_iff_not,lt,beq_eq_false_iff_ne,ne_eq, ← UInt8.toNat_inj] at hs;simp only [dvI]; simp at hs ⊢; omega
  ·simp only [show (65535:Int).toNat=65535 from rfl,e3,List.length_cons,List.length_nil];refine ⟨by omega,fun _ hs=>⟨by omega,?_⟩⟩;simp only [dvI]; omega
 | [a,b,c,d] =>
  have:=dr a (by simp); have:=dr b (by simp); have:=dr c (by simp); have:=dr d (by simp)
  rcases hm with rfl|rfl|rfl
  ·simp [e1]
  ·simp [e2]
  ·simp [e3,dvI]; omega
 | [a,b,c,d,e] =>
  have:=dr a (by simp); have:=dr b (by simp); have:=dr c (by simp); have:=dr d (by simp); have:=dr e (by simp)
  rcases hm with rfl|rfl|rfl
  ·simp [e1]
  ·simp [e2]
  ·simp only [show (65535:Int).toNat=65535 from rfl,e3,List.length_cons,List.length_nil];refine ⟨by omega,fun _ hs=>⟨by omega,?_⟩⟩;have hs:=hs trivial;simp only [ziW,Bool.or_eq_false_iff,Bool.and_eq_false_iff,decide_eq_false_iff_not,lt,beq_eq_false_iff_ne,ne_eq, ← UInt8.toNat_inj] at hs;simp only [dvI]; simp at hs ⊢; omega
 | a::b::c::d::e::f::t=>rcases hm with rfl|rfl|rfl<;>simp [e1,e2,e3]
def sixW (a b:Str):Prop:=∃i j,Grp false (spt a) i∧Grp true (spt b) j∧i+j≤7
def zqN (s:Str) (i:Int):Prop:=match zmc (dr s i) with
 | none=>Grp true (zi 58 s) 8
 | some (a,b)=>sixW (tk s i++a) b
theorem sixA_s {s:Str} {i:Int} {c:UInt8} (h0:0≤i) (h:dr s i=c::dr s (i+1)) (hc:c≠58∨∀t,dr s (i+1)≠58::t) (hs:zqN s (i+1)):zqN s i:=by
 have e:zmc (dr s i)=(zmc (dr s (i+1))).map fun p=>(c::p.1,p.2):=by
  rw [h]; exact zmc.eq_2 _ _ (fun t a b=>by rcases hc with hc|hc; exact hc a; exact hc t b)
 unfold zqN at hs ⊢;rw [e]
 cases e2:zmc (dr s (i+1)) with
 | none=>rw [e2] at hs; exact hs
 | some p =>
  rw [e2] at hs;simp only [Option.map_some];have:=zx3 h0 h
  replace hs:sixW (tk s (i+1)++p.1) p.2:=hs
  rw [this,List.append_assoc] at hs;exact hs
theorem sixA_0 {s:Str} (h:zqN s 0):zut s:=by
 unfold zqN at h;unfold zut;rw [zfZ] at h
 cases e:zmc s with
 | none =>
  rw [e] at h;unfold spt
  by_cases hs:s=[]
  ·subst hs;simp only [zi] at h;rw [zJN] at h
   rcases h with ⟨_,_,h,_⟩|⟨h,_⟩
   ·cases h
   ·exact absurd h (by decide)
  ·rw [if_neg hs]; exact h
 | some p=>rw [e] at h; exact h
theorem spt_z {t u:Str} {a:List Str} {n:Int} (h0:0≤n) (ht:spt t=a++List.replicate n.toNat [48]) :
  (t=[]→u=t→spt (u++[48])=a++List.replicate (n+1).toNat [48])∧(t≠[]→u=t++[58]→spt (u++[48])=a++List.replicate (n+1).toNat [48]):=by
 have e:(n+1).toNat=n.toNat+1:=by omega
 have z:spt [48]=[[48]]:=by decide
 have:=zFZ (t:=t) (x:=[48]) (by simp);rw [ht,z] at this;constructor
 ·rintro rfl rfl;rw [if_pos rfl] at this;rw [this,e,List.replicate_succ',List.append_assoc]
 ·rintro h rfl;rw [if_neg h] at this;rw [this,e,List.replicate_succ',List.append_assoc]
def GT (l:List Str) (a:Int):Prop:=∃k:Nat,Grp true l k∧a+k=8
theorem GT_e {a:Int} (h:a=8):GT [] a:=⟨0, .nil _,by omega⟩
theorem GT_h {a:Int} {s:Str} {l:List Str} (h:zru s=true) (g:GT l (a+1)):GT (s::l) a:=by
 obtain ⟨k,h1,h2⟩:=g;exact ⟨k+1, .hex _ s l k h h1,by omega⟩
theorem GT_0 {l:List Str} (h:GT l 0):Grp true l 8:=by
 obtain ⟨k,h1,h2⟩:=h
 have:k=8:=by omega
 exact this▸h1
def hxs (s:Str):Bool:=s.all zk3
theorem hxs_a (s t:Str):hxs (s++t)=(hxs s&&hxs t):=List.all_append
theorem hxs_1 (c:UInt8):hxs [c]=zk3 c:=by simp [hxs]
theorem hxs_0 (s:Str):hxs (tk s 0)=true:=rfl
def elt (l:List Str) (i:Int):Str:=(lAt l i).getD []
theorem zJ2 {l:List Str} {i:Int} {r:Str} (h:lAt l i=some r):elt l i=r:=by unfold elt; rw [h]; rfl
theorem elt_m {l:List Str} {i:Int} (h0:0≤i) (h:i<l.length):elt l i∈l:=by
 have h3:i.toNat<l.length:=by omega
 have:lAt l i=some l[i.toNat]:=by simp [lAt,h0,h3]
 rw [zJ2 this]; exact List.getElem_mem h3
theorem hex_i {x:Str} {i:Int} (h:hxs (tk x i)=true) (h0:(x.length:Int)≤i) (h1:1≤x.length) (h2:x.length≤4):zru x=true:=by
 rw [zH3 h0] at h;unfold hxs at h;unfold zru; rw [h]; simp [h1,h2]
def SZ (s:Str) (i n:Int) (t:Str):Prop:=spt t=spt (tk s i)++List.replicate n.toNat [48]
theorem SZ_0 {s:Str} {i:Int}:SZ s i 0 (tk s i):=by unfold SZ; simp
theorem SZ_a {s:Str} {i n:Int} {t:Str} (h:SZ s i n t) (h0:0≤n) (ht:t≠[]):SZ s i (n+1) ((t++[58])++[48]):=(spt_z h0 h).2 ht rfl
theorem SZ_b {s:Str} {i n:Int} {t:Str} (h:SZ s i n t) (h0:0≤n) (ht:t=[]):SZ s i (n+1) (t++[48]):=(spt_z h0 h).1 ht rfl
theorem zJ3 {n m:Int} {s:Str} (h0:0≤n) (h:n≤m) (e:Go.Lib.decDigits n.toNat=s):zha s m:=e▸zDd h0 h
theorem nm_3 {s:Str} {i:Int} {a b:UInt8} (h:dr s i=37::dr s (i+1)) (ha:dr s (i+1)=a::dr s (i+1+1)) (hb:dr s (i+2)=b::dr s (i+2+1)):ziV (dr s i)=(zk3 a&&zk3 b&&ziV (dr s (i+3))):=by
 rw [h,ha,show i+1+1=i+2 by omega,hb,nm_p,show i+2+1=i+3 by omega]
theorem no_58 {s:Str} {i:Int} {c x:UInt8} (h:dr s i=x::dr s (i+1)) (hx:x≠c) (hn:c∉dr s (i+1)):c∉dr s i:=by
 rw [h]; simp; exact ⟨fun e=>hx e.symm,hn⟩
theorem zNt {p:Str} {m:Int} (hm:m=255∨m=599∨m=65535) (h:dgs p=true) :
  (Go.Lib.decDigits m.toNat).length≤5∧(¬ (Go.Lib.decDigits m.toNat).length<p.length→((Go.Lib.decDigits m.toNat).length=p.length→ziW (Go.Lib.decDigits m.toNat) p=false)→p.length≤5∧dvI 0 p≤m):=less_v hm h
theorem zGf (c:UInt8) {s:Str} (h:s.length<900000000):Sm (zi c s)∧(zi c s).length≤900000001∧∀x∈zi c s,x.length≤s.length:=by
 have a:=zwJ c s;exact ⟨⟨by omega,fun x hx=>by have:=a.2 x hx; omega⟩,by omega,a.2⟩
theorem cd48:zbQ 48=true:=by decide
theorem goRn {G:Prop} (h:G:=by
 (with_reducible repeat' first|intro _|refine And.intro ?_ ?_|refine Wf ?_ ?_|refine Wi ?_ ?_|refine Ws ?_|refine Wc ?_ ?_|refine Wo ?_ ?_|refine Wk ?_|refine We ?_ ?_)
 all_goals (try simp only [List.length_cons,List.length_nil])
 all_goals grind [cd48,dec_d,zJr,zLD,dgs_a,zNt,dvI,zLE,zJ3,fuel,zb0,zct,zfZ,zam,zaR,List.append_assoc,vals,zau,zS,ze7,Sm,Ss,Fv,Fm,Cw,Pw,Tm,Swm,Um,Ac,Km,Gm,Pm,Rt,Tp,Rm,Rl,Om,Ol,UInt8.toNat_lt]):G:=h
theorem zIr {G:Prop} (h:G:=by
 (with_reducible repeat' first|intro _|refine And.intro ?_ ?_|refine Wf ?_ ?_|refine Wi ?_ ?_|refine Ws ?_|refine Wc ?_ ?_|refine Wo ?_ ?_|refine Wk ?_|refine We ?_ ?_)
 all_goals (try simp only [List.length_cons,List.length_nil])
 all_goals grind [zfY,pt_e,pt_c,pt_o,pt_0,zkp,fuel,zb0,zct,zfZ,zam,zaR,List.append_assoc,vals,zau,zS,ze7,Sm,Ss,Fv,Fm,Cw,Pw,Tm,Swm,Um,Ac,Km,Gm,Pm,Rt,Tp,Rm,Rl,Om,Ol,UInt8.toNat_lt]):G:=h
end Go.Dm
end
section
set_option linter.unusedVariables false
namespace Go.Dm
theorem pqM_3 {s m:Str} {a b:UInt8} (h:dr s 0=37::dr s (0+1)) (ha:dr s 1=a::dr s (1+1)) (hb:dr s 2=b::dr s (2+1)):pqM m s=(zk3 a&&zk3 b&&pqM m (dr s 3)):=by
 have e:s=37::a::b::dr s 3:=by
  have h1:s=37::dr s 1:=h;have h2:dr s 1=a::dr s 2:=ha;have h3:dr s 2=b::dr s 3:=hb;rw [← h3, ← h2]; exact h1
 conv=>lhs; rw [e]
 exact pq_p _ a b _
theorem pqM_2 {s m:Str} {a:UInt8} (h:dr s 0=37::dr s (0+1)) (ha:dr s 1=a::dr s (1+1)) (hl:2<(s.length:Int)) (hx:zk3 a=false):pqM m s=false:=by
 obtain ⟨b,e,hb⟩:=(inferInstance:T (sAt s 2) _ _).ok ⟨by decide,hl⟩;rw [pqM_3 h ha hb.2.2,hx]; rfl
theorem pqM_l {s m:Str} (h:dr s 0=37::dr s (0+1)) (hl:(s.length:Int)≤2):pqM m s=false:=by
 have e:s=37::dr s 1:=h;generalize dr s 1=t at e;subst e
 match t,hl with
 | [],_=>exact (pq_1 _ 0).2
 | [a],_=>exact (pq_1 _ a).1
 | _::_::_,hl=>simp at hl; omega
theorem pqM_c {s m:Str} {c:UInt8} (h:dr s 0=c::dr s (0+1)) (hc:c≠37):pqM m s=((zzw c||m.contains c)&&pqM m (dr s 1)):=by
 have e:s=c::dr s 1:=h
 conv=>lhs; rw [e]
 exact pq_o _ c _ hc
theorem path_i {s:Str} (h:dr s 0=47::dr s (0+1)) (h2:pqM [47] s=true):pathP s:=by
 refine ⟨dr s 1,h,?_⟩;rw [← h2]; unfold pqM; congr 1; funext c;simp only [List.contains_cons,List.contains_nil,Bool.or_false]
theorem quer_i {s:Str} (h2:pqM [47,63] s=true):zzA s:=by
 unfold zzA;rw [← h2]; unfold pqM; congr 1; funext c;simp only [List.contains_cons,List.contains_nil,Bool.or_false]
def fl:Nat→UInt8→Str→Int→Option Str
 | 0,_,_,_=>none
 | n+1,c,s5,i6=>if (decide (i6<26)) then (sAt [65,66,67,68,69,70,71,72,73,74,75,76,77,78,79,80,81,82,83,84,85,86,87,88,89,90] i6).bind fun r1=>if (r1==c) then (zd i6 1).bind fun r3=>(zk5 [97,98,99,100,101,102,103,104,105,106,107,108,109,110,111,112,113,114,115,116,117,118,119,120,121,122] i6 r3).bind fun r4=>(zd i6 1).bind fun r5=>fl n c r4 r5 else (zd i6 1).bind fun r6=>fl n c s5 r6 else some s5
theorem bnd {α β γ:Type} (o:Option α) (f:α→Option β) (g:β→Option γ):(o.bind f).bind g=o.bind fun x=>(f x).bind g:=by cases o<;>rfl
theorem zMT (k0:Str→Int→Option Str) (s0 s3:Str) (i4:Int) (c:UInt8) (h:sAt s0 i4=some c):∀(n:Nat) (s5:Str) (i6:Int),
  zfc k0 s0 s3 i4 n s5 i6=(fl n c s5 i6).bind fun s=>(zb1 s3 s).bind fun r7=>(zd i4 1).bind fun r8=>k0 r7 r8
 | 0,s5,i6=>rfl
 | n+1,s5,i6=>by
  unfold zfc fl
  have h2:∀(f:UInt8→Option Str),(sAt s0 i4).bind f=f c:=fun f=>by rw [h]; rfl
  split
  ·rw [bnd]
   congr 1; funext r1
   rw [h2]
   split
   ·rw [bnd]; congr 1; funext r3;rw [bnd]; congr 1; funext r4;rw [bnd]; congr 1; funext r5;exact zMT k0 s0 s3 i4 c h n r4 r5
   ·rw [bnd]; congr 1; funext r3;exact zMT k0 s0 s3 i4 c h n s5 r3
  ·rfl
theorem fl_v (c:UInt8):fl fuel c [c] 0=some [zk1 c]:=by
 have:=zpm (p:=fun c=>fl fuel c [c] 0==some [zk1 c]) (by decide +kernel) c;simpa using this
theorem low_n:low []=[]:=rfl
theorem low_c (c:UInt8) (s:Str):low (c::s)=zk1 c::low s:=rfl
def vls (s:Str):Bool:=s.all zzx
theorem vls_n:vls []=true:=rfl
theorem vls_c (c:UInt8) (s:Str):vls (c::s)=(zzx c&&vls s):=List.all_cons
def fokP (f:zWQ):Prop:=zfY f.Name=true∧vls f.Value=true∧zBc f.Value=f.Value
def slP (h:zWT):Prop:=(h.Kind=1∧zfY h.Method=true∧targP h.Method h.Target∧(h.Minor=0∨h.Minor=1)∧h.Code=0∧h.Reason=[]∧32∉h.Target∧10∉h.Target∧13∉h.Target) ∨
 (h.Kind=2∧h.Method=[]∧h.Target=[]∧(h.Minor=0∨h.Minor=1)∧100≤h.Code∧h.Code≤599∧vls h.Reason=true)
def zJP:Str:=[104,111,115,116]
def whP (h:zWT):Prop:=h.Fields.length≤100∧(h.Kind≠2→(vals zJP h.Fields).length≤1∧(h.Minor=1→1≤(vals zJP h.Fields).length)∧∀v∈vals zJP h.Fields,v=[]∨zoy v∨zpn v)
def hokP (h:zWT):Prop:=slP h∧(∀f∈h.Fields,fokP f)∧whP h
theorem one_m {l:List Str} {x:Str} (h:l.length≤1) (hx:lAt l 0=some x):∀v∈l,v=x:=by
 match l,h with
 | [],_=>simp
 | [a],_=>simp [lAt] at hx; simp [hx]
theorem spl_m {c:UInt8} {s p:Str} (h:p∈zi c s):c∉p∧p.length≤s.length∧∀x∈p,x∈s:=zoz h
theorem goU {G:Prop} (h:G:=by
 (with_reducible repeat' first|intro _|refine And.intro ?_ ?_|refine Wf ?_ ?_|refine Wi ?_ ?_|refine Ws ?_|refine Wc ?_ ?_|refine Wo ?_ ?_|refine Wk ?_|refine We ?_ ?_)
 all_goals (try subst_vars)
 all_goals (try simp only [List.length_cons,List.length_nil])
 all_goals grind [zLH,pqM_2,pqM_3,pqM_l,pqM_c,zr9, → zx3,zwU,path_i,quer_i,zkp,fuel,zb0,zct,zfZ,zam,zaR,List.append_assoc,vals,zau,zS,ze7,Sm,Ss,Fv,Fm,Cw,Pw,Tm,Swm,Um,Ac,Km,Gm,Pm,Rt,Tp,Rm,Rl,Om,Ol,UInt8.toNat_lt]):G:=h
theorem sb_x {s:Str} {i:Int} (h0:0≤i) (h:i<s.length):∃c,sb s i (i+1)=[c]∧dr s i=c::dr s (i+1):=by
 obtain ⟨c,e,hc⟩:=(inferInstance:T (sAt s i) _ _).ok ⟨h0,h⟩;refine ⟨c,?_,hc.2.2⟩;rw [zH4 h0 (Int.le_refl _) (by omega:i≤i+1) (by omega),zx4,hc.2.2]; simp
theorem goF {G:Prop} (h:G:=by
 (with_reducible repeat' first|intro _|refine And.intro ?_ ?_|refine Wf ?_ ?_|refine Wi ?_ ?_|refine Ws ?_|refine Wc ?_ ?_|refine Wo ?_ ?_|refine Wk ?_|refine We ?_ ?_)
 all_goals (try subst_vars)
 all_goals (try simp only [List.length_cons,List.length_nil])
 all_goals grind [sb_x,low_n,low_c,zkp,fuel,zb0,zct,zfZ,zam,zaR,List.append_assoc,vals,zau,zS,ze7,Sm,Ss,Fv,Fm,Cw,Pw,Tm,Swm,Um,Ac,Km,Gm,Pm,Rt,Tp,Rm,Rl,Om,Ol,UInt8.toNat_lt]):G:=h
theorem goV {G:Prop} (h:G:=by
 (with_reducible repeat' first|intro _|refine And.intro ?_ ?_|refine Wf ?_ ?_|refine Wi ?_ ?_|refine Ws ?_|refine Wc ?_ ?_|refine Wo ?_ ?_|refine Wk ?_|refine We ?_ ?_)
 all_goals (try subst_vars)
 all_goals (try simp only [List.length_cons,List.length_nil])
 all_goals grind [vls_n,vls_c, → spl_m,slP,fokP,whP,hokP,zJP,one_m,zfY,zGf,trl_n,trl_c,trr_c,zPo, → zx3,zwU,zkp,fuel,zb0,zct,zfZ,zam,zaR,List.append_assoc,vals,zau,zS,ze7,Sm,Ss,Fv,Fm,Cw,Pw,Tm,Swm,Um,Ac,Km,Gm,Pm,Rt,Tp,Rm,Rl,Om,Ol,UInt8.toNat_lt]):G:=h
end Go.Dm
end
