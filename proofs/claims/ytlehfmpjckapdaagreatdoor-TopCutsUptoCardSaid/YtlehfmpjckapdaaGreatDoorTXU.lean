/- What is known of the models' data, and how totality by conditions is shown: by splitting and grind. No program in sight. -/
import Derived.Test.YtlehfmpjckapdaaGreatDoorYM
import Derived.Test.YtlehfmpjckapdaaGreatDoorTWL
import Derived.Test.YtlehfmpjckapdaaGreatDoorP1
set_option linter.unusedVariables false
set_option linter.unusedSimpArgs false
set_option linter.unusedVariables false
section
namespace Go.Dm
def Sm (l:List Str):Prop:=l.length<1000000000000∧∀s∈l,s.length<1000000000
def Ss (l:List Str):Prop:=l.length≤10000∧∀s∈l,s.length≤70000000
def Fv (l:List zZn):Prop:=∀f∈l,f.Name.length≤70000000∧f.Value.length≤70000000
def Fm (l:List zZn):Prop:=l.length≤10000∧Fv l
def Cw (c:zZy):Prop:=0≤c.zZ4∧c.zZ4≤c.z0w.length∧c.z0w.length<1000000000
def Pw (p:zZM):Prop:=Cw p.Scanner∧0≤p.z0C∧p.z0C≤p.Scanner.zZ4∧p.z0w=p.Scanner.z0w∧p.zZD.length≤p.Scanner.zZ4∧∀s∈p.zZD,s.length≤p.z0w.length
def Tm (t:zZ9):Prop:=t.Scheme.length≤70000000∧t.Host.Name.length≤10000000 ∧ -1≤t.Host.Port∧t.Host.Port≤65535∧t.Path.length≤70000001∧t.Query.length≤70000001
def Swm (l:List zZJ):Prop:=l.length≤10000∧∀x∈l,x.From.length≤1000∧x.To.length≤1000
def Um (r:zZT):Prop:=r.Scheme.length<1000000000∧r.Auth.length<1000000000∧r.Path.length<1000000000∧r.Query.length<1000000000∧r.Frag.length<1000000000
def Ac (c:zZO):Prop:=c.Name.length<1000000000∧c.Value.length<1000000000∧c.Attrs.length<10000000000∧∀a∈c.Attrs,a.Name.length<1000000000∧a.Value.length<1000000000
def Km (c:zZO):Prop:=c.Name.length≤7500∧c.Value.length≤7500∧c.Attrs.length≤3002∧∀a∈c.Attrs,a.Name.length≤7500∧a.Value.length≤7500
def Gm (g:z0m):Prop:=g.Name.length<1000000000∧g.Value.length<1000000000
def Pm (l:List zZ2):Prop:=l.length≤10000∧∀p∈l,p.Value.length≤70000000
def Rt (r:zZ7):Prop:=Cw r.Scanner∧r.zZD.length≤r.Scanner.zZ4∧∀p∈r.zZD,p.Text.length≤r.Scanner.zZ4
def Tp (l:List zZq):Prop:=l.length≤1000∧∀p∈l,p.Text.length≤10000
def Rm (r:zZu):Prop:=r.Name.length≤10000∧r.To.length≤10000∧r.Guard.Name.length≤10000∧r.Guard.Value.length≤10000∧Tp r.Parts
def Rl (l:List zZu):Prop:=l.length≤10000∧∀r∈l,Rm r
def Om (o:z0r):Prop:=o.Name.length≤10000∧o.Text.length≤10000∧Tp o.Parts∧0≤o.N∧o.N≤10000
def Ol (l:List z0r):Prop:=∀o∈l,Om o
def vals (n:Str):List zZn→List Str
 | []=>[]
 | f::l=>if low f.Name=low n then f.Value::vals n l else vals n l
def conn:Str:=[99,111,110,110,101,99,116,105,111,110]
def zIr:List Str:=[conn,[99,111,110,116,101,110,116,45,108,101,110,103,116,104],[107,101,101,112,45,97,108,105,118,101],[112,114,111,120,121,45,99,111,110,110,101,99,116,105,111,110],[116,101],[116,114,97,105,108,101,114],[116,114,97,110,115,102,101,114,45,101,110,99,111,100,105,110,103],[117,112,103,114,97,100,101]]
theorem Wo {α β:Type} {o:Option α} {a:Option β} {f:α→Option β} {P:β→Prop} (h:o=none→W a P) (h2:∀x,o=some x→W (f x) P):W (Go.Rk.optK o a f) P:=by
 cases o with
 | none=>exact h rfl
 | some x=>exact h2 x rfl
theorem goz {G:Prop} (h:G:=by grind [Sm,Ss,Fv,Fm,Cw,Pw,Tm,Swm,Um,Ac,Km,Gm,Pm,Rt,Tp,Rm,Rl,Om,Ol]):G:=h
theorem go {G:Prop} (h:G:=by
 (with_reducible repeat' first|intro _|refine And.intro ?_ ?_|refine Wf ?_ ?_|refine Wi ?_ ?_|refine Ws ?_|refine Wc ?_ ?_|refine Wo ?_ ?_|refine Wk ?_|refine We ?_ ?_)
 all_goals (try simp only [List.length_cons,List.length_nil])
 all_goals grind [fuel,zb5,zcW,zgn,za9,zaV,List.append_assoc,vals,zbg,zaF,zfK,Sm,Ss,Fv,Fm,Cw,Pw,Tm,Swm,Um,Ac,Km,Gm,Pm,Rt,Tp,Rm,Rl,Om,Ol,UInt8.toNat_lt]):G:=h
theorem go1 {G:Prop} (h:G:=by
 (with_reducible repeat' first|intro _|refine And.intro ?_ ?_|refine Wf ?_ ?_|refine Wi ?_ ?_|refine Ws ?_|refine Wc ?_ ?_|refine Wo ?_ ?_|refine Wk ?_|refine We ?_ ?_)
 all_goals (try simp only [List.length_cons,List.length_nil])
 all_goals grind (gen:=12) (ematch:=12) [fuel,zb5,zcW,zgn,za9,zaV,List.append_assoc,vals,zbg,zaF,zfK,Sm,Ss,Fv,Fm,Cw,Pw,Tm,Swm,Um,Ac,Km,Gm,Pm,Rt,Tp,Rm,Rl,Om,Ol,UInt8.toNat_lt]):G:=h
end Go.Dm
end
section
namespace Go.Dm
theorem goN {G:Prop} (h:G:=by
 (with_reducible repeat' first|intro _|refine And.intro ?_ ?_|refine Wf ?_ ?_|refine Wi ?_ ?_|refine Ws ?_|refine Wc ?_ ?_|refine Wo ?_ ?_|refine Wk ?_|refine We ?_ ?_)
 all_goals (try simp only [List.length_cons,List.length_nil])
 all_goals grind [zij,zy0,zCY,zxF,sb_s,zy1,zAU,fuel,zb5,zcW,zgn,za9,zaV,List.append_assoc,vals,zbg,zaF,zfK,Sm,Ss,Fv,Fm,Cw,Pw,Tm,Swm,Um,Ac,Km,Gm,Pm,Rt,Tp,Rm,Rl,Om,Ol,UInt8.toNat_lt]):G:=h
end Go.Dm
end
section
namespace Go.Dm
variable {s:Str} {c:UInt8} {G:Prop} {i:Int}
theorem zD4 {n m:Int} (h0:0≤n) (h:n≤m):zhw (Go.Lib.decDigits n.toNat) m:=⟨n.toNat,by omega,rfl⟩
def dgs (s:Str):Bool:=s.all zcj
theorem zJ5:dgs []=true:=rfl
theorem zM0 (c:UInt8) (s:Str):dgs (c::s)=(zcj c&&dgs s):=List.all_cons
theorem dgs_a (s t:Str):dgs (s++t)=(dgs s&&dgs t):=List.all_append
theorem dgs_g {g:UInt8→Bool} (s:Str) (h:g=zcj):s.all g=dgs s:=by subst h; rfl
theorem dec_d (n:Nat):dgs (Go.Lib.decDigits n)=true:=zzn n
theorem zM1 (s:Str) (a:Int) (h0:0≤a) (h:dgs s=true):dvI a s=a+((dvI a s-a).toNat:Int):=by have:=zJE s a h0 h; omega
theorem zzg {m:Int} (h:zhw s m):dgs s=true∧s≠[]∧0≤dvI 0 s∧dvI 0 s≤m∧Go.Lib.decDigits (dvI 0 s).toNat=s:=by
 obtain ⟨n,hn,rfl⟩:=h;rw [zQH];exact ⟨zzn n,zOX n,by omega,hn,rfl⟩
theorem six_c (h:zvr s):((Go.Lib.cut s [58,58]).2.2=false∧Grp true (spt s) 8) ∨
  ((Go.Lib.cut s [58,58]).2.2=true∧∃n m,Grp false (spt (Go.Lib.cut s [58,58]).1) n∧Grp true (spt (Go.Lib.cut s [58,58]).2.1) m∧n+m≤7):=by
 unfold zvr at h;rw [zFA]
 cases e:zmS s with
 | none=>rw [e] at h; exact .inl ⟨rfl,h⟩
 | some p=>rw [e] at h; exact .inr ⟨rfl,h⟩
def pct:Str→Bool
 | 37::a::b::_=>zlL a&&zlL b
 | _=>false
theorem nm_pct (h:pct s=true):3≤s.length∧zjs s=zjs (dr s 3):=by
 unfold pct at h
 split at h
 ·rename_i a b t
  rw [nm_p,h]; simp [dr]
 ·cases h
theorem nm_no (h:pct s=false) (hc:dr s 0=c::dr s (0+1)):zjs s=((zrp c||zE7 c)&&zjs (dr s 1)):=by
 have e:s=c::dr s 1:=hc;have k:=ztn
 by_cases d:c=37
 ·subst d;rw [k.1,k.2.1,Bool.or_self,Bool.false_and];obtain ⟨t,rfl⟩:∃t,s=37::t:=⟨_,e⟩
  clear e hc
  match t,h with
  | [],_=>exact (zJF 0).2
  | [a],_=>exact (zJF a).1
  | a::b::t,h=>rw [nm_p]; simp only [pct] at h; rw [h,Bool.false_and]
 ·conv=>lhs; rw [e]
  exact nm_o _ _ d
theorem zM2 {s m:Str} (h:s=91::m++[93]) (d:m≠[]):2<(s.length:Int)∧sAt s 0=some 91∧sAt s ((s.length:Int)-1)=some 93∧sb s 1 ((s.length:Int)-1)=m:=by
 have f:1≤m.length:=by cases m with
  | nil=>exact absurd rfl d
  | cons a b=>simp
 have e:s.length=m.length+2:=by rw [h]; simp
 have c:((s.length:Int)-1).toNat=m.length+1:=by omega
 refine ⟨by omega,by rw [h]; rfl,?_,?_⟩
 ·unfold sAt;rw [if_pos (by omega),c,h]; simp
 ·unfold sb;rw [c,h]; simp
theorem zzh (h:sAt s ((s.length:Int)-1)=some c):∃m,s=m++[c]:=by
 unfold sAt at h
 split at h
 ·rename_i h0
  have e:((s.length:Int)-1).toNat=s.length-1:=by omega
  have b:s.length-1<s.length:=by omega
  rw [e,List.getElem?_eq_getElem b] at h
  have a:s≠[]:=by rintro rfl; simp at b
  refine ⟨s.dropLast,?_⟩;rw [← Option.some.inj h, ← List.getLast_eq_getElem a];exact (List.dropLast_concat_getLast a).symm
 ·cases h
theorem zJ6 (h:zmR s):(58:UInt8)∉s:=fun e=>by
 rcases zQI h 58 e with e|e
 ·revert e; decide
 ·rw [ztn.2.2.2.2.2.1] at e; cases e
theorem zM3 (h:zrQ s):(2<(s.length:Int)∧sAt s 0=some 91∧sAt s ((s.length:Int)-1)=some 93∧zvr (sb s 1 ((s.length:Int)-1)))∨zmR s∨(s≠[]∧zjs s=true):=by
 rcases h with ⟨m,a,e,b⟩|h
 ·have:=zM2 e a;exact .inl ⟨this.1,this.2.1,this.2.2.1,this.2.2.2.symm▸b⟩
 ·exact .inr h
theorem pct_s (h:3≤(s.length:Int)) (hc:dr s 0=c::dr s (0+1)):pct s=(c==37&&(sb s 1 3).all zlL):=by
 match s,h with
 | [],h=>simp at h
 | [_],h=>simp at h
 | [_,_],h=>simp at h
 | x::a::b::t,_ =>
  have:x=c:=by simpa [dr] using hc
  subst this;have e:sb (x::a::b::t) 1 3=[a,b]:=rfl;rw [e]
  by_cases h:x=37
  ·subst h; simp [pct]
  ·have:(x==37)=false:=by simpa using h
   rw [this,Bool.false_and]; unfold pct; split
   ·rename_i h2; exact absurd (List.cons.inj h2).1 h
   ·rfl
theorem nm_e:zjs []=true:=rfl
theorem zAg (h0:0≤i) (h:dr s i=c::dr s (i+1)):c∈s∧s=tk s i++c::dr s (i+1):=by
 have:=zCY s i;rw [h] at this;exact ⟨by rw [← this]; simp,this.symm⟩
theorem zIx (hp:zuF s) (h0:0≤i) (h:dr s i=58::dr s (i+1)) (hn:(58:UInt8)∉dr s (i+1)):zrQ (tk s i)∧zhw (dr s (i+1)) 65535:=by
 obtain ⟨a,p,e,h1,h2,b⟩:=hp;obtain ⟨rfl,rfl⟩:=zO1 ((zAg h0 h).2.symm.trans e) hn h1;exact ⟨h2,b⟩
theorem zIy (hp:zuF s):(58:UInt8)∈s∧∀m,s≠m++[93]:=by
 obtain ⟨a,p,rfl,h1,h2,b⟩:=hp;refine ⟨by simp,fun m e=>?_⟩;have hd:=(zFB b).1
 obtain ⟨q,x,rfl⟩:∃q x,p=q++[x]:=by
  have:=(zFB b).2;exact ⟨p.dropLast,p.getLast this,(List.dropLast_concat_getLast this).symm⟩
 have c:(a++58::q)++[x]=m++[93]:=by simpa using e
 have:=(List.append_inj' c rfl).2;simp at this; subst this;simp only [List.all_append,List.all_cons,List.all_nil,Bool.and_true,Bool.and_eq_true] at hd;rw [ztn.2.2.2.2.2.2.2] at hd;exact absurd hd.2 (by decide)
theorem pre_tk {s p:Str}:(p.length≤s.length→(tk s (p.length:Int)==p)=p.isPrefixOf s)∧(s.length<p.length→p.isPrefixOf s=false):=by
 constructor
 ·intro h;rw [Bool.eq_iff_iff,beq_iff_eq,List.isPrefixOf_iff_prefix,List.prefix_iff_eq_take];unfold tk;simp only [Int.toNat_natCast];exact eq_comm
 ·intro h;rw [Bool.eq_false_iff];intro e;have:=(List.isPrefixOf_iff_prefix.1 e).length_le;omega
theorem zPJ (m:UInt8→Bool) (h0:0≤i) (h:dr s i=37::dr s (i+1)) (e:m 37=false) :
  (i+2<s.length→zvs m (dr s i)=((sb s (i+1) (i+3)).all zlL&&zvs m (dr s (i+3))))∧((s.length:Int)≤i+2→zvs m (dr s i)=false):=by
 obtain ⟨k,rfl⟩:∃k:Nat,i=k:=⟨i.toNat,by omega⟩
 have b:((k:Int)+1).toNat=k+1:=by omega
 have c:((k:Int)+3).toNat=k+3:=by omega
 constructor
 ·intro h2
  have ea:dr s ((k:Int)+1)=s[k+1]::s[k+2]::dr s ((k:Int)+3):=by
   unfold dr;rw [b,c,List.drop_eq_getElem_cons (by omega),List.drop_eq_getElem_cons (by omega)]
  have eb:sb s ((k:Int)+1) ((k:Int)+3)=[s[k+1],s[k+2]]:=by
   unfold sb;rw [b,c,List.drop_take,List.drop_eq_getElem_cons (by omega),List.drop_eq_getElem_cons (by omega),show k+3-(k+1)=2 by omega];rfl
  rw [h,ea,pq_p,eb]; simp [Bool.and_assoc]
 ·intro h2;rw [h]
  have d:(dr s ((k:Int)+1)).length≤1:=by simp [dr]; omega
  match dr s ((k:Int)+1),d with
  | [],_=>exact (pq_1 m 0).2
  | [a],_=>exact (pq_1 m a).1
def pqM (m s:Str):Bool:=zvs (fun c=>m.contains c) s
theorem zM4 (m:Str):pqM m []=true:=rfl
theorem pqM_o (m:Str) (c:UInt8) (s:Str) (h:c≠37):pqM m (c::s)=((zAT c||m.contains c)&&pqM m s):=pq_o _ c s h
theorem pqM_s (m:Str) (h0:0≤i) (h:dr s i=37::dr s (i+1)) (a:37∉m) :
  (i+2<s.length→pqM m (dr s i)=((sb s (i+1) (i+3)).all zlL&&pqM m (dr s (i+3))))∧((s.length:Int)≤i+2→pqM m (dr s i)=false) :=
 zPJ _ h0 h (by simpa using a)
theorem goA (h:G:=by
 (with_reducible repeat' first|intro _|refine And.intro ?_ ?_|refine Wf ?_ ?_|refine Wi ?_ ?_|refine Ws ?_|refine Wc ?_ ?_|refine Wo ?_ ?_|refine Wk ?_|refine We ?_ ?_)
 all_goals (try simp only [List.length_cons,List.length_nil])
 all_goals grind [zD4, → zzg,zKD,zKE,zBj,zsh, → six_c, → zM3, → zzh, → zJ6, → zHX, → zAg, → zIx, → zIy,zM4,pqM_o,pqM_s,ztn,spt,zy0,zCY,zxF,sb_s,zy1,zAU,fuel,zb5,zcW,zgn,za9,zaV,List.append_assoc,zbg,zaF,zfK,Sm,Ss,Fv,Fm,Cw,Pw,Tm,Swm,Um,Ac,Km,Gm,Pm,Rt,Tp,Rm,Rl,Om,Ol,UInt8.toNat_lt]):G:=h
theorem goD (h:G:=by
 (with_reducible repeat' first|intro _|refine And.intro ?_ ?_|refine Wf ?_ ?_|refine Wi ?_ ?_|refine Ws ?_|refine Wc ?_ ?_|refine Wo ?_ ?_|refine Wk ?_|refine We ?_ ?_)
 all_goals (try simp only [List.length_cons,List.length_nil])
 all_goals grind [dvI,zM1,zJ5,zM0,dgs_g,fuel,zb5,zcW,zgn,za9,zaV,List.append_assoc,zbg,zaF,zfK,Sm,Ss,Fv,Fm,Cw,Pw,Tm,Swm,Um,Ac,Km,Gm,Pm,Rt,Tp,Rm,Rl,Om,Ol,UInt8.toNat_lt]):G:=h
theorem goQ (h:G:=by
 (with_reducible repeat' first|intro _|refine And.intro ?_ ?_|refine Wf ?_ ?_|refine Wi ?_ ?_|refine Ws ?_|refine Wc ?_ ?_|refine Wo ?_ ?_|refine Wk ?_|refine We ?_ ?_)
 all_goals (try simp only [List.length_cons,List.length_nil])
 all_goals grind [nm_e,nm_pct,nm_no,ztn,pct_s,fuel,zb5,zcW,zgn,za9,zaV,List.append_assoc,zbg,zaF,zfK,Sm,Ss,Fv,Fm,Cw,Pw,Tm,Swm,Um,Ac,Km,Gm,Pm,Rt,Tp,Rm,Rl,Om,Ol,UInt8.toNat_lt]):G:=h
theorem goP (h:G:=by
 (with_reducible repeat' first|intro _|refine And.intro ?_ ?_|refine Wf ?_ ?_|refine Wi ?_ ?_|refine Ws ?_|refine Wc ?_ ?_|refine Wo ?_ ?_|refine Wk ?_|refine We ?_ ?_)
 all_goals (try simp only [List.length_cons,List.length_nil])
 all_goals grind [pre_tk,fuel,zb5,zcW,zgn,za9,zaV,List.append_assoc,zbg,zaF,zfK,Sm,Ss,Fv,Fm,Cw,Pw,Tm,Swm,Um,Ac,Km,Gm,Pm,Rt,Tp,Rm,Rl,Om,Ol,UInt8.toNat_lt]):G:=h
end Go.Dm
end
section
namespace Go.Dm
theorem zNi (c:UInt8) (s:Str):([c].isPrefixOf s=true↔∃t,s=c::t):=by
 cases s with
 | nil=>simp
 | cons x s=>simp [List.isPrefixOf]; exact eq_comm
end Go.Dm
end
section
namespace Go.Dm
variable {s:Str} {c:UInt8} {i:Int} {l:List Str} {o:List Str}
def zm8 (s:Str):Str:=s.dropWhile zok
def zon (s:Str):Str:=(s.reverse.dropWhile zok).reverse
theorem zry (s:Str) (c:UInt8):zon (s++[c])=if zok c then zon s else s++[c]:=by
 unfold zon;rw [List.reverse_append];simp only [List.reverse_cons,List.reverse_nil,List.nil_append,List.singleton_append,List.dropWhile_cons]
 split<;>simp
theorem zHz (s:Str):(s.all zok=true∧zon s=[])∨∃a c b,s=a++c::b∧zok c=false∧b.all zok=true∧zon s=a++[c]:=by
 rw [← List.reverse_reverse s];generalize s.reverse=r
 induction r with
 | nil=>left; exact ⟨rfl,rfl⟩
 | cons x r e =>
  rw [List.reverse_cons,zry]
  rcases (by cases zok x<;>simp:zok x=true∨zok x=false) with h|h
  ·rw [h]
   rcases e with ⟨h1,h2⟩|⟨a,c,b,h1,h2,f,d⟩
   ·left; refine ⟨?_,by simpa using h2⟩
    rw [List.all_append,h1]; simp [h]
   ·right; refine ⟨a,c,b++[x],by rw [h1]; simp,h2,by rw [List.all_append,f]; simp [h],by simpa using d⟩
  ·right; exact ⟨r.reverse,x,[],rfl,h,rfl,by simp [h]⟩
theorem zLr (h:s.all zok=true):zm8 s=[]:=by
 unfold zm8
 induction s with
 | nil=>rfl
 | cons x s a =>
  simp only [List.all_cons,Bool.and_eq_true] at h;rw [List.dropWhile_cons,h.1];exact a h.2
theorem zLs {a:Str} {b:Str} (hc:zok c=false):zm8 (a++c::b)=zm8 (a++[c])++b:=by
 unfold zm8
 induction a with
 | nil=>simp [List.dropWhile_cons,hc]
 | cons x a d =>
  simp only [List.cons_append,List.dropWhile_cons]
  split
  ·exact d
  ·simp
theorem zOj {a:Str} (hc:zok c=false):∃d,zm8 (a++[c])=d++[c]:=by
 unfold zm8
 induction a with
 | nil=>exact ⟨[],by simp [List.dropWhile_cons,hc]⟩
 | cons x a b =>
  simp only [List.cons_append,List.dropWhile_cons]
  split
  ·exact b
  ·exact ⟨x::a,rfl⟩
theorem zLt {d:Str} {b:Str} (hc:zok c=false) (a:b.all zok=true):zon (d++c::b)=d++[c]:=by
 rw [← List.reverse_reverse b] at *
 generalize b.reverse=r at *
 induction r with
 | nil=>rw [List.reverse_nil,zry,hc]; rfl
 | cons x r e =>
  rw [List.reverse_cons,List.all_append] at a;simp only [Bool.and_eq_true,List.all_cons,List.all_nil,Bool.and_true] at a;rw [List.reverse_cons, ← List.cons_append, ← List.append_assoc,zry,a.2];exact e a.1
theorem zLu (s:Str):zon (zm8 s)=zI5 s:=by
 show zon (zm8 s)=zm8 (zon s)
 rcases zHz s with ⟨h1,h2⟩|⟨a,c,b,h1,h2,f,e⟩
 ·rw [h2,zLr h1]; rfl
 ·rw [e,h1,zLs h2];obtain ⟨d,hd⟩:=zOj (a:=a) h2;rw [hd,List.append_assoc];exact zLt h2 f
theorem zQh (s:Str):zI5 s=zon (zm8 s):=(zLu s).symm
theorem trl_n:zm8 []=[]∧zon []=[]:=⟨rfl,rfl⟩
theorem trl_c (h:dr s 0=c::dr s (0+1)):zm8 s=if zok c=true then zm8 (dr s 1) else s:=by
 have e:s=c::dr s 1:=h;unfold zm8
 conv=>lhs; rw [e,List.dropWhile_cons]
 split
 ·rfl
 ·exact e.symm
theorem trr_c (h:sAt s ((s.length:Int)-1)=some c):zon s=if zok c=true then zon (tk s ((s.length:Int)-1)) else s:=by
 obtain ⟨m,rfl⟩:=zzh h;rw [zry]
 have e:(((m++[c]:Str).length:Int)-1).toNat=m.length:=by simp
 unfold tk;rw [e,List.take_left]
theorem dig_s {d e:Int} (h:e=d+1) (h1:0≤d) (h2:d<10):sb ([48,49,50,51,52,53,54,55,56,57,97,98,99,100,101,102]:Str) d e=[UInt8.ofNat (48+d.toNat)]:=by
 have:∀k:Fin 10,sb ([48,49,50,51,52,53,54,55,56,57,97,98,99,100,101,102]:Str) (k.val:Int) ((k.val:Int)+1)=[UInt8.ofNat (48+k.val)]:=by decide
 have:=this ⟨d.toNat,by omega⟩;subst h
 rwa [show ((d.toNat:Nat):Int)=d by omega] at this
theorem dec_b {x:Int} (h0:0≤x):(x<10→Go.Lib.decDigits x.toNat=[UInt8.ofNat (48+x.toNat)])∧(10≤x→Go.Lib.decDigits x.toNat=Go.Lib.decDigits (x/10).toNat++[UInt8.ofNat (48+(x%10).toNat)]):=by
 constructor
 ·intro h; rw [Go.Lib.decDigits,dif_pos (by omega)]
 ·intro h; rw [Go.Lib.decDigits,dif_neg (by omega),show x.toNat/10=(x/10).toNat by omega,show x.toNat%10=(x%10).toNat by omega]
instance (m:Int):T (zGy m 10) (0≤m∧m≤9223372036854775807) (fun r=>r=m%10):=⟨fun ⟨h1,h2⟩=>⟨m%10,by rw [zGy,if_pos ⟨h1,by decide,by simp [inI]; omega⟩],rfl⟩⟩
theorem zOk:∀(k n:Nat) (x:Int),k≤n→1≤k→0≤x→x<(10^k:Nat)→x≤9223372036854775807→k≤20→W (zeu n x 10) (fun r=>r=Go.Lib.decDigits x.toNat∧r.length≤k)
 | 0,n,x,_,h,_,_,_,_=>absurd h (by decide)
 | k+1,0,x,h,_,_,_,_,_=>absurd h (by omega)
 | k+1,n+1,x,hn,_,h0,h,l,i=>by
  have b:=dec_b h0;unfold zeu
  by_cases a:x<10
  ·have f:=dig_s (d:=x) rfl h0 a;have b:=b.1 a;rw [if_pos (by simpa using a)]
   (with_reducible repeat' first|intro _|refine And.intro ?_ ?_|refine Wi ?_ ?_|refine Ws ?_|refine Wc ?_ ?_)
   all_goals (try simp only [List.length_cons,List.length_nil])
   all_goals grind
  ·have c:1≤k:=by
    cases k with
    | zero=>simp at h; omega
    | succ k=>omega
   have h':x<(10^k:Nat)*10:=by rw [Nat.pow_succ] at h; omega
   have g:=zOk k n (x/10) (by omega) c (Int.ediv_nonneg h0 (by decide)) (Int.ediv_lt_of_lt_mul (by decide) h') (by omega) (by omega);have b:=b.2 (by omega)
   have hd:zD2 x 10=some (x/10):=by rw [zD2,if_pos ⟨h0,by decide,by simp [inI]; omega⟩]
   have f:=dig_s (d:=x%10) rfl (by omega) (by omega);obtain ⟨r,e,m,j⟩:=g;rw [if_neg (by simpa using a),hd];show W ((zeu n (x/10) 10).bind _) _;rw [e];show W ((zGy x 10).bind _) _
   (with_reducible repeat' first|intro _|refine And.intro ?_ ?_|refine Wi ?_ ?_|refine Ws ?_|refine Wc ?_ ?_)
   all_goals (try simp only [List.length_cons,List.length_nil])
   all_goals grind
def ptR (s:Str) (b:UInt8) (o:List Str) (a i:Int):List Str:=o++zlG (sb s a i) (zy b (dr s i))
theorem pt_e {b:UInt8} {a i:Int} (h:(s.length:Int)≤i):ptR s b o a i=o++[dr s a]:=by
 unfold ptR; rw [za9 h,sb_e h,zy,zlG,List.append_nil]
theorem pt_c {b:UInt8} {a i:Int} (h:dr s i=b::dr s (i+1)):ptR s b o a i=ptR s b (o++[sb s a i]) (i+1) (i+1):=by
 unfold ptR;rw [h,zk4,if_pos rfl,zy1,zuX _ (zgS _ _),zlG];simp
theorem pt_o {b x:UInt8} {a i:Int} (h0:0≤a) (h1:a≤i) (h:dr s i=x::dr s (i+1)) (c:x≠b):ptR s b o a i=ptR s b o a (i+1):=by
 have d:=zla (by omega) h;unfold ptR;rw [h,zk4,if_neg c,zuA _ _ _ (zgS _ _),zI7 h0 h1 (by omega:i≤i+1) (by omega),h];simp
theorem pt_0 (s:Str) (b:UInt8):ptR s b [] 0 0=zy b s:=by
 unfold ptR; rw [zy1,zgn,zuX _ (zgS _ _)]; rfl
theorem less_v {p:Str} {m:Int} (k:m=255∨m=599∨m=65535) (h:p.all zcj=true) :
  (Go.Lib.decDigits m.toNat).length≤5∧(¬ (Go.Lib.decDigits m.toNat).length<p.length→((Go.Lib.decDigits m.toNat).length=p.length→zjo (Go.Lib.decDigits m.toNat) p=false)→p.length≤5∧dvI 0 p≤m):=by
 have l:Go.Lib.decDigits 255=[50,53,53]:=by simp [Go.Lib.decDigits]
 have j:Go.Lib.decDigits 599=[53,57,57]:=by simp [Go.Lib.decDigits]
 have i:Go.Lib.decDigits 65535=[54,53,53,51,53]:=by simp [Go.Lib.decDigits]
 have dr:∀b∈p,48≤b.toNat∧b.toNat≤57:=fun b n=>zHW b (List.all_eq_true.1 h b n);have lt:∀a b:UInt8,(a<b)↔a.toNat<b.toNat:=fun a b=>Iff.rfl
 have eq:∀a b:UInt8,(a==b)=true↔a.toNat=b.toNat:=fun a b=>by rw [beq_iff_eq]; exact ⟨fun e=>e▸rfl,UInt8.toNat_inj.1⟩
 match p with
 | []=>rcases k with rfl|rfl|rfl<;>simp [l,j,i,dvI]
 | [a]=>have:=dr a (by simp); rcases k with rfl|rfl|rfl<;>simp [l,j,i,dvI]<;>omega
 | [a,b]=>have:=dr a (by simp); have:=dr b (by simp); rcases k with rfl|rfl|rfl<;>simp [l,j,i,dvI]<;>omega
 | [a,b,c] =>
  have:=dr a (by simp); have:=dr b (by simp); have:=dr c (by simp)
  rcases k with rfl|rfl|rfl
  ·simp only [show (255:Int).toNat=255 from rfl,l,List.length_cons,List.length_nil];refine ⟨by omega,fun _ g=>⟨by omega,?_⟩⟩;have g:=g trivial;simp only [zjo,Bool.or_eq_false_iff,Bool.and_eq_false_iff,decide_eq_false_iff_not,lt,beq_eq_false_iff_ne,ne_eq, ← UInt8.toNat_inj] at g;simp only [dvI]; simp at g ⊢; omega
  ·simp only [show (599:Int).toNat=599 from rfl,j,List.length_cons,List.length_nil];refine ⟨by omega,fun _ g=>⟨by omega,?_⟩⟩;have g:=g trivial;simp only [zjo,Bool.or_eq_false_iff,Bool.and_eq_false_iff,decide_eq_false_iff_not,lt,beq_eq_false_iff_ne,ne_eq, ← UInt8.toNat_inj] at g;simp only [dvI]; simp at g ⊢; omega
  ·simp only [show (65535:Int).toNat=65535 from rfl,i,List.length_cons,List.length_nil];refine ⟨by omega,fun _ g=>⟨by omega,?_⟩⟩;simp only [dvI]; omega
 | [a,b,c,d] =>
  have:=dr a (by simp); have:=dr b (by simp); have:=dr c (by simp); have:=dr d (by simp)
  rcases k with rfl|rfl|rfl
  ·simp [l]
  ·simp [j]
  ·simp [i,dvI]; omega
 | [a,b,c,d,e] =>
  have:=dr a (by simp); have:=dr b (by simp); have:=dr c (by simp); have:=dr d (by simp); have:=dr e (by simp)
  rcases k with rfl|rfl|rfl
  ·simp [l]
  ·simp [j]
  ·simp only [show (65535:Int).toNat=65535 from rfl,i,List.length_cons,List.length_nil];refine ⟨by omega,fun _ g=>⟨by omega,?_⟩⟩;have g:=g trivial;simp only [zjo,Bool.or_eq_false_iff,Bool.and_eq_false_iff,decide_eq_false_iff_not,lt,beq_eq_false_iff_ne,ne_eq, ← UInt8.toNat_inj] at g;simp only [dvI]; simp at g ⊢; omega
 | a::b::c::d::e::f::t=>rcases k with rfl|rfl|rfl<;>simp [l,j,i]
def sixW (a b:Str):Prop:=∃i j,Grp false (spt a) i∧Grp true (spt b) j∧i+j≤7
def zrz (s:Str) (i:Int):Prop:=match zmS (dr s i) with
 | none=>Grp true (zy 58 s) 8
 | some (a,b)=>sixW (tk s i++a) b
theorem sixA_s (h0:0≤i) (h:dr s i=c::dr s (i+1)) (hc:c≠58∨∀t,dr s (i+1)≠58::t) (d:zrz s (i+1)):zrz s i:=by
 have e:zmS (dr s i)=(zmS (dr s (i+1))).map fun p=>(c::p.1,p.2):=by
  rw [h]; exact zmS.eq_2 _ _ (fun t a b=>by rcases hc with hc|hc; exact hc a; exact hc t b)
 unfold zrz at d ⊢;rw [e]
 cases f:zmS (dr s (i+1)) with
 | none=>rw [f] at d; exact d
 | some p =>
  rw [f] at d;simp only [Option.map_some];have:=zy0 h0 h
  replace d:sixW (tk s (i+1)++p.1) p.2:=d
  rw [this,List.append_assoc] at d;exact d
theorem sixA_0 (h:zrz s 0):zvr s:=by
 unfold zrz at h;unfold zvr;rw [zgn] at h
 cases e:zmS s with
 | none =>
  rw [e] at h;unfold spt
  by_cases a:s=[]
  ·subst a;simp only [zy] at h;rw [zKE] at h
   rcases h with ⟨_,_,h,_⟩|⟨h,_⟩
   ·cases h
   ·exact absurd h (by decide)
  ·rw [if_neg a]; exact h
 | some p=>rw [e] at h; exact h
theorem spt_z {t u:Str} {a:List Str} {n:Int} (h0:0≤n) (b:spt t=a++List.replicate n.toNat [48]) :
  (t=[]→u=t→spt (u++[48])=a++List.replicate (n+1).toNat [48])∧(t≠[]→u=t++[58]→spt (u++[48])=a++List.replicate (n+1).toNat [48]):=by
 have e:(n+1).toNat=n.toNat+1:=by omega
 have z:spt [48]=[[48]]:=by decide
 have:=zHU (t:=t) (x:=[48]) (by simp);rw [b,z] at this;constructor
 ·rintro rfl rfl;rw [if_pos rfl] at this;rw [this,e,List.replicate_succ',List.append_assoc]
 ·rintro h rfl;rw [if_neg h] at this;rw [this,e,List.replicate_succ',List.append_assoc]
def GT (l:List Str) (a:Int):Prop:=∃k:Nat,Grp true l k∧a+k=8
theorem GT_e {a:Int} (h:a=8):GT [] a:=⟨0,.nil _,by omega⟩
theorem GT_h {a:Int} (h:zsh s=true) (g:GT l (a+1)):GT (s::l) a:=by
 obtain ⟨k,h1,h2⟩:=g;exact ⟨k+1,.hex _ s l k h h1,by omega⟩
theorem GT_0 (h:GT l 0):Grp true l 8:=by
 obtain ⟨k,h1,h2⟩:=h
 have:k=8:=by omega
 exact this▸h1
def hxs (s:Str):Bool:=s.all zlL
theorem hxs_a (s t:Str):hxs (s++t)=(hxs s&&hxs t):=List.all_append
theorem hxs_1 (c:UInt8):hxs [c]=zlL c:=by simp [hxs]
theorem hxs_0 (s:Str):hxs (tk s 0)=true:=rfl
def elt (l:List Str) (i:Int):Str:=(lAt l i).getD []
theorem zKi {r:Str} (h:lAt l i=some r):elt l i=r:=by unfold elt; rw [h]; rfl
theorem elt_m (h0:0≤i) (h:i<l.length):elt l i∈l:=by
 have a:i.toNat<l.length:=by omega
 have:lAt l i=some l[i.toNat]:=by simp [lAt,h0,a]
 rw [zKi this]; exact List.getElem_mem a
theorem hex_i {x:Str} (h:hxs (tk x i)=true) (h0:(x.length:Int)≤i) (h1:1≤x.length) (h2:x.length≤4):zsh x=true:=by
 rw [zI6 h0] at h;unfold hxs at h;unfold zsh; rw [h]; simp [h1,h2]
def SZ (s:Str) (i n:Int) (t:Str):Prop:=spt t=spt (tk s i)++List.replicate n.toNat [48]
theorem SZ_0:SZ s i 0 (tk s i):=by unfold SZ; simp
theorem SZ_a {i n:Int} {t:Str} (h:SZ s i n t) (h0:0≤n) (a:t≠[]):SZ s i (n+1) ((t++[58])++[48]):=(spt_z h0 h).2 a rfl
theorem SZ_b {i n:Int} {t:Str} (h:SZ s i n t) (h0:0≤n) (a:t=[]):SZ s i (n+1) (t++[48]):=(spt_z h0 h).1 a rfl
theorem zKj {n m:Int} (h0:0≤n) (h:n≤m) (e:Go.Lib.decDigits n.toNat=s):zhw s m:=e▸zD4 h0 h
theorem nm_3 {a b:UInt8} (h:dr s i=37::dr s (i+1)) (d:dr s (i+1)=a::dr s (i+1+1)) (c:dr s (i+2)=b::dr s (i+2+1)):zjs (dr s i)=(zlL a&&zlL b&&zjs (dr s (i+3))):=by
 rw [h,d,show i+1+1=i+2 by omega,c,nm_p,show i+2+1=i+3 by omega]
theorem no_58 {c x:UInt8} (h:dr s i=x::dr s (i+1)) (a:x≠c) (hn:c∉dr s (i+1)):c∉dr s i:=by
 rw [h]; simp; exact ⟨fun e=>a e.symm,hn⟩
theorem zOl {p:Str} {m:Int} (a:m=255∨m=599∨m=65535) (h:dgs p=true) :
  (Go.Lib.decDigits m.toNat).length≤5∧(¬ (Go.Lib.decDigits m.toNat).length<p.length→((Go.Lib.decDigits m.toNat).length=p.length→zjo (Go.Lib.decDigits m.toNat) p=false)→p.length≤5∧dvI 0 p≤m):=less_v a h
theorem zHA (c:UInt8) {s:Str} (h:s.length<900000000):Sm (zy c s)∧(zy c s).length≤900000001∧∀x∈zy c s,x.length≤s.length:=by
 have a:=zxH c s;exact ⟨⟨by omega,fun x b=>by have:=a.2 x b; omega⟩,by omega,a.2⟩
theorem cd48:zcj 48=true:=by decide
theorem goRn {G:Prop} (h:G:=by
 (with_reducible repeat' first|intro _|refine And.intro ?_ ?_|refine Wf ?_ ?_|refine Wi ?_ ?_|refine Ws ?_|refine Wc ?_ ?_|refine Wo ?_ ?_|refine Wk ?_|refine We ?_ ?_)
 all_goals (try simp only [List.length_cons,List.length_nil])
 all_goals grind [cd48,dec_d,zJ5,zM0,dgs_a,zOl,dvI,zM1,zKj,fuel,zb5,zcW,zgn,za9,zaV,List.append_assoc,vals,zbg,zaF,zfK,Sm,Ss,Fv,Fm,Cw,Pw,Tm,Swm,Um,Ac,Km,Gm,Pm,Rt,Tp,Rm,Rl,Om,Ol,UInt8.toNat_lt]):G:=h
theorem zJn {G:Prop} (h:G:=by
 (with_reducible repeat' first|intro _|refine And.intro ?_ ?_|refine Wf ?_ ?_|refine Wi ?_ ?_|refine Ws ?_|refine Wc ?_ ?_|refine Wo ?_ ?_|refine Wk ?_|refine We ?_ ?_)
 all_goals (try simp only [List.length_cons,List.length_nil])
 all_goals grind [zij,pt_e,pt_c,pt_o,pt_0,zla,fuel,zb5,zcW,zgn,za9,zaV,List.append_assoc,vals,zbg,zaF,zfK,Sm,Ss,Fv,Fm,Cw,Pw,Tm,Swm,Um,Ac,Km,Gm,Pm,Rt,Tp,Rm,Rl,Om,Ol,UInt8.toNat_lt]):G:=h
end Go.Dm
end
section
namespace Go.Dm
variable {s m:Str} {G:Prop}
theorem pqM_3 {a b:UInt8} (h:dr s 0=37::dr s (0+1)) (d:dr s 1=a::dr s (1+1)) (c:dr s 2=b::dr s (2+1)):pqM m s=(zlL a&&zlL b&&pqM m (dr s 3)):=by
 have e:s=37::a::b::dr s 3:=by
  have h1:s=37::dr s 1:=h;have h2:dr s 1=a::dr s 2:=d;have f:dr s 2=b::dr s 3:=c;rw [← f, ← h2]; exact h1
 conv=>lhs; rw [e]
 exact pq_p _ a b _
theorem pqM_2 {a:UInt8} (h:dr s 0=37::dr s (0+1)) (f:dr s 1=a::dr s (1+1)) (g:2<(s.length:Int)) (d:zlL a=false):pqM m s=false:=by
 obtain ⟨b,e,c⟩:=(inferInstance:T (sAt s 2) _ _).ok ⟨by decide,g⟩;rw [pqM_3 h f c.2.2,d]; rfl
theorem pqM_l (h:dr s 0=37::dr s (0+1)) (b:(s.length:Int)≤2):pqM m s=false:=by
 have e:s=37::dr s 1:=h;generalize dr s 1=t at e;subst e
 match t,b with
 | [],_=>exact (pq_1 _ 0).2
 | [a],_=>exact (pq_1 _ a).1
 | _::_::_,b=>simp at b; omega
theorem pqM_c {c:UInt8} (h:dr s 0=c::dr s (0+1)) (hc:c≠37):pqM m s=((zAT c||m.contains c)&&pqM m (dr s 1)):=by
 have e:s=c::dr s 1:=h
 conv=>lhs; rw [e]
 exact pq_o _ c _ hc
def fl:Nat→UInt8→Str→Int→Option Str
 | 0,_,_,_=>none
 | n+1,c,b,a=>if (decide (a<26)) then (sAt [65,66,67,68,69,70,71,72,73,74,75,76,77,78,79,80,81,82,83,84,85,86,87,88,89,90] a).bind fun d=>if (d==c) then (zi a 1).bind fun e=>(zlF [97,98,99,100,101,102,103,104,105,106,107,108,109,110,111,112,113,114,115,116,117,118,119,120,121,122] a e).bind fun f=>(zi a 1).bind fun h=>fl n c f h else (zi a 1).bind fun g=>fl n c b g else some b
theorem bnd {α β γ:Type} (o:Option α) (f:α→Option β) (g:β→Option γ):(o.bind f).bind g=o.bind fun x=>(f x).bind g:=by cases o<;>rfl
theorem zMP (g:Str→Int→Option Str) (b d:Str) (i4:Int) (c:UInt8) (h:sAt b i4=some c):∀(n:Nat) (a:Str) (e:Int),
  zfB g b d i4 n a e=(fl n c a e).bind fun s=>(zci d s).bind fun i=>(zi i4 1).bind fun j=>g i j
 | 0,a,e=>rfl
 | n+1,a,e=>by
  unfold zfB fl
  have h2:∀(f:UInt8→Option Str),(sAt b i4).bind f=f c:=fun f=>by rw [h]; rfl
  split
  ·rw [bnd]
   congr 1; funext r1
   rw [h2]
   split
   ·rw [bnd]; congr 1; funext r3;rw [bnd]; congr 1; funext r4;rw [bnd]; congr 1; funext r5;exact zMP g b d i4 c h n r4 r5
   ·rw [bnd]; congr 1; funext r3;exact zMP g b d i4 c h n a r3
  ·rfl
theorem fl_v (c:UInt8):fl fuel c [c] 0=some [zlJ c]:=by
 have:=zqh (p:=fun c=>fl fuel c [c] 0==some [zlJ c]) (by decide +kernel) c;simpa using this
theorem low_n:low []=[]:=rfl
theorem low_c (c:UInt8) (s:Str):low (c::s)=zlJ c::low s:=rfl
def vls (s:Str):Bool:=s.all zE8
theorem vls_n:vls []=true:=rfl
theorem vls_c (c:UInt8) (s:Str):vls (c::s)=(zE8 c&&vls s):=List.all_cons
theorem goU (h:G:=by
 (with_reducible repeat' first|intro _|refine And.intro ?_ ?_|refine Wf ?_ ?_|refine Wi ?_ ?_|refine Ws ?_|refine Wc ?_ ?_|refine Wo ?_ ?_|refine Wk ?_|refine We ?_ ?_)
 all_goals (try subst_vars)
 all_goals (try simp only [List.length_cons,List.length_nil])
 all_goals grind [zM4,pqM_2,pqM_3,pqM_l,pqM_c,ztn, → zy0,zxF,zla,fuel,zb5,zcW,zgn,za9,zaV,List.append_assoc,vals,zbg,zaF,zfK,Sm,Ss,Fv,Fm,Cw,Pw,Tm,Swm,Um,Ac,Km,Gm,Pm,Rt,Tp,Rm,Rl,Om,Ol,UInt8.toNat_lt]):G:=h
theorem sb_x {s:Str} {i:Int} (h0:0≤i) (h:i<s.length):∃c,sb s i (i+1)=[c]∧dr s i=c::dr s (i+1):=by
 obtain ⟨c,e,hc⟩:=(inferInstance:T (sAt s i) _ _).ok ⟨h0,h⟩;refine ⟨c,?_,hc.2.2⟩;rw [zI7 h0 (Int.le_refl _) (by omega:i≤i+1) (by omega),zy1,hc.2.2]; simp
theorem goF (h:G:=by
 (with_reducible repeat' first|intro _|refine And.intro ?_ ?_|refine Wf ?_ ?_|refine Wi ?_ ?_|refine Ws ?_|refine Wc ?_ ?_|refine Wo ?_ ?_|refine Wk ?_|refine We ?_ ?_)
 all_goals (try subst_vars)
 all_goals (try simp only [List.length_cons,List.length_nil])
 all_goals grind [sb_x,low_n,low_c,zla,fuel,zb5,zcW,zgn,za9,zaV,List.append_assoc,vals,zbg,zaF,zfK,Sm,Ss,Fv,Fm,Cw,Pw,Tm,Swm,Um,Ac,Km,Gm,Pm,Rt,Tp,Rm,Rl,Om,Ol,UInt8.toNat_lt]):G:=h
theorem goV (h:G:=by
 (with_reducible repeat' first|intro _|refine And.intro ?_ ?_|refine Wf ?_ ?_|refine Wi ?_ ?_|refine Ws ?_|refine Wc ?_ ?_|refine Wo ?_ ?_|refine Wk ?_|refine We ?_ ?_)
 all_goals (try subst_vars)
 all_goals (try simp only [List.length_cons,List.length_nil])
 all_goals grind [vls_n,vls_c,zij,zHA,trl_n,trl_c,trr_c,zQh, → zy0,zxF,zla,fuel,zb5,zcW,zgn,za9,zaV,List.append_assoc,vals,zbg,zaF,zfK,Sm,Ss,Fv,Fm,Cw,Pw,Tm,Swm,Um,Ac,Km,Gm,Pm,Rt,Tp,Rm,Rl,Om,Ol,UInt8.toNat_lt]):G:=h
end Go.Dm
end
