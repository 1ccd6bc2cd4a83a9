/- strings.SplitSeq at one byte, ranged over. Over this translation. -/
import Derived.Test.YtlehfmpjckapdaaGreatDoorSeq
import Derived.Test.YtlehfmpjckapdaaGreatDoorYTy
import Derived.Test.YtlehfmpjckapdaaGreatDoorTSplit
set_option linter.unusedVariables false
set_option linter.unusedSimpArgs false
set_option linter.unusedVariables false
set_option linter.unusedSimpArgs false
namespace Go.Proofs
open Go.Dk Go.Dm Go.RowKit Go.Shelf
attribute [local go_sem] Oper.semAt_some
theorem zKu (c:UInt8):∀(t:Str) (k:Nat),(c∉t∧ze2 t [c] k = -1)∨∃a b,t=a++c::b∧c∉a∧ze2 t [c] k=((k+a.length:Nat):Int)
 | [],k => .inl ⟨by simp,by simp [ze2,zlI]⟩
 | x::t,k=>by
  unfold ze2;simp only [zlI,Bool.and_true]
  by_cases h:x=c
  ·subst h; exact .inr ⟨[],t,rfl,by simp,by simp⟩
  ·have d:(x==c)=false:=beq_eq_false_iff_ne.2 h;rw [d];simp only [Bool.false_eq_true,if_false]
   rcases zKu c t (k+1) with ⟨h1,h2⟩|⟨a,b,h1,h2,f⟩
   ·exact .inl ⟨by simp only [List.mem_cons,not_or]; exact ⟨fun e=>h e.symm,h1⟩,h2⟩
   ·refine .inr ⟨x::a,b,by rw [h1]; rfl,by simp only [List.mem_cons,not_or]; exact ⟨fun e=>h e.symm,h2⟩,?_⟩;rw [f]; simp; omega
def zFy (a:Nat) (w:World):Nat:=match w.cell? ⟨a,0,none⟩ with
 | some (.string b)=>b.size
 | _=>0
set_option maxRecDepth 100000 in
set_option maxHeartbeats 2000000 in
theorem zHJ {Q:Str→Prop} (n:Nat) (hn:1≤n) (c:UInt8) (s:Str) (hs:s.length<1000000000) (hQ:∀p∈zy c s,Q p) (sB pB vB n₁ n₂ n₃:Nat) (w:World) (hn₁:n₁≤n₂) (hn₀:n₃≤w.heap.size)
  (h1:n₂≤sB∧sB<n₃) (h2:n₂≤pB∧pB<n₃) (h3:n₂≤vB∧vB<n₃) (hne:sB≠pB∧sB≠vB) (hlow:∀w',Below n₁ w w'→zi6 w')
  (c1:w.cell? ⟨sB,0,none⟩=some (str s)) (f1:w.frozen? ⟨sB,0,none⟩=false) (c2:w.cell? ⟨pB,0,none⟩=some (str [c])) (c3:w.cell? ⟨vB,0,none⟩=some (int 0)) :
  SeqM Fence.wide n Tryz.prog 354 #[ptr pB 0,ptr sB 0,ptr vB 0] (fun x:{ x:Str // Q x } => #[str x.1]) sB (zhg n₁ n₂ n₃) (fun xs=>xs.map (·.1)=zy c s) (fun pre=>pre.map (·.1) <+: zy c s) (zy c s).length w:=by
 intro l J Jx W hW hJ hJx hY h0;refine callsIn_of_wp Tryz.func354 rfl trivial ?_ rfl;simp only [Tryz.ntmps354,List.size_toArray,List.length_cons,List.length_nil,Nat.reduceAdd,Nat.reduceSub,Array.replicate_succ,Array.replicate_zero,List.push_toArray,List.append_toArray,List.nil_append,List.cons_append];have d1:W.cell? ⟨sB,0,none⟩=some (str s):=(hW.cell (p:=⟨sB,0,none⟩) (by simp; omega)).trans c1;have d2:W.cell? ⟨pB,0,none⟩=some (str [c]):=(hW.cell (p:=⟨pB,0,none⟩) (by simp; omega)).trans c2;have d3:W.cell? ⟨vB,0,none⟩=some (int 0):=(hW.cell (p:=⟨vB,0,none⟩) (by simp; omega)).trans c3
 gi_wp2
 gi_loopw [] (fun wr=>∃(pre:List { x:Str // Q x }) (t:Str),pre.map (·.1)++zy c t=zy c s∧t.length≤s.length∧(∀p∈zy c t,Q p)∧wr.cell? ⟨sB,0,none⟩=some (str t)∧wr.frozen? ⟨sB,0,none⟩=false∧wr.cell? ⟨pB,0,none⟩=some (str [c])∧wr.cell? ⟨vB,0,none⟩=some (int 0)∧Below n₁ w wr∧w.heap.size≤wr.heap.size∧J pre wr)
  (fun wr=>zFy sB wr)
 case atStart =>
  exact ⟨[],s,rfl,Nat.le_refl _,hQ,d1,(hW.frozen (p:=⟨sB,0,none⟩) (by simp; omega)).trans f1,d2,d3,hW.mono (by omega),hW.size,h0⟩
 case round =>
  obtain ⟨pre,t,hx,hlt,hQt,e1,e2,e3,e4,hB,hsz,hJs⟩:=hrel
  have hm:strings_Index t [c]=some (ze2 t [c] 0):=by unfold strings_Index; rw [if_pos (by omega)]
  have hgrow:∀{w':World},Below wr.heap.size wr w'→w'.cell? ⟨sB,0,none⟩=some (str t)∧w'.frozen? ⟨sB,0,none⟩=false∧w'.cell? ⟨pB,0,none⟩=some (str [c])∧w'.cell? ⟨vB,0,none⟩=some (int 0)∧J pre w':=fun hb =>
   ⟨(hb.cell (p:=⟨sB,0,none⟩) (by simp; omega)).trans e1,(hb.frozen (p:=⟨sB,0,none⟩) (by simp; omega)).trans e2,(hb.cell (p:=⟨pB,0,none⟩) (by simp; omega)).trans e3,(hb.cell (p:=⟨vB,0,none⟩) (by simp; omega)).trans e4,
    hJ _ _ _ none hJs ⟨hb.os,hb.tape,hb.output,hb.size,fun k hk _=>hb.block k hk⟩ (fun r e=>by cases e)⟩
  rcases zKu c t 0 with ⟨hno,hi⟩|⟨a,b,rfl,hno,hi⟩
  ·rw [hi] at hm;rw [zwa hno] at hx hQt
   have hlen:pre.length<(zy c s).length:=by rw [← hx]; simp
   gi_wp2_with (refine ⟨trivial,?_⟩; gi_at_call 322; refine (callsIn_wide.2 (zmX t [c] _ wr (hlow _ hB) hm)).mono ?_; rintro e w' ⟨rfl,hb⟩; obtain ⟨g1,g2,g3,g4,g5⟩:=hgrow hb; obtain ⟨fn,tmps,assign,body,hy,hR⟩:=hY pre ⟨t,hQt t (by simp)⟩ w' g5 hlen)
   refine hR.mono ?_;rintro e W3 (⟨rfl,hJ3,hk3⟩|⟨rfl,hJx3⟩)
   ·gi_wp2
    go_end0
    exact ⟨⟨_,rfl⟩,.inl ⟨pre++[⟨t,hQt t (by simp)⟩],by rw [List.map_append]; exact hx,hJ3⟩⟩
   ·gi_wp2
    go_end0
    exact ⟨⟨_,rfl⟩,.inr ⟨pre++[⟨t,hQt t (by simp)⟩],by rw [List.map_append, ← hx]; exact List.prefix_rfl,hJx3⟩⟩
  ·rw [hi] at hm;rw [zIz b hno] at hx hQt
   have hlen:pre.length<(zy c s).length:=by rw [← hx]; simp
   have hcond:decide ((a.length:Int)<0)=false:=by simp
   have hal:a.length<1000000000:=by simp at hlt; omega
   gi_wp2_with (refine ⟨trivial,?_⟩; gi_at_call 322; refine (callsIn_wide.2 (zmX (a++c::b) [c] _ wr (hlow _ hB) hm)).mono ?_; rintro e w' ⟨rfl,hb⟩; obtain ⟨g1,g2,g3,g4,g5⟩:=hgrow hb; obtain ⟨fn,tmps,assign,body,hy,hR⟩:=hY pre ⟨a,hQt a (by simp)⟩ w' g5 hlen)
   have hex:(⟨(a++c::b).toArray⟩:ByteArray).extract 0 a.length=⟨a.toArray⟩:=by
    apply ByteArray.ext
    simp
   have hsl:(⟨(a++c::b).toArray⟩:ByteArray).extract (a.length+1) (a.length+(b.length+1))=⟨b.toArray⟩:=by
    apply ByteArray.ext
    simp;rw [show a.length+(b.length+1)-(a.length+1)=b.length by omega,List.take_length]
   rw [hex]
   clear hex
   have hy':Sem.run Tryz.prog (Instr.yield l #[Value.string ⟨a.toArray⟩]) w' = .ok (.round l fn tmps assign body) w':=hy;rw [hy'];refine ⟨(fun h=>by cases h),?_⟩;refine hR.mono ?_;rintro e W3 (⟨rfl,hJ3,hk3⟩|⟨rfl,hJx3⟩)
   ·have q1:=(hk3.cell h1.1 h1.2).trans g1;have q2:=(hk3.frozen h1.1 h1.2).trans g2;have q3:=(hk3.cell h2.1 h2.2).trans g3;have q4:=(hk3.cell h3.1 h3.2).trans g4
    have hbl:b.length<1000000000:=by simp at hlt; omega
    clear g1 g2 g3 g4 e2 e3 e4
    gi_wp2
    have hg:=grownBy_setCell' W3 sB (str b)
    refine ⟨⟨pre++[⟨a,hQt a (by simp)⟩],b,?_,?_,fun p hp=>hQt p (List.mem_cons_of_mem _ hp),World.cell?_setCell_same' _ _ _ (by rw [q1]; rfl),by rw [World.frozen?_setCell]; exact q2,by rw [World.cell?_setCell_other _ _ _ _ (fun e=>hne.1 (congrArg Addr.block e))]; exact q3,by rw [World.cell?_setCell_other _ _ _ _ (fun e=>hne.2 (congrArg Addr.block e))]; exact q4,
     (((hB.trans (hb.mono (by omega))).trans hk3.1).setCell (p:=⟨sB,0,none⟩) (by show n₁≤sB; omega) _),?_,?_⟩,?_⟩
    ·rw [List.map_append,List.append_assoc]; exact hx
    ·simp at hlt; omega
    ·rw [World.size_setCell]; have h1:=hb.size; have h2:=hk3.1.size; omega
    ·exact hJ _ _ _ (some sB) hJ3 hg (fun r e=>by cases e; exact .inl rfl)
    ·have z1:(W3.setCell ⟨sB,0,none⟩ (str b)).cell? ⟨sB,0,none⟩=some (str b):=World.cell?_setCell_same' _ _ _ (by rw [q1]; rfl);show zFy sB (W3.setCell ⟨sB,0,none⟩ (str b))<zFy sB wr;unfold zFy;rw [z1,e1];show b.length<(a++c::b).length
     simp; omega
   ·gi_wp2
    refine bodyPost_ret (results_none rfl _ _ _) rfl ?_;exact ⟨⟨_,rfl⟩,.inr ⟨pre++[⟨a,hQt a (by simp)⟩],⟨zy c b,by rw [List.map_append,List.append_assoc]; exact hx⟩,hJx3⟩⟩
set_option maxHeartbeats 1000000 in
theorem zHK (n:Nat) (s sep:Str) (w:World) :
  CallsIn Fence.wide n Tryz.prog 292 #[str s,str sep,int 0] w fun e w'=>e = .returned (.func (.func 354) #[] #[ptr (w.heap.size+1) 0,ptr w.heap.size 0,ptr (w.heap.size+2) 0])∧w'=((w.alloc (.cells #[str s] 9)).alloc (.cells #[str sep] 9)).alloc (.cells #[int 0] 3):=by
 refine callsIn_of_wp Tryz.func292 rfl trivial ?_ rfl;simp only [Tryz.ntmps292,List.size_toArray,List.length_cons,List.length_nil,Nat.reduceAdd,Nat.reduceSub,Array.replicate_succ,Array.replicate_zero,List.push_toArray,List.append_toArray,List.nil_append,List.cons_append]
 gi_wp2
 go_ret
 exact ⟨rfl,rfl⟩
set_option maxHeartbeats 1000000 in
theorem zHL (n:Nat) (hn:1≤n) (s sep:Str) (w:World) :
  CallsIn Fence.wide n Tryz.prog 231 #[str s,str sep] w fun e w'=>e = .returned (.func (.func 354) #[] #[ptr (w.heap.size+1) 0,ptr w.heap.size 0,ptr (w.heap.size+2) 0])∧w'=((w.alloc (.cells #[str s] 9)).alloc (.cells #[str sep] 9)).alloc (.cells #[int 0] 3):=by
 refine callsIn_of_wp Tryz.func231 rfl trivial ?_ rfl;simp only [Tryz.ntmps231,List.size_toArray,List.length_cons,List.length_nil,Nat.reduceAdd,Nat.reduceSub,Array.replicate_succ,Array.replicate_zero,List.push_toArray,List.append_toArray,List.nil_append,List.cons_append]
 gi_wp2_with (refine ⟨trivial,?_⟩; gi_at_call 292; refine (zHK (n-1) s sep w).mono ?_; rintro e w' ⟨rfl,rfl⟩)
 go_ret
 exact ⟨rfl,rfl⟩
theorem zht {W:World} {b:Nat} {v:Value} (h:W.cell? ⟨b,0,none⟩=some v):∃o:Obj,W.heap[b]? = some o∧o.isCells=true:=by
 unfold World.cell? at h
 split at h
 ·rename_i e; exact ⟨_,e,rfl⟩
 ·cases h
theorem zBc {m B:Nat} {A C:World} {row:Option Nat} (i:A.grownBy C row) (k:∀r,row=some r→r=m∨(B≤r∧∃o:Obj,A.heap[r]? = some o∧o.isCells=false)) {b:Nat} {v:Value} (j:b≠m) (hc:A.cell? ⟨b,0,none⟩=some v) :
  C.cell? ⟨b,0,none⟩=some v∧C.frozen? ⟨b,0,none⟩=A.frozen? ⟨b,0,none⟩:=by
 obtain ⟨o,f,d⟩:=zht hc
 have g:C.heap[b]? = A.heap[b]? := by
  refine zjp i f fun e=>?_
  rcases k b e with h|⟨_,o',a,c⟩
  ·exact j h
  ·rw [f] at a; cases a; rw [d] at c; cases c
 refine ⟨?_,?_⟩
 ·rw [← hc]; unfold World.cell?; rw [g]
 ·unfold World.frozen?; rw [g]
theorem zmQ {W b:World} (a:Below W.heap.size W b):KeepsOthers W b :=
 ⟨a.size,fun k o h _=>(a.block k (Array.getElem?_eq_some_iff.1 h).1).trans h⟩
def zQz (f:Str→Option Bool):Prop:=∀(x:Str) (b:Bool) (W:World),zlb W→f x=some b→Calls Tryz.prog 112 #[str x,int 255] W fun e a=>e = .returned (.bool b)∧Below W.heap.size W a
set_option maxRecDepth 100000 in
set_option maxHeartbeats 4000000 in
theorem zQA (f:Str→Option Bool) (hf:zQz f) (s:Str) (hs:s.length<1000000000) (bs:List Bool) (hbs:(zy 46 s).mapM f=some bs) (w:World) (hG:zlb w) :
  Calls Tryz.prog 170 #[str s] w fun e w'=>e = .returned (.bool (bs.all id&&decide ((bs.length:Int)=4)))∧Below w.heap.size w w':=by
 refine (callsIn_wide (n:=5)).1 ?_
 have h1:1≤5:=by omega
 refine callsIn_of_wp_marks Tryz.func170 rfl trivial ?_ rfl;simp only [Tryz.ntmps170,List.size_toArray,List.length_cons,List.length_nil,Nat.reduceAdd,Nat.reduceSub,Array.replicate_succ,Array.replicate_zero,List.push_toArray,List.append_toArray,List.nil_append,List.cons_append]
 gi_wp2_with (refine ⟨trivial,?_⟩; gi_at_call 231; refine (zHL 4 (by decide) s [46] _).mono ?_; rintro e w' ⟨rfl,rfl⟩)
 have hN:=hG.size;obtain ⟨W0,hW0⟩:∃W0,(((((w.alloc (.cells #[.bool false] 4)).alloc (.cells #[.int .i64 0] 3)).alloc (.cells #[str s] 9)).alloc (.cells #[str [46]] 9)).alloc (.cells #[int 0] 3))=W0:=⟨_,rfl⟩
 have hsz:W0.heap.size=w.heap.size+5:=by rw [← hW0]; simp
 have hB0:Below w.heap.size w W0:=by
  rw [← hW0];exact (((((Below.refl _ w).alloc (Nat.le_refl _) _).alloc (by simp) _).alloc (by simp; omega) _).alloc (by simp; omega) _).alloc (by simp; omega) _
 have hx:∀j:Nat,j<5→∃o:Obj,W0.heap[w.heap.size+j]? = some o∧[Obj.cells #[.bool false] 4,.cells #[.int .i64 0] 3,.cells #[str s] 9,.cells #[str [46]] 9,.cells #[int 0] 3][j]? = some o:=by
  intro j hj;rw [← hW0];have hp:∀(W:World) (o:Obj) (k:Nat),k<W.heap.size→(W.alloc o).heap[k]? = W.heap[k]? := fun W o k hk=>Below.heap_alloc W o k hk;have hn:∀(W:World) (o:Obj),(W.alloc o).heap[W.heap.size]? = some o:=fun W o=>World.alloc_heap_new W o
  match j,hj with
  | 0,_=>exact ⟨_,by rw [hp _ _ _ (by simp<;>omega),hp _ _ _ (by simp<;>omega),hp _ _ _ (by simp<;>omega),hp _ _ _ (by simp<;>omega)]; exact hn w _,rfl⟩
  | 1,_=>exact ⟨_,by rw [hp _ _ _ (by simp<;>omega),hp _ _ _ (by simp<;>omega),hp _ _ _ (by simp<;>omega)]; exact (by simpa using hn (w.alloc (.cells #[.bool false] 4)) _),rfl⟩
  | 2,_=>exact ⟨_,by rw [hp _ _ _ (by simp),hp _ _ _ (by simp)]; exact (by simpa using hn ((w.alloc (.cells #[.bool false] 4)).alloc (.cells #[.int .i64 0] 3)) _),rfl⟩
  | 3,_=>exact ⟨_,by rw [hp _ _ _ (by simp)]; exact (by simpa using hn (((w.alloc (.cells #[.bool false] 4)).alloc (.cells #[.int .i64 0] 3)).alloc (.cells #[str s] 9)) _),rfl⟩
  | 4,_=>exact ⟨_,by exact (by simpa using hn ((((w.alloc (.cells #[.bool false] 4)).alloc (.cells #[.int .i64 0] 3)).alloc (.cells #[str s] 9)).alloc (.cells #[str [46]] 9)) _),rfl⟩
 have hcell:∀{b:Nat} {v:Value} {t:TypeId},W0.heap[b]? = some (.cells #[v] t)→W0.cell? ⟨b,0,none⟩=some v∧W0.frozen? ⟨b,0,none⟩=false:=fun h=>by constructor<;>simp [World.cell?,World.frozen?,h]
 have b0:W0.cell? ⟨w.heap.size,0,none⟩=some (.bool false)∧W0.frozen? ⟨w.heap.size,0,none⟩=false:=by obtain ⟨o,h,e⟩:=hx 0 (by decide); cases e; exact hcell h
 have b1:W0.cell? ⟨w.heap.size+1,0,none⟩=some (int 0)∧W0.frozen? ⟨w.heap.size+1,0,none⟩=false:=by obtain ⟨o,h,e⟩:=hx 1 (by decide); cases e; exact hcell h
 have b2:W0.cell? ⟨w.heap.size+1+1,0,none⟩=some (str s)∧W0.frozen? ⟨w.heap.size+1+1,0,none⟩=false:=by obtain ⟨o,h,e⟩:=hx 2 (by decide); cases e; exact hcell h
 have b3:W0.cell? ⟨w.heap.size+1+1+1,0,none⟩=some (str [46])∧W0.frozen? ⟨w.heap.size+1+1+1,0,none⟩=false:=by obtain ⟨o,h,e⟩:=hx 3 (by decide); cases e; exact hcell h
 have b4:W0.cell? ⟨w.heap.size+1+1+2,0,none⟩=some (int 0)∧W0.frozen? ⟨w.heap.size+1+1+2,0,none⟩=false:=by obtain ⟨o,h,e⟩:=hx 4 (by decide); cases e; exact hcell h
 rw [hW0]
 clear hx hcell
 obtain ⟨val,hval⟩:∃val:{ x:Str // ∃b,f x=some b }→Bool, ∀x,f x.1=some (val x):=⟨fun x=>(f x.1).getD false,fun x=>by obtain ⟨b,hb⟩:=x.2; simp [hb]⟩
 have hQ:∀p∈zy 46 s, ∃b,f p=some b:=by
  intro p hp;obtain ⟨i,hi,rfl⟩:=List.mem_iff_getElem.1 hp;obtain ⟨b,_,hb⟩:=(Go.Dk.mapM_at hbs).2 i _ (List.getElem?_eq_getElem hi);exact ⟨b,hb⟩
 have hvals:∀(xs:List { x:Str // ∃b,f x=some b }) (l:List Str) (r:List Bool),xs.map (·.1)=l→l.mapM f=some r→xs.map val=r:=by
  intro xs
  induction xs with
  | nil=>intro l r h hr; subst h; simp at hr; subst hr; rfl
  | cons x xs ih =>
   intro l r h hr;subst h;rw [List.map_cons,List.mapM_cons,hval] at hr
   cases hm:(xs.map (·.1)).mapM f with
   | none=>rw [hm] at hr; simp at hr
   | some r'=>rw [hm] at hr; simp at hr; subst hr; rw [List.map_cons,ih _ r' rfl hm]
 have hlen5:(zy 46 s).length≤s.length+1:=zx8 46 s;have hG0:zlb W0:=hG.low (Nat.le_refl _) (hB0.mono hN)
 have hkeep:∀{A C:World} {row:Option Nat},A.grownBy C row→(∀r,row=some r→r=w.heap.size+1+1∨(W0.heap.size≤r∧∃o:Obj,A.heap[r]? = some o∧o.isCells=false))→w.heap.size≤A.heap.size→Below w.heap.size w A→Below w.heap.size w C:=fun hg hr hs hB =>
  hB.grown hg hs (fun k e=>by rcases hr k e with h|⟨h,_⟩<;>omega)
 refine zxC rfl h1 (gf:=354) (lb := #[ptr (w.heap.size+1+1+1) 0,ptr (w.heap.size+1+1) 0,ptr (w.heap.size+1+1+2) 0]) rfl trivial (enters_of Tryz.func354 (by kernel_rfl) rfl)
  (zHJ (Q:=fun x=>∃b,f x=some b) 4 (by decide) 46 s hs hQ (w.heap.size+1+1) (w.heap.size+1+1+1) (w.heap.size+1+1+2) w.heap.size (w.heap.size+2) (w.heap.size+5) W0 (by omega) (by omega) ⟨by omega,by omega⟩ ⟨by omega,by omega⟩ ⟨by omega,by omega⟩ ⟨by omega,by omega⟩
   (fun w' hb=>hG0.1.low hN hb) b2.1 b2.2 b3.1 b4.1) (by omega) (fun h k=>h.trans k) (zhg.put (by omega) (by omega)) (Below.refl _ _) (fun _=>rfl)
  (fun pre W=>((∀y∈pre,val y=true)∧W.cell? ⟨w.heap.size+1,0,none⟩=some (int (pre.length:Int))∧W.frozen? ⟨w.heap.size+1,0,none⟩=false∧W.cell? ⟨w.heap.size,0,none⟩=some (.bool false)∧W.frozen? ⟨w.heap.size,0,none⟩=false)∧Below w.heap.size w W∧W0.heap.size≤W.heap.size)
  (fun c pre W=>(c = .ret∧(∃y∈pre,val y=false)∧W.cell? ⟨w.heap.size,0,none⟩=some (.bool false))∧Below w.heap.size w W)
  (fun pre A C row hs hg hr=>by
   obtain ⟨⟨q1,q2,q3,q4,q5⟩,q6⟩:=hs;obtain ⟨z1,z2⟩:=zBc hg hr (by omega) q2;obtain ⟨z3,z4⟩:=zBc hg hr (by omega) q4
   exact ⟨⟨q1,z1,z2.trans q3,z3,z4.trans q5⟩,hkeep hg hr q6.1.size q6.1,Nat.le_trans q6.2 hg.size⟩)
  (fun c pre A C row hs hg hr=>by
   obtain ⟨⟨q1,q2,q3⟩,q6⟩:=hs;obtain ⟨z3,z4⟩:=zBc hg hr (by omega) q3
   exact ⟨⟨q1,q2,z3⟩,hkeep hg hr q6.size q6⟩)
  ⟨⟨by simp,b1.1,b1.2,b0.1,b0.2⟩,hB0,Nat.le_refl _⟩
  (fun x=>{ tmps := #[str s,undef,ptr w.heap.size 0,ptr (w.heap.size+1) 0,str x.1,str s,.func (.func 354) #[] #[ptr (w.heap.size+1+1+1) 0,ptr (w.heap.size+1+1) 0,ptr (w.heap.size+1+1+2) 0],str x.1,undef,undef,undef,undef,undef,undef,undef],defers:=[] }) ?assign ?body ?done ?stop
 case assign =>
  intro l x W K hK
  gi_wp2
  exact hK
 case body =>
  rintro l pre x W ⟨⟨hp,hcn,hfn,hcr,hfr⟩,hB,hW5⟩ hlt;have hGW:zlb W:=hG.low (Nat.le_refl _) (hB.mono hN)
  have hplen:pre.length<2000000000:=by omega
  have hs3:=hf x.1 (val x) W hGW (hval x);have hsW:=hB.size
  rcases bcase (val x) with hv|hv
  ·rw [hv] at hs3
   gi_wp2_with (refine ⟨trivial,?_⟩; gi_at_call 112; refine (CallsIn.inRound l (callsIn_wide.2 hs3)).mono ?_; rintro e w' ⟨rfl,hb⟩; have g1:=(hb.cell (p:=⟨w.heap.size+1,0,none⟩) (by have:=(Array.getElem?_eq_some_iff.1 (zht hcn).choose_spec.1).1; exact this)).trans hcn; have g2:=(hb.frozen (p:=⟨w.heap.size+1,0,none⟩) (by have:=(Array.getElem?_eq_some_iff.1 (zht hcn).choose_spec.1).1; exact this)).trans hfn)
   have hbn:w.heap.size+1<W.heap.size:=(Array.getElem?_eq_some_iff.1 (zht hcn).choose_spec.1).1;have hg:=grownBy_setCell' w' (w.heap.size+1) (int ((pre.length:Int)+1));have hbs:=hb.size;refine ⟨(zmQ hb).trans (KeepsOthers.setCell _ _ _),⟨(hb.mono hsW).setCell (p:=⟨w.heap.size+1,0,none⟩) (by simp) _,fun b z1 z2=>?_⟩,⟨?_,?_,?_,?_,?_⟩,(hB.trans (hb.mono hsW)).setCell (p:=⟨w.heap.size+1,0,none⟩) (by simp) _,by rw [World.size_setCell]; omega⟩
   ·have hbW:b<W.heap.size:=by omega
    rw [hg.block b (by omega) (fun e=>by cases e; omega)];exact hb.block b hbW
   ·intro y hy
    rcases List.mem_append.1 hy with h|h
    ·exact hp y h
    ·simp at h; subst h; exact hv
   ·have:=World.cell?_setCell_same' w' ⟨w.heap.size+1,0,none⟩ (int ((pre.length:Int)+1)) (by rw [g1]; rfl);rw [show ((pre++[x]).length:Int)=(pre.length:Int)+1 by simp];exact this
   ·rw [World.frozen?_setCell]; exact g2
   ·rw [World.cell?_setCell_other _ _ _ _ (fun e=>absurd (congrArg Addr.block e) (by simp))];exact (hb.cell (p:=⟨w.heap.size,0,none⟩) (by simp; omega)).trans hcr
   ·rw [World.frozen?_setCell];exact (hb.frozen (p:=⟨w.heap.size,0,none⟩) (by simp; omega)).trans hfr
  ·rw [hv] at hs3
   gi_wp2_with (refine ⟨trivial,?_⟩; gi_at_call 112; refine (CallsIn.inRound l (callsIn_wide.2 hs3)).mono ?_; rintro e w' ⟨rfl,hb⟩; have g1:=(hb.cell (p:=⟨w.heap.size,0,none⟩) (by have:=(Array.getElem?_eq_some_iff.1 (zht hcr).choose_spec.1).1; exact this)).trans hcr; have g2:=(hb.frozen (p:=⟨w.heap.size,0,none⟩) (by have:=(Array.getElem?_eq_some_iff.1 (zht hcr).choose_spec.1).1; exact this)).trans hfr)
   refine ⟨(zmQ hb).trans (KeepsOthers.setCell _ _ _),⟨rfl,⟨x,by simp,hv⟩,World.cell?_setCell_same' _ _ _ (by rw [g1]; rfl)⟩,(hB.trans (hb.mono hsW)).setCell (p:=⟨w.heap.size,0,none⟩) (by simp) _⟩
 case done =>
  rintro D xs W hD hS ⟨⟨hp,hcn,hfn,hcr,hfr⟩,hB,hW5⟩ hK
  gi_wp2
  have hK':=(KeepsOthers.setCell W ⟨w.heap.size,0,none⟩ (.bool ((xs.length:Int)==4))).same D _ hK rfl;refine ⟨by simp,.inl ⟨_,_,rfl,run_takeDeferred hK',?_⟩⟩;have hc5:=cell_kept (World.cell?_setCell_same' W ⟨w.heap.size,0,none⟩ (.bool ((xs.length:Int)==4)) (by rw [hcr]; rfl)) (grownBy_putObj' _ D (.deferred none)) (fun r e=>by cases e; exact ⟨_,hK',rfl⟩);have hall:=hvals xs _ bs hS hbs
  have hid:bs.all id=true:=by rw [← hall,List.all_map]; exact List.all_eq_true.2 fun y hy=>hp y hy
  have hl:bs.length=xs.length:=by rw [← hall,List.length_map]
  refine ⟨.bool ((xs.length:Int)==4),?_,by rw [hid,hl,Bool.true_and]; rfl,(hB.setCell (p:=⟨w.heap.size,0,none⟩) (by simp) _).trans (belowK_b (w:=w) (Nat.le_refl _) _ D _ _ (by omega) hK' rfl rfl)⟩;simp [results,Tryz.f170,go_sem,hc5]
 case stop =>
  rintro D c pre W hD hS ⟨⟨rfl,⟨y,hy,hvy⟩,hcr⟩,hB⟩ hK
  gi_wp2
  refine ⟨by simp,.inl ⟨_,_,rfl,run_takeDeferred hK,?_⟩⟩;have hc5:=cell_kept hcr (grownBy_putObj' _ D (.deferred none)) (fun r e=>by cases e; exact ⟨_,hK,rfl⟩)
  have hid:bs.all id=false:=by
   obtain ⟨rest,hrest⟩:=hS;have hbs':=hbs;rw [← hrest] at hbs'
   have hm:false∈bs:=by
    have hy':y.1∈zy 46 s:=by rw [← hrest]; exact List.mem_append_left _ (List.mem_map_of_mem hy)
    obtain ⟨i,hi,he⟩:=List.mem_iff_getElem.1 hy';obtain ⟨b,hb1,hb2⟩:=(Go.Dk.mapM_at hbs).2 i _ (List.getElem?_eq_getElem hi);rw [he,hval,hvy] at hb2;cases hb2;exact List.mem_of_getElem? hb1
   rw [Bool.eq_false_iff];intro h;exact absurd (List.all_eq_true.1 h _ hm) (by simp)
  refine ⟨.bool false,?_,by rw [hid]; rfl,hB.trans (belowK_b (w:=w) (Nat.le_refl _) W D _ _ (by omega) hK rfl rfl)⟩;simp [results,Tryz.f170,go_sem,hc5]
end Go.Proofs
