/-
 slices.Insert at rows of fields: in place where there is room, in a new row where there is none. Over this translation, by hand.
 The library functions that the walks call. Over this translation.
 octet.Fold: byte by byte. Over this translation, by hand.
 Maps of texts by numbers: what memory holds of them, how they are filled and looked at. Over any program.
 Data of walks that run by evaluation: types by codes, abstract values, what memory holds of them. Over any program.
 What a walk by evaluation owns, and what it knows of memory. Over any program.
-/
import Derived.Test.YtkmnihnifdcigaaGreatDoorHex
import Derived.Test.YtkmnihnifdcigaaGreatDoorTSplit
import Derived.Test.YtkmnihnifdcigaaGreatDoorP0
import Derived.KernelRfl
import Derived.Shelf.RegionOpenPlain
import Derived.WalkKit
import Derived.Lib.Walk
import Derived.Lib.SliceRun
import Derived.Lib.JoinLaws
import Derived.Lib.Overlaps
import Derived.Lib.AppendZerosOnto
import Derived.Laws.AppendOwn
import Derived.Laws.Externs
import Derived.Laws.IdiomCopy
import Derived.ArgAppend
import Derived.Shelf.Strings.SlTrimAscii
import Derived.Lib.AppendIntMem
import Derived.WideMake
set_option linter.unusedVariables false
set_option linter.unusedSimpArgs false
section
set_option linter.unusedVariables false
set_option linter.unusedSimpArgs false
namespace Go.Proofs
open Go.Dk Go.Dm Go.RowKit Go.Lib
theorem zDT (w:World) {P:Program} {o:Oper} {a:Act} {K:Act→World→Prop} {Q:Exit→Act→World→Prop} (d s:Operand) (t t':TypeId)
  (ho:o.op = .call { callee := .builtin .copy,args := #[d,s],argTypes := #[t,t'] }) (v u:Value) (hd:a.eval d=v) (hs:a.eval s=u) {v':Value} {w':World}
  (hr:(Builtin.copy_ #[t,t'] o.type #[v,u]).run P w = .ok v' w') (h:K (a.put o.dst v') w'):o.wp P a w K Q:=by
 unfold Oper.wp execOp;simp only [ho,resolve,invoke,builtin,Sem.run_bind,Sem.run_pure,Result.andThen_ok,List.map_toArray,List.map_cons,List.map_nil,hd,hs,hr];exact h
theorem zpy (w:World) {P:Program} {ops:Array Oper} {rest:List Oper} {o:Oper} {a:Act} {Q:Exit→Act→World→Prop} (hgd:o.guard=none) (d s:Operand) (t t':TypeId)
  (ho:o.op = .call { callee := .builtin .copy,args := #[d,s],argTypes := #[t,t'] }) (v u:Value) (hd:a.eval d=v) (hs:a.eval s=u) {v':Value} {w':World}
  (hr:(Builtin.copy_ #[t,t'] o.type #[v,u]).run P w = .ok v' w') (h:wpList P ops Q rest (a.put o.dst v') w'):wpList P ops Q (o::rest) a w :=
 wpList_plain hgd fun _ hK=>zDT w d s t t' ho v u hd hs hr (hK _ _ h)
theorem zsq {P:Program} {ops:Array Oper} {o:Oper} {a:Act} {w:World} {K:Act→World→Prop} {Q:Exit→Act→World→Prop} {E:Prop}
  (hg:o.guard=none) (d x:Operand) (dT sT:TypeId) (hop:o.op=Op.call { callee:=Callee.builtin Builtin.copy,args := #[d,x],argTypes := #[dT,sT] })
  (v u:Value) (hd:a.eval d=v) (hx:a.eval x=u) {v':Value} {w':World} (hr:(Builtin.copy_ #[dT,sT] o.type #[v,u]).run P w = .ok v' w') (hK:K (a.put o.dst v') w') :
  if Region.wanted o (yielded ops a.tmps)=true then Oper.wp P o a w K Q else E:=by
 have hw:Region.wanted o (yielded ops a.tmps)=true:=by simp [Region.wanted,hg]
 rw [if_pos hw];unfold Oper.wp;simp [execOp,hop,resolve,invoke,builtin,hd,hx,hr,Result.andThen];exact hK
theorem zgA (w:World) {P:Program} {ops:Array Oper} {rest:List Oper} {o:Oper} {a:Act} {Q:Exit→Act→World→Prop} (hgd:o.guard=none) (d s:Operand) (t t':TypeId)
  (ho:o.op = .call { callee := .builtin .append,args := #[d,s],argTypes := #[t,t'] }) (v u:Value) (hd:a.eval d=v) (hs:a.eval s=u) {v':Value} {w':World}
  (hr:(Builtin.append_ #[t,t'] o.type #[v,u]).run P w = .ok v' w') (h:wpList P ops Q rest (a.put o.dst v') w'):wpList P ops Q (o::rest) a w :=
 wpList_plain hgd fun _ hK=>by
  unfold Oper.wp execOp;simp only [ho,resolve,invoke,builtin,Sem.run_bind,Sem.run_pure,Result.andThen_ok,List.map_toArray,List.map_cons,List.map_nil,hd,hs,hr];exact hK _ _ h
theorem ztA {P:Program} (w:World) (dT sT ty elem:TypeId) (b o dLen dCap:Nat) (a:Addr) (sLen sCap sz:Nat) (cs:List Value) (cur:Array Value)
  (hu:P.underlying dT=some (.slice elem)) (hs:zkN P elem=some sz) (hn:cs.length=Nat.min sLen dLen*sz) (hg:w.heap[b]? = some (.cells cur elem (0,0)))
  (hsrc:∀j v,cs[j]? = some v→w.cell? (a.add j)=some v) (hfit:o+cs.length≤cur.size) (h1:∀v∈cs,v.oneCell'=true) :
  (Builtin.copy_ #[dT,sT] ty #[.slice (some ⟨b,o,none⟩) dLen dCap, .slice (some a) sLen sCap]).run P w = .ok (goInt (Nat.min sLen dLen)) (w.setRow b (cur.toList.take o++cs++cur.toList.drop (o+cs.length)).toArray):=by
 have hl:=run_loadCells_list (P:=P) w a cs hsrc;have hst:=run_storeCells_at P b o elem cs 0 cur w hg (by simpa using hfit) h1;simp only [Nat.add_zero] at hst;simp [Builtin.copy_,run_underlying hu,Builtin.lenOf,Builtin.firstCells,zcS hs, ← hn,hl,hst,Result.andThen]
set_option maxHeartbeats 4000000 in
set_option maxRecDepth 100000 in
theorem zDU (b n c i vb m vc:Nat) (cs vs:List Value) (cur:Array Value) (w:World) (hi:i<n) (hm:0<m) (hroom:n+m≤c) (hc63:c≤9223372036854775807) (hvb:vb≠b)
  (hcl:cs.length=n*2) (hvl:vs.length=m*2) (hg:w.heap[b]? = some (.cells cur 225 (0,0))) (hcz:cur.size=c*2) (hcs:cur.toList.take (n*2)=cs)
  (hvs:∀j v,vs[j]? = some v→w.cell? ⟨vb,j,none⟩=some v) (h1c:∀v∈cs,v.oneCell'=true) (h1v:∀v∈vs,v.oneCell'=true)
  (tA:TypeId) (kA:Nat) (hsa:w.shape? vb=some (tA,kA)) (hsb:w.shape? b=some (225,c*2)) (hfa:w.frozen? ⟨vb,0,none⟩=false) (hfe:w.frozen? ⟨vb,kA,none⟩=false) :
  Calls Tryz.prog 399 #[.slice (some ⟨b,0,none⟩) n c, .int .i64 i, .slice (some ⟨vb,0,none⟩) m vc] w fun e w' =>
   e = .returned (.slice (some ⟨b,0,none⟩) (n+m) c)∧∃l:List Value,l.length=c*2∧l.take ((n+m)*2)=cs.take (i*2)++vs++cs.drop (i*2)∧∃W1,(W1=w.drew.setRow b l.toArray∨∃l',W1=(w.drew.setRow b l').setRow b l.toArray)∧w'=W1:=by
 have mixed:Tryz.prog.follows .mixedOrders=true:=by kernel_rfl
 have hz1:¬ ((m:Int)=0):=by omega
 have hz2:¬ ((i:Int)=(n:Int)):=by omega
 have hov:∀lb cb,(callFunc 432 #[.slice (some ⟨vb,0,none⟩) m vc, .slice (some ⟨b,(i+m)*2,none⟩) lb cb]).run Tryz.prog w = .ok (.value (.bool false)) w:=fun lb cb=>by
  rw [run_callFunc_extern Tryz.func432 (by kernel_rfl) (by kernel_rfl) (by kernel_rfl) (e:=Extern.SlicesOverlaps.overlaps #[154,154] #[4]) (by kernel_rfl),
   Lib.run_overlaps_apart w 154 4 225 Tryz.underlying154 2 (fun w=>zcS (by kernel_rfl)) ⟨vb,0,none⟩ ⟨b,(i+m)*2,none⟩ m vc lb cb hvb tA 225 kA (c*2) hsa hsb (by omega) hfa hfe]
  rfl
 have hdl:(cs.drop (i*2)).length=(n-i)*2:=by rw [List.length_drop,hcl]; omega
 have hcell:∀j v,cs[j]? = some v→w.cell? ⟨b,j,none⟩=some v:=fun j v hj=>by
  rw [← hcs,List.getElem?_take] at hj
  split at hj
  ·simp only [World.cell?,hg]; simpa using hj
  ·cases hj
 have hgd:w.drew.heap[b]? = some (.cells cur 225 (0,0)):=hg
 have hcp1:∀ty dc sc,(Builtin.copy_ #[154,154] ty #[.slice (some ⟨b,(i+m)*2,none⟩) (n+m-(i+m)) dc, .slice (some ⟨b,i*2,none⟩) (n+m-i) sc]).run Tryz.prog w.drew = .ok (goInt (Nat.min (n+m-i) (n+m-(i+m)))) (w.drew.setRow b (cur.toList.take ((i+m)*2)++cs.drop (i*2)++cur.toList.drop ((i+m)*2+(cs.drop (i*2)).length)).toArray):=fun ty dc sc =>
  ztA w.drew _ _ ty 225 b ((i+m)*2) (n+m-(i+m)) dc ⟨b,i*2,none⟩ (n+m-i) sc 2 (cs.drop (i*2)) cur Tryz.underlying154 (by kernel_rfl) (by rw [hdl]; simp only [Nat.min_def]; split<;>omega) hgd
   (fun j v hj=>by rw [Addr.add_lit]; exact hcell (i*2+j) v (by rwa [List.getElem?_drop] at hj))
   (by rw [hdl,hcz]; omega) (fun v hv=>h1c v (List.mem_of_mem_drop hv))
 obtain ⟨l1,hl1⟩:∃l1,l1=cur.toList.take ((i+m)*2)++cs.drop (i*2)++cur.toList.drop ((i+m)*2+(cs.drop (i*2)).length):=⟨_,rfl⟩;rw [← hl1] at hcp1
 have hl1l:l1.length=c*2:=by
  rw [hl1]; simp only [List.length_append,List.length_take,List.length_drop,Array.length_toList,hcz,hcl];rw [Nat.min_eq_left (by omega)]; omega
 have hg1:(w.drew.setRow b l1.toArray).heap[b]? = some (.cells l1.toArray 225 (0,0)):=setRow_heap w.drew b cur l1.toArray 225 (0,0) hgd
 have hcp2:∀(W:World),W.heap=(w.drew.setRow b l1.toArray).heap→∀ty dc,(Builtin.copy_ #[154,154] ty #[.slice (some ⟨b,i*2,none⟩) (n+m-i) dc, .slice (some ⟨vb,0,none⟩) m vc]).run Tryz.prog W = .ok (goInt (Nat.min m (n+m-i))) (W.setRow b (l1.toArray.toList.take (i*2)++vs++l1.toArray.toList.drop (i*2+vs.length)).toArray):=fun W hW ty dc =>
  ztA W _ _ ty 225 b (i*2) (n+m-i) dc ⟨vb,0,none⟩ m vc 2 vs l1.toArray Tryz.underlying154 (by kernel_rfl) (by rw [hvl]; simp only [Nat.min_def]; split<;>omega) (by rw [hW]; exact hg1)
   (fun j v hj=>by
    rw [Addr.add_lit,Nat.zero_add];have h2:=hvs j v hj;simp only [World.cell?] at h2 ⊢;rw [hW,setRow_other w.drew b vb _ hvb]
    exact h2)
   (by rw [hvl]; simp [hl1l]; omega) h1v
 have hw1:IntKind.i64.wrap ((i:Int)+(m:Int))=(i:Int)+(m:Int):=by rw [IntKind.wrap_i64]; omega
 have hw2:IntKind.i64.wrap ((n:Int)+(m:Int))=(n:Int)+(m:Int):=by rw [IntKind.wrap_i64]; omega
 have hb1:(0:Int)≤(i:Int)+(m:Int):=by omega
 have hin:i≤n:=by omega
 have htn:((i:Int)+(m:Int)).toNat=i+m:=by omega
 have hb2:¬ (c=i+m):=by omega
 have hb3:(i:Int)≤(n:Int)+(m:Int):=by omega
 have hb4:¬ (c=i):=by omega
 have hfin:(l1.toArray.toList.take (i*2)++vs++l1.toArray.toList.drop (i*2+vs.length)).length=c*2∧(l1.toArray.toList.take (i*2)++vs++l1.toArray.toList.drop (i*2+vs.length)).take ((n+m)*2)=cs.take (i*2)++vs++cs.drop (i*2):=by
  have e0:l1.toArray.toList=l1:=rfl;rw [e0];refine ⟨by simp only [List.length_append,List.length_take,List.length_drop,hl1l,hvl]; rw [Nat.min_eq_left (by omega)]; omega,?_⟩
  have a1:l1.take (i*2)=cs.take (i*2):=by
   rw [hl1,List.append_assoc,List.take_append_of_le_length (by rw [List.length_take,Array.length_toList,hcz]; omega),List.take_take,Nat.min_eq_left (by omega), ← hcs,List.take_take,Nat.min_eq_left (by omega)]
  have a2:l1.drop (i*2+vs.length)=cs.drop (i*2)++cur.toList.drop ((i+m)*2+(cs.drop (i*2)).length):=by
   have hL:cur.toList.length=c*2:=by rw [Array.length_toList,hcz]
   rw [hl1,List.append_assoc,List.drop_append,List.drop_eq_nil_of_le (by rw [List.length_take,hL,hvl]; omega),List.nil_append,List.length_take,hL,hvl,show i*2+m*2-min ((i+m)*2) (c*2)=0 by omega,List.drop_zero]
  rw [a1,a2, ← List.append_assoc,List.take_append_of_le_length (by simp only [List.length_append,List.length_take,hcl,hvl,hdl]; omega),List.take_of_length_le (by simp only [List.length_append,List.length_take,hcl,hvl,hdl]; omega)]
 clear hl1
 generalize l1.toArray.toList.take (i*2)++vs++l1.toArray.toList.drop (i*2+vs.length)=l2 at hfin hcp2
 go_enter Tryz.func399,Tryz.ntmps399
 go_wp2_with (simp only [hov])
 go_region_law_o (refine zsq rfl _ _ 154 154 rfl _ _ (by simp [Act.eval,Act.put]) (by simp [Act.eval,Act.put]) (hcp1 _ _ _) ?_)
 go_wp2_with (at_builtin; refine zpy _ rfl _ _ 154 154 rfl _ _ rfl rfl (hcp2 _ rfl _ _) ?_)
 go_ret
 exact ⟨rfl,_,hfin.1,hfin.2,_, .inr ⟨_,rfl⟩,rfl⟩
theorem zuM (w:World) {P:Program} {ops:Array Oper} {rest:List Oper} {o:Oper} {a:Act} {Q:Exit→Act→World→Prop} (hgd:o.guard=none) (d s:Operand) (t t':TypeId)
  (ho:o.op = .call { callee := .builtin .append,args := #[d,s],argTypes := #[t,t'] }) (v u:Value) (hd:a.eval d=v) (hs:a.eval s=u) {v':Value} {w':World}
  (hr:(Builtin.append_ #[t,t'] o.type #[v,u]).run P w = .ok v' w') (h:wpList P ops Q rest (a.put o.dst v') w'):wpList P ops Q (o::rest) a w :=
 zgA w hgd d s t t' ho v u hd hs hr h
set_option maxHeartbeats 4000000 in
set_option maxRecDepth 100000 in
theorem zGg (b n c i vb m vc:Nat) (cs vs:List Value) (w:World) (hi:i<n) (hm:0<m) (hnc:n≤c) (hroom:c<n+m) (hfit:(n+m)*32≤140737488355328) (hvb:vb<w.heap.size) (hbs:b<w.heap.size)
  (hcl:cs.length=n*2) (hvl:vs.length=m*2) (hcell:∀j v,cs[j]? = some v→w.cell? ⟨b,j,none⟩=some v)
  (hvs:∀j v,vs[j]? = some v→w.cell? ⟨vb,j,none⟩=some v) (h1c:∀v∈cs,v.oneCell'=true) (h1v:∀v∈vs,v.oneCell'=true) :
  Calls Tryz.prog 399 #[.slice (some ⟨b,0,none⟩) n c, .int .i64 i, .slice (some ⟨vb,0,none⟩) m vc] w fun e w' =>
   ∃(C:Nat) (l:List Value),e = .returned (.slice (some ⟨w.heap.size,0,none⟩) (n+m) C)∧n+m≤C∧C≤maxLen∧l.length=C*2∧l.take ((n+m)*2)=cs.take (i*2)++vs++cs.drop (i*2) ∧
    w'.os=w.os∧w'.tape=w.tape∧w'.output=w.output∧w'.heap.size=w.heap.size+1∧(∀j,j<w.heap.size→w'.heap[j]? = w.heap[j]?)∧w'.heap[w.heap.size]? = some (.cells l.toArray 225 (0,0)):=by
 have mixed:Tryz.prog.follows .mixedOrders=true:=by kernel_rfl
 have hz1:¬ ((m:Int)=0):=by omega
 have hz2:¬ ((i:Int)=(n:Int)):=by omega
 have hw2:IntKind.i64.wrap ((n:Int)+(m:Int))=(n:Int)+(m:Int):=by rw [IntKind.wrap_i64]; omega
 have hw3:IntKind.i64.wrap ((n:Int)+(m:Int)-(i:Int))=(((n+m-i:Nat)):Int):=by rw [IntKind.wrap_i64]; omega
 have hw1:IntKind.i64.wrap ((i:Int)+(m:Int))=(i:Int)+(m:Int):=by rw [IntKind.wrap_i64]; omega
 obtain ⟨ti,hti,hts,htb⟩:∃ti,Tryz.prog.info? 225=some ti∧ti.size=2∧ti.bytes=32:=by
  have h:(Tryz.prog.info? 225).map (fun t=>(t.size,t.bytes))=some (2,32):=by kernel_rfl
  obtain ⟨ti,h1,h2⟩:=Option.map_eq_some_iff.1 h;exact ⟨ti,h1,by injection h2,by injection h2⟩
 obtain ⟨z,hz,hzs⟩:∃z,ti.zero=some z∧z.cells.size=2:=by
  have h:((Tryz.prog.info? 225).bind (·.zero)).map (·.cells.size)=some 2:=by kernel_rfl
  rw [hti] at h;obtain ⟨z,h1,h2⟩:=Option.map_eq_some_iff.1 h;exact ⟨z,h1,h2⟩
 have hty3:Tryz.prog.underlying 3=some (.int .i64):=by kernel_rfl
 have hap0:=fun ty=>run_append_grow_zeros (P:=Tryz.prog) w 154 3 ty 225 ti z .i64 .i64 Tryz.underlying154 hty3 hti hz (some ⟨b,0,none⟩) i c (cs.take (i*2))
   (run_firstCells_some (P:=Tryz.prog) w.drew ti.size i ⟨b,0,none⟩ i c (cs.take (i*2)) (by rw [List.length_take,hcl,hts]; omega) (fun j v hj=>by
    rw [Addr.add_lit,Nat.zero_add];rw [List.getElem?_take] at hj
    split at hj
    ·exact hcell j v hj
    ·cases hj))
   (n+m-i) (by omega) (by omega) (by omega) (by omega) (by rw [htb]; omega) (growslice_fits (by omega) (by rw [htb]; omega))
 have hC1:=grownCap_ge w (i+(n+m-i)) c 225;have hC2:=grownCap_le_maxLen w (i+(n+m-i)) c 225 (by simp only [maxLen]; omega)
 have hrl:((cs.take (i*2)).toArray++Builtin.zeroCells z.cells (n+m-i)++Builtin.zeroCells z.cells (grownCap w (i+(n+m-i)) c 225-(i+(n+m-i)))).size=grownCap w (i+(n+m-i)) c 225*2:=by
  simp only [Array.size_append,List.size_toArray,size_zeroCells,hzs,List.length_take,hcl];omega
 have hrt:((cs.take (i*2)).toArray++Builtin.zeroCells z.cells (n+m-i)++Builtin.zeroCells z.cells (grownCap w (i+(n+m-i)) c 225-(i+(n+m-i)))).toList.take (i*2)=cs.take (i*2):=by
  simp only [Array.toList_append,List.append_assoc]
  have hl:(cs.take (i*2)).length=i*2:=by rw [List.length_take,hcl]; omega
  exact List.take_left' hl
 rw [show i+(n+m-i)=n+m by omega] at hap0 hC1 hC2 hrl hrt;generalize grownCap w (n+m) c 225=C at hap0 hC1 hC2 hrl hrt;generalize (cs.take (i*2)).toArray++Builtin.zeroCells z.cells (n+m-i)++Builtin.zeroCells z.cells (C-(n+m))=row at hap0 hrl hrt;obtain ⟨W1,hW1⟩:∃W1,W1=w.drew.alloc (.cells row 225):=⟨_,rfl⟩;rw [← hW1] at hap0
 have g1:W1.heap[w.heap.size]? = some (.cells row 225 (0,0)):=by rw [hW1]; exact heap_alloc_new w.drew _
 have o1:∀j,j<w.heap.size→W1.heap[j]? = w.heap[j]? := fun j hj=>by rw [hW1]; exact heap_alloc_old w.drew _ hj
 have hcp1:∀ty dc,(Builtin.copy_ #[154,154] ty #[.slice (some ⟨w.heap.size,i*2,none⟩) (n+m-i) dc, .slice (some ⟨vb,0,none⟩) m vc]).run Tryz.prog W1 = .ok (goInt (Nat.min m (n+m-i))) (W1.setRow w.heap.size (row.toList.take (i*2)++vs++row.toList.drop (i*2+vs.length)).toArray):=fun ty dc =>
  ztA W1 _ _ ty 225 w.heap.size (i*2) (n+m-i) dc ⟨vb,0,none⟩ m vc 2 vs row Tryz.underlying154 (by kernel_rfl) (by rw [hvl]; simp only [Nat.min_def]; split<;>omega) g1
   (fun j v hj=>by
    rw [Addr.add_lit,Nat.zero_add];have h2:=hvs j v hj;simp only [World.cell?] at h2 ⊢;rw [o1 vb hvb]
    exact h2)
   (by rw [hvl,hrl]; omega) h1v
 obtain ⟨l2,hl2⟩:∃l2,l2=row.toList.take (i*2)++vs++row.toList.drop (i*2+vs.length):=⟨_,rfl⟩;rw [← hl2] at hcp1
 have hl2l:l2.length=C*2:=by
  rw [hl2]; simp only [List.length_append,List.length_take,List.length_drop,Array.length_toList,hrl,hvl];rw [Nat.min_eq_left (by omega)]; omega
 have hl2t:l2.take ((i+m)*2)=cs.take (i*2)++vs:=by
  rw [hl2,hrt]
  have hl:(cs.take (i*2)++vs).length=(i+m)*2:=by rw [List.length_append,List.length_take,hcl,hvl]; omega
  exact List.take_left' hl
 have hdl:(cs.drop (i*2)).length=(n-i)*2:=by rw [List.length_drop,hcl]; omega
 have g2:(W1.setRow w.heap.size l2.toArray).heap[w.heap.size]? = some (.cells l2.toArray 225 (0,0)):=setRow_heap W1 w.heap.size row l2.toArray 225 (0,0) g1
 have hcp2:∀(W:World),W.heap=(W1.setRow w.heap.size l2.toArray).heap→∀ty dc sc,(Builtin.copy_ #[154,154] ty #[.slice (some ⟨w.heap.size,(i+m)*2,none⟩) (n+m-(i+m)) dc, .slice (some ⟨b,i*2,none⟩) (n-i) sc]).run Tryz.prog W = .ok (goInt (Nat.min (n-i) (n+m-(i+m)))) (W.setRow w.heap.size (l2.toArray.toList.take ((i+m)*2)++cs.drop (i*2)++l2.toArray.toList.drop ((i+m)*2+(cs.drop (i*2)).length)).toArray):=fun W hW ty dc sc =>
  ztA W _ _ ty 225 w.heap.size ((i+m)*2) (n+m-(i+m)) dc ⟨b,i*2,none⟩ (n-i) sc 2 (cs.drop (i*2)) l2.toArray Tryz.underlying154 (by kernel_rfl) (by rw [hdl]; simp only [Nat.min_def]; split<;>omega) (by rw [hW]; exact g2)
   (fun j v hj=>by
    rw [Addr.add_lit];have h2:=hcell (i*2+j) v (by rwa [List.getElem?_drop] at hj);simp only [World.cell?] at h2 ⊢;rw [hW,setRow_other W1 w.heap.size b _ (by omega),o1 b hbs]
    exact h2)
   (by rw [hdl]; simp [hl2l]; omega) (fun v hv=>h1c v (List.mem_of_mem_drop hv))
 have hfin:(l2.toArray.toList.take ((i+m)*2)++cs.drop (i*2)++l2.toArray.toList.drop ((i+m)*2+(cs.drop (i*2)).length)).length=C*2∧(l2.toArray.toList.take ((i+m)*2)++cs.drop (i*2)++l2.toArray.toList.drop ((i+m)*2+(cs.drop (i*2)).length)).take ((n+m)*2)=cs.take (i*2)++vs++cs.drop (i*2):=by
  have e0:l2.toArray.toList=l2:=rfl;rw [e0,hl2t];refine ⟨by simp only [List.length_append,List.length_take,List.length_drop,hl2l,hvl,hcl]; omega,?_⟩
  have hl:(cs.take (i*2)++vs++cs.drop (i*2)).length=(n+m)*2:=by rw [List.length_append,List.length_append,List.length_take,hcl,hvl,hdl]; omega
  exact List.take_left' hl
 generalize l2.toArray.toList.take ((i+m)*2)++cs.drop (i*2)++l2.toArray.toList.drop ((i+m)*2+(cs.drop (i*2)).length)=l3 at hfin hcp2
 obtain ⟨q1,q2,q3,q4⟩:W1.os=w.os∧W1.tape=w.tape∧W1.output=w.output∧W1.heap.size=w.heap.size+1:=by rw [hW1]; exact ⟨rfl,rfl,rfl,by simp⟩
 clear hl2 hrt hl2t hrl hW1
 have hcp3:=hcp2 (W1.setRow w.heap.size l2.toArray).drew rfl
 clear hcp2
 have hb1:¬ (c=i):=by omega
 have hin:i≤n:=by omega
 have hcn:¬ (n+m≤c):=by omega
 have hci:(c:Int)<(n:Int)+(m:Int):=by omega
 have hic:i≤c:=by omega
 have htn:((i:Int)+(m:Int)).toNat=i+m:=by omega
 have hd1:(0:Int)≤(i:Int)+(m:Int):=by omega
 have hd2:¬ (C=i+m):=by omega
 have hd3:(i:Int)≤(n:Int)+(m:Int):=by omega
 have hd4:¬ (C=i):=by omega
 go_enter Tryz.func399,Tryz.ntmps399
 go_wp2_with (at_builtin; refine zuM _ rfl _ _ 154 3 rfl _ _ rfl rfl (hap0 _) ?_)
 go_wp2_with (at_builtin; refine zpy _ rfl _ _ 154 154 rfl _ _ rfl rfl (hcp1 _ _) ?_)
 go_region_law_o (refine zsq rfl _ _ 154 154 rfl _ _ (by simp [Act.eval,Act.put]) (by simp [Act.eval,Act.put]) (hcp3 _ _ _) ?_)
 go_wp2
 go_ret
 exact ⟨C,l3,rfl,hC1,hC2,hfin.1,hfin.2,q1,q2,q3,by simp [World.setRow,q4],fun j hj=>(setRow_other (W1.setRow w.heap.size l2.toArray).drew w.heap.size j _ (by omega)).trans ((setRow_other W1 w.heap.size j _ (by omega)).trans (o1 j hj)),setRow_heap (W1.setRow w.heap.size l2.toArray).drew w.heap.size l2.toArray l3.toArray 225 (0,0) g2⟩
set_option maxHeartbeats 4000000 in
set_option maxRecDepth 100000 in
theorem zGh (b n c vb m vc:Nat) (w w1:World) (hm:0<m) (ad:Option Addr) (C:Nat) (hnc:n≤c)
  (hap:∀ty,(Builtin.append_ #[154,154] ty #[.slice (some ⟨b,0,none⟩) n c, .slice (some ⟨vb,0,none⟩) m vc]).run Tryz.prog w = .ok (.slice ad (n+m) C) w1) :
  Calls Tryz.prog 399 #[.slice (some ⟨b,0,none⟩) n c, .int .i64 n, .slice (some ⟨vb,0,none⟩) m vc] w fun e w'=>e = .returned (.slice ad (n+m) C)∧w'=w1:=by
 have hz1:¬ ((m:Int)=0):=by omega
 by_cases hcn:c=n
 ·subst hcn
  go_enter Tryz.func399,Tryz.ntmps399
  go_wp2_with (at_builtin; refine zgA _ rfl _ _ 154 154 rfl _ _ rfl rfl (hap _) ?_)
  go_ret
  exact ⟨rfl,rfl⟩
 ·go_enter Tryz.func399,Tryz.ntmps399
  go_wp2_with (at_builtin; refine zgA _ rfl _ _ 154 154 rfl _ _ rfl rfl (hap _) ?_)
  go_ret
  exact ⟨rfl,rfl⟩
set_option maxHeartbeats 4000000 in
set_option maxRecDepth 100000 in
theorem zGi (vb m vc:Nat) (w w1:World) (hm:0<m) (ad:Option Addr) (C:Nat)
  (hap:∀ty,(Builtin.append_ #[154,154] ty #[.slice none 0 0, .slice (some ⟨vb,0,none⟩) m vc]).run Tryz.prog w = .ok (.slice ad m C) w1) :
  Calls Tryz.prog 399 #[.slice none 0 0, .int .i64 0, .slice (some ⟨vb,0,none⟩) m vc] w fun e w'=>e = .returned (.slice ad m C)∧w'=w1:=by
 have hz1:¬ ((m:Int)=0):=by omega
 go_enter Tryz.func399,Tryz.ntmps399
 go_wp2_with (at_builtin; refine zgA _ rfl _ _ 154 154 rfl _ _ rfl rfl (hap _) ?_)
 go_ret
 exact ⟨rfl,rfl⟩
theorem zIu {w w':World} (b:Option Nat) (h1:w'.os=w.os) (h2:w'.tape=w.tape) (h3:w'.output=w.output) (h4:w.heap.size≤w'.heap.size) (h5:∀j,j<w.heap.size→w'.heap[j]? = w.heap[j]?):w.grownBy w' b :=
 ⟨h1,h2,h3,h4,fun k hk _=>h5 k hk⟩
set_option maxHeartbeats 400000 in
set_option maxRecDepth 100000 in
theorem zPq (x_s:List zWQ) (x_i:Int) (x_v:List zWQ) (R:List zWQ) (w0:World) {x_s_p0:Option Addr} {x_s_c0:Nat} {x_v_p1:Option Addr} {x_v_c1:Nat} {F:List Nat}
  (hO:Dk.Own w0 F w0 [.row (.slice x_s_p0 x_s.length x_s_c0) 225 2 x_s.length (cells zo x_s), .row (.slice x_v_p1 x_v.length x_v_c1) 225 2 x_v.length (cells zo x_v)]) (hm:zch x_s x_i x_v=some R) :
  Calls Tryz.prog 399 #[.slice x_s_p0 x_s.length x_s_c0,int x_i, .slice x_v_p1 x_v.length x_v_c1] w0 fun e w'=>∃(p0:Option Addr) (c0:Nat),e = .returned (.slice p0 R.length c0)∧Dk.Own w0 F w' [.row (.slice p0 R.length c0) 225 2 R.length (cells zo R)]:=by
 unfold zch at hm
 split at hm
 ·rename_i hc
  obtain ⟨h1,h2,h3,h4⟩:=hc;obtain rfl:=Option.some.inj hm;have hsz:∀x:zWQ,(zo x).length=2:=fun _=>rfl;have hone:∀(l:List zWQ), ∀v∈cells zo l,v.oneCell'=true:=fun l=>Dk.cells_one' (fun x u hu=>by simp [zo] at hu; rcases hu with rfl|rfl<;>rfl) l;have hel:Elem Tryz.prog 154 225 2 32:=zND;obtain ⟨hu,⟨ti,z,hti,hz,hs1,hs2,hzs⟩,hpos⟩:=hel;have h4':=h4;simp only [ze,Bool.and_eq_true,decide_eq_true_eq] at h4'
  rcases x_v_p1 with _|⟨vb,vo,vsp⟩
  ·rcases (hO.get (i:=1) rfl).2 with ⟨hv,hn⟩|⟨g,cap,cur,hsl,_⟩
   ·have:x_v.length=0:=hn;omega
   ·cases hsl
  have hsv:(⟨vb,vo,vsp⟩:Addr)=⟨vb,0,none⟩:=by
   rcases (hO.get (i:=1) rfl).2 with ⟨hv,_⟩|⟨g,cap,cur,hsl,_⟩
   ·cases hv
   ·injection hsl with e1 _ _
    injection e1 with e1
    injection e1 with e2 e3 e4
    subst e2 e3 e4; rfl
  rw [hsv] at hO ⊢;obtain ⟨curv,hgv,hncv,hcmv,hczv,hctv,hclv⟩:=Dk.own_cur (hO.get (i:=1) rfl)
  have hvs:∀j v,(cells zo x_v)[j]? = some v→w0.cell? ⟨vb,j,none⟩=some v:=fun j v hj=>by
   have:=((hO.rowSees (i:=1) rfl).hard (fun e=>by rw [e] at hj; simp at hj)).2.2 j v hj;simpa using this
  obtain ⟨k,rfl⟩:∃k:Nat,x_i=k:=⟨x_i.toNat,by omega⟩
  have hk:((k:Int)).toNat=k:=by simp
  rw [hk]
  have happ:∀(ve:Value),ve = .slice x_s_p0 x_s.length x_s_c0→k=x_s.length→(∀(ad:Option Addr) (C:Nat) (w1:World),(∀ty,(Builtin.append_ #[154,154] ty #[ve, .slice (some ⟨vb,0,none⟩) x_v.length x_v_c1]).run Tryz.prog w0 = .ok (.slice ad (x_s.length+x_v.length) C) w1) →
    Calls Tryz.prog 399 #[ve,int k, .slice (some ⟨vb,0,none⟩) x_v.length x_v_c1] w0 fun e w'=>e = .returned (.slice ad (x_s.length+x_v.length) C)∧w'=w1) →
    Calls Tryz.prog 399 #[ve,int k, .slice (some ⟨vb,0,none⟩) x_v.length x_v_c1] w0 fun e w'=>∃(p0:Option Addr) (c0:Nat),e = .returned (.slice p0 (x_s.take k++x_v++x_s.drop k).length c0)∧Dk.Own w0 F w' [.row (.slice p0 (x_s.take k++x_v++x_s.drop k).length c0) 225 2 (x_s.take k++x_v++x_s.drop k).length (cells zo (x_s.take k++x_v++x_s.drop k))]:=by
   rintro ve rfl hk h;subst hk
   have key:∀ty, ∃ad' c' w',(Builtin.append_ #[154,154] ty #[.slice x_s_p0 x_s.length x_s_c0, .slice (some ⟨vb,0,none⟩) x_v.length x_v_c1]).run Tryz.prog w0 = .ok (.slice ad' (x_s.length+x_v.length) c') w'∧_:=fun ty =>
    zko (P:=Tryz.prog) (w:=w0) 154 ty 225 ti z 2 32 hu hti hz hs1 hs2 hzs hpos (.slice x_s_p0 x_s.length x_s_c0) x_s.length _ (hO.get (i:=0) rfl) ⟨vb,0,none⟩ x_v.length x_v_c1 (cells zo x_v) (Dk.cells_length hsz _)
     (fun j u hj=>by rw [Addr.add_lit,Nat.zero_add]; exact hvs j u hj) (hone _) (by unfold maxLen; omega) h4'.2
   obtain ⟨ad',c',w',hr,q2,q3,q4⟩:=key 0;refine (h ad' c' w' (fun ty=>hr)).mono ?_;rintro e w'' ⟨rfl,rfl⟩
   have hlen:(x_s.take x_s.length++x_v++x_s.drop x_s.length).length=x_s.length+x_v.length:=by simp
   have hce:cells zo (x_s.take x_s.length++x_v++x_s.drop x_s.length)=cells zo x_s++cells zo x_v:=by rw [List.take_length,List.drop_length,List.append_nil,Dk.cells_append]
   rw [hlen,hce];exact ⟨ad',c',rfl,(hO.grown (i:=0) rfl q3 q2 q4).sub (.cons_cons _ (.cons _ .slnil))⟩
  by_cases hke:k=x_s.length
  ·rcases x_s_p0 with _|⟨b,o,sp⟩
   ·have hn0:x_s_c0=0∧x_s.length=0:=by
     rcases (hO.get (i:=0) rfl).2 with ⟨hv,hn⟩|⟨g,cap,cur,hsl,_⟩
     ·injection hv with _ e1 e2; exact ⟨e2,hn⟩
     ·cases hsl
    have hk0:k=0:=by omega
    have hv0:Value.slice none x_s.length x_s_c0 = .slice none 0 0:=by rw [hn0.1,hn0.2]
    rw [hv0];refine happ (.slice none 0 0) hv0.symm hke fun ad C w1 hr=>?_;subst hk0
    have e0:x_s.length+x_v.length=x_v.length:=by rw [hn0.2,Nat.zero_add]
    rw [e0] at hr ⊢;exact zGi vb x_v.length x_v_c1 w0 w1 (by omega) ad C hr
   ·have hs1':(⟨b,o,sp⟩:Addr)=⟨b,0,none⟩:=by
     rcases (hO.get (i:=0) rfl).2 with ⟨hv,_⟩|⟨g,cap,cur,hsl,_⟩
     ·cases hv
     ·injection hsl with e1 _ _
      injection e1 with e1
      injection e1 with e2 e3 e4
      subst e2 e3 e4; rfl
    rw [hs1'] at hO happ ⊢;obtain ⟨cur,hg,hnc,hcm,hcz,hct,hcl⟩:=Dk.own_cur (hO.get (i:=0) rfl);refine happ _ rfl hke fun ad C w1 hr=>?_;rw [hke];exact zGh b x_s.length x_s_c0 vb x_v.length x_v_c1 w0 w1 (by omega) ad C hnc hr
  have hik:k<x_s.length:=by omega
  rcases x_s_p0 with _|⟨b,o,sp⟩
  ·rcases (hO.get (i:=0) rfl).2 with ⟨hv,hn⟩|⟨g,cap,cur,hsl,_⟩
   ·have:x_s.length=0:=hn;omega
   ·cases hsl
  clear happ
  have hs1':(⟨b,o,sp⟩:Addr)=⟨b,0,none⟩:=by
   rcases (hO.get (i:=0) rfl).2 with ⟨hv,_⟩|⟨g,cap,cur,hsl,_⟩
   ·cases hv
   ·injection hsl with e1 _ _
    injection e1 with e1
    injection e1 with e2 e3 e4
    subst e2 e3 e4; rfl
  rw [hs1'] at hO ⊢;obtain ⟨cur,hg,hnc,hcm,hcz,hct,hcl⟩:=Dk.own_cur (hO.get (i:=0) rfl)
  have hne:vb≠b:=by
   intro e;have hp:=List.pairwise_iff_getElem.1 hO.sep 0 1 (by simp) (by simp) (by omega)
   rcases hp with ⟨h,_⟩|h
   ·cases h
   ·exact h b (by simp [Res.fp,Value.ownBlock]) (by simp [Res.fp,Value.ownBlock,e])
  have hcb:x_s_c0≤9223372036854775807:=hcm
  by_cases hroom:x_s.length+x_v.length≤x_s_c0
  rotate_left
  ·refine (zGg b x_s.length x_s_c0 k vb x_v.length x_v_c1 (cells zo x_s) (cells zo x_v) w0 hik (by omega) hnc (by omega) h4'.2 (Array.getElem?_eq_some_iff.1 hgv).1 (Array.getElem?_eq_some_iff.1 hg).1 hcl hclv (fun j v hj=>by
    have:=((hO.rowSees (i:=0) rfl).hard (fun e=>by rw [e] at hj; simp at hj)).2.2 j v hj
    simpa using this) hvs (hone _) (hone _)).mono ?_
   rintro e w' ⟨C,l,rfl,g1,g2,g3,g4,g5,g6,g7,g8,g9,g10⟩
   have hlen:(x_s.take k++x_v++x_s.drop k).length=x_s.length+x_v.length:=by simp; omega
   have hce:cells zo (x_s.take k++x_v++x_s.drop k)=(cells zo x_s).take (k*2)++cells zo x_v++(cells zo x_s).drop (k*2):=by
    rw [Dk.cells_append,Dk.cells_append,Dk.cells_take hsz,Dk.cells_drop hsz]
   refine ⟨_,C,by rw [hlen],?_⟩;refine (hO.grown (i:=0) rfl (zIu _ g5 g6 g7 (by omega) g9) ?_ (.inr rfl)).sub (.cons_cons _ (.cons _ .slnil));rw [hlen];exact ⟨by rw [Dk.cells_length hsz,hlen], .inr ⟨w0.heap.size,C,l.toArray,rfl,Nat.zero_le _,g10,g1,g2,by simpa using g3,by rw [hce]; exact g4⟩⟩
  have hfin:∀(w':World) (l:List Value),w'.os=w0.os→w'.tape=w0.tape→w'.output=w0.output→w'.heap.size=w0.heap.size→(∀j,j≠b→w'.heap[j]? = w0.heap[j]?)→w'.heap[b]? = some (.cells l.toArray 225 (0,0))→l.length=x_s_c0*2→l.take ((x_s.length+x_v.length)*2)=cells zo (x_s.take k++x_v++x_s.drop k) →
    Dk.Own w0 F w' [.row (.slice (some ⟨b,0,none⟩) (x_s.take k++x_v++x_s.drop k).length x_s_c0) 225 2 (x_s.take k++x_v++x_s.drop k).length (cells zo (x_s.take k++x_v++x_s.drop k))]:=by
   intro w' l e1 e2 e3 e4 e5 e6 e7 e8
   have hlen:(x_s.take k++x_v++x_s.drop k).length=x_s.length+x_v.length:=by simp; omega
   have hT:=hO.turn (i:=0) (b:=b) (w':=w') (r' := .row (.slice (some ⟨b,0,none⟩) (x_s.take k++x_v++x_s.drop k).length x_s_c0) 225 2 (x_s.take k++x_v++x_s.drop k).length (cells zo (x_s.take k++x_v++x_s.drop k))) rfl rfl rfl rfl rfl e1 e2 e3 e4 e5
    ⟨Dk.cells_length hsz _, .inr ⟨b,x_s_c0,l.toArray,rfl,Nat.zero_le _,e6,by rw [hlen]; exact hroom,hcm,by simpa using e7,by rw [hlen]; exact e8⟩⟩
   exact hT.sub (.cons_cons _ (.cons _ .slnil))
  have hshape:∀(x:Nat) (cu:Array Value) (t:TypeId),w0.heap[x]? = some (.cells cu t (0,0))→w0.shape? x=some (t,cu.size):=fun x cu t h=>by simp [World.shape?,h]
  have hfrz:∀(x o:Nat) (cu:Array Value) (t:TypeId),w0.heap[x]? = some (.cells cu t (0,0))→w0.frozen? ⟨x,o,none⟩=false:=fun x o cu t h=>by simp [World.frozen?,h]
  refine (zDU b x_s.length x_s_c0 k vb x_v.length x_v_c1 (cells zo x_s) (cells zo x_v) cur w0 hik (by omega) hroom hcb hne hcl hclv hg hcz hct hvs (hone _) (hone _) 225 _ (hshape vb curv 225 hgv) (by rw [hshape b cur 225 hg,hcz]) (hfrz vb _ curv 225 hgv) (hfrz vb _ curv 225 hgv)).mono ?_;rintro e w' ⟨rfl,l,hll,hlt,W1,hW,rfl⟩
  have hlt':l.take ((x_s.length+x_v.length)*2)=cells zo (x_s.take k++x_v++x_s.drop k):=by
    rw [hlt,Dk.cells_append,Dk.cells_append,Dk.cells_take hsz,Dk.cells_drop hsz]
  have hres:(x_s.take k++x_v++x_s.drop k).length=x_s.length+x_v.length:=by simp; omega
  have hgd:w0.drew.heap[b]? = some (.cells cur 225 (0,0)):=hg
  rcases hW with rfl|⟨l',rfl⟩
  ·exact ⟨_,_,by rw [hres],hfin _ l rfl rfl rfl (by simp [World.setRow]) (fun j hj=>setRow_other w0.drew b j _ hj) (setRow_heap w0.drew b cur l.toArray 225 (0,0) hgd) hll hlt'⟩
  ·have h5:=setRow_heap w0.drew b cur l' 225 (0,0) hgd;exact ⟨_,_,by rw [hres],hfin _ l rfl rfl rfl (by simp [World.setRow]) (fun j hj=>(setRow_other _ b j _ hj).trans (setRow_other w0.drew b j _ hj)) (setRow_heap _ b l' l.toArray 225 (0,0) h5) hll hlt'⟩
 ·cases hm
end Go.Proofs
end
section
namespace Go.Proofs
open Go.Dk Go.Dm Go.RowKit
theorem ztC (s:Str) (c:UInt8) (R:Int) (w0:World) (hG:ziY w0) (hm:strings_IndexByte s c=some R) :
  Calls Tryz.prog 280 #[str s,zcV c] w0 fun e w'=>e = .returned (int R)∧Below w0.heap.size w0 w':=by
 refine (Tryz.strings_IndexByte ⟨s.toArray⟩ c.toNat w0).mono fun e w' ⟨he,hw⟩=>?_;subst he hw;refine ⟨?_,Below.refl _ _⟩;unfold strings_IndexByte at hm;rw [zxH] at hm;cases hm;simp
theorem zmj (s t:Str) (R:Int) (w0:World) (hG:ziY w0) (hm:strings_Index s t=some R) :
  Calls Tryz.prog 305 #[str s,str t] w0 fun e w'=>e = .returned (int R)∧Below w0.heap.size w0 w':=by
 unfold strings_Index at hm
 split at hm
 ·rename_i hs
  obtain ⟨m,hg⟩:=hG.max;refine (Tryz.strings_Index ⟨s.toArray⟩ ⟨t.toArray⟩ m w0 hs hg).mono fun e w' ⟨he,hw⟩=>?_;subst he hw;rw [zzO] at hm;cases hm;exact ⟨rfl,Below.refl _ _⟩
 ·cases hm
theorem zBl (s t:Str) (R:Str × Str × Bool) (w0:World) (hG:ziY w0) (hm:strings_Cut s t=some R) :
  Calls Tryz.prog 201 #[str s,str t] w0 fun e w'=>e = .returned (.tuple #[str R.1,str R.2.1, .bool R.2.2])∧Below w0.heap.size w0 w':=by
 unfold strings_Cut at hm
 split at hm
 ·rename_i hs
  obtain ⟨m,hg⟩:=hG.max;refine (Tryz.strings_Cut ⟨s.toArray⟩ ⟨t.toArray⟩ m w0 hs hg).mono fun e w' ⟨he,n,hw⟩=>?_;subst he hw;cases hm;exact ⟨rfl,⟨rfl,rfl,rfl,Nat.le_refl _,fun _ _=>rfl⟩⟩
 ·cases hm
theorem zuF (s t:Str) (R:Bool) (w0:World) (hG:ziY w0) (hm:strings_Contains s t=some R) :
  Calls Tryz.prog 288 #[str s,str t] w0 fun e w'=>e = .returned (.bool R)∧Below w0.heap.size w0 w':=by
 unfold strings_Contains at hm
 split at hm
 ·rename_i hs
  obtain ⟨m,hg⟩:=hG.max;refine (Tryz.strings_Contains ⟨s.toArray⟩ ⟨t.toArray⟩ m w0 hs hg).mono fun e w' ⟨he,hw⟩=>?_;subst he hw;rw [zzO] at hm;cases hm;exact ⟨rfl,Below.refl _ _⟩
 ·cases hm
theorem zuG (s cs:Str) (R:Int) (w0:World) (hG:ziY w0) (hm:strings_IndexAny s cs=some R) :
  Calls Tryz.prog 143 #[str s,str cs] w0 fun e w'=>e = .returned (int R)∧Below w0.heap.size w0 w':=by
 unfold strings_IndexAny at hm
 split at hm
 ·rename_i hs
  refine (zC5 Tryz.lays153 (by kernel_rfl) ⟨s.toArray⟩ ⟨cs.toArray⟩ w0 hs.1 hs.2.1 (fun j b hb=>?_)).mono fun e w' ⟨he,hw⟩=>?_
  ·have:=List.all_eq_true.1 hs.2.2 b (List.mem_of_getElem? hb);simpa using this
  ·subst he;rw [zIk] at hm;cases hm;exact ⟨rfl,hw⟩
 ·cases hm
theorem ztD (n b:Int) (R:Str) (w0:World) (hG:zkB w0) (hm:zcg n b=some R) :
  Calls Tryz.prog 278 #[int n,int b] w0 fun e w'=>e = .returned (str R)∧Below w0.heap.size w0 w':=by
 unfold zcg at hm
 split at hm
 ·rename_i h
  obtain ⟨h1,rfl⟩:=h;obtain ⟨h2,h3⟩:=zDH.1 h1;cases hm;refine (Tryz.strconv_FormatInt_10 n h2 h3 w0 hG.2.1).mono fun e w' ⟨he,k,os,hw⟩=>?_;subst he hw;exact ⟨rfl,Lib.below_grow _ _ (Nat.le_refl _) _ _⟩
 ·split at hm
  ·rename_i h
   obtain ⟨rfl,h2,h3⟩:=h;obtain ⟨k,rfl⟩:∃k:Nat,n=k:=⟨n.toNat,by omega⟩;cases hm;have:=zDL k (by omega) w0 (Nat.le_trans (by decide) hG.size) hG.2.2;simpa using this
  ·cases hm
theorem zya (s sep:Str) (R:List Str) (w0:World) (hG:ziY w0) (hm:strings_Split s sep=some R) :
  Calls Tryz.prog 273 #[str s,str sep] w0 fun e w'=>∃(p0:Option Addr) (c0:Nat),e = .returned (.slice p0 R.length c0)∧Own w0 [] w' [.row (.slice p0 R.length c0) 9 1 R.length (cells zkC R)]:=by
 unfold strings_Split at hm
 split at hm
 ·rename_i hs
  obtain ⟨m,hg⟩:=hG.max;refine (Tryz.strings_Split ⟨s.toArray⟩ ⟨sep.toArray⟩ m w0 hs.1 hg hs.2).mono fun e w' ⟨he,hw⟩=>?_;subst he hw;have hlen:=Go.Lib.splitB_all ⟨sep.toArray⟩ hs.2 0 _ ⟨s.toArray⟩ rfl;have hdat:=Go.Lib.splitB_data ⟨sep.toArray⟩ 0 (Go.Lib.countB ⟨s.toArray⟩ ⟨sep.toArray⟩) ⟨s.toArray⟩
  have hR:R=(Go.Lib.splitB ⟨sep.toArray⟩ 0 (Go.Lib.countB ⟨s.toArray⟩ ⟨sep.toArray⟩) ⟨s.toArray⟩).map (·.data.toList):=by
   rw [hdat]; exact (Option.some.inj hm).symm
  have hRl:R.length=Go.Lib.countB ⟨s.toArray⟩ ⟨sep.toArray⟩+1:=by rw [hR,List.length_map,hlen]
  have hcells:(Go.Lib.splitB ⟨sep.toArray⟩ 0 (Go.Lib.countB ⟨s.toArray⟩ ⟨sep.toArray⟩) ⟨s.toArray⟩).map Value.string=cells zkC R:=by
   rw [hR];generalize Go.Lib.splitB _ _ _ _=l
   induction l with
   | nil=>rfl
   | cons x l ih=>obtain ⟨⟨x⟩⟩:=x; rw [List.map_cons,List.map_cons,ih]; rfl
  have hle:=Go.Lib.countB_le ⟨sep.toArray⟩ hs.2 _ ⟨s.toArray⟩ (Nat.le_refl _);have hsz:(⟨s.toArray⟩:ByteArray).size=s.length:=rfl;have hO:=(Own.refl w0).newRow (cells zkC R) 9 1 R.length (cells_length (enc:=zkC) (sz:=1) (fun _=>rfl) R) (by unfold maxLen; omega);rw [hcells, ← hRl];exact ⟨_,_,rfl,hO⟩
 ·cases hm
theorem zsk (s old new:Str) (R:Str) (w0:World) (hG:ziY w0) (hm:strings_ReplaceAll s old new=some R) :
  Calls Tryz.prog 299 #[str s,str old,str new] w0 fun e w'=>e = .returned (str R)∧Below w0.heap.size w0 w':=by
 unfold strings_ReplaceAll at hm
 split at hm
 ·rename_i hs
  obtain ⟨m,hg⟩:=hG.max;refine (Tryz.strings_ReplaceAll ⟨s.toArray⟩ ⟨old.toArray⟩ ⟨new.toArray⟩ m w0 hs.1 hg hs.2.1 hs.2.2).mono fun e w' ⟨he,hw⟩=>?_;subst he;cases hm;exact ⟨rfl,hw⟩
 ·cases hm
theorem zzW (s cs:Str) (R:Str) (w0:World) (hG:ziY w0) (hm:zbJ s cs=some R) :
  Calls Tryz.prog 218 #[str s,str cs] w0 fun e w'=>e = .returned (str R)∧Below w0.heap.size w0 w':=by
 unfold zbJ at hm
 split at hm
 ·rename_i hs
  refine (Any.strings_Trim_laid Tryz.lays160 (by kernel_rfl) ⟨s.toArray⟩ ⟨cs.toArray⟩ w0 (Nat.le_trans (Nat.le_of_lt hs.1) (by decide)) hs.2.1 (fun j b hb=>?_)).mono fun e w' ⟨he,hw⟩=>?_
  ·have:=List.all_eq_true.1 hs.2.2 b (List.mem_of_getElem? hb);simpa using this
  ·subst he;cases hm;exact ⟨rfl,hw⟩
 ·cases hm
theorem ztE (s cs:Str) (R:Str) (w0:World) (hG:ziY w0) (hm:zdp s cs=some R) :
  Calls Tryz.prog 446 #[str s,str cs] w0 fun e w'=>e = .returned (str R)∧Below w0.heap.size w0 w':=by
 unfold zdp at hm
 split at hm
 ·rename_i hs
  refine (Any.strings_TrimRight_laid Tryz.lays162 (by kernel_rfl) ⟨s.toArray⟩ ⟨cs.toArray⟩ w0 (Nat.le_trans (Nat.le_of_lt hs.1) (by decide)) hs.2.1 (fun j b hb=>?_)).mono fun e w' ⟨he,hw⟩=>?_
  ·have:=List.all_eq_true.1 hs.2.2 b (List.mem_of_getElem? hb);simpa using this
  ·subst he;cases hm;exact ⟨rfl,hw⟩
 ·cases hm
theorem zzX (l:List Str) (sep:Str) (R:Str) (w0:World) (hG:ziY w0) {x_p:Option Addr} {x_c:Nat} (hs0:zd9 w0 x_p (cells zkC l)) (hc0:l.length≤x_c) (hm:strings_Join l sep=some R) :
  Calls Tryz.prog 130 #[.slice x_p l.length x_c,str sep] w0 fun e w'=>e = .returned (str R)∧Below w0.heap.size w0 w':=by
 unfold strings_Join at hm
 split at hm
 ·rename_i hb
  cases hm
  have hmap:(l.map fun x=>(⟨x.toArray⟩:ByteArray)).map (·.data.toList)=l:=by
   rw [List.map_map]; exact List.map_id' l
  by_cases hl:l=[]
  ·subst hl
   exact (Tryz.strings_Join_none x_p x_c ⟨sep.toArray⟩ w0).mono fun e w' h=>by
    obtain ⟨he,hw⟩:=h;subst he hw;exact ⟨rfl,Below.refl _ _⟩
  have hne:cells zkC l≠[]:=fun h=>hl (by
   cases l with
   | nil=>rfl
   | cons x l=>simp [cells,zkC] at h)
  cases x_p with
  | none=>exact absurd (show cells zkC l=[] from hs0) hne
  | some a =>
   obtain ⟨bk,o,spot⟩:=a;obtain ⟨h1,h2,h3⟩:=hs0.hard hne;simp only at h1; subst h1;have:=Tryz.strings_Join bk o x_c (l.map fun x=>(⟨x.toArray⟩:ByteArray)) ⟨sep.toArray⟩ w0 (fun j x hx=>?_) h2 (by simpa using hb.1) (by simpa using hc0) (by rw [hmap]; exact hb.2)
   ·rw [hmap,List.length_map] at this;exact this
   ·rw [List.getElem?_map] at hx;obtain ⟨y,hy,rfl⟩:=Option.map_eq_some_iff.1 hx;refine h3 j _ ?_;have:=ztv (enc:=zkC) (sz:=1) (fun _=>rfl) l j 0 y hy (by omega);rw [Nat.mul_one,Nat.add_zero] at this;exact this
 ·cases hm
end Go.Proofs
end
section
set_option linter.unusedVariables false
set_option linter.unusedSimpArgs false
namespace Go.Proofs
open Go.Dk Go.Dm Go.RowKit
set_option maxHeartbeats 4000000 in
set_option maxRecDepth 100000 in
theorem zKF (lw:UInt8→Option UInt8) (s:ByteArray) (R:Str) (w0:World) (hG:ziY w0) (hsz:s.size<4294967281) (hm:s.data.toList.mapM lw=some R)
  (hlow:∀b c w,lw b=some c→ziY w→Calls Tryz.prog 279 #[.int .u8 (b.toNat:Int)] w fun e w'=>e = .returned (.int .u8 (c.toNat:Int))∧Below w.heap.size w w') :
  Calls Tryz.prog 221 #[.string s] w0 fun e w'=>e = .returned (.string ⟨R.toArray⟩)∧Below w0.heap.size w0 w':=by
 obtain ⟨hlen,hat⟩:=mapM_at hm;have HL:Aside (R.length=s.size):=hlen.trans (Lib.size_eq s).symm;have HT:Aside (∀(i:Nat) (a:UInt8),s.data.toList[i]? = some a→∃b,R[i]? = some b∧lw a=some b):=hat
 clear hlen hat hm
 have hcv:=fun w=>run_bytes_of_string (P:=Tryz.prog) w 9 64 5 s Tryz.underlying9 Tryz.underlying64 Tryz.underlying5
 go_enter Tryz.func221,Tryz.ntmps221
 go_wp2
 go_loopg [4,5,10] s.size (fun g _ _ v wx=>∃i:Nat,i+g=s.size∧v = .int .i64 (i:Int)∧Below w0.heap.size w0 wx∧∃(cur:Array Value) (fz:Nat × Nat),wx.heap[w0.heap.size]? = some (.cells cur 5 fz)∧cur.size≤fz.1∧s.size≤cur.size∧∀j,j<s.size→cur[j]? = ((if j<i then R[j]? else s.data.toList[j]?).map zcV))
 case atStart =>
  have hrow:(bytesRow s (grownCap w0 s.size 0 5)).size=s.size+(grownCap w0 s.size 0 5-s.size):=by
   have:=Lib.size_eq s;unfold bytesRow;rw [Array.size_append,Array.size_map,Array.size_replicate];rfl
  refine ⟨0,by omega,rfl,((Below.refl _ _).alloc (Nat.le_refl _) _).drew,_,_,zkA _,Nat.le_refl _,?_,fun j hj=>?_⟩
  ·omega
  ·rw [if_neg (by omega)];unfold bytesRow;rw [Array.getElem?_append_left (by simp [← Lib.size_eq]; exact hj),Array.getElem?_map]
   congr 1
   exact (Array.getElem?_toList ..).symm
 case round =>
  obtain ⟨i,hig,rfl,hB,cur,fz,hcur,hfz,hsc,hcell⟩:=hrel;have HG:Aside (ziY wr):=hG.own zNC ((Own.refl w0).grow hB);have HB:Aside (Below w0.heap.size w0 wr):=hB;have HC:Aside (wr.heap[w0.heap.size]? = some (.cells cur 5 fz)):=hcur;have HF:Aside (cur.size≤fz.1∧s.size≤cur.size):=⟨hfz,hsc⟩;have HX:Aside (∀j,j<s.size→cur[j]? = ((if j<i then R[j]? else s.data.toList[j]?).map zcV)):=hcell
  clear hB hcell hfz hsc hcur
  by_cases hi:i<s.size
  ·obtain ⟨x,hx⟩:∃x,s.data.toList[i]? = some x:=⟨_,Lib.data_getElem? s i hi⟩;obtain ⟨y,hyR,hy⟩:=HT.out i x hx
   have hcx:wr.cell? ⟨w0.heap.size,i,none⟩=some (.int .u8 (x.toNat:Int)):=by
    have:=HX.out i hi;rw [if_neg (by omega),hx] at this;simp [World.cell?,HC.out,this]
   have hfr:wr.frozen? ⟨w0.heap.size,i,none⟩=false:=by
    have:=HF.out;simp [World.frozen?,HC.out]; omega
   have hii:(i:Int)<(s.size:Int):=by omega
   have HY:Aside (R[i]? = some y):=hyR;have HO:Aside (lw x=some y):=hy
   clear hyR hy hx
   go_wp2_with (go_at_call 279; refine (hlow x y _ HO.out HG.out).mono ?_; rintro e w' ⟨rfl,hb⟩; have hcx':w'.cell? ⟨w0.heap.size,i,none⟩=some (.int .u8 (x.toNat:Int)):=(hb.cell (p:=⟨w0.heap.size,i,none⟩) (Array.getElem?_eq_some_iff.1 HC.out).1).trans hcx; have hfr':w'.frozen? ⟨w0.heap.size,i,none⟩=false:=(hb.frozen (p:=⟨w0.heap.size,i,none⟩) (Array.getElem?_eq_some_iff.1 HC.out).1).trans hfr)
   go_roundg (gk-1)
   case measure=>omega
   case rel =>
    have hlt:=(Array.getElem?_eq_some_iff.1 HC.out).1;have hcw:w'.heap[w0.heap.size]? = some (.cells cur 5 fz):=(hb.block _ hlt).trans HC.out;refine ⟨i+1,by omega,rfl,?_,cur.setIfInBounds i (.int .u8 (y.toNat:Int)),fz,?_,?_,?_,fun j hj=>?_⟩
    ·exact (HB.out.trans (hb.mono HB.out.size)).setCell (p:=⟨w0.heap.size,i,none⟩) (Nat.le_refl _) _
    ·simp [World.setCell,Array.getElem?_modify,hcw]
    ·have:=HF.out; simp; omega
    ·have:=HF.out; simp; omega
    ·by_cases hji:j=i
     ·subst hji;have:=HF.out;rw [if_pos (by omega),HY.out,Array.getElem?_setIfInBounds_self_of_lt (by omega)];rfl
     ·rw [Array.getElem?_setIfInBounds_ne (Ne.symm hji),HX.out j hj]
      by_cases h2:j<i
      ·rw [if_pos h2,if_pos (by omega)]
      ·rw [if_neg h2,if_neg (by omega)]
  ·have hsi:i=s.size:=by omega
   have hbk:∀w,wr.heap=w.heap→(convert 64 9 (.slice (some ⟨w0.heap.size,0,none⟩) s.size (grownCap w0 s.size 0 5))).run Tryz.prog w = .ok (.string ⟨R.toArray⟩) w:=by
    intro w hw
    have:=run_convert_bytes_back (P:=Tryz.prog) w 64 9 5 ⟨w0.heap.size,0,none⟩ (grownCap w0 s.size 0 5) R Tryz.underlying64 Tryz.underlying5 Tryz.underlying9 (fun j hj=>by
     have hjs:j<s.size:=by rw [← HL.out]; exact hj
     have h1:=HX.out j hjs;rw [if_pos (by omega),List.getElem?_eq_getElem hj] at h1;rw [zK1]
     simp [World.cell?, ← hw,HC.out,h1])
    rw [HL.out] at this;exact this
   have hni:¬ ((i:Int)<(s.size:Int)):=by omega
   have hbk1:=hbk wr rfl
   go_wp2
   go_ret
   exact ⟨rfl,HB.out⟩
end Go.Proofs
end
section
namespace Go.Rk
open Go.RowKit Go.Dm Go.Dk
variable {P:Program} {w:World} {t':Nat}
def zr6:Nat→List (Int × Str)→List MapEntry
 | _,[]=>[]
 | n,q::l=>{ key:=int q.1,val:=str q.2,born:=n }::zr6 (n+1) l
def zr7 (l:List (Int × Str)):Obj := .map (zr6 0 l).toArray l.length
theorem zCM:∀(l:List (Int × Str)) (n:Nat) (q:Int × Str),zr6 n (l++[q])=zr6 n l++[{ key:=int q.1,val:=str q.2,born:=n+l.length }]
 | [],n,q=>rfl
 | x::l,n,q=>by
  show _::zr6 (n+1) (l++[q])=_::(zr6 (n+1) l++_);rw [zCM l (n+1) q]
  have:n+1+l.length=n+(x::l).length:=by simp; omega
  rw [this]
theorem zDq (k:Int):∀(l:List (Int × Str)) (n i:Nat), ∃j,Instr.findNow (.int .i64) (int k) (zr6 n l) i=some ((l.find? fun q=>q.1==k).map fun q=>(j,str q.2))
 | [],_,_=>⟨0,rfl⟩
 | q::l,n,i=>by
  obtain ⟨j,hj⟩:=zDq k l (n+1) (i+1);have e:Instr.sameNow (.int .i64) (int k) (int q.1)=some (k==q.1):=rfl;rw [List.find?_cons];unfold zr6 Instr.findNow;rw [e]
  cases hk:k==q.1 with
  | true =>
   have h1:k=q.1:=by simpa using hk
   have:(q.1==k)=true:=by rw [h1]; simp
   rw [this]; exact ⟨i,rfl⟩
  | false =>
   have:(q.1==k)=false:=by
    have h1:k≠q.1:=by simpa using hk
    exact beq_eq_false_iff_ne.2 fun h=>h1 h.symm
   rw [this]; exact ⟨j,hj⟩
theorem zHZ {kt et b:Nat} {k:Int} {v:Str} {l:List (Int × Str)} (ht:P.underlying t'=some (.map kt et)) (hk:P.underlying kt=some (.int .i64)) (hb:w.heap[b]? = some (zr7 l)) (hn:(l.find? fun q=>q.1==k)=none) :
  (Instr.mapUpdate t' (.map (some b)) (int k) (str v)).run P w = .ok () { w with heap:=w.heap.setIfInBounds b (zr7 (l++[(k,v)])) }:=by
 obtain ⟨j,hj⟩:=zDq k l 0 0;rw [hn] at hj
 have e:zr7 (l++[(k,v)]) = .map ((zr6 0 l).toArray.push { key:=int k,val:=str v,born:=l.length }) (l.length+1):=by
  unfold zr7;rw [zCM];simp
 rw [e];have hb':w.heap[b]? = some (.map (zr6 0 l).toArray l.length):=hb;have hc:(Instr.checkKey false 10000 kt (int k)).run P w = .ok () w:=MapKept.run_checkKey (d := .int .i64) (k:=int k) hk rfl false 9999;simp [Instr.mapUpdate,run_underlying ht,MapKept.run_getObj_map hb',hc,MapKept.run_findKey hk hj,MapKept.run_setObj_map _ hb',Result.andThen]
theorem zH0 {kt et b:Nat} {k:Int} {l:List (Int × Str)} (ht:P.underlying t'=some (.map kt et)) (hk:P.underlying kt=some (.int .i64)) (hz:∀w,(zeroValue et).run P w = .ok (str []) w) (hb:w.heap[b]? = some (zr7 l)) :
  (Instr.lookup t' (.map (some b)) (int k) true).run P w = .ok (.tuple #[str (zqF l k).1, .bool (zqF l k).2]) w:=by
 obtain ⟨j,hj⟩:=zDq k l 0 0;have hb':w.heap[b]? = some (.map (zr6 0 l).toArray l.length):=hb;have hc:∀e,(Instr.checkKey e 10000 kt (int k)).run P w = .ok () w:=fun e=>MapKept.run_checkKey (d := .int .i64) (k:=int k) hk rfl e 9999;unfold zqF
 cases hf:l.find? fun q=>q.1==k with
 | none =>
  rw [hf] at hj;simp [Instr.lookup,run_underlying ht,MapKept.run_getObj_map hb',hc,MapKept.run_findKey hk hj,Result.andThen,hz]
 | some q =>
  rw [hf] at hj;simp [Instr.lookup,run_underlying ht,MapKept.run_getObj_map hb',hc,MapKept.run_findKey hk hj,Result.andThen]
end Go.Rk
end
section
namespace Go.Rk
open Go.RowKit Go.Dm Go.Dk

inductive Ty where
 | bool|int|u8|u16|str
 /-- a slice of what is frozen; one that is owned -/
 | sl (e:Ty)|so (te:TypeId) (e:Ty)
 /-- one that is owned, or none: told apart (results alone) -/
 | sn (te:TypeId) (e:Ty)
 /-- a struct, by its number -/
 | st (n:Nat)
 /-- a pointer to a struct that is frozen; to one that is owned; the same, or nil -/
 | pt (n:Nat)|po (n:Nat)|pn (n:Nat)
 /-- a function of a zcV; nothing; this function -/
 | fn|nil|fc (f:Nat)
 /-- this function, with one datum that it holds -/
 | cl (f:Nat) (t:Ty)
 /-- this function, with the pointer that the first cell of the same block holds -/
 | mv (f:Nat)
 /-- two data (of what is known besides) -/
 | pr (a b:Ty)
deriving DecidableEq
def Ty.den (τ:Nat→Type):Ty→Type
 | .bool=>Bool
 | .int=>Int
 | .u8=>UInt8
 | .u16=>UInt16
 | .str=>Str
 | .sl e=>List (e.den τ)
 | .so _ e=>List (e.den τ)
 | .st n=>τ n
 | .pt n=>τ n
 | .po n=>τ n
 | .pn n=>Option (τ n)
 | .fn=>UInt8→Option Bool
 | .nil=>Unit
 | .fc _=>Unit
 | .mv _=>Unit
 | .cl _ t=>t.den τ
 | .sn _ e=>Option (List (e.den τ))
 | .pr a b=>a.den τ × b.den τ
def DP (τ:Nat→Type):List Ty→Type
 | []=>Unit
 | [t]=>t.den τ
 | t::u::ts=>t.den τ × DP τ (u::ts)
variable {τ:Nat→Type}
def DP.hd {t:Ty}:{ts:List Ty}→DP τ (t::ts)→t.den τ
 | [],p=>p
 | _::_,p=>p.1
def DP.tl {t:Ty}:{ts:List Ty}→DP τ (t::ts)→DP τ ts
 | [],_=>()
 | _::_,p=>p.2
def DP.mk {t:Ty}:{ts:List Ty}→t.den τ→DP τ ts→DP τ (t::ts)
 | [],x,_=>x
 | _::_,x,p=>(x,p)
theorem DP.hd_mk {t:Ty} {ts:List Ty} (x:t.den τ) (p:DP τ ts):(DP.mk x p).hd=x:=by cases ts<;>rfl
theorem DP.tl_mk {t:Ty} {ts:List Ty} (x:t.den τ) (p:DP τ ts):(DP.mk x p).tl=p:=by cases ts<;>rfl
abbrev Fz:=Nat→Option Obj
def Fz.le (h h':Fz):Prop:=∀b o,h b=some o→h' b=some o
structure Sig (τ:Nat→Type) where
 fs:Nat→List Ty
 ti:Nat→TypeId
 ctor:∀n,DP τ (fs n)→τ n
 dtor:∀n, τ n→DP τ (fs n)
 cd:∀n x,ctor n (dtor n x)=x
 dc:∀n p,dtor n (ctor n p)=p
 eq:∀n, τ n→τ n→Bool
 /-- functions that may be handed over; package variables -/
 fp:List (FuncId × (UInt8→Option Bool))
 gl:List (Nat × (t:Ty) × t.den τ)
 /-- rows of such elements may begin behind their block's start -/
 dr:Nat→Bool:=fun _=>false
 /-- what else is known of what is frozen -/
 ax:Fz→Prop:=fun _=>True
 axm:∀{h h'},Fz.le h h'→ax h→ax h':=by exact fun _ h=>h
inductive CV (τ:Nat→Type) where
 | b (x:Bool)
 /-- a bool that is known -/
 | k (x:Bool)
 | i (x:Int)
 | u8 (x:UInt8)
 | u16 (x:UInt16)
 | s (x:Str)
 /-- a slice of what is frozen; no slice; nil -/
 | sl (e:Ty) (xs:List (e.den τ))
 | n0
 | nl
 /-- a row that a resource holds -/
 | os (id:Nat)
 /-- an address within a resource's block -/
 | pt (id:Nat) (o:Nat)
 /-- an address within what is frozen -/
 | ea (t:Ty) (z:t.den τ) (o:Nat)
 /-- a pointer to what is frozen, or nil -/
 | ep (n:Nat) (x:Option (τ n))
 /-- .. within an element of a row that a resource holds: the row's state, its place, what it was then -/
 | oe (id k:Nat) (m:Int) (t:Ty) (z:t.den τ) (o:Nat)
 | fn (f:FuncId)
 | fm (m:UInt8→Option Bool)
 /-- a function with a datum that it holds -/
 | cl (f:FuncId) (t:Ty) (x:t.den τ)
 /-- a function with what it holds: a resource -/
 | cf (id:Nat)
 /-- no function -/
 | nf
 /-- a function with some pointer; with a resource's -/
 | mf (f:FuncId)
 | mv (f:FuncId) (id:Nat)
 /-- a map that a resource holds -/
 | mp (id:Nat)
 | m0
 | bad
inductive XV (τ:Nat→Type) where
 | c (x:CV τ)
 | g (l:List (CV τ))
 | t (l:List (Bool × List (CV τ)))
 | un
 /-- what is known besides -/
 | gv (t:Ty) (x:t.den τ)
inductive AR (τ:Nat→Type) where
 | gone
 | blk (t:TypeId) (cs:List (CV τ))
 | row (t:TypeId) (e:Ty) (xs:List (e.den τ)) (k:Nat)
 | fz (e:Ty) (xs:List (e.den τ))
 | tree (n:Nat) (x:Option (τ n))
 | nilp
 /-- a function with what it holds (ahead of its arguments, behind them); a part of a row, at a state of it; a block as a row of cells -/
 | clo (f:FuncId) (bs cs:List (CV τ))
 | sb (id n:Nat)
 | vw (id k:Nat) (e:Ty) (lo:Nat) (xs:List (e.den τ))
 /-- a map of texts by numbers -/
 | mp (l:List (Int × Str))
def Ty.av:(t:Ty)→t.den τ→CV τ
 | .bool,x => .b x
 | .int,x => .i x
 | .u8,x => .u8 x
 | .u16,x => .u16 x
 | .str,x => .s x
 | .sl e,x => .sl e x
 | .so _ e,x => .sl e x
 | .st n,x => .ea (.st n) x 0
 | .pt n,x => .ea (.st n) x 0
 | .po n,x => .ea (.st n) x 0
 | .pn n,x => .ep n x
 | .fn,x => .fm x
 | .nil,_ => .nl
 | .fc f,_ => .fn f
 | .mv f,_ => .mf f
 | .cl f t,x => .cl f t x
 | .sn _ _,_ => .bad
 | .pr _ _,_ => .bad
def avs:(ts:List Ty)→DP τ ts→List (CV τ)
 | [],_=>[]
 | t::ts,p=>t.av p.hd::avs ts p.tl
def ets (G:Sig τ):Ty→List Ty
 | .st n=>G.fs n
 | t=>[t]
def edt (G:Sig τ):(t:Ty)→t.den τ→DP τ (ets G t)
 | .st n,x=>G.dtor n x
 | .bool,x=>x
 | .int,x=>x
 | .u8,x=>x
 | .u16,x=>x
 | .str,x=>x
 | .sl _,x=>x
 | .so _ _,x=>x
 | .pt _,x=>x
 | .po _,x=>x
 | .pn _,x=>x
 | .fn,x=>x
 | .nil,x=>x
 | .fc _,x=>x
 | .mv _,x=>x
 | .cl _ _,x=>x
 | .sn _ _,x=>x
 | .pr _ _,x=>x
def ect (G:Sig τ):(t:Ty)→DP τ (ets G t)→t.den τ
 | .st n,x=>G.ctor n x
 | .bool,x=>x
 | .int,x=>x
 | .u8,x=>x
 | .u16,x=>x
 | .str,x=>x
 | .sl _,x=>x
 | .so _ _,x=>x
 | .pt _,x=>x
 | .po _,x=>x
 | .pn _,x=>x
 | .fn,x=>x
 | .nil,x=>x
 | .fc _,x=>x
 | .mv _,x=>x
 | .cl _ _,x=>x
 | .sn _ _,x=>x
 | .pr _ _,x=>x
theorem zDO (G:Sig τ) (t:Ty) (p:DP τ (ets G t)):edt G t (ect G t p)=p:=by
 cases t<;>first|rfl|exact G.dc _ _
def zw5 (G:Sig τ) (t:Ty) (x:t.den τ):List (CV τ):=avs (ets G t) (edt G t x)
def prT:List Ty→Ty
 | [] => .nil
 | [t]=>t
 | t::u::ts => .pr t (prT (u::ts))
def DP.pr:(ts:List Ty)→DP τ ts→(prT ts).den τ
 | [],_=>()
 | [_],x=>x
 | _::u::ts,p=>(p.1,DP.pr (u::ts) p.2)
def zzU {t t':Ty} (x:t.den τ):Option (t'.den τ):=if h:t=t' then some (h▸x) else none
def zmv {t t':Ty} (x:List (t.den τ)):Option (List (t'.den τ)):=if h:t=t' then some (h▸x) else none
def zGd {n m:Nat} (x:Option (τ n)):Option (Option (τ m)):=if h:n=m then some (h▸x) else none
def zNm {n m:Nat} (x:τ n):Option (τ m):=if h:n=m then some (h▸x) else none
theorem zNn {t t':Ty} {x:t.den τ} {y:t'.den τ} (h:zzU x=some y):∃e:t=t',e▸x=y:=by
 unfold zzU at h
 split at h
 ·exact ⟨‹_›,Option.some.inj h⟩
 ·cases h
theorem zgW {t t':Ty} {x:List (t.den τ)} {y:List (t'.den τ)} (h:zmv x=some y):∃e:t=t',e▸x=y:=by
 unfold zmv at h
 split at h
 ·exact ⟨‹_›,Option.some.inj h⟩
 ·cases h
theorem zzV {n m:Nat} {x:Option (τ n)} {y:Option (τ m)} (h:zGd x=some y):∃e:n=m,e▸x=y:=by
 unfold zGd at h
 split at h
 ·exact ⟨‹_›,Option.some.inj h⟩
 ·cases h
theorem zNo {n m:Nat} {x:τ n} {y:τ m} (h:zNm x=some y):∃e:n=m,e▸x=y:=by
 unfold zNm at h
 split at h
 ·exact ⟨‹_›,Option.some.inj h⟩
 ·cases h

def Fz.on (h:Fz) (w:World):Prop:=∀b o,h b=some o→w.heap[b]? = some o
def zpp (h:Fz) (a:Option Addr) (vs:List Value):Prop :=
 vs=[]∨∃b o c e z,a=some ⟨b,o,none⟩∧h b=some (.cells c e z)∧∀(k:Nat) v,vs[k]? = some v→c[o+k]? = some v
theorem zpp.le {h h':Fz} {a:Option Addr} {vs:List Value} (hl:h.le h'):zpp h a vs→zpp h' a vs
 | .inl e => .inl e
 | .inr ⟨b,o,c,e,z,h1,h2,h3⟩ => .inr ⟨b,o,c,e,z,h1,hl _ _ h2,h3⟩
theorem zpp.sees {h:Fz} {w:World} {a:Option Addr} {vs:List Value} (hw:h.on w) (hs:zpp h a vs):zd9 w a vs:=by
 rcases hs with rfl|⟨b,o,c,e,z,rfl,h2,h3⟩
 ·cases a with
  | none=>rfl
  | some x=>exact .inl rfl
 ·have:=hw _ _ h2;exact .inr ⟨rfl,(Array.getElem?_eq_some_iff.1 this).1,fun i v hv=>by simp [World.cell?,this,h3 i v hv]⟩
def zIq (P:Program) (m:UInt8→Option Bool) (f:FuncId):Prop:=zcD P f∧∀c r w,m c=some r→Calls P f #[zcV c] w fun e w'=>e = .returned (.bool r)∧Below w.heap.size w w'

mutual
inductive Rp (P:Program) (G:Sig τ) (h:Fz):(t:Ty)→t.den τ→Value→Prop
 | bool (x:Bool):Rp P G h .bool x (.bool x)
 | int (x:Int):Rp P G h .int x (.int .i64 x)
 | u8 (x:UInt8):Rp P G h .u8 x (.int .u8 x.toNat)
 | u16 (x:UInt16):Rp P G h .u16 x (.int .u16 x.toNat)
 | str (x:Str):Rp P G h .str x (str x)
 | sl (e:Ty) (xs:List (e.den τ)) (a:Option Addr) (c:Nat) (vs:List Value) (hc:xs.length≤c) (hs:zpp h a vs) (hr:RpR P G h e xs vs):Rp P G h (.sl e) xs (.slice a xs.length c)
 | so (te:TypeId) (e:Ty) (xs:List (e.den τ)) (v:Value) (hr:Rp P G h (.sl e) xs v):Rp P G h (.so te e) xs v
 | pt (n:Nat) (x:τ n) (b k:Nat) (vs:List Value) (hs:zpp h (some ⟨b,k,none⟩) vs) (hr:RpL P G h (G.fs n) (G.dtor n x) vs):Rp P G h (.pt n) x (ptr b k)
 | po (n:Nat) (x:τ n) (v:Value) (hr:Rp P G h (.pt n) x v):Rp P G h (.po n) x v
 | pn0 (n:Nat):Rp P G h (.pn n) none (.pointer none)
 | pn1 (n:Nat) (x:τ n) (v:Value) (hr:Rp P G h (.pt n) x v):Rp P G h (.pn n) (some x) v
 | fn (m:UInt8→Option Bool) (f:FuncId) (hf:zIq P m f):Rp P G h .fn m (.func (.func f) #[] #[])
 | nil:Rp P G h .nil () (.pointer none)
 | fc (f:Nat):Rp P G h (.fc f) () (.func (.func f) #[] #[])
 | mv (f:Nat) (u:Value):Rp P G h (.mv f) () (.func (.func f) #[u] #[])
 | cl (f:Nat) (t:Ty) (x:t.den τ) (u:Value) (hr:Rp P G h t x u):Rp P G h (.cl f t) x (.func (.func f) #[] #[u])
inductive RpL (P:Program) (G:Sig τ) (h:Fz):(ts:List Ty)→DP τ ts→List Value→Prop
 | nil:RpL P G h [] () []
 | cons (t:Ty) (ts:List Ty) (p:DP τ (t::ts)) (v:Value) (vs:List Value) (h1:Rp P G h t p.hd v) (h2:RpL P G h ts p.tl vs):RpL P G h (t::ts) p (v::vs)
inductive RpR (P:Program) (G:Sig τ) (h:Fz):(e:Ty)→List (e.den τ)→List Value→Prop
 | nil (e:Ty):RpR P G h e [] []
 | cons (e:Ty) (x:e.den τ) (xs:List (e.den τ)) (vs ws:List Value) (h1:RpL P G h (ets G e) (edt G e x) vs) (h2:RpR P G h e xs ws):RpR P G h e (x::xs) (vs++ws)
end
section
variable {P:Program} {G:Sig τ} {h h':Fz}
mutual
theorem Rp.le (hl:h.le h'):∀{t:Ty} {x:t.den τ} {v:Value},Rp P G h t x v→Rp P G h' t x v
 | _,_,_, .bool x => .bool x
 | _,_,_, .int x => .int x
 | _,_,_, .u8 x => .u8 x
 | _,_,_, .u16 x => .u16 x
 | _,_,_, .str x => .str x
 | _,_,_, .sl e xs a c vs hc hs hr => .sl e xs a c vs hc (hs.le hl) (hr.le hl)
 | _,_,_, .so te e xs v hr => .so te e xs v (hr.le hl)
 | _,_,_, .pt n x b k vs hs hr => .pt n x b k vs (hs.le hl) (hr.le hl)
 | _,_,_, .po n x v hr => .po n x v (hr.le hl)
 | _,_,_, .pn0 n => .pn0 n
 | _,_,_, .pn1 n x v hr => .pn1 n x v (hr.le hl)
 | _,_,_, .fn m f hf => .fn m f hf
 | _,_,_, .nil => .nil
 | _,_,_, .fc f => .fc f
 | _,_,_, .mv f u => .mv f u
 | _,_,_, .cl f t x u hr => .cl f t x u (hr.le hl)
theorem RpL.le (hl:h.le h'):∀{ts:List Ty} {p:DP τ ts} {vs:List Value},RpL P G h ts p vs→RpL P G h' ts p vs
 | _,_,_, .nil => .nil
 | _,_,_, .cons t ts p v vs h1 h2 => .cons t ts p v vs (h1.le hl) (h2.le hl)
theorem RpR.le (hl:h.le h'):∀{e:Ty} {xs:List (e.den τ)} {vs:List Value},RpR P G h e xs vs→RpR P G h' e xs vs
 | _,_,_, .nil e => .nil e
 | _,_,_, .cons e x xs vs ws h1 h2 => .cons e x xs vs ws (h1.le hl) (h2.le hl)
end
end
end Go.Rk
end
section
namespace Go.Rk
open Go.RowKit Go.Dm Go.Dk
variable {τ:Nat→Type}

def frz:Ty→Bool
 | .so _ _=>false
 | .sn _ _=>false
 | .po _=>false
 | .pn _=>false
 | _=>true
def zgV (G:Sig τ) (w:World) (te sz:Nat) (v:Value) (n:Nat) (xs:List Value):Prop :=
 xs.length=n*sz∧((v = .slice none 0 0∧n=0)∨∃g d cap cur,v = .slice (some ⟨g,d*sz,none⟩) n cap∧(G.dr te=false→d=0∧cur.size=cap*sz)∧w.heap[g]? = some (.cells cur te (0,0))∧n≤cap∧cap≤maxLen∧(d+cap)*sz≤cur.size∧(cur.toList.drop (d*sz)).take (n*sz)=xs)
def MvOk (ts:List Ty) (vs:List Value):Prop:=∀(i:Nat) (f:Nat),ts[i]? = some (.mv f)→∃u,vs[0]? = some u∧vs[i]? = some (.func (.func f) #[u] #[])
section
variable (P:Program) (G:Sig τ) (h:Fz) (w:World)
mutual
inductive Tr:(t:Ty)→t.den τ→Value→List Nat→Prop
 | fz (t:Ty) (x:t.den τ) (v:Value) (hz:frz t=true) (hr:Rp P G h t x v):Tr t x v []
 | so (te:TypeId) (e:Ty) (xs:List (e.den τ)) (v:Value) (vs:List Value) (ho:zgV G w te (ets G e).length v xs.length vs) (hr:RpR P G h e xs vs):Tr (.so te e) xs v v.ownBlock.toList
 | po (n:Nat) (x:τ n) (b:Nat) (vs:List Value) (fp:List Nat) (hb:w.heap[b]? = some (.cells vs.toArray (G.ti n) (0,0))) (hl:TrL (G.fs n) (G.dtor n x) vs fp) (hn:b∉fp) (hm:MvOk (G.fs n) vs):Tr (.po n) x (ptr b 0) (b::fp)
 | pn0 (n:Nat):Tr (.pn n) none (.pointer none) []
 | pn1 (n:Nat) (x:τ n) (v:Value) (fp:List Nat) (hp:Tr (.po n) x v fp):Tr (.pn n) (some x) v fp
inductive TrL:(ts:List Ty)→DP τ ts→List Value→List Nat→Prop
 | nil:TrL [] () [] []
 | cons (t:Ty) (ts:List Ty) (p:DP τ (t::ts)) (v:Value) (vs:List Value) (f f':List Nat) (h1:Tr t p.hd v f) (h2:TrL ts p.tl vs f') (hd:∀b∈f,b∉f'):TrL (t::ts) p (v::vs) (f++f')
end
end
section
variable {P:Program} {G:Sig τ} {h h':Fz} {w w':World}
theorem zgV.of_row {te sz n:Nat} {v:Value} {vs:List Value} (h:w.ownsRow 0 te sz v n vs):zgV G w te sz v n vs:=by
 obtain ⟨h1,⟨rfl,h2⟩|⟨g,cap,cur,rfl,_,h2,h3,h4,h5,h6⟩⟩:=h
 ·exact ⟨h1, .inl ⟨rfl,h2⟩⟩
 ·exact ⟨h1, .inr ⟨g,0,cap,cur,by rw [Nat.zero_mul],fun _=>⟨rfl,h5⟩,h2,h3,h4,by rw [Nat.zero_add,h5]; exact Nat.le_refl _,by rw [Nat.zero_mul,List.drop_zero]; exact h6⟩⟩
theorem zgV.row {te sz n:Nat} {v:Value} {vs:List Value} (h:zgV G w te sz v n vs) (hd:G.dr te=false):w.ownsRow 0 te sz v n vs:=by
 obtain ⟨h1,⟨rfl,h2⟩|⟨g,d,cap,cur,rfl,h0,h2,h3,h4,h5,h6⟩⟩:=h
 ·exact ⟨h1, .inl ⟨rfl,h2⟩⟩
 ·obtain ⟨rfl,h7⟩:=h0 hd;rw [Nat.zero_mul,List.drop_zero] at h6;exact ⟨h1, .inr ⟨g,cap,cur,by rw [Nat.zero_mul],Nat.zero_le _,h2,h3,h4,h7,h6⟩⟩
theorem zgV.lt {te n sz:Nat} {v:Value} {vs:List Value} (h:zgV G w te sz v n vs) {b:Nat} (hb:v.ownBlock=some b):b<w.heap.size:=by
 obtain ⟨_,⟨rfl,_⟩|⟨g,d,cap,cur,rfl,_,h2,_⟩⟩:=h
 ·cases hb
 ·obtain rfl:g=b:=by simpa [Value.ownBlock] using hb
  exact (Array.getElem?_eq_some_iff.1 h2).1
theorem zgV.of {te n sz:Nat} {v:Value} {vs:List Value} (h:zgV G w te sz v n vs) (hb:∀b,v.ownBlock=some b→w'.heap[b]? = w.heap[b]?):zgV G w' te sz v n vs:=by
 obtain ⟨h1,⟨rfl,h2⟩|⟨g,d,cap,cur,rfl,h0,h2,h3⟩⟩:=h
 ·exact ⟨h1, .inl ⟨rfl,h2⟩⟩
 ·exact ⟨h1, .inr ⟨g,d,cap,cur,rfl,h0,(hb g (by simp [Value.ownBlock])).trans h2,h3⟩⟩
theorem zgV.nil (te sz:Nat):zgV G w te sz (.slice none 0 0) 0 []:=⟨by simp, .inl ⟨rfl,rfl⟩⟩
theorem zgV.sees {te n sz c:Nat} {a:Option Addr} {xs:List Value} (h:zgV G w te sz (.slice a n c) n xs):zsr w a xs:=by
 obtain ⟨h1,h|⟨g,d,cap,cur,hv,_,hg,_,_,hcs,ht⟩⟩:=h
 ·obtain ⟨e1,e2⟩:=h;simp at e1;obtain ⟨rfl,_,_⟩:=e1;subst e2;simpa [zsr] using h1
 ·simp at hv;obtain ⟨rfl,rfl⟩:=hv;refine ⟨rfl,(Array.getElem?_eq_some_iff.1 hg).1,fun i v hv=>?_⟩;simp only [World.cell?,hg];rw [← ht,List.getElem?_take] at hv
  split at hv
  ·rw [List.getElem?_drop] at hv; simpa using hv
  ·cases hv
theorem zgV.len {te n m sz c:Nat} {a:Option Addr} {xs:List Value} (h:zgV G w te sz (.slice a n c) m xs):n=m∧n≤c:=by
 obtain ⟨_,⟨e,hz⟩|⟨g,d,cap,cur,e,_,_,hc,_⟩⟩:=h
 ·cases e; exact ⟨hz.symm,Nat.le_refl _⟩
 ·cases e; exact ⟨rfl,hc⟩
theorem zMU {e n sz:Nat} {v:Value} {vs:List Value} (h:zgV G w e sz v n vs) {b:Nat} (hb:b∈v.ownBlock.toList):b<w.heap.size:=h.lt (by simpa using hb)
mutual
theorem Tr.of (hl:h.le h'):∀{t:Ty} {x:t.den τ} {v:Value} {fp:List Nat},Tr P G h w t x v fp→(∀b∈fp,w'.heap[b]? = w.heap[b]?)→Tr P G h' w' t x v fp
 | _,_,_,_, .fz t x v hz hr,_ => .fz t x v hz (hr.le hl)
 | _,_,_,_, .so te e xs v vs ho hr,hb => .so te e xs v vs (ho.of fun b e=>hb b (by simp [e])) (hr.le hl)
 | _,_,_,_, .po n x b vs fp h1 h2 hn hm,hb => .po n x b vs fp ((hb b (List.mem_cons_self ..)).trans h1) (h2.of hl fun c hc=>hb c (List.mem_cons_of_mem _ hc)) hn hm
 | _,_,_,_, .pn0 n,_ => .pn0 n
 | _,_,_,_, .pn1 n x v fp hp,hb => .pn1 n x v fp (hp.of hl hb)
theorem TrL.of (hl:h.le h'):∀{ts:List Ty} {p:DP τ ts} {vs:List Value} {fp:List Nat},TrL P G h w ts p vs fp→(∀b∈fp,w'.heap[b]? = w.heap[b]?)→TrL P G h' w' ts p vs fp
 | _,_,_,_, .nil,_ => .nil
 | _,_,_,_, .cons t ts p v vs f f' h1 h2 hd,hb => .cons t ts p v vs f f' (h1.of hl fun b hf=>hb b (List.mem_append_left _ hf)) (h2.of hl fun b hf=>hb b (List.mem_append_right _ hf)) hd
end
mutual
theorem Tr.lt:∀{t:Ty} {x:t.den τ} {v:Value} {fp:List Nat},Tr P G h w t x v fp→∀b∈fp,b<w.heap.size
 | _,_,_,_, .fz t x v hz hr,b,hb=>by cases hb
 | _,_,_,_, .so te e xs v vs ho hr,b,hb=>zMU ho hb
 | _,_,_,_, .po n x c vs fp h1 h2 hn _,b,hb=>by
  rcases List.mem_cons.1 hb with rfl|hb
  ·exact (Array.getElem?_eq_some_iff.1 h1).1
  ·exact h2.lt b hb
 | _,_,_,_, .pn0 n,b,hb=>by cases hb
 | _,_,_,_, .pn1 n x v fp hp,b,hb=>hp.lt b hb
theorem TrL.lt:∀{ts:List Ty} {p:DP τ ts} {vs:List Value} {fp:List Nat},TrL P G h w ts p vs fp→∀b∈fp,b<w.heap.size
 | _,_,_,_, .nil,b,hb=>by cases hb
 | _,_,_,_, .cons t ts p v vs f f' h1 h2 hd,b,hb=>by
  rcases List.mem_append.1 hb with hb|hb
  ·exact h1.lt b hb
  ·exact h2.lt b hb
end
end

abbrev Vn (τ:Nat→Type):=Nat→Option (Value × Option ((e:Ty) × List (e.den τ)))
def Vn.le (ν ν':Vn τ):Prop:=∀i x, ν i=some x→ν' i=some x
def zuw (v:Value) (o:Nat):Value:=match v with
 | .pointer (some a) => .pointer (some ⟨a.block,a.off+o,a.spot⟩)
 | v=>v
section
variable (P:Program) (G:Sig τ) (h:Fz) (ν:Vn τ)
def zcT:CV τ→Value→Prop
 | .b x,v=>v = .bool x
 | .k x,v=>v = .bool x
 | .i x,v=>v = .int .i64 x
 | .u8 x,v=>v = .int .u8 x.toNat
 | .u16 x,v=>v = .int .u16 x.toNat
 | .s x,v=>v=str x
 | .sl e xs,v=>Rp P G h (.sl e) xs v
 | .n0,v=>v = .slice none 0 0
 | .nl,v=>v = .pointer none
 | .os i,v=>∃a n c q, ν i=some (.slice a n c,q)∧v = .slice a n c
 | .pt i o,v=>∃u q, ν i=some (.pointer u,q)∧v=zuw (.pointer u) o∧(o≠0→∃b,u=some ⟨b,0,none⟩)
 | .ea t z o,v=>∃b k vs,v=ptr b (k+o)∧zpp h (some ⟨b,k,none⟩) vs∧RpL P G h (ets G t) (edt G t z) vs
 | .ep n x,v=>Rp P G h (.pn n) x v
 | .oe i k m t z o,v=>∃b d n c q xs u, ν i=some (.slice (some ⟨b,d,none⟩) n c,q)∧ν k=some (u,some ⟨t,xs⟩)∧lAt xs m=some z∧v=ptr b (d+m.toNat*(ets G t).length+o)
 | .fn f,v=>v = .func (.func f) #[] #[]
 | .fm m,v=>Rp P G h .fn m v
 | .cl f t x,v=>Rp P G h (.cl f t) x v
 | .cf i,v=>∃f us vs q, ν i=some (.func (.func f) ⟨us⟩ ⟨vs⟩,q)∧v = .func (.func f) ⟨us⟩ ⟨vs⟩
 | .nf,v=>v = .nilFunc
 | .mf f,v=>Rp P G h (.mv f) () v
 | .mv f i,v=>∃u q, ν i=some (.pointer u,q)∧v = .func (.func f) #[.pointer u] #[]
 | .mp i,v=>∃b q, ν i=some (.map (some b),q)∧v = .map (some b)
 | .m0,v=>v = .map none
 | .bad,_=>False
def CVs:List (CV τ)→List Value→Prop
 | [],vs=>vs=[]
 | c::cs,vs=>∃v us,vs=v::us∧zcT P G h ν c v∧CVs cs us
def TVs:List (Bool × List (CV τ))→List Value→Prop
 | [],vs=>vs=[]
 | (false,[c])::cs,vs=>∃v us,vs=v::us∧zcT P G h ν c v∧TVs cs us
 | (true,l)::cs,vs=>∃ws us,vs = .agg ⟨ws⟩::us∧CVs P G h ν l ws∧TVs cs us
 | _,_=>False
def XOk:XV τ→Value→Prop
 | .c c,v=>zcT P G h ν c v
 | .g l,v=>∃vs,v = .agg ⟨vs⟩∧CVs P G h ν l vs
 | .t l,v=>∃vs,v = .tuple ⟨vs⟩∧TVs P G h ν l vs
 | .un,v=>v=undef
 | .gv _ _,_=>True
def zmt (w:World):AR τ→Option (Value × Option ((e:Ty) × List (e.den τ)))→List Nat→Prop
 | .gone,_,fp=>fp=[]
 | .blk t cs,x,fp=>∃b q vs,x=some (ptr b 0,q)∧fp=[b]∧w.heap[b]? = some (.cells vs.toArray t (0,0))∧CVs P G h ν cs vs
 | .row te e xs k,x,fp=>∃v q vs u,x=some (v,q)∧fp=v.ownBlock.toList∧zgV G w te (ets G e).length v xs.length vs∧RpR P G h e xs vs∧ν k=some (u,some ⟨e,xs⟩)
 | .fz e xs,x,fp=>∃v q,x=some (v,q)∧fp=[]∧Rp P G h (.sl e) xs v
 | .tree n t,x,fp=>∃v q,x=some (v,q)∧Tr P G h w (.pn n) t v fp
 | .nilp,x,fp=>∃q,x=some (.pointer none,q)∧fp=[]
 | .clo f bs cs,x,fp=>∃us vs q,x=some (.func (.func f) ⟨us⟩ ⟨vs⟩,q)∧fp=[]∧CVs P G h ν bs us∧CVs P G h ν cs vs
 | .mp l,x,fp=>∃b q,x=some (.map (some b),q)∧fp=[b]∧w.heap[b]? = some (zr7 l)
 | .sb i n,x,fp=>∃b q q', ν i=some (ptr b 0,q')∧x=some (.slice (some ⟨b,0,none⟩) n n,q)∧fp=[]
 | .vw i k e lo xs,x,fp=>∃a n c q q' u ys a' c', ν i=some (.slice a n c,q)∧ν k=some (u,some ⟨e,ys⟩)∧lo+xs.length≤ys.length∧xs=(ys.take (lo+xs.length)).drop lo∧x=some (.slice a' xs.length c',q')∧xs.length≤c'∧((xs≠[]→a'=a.map (·.add (lo*(ets G e).length)))∧(lo≤c∧c'+lo=c∧a'=if c=lo then a else a.map (·.add (lo*(ets G e).length))))∧fp=[]
end
section
variable {P:Program} {G:Sig τ} {h h':Fz} {ν ν':Vn τ} {w w':World}
theorem zcT.le (hh:h.le h') (hν:ν.le ν'):∀{c:CV τ} {v:Value},zcT P G h ν c v→zcT P G h' ν' c v
 | .b _,_,e=>e
 | .k _,_,e=>e
 | .i _,_,e=>e
 | .u8 _,_,e=>e
 | .u16 _,_,e=>e
 | .s _,_,e=>e
 | .sl _ _,_,e=>Rp.le hh e
 | .n0,_,e=>e
 | .nl,_,e=>e
 | .os _,_,⟨a,n,c,q,e,r⟩=>⟨a,n,c,q,hν _ _ e,r⟩
 | .pt _ _,_,⟨u,q,e,r⟩=>⟨u,q,hν _ _ e,r⟩
 | .ea _ _ _,_,⟨b,k,vs,e,hs,hr⟩=>⟨b,k,vs,e,hs.le hh,hr.le hh⟩
 | .ep _ _,_,e=>Rp.le hh e
 | .oe _ _ _ _ _ _,_,⟨b,d,n,c,q,xs,u,h1,h2,r⟩=>⟨b,d,n,c,q,xs,u,hν _ _ h1,hν _ _ h2,r⟩
 | .fn _,_,e=>e
 | .fm _,_,e=>Rp.le hh e
 | .cl _ _ _,_,e=>Rp.le hh e
 | .cf _,_,⟨f,us,vs,q,e,r⟩=>⟨f,us,vs,q,hν _ _ e,r⟩
 | .nf,_,e=>e
 | .mf _,_,e=>Rp.le hh e
 | .mv _ _,_,⟨u,q,e,r⟩=>⟨u,q,hν _ _ e,r⟩
 | .mp _,_,⟨b,q,e,r⟩=>⟨b,q,hν _ _ e,r⟩
 | .m0,_,e=>e
 | .bad,_,e=>e.elim
theorem CVs.le (hh:h.le h') (hν:ν.le ν'):∀{cs:List (CV τ)} {vs:List Value},CVs P G h ν cs vs→CVs P G h' ν' cs vs
 | [],_,e=>e
 | _::_,_,⟨v,us,e,h1,h2⟩=>⟨v,us,e,h1.le hh hν,h2.le hh hν⟩
theorem TVs.le (hh:h.le h') (hν:ν.le ν'):∀{cs:List (Bool × List (CV τ))} {vs:List Value},TVs P G h ν cs vs→TVs P G h' ν' cs vs
 | [],_,e=>e
 | (false,[_])::_,_,⟨v,us,e,h1,h2⟩=>⟨v,us,e,h1.le hh hν,TVs.le hh hν h2⟩
 | (true,_)::_,_,⟨v,us,e,h1,h2⟩=>⟨v,us,e,h1.le hh hν,TVs.le hh hν h2⟩
 | (false,[])::_,_,e=>e.elim
 | (false,_::_::_)::_,_,e=>e.elim
theorem XOk.le (hh:h.le h') (hν:ν.le ν'):∀{x:XV τ} {v:Value},XOk P G h ν x v→XOk P G h' ν' x v
 | .c _,_,e=>zcT.le hh hν e
 | .g _,_,⟨vs,e,r⟩=>⟨vs,e,r.le hh hν⟩
 | .t _,_,⟨vs,e,r⟩=>⟨vs,e,r.le hh hν⟩
 | .un,_,e=>e
 | .gv _ _,_,_=>trivial
theorem zmt.of (hh:h.le h') (hν:ν.le ν'):∀{r:AR τ} {i:Nat} {fp:List Nat},zmt P G h ν w r (ν i) fp→(∀b∈fp,w'.heap[b]? = w.heap[b]?)→zmt P G h' ν' w' r (ν' i) fp
 | .gone,_,_,e,_=>e
 | .blk _ _,_,_,⟨b,q,vs,e,rfl,h1,h2⟩,hb=>⟨b,q,vs,hν _ _ e,rfl,(hb b (List.mem_singleton.2 rfl)).trans h1,h2.le hh hν⟩
 | .row _ _ _ _,_,_,⟨v,q,vs,u,e,rfl,h1,h2,h3⟩,hb=>⟨v,q,vs,u,hν _ _ e,rfl,h1.of fun b e=>hb b (by simp [e]),h2.le hh,hν _ _ h3⟩
 | .fz _ _,_,_,⟨v,q,e,rfl,h1⟩,_=>⟨v,q,hν _ _ e,rfl,h1.le hh⟩
 | .tree _ _,_,_,⟨v,q,e,h1⟩,hb=>⟨v,q,hν _ _ e,h1.of hh hb⟩
 | .nilp,_,_,⟨q,e,rfl⟩,_=>⟨q,hν _ _ e,rfl⟩
 | .clo _ _ _,_,_,⟨us,vs,q,e,rfl,h1,h2⟩,_=>⟨us,vs,q,hν _ _ e,rfl,h1.le hh hν,h2.le hh hν⟩
 | .mp _,_,_,⟨b,q,e,rfl,h1⟩,hb=>⟨b,q,hν _ _ e,rfl,(hb b (List.mem_singleton.2 rfl)).trans h1⟩
 | .sb _ _,_,_,⟨b,q,q',h1,h2,rfl⟩,_=>⟨b,q,q',hν _ _ h1,hν _ _ h2,rfl⟩
 | .vw _ _ _ _ _,_,_,⟨a,n,c,q,q',u,ys,a',c',h1,h2,h3,h4,h5,h6,h7,rfl⟩,_=>⟨a,n,c,q,q',u,ys,a',c',hν _ _ h1,hν _ _ h2,h3,h4,hν _ _ h5,h6,h7,rfl⟩
theorem zmt.lt:∀{r:AR τ} {x:Option (Value × Option ((e:Ty) × List (e.den τ)))} {fp:List Nat},zmt P G h ν w r x fp→∀b∈fp,b<w.heap.size
 | .gone,_,_,e,b,hb=>by subst e; cases hb
 | .blk _ _,_,_,⟨b,q,vs,e,rfl,h1,h2⟩,c,hc=>by cases List.mem_singleton.1 hc; exact (Array.getElem?_eq_some_iff.1 h1).1
 | .row _ _ _ _,_,_,⟨v,q,vs,u,e,rfl,h1,h2,h3⟩,c,hc=>zMU h1 hc
 | .fz _ _,_,_,⟨v,q,e,rfl,h1⟩,c,hc=>by cases hc
 | .tree _ _,_,_,⟨v,q,e,h1⟩,c,hc=>h1.lt c hc
 | .nilp,_,_,⟨q,e,rfl⟩,c,hc=>by cases hc
 | .mp _,_,_,⟨b,q,e,rfl,h1⟩,c,hc=>by cases List.mem_singleton.1 hc; exact (Array.getElem?_eq_some_iff.1 h1).1
end

abbrev Hp (τ:Nat→Type):=List (Nat × AR τ)
noncomputable def lk (L:Hp τ) (t:Nat):AR τ:=List.rec (motive:=fun _=>AR τ) .gone (fun p _ ih=>Prod.rec (motive:=fun _=>AR τ) (fun k v=>Bool.rec (motive:=fun _=>AR τ) ih v (Nat.beq k t)) p) L
theorem zux (t:Nat):lk ([]:Hp τ) t = .gone:=rfl
theorem zm1 (k:Nat) (v:AR τ) (L:Hp τ) (t:Nat):lk ((k,v)::L) t=bif Nat.beq k t then v else lk L t:=by
 show Bool.rec (motive:=fun _=>AR τ) (lk L t) v (Nat.beq k t)=_;cases Nat.beq k t<;>rfl
def kys (U:Hp τ):List Nat:=U.map (·.1)
theorem zg9:∀{U:Hp τ} (L:Hp τ) {i:Nat},i∈kys U→lk (U++L) i=lk U i
 | [],_,i,hi=>by cases hi
 | (k,v)::U,L,i,hi=>by
  simp only [List.cons_append,zux,zm1]
  by_cases e:Nat.beq k i=true
  ·simp [e]
  ·have hne:¬ k=i:=fun e'=>e (by simp [e']);simp only [Bool.not_eq_true] at e;rw [e]
   exact zg9 L (by
    rcases List.mem_cons.1 hi with h|h
    ·exact absurd h.symm hne
    ·exact h)
theorem zcU:∀{U:Hp τ} (L:Hp τ) {i:Nat},i∉kys U→lk (U++L) i=lk L i
 | [],_,i,_=>rfl
 | (k,v)::U,L,i,hi=>by
  have h1:¬ k=i:=fun e=>hi (by simp [kys,e]);have h2:i∉kys U:=fun e=>hi (List.mem_cons_of_mem _ e);have e:Nat.beq k i=false:=zbL.2 h1;simp only [List.cons_append,zux,zm1,e,cond_false];exact zcU L h2
def zsb (P:Program) (G:Sig τ) (h:Fz):Prop:=(∀p∈G.gl, ∃vs,zpp h (some ⟨p.1,0,none⟩) vs∧RpL P G h (ets G p.2.1) (edt G p.2.1 p.2.2) vs)∧G.ax h
theorem zsb.le {P:Program} {G:Sig τ} {h h':Fz} (hh:h.le h') (g:zsb P G h):zsb P G h':=⟨fun p hp=>let ⟨vs,a,b⟩:=g.1 p hp; ⟨vs,a.le hh,b.le hh⟩,G.axm hh g.2⟩
def zDA (P:Program) (G:Sig τ):Prop:=∀p∈G.fp,zIq P p.2 p.1
structure Mem (P:Program) (G:Sig τ) (w0:World) (h0:Fz) (F:List Nat) (L:Hp τ) (w:World) (ν:Vn τ) (h:Fz) (φ:Nat→List Nat):Prop where
 os:w.os=w0.os
 tape:w.tape=w0.tape
 output:w.output=w0.output
 size:w0.heap.size≤w.heap.size
 frame:∀b,b<w0.heap.size→b∉F→w.heap[b]? = w0.heap[b]?
 le:h0.le h
 on:h.on w
 new:∀b,h b≠none→h0 b≠none∨b∈F∨w0.heap.size≤b
 res:∀i,zmt P G h ν w (lk L i) (ν i) (φ i)
 dis:∀i j b,b∈φ i→b∈φ j→i=j
 out:∀i b,b∈φ i→h b=none∧(b∈F∨w0.heap.size≤b)
 gl:zsb P G h
 fp:zDA P G
def fps (φ:Nat→List Nat) (I:List Nat):List Nat:=I.flatMap φ
theorem mem_fps {φ:Nat→List Nat} {I:List Nat} {b:Nat}:b∈fps φ I↔∃i∈I,b∈φ i:=by simp [fps]
section
variable {P:Program} {G:Sig τ} {w0 w w':World} {h0 h h':Fz} {F:List Nat} {L L':Hp τ} {ν ν':Vn τ} {φ φ':Nat→List Nat}
theorem Mem.lt (M:Mem P G w0 h0 F L w ν h φ) {i b:Nat} (hb:b∈φ i):b<w.heap.size:=(M.res i).lt b hb
theorem Mem.in_lt (M:Mem P G w0 h0 F L w ν h φ) {b:Nat} (hb:h b≠none):b<w.heap.size:=by
 cases e:h b with
 | none=>exact absurd e hb
 | some o=>exact (Array.getElem?_eq_some_iff.1 (M.on b o e)).1
theorem Mem.upd (M:Mem P G w0 h0 F L w ν h φ) (I:List Nat) (hL:∀i,i∉I→lk L' i=lk L i) (hφ:∀i,i∉I→φ' i=φ i) (hν:ν.le ν') (hh:h.le h')
  (hos:w'.os=w.os) (htape:w'.tape=w.tape) (hout:w'.output=w.output) (hsz:w.heap.size≤w'.heap.size) (hblk:∀b,b<w.heap.size→b∉fps φ I→w'.heap[b]? = w.heap[b]?)
  (hon:∀b o,h b=none→h' b=some o→w'.heap[b]? = some o) (hnew:∀b,h b=none→h' b≠none→b∈fps φ I∨w.heap.size≤b)
  (hres:∀i∈I,zmt P G h' ν' w' (lk L' i) (ν' i) (φ' i)) (hfp:∀i∈I, ∀b∈φ' i,h' b=none∧(b∈fps φ I∨w.heap.size≤b))
  (hdis:∀i∈I, ∀j∈I, ∀b,b∈φ' i→b∈φ' j→i=j):Mem P G w0 h0 F L' w' ν' h' φ':=by
 have hF:∀b,b∈fps φ I∨w.heap.size≤b→b∈F∨w0.heap.size≤b:=by
  intro b hb
  rcases hb with hb|hb
  ·obtain ⟨j,_,hj⟩:=mem_fps.1 hb;exact (M.out j b hj).2
  ·exact .inr (Nat.le_trans M.size hb)
 have hne:∀i,i∉I→∀b∈φ i,b∉fps φ I:=by
  intro i hi b hb hc;obtain ⟨j,hj,hbj⟩:=mem_fps.1 hc;exact hi (M.dis i j b hb hbj▸hj)
 have hcase:∀i,i∉I→∀j∈I, ∀b,b∈φ' i→b∈φ' j→False:=by
  intro i hi j hj b h1 h2;rw [hφ i hi] at h1
  rcases (hfp j hj b h2).2 with h3|h3
  ·exact hne i hi b h1 h3
  ·have:=M.lt h1;omega
 refine ⟨hos.trans M.os,htape.trans M.tape,hout.trans M.output,Nat.le_trans M.size hsz,?_,fun b o e=>hh _ _ (M.le _ _ e),?_,?_,?_,?_,?_,M.gl.le hh,M.fp⟩
 ·intro b h1 h2;refine (hblk b (Nat.lt_of_lt_of_le h1 M.size) fun hc=>?_).trans (M.frame b h1 h2)
  rcases hF b (.inl hc) with h3|h3
  ·exact h2 h3
  ·omega
 ·intro b o e
  cases e1:h b with
  | none=>exact hon b o e1 e
  | some o' =>
   have:=hh _ _ e1;rw [e] at this;cases this;refine (hblk b (M.in_lt (by rw [e1]; simp)) fun hc=>?_).trans (M.on _ _ e1);obtain ⟨j,_,hj⟩:=mem_fps.1 hc;have:=(M.out j b hj).1;rw [e1] at this;cases this
 ·intro b hb
  cases e1:h b with
  | some o'=>exact M.new b (by rw [e1]; simp)
  | none=>exact .inr (hF b (hnew b e1 hb))
 ·intro i
  by_cases hi:i∈I
  ·exact hres i hi
  ·rw [hL i hi,hφ i hi];exact (M.res i).of hh hν fun b hb=>hblk b (M.lt hb) (hne i hi b hb)
 ·intro i j b h1 h2
  by_cases hi:i∈I
  ·by_cases hj:j∈I
   ·exact hdis i hi j hj b h1 h2
   ·exact (hcase j hj i hi b h2 h1).elim
  ·by_cases hj:j∈I
   ·exact (hcase i hi j hj b h1 h2).elim
   ·rw [hφ i hi] at h1;rw [hφ j hj] at h2;exact M.dis i j b h1 h2
 ·intro i b hb
  by_cases hi:i∈I
  ·exact ⟨(hfp i hi b hb).1,hF b (hfp i hi b hb).2⟩
  ·rw [hφ i hi] at hb;refine ⟨?_,(M.out i b hb).2⟩
   cases e:h' b with
   | none=>rfl
   | some o =>
    exfalso
    rcases hnew b (M.out i b hb).1 (by rw [e]; simp) with h3|h3
    ·exact hne i hi b hb h3
    ·have:=M.lt hb;omega
end
end Go.Rk
end
