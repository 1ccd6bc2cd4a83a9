/- A range over an iterator that keeps state in one box of its own (strings.SplitSeq): its contract, and the caller's law.  -/
import Derived.RangeFuncNested
import Derived.RangeFuncBound
import Derived.RangeFuncCalls
import Derived.RangeFuncLeaves
import Derived.RangeFuncFrom
import Derived.Shelf.Abstract
import Derived.Shelf.RegionOpen
import Derived.WalkKit
import Derived.OwnWalkIn
import Derived.TacticsInMore
import Derived.LoopNIn
import Derived.LoopIn
set_option linter.unusedVariables false
set_option linter.unusedSimpArgs false
namespace Go.Dk
open Go.RowKit
variable {n₁ n₂ n₃:Nat}
def AbM (m B:Nat) {β:Type} (J:β→World→Prop):Prop :=
 ∀s W a row,J s W→W.grownBy a row→(∀r,row=some r→r=m∨(B≤r∧∃o:Obj,W.heap[r]? = some o∧o.isCells=false))→J s a
theorem AbM.putObj {m B:Nat} {β:Type} {I:β→World→Prop} (h:AbM m B I) {s:β} {W:World} {l:Nat} {o:Obj} (o':Obj) (a:I s W) (b:B≤l) (d:W.heap[l]? = some o) (c:o.isCells=false):I s (W.putObj l o') :=
 h s W _ (some l) a (grownBy_putObj' W l o') (fun r e=>by cases e; exact .inr ⟨b,o,d,c⟩)
theorem AbM.alloc {m B:Nat} {β:Type} {I:β→World→Prop} (h:AbM m B I) {s:β} {W:World} (o:Obj) (a:I s W):I s (W.alloc o) :=
 h s W _ none a (World.grownBy_alloc W o none) (fun r e=>by cases e)
def SeqM {α:Type} (F:Fence) (n:Nat) (P:Program) (g:Nat) (lb:Array Value) (b:α→Array Value) (m:Nat) (f:World→World→Prop) (S h:List α→Prop) (N:Nat) (w:World):Prop :=
 ∀ (l:Nat) (J d:List α→World→Prop) (W:World),Below w.heap.size w W→AbM m W.heap.size J→AbM m W.heap.size d →
  (∀pre x c,J pre c→pre.length<N→YieldAt F (n-1) P l (b x) c fun e a =>
   (e = .returned (.bool true)∧J (pre++[x]) a∧f c a)∨(e = .returned (.bool false)∧d (pre++[x]) a)) →
  J [] W →
  CallsIn F n P g (#[.func (.yield l) #[] #[]]++lb) W fun e a=>(∃v,e = .returned v)∧((∃xs,S xs∧J xs a)∨(∃pre,h pre∧d pre a))
def zhg (n₁ n₂ n₃:Nat) (A B:World):Prop:=Below n₁ A B∧∀b,n₂≤b→b<n₃→B.heap[b]? = A.heap[b]?
theorem zhg.trans {A B C:World} (h:zhg n₁ n₂ n₃ A B) (k:zhg n₁ n₂ n₃ B C):zhg n₁ n₂ n₃ A C :=
 ⟨h.1.trans k.1,fun b h1 h2=>(k.2 b h1 h2).trans (h.2 b h1 h2)⟩
theorem zhg.put {w:World} (h1:n₁≤w.heap.size) (d:n₃≤w.heap.size) (W:World) (l:Nat) (o o':Obj) (c:w.heap.size≤l) (h:W.heap[l]? = some o):zhg n₁ n₂ n₃ W (W.putObj l o') :=
 ⟨(Below.refl n₁ W).grown (grownBy_putObj' W l o') (by have:=(Array.getElem?_eq_some_iff.1 h).1; omega) (fun k e=>by cases e; omega),
  fun b _ a=>World.putObj_heap_other (by omega)⟩
theorem zhg.cell {n₁ n₂ n₃:Nat} {A B:World} (h:zhg n₁ n₂ n₃ A B) {b:Nat} (h2:n₂≤b) (a:b<n₃):B.cell? ⟨b,0,none⟩=A.cell? ⟨b,0,none⟩:=by
 unfold World.cell?; rw [h.2 b h2 a]
theorem zhg.frozen {A B:World} (h:zhg n₁ n₂ n₃ A B) {b:Nat} (h2:n₂≤b) (a:b<n₃):B.frozen? ⟨b,0,none⟩=A.frozen? ⟨b,0,none⟩:=by
 unfold World.frozen?; rw [h.2 b h2 a]
variable {F:Fence} {n:Nat} {P:Program}
theorem zjp {W W':World} {row:Option Nat} (c:W.grownBy W' row) {k:Nat} {o:Obj} (b:W.heap[k]? = some o) (a:row≠some k):W'.heap[k]? = W.heap[k]? :=
 c.block k (Array.getElem?_eq_some_iff.1 b).1 (fun e=>a e.symm)
theorem zxC {α:Type} {g:Operand} {ps:Array Tmp} {assign body:Code} {Q:Exit→Act→World→Prop} {a:Act} {w:World}
    (hro:F.round=none) (h1:1≤n) {gf:Nat} {lb:Array Value} (hg:a.eval g = .func (.func gf) #[] lb) (hFg:F.fn gf) (eg:∀args w,(callFunc gf args).run P w = .ok (.enter gf args) w)
    {encs:α→Array Value} {m:Nat} {Kp:World→World→Prop} {S Sp:List α→Prop} {N:Nat} {w0:World} (hseq:SeqM F (n-1) P gf lb encs m Kp S Sp N w0)
    (hm:m<w.heap.size) (hKt:∀{A B C:World},Kp A B→Kp B C→Kp A C) (hKb:∀(W:World) (l:Nat) (o o':Obj),w.heap.size≤l→W.heap[l]? = some o→Kp W (W.putObj l o')) (hb0:Below w0.heap.size w0 w) (hps:∀x,(encs x).size=ps.size)
    (I:List α→World→Prop) (Ix:Code→List α→World→Prop) (hI:AbM m w.heap.size I) (hIx:∀c,AbM m w.heap.size (Ix c)) (h0:I [] w) (a₁:α→Act)
    (hassign:∀(l:Nat) (x:α) (W:World) (K:Act→World→Prop),K (a₁ x) W →
      assign.wpIn (F.inRound l) (n-1-1) P (Exit.then K (fun _ _ _=>False)) { tmps:=(ps.zip (encs x)).foldl (fun t (p,v)=>t.setIfInBounds p v) a.tmps,defers:=[] } W)
    (hbody:∀(l:Nat) (pre:List α) (x:α) (W:World),I pre W→pre.length<N→body.wpIn (F.inRound l) (n-1-1) P (ownPostK Kp I Ix (pre++[x]) W) (a₁ x) W)
    (hdone:∀(D:Nat) (xs:List α) (W:World),w.heap.size≤D→S xs→I xs W→W.heap[D]? = some (.deferred (some []))→Q .normal { a with defers:={ target := .collected D,args := #[] }::a.defers } W)
    (hstop:∀(D:Nat) (c:Code) (pre:List α) (W:World),w.heap.size≤D→Sp pre→Ix c pre W→W.heap[D]? = some (.deferred (some []))→c.wpIn F n P Q { a with defers:={ target := .collected D,args := #[] }::a.defers } W) :
    (Code.rangeFunc g ps assign body).wpIn F n P Q a w:=by
  refine wpIn_rangeFunc ?_;intro fn hfn;rw [hro];obtain ⟨rec,hrec⟩:∃rec:LoopState→Option Code→Loop,rec=fun st pe=>{ state:=st,pending:=pe,fn,tmps:=a.tmps,params:=ps,assign,body,defers:=w.heap.size }:=⟨_,rfl⟩;obtain ⟨W1,hW1⟩:∃W1,(w.alloc (.deferred (some []))).alloc (.loop (rec .ready none))=W1:=⟨_,rfl⟩
  have hsz:W1.heap.size=w.heap.size+2:=by rw [← hW1]; simp
  have hL1:W1.heap[w.heap.size+1]? = some (.loop (rec .ready none)):=by
    rw [← hW1]; have:=World.alloc_heap_new (w.alloc (.deferred (some []))) (.loop (rec .ready none)); rwa [World.size_alloc] at this
  have hK1:W1.heap[w.heap.size]? = some (.deferred (some [])):=by
    rw [← hW1]; exact (Below.heap_alloc _ _ _ (by simp)).trans (World.alloc_heap_new w _)
  have hI1:I [] W1:=by rw [← hW1]; exact hI.alloc _ (hI.alloc _ h0)
  have hb1:Below w0.heap.size w0 W1:=by
    rw [← hW1]; exact hb0.trans ((((Below.refl _ w).alloc (Nat.le_refl _) _).alloc (by simp) _).mono hb0.size)
  refine ⟨w.heap.size+1,[{ target := .collected w.heap.size,args := #[] }],W1, { target := .fn (.func gf) lb,args := #[.func (.yield (w.heap.size+1)) #[] #[]] },W1,gf,
    #[.func (.yield (w.heap.size+1)) #[] #[]]++lb,W1,?_,?_,?_,?_,fun _=>h1,?_⟩
  · rw [← hW1,hrec]; exact run_enterLoop_outer _ _ _ _ _
  · simp only [resolve,hg]
    simp [go_sem]
  · intro f' hf'; simp [Target.leads] at hf'; subst hf'; exact hFg
  · simp [invoke,go_sem,eg]
  · have hrow:∀{A:World} {row:Option Nat},(∀r,row=some r→r=m∨(W1.heap.size≤r∧∃o:Obj,A.heap[r]? = some o∧o.isCells=false)) →
        (∀r,row=some r→r=m∨(w.heap.size≤r∧∃o:Obj,A.heap[r]? = some o∧o.isCells=false))∧row≠some w.heap.size∧row≠some (w.heap.size+1):=fun hr =>
      ⟨fun r e=>(hr r e).imp id fun h=>⟨by omega,h.2⟩,fun e=>by rcases hr _ e with h|h<;>omega,fun e=>by rcases hr _ e with h|h<;>omega⟩
    refine (hseq (w.heap.size+1)
      (fun pre W=>I pre W∧W.heap[w.heap.size+1]? = some (.loop (rec .ready none))∧W.heap[w.heap.size]? = some (.deferred (some [])))
      (fun pre W=>∃c,Ix c pre W∧W.heap[w.heap.size+1]? = some (.loop (rec .done (some c)))∧W.heap[w.heap.size]? = some (.deferred (some [])))
      W1 hb1
      (fun s A B row hs hg' hr=>⟨hI s A B row hs.1 hg' (hrow hr).1,(zjp hg' hs.2.1 (hrow hr).2.2).trans hs.2.1,(zjp hg' hs.2.2 (hrow hr).2.1).trans hs.2.2⟩)
      (fun s A B row hs hg' hr=>by
        obtain ⟨c,hc,hl,hk⟩:=hs
        exact ⟨c,hIx c s A B row hc hg' (hrow hr).1,(zjp hg' hl (hrow hr).2.2).trans hl,(zjp hg' hk (hrow hr).2.1).trans hk⟩)
      ?_ ⟨hI1,hL1,hK1⟩).mono ?_
    · rintro pre x W ⟨hi,hl,hk⟩ hlen
      have hlt:w.heap.size+1<W.heap.size:=(Array.getElem?_eq_some_iff.1 hl).1;have hy:=run_yield (P:=P) (args:=encs x) hl (by rw [hrec]; exact hps x);rw [hrec] at hy;refine ⟨fn,_,assign,body,hy,roundIn_of_wpIn hfn (hassign _ x W _ ⟨_,run_beginRound hl (by rw [hrec]),?_⟩)⟩;have hl2:(W.putObj (w.heap.size+1) (.loop { rec .ready none with state := .busy })).heap[w.heap.size+1]? = some (.loop { rec .ready none with state := .busy }):=World.putObj_heap_same hlt;have hk2:(W.putObj (w.heap.size+1) (.loop { rec .ready none with state := .busy })).heap[w.heap.size]? = some (.deferred (some [])):=(World.putObj_heap_other (by omega)).trans hk;have hw2:Kp W (W.putObj (w.heap.size+1) (.loop { rec .ready none with state := .busy })):=hKb _ _ _ _ (by omega) hl;refine wpIn_mono (hbody _ pre x _ (hI.putObj _ hi (by omega) hl rfl) hlen) ?_
      have fin:∀(jump:Option Code) (W3:World),KeepsOthers (W.putObj (w.heap.size+1) (.loop { rec .ready none with state := .busy })) W3 →
          (Instr.endRound (w.heap.size+1) jump).run P W3 = .ok (.bool jump.isNone) (W3.putObj (w.heap.size+1) (.loop (rec (if jump.isNone then .ready else .done) jump))) ∧
          W3.heap[w.heap.size+1]? = some (.loop { rec .ready none with state := .busy }) ∧
          (W3.putObj (w.heap.size+1) (.loop (rec (if jump.isNone then .ready else .done) jump))).heap[w.heap.size+1]? = some (.loop (rec (if jump.isNone then .ready else .done) jump)) ∧
          (W3.putObj (w.heap.size+1) (.loop (rec (if jump.isNone then .ready else .done) jump))).heap[w.heap.size]? = some (.deferred (some [])):=fun jump W3 hk3=>by
        have hl3:=hk3.same _ _ hl2 rfl;have:=run_endRound (P:=P) jump hl3;rw [hrec] at this ⊢;exact ⟨this,by rw [hrec] at hl3; exact hl3,World.putObj_heap_same (Array.getElem?_eq_some_iff.1 hl3).1,(World.putObj_heap_other (by omega)).trans (hk3.same _ _ hk2 rfl)⟩
      have out:∀(c:Code) (W3:World),KeepsOthers (W.putObj (w.heap.size+1) (.loop { rec .ready none with state := .busy })) W3→Ix c (pre++[x]) W3 →
          ∃c',Ix c' (pre++[x]) (W3.putObj (w.heap.size+1) (.loop (rec .done (some c))))∧(W3.putObj (w.heap.size+1) (.loop (rec .done (some c)))).heap[w.heap.size+1]? = some (.loop (rec .done (some c')))∧(W3.putObj (w.heap.size+1) (.loop (rec .done (some c)))).heap[w.heap.size]? = some (.deferred (some [])):=fun c W3 hk3 hi3=>by
        obtain ⟨_,hl3,hl4,hk4⟩:=fin (some c) W3 hk3;exact ⟨c,(hIx _).putObj _ hi3 (by omega) hl3 rfl,hl4,hk4⟩
      rintro e a3 W3 hp
      cases e with
      | normal =>
        obtain ⟨hk3,hkp3,hi3⟩:=hp;obtain ⟨hr,hl3,hl4,hk4⟩:=fin none W3 hk3;exact ⟨_,_,hr,.inl ⟨rfl,⟨hI.putObj _ hi3 (by omega) hl3 rfl,hl4,hk4⟩,hKt (hKt hw2 hkp3) (hKb _ _ _ _ (by omega) hl3)⟩⟩
      | ret =>
        obtain ⟨hk3,hi3⟩:=hp;exact ⟨_,_,(fin (some .ret) W3 hk3).1,.inr ⟨rfl,out _ _ hk3 hi3⟩⟩
      | exit id =>
        obtain ⟨hk3,hi3⟩:=hp;exact ⟨_,_,(fin (some (.exit id)) W3 hk3).1,.inr ⟨rfl,out _ _ hk3 hi3⟩⟩
      | goto t =>
        obtain ⟨hk3,hi3⟩:=hp;exact ⟨_,_,(fin (some (.goto t)) W3 hk3).1,.inr ⟨rfl,out _ _ hk3 hi3⟩⟩
      | panic ch=>exact hp.elim
      | outgrown=>exact hp.elim
    · rintro e W2 ⟨⟨v,rfl⟩,(⟨xs,hS,hi,hl,hk⟩|⟨pre,hSp,c,hi,hl,hk⟩)⟩
      · exact ⟨none,_,by have:=run_endLoop (P:=P) hl (by rw [hrec]; simp); rw [hrec] at this; exact this,hdone _ xs _ (Nat.le_refl _) hS (hI.putObj _ hi (by omega) hl rfl) ((World.putObj_heap_other (by omega)).trans hk)⟩
      · exact ⟨some c,_,by have:=run_endLoop (P:=P) hl (by rw [hrec]; simp); rw [hrec] at this; exact this,hstop _ c pre _ (Nat.le_refl _) hSp ((hIx c).putObj _ hi (by omega) hl rfl) ((World.putObj_heap_other (by omega)).trans hk)⟩
end Go.Dk
