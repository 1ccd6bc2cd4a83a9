/-
 Walks by evaluation: contracts that are shown otherwise. Over any program.
 From what a statement says of the arguments to data, for any types at once. Over any program.
-/
import Derived.Test.YtkmnihnifdcigaaGreatDoorYTk
import Derived.Test.YtkmnihnifdcigaaGreatDoorHex
set_option linter.unusedVariables false
set_option linter.unusedSimpArgs false
section
namespace Go.Rk
open Go.RowKit Go.Dm Go.Dk
variable {τ:Nat→Type}
def encV:(t:Ty)→t.den τ→Value
 | .bool,x => .bool x
 | .int,x => .int .i64 x
 | .u8,(x:UInt8) => .int .u8 x.toNat
 | .u16,(x:UInt16) => .int .u16 x.toNat
 | .str,x=>str x
 | _,_=>undef
def zp2:(ts:List Ty)→DP τ ts→List Value
 | [],_=>[]
 | t::ts,p=>encV t p.hd::zp2 ts p.tl
def zrW (G:Sig τ) (e:Ty) (xs:List (e.den τ)):List Value:=xs.flatMap fun x=>zp2 (ets G e) (edt G e x)
section
variable {P:Program} {G:Sig τ} {h h':Fz} {w w':World}
theorem zLo {t:Ty} {x:t.den τ} {v:Value} (hs:zhn t=true) (hr:Rp P G h t x v):v=encV t x:=by
 cases hr<;>first|(cases hs; done)|rfl
theorem zLp {t:Ty} (x:t.den τ) (hs:zhn t=true):Rp P G h t x (encV t x):=by
 cases t<;>first|(cases hs; done)|constructor
theorem zJl:∀{ts:List Ty} {p:DP τ ts} {vs:List Value},RpL P G h ts p vs→ts.all zhn=true→vs=zp2 ts p
 | _,_,_, .nil,_=>rfl
 | _,_,_, .cons t ts p v vs h1 h2,hs=>by
  simp only [List.all_cons,Bool.and_eq_true] at hs;rw [zLo hs.1 h1,zJl h2 hs.2]; rfl
theorem zJm:∀{ts:List Ty} (p:DP τ ts),ts.all zhn=true→RpL P G h ts p (zp2 ts p)
 | [],_,_ => .nil
 | t::ts,p,hs=>by
  simp only [List.all_cons,Bool.and_eq_true] at hs;exact .cons t ts p _ _ (zLp _ hs.1) (zJm _ hs.2)
theorem zC6:∀{e:Ty} {xs:List (e.den τ)} {vs:List Value},RpR P G h e xs vs→(ets G e).all zhn=true→vs=zrW G e xs
 | _,_,_, .nil e,_=>rfl
 | _,_,_, .cons e x xs vs ws h1 h2,hs=>by
  rw [zJl h1 hs,zC6 h2 hs]; rfl
theorem zHB {e:Ty} (hs:(ets G e).all zhn=true):∀(xs:List (e.den τ)),RpR P G h e xs (zrW G e xs)
 | [] => .nil e
 | x::xs => .cons e x xs _ _ (zJm _ hs) (zHB hs xs)
theorem zHC {t:Ty} {x:t.den τ} {v:Value} {fp:List Nat} (hz:frz t=true) (ht:Tr P G h w t x v fp):fp=[]∧Rp P G h t x v:=by
 cases ht<;>first|(cases hz; done)|exact ⟨rfl, ‹_›⟩
theorem zLq {t:Ty} {x:t.den τ} {v:Value} {fp:List Nat} (hs:zhn t=true) (ht:TrX P G h w t x v fp):v=encV t x∧fp=[]:=by
 cases t<;>first|(cases hs; done)|skip
 all_goals
  obtain ⟨h1,h2⟩:=zHC rfl (show Tr P G h w _ x v fp from ht);exact ⟨zLo rfl h2,h1⟩
theorem zp3:∀{ts:List Ty} {p:DP τ ts} {vs:List Value} {fp:List Nat},TrXs P G h w ts p vs fp→ts.all zhn=true→vs=zp2 ts p∧fp=[]
 | _,_,_,_, .nil,_=>⟨rfl,rfl⟩
 | _,_,_,_, .cons t ts p v vs f f' h1 h2 hd,hs=>by
  simp only [List.all_cons,Bool.and_eq_true] at hs;obtain ⟨e1,e2⟩:=zLq hs.1 h1;obtain ⟨e3,e4⟩:=zp3 h2 hs.2;exact ⟨by rw [e1,e3]; rfl,by rw [e2,e4]; rfl⟩
theorem zOd {t:Ty} (x:t.den τ) (hs:zhn t=true):TrX P G h w t x (encV t x) []:=by
 cases t<;>first|(cases hs; done)|exact .fz _ _ _ rfl (zLp _ rfl)
theorem zrX:∀{ts:List Ty} (p:DP τ ts),ts.all zhn=true→TrXs P G h w ts p (zp2 ts p) []
 | [],_,_ => .nil
 | t::ts,p,hs=>by
  simp only [List.all_cons,Bool.and_eq_true] at hs;exact .cons t ts p _ _ [] [] (zOd _ hs.1) (zrX _ hs.2) (fun b hb=>by cases hb)
theorem zp4 (hon:h.on w) (hb:Below w.heap.size w w'):Left h w [] h w' [] :=
 ⟨hb.os,hb.tape,hb.output,hb.size,fun b h1 _=>hb.block b h1,Fz.le.refl _,fun b o e=>(hb.block b (Array.getElem?_eq_some_iff.1 (hon b o e)).1).trans (hon b o e),fun b hb => .inl hb,fun b hb=>by cases hb⟩
theorem zfB {f:FuncId} {k:Con τ} (hs:k.ps.all zhn=true) (hr:k.rs.all zhn=true) (hb:k.bk=[]) (hn:k.nr=k.rs.length) (hc:zcD P f)
  (H:∀(w:World) (h:Fz) (p:DP τ k.ps) (r:DP τ k.rs),h.on w→zsb P G h→k.m p=some r→Calls P f (zp2 k.ps p).toArray w fun e w'=>e = .returned (zzk (zp2 k.rs r))∧Below w.heap.size w w'):COk P G f k:=by
 refine ⟨hc,fun h w p r vs fp hgl _ hon htr _ hm=>?_⟩;obtain ⟨rfl,rfl⟩:=zp3 htr hs;refine Calls.mono (H w h p r hon hgl hm) ?_;rintro e w' ⟨rfl,hbl⟩
 have hl:(zp2 k.rs r).length=k.rs.length:=by
  have:∀(ts:List Ty) (p:DP τ ts),(zp2 ts p).length=ts.length:=by
   intro ts
   induction ts with
   | nil=>intro p; rfl
   | cons t ts ih=>intro p; simp [zp2,ih]
  exact this _ _
 refine ⟨h,zp2 k.rs r,[],by rw [List.take_of_length_le (by omega)],zp4 hon hbl,zrX r hr,?_⟩;rw [hb,List.drop_eq_nil_of_le (by omega)]; rfl
theorem zFA {te:Nat} {e:Ty} {R:List (e.den τ)} {ad:Option Addr} {n c:Nat} (hs:(ets G e).all zhn=true) (hon:h.on w) (hO:Own w [] w' [.row (.slice ad n c) te (ets G e).length R.length (zrW G e R)]) :
  Left h w [] h w' (Value.slice ad n c).ownBlock.toList∧TrXs P G h w' [.so te e] R [.slice ad n c] (Value.slice ad n c).ownBlock.toList:=by
 obtain ⟨h1,_,h3,h4,h5,h6,_⟩:=zp4 hon hO.below;have hrow:w'.ownsRow 0 te (ets G e).length (.slice ad n c) R.length (zrW G e R):=hO.get (i:=0) rfl
 have hfp:∀b∈(Value.slice ad n c).ownBlock.toList,w.heap.size≤b:=fun b hb=>by
  rcases hO.fresh _ (List.mem_singleton.2 rfl) rfl b hb with h|h
  ·cases h
  ·exact h
 have hb:=zp4 hon hO.below;refine ⟨⟨hb.os,hb.tape,hb.output,hb.size,hb.frame,hb.le,hb.on,hb.new,fun b hm=>⟨?_, .inr (hfp b hm)⟩⟩,?_⟩
 ·cases e1:h b with
  | none=>rfl
  | some o =>
   have:=(Array.getElem?_eq_some_iff.1 (hon b o e1)).1;have:=hfp b hm;omega
 ·have:=TrXs.cons (P:=P) (G:=G) (h:=h) (w:=w') (.so te e) [] R (.slice ad n c) [] _ [] (Tr.so te e R _ _ (zgV.of_row hrow) (zHB hs R)) .nil (fun b _ h=>by cases h);rw [List.append_nil] at this;exact this
theorem zKh {te:Nat} {e:Ty} {R:List (e.den τ)} {ad:Option Addr} {n c:Nat} {F:List Nat} (hs:(ets G e).all zhn=true) (hon:h.on w) (hnone:∀b∈F,h b=none) (hO:Own w F w' [.row (.slice ad n c) te (ets G e).length R.length (zrW G e R)]) :
  Left h w F h w' (Value.slice ad n c).ownBlock.toList∧TrXs P G h w' [.so te e] R [.slice ad n c] (Value.slice ad n c).ownBlock.toList:=by
 have hrow:w'.ownsRow 0 te (ets G e).length (.slice ad n c) R.length (zrW G e R):=hO.get (i:=0) rfl;have hfp:∀b∈(Value.slice ad n c).ownBlock.toList,b∈F∨w.heap.size≤b:=fun b hb=>hO.fresh _ (List.mem_singleton.2 rfl) rfl b hb;have hlt:∀b o,h b=some o→b<w.heap.size:=fun b o e=>(Array.getElem?_eq_some_iff.1 (hon b o e)).1;refine ⟨⟨hO.os,hO.tape,hO.output,hO.size,hO.frame,Fz.le.refl _,fun b o e=>(hO.frame b (hlt b o e) fun hF=>by rw [hnone b hF] at e; cases e).trans (hon b o e),fun b hb => .inl hb,fun b hb=>⟨?_,hfp b hb⟩⟩,?_⟩
 ·rcases hfp b hb with h1|h1
  ·exact hnone b h1
  ·cases e1:h b with
   | none=>rfl
   | some o=>have:=hlt b o e1; omega
 ·have:=TrXs.cons (P:=P) (G:=G) (h:=h) (w:=w') (.so te e) [] R (.slice ad n c) [] _ [] (Tr.so te e R _ _ (zgV.of_row hrow) (zHB hs R)) .nil (fun b _ h=>by cases h);rw [List.append_nil] at this;exact this
theorem so_fp {te:Nat} {e:Ty} {x:List (e.den τ)} {v:Value} {f:List Nat} (ht:Tr P G h w (.so te e) x v f):f=v.ownBlock.toList:=by
 cases ht with
 | fz _ _ _ hz _=>cases hz
 | so _ _ _ _ vs ho hr=>rfl
theorem zLr {te:Nat} {e:Ty} {x:List (e.den τ)} {v:Value} {f:List Nat} (hd:G.dr te=false) (he:(ets G e).all zhn=true) (ht:Tr P G h w (.so te e) x v f):∃ad c,v = .slice ad x.length c∧w.ownsRow 0 te (ets G e).length v x.length (zrW G e x):=by
 cases ht with
 | fz _ _ _ hz _=>cases hz
 | so _ _ _ _ vs ho hr =>
  rw [zC6 hr he] at ho
  replace ho:=ho.row hd
  have ho':=ho;obtain ⟨_,⟨e1,hz⟩|⟨g,cap,cur,e1,_⟩⟩:=ho
  ·exact ⟨none,0,by rw [hz]; exact e1,ho'⟩
  ·exact ⟨_,_,e1,ho'⟩
theorem zLs {f:FuncId} {ts:List Ty} {te:Nat} {e:Ty} {m:DP τ ts→Option (DP τ [.so te e])} (hs:ts.all zhn=true) (he:(ets G e).all zhn=true) (hc:zcD P f)
  (H:∀(w:World) (h:Fz) (p:DP τ ts) (R:List (e.den τ)),h.on w→zsb P G h→m p=some R→Calls P f (zp2 ts p).toArray w fun e' w'=>∃p0 c0,e' = .returned (.slice p0 R.length c0)∧Own w [] w' [.row (.slice p0 R.length c0) te (ets G e).length R.length (zrW G e R)]):COk P G f ⟨ts,[.so te e],1,[],m⟩:=by
 refine ⟨hc,fun h w p r vs fp hgl _ hon htr _ hm=>?_⟩;obtain ⟨rfl,rfl⟩:=zp3 htr hs;refine Calls.mono (H w h p r hon hgl hm) ?_;rintro e1 w' ⟨p0,c0,rfl,hO⟩;obtain ⟨h1,h2⟩:=zFA (P:=P) he hon hO;exact ⟨h,_,_,rfl,h1,h2,rfl⟩
theorem zza {f:FuncId} {te:Nat} {e:Ty} {m:List (e.den τ)→Option (List (e.den τ))} (he:(ets G e).all zhn=true) (hc:zcD P f)
  (H:∀(w:World) (h:Fz) (xs R:List (e.den τ)) (ad:Option Addr) (c:Nat),h.on w→zsb P G h→m xs=some R→zd9 w ad (zrW G e xs)→xs.length≤c→Calls P f #[.slice ad xs.length c] w fun e' w'=>∃p0 c0,e' = .returned (.slice p0 R.length c0)∧Own w [] w' [.row (.slice p0 R.length c0) te (ets G e).length R.length (zrW G e R)]):COk P G f ⟨[.sl e],[.so te e],1,[],m⟩:=by
 refine ⟨hc,fun h w p r vs fp hgl _ hon htr _ hm=>?_⟩
 cases htr with
 | cons _ _ _ v vs f f' h1 h2 hd =>
  cases h2;obtain ⟨rfl,hr⟩:=zHC rfl (show Tr P G h w (.sl e) p v f from h1)
  cases hr with
  | sl _ _ ad c us hcc hse hrr =>
   rw [zC6 hrr he] at hse;refine Calls.mono (H w h p r ad c hon hgl hm (hse.sees hon) hcc) ?_;rintro e1 w' ⟨p0,c0,rfl,hO⟩;obtain ⟨g1,g2⟩:=zFA (P:=P) he hon hO;exact ⟨h,_,_,rfl,g1,g2,rfl⟩
theorem zOe {f:FuncId} {te:Nat} {e:Ty} {m:DP τ [.so te e, .int, .so te e]→Option (List (e.den τ))} (hd0:G.dr te=false) (he:(ets G e).all zhn=true) (hc:zcD P f)
  (H:∀(w:World) (h:Fz) (xs:List (e.den τ)) (i:Int) (ys R:List (e.den τ)) (ad ad2:Option Addr) (c c2:Nat) (F:List Nat),h.on w→zsb P G h→(∀b∈F,h b=none)→m (xs,i,ys)=some R→Own w F w [.row (.slice ad xs.length c) te (ets G e).length xs.length (zrW G e xs), .row (.slice ad2 ys.length c2) te (ets G e).length ys.length (zrW G e ys)] →
   Calls P f #[.slice ad xs.length c, .int .i64 i, .slice ad2 ys.length c2] w fun e' w'=>∃p0 c0,e' = .returned (.slice p0 R.length c0)∧Own w F w' [.row (.slice p0 R.length c0) te (ets G e).length R.length (zrW G e R)]):COk P G f ⟨[.so te e, .int, .so te e],[.so te e],1,[],m⟩:=by
 refine ⟨hc,fun h w p r vs fp hgl _ hon htr hnone hm=>?_⟩
 cases htr with
 | cons _ _ _ v vs f f' h1 h2 hd =>
  cases h2 with
  | cons _ _ _ v2 vs2 f2 f2' h3 h4 hd2 =>
   cases h4 with
   | cons _ _ _ v3 vs3 f3 f3' h5 h6 hd3 =>
    cases h6;obtain ⟨rfl,rfl⟩:=zLq (t := .int) rfl h3;obtain ⟨ad,c,rfl,ho1⟩:=zLr hd0 he (show Tr P G h w (.so te e) p.1 v f from h1);obtain ⟨ad2,c2,rfl,ho2⟩:=zLr hd0 he (show Tr P G h w (.so te e) p.2.2 v3 f3 from h5);have hf1:=so_fp (show Tr P G h w (.so te e) p.1 _ f from h1);have hf3:=so_fp (show Tr P G h w (.so te e) p.2.2 _ f3 from h5)
    have hO:Own w (f++([]++(f3++[]))) w [.row (.slice ad p.1.length c) te (ets G e).length p.1.length (zrW G e p.1), .row (.slice ad2 p.2.2.length c2) te (ets G e).length p.2.2.length (zrW G e p.2.2)]:=by
     refine ⟨rfl,rfl,rfl,Nat.le_refl _,fun _ _ _=>rfl,?_,?_,?_⟩
     ·intro r hr
      rcases List.mem_cons.1 hr with rfl|hr
      ·exact ho1
      ·rw [List.mem_singleton.1 hr]; exact ho2
     ·intro r hr _ b hb
      left
      rcases List.mem_cons.1 hr with rfl|hr
      ·exact List.mem_append_left _ (by rw [hf1]; exact hb)
      ·rw [List.mem_singleton.1 hr] at hb;exact List.mem_append_right _ (by rw [hf3,List.append_nil]; exact hb)
     ·refine .cons (fun s hs => .inr fun b hb hb2=>?_) (.cons (fun _ h=>by cases h) .nil);rw [List.mem_singleton.1 hs] at hb2;exact hd b (by rw [hf1]; exact hb) (by rw [hf3,List.append_nil]; exact hb2)
    refine Calls.mono (H w h p.1 p.2.1 p.2.2 r ad ad2 c c2 _ hon hgl hnone hm hO) ?_;rintro e1 w' ⟨p0,c0,rfl,hO'⟩;obtain ⟨g1,g2⟩:=zKh (P:=P) he hon hnone hO';exact ⟨h,_,_,rfl,g1,g2,rfl⟩
theorem zLt {f:FuncId} {m:List Str × Str→Option Str} (hc:zcD P f)
  (H:∀(w:World) (h:Fz) (xs:List Str) (s R:Str) (ad:Option Addr) (c:Nat),h.on w→zsb P G h→m (xs,s)=some R→zd9 w ad (xs.map str)→xs.length≤c→Calls P f #[.slice ad xs.length c,str s] w fun e' w'=>e' = .returned (str R)∧Below w.heap.size w w'):COk P G f ⟨[.sl .str, .str],[.str],1,[],m⟩:=by
 refine ⟨hc,fun h w p r vs fp hgl _ hon htr _ hm=>?_⟩
 cases htr with
 | cons _ _ _ v vs f f' h1 h2 hd =>
  obtain ⟨rfl,rfl⟩:=zp3 h2 rfl;obtain ⟨rfl,hr⟩:=zHC rfl (show Tr P G h w (.sl .str) p.1 v f from h1)
  cases hr with
  | sl _ _ ad c us hcc hse hrr =>
   rw [zC6 hrr rfl] at hse
   have he:zrW G .str p.1=p.1.map str:=by
    show List.flatMap _ _=_;generalize p.1=l
    induction l with
    | nil=>rfl
    | cons x l ih=>rw [List.flatMap_cons,ih]; rfl
   rw [he] at hse;refine Calls.mono (H w h p.1 p.2 r ad c hon hgl hm (hse.sees hon) hcc) ?_;rintro e1 w' ⟨rfl,hbl⟩;exact ⟨h,[str r],[],rfl,zp4 hon hbl,zrX (ts:=[.str]) r rfl,rfl⟩
end
structure CLs (P:Program) (G:Sig τ) where
 cs:zx6 τ
 ok:∀q∈cs,COk P G q.1 q.2
def CLs.nil {P:Program} {G:Sig τ}:CLs P G:=⟨[],fun q h=>by cases h⟩
def CLs.add {P:Program} {G:Sig τ} (C:CLs P G) {f:FuncId} {k:Con τ} (h:COk P G f k):CLs P G:=⟨(f,k)::C.cs,fun q hq=>by
 rcases List.mem_cons.1 hq with rfl|hq
 ·exact h
 ·exact C.ok q hq⟩
def fnB (fn:Func) (n:Nat) (k:Con τ):Bool:=(match fn.body with
 | some _=>true
 | none=>false)&&Nat.beq fn.ntmps n&&Nat.ble n gh&&Nat.ble k.ps.length n&&k.rs.all noPr
def bdyF (fn:Func):Code:=match fn.body with
 | some c=>c
 | none => .skip
theorem zLu {P:Program} {G:Sig τ} {ty:List (TypeId × Ty)} (hm:P.follows .mixedOrders=true) (hNm:∀(f:FuncId) (fn:Func),P.funcs[f]? = some fn→(fn.name == "runtime.NumGoroutine")=false) {cs:zx6 τ} {f:FuncId} {fn:Func} {k:Con τ} (n:Nat)
  (h1:P.funcs[f]? = some fn) (h2:fnB fn n k=true) {hn:Hn τ (DP τ k.rs)} {op:(Nat→Value)→OpF τ (DP τ k.rs)} (hop:∀fx w0 h0 F,zwB (Cx.w (⟨P,G,ty,cs,n,fun _ => .bool false⟩:Cx τ) fx) w0 h0 F (op fx)) (hF:zsh (⟨P,G,ty,cs,n,fun _ => .bool false⟩:Cx τ) k (bdyF fn) fn.results.toList hn op):COk P G f k:=by
 simp only [fnB,Bool.and_eq_true,Nat.beq_eq,Nat.ble_eq] at h2;obtain ⟨⟨⟨⟨hb,hnt⟩,hng⟩,hp⟩,hr⟩:=h2;refine zPF (X:=⟨P,G,ty,cs,n,fun _ => .bool false⟩) hm hop ⟨h1,?_,hNm f fn h1,hnt,hng,hp,rfl,hr⟩ hF;unfold bdyF
 split at hb
 ·rename_i c hc; rw [hc]
 ·cases hb
theorem zC7 {P:Program} {G:Sig τ} {ty:List (TypeId × Ty)} (hm:P.follows .mixedOrders=true) (hNm:∀(f:FuncId) (fn:Func),P.funcs[f]? = some fn→(fn.name == "runtime.NumGoroutine")=false) (hT:∀cs n,TyOk (⟨P,G,ty,cs,n,fun _ => .bool false⟩:Cx τ)) (C:CLs P G) {f:FuncId} {fn:Func} {k:Con τ} (n:Nat)
  (h1:P.funcs[f]? = some fn) (h2:fnB fn n k=true) {hn:Hn τ (DP τ k.rs)} (hF:zsh (⟨P,G,ty,C.cs,n,fun _ => .bool false⟩:Cx τ) k (bdyF fn) fn.results.toList hn):COk P G f k :=
 zLu hm hNm n h1 h2 (fun fx _ _ _ _ _ _ _ _ _ e=>zri (X:=Cx.w (⟨P,G,ty,C.cs,n,fun _ => .bool false⟩:Cx τ) fx) ⟨(hT C.cs n).el,(hT C.cs n).eq⟩ C.ok e) hF
def zxI {P:Program} {G:Sig τ} (ty:List (TypeId × Ty)) (C:CLs P G) (B:Bt (FnS P)) (n:Nat) (fx:Nat→Value):Zx (Cx.w (⟨P,G,ty,C.cs,n,fun _ => .bool false⟩:Cx τ) fx):=⟨fun _=>C.cs,B⟩
noncomputable def opJ {ρ:Type} {P:Program} {G:Sig τ} (ty:List (TypeId × Ty)) (C:CLs P G) (B:Bt (FnS P)) (n m:Nat) (fx:Nat→Value):OpF τ ρ:=opZ _ (zxI ty C B n fx) (inZ _ (zxI ty C B n fx) m)
theorem zp5 {P:Program} {G:Sig τ} {ty:List (TypeId × Ty)} (hm:P.follows .mixedOrders=true) (hNm:∀(f:FuncId) (fn:Func),P.funcs[f]? = some fn→(fn.name == "runtime.NumGoroutine")=false) (hT:∀cs n,TyOk (⟨P,G,ty,cs,n,fun _ => .bool false⟩:Cx τ)) (C:CLs P G) (B:Bt (FnS P)) {f:FuncId} {fn:Func} {k:Con τ} (n m:Nat)
  (h1:P.funcs[f]? = some fn) (h2:fnB fn n k=true) {hn:Hn τ (DP τ k.rs)} (hF:zsh (⟨P,G,ty,C.cs,n,fun _ => .bool false⟩:Cx τ) k (bdyF fn) fn.results.toList hn (opJ ty C B n m)):COk P G f k :=
 zLu hm hNm n h1 h2 (fun fx _ _ _=>zLx (X:=Cx.w (⟨P,G,ty,C.cs,n,fun _ => .bool false⟩:Cx τ) fx) (Z:=zxI ty C B n fx) ⟨(hT C.cs n).el,(hT C.cs n).eq⟩ C.ok hNm (fun _=>C.ok) (zHD (X:=Cx.w (⟨P,G,ty,C.cs,n,fun _ => .bool false⟩:Cx τ) fx) (Z:=zxI ty C B n fx) hm (fun _=>C.ok) ⟨(hT C.cs n).el,(hT C.cs n).eq⟩ C.ok hNm m)) hF
theorem zFB {P:Program} {G:Sig τ} {f:FuncId} {k:Con τ} (hc:zcD P f) (h:∀p,k.m p=none):COk P G f k:=⟨hc,fun _ _ p r _ _ _ _ _ _ _ hm=>by rw [h p] at hm; cases hm⟩
theorem zLv {P:Program} (h:(P.funcs.toList.all fun fn => !(fn.name == "runtime.NumGoroutine"))=true):∀(f:FuncId) (fn:Func),P.funcs[f]? = some fn→(fn.name == "runtime.NumGoroutine")=false:=by
 intro f fn hf;have:=List.all_eq_true.1 h fn (by rw [← Array.getElem?_toList] at hf; exact List.mem_of_getElem? hf);simpa using this
noncomputable def eqsB (G:Sig τ) (ty:List (TypeId × Ty)) (eqs:List Nat):Bool:=ty.all fun p=>match p.2 with
 | .st n=>bif (G.fs n).all zhn then mem eqs n else true
 | _=>true
theorem zLw {P:Program} {G:Sig τ} {ty:List (TypeId × Ty)} (eqs:List Nat) (h1:tyB P G ty=true) (h2:eqsB G ty eqs=true) (h3:∀n∈eqs, ∀x y,G.eq n x y=eqD (G.fs n) (G.dtor n x) (G.dtor n y)):∀cs n,TyOk (⟨P,G,ty,cs,n,fun _ => .bool false⟩:Cx τ):=fun cs n=>zOP h1 fun n x y hs ⟨t,ht⟩=>by
 have h4:=List.all_eq_true.1 h2 (t, .st n) (zmG ht);have hs:(G.fs n).all zhn=true:=hs;have h4:(bif (G.fs n).all zhn then mem eqs n else true)=true:=h4;rw [hs] at h4;exact h3 n (zeE.1 h4) x y
theorem fp_nil {P:Program}:∀p∈([]:List (FuncId × (UInt8→Option Bool))),zIq P p.2 p.1:=fun p h=>by cases h
theorem zbx {P:Program} {f:FuncId} {m:UInt8→Option Bool} {l:List (FuncId × (UInt8→Option Bool))} (h:zIq P m f) (t:∀p∈l,zIq P p.2 p.1):∀p∈(f,m)::l,zIq P p.2 p.1:=fun p hp=>by
 rcases List.mem_cons.1 hp with rfl|hp
 ·exact h
 ·exact t p hp
theorem zp6 {h h':Fz} {w w':World} {fp':List Nat} (hl:Left h w [] h' w' fp'):Below w.heap.size w w':=⟨hl.os,hl.tape,hl.output,hl.size,fun b hb=>hl.frame b hb (by simp)⟩
theorem zf6 {P:Program} {G:Sig τ} {f:FuncId} {m:UInt8→Option Bool} (h1:∀h,zsb P G h) (h2:zDA P G) (h:COk P G f ⟨[.u8],[.bool],1,[],m⟩):zIq P m f:=⟨h.1,fun c r w hm=>by
 refine Calls.mono (h.2 (fun _=>none) w c r [zcV c] [] (h1 _) h2 (fun b o e=>by cases e) (zrX (ts:=[.u8]) c rfl) (fun b hb=>by cases hb) hm) ?_;rintro e w' ⟨h',rs,fp',rfl,hl,htr,_⟩;obtain ⟨rfl,_⟩:=zp3 htr rfl
 exact ⟨rfl,zp6 hl⟩⟩
theorem zzb {P:Program} {G:Sig τ} {f:FuncId} {k:Con τ} (hs:k.ps.all zhn=true) (hr:k.rs.all zhn=true) (hb:k.bk=[]) (hn:k.nr=k.rs.length) (hk:COk P G f k) (hfp:zDA P G) {p:DP τ k.ps} {r:DP τ k.rs} (hm:k.m p=some r) {h:Fz} {w:World} (hon:h.on w) (hgl:zsb P G h) :
  Calls P f (zp2 k.ps p).toArray w fun e w'=>e = .returned (zzk (zp2 k.rs r))∧Below w.heap.size w w':=by
 refine Calls.mono (hk.2 h w p r (zp2 k.ps p) [] hgl hfp hon (zrX p hs) (fun b hb=>by cases hb) hm) ?_;rintro e w' ⟨h',rs,fp',rfl,hl,htr,_⟩;obtain ⟨rfl,_⟩:=zp3 htr hr
 have hl2:(zp2 k.rs r).length=k.rs.length:=by
  have:∀(ts:List Ty) (p:DP τ ts),(zp2 ts p).length=ts.length:=by
   intro ts
   induction ts with
   | nil=>intro p; rfl
   | cons t ts ih=>intro p; simp [zp2,ih]
  exact this _ _
 exact ⟨by rw [List.take_of_length_le (by omega)],zp6 hl⟩
def ctOf {P:Program} {G:Sig τ} (T:Bt (CLs P G)) (f:FuncId):zx6 τ:=match T.get f with
 | some C=>C.cs
 | none=>[]
theorem zOf {P:Program} {G:Sig τ} {T:Bt (CLs P G)}:∀f, ∀q∈ctOf T f,COk P G q.1 q.2:=by
 intro f q hq;unfold ctOf at hq
 split at hq
 ·rename_i C _; exact C.ok q hq
 ·cases hq
theorem zOg {X:Cx τ} (hm:X.P.follows .mixedOrders=true) (hNm:∀(f:FuncId) (fn:Func),X.P.funcs[f]? = some fn→(fn.name == "runtime.NumGoroutine")=false) (hT:TyOk X) (hfp:zDA X.P X.G) (hC:X.cs=[]) {Z:Zx X} (hZ:∀f, ∀q∈Z.ct f,COk X.P X.G q.1 q.2) {f:FuncId} (hc:zcD X.P f) {k:Nat} (e:zrun X Z k f []=some true) :
  COk X.P X.G f ⟨[],[.bool],1,[],fun _=>some true⟩:=zfB rfl rfl rfl rfl hc fun w h p r on gl hr=>by
 have hr:some true=some r:=hr;cases hr;refine Calls.mono (zOi hm hZ hT (fun q hq=>by rw [hC] at hq; cases hq) hNm e (h:=h) (w:=w) (vals:=[]) gl hfp on rfl (fun i A u h1=>by simp at h1)).2 ?_;rintro e1 w' ⟨rfl,h',hl⟩;exact ⟨rfl,zp6 hl⟩
theorem zOh {w w':World} (h:Fz.on (fun b=>w.heap[b]?) w'):w.heap.size≤w'.heap.size:=by
 cases hs:w.heap.size with
 | zero=>omega
 | succ n =>
  have:=h n w.heap[n] (Array.getElem?_eq_getElem (by omega));have:=(Array.getElem?_eq_some_iff.1 this).1;omega
theorem zKj (l:List Str):cells (fun x:Str=>[str x]) l=l.map str:=by
 unfold cells
 induction l with
 | nil=>rfl
 | cons x l ih=>rw [List.flatMap_cons,ih]; rfl
end Go.Rk
end
section
namespace Go.Rk
open Go.RowKit Go.Dm Go.Dk Go.ChangeShapes Go.WideShapes Go.Deep
variable {τ:Nat→Type}
section
variable {H:Type} {enc:TypeId × Value→H} {P:Program} {G:Sig τ} {w:World} {base:Nat} {spare:Nat→Bool} {held:Bool}
def mF (P:Program) (m:List Ty→TypeId→Option (List Ty)):List Field→Nat→List Ty→Option (List Ty × Nat)
 | [],o,ts=>some (ts,o)
 | f::fs,o,ts=>bif Nat.beq f.offset o then (match m ts f.type with
  | some r=>mF P m fs (o+P.cellsOf f.type) r
  | none=>none) else none
def mT (P:Program) (G:Sig τ):Nat→List Ty→TypeId→Option (List Ty)
 | 0,_,_=>none
 | d+1,ts,t=>match P.underlying t with
  | some (.struct ⟨fs⟩)=>match mF P (mT P G d) fs 0 ts with
   | some (r,o)=>bif Nat.beq o (P.cellsOf t) then some r else none
   | none=>none
  | some .string=>match ts with
   | .str::r=>some r
   | _=>none
  | some .bool=>match ts with
   | .bool::r=>some r
   | _=>none
  | some (.int .i64)=>match ts with
   | .int::r=>some r
   | _=>none
  | some (.int .u8)=>match ts with
   | .u8::r=>some r
   | _=>none
  | some (.int .u16)=>match ts with
   | .u16::r=>some r
   | _=>none
  | some (.slice te)=>match ts with
   | .sl e::r=>match mT P G d (ets G e) te with
    | some []=>bif Nat.beq (P.cellsOf te) (ets G e).length&&Nat.blt 0 (ets G e).length then some r else none
    | _=>none
   | _=>none
  | _=>none
theorem zwM {h:Fz} {t:Ty} {ts:List Ty} {x:t.den τ} {q:DP τ ts} {v:Value} {vs:List Value} (h1:Rp P G h t x v) (h2:RpL P G h ts q vs):RpL P G h (t::ts) (.mk x q) (v::vs) := .cons t ts (.mk x q) v vs (by rw [DP.hd_mk]; exact h1) (by rw [DP.tl_mk]; exact h2)
def rgT:(t:Ty)→t.den τ→Prop
 | .int,x => -9223372036854775808≤(show Int from x)∧(show Int from x)≤9223372036854775807
 | _,_=>True
def rgL:(ts:List Ty)→DP τ ts→Prop
 | [],_=>True
 | t::ts,p=>rgT t p.hd∧rgL ts p.tl
theorem zwN {t:Ty} {ts:List Ty} {x:t.den τ} {q:DP τ ts} (h:rgT t x) (h2:rgL ts q):rgL (t::ts) (.mk x q):=⟨by rw [DP.hd_mk]; exact h,by rw [DP.tl_mk]; exact h2⟩
def rgX (G:Sig τ):(t:Ty)→t.den τ→Prop
 | .st n,z=>rgL (G.fs n) (G.dtor n z)
 | t,z=>rgT t z
def rgXs (G:Sig τ):(ts:List Ty)→DP τ ts→Prop
 | [],_=>True
 | t::ts,p=>rgX G t p.hd∧rgXs G ts p.tl
theorem i64_of {n:Int} (h:(Lit.int .i64 n).wf=true) : -9223372036854775808≤n∧n≤9223372036854775807:=by
 have e1:IntKind.i64.min = -9223372036854775808:=rfl;have e2:IntKind.i64.max=9223372036854775807:=rfl;simpa [Lit.wf,e1,e2] using h
abbrev hp (w:World):Fz:=fun b=>w.heap[b]?
theorem zJz {h:Fz}:∀{ts:List Ty} {p:DP τ ts} {vs:List Value},RpL P G h ts p vs→vs.length=ts.length
 | [],_,_,h=>by cases h; rfl
 | t::ts,_,_,h=>by cases h with|cons _ _ _ v vs h1 h2=>simp [zJz h2]
theorem zFP {h:Fz} {e:Ty} {z:e.den τ} {ws:List Value} (hz:RpL P G h (ets G e) (edt G e z) ws):∀{xs:List (e.den τ)} {vs:List Value},RpR P G h e xs vs→RpR P G h e (xs++[z]) (vs++ws)
 | [],vs,h=>by
  cases h;have:=RpR.cons (P:=P) (G:=G) e z [] ws [] hz (.nil e);simpa using this
 | x::xs,_,h=>by
  cases h with
  | cons _ _ _ v1 v2 h1 h2 =>
   have:=RpR.cons e x (xs++[z]) v1 (v2++ws) h1 (zFP hz h2);simpa [List.append_assoc] using this
theorem zJA {h:Fz} {e:Ty}:∀{xs:List (e.den τ)} {vs:List Value},RpR P G h e xs vs→vs.length=xs.length*(ets G e).length
 | [],_,h=>by cases h; simp
 | x::xs,_,h=>by
  cases h with
  | cons _ _ _ v1 v2 h1 h2 =>
   rw [List.length_append,zJz h1,zJA h2,List.length_cons,Nat.add_mul,Nat.one_mul,Nat.add_comm]
theorem zOF {fuel:Nat} {t te:TypeId} {v:Value} {x:DataW H × List MemPlace} {e:Ty} (ht:P.underlying t=some (.slice te)) (hC:P.cellsOf te=(ets G e).length) (hpos:0<(ets G e).length)
  (ho:∀fuel cs x,DataW.trod enc P w base spare held fuel te cs=some x→∃z:e.den τ,RpL P G (hp w) (ets G e) (edt G e z) cs) (hf:DataW.trod enc P w base spare held fuel t [v]=some x) :
  ∃xs:List (e.den τ),Rp P G (hp w) (.sl e) xs v:=by
 rcases open_slice ht hf with ⟨hcs,_⟩|⟨a,len,cap,m,n,D,Pl,hcs,hb,hl,hm,hmm,hx,hel⟩
 ·simp at hcs;subst hcs;exact ⟨[],Rp.sl e [] none 0 [] (Nat.le_refl _) (.inl rfl) (.nil e)⟩
 ·simp at hcs;subst hcs
  have hmm':len≤m:=by rw [hmm]; split<;>omega
  rw [hC] at hel
  generalize hsz:(ets G e).length=sz at *
  have hex:∀i,i<len→∃(z:e.den τ) (ws:List Value),RpL P G (hp w) (ets G e) (edt G e z) ws∧(∀(j:Nat) v,ws[j]? = some v→w.cell? ((a.add (i*sz)).add j)=some v):=by
   intro i hi;obtain ⟨cs',hc,htr⟩:=hel i (by omega);obtain ⟨z,hz⟩:=ho _ _ _ htr;exact ⟨z,cs',hz,fun j v hj=>zKr hc hj⟩
  have hall:∀k,k≤len→∃(xs:List (e.den τ)) (vs:List Value),xs.length=k∧RpR P G (hp w) e xs vs∧∀(i:Nat) v,vs[i]? = some v→∃q j,i=q*sz+j∧w.cell? ((a.add (q*sz)).add j)=some v:=by
   intro k
   induction k with
   | zero=>intro _; exact ⟨[],[],rfl, .nil e,by simp⟩
   | succ k ih =>
    intro hk;obtain ⟨xs,vs,hxl,hs,hcl⟩:=ih (by omega);obtain ⟨z,ws,hz1,hz2⟩:=hex k (by omega);have hlen:=zJA hs;rw [hsz] at hlen;refine ⟨xs++[z],vs++ws,by simp [hxl],zFP hz1 hs,fun i v hv=>?_⟩
    by_cases hi:i<vs.length
    ·rw [List.getElem?_append_left hi] at hv; exact hcl i v hv
    ·rw [List.getElem?_append_right (by omega)] at hv;refine ⟨k,i-k*sz,?_,hz2 _ v (by rw [hlen,hxl] at hv; exact hv)⟩;rw [hlen,hxl] at hi; omega
  obtain ⟨xs,vs,hxl,hs,hcl⟩:=hall len (Nat.le_refl _);refine ⟨xs,?_⟩;rw [← hxl];refine Rp.sl e xs (some a) cap vs (by omega) ?_ hs
  cases vs with
  | nil=>exact .inl rfl
  | cons v0 vr =>
   obtain ⟨q,j,hqj,hc0⟩:=hcl 0 v0 rfl
   have hq0:q=0:=by
    rcases Nat.eq_zero_or_pos q with h|h
    ·exact h
    ·have:1*sz≤q*sz:=Nat.mul_le_mul_right _ h;omega
   subst hq0
   have hj0:j=0:=by omega
   subst hj0
   have ea:(a.add (0*sz)).add 0=a:=by rw [Nat.zero_mul]; unfold Addr.add; simp
   rw [ea] at hc0;obtain ⟨hsp,hlt⟩:=zHN hc0;obtain ⟨b,off,spot⟩:=a;simp only at hsp; subst hsp
   have hblk:∃c e2 z2,w.heap[b]? = some (.cells c e2 z2):=by
    unfold World.cell? at hc0
    split at hc0
    ·rename_i c e2 z2 hb; exact ⟨_,_,_,hb⟩
    ·cases hc0
   obtain ⟨c,e2,z2,hbk⟩:=hblk;refine .inr ⟨b,off,c,e2,z2,rfl,hbk,fun k v hv=>?_⟩;obtain ⟨q,j,hqj,hc⟩:=hcl k v hv;rw [zFO,zFO,Nat.add_assoc, ← hqj] at hc;unfold World.cell? at hc;dsimp only at hc;rw [hbk] at hc;simpa using hc
theorem mF_ok {n:Nat} {m:List Ty→TypeId→Option (List Ty)} (hm:∀ts t r,m ts t=some r→∀fuel cs x,DataW.trod enc P w base spare held fuel t cs=some x→∀vs' (q:DP τ r),RpL P G (hp w) r q vs'→∃p:DP τ ts,RpL P G (hp w) ts p (cs++vs')∧(rgL r q→rgL ts p))
  {cs:List Value}:∀(fs:List Field) (o:Nat) (ts r:List Ty) (o':Nat),mF P m fs o ts=some (r,o')→o'=cs.length→(∀f∈fs, ∃y,DataW.trod enc P w base spare held n f.type ((cs.drop f.offset).take (P.cellsOf f.type))=some y) →
   ∀vs' (q:DP τ r),RpL P G (hp w) r q vs'→∃p:DP τ ts,RpL P G (hp w) ts p (cs.drop o++vs')∧(rgL r q→rgL ts p)
 | [],o,ts,r,o',e,ho,_,vs',q,hq=>by
  unfold mF at e;cases e;rw [ho,List.drop_length];exact ⟨q,hq,id⟩
 | f :: fs,o,ts,r,o',e,ho,hf,vs',q,hq=>by
  unfold mF at e
  cases hb:Nat.beq f.offset o with
  | false=>rw [hb] at e; cases e
  | true =>
   rw [hb] at e
   have hfo:f.offset=o:=by simpa using hb
   replace e:(match m ts f.type with
    | some r=>mF P m fs (o+P.cellsOf f.type) r
    | none=>none)=some (r,o'):=e
   split at e
   ·rename_i r1 h1
    obtain ⟨p,hp',hg⟩:=mF_ok hm fs _ _ _ _ e ho (fun g hg=>hf g (List.mem_cons_of_mem _ hg)) vs' q hq;obtain ⟨y,hy⟩:=hf f (List.mem_cons_self ..);rw [hfo] at hy;obtain ⟨p2,h2,hg2⟩:=hm _ _ _ h1 _ _ _ hy _ p hp';refine ⟨p2,?_,fun h=>hg2 (hg h)⟩
    have:cs.drop o=(cs.drop o).take (P.cellsOf f.type)++cs.drop (o+P.cellsOf f.type):=by
     rw [← List.drop_drop,List.take_append_drop]
    rw [this,List.append_assoc];exact h2
   ·cases e
theorem zJB:∀(d:Nat) (ts:List Ty) (t:TypeId) (r:List Ty),mT P G d ts t=some r→∀fuel cs x,DataW.trod enc P w base spare held fuel t cs=some x→∀vs' (q:DP τ r),RpL P G (hp w) r q vs'→∃p:DP τ ts,RpL P G (hp w) ts p (cs++vs')∧(rgL r q→rgL ts p)
 | 0,_,_,_,e,_,_,_,_,_,_,_=>by cases e
 | d + 1,ts,t,r,e,fuel,cs,x,h,vs',q,hq=>by
  unfold mT at e
  split at e
  ·rename_i fs hu
   split at e
   ·rename_i r1 o h1
    cases hb:Nat.beq o (P.cellsOf t) with
    | false=>rw [hb] at e; cases e
    | true =>
     rw [hb] at e;cases e;obtain ⟨xs,n,_,rfl,hl,hlen,hf⟩:=DataW.trod_struct hu h
     have:=mF_ok (cs:=cs) (n:=n) (fun ts t r=>zJB d ts t r) fs 0 ts _ o h1 (by rw [hl]; simpa using hb) (fun f hf'=>by
      obtain ⟨i,hi,rfl⟩:=List.mem_iff_getElem.1 hf';have hfi:=hf i fs[i] (by simp [hi])
      have hlen':xs.length=fs.length:=by simpa using hlen
      rw [List.getElem?_eq_getElem (by omega)] at hfi
      exact ⟨_,hfi⟩) vs' q hq
     simpa using this
   ·cases e
  ·rename_i hu
   split at e
   ·rename_i r1
    cases e;obtain ⟨s,rfl,_,_⟩:=DataW.trod_string hu h;obtain ⟨⟨l⟩⟩:=s;exact ⟨.mk (t := .str) l q,zwM (t := .str) (x:=l) (.str l) hq,zwN (t := .str) trivial⟩
   ·cases e
  ·rename_i hu
   split at e
   ·rename_i r1
    cases e;obtain ⟨b,rfl,_⟩:=DataW.trod_bool hu h;exact ⟨.mk (t := .bool) b q,zwM (t := .bool) (x:=b) (.bool b) hq,zwN (t := .bool) trivial⟩
   ·cases e
  ·rename_i hu
   split at e
   ·rename_i r1
    cases e;obtain ⟨n,rfl,_,hw⟩:=DataW.trod_int hu h;exact ⟨.mk (t := .int) n q,zwM (t := .int) (x:=n) (.int n) hq,zwN (t := .int) (i64_of hw)⟩
   ·cases e
  ·rename_i hu
   split at e
   ·rename_i r1
    cases e;obtain ⟨n,rfl,_,hw⟩:=DataW.trod_int hu h;obtain ⟨b,rfl⟩:=zOD hw;exact ⟨.mk (t := .u8) b q,zwM (t := .u8) (x:=b) (.u8 b) hq,zwN (t := .u8) trivial⟩
   ·cases e
  ·rename_i hu
   split at e
   ·rename_i r1
    cases e;obtain ⟨n,rfl,_,hw⟩:=DataW.trod_int hu h;obtain ⟨b,rfl⟩:=zOC hw;exact ⟨.mk (t := .u16) b q,zwM (t := .u16) (x:=b) (.u16 b) hq,zwN (t := .u16) trivial⟩
   ·cases e
  ·rename_i te hu
   split at e
   ·rename_i e1 r1
    split at e
    ·rename_i h1
     cases hb:(Nat.beq (P.cellsOf te) (ets G e1).length&&Nat.blt 0 (ets G e1).length) with
     | false=>rw [hb] at e; cases e
     | true =>
      rw [hb] at e;cases e;simp only [Bool.and_eq_true,Nat.beq_eq,Nat.blt_eq] at hb
      have hv:∃v,cs=[v]:=by
       rcases open_slice hu h with ⟨hcs,_⟩|⟨a,len,cap,m,n,D,Pl,hcs,_⟩
       ·exact ⟨_,hcs⟩
       ·exact ⟨_,hcs⟩
      obtain ⟨v,rfl⟩:=hv
      obtain ⟨xs,hxs⟩:=zOF (G:=G) (e:=e1) hu hb.1 hb.2 (fun fuel cs x hh=>by
       obtain ⟨p,hp',_⟩:=zJB d _ _ _ h1 fuel cs x hh [] () .nil;rw [List.append_nil] at hp'
       exact ⟨ect G e1 p,by rw [zDO]; exact hp'⟩) h
      exact ⟨.mk (t := .sl e1) xs q,zwM (t := .sl e1) (x:=xs) hxs hq,zwN (t := .sl e1) trivial⟩
    ·cases e
   ·cases e
  ·cases e
theorem zLW {h:Fz}:∀{ts:List Ty} {p:DP τ ts} {vs:List Value},ts.all frz=true→RpL P G h ts p vs→TrL P G h w ts p vs []
 | [],_,_,_,h=>by cases h; exact .nil
 | t::ts,_,_,hz,h=>by
  cases h with
  | cons _ _ _ v vs h1 h2 =>
   simp only [List.all_cons,Bool.and_eq_true] at hz;exact .cons t ts _ v vs [] [] (.fz t _ v hz.1 h1) (zLW hz.2 h2) (fun b hb=>by cases hb)
def mX (P:Program) (G:Sig τ) (d:Nat) (ty:Ty) (t:TypeId):Bool:=match ty with
 | .st n=>(match P.underlying t with
  | some (.struct _)=>true
  | _=>false)&&(match mT P G d (G.fs n) t with
  | some []=>(G.fs n).all frz
  | _=>false)
 | .pr _ _=>false
 | ty=>frz ty&&(match P.underlying t with
  | some .string=>true
  | some .bool=>true
  | some (.int _)=>true
  | some (.slice _)=>true
  | _=>false)&&(match mT P G d [ty] t with
  | some []=>true
  | _=>false)
def mXs (P:Program) (G:Sig τ) (d:Nat):List Ty→List TypeId→Bool
 | [],[]=>true
 | ty::tys,t::ts=>mX P G d ty t&&mXs P G d tys ts
 | _,_=>false
theorem mX_ok {d:Nat} {ty:Ty} {t:TypeId} (e:mX P G d ty t=true) {r:Reach} {b0:Nat} {v:Value} {D:DataW H} {ps:List MemPlace} (hval:Value.okWide P w r b0 t v) (hd:DataW.Trod enc P w base spare held t v D ps) :
  ∃z:ty.den τ,TrX P G (hp w) w ty z v []∧rgX G ty z:=by
 obtain ⟨fuel,hf⟩:=hd;unfold mX at e
 split at e
 ·rename_i n
  simp only [Bool.and_eq_true] at e;obtain ⟨e0,e1⟩:=e
  split at e0
  ·rename_i fs hu
   split at e1
   ·rename_i h1
    simp only [Value.okWide,hu] at hval;obtain ⟨cs,rfl,_⟩:=hval;obtain ⟨p,hp',hg⟩:=zJB d _ _ _ h1 fuel _ _ hf [] () .nil;rw [List.append_nil] at hp';obtain ⟨cs⟩:=cs;refine ⟨G.ctor n p,⟨cs,rfl,?_⟩,?_⟩
    ·rw [G.dc];exact zLW e1 hp'
    ·show rgL (G.fs n) (G.dtor n (G.ctor n p));rw [G.dc];exact hg trivial
   ·cases e1
  ·cases e0
 ·cases e
 ·rename_i h1 h2
  simp only [Bool.and_eq_true] at e;obtain ⟨⟨e0,e2⟩,e3⟩:=e
  split at e3
  ·rename_i h3
   obtain ⟨p,hp',hg⟩:=zJB d _ _ _ h3 fuel _ _ hf [] () .nil;rw [List.append_nil] at hp';refine ⟨DP.hd p,?_,?_⟩
   rotate_left
   ·have:=(hg trivial).1
    cases ty with
    | st n=>exact absurd rfl (h1 n)
    | _=>exact this
   generalize hcs:v.cells.toList=cs at hp'
   cases hp' with
   | cons _ _ _ u us g1 g2 =>
    cases g2
    have hna:∀l,v ≠ .agg l:=by
     intro l h;subst h;unfold Value.okWide at hval
     split at e2
     ·rename_i hu; simp [hu,Cell.okWide,Cell.ok] at hval
     ·rename_i hu; simp [hu,Cell.okWide,Cell.ok] at hval
     ·rename_i hu; simp [hu,Cell.okWide,Cell.ok] at hval
     ·rename_i hu; simp [hu,Cell.okWide,Cell.ok] at hval
     ·cases e2
    have hv:v=u:=by
     cases v with
     | agg l=>exact (hna l rfl).elim
     | _=>simpa [Value.cells] using hcs
    subst hv;exact TrX.plain (.fz _ _ _ e0 g1) h1
  ·cases e3
theorem zLX {d:Nat}:∀{tys:List Ty} {ts:List TypeId} {vs:List Value} {ds:List (DataW H)} {ps:List MemPlace},mXs P G d tys ts=true→(∀(j:Nat) t v,ts[j]? = some t→vs[j]? = some v→∃r b0,Value.okWide P w r b0 t v)→DataW.TrodAll enc P w base spare held ts vs ds ps →
  ∃p:DP τ tys,TrXs P G (hp w) w tys p vs []∧rgXs G tys p
 | [],[],_,_,_,_,_,h=>by
  obtain ⟨rfl,_,_⟩:=trodAll_nil h;exact ⟨(), .nil,trivial⟩
 | ty::tys,t::ts,_,_,_,e,hv,h=>by
  simp only [mXs,Bool.and_eq_true] at e;obtain ⟨v,vs,d0,ds,p,q,rfl,rfl,rfl,h0,h1⟩:=trodAll_cons h;obtain ⟨r,b0,hv0⟩:=hv 0 t v rfl rfl;obtain ⟨z,hz,hgz⟩:=mX_ok e.1 hv0 h0;obtain ⟨pp,hpp,hgp⟩:=zLX e.2 (fun j t v h1 h2=>hv (j+1) t v (by simpa using h1) (by simpa using h2)) h1
  exact ⟨.mk z pp,by
   have:=TrXs.cons (P:=P) (G:=G) (h:=hp w) (w:=w) ty tys (.mk z pp) v vs [] [] (by rw [DP.hd_mk]; exact hz) (by rw [DP.tl_mk]; exact hpp) (fun b hb=>by cases hb)
   simpa using this,by rw [DP.hd_mk]; exact hgz,by rw [DP.tl_mk]; exact hgp⟩
 | [],_::_,_,_,_,e,_,_=>by simp [mXs] at e
 | _::_,[],_,_,_,e,_,_=>by simp [mXs] at e
theorem law_ok {f:FuncId} {ps:List Ty} {m:DP τ ps→Option Bool} {d:Nat} {ts:List TypeId} (hc:COk P G f ⟨ps,[.bool],1,[],m⟩) (hm:∀p,rgXs G ps p→m p=some true) (hX:mXs P G d ps ts=true) (hgl:zsb P G (hp w)) (hfp:zDA P G)
  {r:Reach} {b0:Nat} {args:Array Value} {ds:List (DataW H)} {pl:List MemPlace} (hv:∀(j:Nat) t v,ts[j]? = some t→args[j]? = some v→Value.okWide P w r b0 t v) (h:DataW.TrodAll enc P w base spare held ts args.toList ds pl) :
  Calls P f args w fun e w'=>e = .returned (.bool true)∧Below w.heap.size w w':=by
 obtain ⟨p,hp',hg⟩:=zLX (G:=G) hX (fun j t v h1 h2=>⟨r,b0,hv j t v h1 (by simpa using h2)⟩) h;have:=hc.2 (hp w) w p true args.toList [] hgl hfp (fun b o e=>e) hp' (fun b hb=>by cases hb) (hm p hg);rw [Array.toArray_toList] at this;refine Calls.mono this ?_;rintro e w' ⟨h',rs,fp',rfl,hl,htr,_⟩;obtain ⟨rfl,rfl⟩:=zp3 htr rfl;exact ⟨rfl,zp6 hl⟩
end
end Go.Rk
end
