/- strings.IndexRune at a rune beyond ASCII, in a text of ASCII bytes: -1; and strings.IndexAny, the looked-for bytes ASCII -/
import Derived.Test.YtkbigjfhddediaaGreatDoorP0
import Derived.Test.YtkbigjfhddediaaGreatDoorTSplit
import Derived.Shelf.Strings.IndexAnyAll
import Derived.Laws.RangeAny
import Derived.Laws.Runes
import Derived.Below
import Derived.Lib.OthersKept
import Derived.Shelf.RegionOpenPlain
import Derived.Shelf.Small.Utf8
import Derived.KernelRfl
import Derived.WideMake
import Derived.Test.YtkbigjfhddediaaGreatDoorProg
import Derived.Laws.StructEq
import Derived.Lib.LaidTab
import Derived.Lib.ItoaNum
import Derived.WalkKit
import Derived.Lib.Walk
import Derived.Lib.SliceRun
import Derived.Lib.JoinLaws
import Derived.Laws.Externs
import Derived.Laws.Bits64b
import Derived.Deep.LoopGhost
import Derived.Laws.IdiomStrings
import Derived.Laws.BytesString
import Derived.Lib.Overlaps
import Derived.Lib.AppendZerosOnto
import Derived.Laws.AppendOwn
import Derived.Laws.IdiomCopy
import Derived.ArgAppend
import Derived.Shelf.Strings.Builder1
import Derived.Shelf.Strings.Builder2
import Derived.Shelf.Strings.OnBuilder
import Derived.Shelf.Strings.Trim
import Derived.Shelf.Small.Strs
import Derived.Shelf.Small.Wraps
import Derived.Shelf.Strconv.Itoa0
import Derived.Shelf.Strconv.Itoa1
import Derived.Shelf.LaysM
import Derived.Shelf.Strconv.Itoa2
import Derived.Shelf.Strconv.Itoa3
import Derived.Shelf.Strconv.Itoa4
import Derived.Shelf.Strings.Search1
import Derived.Shelf.Strings.Search2
import Derived.Shelf.Strings.Search3
import Derived.Shelf.Strings.Cut
import Derived.Shelf.Strings.Count
import Derived.Shelf.Strings.Shaped
import Derived.Shelf.Strings.Prefix
import Derived.Shelf.Strings.Split
import Derived.Shelf.Strings.Replace
import Derived.Shelf.Strings.SplitShaped
import Derived.Shelf.Unicode.Decode
import Derived.Shelf.Strings.Runes
import Derived.Shelf.Strings.RuneCount
import Derived.Shelf.Strings.IndexAny
import Derived.Shelf.Strings.AsciiSet
import Derived.Shelf.Strings.Explode
import Derived.Shelf.Unicode.DecodeSlow
import Derived.Shelf.Strings.SlTrimAscii
import Derived.Lib.AppendIntMem
set_option linter.unusedVariables false
set_option linter.unusedSimpArgs false
set_option linter.unusedVariables false
set_option linter.unusedSimpArgs false
section
namespace Go.Dk
open Go.Proofs Go.Shelf Go.RowKit Go.Lib
variable {P:Program} {ρ:Ren}
theorem bcase' (b:Bool):b=true∨b=false:=by cases b<;>simp
theorem zBt (w:World) (s:ByteArray) (i:Nat):Below w.heap.size w (w.iter s i):=(Below.refl _ _).alloc (Nat.le_refl _) _
set_option maxHeartbeats 8000000 in
set_option maxRecDepth 1000000 in
theorem zC4 (L:Lays.n152 P ρ) (s:ByteArray) (w:World) (hascii:∀(j:Nat) b,s.data.toList[j]? = some b→b.toNat<128) :
  Calls P (ρ.f 152) #[.string s,.int .i32 65533] w fun e w'=>e = .returned (.int .i64 (-1))∧Below w.heap.size w w':=by
 have HA:Aside (∀(j:Nat) b,s.data.toList[j]? = some b→b.toNat<128):=hascii
 clear hascii
 have mixed:=L.mixed;have t3:=L.t3; have a3:=L.a3; have z3:=L.z3; have v3:=L.v3;have t4:=L.t4; have a4:=L.a4; have z4:=L.z4; have v4:=L.v4;have t5:=L.t5; have a5:=L.a5; have z5:=L.z5; have v5:=L.v5;have t9:=L.t9; have a9:=L.a9; have z9:=L.z9; have v9:=L.v9;have t21:=L.t21; have a21:=L.a21; have z21:=L.z21; have v21:=L.v21
 go_enter L.f152,Body.n152_ntmps ρ
 go_wp2
 go_loopg [5,6] s.size (fun g _ _ wx=>∃i:Nat,i+g=s.size∧wx=w.iter s i)
 case atStart=>exact ⟨0,by omega,rfl⟩
 case round =>
  obtain ⟨i,hig,rfl⟩:=hrel
  cases gk with
  | zero =>
   obtain rfl:i=s.size:=by omega
   have hnx:=run_next_end (P:=P) w s s.size
   go_wp2
   go_ret
   exact ⟨rfl,zBt ..⟩
  | succ g =>
   have hi:i<s.size:=by omega
   obtain ⟨x,hx⟩:∃x:UInt8,s[i]'hi=x:=⟨_,rfl⟩
   have hxl:s.data.toList[i]? = some x:=by rw [← hx]; exact Lib.data_getElem? s i hi
   have hx128:x.toNat<128:=HA.out i x hxl;have hnx:=fun ty=>run_next_ascii (P:=P) w s i ty hi (by rw [hx]; exact hx128);rw [hx] at hnx;have hne:((x.toNat:Int)==65533)=false:=beq_eq_false_iff_ne.2 (by omega)
   go_wp2
   go_roundg g
   case measure=>omega
   case rel=>exact ⟨i+1,by omega,rfl⟩
set_option maxHeartbeats 8000000 in
set_option maxRecDepth 1000000 in
theorem zC5 (L:Lays.n152 P ρ) (s:ByteArray) (r:Int) (w:World) (h1:128≤r) (hne:(r==65533)=false) (hv:Go.Lib.validRune r=false) :
  Calls P (ρ.f 152) #[.string s,.int .i32 r] w fun e w'=>e = .returned (.int .i64 (-1))∧w'=w:=by
 have mixed:=L.mixed;have t3:=L.t3; have a3:=L.a3; have z3:=L.z3; have v3:=L.v3;have t4:=L.t4; have a4:=L.a4; have z4:=L.z4; have v4:=L.v4;have t5:=L.t5; have a5:=L.a5; have z5:=L.z5; have v5:=L.v5;have t9:=L.t9; have a9:=L.a9; have z9:=L.z9; have v9:=L.v9;have t21:=L.t21; have a21:=L.a21; have z21:=L.z21; have v21:=L.v21;have e119:∀args w,(callFunc (ρ.f 119) args).run P w = .ok (.enter (ρ.f 119) args) w:=enters_of L.f119 (by kernel_rfl) rfl
 have h0:(0:Int)≤r:=by omega
 have h2:¬ (r<128):=by omega
 go_enter L.f152,Body.n152_ntmps ρ
 go_wp2_with (go_at_fn (ρ.f 119); refine (Any.utf8_ValidRune { L with } _ _).mono ?_; rintro e w' ⟨rfl,hw⟩; rw [hw,hv])
 go_ret
 exact ⟨rfl,rfl⟩
theorem zIa (r:Int) (h1:128≤r) (b:Lib.validRune r=true):1<(Utf8.encode r).size∧(Utf8.encode r).size≤4∧∀(h:(Utf8.encode r).size-1<(Utf8.encode r).size),128≤((Utf8.encode r)[(Utf8.encode r).size-1]'h).toNat:=by
 have a:Utf8.valid r=true:=by
  simp only [Lib.validRune,decide_eq_true_eq] at b;simp [Utf8.valid]; omega
 exact encode_facts r a h1
theorem zQZ (l:List UInt8) (c:UInt8) (hc:128≤c.toNat) (h:∀b∈l,b.toNat<128):Lib.indexByte l c = -1:=by
 induction l with
 | nil=>rfl
 | cons b l f =>
  have d:(b==c)=false:=by
   refine beq_eq_false_iff_ne.2 fun e=>?_;have:=h b (List.mem_cons_self ..);rw [e] at this; omega
  simp only [Lib.indexByte,d,f (fun x a=>h x (List.mem_cons_of_mem _ a))];rfl
set_option maxHeartbeats 8000000 in
set_option maxRecDepth 1000000 in
theorem zC6 (L:Lays.n152 P ρ) (s:ByteArray) (r:Int) (w:World) (h1:128≤r) (hne:(r==65533)=false) (hv:Go.Lib.validRune r=true) (hs:s.size<4294967281) (hascii:∀(j:Nat) b,s.data.toList[j]? = some b→b.toNat<128) :
  Calls P (ρ.f 152) #[.string s,.int .i32 r] w fun e w'=>e = .returned (.int .i64 (-1))∧Below w.heap.size w w':=by
 have HA:Aside (∀(j:Nat) b,s.data.toList[j]? = some b→b.toNat<128):=hascii
 clear hascii
 have mixed:=L.mixed;have t3:=L.t3; have a3:=L.a3; have z3:=L.z3; have v3:=L.v3;have t4:=L.t4; have a4:=L.a4; have z4:=L.z4; have v4:=L.v4;have t5:=L.t5; have a5:=L.a5; have z5:=L.z5; have v5:=L.v5;have t9:=L.t9; have a9:=L.a9; have z9:=L.z9; have v9:=L.v9;have t21:=L.t21; have a21:=L.a21; have z21:=L.z21; have v21:=L.v21;have e119:∀args w,(callFunc (ρ.f 119) args).run P w = .ok (.enter (ρ.f 119) args) w:=enters_of L.f119 (by kernel_rfl) rfl;have e137:∀args w,(callFunc (ρ.f 137) args).run P w = .ok (.enter (ρ.f 137) args) w:=enters_of L.f137 (by kernel_rfl) rfl
 have h0:(0:Int)≤r:=by omega
 have h2:¬ (r<128):=by omega
 have hsome:(P.underlying (ρ.t 21)).isSome=true:=by rw [t21]; rfl
 obtain ⟨hz,h4,hl⟩:=zIa r h1 hv;obtain ⟨rs,hrs⟩:∃rs,Utf8.encode r=rs:=⟨_,rfl⟩;have hcv:=fun w=>run_convert_int_string (P:=P) w (ρ.t 21) (ρ.t 9) .i32 r hsome t9;rw [hrs] at hcv hz h4 hl;obtain ⟨m,hm⟩:∃m,rs.size=m+1:=⟨rs.size-1,by omega⟩
 have hmr:m<rs.size:=by omega
 have hlm:128≤(rs[m]'hmr).toNat:=by
  have:=hl (by omega);simpa only [show rs.size-1=m by omega] using this
 clear hl
 have hsz:(rs.size:Int)-1=(m:Int):=by omega
 obtain ⟨c,hc⟩:∃c:UInt8,rs[m]'hmr=c:=⟨_,rfl⟩;rw [hc] at hlm
 go_enter L.f152,Body.n152_ntmps ρ
 go_wp2_with (go_at_fn (ρ.f 119); refine (Any.utf8_ValidRune { L with } _ _).mono ?_; rintro e w' ⟨rfl,hw⟩; rw [hw,hv])
 go_step3
 go_wp2
 go_loopg [9,10,11,12] 0 (fun g v _ _ _ wx=>v = .int .i64 (m:Int)∧wx=w)
 case atStart=>exact ⟨rfl,rfl⟩
 case round =>
  obtain ⟨rfl,rfl⟩:=hrel
  by_cases hlt:(m:Int)<(s.size:Int)
  ·have hms:m<s.size:=by omega
   obtain ⟨x,hx⟩:∃x:UInt8,s[m]'hms=x:=⟨_,rfl⟩
   have hxl:s.data.toList[m]? = some x:=by rw [← hx]; exact Lib.data_getElem? s m hms
   have hx128:x.toNat<128:=HA.out m x hxl;have hne:((x.toNat:Int)==(c.toNat:Int))=false:=beq_eq_false_iff_ne.2 (by omega)
   clear hxl
   go_wp2
   go_step3
   go_wp2
   go_region_o
   go_wp2
   have hno:Lib.indexByte (List.take (s.size-(m+1)) (List.drop (m+1) s.data.toList)) c = -1:=by
    refine zQZ _ _ hlm fun b hb=>?_;obtain ⟨j,hj⟩:=List.mem_iff_getElem?.1 (List.mem_of_mem_drop (List.mem_of_mem_take hb));exact HA.out j b hj
   have hlt0:Lib.indexByte (List.take (s.size-(m+1)) (List.drop (m+1) s.data.toList)) c<0:=by omega
   have hq1:(0:Int)≤(m:Int)+1:=by omega
   have hq2:(m:Int)+1≤(s.size:Int):=by omega
   have hwr:IntKind.i64.wrap ((m:Int)+1)=(m:Int)+1:=by simp [IntKind.wrap,IntKind.signed,IntKind.bits]; omega
   have hq3:m+1≤s.size:=hms
   have hq4:¬ ((s.size:Int)<(m:Int)+1):=by omega
   have hq5:¬ (s.size<m+1):=by omega
   have hq6:(m:Int)<(m:Int)+1:=by omega
   have hback:((c.toNat:Int)).toNat.toUInt8=c:=by simp
   go_region_with_o (go_at_fn (ρ.f 137); refine (Any.strings_IndexByte { L with } _ _ _).mono ?_; rintro e w' ⟨rfl,rfl⟩)
   go_wp2
   simp only [Exit.noGoto,Exit.inBlock,Exit.then]
   go_ret
   exact ⟨rfl,((Below.refl _ _).drew).drew⟩
  ·go_wp2
   go_ret
   exact ⟨rfl,Below.refl _ _⟩
theorem zFP (L:Lays.n152 P ρ) (s:ByteArray) (r:Int) (w:World) (h1:128≤r) (i:s.size<4294967281) (a:∀(j:Nat) b,s.data.toList[j]? = some b→b.toNat<128) :
  Calls P (ρ.f 152) #[.string s,.int .i32 r] w fun e w'=>e = .returned (.int .i64 (-1))∧Below w.heap.size w w':=by
 by_cases g:r=65533
 ·subst g; exact zC4 L s w a
 ·have c:(r==65533)=false:=beq_eq_false_iff_ne.2 g
  cases d:Lib.validRune r with
  | false=>exact (zC5 L s r w h1 c d).mono fun e w' ⟨h,k⟩=>⟨h,by rw [k]; exact Below.refl _ _⟩
  | true=>exact zC6 L s r w h1 c d i a
theorem zIb (s:ByteArray) (i:Nat) (h:i<s.size) (j:128≤(s[i]'h).toNat):i+(Utf8.decode s i).2≤s.size∧∀k,k<(Utf8.decode s i).2→∀b,s.data.toList[i+k]? = some b→128≤b.toNat:=by
 have g:∀k (hk:i+k<s.size),s.get! (i+k)=s[i+k]'hk:=fun k hk=>by
  show s.get! (i+k)=_;simp [ByteArray.get!,getElem!_pos,hk];rfl
 have key:∀k b,s.data.toList[i+k]? = some b→∃hk:i+k<s.size,s[i+k]'hk=b:=by
  intro k b a;have m:=(List.getElem?_eq_some_iff.1 a).1
  have hk:i+k<s.size:=by rw [Lib.size_eq]; exact m
  refine ⟨hk,?_⟩;have:=Lib.data_getElem? s (i+k) hk;rw [a] at this;exact (Option.some.inj this).symm
 have d:¬ (s.get! (i+0)).toNat<128:=by rw [g 0 h]; simpa using j
 have c:∀k,(decide (i+k<s.size)&&(s.get! (i+k)).toNat/64==2)=true→i+k<s.size∧∀b,s.data.toList[i+k]? = some b→128≤b.toNat:=by
  intro k hk;simp only [Bool.and_eq_true,decide_eq_true_eq,beq_iff_eq] at hk;refine ⟨hk.1,fun b a=>?_⟩;obtain ⟨_,rfl⟩:=key k b a;rw [g k hk.1] at hk;omega
 have f:∀b,s.data.toList[i+0]? = some b→128≤b.toNat:=by
  intro b a;obtain ⟨_,rfl⟩:=key 0 b a;simpa using j
 have one:i+1≤s.size∧∀k,k<1→∀b,s.data.toList[i+k]? = some b→128≤b.toNat:=⟨h,fun k hk=>by
  have h0:k=0:=by omega
  subst h0
  exact f⟩
 have step:∀n,(i+n≤s.size∧∀k,k<n→∀b,s.data.toList[i+k]? = some b→128≤b.toNat)→(decide (i+n<s.size)&&(s.get! (i+n)).toNat/64==2)=true→(i+(n+1)≤s.size∧∀k,k<n+1→∀b,s.data.toList[i+k]? = some b→128≤b.toNat):=by
  intro n hn hc;obtain ⟨l,a⟩:=c n hc;refine ⟨by omega,fun k hk=>?_⟩
  by_cases e:k=n
  ·subst e; exact a
  ·exact hn.2 k (by omega)
 simp only [Utf8.decode,d,if_false]
 split
 ·rename_i hc
  rw [Bool.and_eq_true] at hc
  split
  ·exact step 1 one hc.2
  ·exact one
 ·split
  ·rename_i hc
   rw [Bool.and_eq_true,Bool.and_eq_true] at hc
   split
   ·exact step 2 (step 1 one hc.1.2) hc.2
   ·exact one
  ·split
   ·rename_i hc
    rw [Bool.and_eq_true,Bool.and_eq_true,Bool.and_eq_true] at hc
    split
    ·exact step 3 (step 2 (step 1 one hc.1.1.2) hc.1.2) hc.2
    ·exact one
   ·exact one
set_option maxHeartbeats 8000000 in
set_option maxRecDepth 1000000 in
theorem zBu (L:Lays.n153 P ρ) (s chars:ByteArray) (w:World) (h2:2≤chars.size) (h8:s.size≤8) (hcs:chars.size<4294967281) (hascii:∀(j:Nat) b,chars.data.toList[j]? = some b→b.toNat<128) :
  Calls P (ρ.f 153) #[.string s,.string chars] w fun e w'=>e = .returned (.int .i64 (Lib.indexAny s.data.toList chars.data.toList))∧Below w.heap.size w w':=by
 have HA:Aside (∀(j:Nat) b,chars.data.toList[j]? = some b→b.toNat<128):=hascii
 clear hascii
 have hemp:chars.toList.isEmpty=false:=by
  rw [Lib.toList_data]
  cases h:chars.data.toList with
  | nil=>have:=Lib.size_eq chars; rw [h,List.length_nil] at this; omega
  | cons _ _=>rfl
 have hn1:((chars.size:Int)==1)=false:=beq_eq_false_iff_ne.2 (by omega);have h8z:decide ((8:Int)<(s.size:Int))=false:=decide_eq_false (by omega);have t3:=L.t3; have a3:=L.a3; have z3:=L.z3; have v3:=L.v3;have t4:=L.t4; have a4:=L.a4; have z4:=L.z4; have v4:=L.v4;have t5:=L.t5; have a5:=L.a5; have z5:=L.z5; have v5:=L.v5;have t9:=L.t9; have a9:=L.a9; have z9:=L.z9; have v9:=L.v9;have t21:=L.t21; have a21:=L.a21; have z21:=L.z21; have v21:=L.v21;have e152:∀args w,(callFunc (ρ.f 152) args).run P w = .ok (.enter (ρ.f 152) args) w:=enters_of L.f152 (by kernel_rfl) rfl;have e226:∀args w,(callFunc (ρ.f 226) args).run P w = .ok (.enter (ρ.f 226) args) w:=enters_of L.f226 (by kernel_rfl) rfl
 go_enter L.f153,Body.n153_ntmps ρ
 go_wp2_with (go_at_fn (ρ.f 226); refine (Any.strings_shouldUseASCIISet { L with } _ _).mono ?_; rintro e w' ⟨rfl,hw⟩; rw [hw,h8z])
 go_loopg [9,10] s.size (fun g _ _ wx=>∃i:Nat,i+g=s.size∧wx.heap[w.heap.size]? = some (.stringIter s i)∧Below w.heap.size w wx∧Lib.NoAny s.data.toList chars.data.toList i)
 case atStart=>exact ⟨0,by omega,World.iter_heap ..,zBt ..,Lib.NoAny.zero _ _⟩
 case round =>
  obtain ⟨i,hig,hk,hbel,hno⟩:=hrel;have HN:Aside (Lib.NoAny s.data.toList chars.data.toList i):=hno;have HB:Aside (Below w.heap.size w wr):=hbel
  clear hno hbel
  by_cases hi:i<s.size
  ·obtain ⟨x,hx⟩:∃x:UInt8,s[i]'hi=x:=⟨_,rfl⟩
   have hxl:s.data.toList[i]? = some x:=by rw [← hx]; exact Lib.data_getElem? s i hi
   have Hx:Aside (s.data.toList[i]? = some x):=hxl
   clear hxl
   have HK:Aside (wr.heap[w.heap.size]? = some (.stringIter s i)):=hk;have HX2:Aside (s[i]'hi=x):=hx
   by_cases hx128:x.toNat<128
   ·have hnx:=fun ty=>run_next_ascii_at (P:=P) wr w.heap.size s i ty hk hi (by rw [hx]; exact hx128);rw [hx] at hnx
    clear hx hk
    have hcon:=Lib.contains_iff_indexByte chars.data.toList x
    have hback:((x.toNat:Int)).toNat.toUInt8=x:=by simp
    cases hin:chars.data.toList.contains x
    ·rw [hin] at hcon;have hlt:¬ ((0:Int)≤Lib.indexByte chars.data.toList x):=of_decide_eq_false hcon.symm
     clear hcon
     go_wp2_with (go_at_fn (ρ.f 152); refine (Any.strings_IndexRune_ascii { L with } _ _ _ (by omega) (by omega)).mono ?_; rintro e w' ⟨rfl,hw⟩; rw [hw,hback])
     go_roundg (gk-1)
     case measure=>omega
     case rel=>exact ⟨i+1,by omega,iterAt_heap _ _ _ _ _ HK.out,below_iterAt HB.out (Nat.le_refl _) _ _,HN.out.succ Hx.out hin⟩
    ·rw [hin] at hcon;have hge:(0:Int)≤Lib.indexByte chars.data.toList x:=of_decide_eq_true hcon.symm
     clear hcon
     go_wp2_with (go_at_fn (ρ.f 152); refine (Any.strings_IndexRune_ascii { L with } _ _ _ (by omega) (by omega)).mono ?_; rintro e w' ⟨rfl,hw⟩; rw [hw,hback])
     go_ret
     exact ⟨by rw [Lib.indexAny_hit HN.out Hx.out hin]; rfl,below_iterAt HB.out (Nat.le_refl _) _ _⟩
   ·have hhi:128≤(s[i]'hi).toNat:=by rw [hx]; omega
    have hnx:=fun ty=>run_next_any_at (P:=P) wr w.heap.size s i ty hk hi;obtain ⟨hspan,hbytes⟩:=zIb s i hi hhi;obtain ⟨h128,hwid⟩:=decode_high s i hi hhi;have HS:Aside (∀k,k<(Utf8.decode s i).2→∀b,s.data.toList[i+k]? = some b→128≤b.toNat):=hbytes
    clear hbytes hx hk hhi
    obtain ⟨dr,hdr⟩:∃dr,(Utf8.decode s i).1=dr:=⟨_,rfl⟩;obtain ⟨dw,hdw⟩:∃dw,(Utf8.decode s i).2=dw:=⟨_,rfl⟩;rw [hdr] at hnx h128;rw [hdw] at hnx hspan hwid HS
    clear hdr hdw
    have hdr:(128:Int)≤(dr:Int):=by omega
    go_wp2_with (go_at_fn (ρ.f 152); refine (zFP { L with } _ _ _ hdr hcs HA.out).mono ?_; rintro e w' ⟨rfl,hw⟩)
    go_roundg (gk-dw)
    case measure=>omega
    case rel =>
     refine ⟨i+dw,by omega,?_,?_,fun j b hj hb=>?_⟩
     ·exact (hw.block _ (by rw [iterAt_size]; exact (Array.getElem?_eq_some_iff.1 HK.out).1)).trans (iterAt_heap _ _ _ _ _ HK.out)
     ·have hge:w.heap.size≤(wr.iterAt w.heap.size s (i+dw)).heap.size:=by
       rw [iterAt_size]; exact HB.out.size
      exact (below_iterAt HB.out (Nat.le_refl _) _ _).trans (hw.mono hge)
     ·by_cases hji:j<i
      ·exact HN.out j b hji hb
      ·have h128b:=HS.out (j-i) (by omega) b (by rw [show i+(j-i)=j by omega]; exact hb)
       rcases bcase' (chars.data.toList.contains b) with hc|hc
       ·exfalso
        obtain ⟨q,hq⟩:=List.mem_iff_getElem?.1 (List.contains_iff_mem.1 hc);have:=HA.out q b hq;omega
       ·exact hc
  ·have hnx:=fun ty=>run_next_end_at (P:=P) wr w.heap.size s i ty hk hi
   go_wp2
   go_ret
   have:i=s.size:=by omega
   subst this;exact ⟨by rw [Lib.indexAny_none (by rw [← Lib.size_eq]; exact HN.out)]; rfl,HB.out⟩
theorem zFQ (L:Lays.n153 P ρ) (a:(P.info? (ρ.t 116)).map (fun i=>(i.zero,i.size))=some (some (.agg (Array.replicate 256 (.bool false))),256)) (s chars:ByteArray) (w:World) (k:s.size<4294967281) (d:chars.size<4294967281)
  (c:∀(j:Nat) b,chars.data.toList[j]? = some b→b.toNat<128) :
  Calls P (ρ.f 153) #[.string s,.string chars] w fun e w'=>e = .returned (.int .i64 (Lib.indexAny s.data.toList chars.data.toList))∧Below w.heap.size w w':=by
 by_cases h0:chars.size=0
 ·exact (Any.strings_IndexAny_none L s chars w h0).mono fun e w' ⟨h,g⟩=>⟨h,by rw [g]; exact Below.refl _ _⟩
 ·by_cases h1:chars.size=1
  ·exact (Any.strings_IndexAny_one L s chars w h1 c).mono fun e w' ⟨h,g⟩=>⟨h,by rw [g]; exact Below.refl _ _⟩
  ·by_cases l:s.size≤8
   ·exact zBu L s chars w (by omega) l d c
   ·refine (Any.strings_IndexAny_long L (zero_of_info a).1 (zero_of_info a).2 s chars w (by omega) (by omega) k d c).mono fun e w' ⟨h,g⟩=>⟨h,?_⟩;rw [g];exact ((Below.refl _ _).alloc (Nat.le_refl _) _).alloc (Nat.le_of_lt (by show _<(Array.push _ _).size; simp)) _
end Go.Dk
end
section
namespace Go.Proofs
open Go.Dk Go.Dm Go.RowKit
variable {w0 w:World}
theorem zPd {P:Program} {n:String} {g:Nat} (a:P.globalNamed n=some g) (h:w.heap[g]? = w0.heap[g]?):w.var? P n=w0.var? P n:=by
 unfold World.var?;rw [a];simp only [Option.bind_some,h]
def zi7 (w:World):Prop:=6≤w.heap.size∧(∃m,w.cell? ⟨0,0,none⟩=some (.int .i64 m))
def Away (F:List Nat):Prop:=∀b∈F,6≤b
theorem zPe:Away []:=fun b a=>by cases a
theorem zi7.same (h:zi7 w0) (c:w0.heap.size≤w.heap.size) (d:∀g,g<6→w.heap[g]? = w0.heap[g]?):zi7 w:=by
 obtain ⟨h0,⟨m,b⟩⟩:=h;exact ⟨Nat.le_trans h0 c,⟨m,(World.cell?_of_block (w:=w0) (a:=⟨0,0,none⟩) (d 0 (by omega))).trans b⟩⟩
theorem zi7.low {B:Nat} (h:zi7 w0) (c:6≤B) (a:Below B w0 w):zi7 w :=
 h.same a.size fun g b=>a.block g (by omega)
theorem zi7.size {w:World} (h:zi7 w):6≤w.heap.size:=h.1
theorem zi7.max {w:World} (h:zi7 w):(∃m,w.cell? ⟨0,0,none⟩=some (.int .i64 m)):=h.2
theorem zi7.own {F:List Nat} {L:List Res} (h:zi7 w0) (b:Away F) (a:Own w0 F w L):zi7 w :=
 h.same a.size fun g d=>a.frame g (by have:=h.size; omega) (fun c=>absurd (b g c) (by omega))
def zk9 (w:World):Prop:=zi7 w∧Go.Lib.TabIs Tryz.prog w "internal/strconv.uint64pow10" .u64 Go.Lib.pow10Tab∧w.cell? ⟨5,15,none⟩=some (.int .u8 4)
theorem zk9.same (h:zk9 w0) (c:w0.heap.size≤w.heap.size) (b:∀g,g<6→w.heap[g]? = w0.heap[g]?):zk9 w:=by
 obtain ⟨h,hp⟩:=h;exact ⟨h.same c b,⟨by have hp:=hp.1; unfold Go.Lib.TabIs at hp ⊢; rw [← hp]; exact zPd (show Tryz.prog.globalNamed "internal/strconv.uint64pow10" = some 3 by kernel_rfl) (b 3 (by omega)),(World.cell?_of_block (w:=w0) (a:=⟨5,15,none⟩) (b 5 (by omega))).trans hp.2⟩⟩
theorem zk9.low {B:Nat} (h:zk9 w0) (c:6≤B) (a:Below B w0 w):zk9 w :=
 h.same a.size fun g b=>a.block g (by omega)
theorem zk9.size {w:World} (h:zk9 w):6≤w.heap.size:=h.1.size
theorem zk9.own {F:List Nat} {L:List Res} (h:zk9 w0) (b:Away F) (a:Own w0 F w L):zk9 w :=
 h.same a.size fun g d=>a.frame g (by have:=h.size; omega) (fun c=>absurd (b g c) (by omega))
def zla (x:Str):List Value:=[str x]
def zpw (x:zZ2):List Value:=[int x.Kind,int x.N]
def zN (x:zZU):List Value:=[str x.Name,str x.Value]
def zrz (x:zZX):List Value:=[int x.Kind,str x.Text]
def zrA (x:z0h):List Value:=[str x.From,str x.To]
theorem ei_195:(Tryz.prog.info? 160).map (fun i=>(i.zero,i.size,i.bytes))=some (some (.agg #[str [],str []]),2,32):=by kernel_rfl
theorem zPf:Elem Tryz.prog 195 160 2 32:=⟨Tryz.underlying195,by obtain ⟨i,h0,h1,h2,a⟩:=info_parts ei_195; exact ⟨i,_,h0,h1,h2,a,rfl⟩,by decide⟩
theorem ei_22:(Tryz.prog.info? 85).map (fun i=>(i.zero,i.size,i.bytes))=some (some (.agg #[str [],str []]),2,32):=by kernel_rfl
theorem el_22:Elem Tryz.prog 22 85 2 32:=⟨Tryz.underlying22,by obtain ⟨i,h0,h1,h2,a⟩:=info_parts ei_22; exact ⟨i,_,h0,h1,h2,a,rfl⟩,by decide⟩
theorem ei_28:(Tryz.prog.info? 47).map (fun i=>(i.zero,i.size,i.bytes))=some (some (.agg #[int 0,int 0]),2,16):=by kernel_rfl
theorem el_28:Elem Tryz.prog 28 47 2 16:=⟨Tryz.underlying28,by obtain ⟨i,h0,h1,h2,a⟩:=info_parts ei_28; exact ⟨i,_,h0,h1,h2,a,rfl⟩,by decide⟩
theorem ei_65:(Tryz.prog.info? 147).map (fun i=>(i.zero,i.size,i.bytes))=some (some (.agg #[int 0,str []]),2,24):=by kernel_rfl
theorem el_65:Elem Tryz.prog 65 147 2 24:=⟨Tryz.underlying65,by obtain ⟨i,h0,h1,h2,a⟩:=info_parts ei_65; exact ⟨i,_,h0,h1,h2,a,rfl⟩,by decide⟩
end Go.Proofs
end
section
namespace Go.Proofs
open Go.Dk Go.Dm Go.RowKit Go.Lib
variable {Q:Exit→Act→World→Prop} {P:Program} {w:World} {o:Oper} {a:Act}
set_option maxHeartbeats 4000000 in
set_option maxRecDepth 100000 in
theorem zQH (w:World) (hc:w.cell? ⟨5,15,none⟩=some (.int .u8 4)):Calls Tryz.prog 458 #[.int .u64 16] w fun e w'=>e = .returned (.int .i64 4)∧w'=w:=by
 have key:IntKind.u64.wrap (bits BinOp.and IntKind.u64 (16:Int) (IntKind.u64.wrap (-(16:Int)))*285870213051353865)/288230376151711744=(15:Int):=by decide +kernel
 have h0:((16:Int)==0)=false:=rfl
 go_enter Tryz.func458,Tryz.ntmps458
 go_wp2_with (simp only [key])
 go_ret
 exact ⟨rfl,rfl⟩
set_option maxHeartbeats 4000000 in
set_option maxRecDepth 100000 in
theorem tz_16 (w:World) (hc:w.cell? ⟨5,15,none⟩=some (.int .u8 4)):Calls Tryz.prog 433 #[.int .u64 16] w fun e w'=>e = .returned (.int .i64 4)∧w'=w:=by
 go_enter Tryz.func433,Tryz.ntmps433
 go_wp2_with (go_at_call 458; refine (zQH w hc).mono ?_; rintro e w' ⟨rfl,rfl⟩)
 go_ret
 exact ⟨rfl,rfl⟩
set_option maxHeartbeats 4000000 in
set_option maxRecDepth 100000 in
theorem zQI (w:World):Calls Tryz.prog 432 #[.int .i64 16] w fun e w'=>e = .returned (.bool true)∧w'=w:=by
 have key:bits BinOp.and IntKind.i64 (16:Int) (15:Int)=0:=by decide +kernel
 go_enter Tryz.func432,Tryz.ntmps432
 go_wp2_with (simp only [key])
 go_ret
 exact ⟨rfl,rfl⟩
def digs:ByteArray:={ data := #[48,49,50,51,52,53,54,55,56,57,97,98,99,100,101,102,103,104,105,106,107,108,109,110,111,112,113,114,115,116,117,118,119,120,121,122] }
theorem zKM (m:Nat) (a:m<16) (h:m<digs.size):digs[m]'h=zsg m:=by
 have:m=0∨m=1∨m=2∨m=3∨m=4∨m=5∨m=6∨m=7∨m=8∨m=9∨m=10∨m=11∨m=12∨m=13∨m=14∨m=15:=by omega
 rcases this with rfl|rfl|rfl|rfl|rfl|rfl|rfl|rfl|rfl|rfl|rfl|rfl|rfl|rfl|rfl|rfl<;>rfl
theorem zJO {g u:Nat} (a:u<16):zry g u=[zsg u]:=by
 cases g with
 | zero=>rfl
 | succ g=>unfold zry; rw [if_pos a]
theorem zzj {ops:Array Oper} {rest:List Oper} (c:o.guard=none) (x:Operand) (t t':TypeId) (f:o.op = .convert t t' x) (v:Value) (d:a.eval x=v) {b:Value}
  (i:(convert t t' v).run P w = .ok b w) (h:wpList P ops Q rest (a.put o.dst b) w):wpList P ops Q (o::rest) a w :=
 wpList_plain c fun _ g=>by
  have e:(execOp a.eval o).run P w = .ok (.value b) w:=by
   unfold execOp;simp only [f,d,Sem.run_bind,i,Result.andThen_ok,Sem.run_pure]
  unfold Oper.wp;rw [e];exact g _ _ h
theorem zQJ {K:Act→World→Prop} (m:Nat) (x y:Operand) (t t':TypeId) (d:o.op = .binOp .shr t x y t') (b:a.eval x = .int .u64 m) (c:a.eval y = .int .u64 4)
  (h:K (a.put o.dst (.int .u64 ((m/16:Nat):Int))) w):o.wp P a w K Q:=by
 have e:(execOp a.eval o).run P w = .ok (.value (.int .u64 ((m/16:Nat):Int))) w:=by
  unfold execOp;simp only [d,b,c]
  have f:Int.fdiv (m:Int) 16=((m/16:Nat):Int):=by rw [Int.fdiv_eq_ediv_of_nonneg _ (by omega)]; omega
  simp [eqGuard,binOp,Op.shift,Result.andThen,IntKind.bits,f]
 unfold Oper.wp;rw [e];exact h
theorem zHS {ops:Array Oper} {rest:List Oper} (b:o.guard=none) (m:Nat) (x y:Operand) (t t':TypeId) (e:o.op = .binOp .shr t x y t') (d:a.eval x = .int .u64 m) (c:a.eval y = .int .u64 4)
  (h:wpList P ops Q rest (a.put o.dst (.int .u64 ((m/16:Nat):Int))) w):wpList P ops Q (o::rest) a w :=
 wpList_plain b fun _ f=>zQJ m x y t t' e d c (f _ _ h)
set_option maxHeartbeats 4000000 in
set_option maxRecDepth 100000 in
theorem zC3 (n:Nat) (hn:n<1048576) (w:World) (hG:6≤w.heap.size) (hc:w.cell? ⟨5,15,none⟩=some (.int .u8 4)) :
  Calls Tryz.prog 390 #[.slice none 0 0,.int .u64 n,.int .i64 16,.bool false,.bool false] w fun e w'=>e = .returned (.tuple #[.slice none 0 0,str (zry 4 n)])∧Below w.heap.size w w':=by
 have hc1:∀W:World,Below w.heap.size w W→W.cell? ⟨5,15,none⟩=some (.int .u8 4):=fun W hb=>(hb.cell (p:=⟨5,15,none⟩) (show 5<w.heap.size by omega)).trans hc
 go_enter Tryz.func390,Tryz.ntmps390
 go_wp2_with (first|(go_at_call 432; refine (zQI _).mono ?_; rintro e w' ⟨rfl,rfl⟩)|(go_at_call 433; refine (tz_16 _ (hc1 _ (zoo w _))).mono ?_; rintro e w' ⟨rfl,rfl⟩))
 go_loopg [1,13] 4 (fun g u i wx=>∃(un k:Nat) (d:Str) (row:Array Value) (ty:TypeId),u = .int .u64 un∧i = .int .i64 k∧un<16^(g+1)∧60+g<k∧k+d.length=65∧zry 4 n=zry g un++d∧Below w.heap.size w wx∧wx.heap[w.heap.size]? = some (.cells row ty (0,0))∧row.size=65∧∀j,j<d.length→row[k+j]? = d[j]?.map zct)
 case atStart =>
  exact ⟨n,65,[],_,_,rfl,rfl,by omega,by omega,rfl,by simp,zoo w _,zkj _,rfl,fun j hj=>by cases hj⟩
 case round =>
  obtain ⟨un,k,d,row,ty,rfl,rfl,hlt,hk,hkd,hF,hB,hh,hrs,hrow⟩:=hrel;have HB:Aside (Below w.heap.size w wr):=hB;have HH:Aside (wr.heap[w.heap.size]? = some (.cells row ty (0,0))):=hh;have HX:Aside (∀j,j<d.length→row[k+j]? = d[j]?.map zct):=hrow;have HF:Aside (zry 4 n=zry gk un++d):=hF;have HL:Aside (un<16^(gk+1)):=hlt
  clear hB hrow hF hlt
  by_cases hu:16≤un
  ·have hge:(16:Int)≤(un:Int):=by omega
   have hwk:IntKind.i64.wrap ((k:Int)-1)=((k-1:Nat):Int):=by rw [IntKind.wrap_i64]; omega
   have hun:un<18446744073709551616:=by
    have:=HL.out;have h5:16^(gk+1)≤16^5:=Nat.pow_le_pow_right (by omega) (by omega);omega
   have hand:bits BinOp.and IntKind.u64 (un:Int) 15=((un%16:Nat):Int):=by
    have:=bits_and_u64_nat un 15 hun (by omega);rw [show ((15:Nat):Int)=15 from rfl] at this;rw [this,show un &&& 15=un%2^4 from Nat.and_two_pow_sub_one_eq_mod un 4]
   have hi0:(0:Int)≤((un%16:Nat):Int)∧((un%16:Nat):Int)<36:=by omega
   have hk1:k-1<65:=by omega
   obtain ⟨v0,hv0⟩:∃v,row[k-1]? = some v:=⟨_,Array.getElem?_eq_getElem (by omega)⟩
   have hcx:wr.cell? ⟨w.heap.size,k-1,none⟩=some v0:=by simp [World.cell?,HH.out,hv0]
   have hfr:wr.frozen? ⟨w.heap.size,k-1,none⟩=false:=by simp [World.frozen?,HH.out]
   have hsh:((un:Int)/16)=((un/16:Nat):Int):=by omega
   have HV:Aside (row[k-1]? = some v0):=hv0
   clear hv0
   go_wp2_with (refine zHS rfl un _ _ 434 346 rfl rfl rfl ?_; simp only [Act.put,List.setIfInBounds_toArray,List.set_cons_zero,List.set_cons_succ])
   go_roundg (gk-1)
   case measure =>
    have:=HL.out
    by_cases h0:gk=0
    ·subst h0; simp at this; omega
    ·omega
   case rel =>
    have hgk:gk≠0:=by
     intro h0;have:=HL.out;subst h0; simp at this; omega
    obtain ⟨g',rfl⟩:∃g',gk=g'+1:=⟨gk-1,by omega⟩;have hd1:=zKM (un%16) (Nat.mod_lt _ (by decide)) (show un%16<36 by omega);refine ⟨un/16,k-1,zsg (un%16)::d,row.setIfInBounds (k-1) (zct (zsg (un%16))),ty,rfl,rfl,?_,by omega,by simp only [List.length_cons]; omega,?_,HB.out.setCell (p:=⟨w.heap.size,k-1,none⟩) (Nat.le_refl _) _,?_,by simpa using hrs,fun j hj=>?_⟩
    ·have:=HL.out;rw [Nat.pow_succ] at this;simp only [Nat.add_sub_cancel];omega
    ·rw [HF.out];show zry (g'+1) un++d=_;rw [zry,if_neg (by omega)];simp
    ·have e:∀b:UInt8,b=zsg (un%16)→(wr.setCell ⟨w.heap.size,k-1,none⟩ (Value.int IntKind.u8 (b.toNat:Int))).heap[w.heap.size]? = some (Obj.cells (row.setIfInBounds (k-1) (zct (zsg (un%16)))) ty (0,0)):=by
      rintro b rfl;simp [World.setCell,Array.getElem?_modify,HH.out]
     exact e _ hd1
    ·rw [Array.getElem?_setIfInBounds]
     cases j with
     | zero=>simp; omega
     | succ j =>
      have hjd:j<d.length:=by simpa using hj
      rw [if_neg (by omega),show k-1+(j+1)=k+j by omega,HX.out j hjd];simp
  ·have hlt:un<16:=by omega
   have hge:¬ ((16:Int)≤(un:Int)):=by omega
   have hge':(un:Int)<16:=by omega
   have hwk:IntKind.i64.wrap ((k:Int)-1)=((k-1:Nat):Int):=by rw [IntKind.wrap_i64]; omega
   have hi0:(0:Int)≤(un:Int)∧(un:Int)<36:=by omega
   have hi1:un<36:=by omega
   have hk1:k-1<65:=by omega
   have hk2:k-1≤65:=by omega
   have hk66:k≤66:=by omega
   have hk65:k≤65+1:=by omega
   have hk3:¬ (65=k-1):=by omega
   have hk3':¬ (k-1=65):=by omega
   obtain ⟨v0,hv0⟩:∃v,row[k-1]? = some v:=⟨_,Array.getElem?_eq_getElem (by omega)⟩
   have hcx:wr.cell? ⟨w.heap.size,k-1,none⟩=some v0:=by simp [World.cell?,HH.out,hv0]
   have hfr:wr.frozen? ⟨w.heap.size,k-1,none⟩=false:=by simp [World.frozen?,HH.out]
   have HV:Aside (row[k-1]? = some v0):=hv0
   have hR:zry 4 n=zsg un::d:=by rw [HF.out,zJO hlt]; rfl
   have HR:Aside (zry 4 n=zsg un::d):=hR;have HD:Aside (digs[un]'(show un<36 by omega)=zsg un):=zKM un hlt _
   have hcv:∀(val:Value) (L C:Nat),val=zct (zsg un)→L=(zsg un::d).length→(convert 104 9 (.slice (some ⟨w.heap.size,k-1,none⟩) L C)).run Tryz.prog (wr.setCell ⟨w.heap.size,k-1,none⟩ val) = .ok (.string ⟨(zsg un::d).toArray⟩) (wr.setCell ⟨w.heap.size,k-1,none⟩ val):=by
    rintro val L C rfl rfl;refine run_convert_bytes_back _ 104 9 5 ⟨w.heap.size,k-1,none⟩ C (zsg un::d) (by kernel_rfl) (by kernel_rfl) (by kernel_rfl) fun j hj=>?_
    have hh2:(wr.setCell ⟨w.heap.size,k-1,none⟩ (zct (zsg un))).heap[w.heap.size]? = some (Obj.cells (row.setIfInBounds (k-1) (zct (zsg un))) ty (0,0)):=by
     simp [World.setCell,Array.getElem?_modify,HH.out]
    rw [Addr.add_lit];simp only [World.cell?,hh2];rw [Array.getElem?_setIfInBounds]
    cases j with
    | zero=>simp [zct]; omega
    | succ j =>
     have hjd:j<d.length:=by simpa using hj
     rw [show k-1+(j+1)=k+j by omega,if_neg (show ¬ (k-1=k+j) by omega),HX.out j hjd,List.getElem?_eq_getElem hjd];rfl
   have hsl:∀W,(Instr.sliceAt 481 (.pointer (some ⟨w.heap.size,0,none⟩)) (some (.int .i64 ((k-1:Nat):Int))) none none).run Tryz.prog W = .ok (.slice (some ⟨w.heap.size,k-1,none⟩) (65-(k-1)) (65-(k-1))) W:=fun W=>by
    have hal:Tryz.prog.arrayLen 481=65:=by kernel_rfl
    have hel:Tryz.prog.elem 481=5:=by kernel_rfl
    rw [run_sliceAt_array_l (P:=Tryz.prog) W 481 ⟨w.heap.size,0,none⟩ (by rw [hal,hel]; exact Tryz.underlying481) .i64 _ (by omega) (by rw [hal]; omega),hel,zeo (show znB Tryz.prog 5=some 1 by kernel_rfl),hal];simp only [Result.andThen,slicedAt];rw [show (((k-1:Nat):Int)).toNat=k-1 from Int.toNat_natCast _,if_neg (by omega),Addr.add_lit,Nat.mul_one,Nat.zero_add]
   clear hv0 hR
   go_wp2_with (refine zzj rfl _ 104 9 rfl _ rfl (hcv _ _ _ (congrArg (fun c:UInt8=>Value.int .u8 (c.toNat:Int)) HD.out) (by simp only [List.length_cons]; omega)) ?_)
   go_ret2
   exact ⟨by rw [HR.out]; rfl,HB.out.setCell (p:=⟨w.heap.size,k-1,none⟩) (Nat.le_refl _) _⟩
set_option maxHeartbeats 4000000 in
set_option maxRecDepth 100000 in
theorem zBj (n:Nat) (hn:n<1048576) (w:World) (hG:6≤w.heap.size) (hc:w.cell? ⟨5,15,none⟩=some (.int .u8 4)) :
  Calls Tryz.prog 350 #[.int .i64 n,.int .i64 16] w fun e w'=>e = .returned (str (zry 4 n))∧Below w.heap.size w w':=by
 have hwu:IntKind.u64.wrap (n:Int)=(n:Int):=by rw [IntKind.wrap_u64]; omega
 have hnn:¬ ((n:Int)<0):=by omega
 go_enter Tryz.func350,Tryz.ntmps350
 go_wp2_with (go_at_call 390; refine (zC3 n hn w hG hc).mono ?_; rintro e w' ⟨rfl,hb⟩)
 go_ret
 exact ⟨rfl,hb⟩
set_option maxHeartbeats 4000000 in
set_option maxRecDepth 100000 in
theorem zFJ (n:Nat) (hn:n<1048576) (w:World) (hG:6≤w.heap.size) (hc:w.cell? ⟨5,15,none⟩=some (.int .u8 4)) :
  Calls Tryz.prog 288 #[.int .i64 n,.int .i64 16] w fun e w'=>e = .returned (str (zry 4 n))∧Below w.heap.size w w':=by
 go_enter Tryz.func288,Tryz.ntmps288
 go_wp2_with (go_at_call 350; refine (zBj n hn w hG hc).mono ?_; rintro e w' ⟨rfl,hb⟩)
 go_ret
 exact ⟨rfl,hb⟩
end Go.Proofs
end
section
namespace Go.Proofs
open Go.Dk Go.Dm Go.RowKit Go.Lib
theorem zgY (w:World) {P:Program} {ops:Array Oper} {rest:List Oper} {o:Oper} {a:Act} {Q:Exit→Act→World→Prop} (b:o.guard=none) (d s:Operand) (t t':TypeId)
  (f:o.op = .call { callee := .builtin .append,args := #[d,s],argTypes := #[t,t'] }) (v u:Value) (hd:a.eval d=v) (e:a.eval s=u) {c:Value} {w':World}
  (i:(Builtin.append_ #[t,t'] o.type #[v,u]).run P w = .ok c w') (h:wpList P ops Q rest (a.put o.dst c) w'):wpList P ops Q (o::rest) a w :=
 wpList_plain b fun _ g=>by
  unfold Oper.wp execOp;simp only [f,resolve,invoke,builtin,Sem.run_bind,Sem.run_pure,Result.andThen_ok,List.map_toArray,List.map_cons,List.map_nil,hd,e,i];exact g _ _ h
theorem ztT {P:Program} (w:World) (k p ty elem:TypeId) (b o d g:Nat) (a:Addr) (c h sz:Nat) (cs:List Value) (cur:Array Value)
  (m:P.underlying k=some (.slice elem)) (l:znB P elem=some sz) (hn:cs.length=Nat.min c d*sz) (n:w.heap[b]? = some (.cells cur elem (0,0)))
  (i:∀j v,cs[j]? = some v→w.cell? (a.add j)=some v) (e:o+cs.length≤cur.size) (h1:∀v∈cs,v.oneCell'=true) :
  (Builtin.copy_ #[k,p] ty #[.slice (some ⟨b,o,none⟩) d g,.slice (some a) c h]).run P w = .ok (goInt (Nat.min c d)) (w.setRow b (cur.toList.take o++cs++cur.toList.drop (o+cs.length)).toArray):=by
 have q:=run_loadCells_list (P:=P) w a cs i;have f:=run_storeCells_at P b o elem cs 0 cur w n (by simpa using e) h1;simp only [Nat.add_zero] at f;simp [Builtin.copy_,run_underlying m,Builtin.lenOf,Builtin.firstCells,zeo l, ← hn,q,f,Result.andThen]
set_option maxHeartbeats 4000000 in
set_option maxRecDepth 100000 in
theorem zFT (b n c i vb m vc:Nat) (cs vs:List Value) (cur:Array Value) (w:World) (hi:i<n) (hm:0<m) (hroom:n+m≤c) (hc63:c≤9223372036854775807) (hvb:vb≠b)
  (hcl:cs.length=n*2) (hvl:vs.length=m*2) (hg:w.heap[b]? = some (.cells cur 160 (0,0))) (hcz:cur.size=c*2) (hcs:cur.toList.take (n*2)=cs)
  (hvs:∀j v,vs[j]? = some v→w.cell? ⟨vb,j,none⟩=some v) (h1c:∀v∈cs,v.oneCell'=true) (h1v:∀v∈vs,v.oneCell'=true)
  (tA:TypeId) (kA:Nat) (hsa:w.shape? vb=some (tA,kA)) (hsb:w.shape? b=some (160,c*2)) (hfa:w.frozen? ⟨vb,0,none⟩=false) (hfe:w.frozen? ⟨vb,kA,none⟩=false) :
  Calls Tryz.prog 407 #[.slice (some ⟨b,0,none⟩) n c,.int .i64 i,.slice (some ⟨vb,0,none⟩) m vc] w fun e w' =>
   e = .returned (.slice (some ⟨b,0,none⟩) (n+m) c)∧∃l:List Value,l.length=c*2∧l.take ((n+m)*2)=cs.take (i*2)++vs++cs.drop (i*2)∧∃W1,(W1=w.drew.setRow b l.toArray∨∃l',W1=(w.drew.setRow b l').setRow b l.toArray)∧w'=W1:=by
 have mixed:Tryz.prog.follows .mixedOrders=true:=by kernel_rfl
 have hz1:¬ ((m:Int)=0):=by omega
 have hz2:¬ ((i:Int)=(n:Int)):=by omega
 have hov:∀lb cb,(callFunc 440 #[.slice (some ⟨vb,0,none⟩) m vc,.slice (some ⟨b,(i+m)*2,none⟩) lb cb]).run Tryz.prog w = .ok (.value (.bool false)) w:=fun lb cb=>by
  rw [run_callFunc_extern Tryz.func440 (by kernel_rfl) (by kernel_rfl) (by kernel_rfl) (e:=Extern.SlicesOverlaps.overlaps #[195,195] #[4]) (by kernel_rfl),
   Lib.run_overlaps_apart w 195 4 160 Tryz.underlying195 2 (fun w=>zeo (by kernel_rfl)) ⟨vb,0,none⟩ ⟨b,(i+m)*2,none⟩ m vc lb cb hvb tA 160 kA (c*2) hsa hsb (by omega) hfa hfe]
  rfl
 have hdl:(cs.drop (i*2)).length=(n-i)*2:=by rw [List.length_drop,hcl]; omega
 have hcell:∀j v,cs[j]? = some v→w.cell? ⟨b,j,none⟩=some v:=fun j v hj=>by
  rw [← hcs,List.getElem?_take] at hj
  split at hj
  ·simp only [World.cell?,hg]; simpa using hj
  ·cases hj
 have hgd:w.drew.heap[b]? = some (.cells cur 160 (0,0)):=hg
 have hcp1:∀ty dc sc,(Builtin.copy_ #[195,195] ty #[.slice (some ⟨b,(i+m)*2,none⟩) (n+m-(i+m)) dc,.slice (some ⟨b,i*2,none⟩) (n+m-i) sc]).run Tryz.prog w.drew = .ok (goInt (Nat.min (n+m-i) (n+m-(i+m)))) (w.drew.setRow b (cur.toList.take ((i+m)*2)++cs.drop (i*2)++cur.toList.drop ((i+m)*2+(cs.drop (i*2)).length)).toArray):=fun ty dc sc =>
  ztT w.drew _ _ ty 160 b ((i+m)*2) (n+m-(i+m)) dc ⟨b,i*2,none⟩ (n+m-i) sc 2 (cs.drop (i*2)) cur Tryz.underlying195 (by kernel_rfl) (by rw [hdl]; simp only [Nat.min_def]; split<;>omega) hgd
   (fun j v hj=>by rw [Addr.add_lit]; exact hcell (i*2+j) v (by rwa [List.getElem?_drop] at hj))
   (by rw [hdl,hcz]; omega) (fun v hv=>h1c v (List.mem_of_mem_drop hv))
 obtain ⟨l1,hl1⟩:∃l1,l1=cur.toList.take ((i+m)*2)++cs.drop (i*2)++cur.toList.drop ((i+m)*2+(cs.drop (i*2)).length):=⟨_,rfl⟩;rw [← hl1] at hcp1
 have hl1l:l1.length=c*2:=by
  rw [hl1]; simp only [List.length_append,List.length_take,List.length_drop,Array.length_toList,hcz,hcl];rw [Nat.min_eq_left (by omega)]; omega
 have hg1:(w.drew.setRow b l1.toArray).heap[b]? = some (.cells l1.toArray 160 (0,0)):=setRow_heap w.drew b cur l1.toArray 160 (0,0) hgd
 have hcp2:∀(W:World),W.heap=(w.drew.setRow b l1.toArray).heap→∀ty dc,(Builtin.copy_ #[195,195] ty #[.slice (some ⟨b,i*2,none⟩) (n+m-i) dc,.slice (some ⟨vb,0,none⟩) m vc]).run Tryz.prog W = .ok (goInt (Nat.min m (n+m-i))) (W.setRow b (l1.toArray.toList.take (i*2)++vs++l1.toArray.toList.drop (i*2+vs.length)).toArray):=fun W hW ty dc =>
  ztT W _ _ ty 160 b (i*2) (n+m-i) dc ⟨vb,0,none⟩ m vc 2 vs l1.toArray Tryz.underlying195 (by kernel_rfl) (by rw [hvl]; simp only [Nat.min_def]; split<;>omega) (by rw [hW]; exact hg1)
   (fun j v hj=>by
    rw [Addr.add_lit,Nat.zero_add];have h2:=hvs j v hj;simp only [World.cell?] at h2 ⊢;rw [hW,setRow_other w.drew b vb _ hvb]
    exact h2)
   (by rw [hvl]; simp [hl1l]; omega) h1v
 have hw1:IntKind.i64.wrap ((i:Int)+(m:Int))=(i:Int)+(m:Int):=by rw [IntKind.wrap_i64]; omega
 have hw2:IntKind.i64.wrap ((n:Int)+(m:Int))=(n:Int)+(m:Int):=by rw [IntKind.wrap_i64]; omega
 have hb1:(0:Int)≤(i:Int)+(m:Int):=by omega
 have hin:i≤n:=by omega
 have htn:((i:Int)+(m:Int)).toNat=i+m:=by omega
 have hb2:¬ (c=i+m):=by omega
 have hb3:(i:Int)≤(n:Int)+(m:Int):=by omega
 have hb4:¬ (c=i):=by omega
 have hfin:(l1.toArray.toList.take (i*2)++vs++l1.toArray.toList.drop (i*2+vs.length)).length=c*2∧(l1.toArray.toList.take (i*2)++vs++l1.toArray.toList.drop (i*2+vs.length)).take ((n+m)*2)=cs.take (i*2)++vs++cs.drop (i*2):=by
  have e0:l1.toArray.toList=l1:=rfl;rw [e0];refine ⟨by simp only [List.length_append,List.length_take,List.length_drop,hl1l,hvl]; rw [Nat.min_eq_left (by omega)]; omega,?_⟩
  have a1:l1.take (i*2)=cs.take (i*2):=by
   rw [hl1,List.append_assoc,List.take_append_of_le_length (by rw [List.length_take,Array.length_toList,hcz]; omega),List.take_take,Nat.min_eq_left (by omega), ← hcs,List.take_take,Nat.min_eq_left (by omega)]
  have a2:l1.drop (i*2+vs.length)=cs.drop (i*2)++cur.toList.drop ((i+m)*2+(cs.drop (i*2)).length):=by
   have hL:cur.toList.length=c*2:=by rw [Array.length_toList,hcz]
   rw [hl1,List.append_assoc,List.drop_append,List.drop_eq_nil_of_le (by rw [List.length_take,hL,hvl]; omega),List.nil_append,List.length_take,hL,hvl,show i*2+m*2-min ((i+m)*2) (c*2)=0 by omega,List.drop_zero]
  rw [a1,a2, ← List.append_assoc,List.take_append_of_le_length (by simp only [List.length_append,List.length_take,hcl,hvl,hdl]; omega),List.take_of_length_le (by simp only [List.length_append,List.length_take,hcl,hvl,hdl]; omega)]
 clear hl1
 generalize l1.toArray.toList.take (i*2)++vs++l1.toArray.toList.drop (i*2+vs.length)=l2 at hfin hcp2
 go_enter Tryz.func407,Tryz.ntmps407
 go_wp2_with (simp only [hov])
 go_region_law_o (refine step_copy_runI rfl _ _ 195 195 rfl _ _ (by simp [Act.eval,Act.put]) (by simp [Act.eval,Act.put]) (hcp1 _ _ _) ?_)
 go_wp2_with (at_builtin; refine wpList_copy_runI _ rfl _ _ 195 195 rfl _ _ rfl rfl (hcp2 _ rfl _ _) ?_)
 go_ret
 exact ⟨rfl,_,hfin.1,hfin.2,_,.inr ⟨_,rfl⟩,rfl⟩
theorem zvz (w:World) {P:Program} {ops:Array Oper} {rest:List Oper} {o:Oper} {a:Act} {Q:Exit→Act→World→Prop} (b:o.guard=none) (d s:Operand) (t t':TypeId)
  (f:o.op = .call { callee := .builtin .append,args := #[d,s],argTypes := #[t,t'] }) (v u:Value) (hd:a.eval d=v) (e:a.eval s=u) {c:Value} {w':World}
  (g:(Builtin.append_ #[t,t'] o.type #[v,u]).run P w = .ok c w') (h:wpList P ops Q rest (a.put o.dst c) w'):wpList P ops Q (o::rest) a w :=
 zgY w b d s t t' f v u hd e g h
set_option maxHeartbeats 4000000 in
set_option maxRecDepth 100000 in
theorem zIg (b n c i vb m vc:Nat) (cs vs:List Value) (w:World) (hi:i<n) (hm:0<m) (hnc:n≤c) (hroom:c<n+m) (hfit:(n+m)*32≤140737488355328) (hvb:vb<w.heap.size) (hbs:b<w.heap.size)
  (hcl:cs.length=n*2) (hvl:vs.length=m*2) (hcell:∀j v,cs[j]? = some v→w.cell? ⟨b,j,none⟩=some v)
  (hvs:∀j v,vs[j]? = some v→w.cell? ⟨vb,j,none⟩=some v) (h1c:∀v∈cs,v.oneCell'=true) (h1v:∀v∈vs,v.oneCell'=true) :
  Calls Tryz.prog 407 #[.slice (some ⟨b,0,none⟩) n c,.int .i64 i,.slice (some ⟨vb,0,none⟩) m vc] w fun e w' =>
   ∃(C:Nat) (l:List Value),e = .returned (.slice (some ⟨w.heap.size,0,none⟩) (n+m) C)∧n+m≤C∧C≤maxLen∧l.length=C*2∧l.take ((n+m)*2)=cs.take (i*2)++vs++cs.drop (i*2) ∧
    w'.os=w.os∧w'.tape=w.tape∧w'.output=w.output∧w'.heap.size=w.heap.size+1∧(∀j,j<w.heap.size→w'.heap[j]? = w.heap[j]?)∧w'.heap[w.heap.size]? = some (.cells l.toArray 160 (0,0)):=by
 have mixed:Tryz.prog.follows .mixedOrders=true:=by kernel_rfl
 have hz1:¬ ((m:Int)=0):=by omega
 have hz2:¬ ((i:Int)=(n:Int)):=by omega
 have hw2:IntKind.i64.wrap ((n:Int)+(m:Int))=(n:Int)+(m:Int):=by rw [IntKind.wrap_i64]; omega
 have hw3:IntKind.i64.wrap ((n:Int)+(m:Int)-(i:Int))=(((n+m-i:Nat)):Int):=by rw [IntKind.wrap_i64]; omega
 have hw1:IntKind.i64.wrap ((i:Int)+(m:Int))=(i:Int)+(m:Int):=by rw [IntKind.wrap_i64]; omega
 obtain ⟨ti,hti,hts,htb⟩:∃ti,Tryz.prog.info? 160=some ti∧ti.size=2∧ti.bytes=32:=by
  have h:(Tryz.prog.info? 160).map (fun t=>(t.size,t.bytes))=some (2,32):=by kernel_rfl
  obtain ⟨ti,h1,h2⟩:=Option.map_eq_some_iff.1 h;exact ⟨ti,h1,by injection h2,by injection h2⟩
 obtain ⟨z,hz,hzs⟩:∃z,ti.zero=some z∧z.cells.size=2:=by
  have h:((Tryz.prog.info? 160).bind (·.zero)).map (·.cells.size)=some 2:=by kernel_rfl
  rw [hti] at h;obtain ⟨z,h1,h2⟩:=Option.map_eq_some_iff.1 h;exact ⟨z,h1,h2⟩
 have hty3:Tryz.prog.underlying 3=some (.int .i64):=by kernel_rfl
 have hap0:=fun ty=>run_append_grow_zeros (P:=Tryz.prog) w 195 3 ty 160 ti z .i64 .i64 Tryz.underlying195 hty3 hti hz (some ⟨b,0,none⟩) i c (cs.take (i*2))
   (run_firstCells_some (P:=Tryz.prog) w.drew ti.size i ⟨b,0,none⟩ i c (cs.take (i*2)) (by rw [List.length_take,hcl,hts]; omega) (fun j v hj=>by
    rw [Addr.add_lit,Nat.zero_add];rw [List.getElem?_take] at hj
    split at hj
    ·exact hcell j v hj
    ·cases hj))
   (n+m-i) (by omega) (by omega) (by omega) (by omega) (by rw [htb]; omega) (growslice_fits (by omega) (by rw [htb]; omega))
 have hC1:=grownCap_ge w (i+(n+m-i)) c 160;have hC2:=grownCap_le_maxLen w (i+(n+m-i)) c 160 (by simp only [maxLen]; omega)
 have hrl:((cs.take (i*2)).toArray++Builtin.zeroCells z.cells (n+m-i)++Builtin.zeroCells z.cells (grownCap w (i+(n+m-i)) c 160-(i+(n+m-i)))).size=grownCap w (i+(n+m-i)) c 160*2:=by
  simp only [Array.size_append,List.size_toArray,size_zeroCells,hzs,List.length_take,hcl];omega
 have hrt:((cs.take (i*2)).toArray++Builtin.zeroCells z.cells (n+m-i)++Builtin.zeroCells z.cells (grownCap w (i+(n+m-i)) c 160-(i+(n+m-i)))).toList.take (i*2)=cs.take (i*2):=by
  simp only [Array.toList_append,List.append_assoc]
  have hl:(cs.take (i*2)).length=i*2:=by rw [List.length_take,hcl]; omega
  exact List.take_left' hl
 rw [show i+(n+m-i)=n+m by omega] at hap0 hC1 hC2 hrl hrt;generalize grownCap w (n+m) c 160=C at hap0 hC1 hC2 hrl hrt;generalize (cs.take (i*2)).toArray++Builtin.zeroCells z.cells (n+m-i)++Builtin.zeroCells z.cells (C-(n+m))=row at hap0 hrl hrt;obtain ⟨W1,hW1⟩:∃W1,W1=w.drew.alloc (.cells row 160):=⟨_,rfl⟩;rw [← hW1] at hap0
 have g1:W1.heap[w.heap.size]? = some (.cells row 160 (0,0)):=by rw [hW1]; exact heap_alloc_new w.drew _
 have o1:∀j,j<w.heap.size→W1.heap[j]? = w.heap[j]? := fun j hj=>by rw [hW1]; exact heap_alloc_old w.drew _ hj
 have hcp1:∀ty dc,(Builtin.copy_ #[195,195] ty #[.slice (some ⟨w.heap.size,i*2,none⟩) (n+m-i) dc,.slice (some ⟨vb,0,none⟩) m vc]).run Tryz.prog W1 = .ok (goInt (Nat.min m (n+m-i))) (W1.setRow w.heap.size (row.toList.take (i*2)++vs++row.toList.drop (i*2+vs.length)).toArray):=fun ty dc =>
  ztT W1 _ _ ty 160 w.heap.size (i*2) (n+m-i) dc ⟨vb,0,none⟩ m vc 2 vs row Tryz.underlying195 (by kernel_rfl) (by rw [hvl]; simp only [Nat.min_def]; split<;>omega) g1
   (fun j v hj=>by
    rw [Addr.add_lit,Nat.zero_add];have h2:=hvs j v hj;simp only [World.cell?] at h2 ⊢;rw [o1 vb hvb]
    exact h2)
   (by rw [hvl,hrl]; omega) h1v
 obtain ⟨l2,hl2⟩:∃l2,l2=row.toList.take (i*2)++vs++row.toList.drop (i*2+vs.length):=⟨_,rfl⟩;rw [← hl2] at hcp1
 have hl2l:l2.length=C*2:=by
  rw [hl2]; simp only [List.length_append,List.length_take,List.length_drop,Array.length_toList,hrl,hvl];rw [Nat.min_eq_left (by omega)]; omega
 have hl2t:l2.take ((i+m)*2)=cs.take (i*2)++vs:=by
  rw [hl2,hrt]
  have hl:(cs.take (i*2)++vs).length=(i+m)*2:=by rw [List.length_append,List.length_take,hcl,hvl]; omega
  exact List.take_left' hl
 have hdl:(cs.drop (i*2)).length=(n-i)*2:=by rw [List.length_drop,hcl]; omega
 have g2:(W1.setRow w.heap.size l2.toArray).heap[w.heap.size]? = some (.cells l2.toArray 160 (0,0)):=setRow_heap W1 w.heap.size row l2.toArray 160 (0,0) g1
 have hcp2:∀(W:World),W.heap=(W1.setRow w.heap.size l2.toArray).heap→∀ty dc sc,(Builtin.copy_ #[195,195] ty #[.slice (some ⟨w.heap.size,(i+m)*2,none⟩) (n+m-(i+m)) dc,.slice (some ⟨b,i*2,none⟩) (n-i) sc]).run Tryz.prog W = .ok (goInt (Nat.min (n-i) (n+m-(i+m)))) (W.setRow w.heap.size (l2.toArray.toList.take ((i+m)*2)++cs.drop (i*2)++l2.toArray.toList.drop ((i+m)*2+(cs.drop (i*2)).length)).toArray):=fun W hW ty dc sc =>
  ztT W _ _ ty 160 w.heap.size ((i+m)*2) (n+m-(i+m)) dc ⟨b,i*2,none⟩ (n-i) sc 2 (cs.drop (i*2)) l2.toArray Tryz.underlying195 (by kernel_rfl) (by rw [hdl]; simp only [Nat.min_def]; split<;>omega) (by rw [hW]; exact g2)
   (fun j v hj=>by
    rw [Addr.add_lit];have h2:=hcell (i*2+j) v (by rwa [List.getElem?_drop] at hj);simp only [World.cell?] at h2 ⊢;rw [hW,setRow_other W1 w.heap.size b _ (by omega),o1 b hbs]
    exact h2)
   (by rw [hdl]; simp [hl2l]; omega) (fun v hv=>h1c v (List.mem_of_mem_drop hv))
 have hfin:(l2.toArray.toList.take ((i+m)*2)++cs.drop (i*2)++l2.toArray.toList.drop ((i+m)*2+(cs.drop (i*2)).length)).length=C*2∧(l2.toArray.toList.take ((i+m)*2)++cs.drop (i*2)++l2.toArray.toList.drop ((i+m)*2+(cs.drop (i*2)).length)).take ((n+m)*2)=cs.take (i*2)++vs++cs.drop (i*2):=by
  have e0:l2.toArray.toList=l2:=rfl;rw [e0,hl2t];refine ⟨by simp only [List.length_append,List.length_take,List.length_drop,hl2l,hvl,hcl]; omega,?_⟩
  have hl:(cs.take (i*2)++vs++cs.drop (i*2)).length=(n+m)*2:=by rw [List.length_append,List.length_append,List.length_take,hcl,hvl,hdl]; omega
  exact List.take_left' hl
 generalize l2.toArray.toList.take ((i+m)*2)++cs.drop (i*2)++l2.toArray.toList.drop ((i+m)*2+(cs.drop (i*2)).length)=l3 at hfin hcp2
 obtain ⟨q1,q2,q3,q4⟩:W1.os=w.os∧W1.tape=w.tape∧W1.output=w.output∧W1.heap.size=w.heap.size+1:=by rw [hW1]; exact ⟨rfl,rfl,rfl,by simp⟩
 clear hl2 hrt hl2t hrl hW1
 have hcp3:=hcp2 (W1.setRow w.heap.size l2.toArray).drew rfl
 clear hcp2
 have hb1:¬ (c=i):=by omega
 have hin:i≤n:=by omega
 have hcn:¬ (n+m≤c):=by omega
 have hci:(c:Int)<(n:Int)+(m:Int):=by omega
 have hic:i≤c:=by omega
 have htn:((i:Int)+(m:Int)).toNat=i+m:=by omega
 have hd1:(0:Int)≤(i:Int)+(m:Int):=by omega
 have hd2:¬ (C=i+m):=by omega
 have hd3:(i:Int)≤(n:Int)+(m:Int):=by omega
 have hd4:¬ (C=i):=by omega
 go_enter Tryz.func407,Tryz.ntmps407
 go_wp2_with (at_builtin; refine zvz _ rfl _ _ 195 3 rfl _ _ rfl rfl (hap0 _) ?_)
 go_wp2_with (at_builtin; refine wpList_copy_runI _ rfl _ _ 195 195 rfl _ _ rfl rfl (hcp1 _ _) ?_)
 go_region_law_o (refine step_copy_runI rfl _ _ 195 195 rfl _ _ (by simp [Act.eval,Act.put]) (by simp [Act.eval,Act.put]) (hcp3 _ _ _) ?_)
 go_wp2
 go_ret
 exact ⟨C,l3,rfl,hC1,hC2,hfin.1,hfin.2,q1,q2,q3,by simp [World.setRow,q4],fun j hj=>(setRow_other (W1.setRow w.heap.size l2.toArray).drew w.heap.size j _ (by omega)).trans ((setRow_other W1 w.heap.size j _ (by omega)).trans (o1 j hj)),setRow_heap (W1.setRow w.heap.size l2.toArray).drew w.heap.size l2.toArray l3.toArray 160 (0,0) g2⟩
set_option maxHeartbeats 4000000 in
set_option maxRecDepth 100000 in
theorem zIh (b n c vb m vc:Nat) (w w1:World) (hm:0<m) (ad:Option Addr) (C:Nat) (hnc:n≤c)
  (hap:∀ty,(Builtin.append_ #[195,195] ty #[.slice (some ⟨b,0,none⟩) n c,.slice (some ⟨vb,0,none⟩) m vc]).run Tryz.prog w = .ok (.slice ad (n+m) C) w1) :
  Calls Tryz.prog 407 #[.slice (some ⟨b,0,none⟩) n c,.int .i64 n,.slice (some ⟨vb,0,none⟩) m vc] w fun e w'=>e = .returned (.slice ad (n+m) C)∧w'=w1:=by
 have hz1:¬ ((m:Int)=0):=by omega
 by_cases hcn:c=n
 ·subst hcn
  go_enter Tryz.func407,Tryz.ntmps407
  go_wp2_with (at_builtin; refine zgY _ rfl _ _ 195 195 rfl _ _ rfl rfl (hap _) ?_)
  go_ret
  exact ⟨rfl,rfl⟩
 ·go_enter Tryz.func407,Tryz.ntmps407
  go_wp2_with (at_builtin; refine zgY _ rfl _ _ 195 195 rfl _ _ rfl rfl (hap _) ?_)
  go_ret
  exact ⟨rfl,rfl⟩
set_option maxHeartbeats 4000000 in
set_option maxRecDepth 100000 in
theorem zIi (vb m vc:Nat) (w w1:World) (hm:0<m) (ad:Option Addr) (C:Nat)
  (hap:∀ty,(Builtin.append_ #[195,195] ty #[.slice none 0 0,.slice (some ⟨vb,0,none⟩) m vc]).run Tryz.prog w = .ok (.slice ad m C) w1) :
  Calls Tryz.prog 407 #[.slice none 0 0,.int .i64 0,.slice (some ⟨vb,0,none⟩) m vc] w fun e w'=>e = .returned (.slice ad m C)∧w'=w1:=by
 have hz1:¬ ((m:Int)=0):=by omega
 go_enter Tryz.func407,Tryz.ntmps407
 go_wp2_with (at_builtin; refine zgY _ rfl _ _ 195 195 rfl _ _ rfl rfl (hap _) ?_)
 go_ret
 exact ⟨rfl,rfl⟩
theorem zJ5 {w w':World} (b:Option Nat) (h1:w'.os=w.os) (h2:w'.tape=w.tape) (a:w'.output=w.output) (e:w.heap.size≤w'.heap.size) (c:∀j,j<w.heap.size→w'.heap[j]? = w.heap[j]?):w.grownBy w' b :=
 ⟨h1,h2,a,e,fun k d _=>c k d⟩
set_option maxHeartbeats 400000 in
set_option maxRecDepth 100000 in
theorem zQ4 (a:List zZU) (L:Int) (c:List zZU) (R:List zZU) (w0:World) {m:Option Addr} {d:Nat} {r:Option Addr} {f:Nat} {F:List Nat}
  (q:Dk.Own w0 F w0 [.row (.slice m a.length d) 160 2 a.length (cells zN a),.row (.slice r c.length f) 160 2 c.length (cells zN c)]) (hm:zcN a L c=some R) :
  Calls Tryz.prog 407 #[.slice m a.length d,int L,.slice r c.length f] w0 fun e w'=>∃(p0:Option Addr) (c0:Nat),e = .returned (.slice p0 R.length c0)∧Dk.Own w0 F w' [.row (.slice p0 R.length c0) 160 2 R.length (cells zN R)]:=by
 unfold zcN at hm
 split at hm
 ·rename_i hc
  obtain ⟨h1,h2,h3,h4⟩:=hc;obtain rfl:=Option.some.inj hm;have A:∀x:zZU,(zN x).length=2:=fun _=>rfl;have s:∀(l:List zZU), ∀v∈cells zN l,v.oneCell'=true:=fun l=>Dk.cells_one' (fun x u hu=>by simp [zN] at hu; rcases hu with rfl|rfl<;>rfl) l;have hel:Elem Tryz.prog 195 160 2 32:=zPf;obtain ⟨hu,⟨ti,z,hti,hz,hs1,hs2,hzs⟩,hpos⟩:=hel;have h4':=h4;simp only [zf,Bool.and_eq_true,decide_eq_true_eq] at h4'
  rcases r with _|⟨y,vo,vsp⟩
  ·rcases (q.get (i:=1) rfl).2 with ⟨M,hn⟩|⟨g,cap,cur,p,_⟩
   ·have:c.length=0:=hn;omega
   ·cases p
  have hsv:(⟨y,vo,vsp⟩:Addr)=⟨y,0,none⟩:=by
   rcases (q.get (i:=1) rfl).2 with ⟨M,_⟩|⟨g,cap,cur,p,_⟩
   ·cases M
   ·injection p with G _ _
    injection G with G
    injection G with K e3 e4
    subst K e3 e4; rfl
  rw [hsv] at q ⊢;obtain ⟨H,N,hncv,hcmv,hczv,hctv,V⟩:=Dk.own_cur (q.get (i:=1) rfl)
  have hvs:∀j v,(cells zN c)[j]? = some v→w0.cell? ⟨y,j,none⟩=some v:=fun j v B=>by
   have:=((q.rowSees (i:=1) rfl).hard (fun e=>by rw [e] at B; simp at B)).2.2 j v B;simpa using this
  obtain ⟨k,rfl⟩:∃k:Nat,L=k:=⟨L.toNat,by omega⟩
  have hk:((k:Int)).toNat=k:=by simp
  rw [hk]
  have D:∀(ve:Value),ve = .slice m a.length d→k=a.length→(∀(ad:Option Addr) (C:Nat) (w1:World),(∀ty,(Builtin.append_ #[195,195] ty #[ve,.slice (some ⟨y,0,none⟩) c.length f]).run Tryz.prog w0 = .ok (.slice ad (a.length+c.length) C) w1) →
    Calls Tryz.prog 407 #[ve,int k,.slice (some ⟨y,0,none⟩) c.length f] w0 fun e w'=>e = .returned (.slice ad (a.length+c.length) C)∧w'=w1) →
    Calls Tryz.prog 407 #[ve,int k,.slice (some ⟨y,0,none⟩) c.length f] w0 fun e w'=>∃(p0:Option Addr) (c0:Nat),e = .returned (.slice p0 (a.take k++c++a.drop k).length c0)∧Dk.Own w0 F w' [.row (.slice p0 (a.take k++c++a.drop k).length c0) 160 2 (a.take k++c++a.drop k).length (cells zN (a.take k++c++a.drop k))]:=by
   rintro ve rfl hk h;subst hk
   have key:∀ty, ∃O c' w',(Builtin.append_ #[195,195] ty #[.slice m a.length d,.slice (some ⟨y,0,none⟩) c.length f]).run Tryz.prog w0 = .ok (.slice O (a.length+c.length) c') w'∧_:=fun ty =>
    zkk (P:=Tryz.prog) (w:=w0) 195 ty 160 ti z 2 32 hu hti hz hs1 hs2 hzs hpos (.slice m a.length d) a.length _ (q.get (i:=0) rfl) ⟨y,0,none⟩ c.length f (cells zN c) (Dk.cells_length A _)
     (fun j u B=>by rw [Addr.add_lit,Nat.zero_add]; exact hvs j u B) (s _) (by unfold maxLen; omega) h4'.2
   obtain ⟨O,c',w',hr,q2,q3,q4⟩:=key 0;refine (h O c' w' (fun ty=>hr)).mono ?_;rintro e w'' ⟨rfl,rfl⟩
   have n:(a.take a.length++c++a.drop a.length).length=a.length+c.length:=by simp
   have Z:cells zN (a.take a.length++c++a.drop a.length)=cells zN a++cells zN c:=by rw [List.take_length,List.drop_length,List.append_nil,Dk.cells_append]
   rw [n,Z];exact ⟨O,c',rfl,(q.grown (i:=0) rfl q3 q2 q4).sub (.cons_cons _ (.cons _ .slnil))⟩
  by_cases W:k=a.length
  ·rcases m with _|⟨b,o,sp⟩
   ·have hn0:d=0∧a.length=0:=by
     rcases (q.get (i:=0) rfl).2 with ⟨M,hn⟩|⟨g,cap,cur,p,_⟩
     ·injection M with _ G K; exact ⟨K,hn⟩
     ·cases p
    have hk0:k=0:=by omega
    have hv0:Value.slice none a.length d = .slice none 0 0:=by rw [hn0.1,hn0.2]
    rw [hv0];refine D (.slice none 0 0) hv0.symm W fun ad C w1 hr=>?_;subst hk0
    have e0:a.length+c.length=c.length:=by rw [hn0.2,Nat.zero_add]
    rw [e0] at hr ⊢;exact zIi y c.length f w0 w1 (by omega) ad C hr
   ·have I:(⟨b,o,sp⟩:Addr)=⟨b,0,none⟩:=by
     rcases (q.get (i:=0) rfl).2 with ⟨M,_⟩|⟨g,cap,cur,p,_⟩
     ·cases M
     ·injection p with G _ _
      injection G with G
      injection G with K e3 e4
      subst K e3 e4; rfl
    rw [I] at q D ⊢;obtain ⟨cur,hg,Y,hcm,X,hct,hcl⟩:=Dk.own_cur (q.get (i:=0) rfl);refine D _ rfl W fun ad C w1 hr=>?_;rw [W];exact zIh b a.length d y c.length f w0 w1 (by omega) ad C Y hr
  have hik:k<a.length:=by omega
  rcases m with _|⟨b,o,sp⟩
  ·rcases (q.get (i:=0) rfl).2 with ⟨M,hn⟩|⟨g,cap,cur,p,_⟩
   ·have:a.length=0:=hn;omega
   ·cases p
  clear D
  have I:(⟨b,o,sp⟩:Addr)=⟨b,0,none⟩:=by
   rcases (q.get (i:=0) rfl).2 with ⟨M,_⟩|⟨g,cap,cur,p,_⟩
   ·cases M
   ·injection p with G _ _
    injection G with G
    injection G with K e3 e4
    subst K e3 e4; rfl
  rw [I] at q ⊢;obtain ⟨cur,hg,Y,hcm,X,hct,hcl⟩:=Dk.own_cur (q.get (i:=0) rfl)
  have hne:y≠b:=by
   intro e;have hp:=List.pairwise_iff_getElem.1 q.sep 0 1 (by simp) (by simp) (by omega)
   rcases hp with ⟨h,_⟩|h
   ·cases h
   ·exact h b (by simp [Res.fp,Value.ownBlock]) (by simp [Res.fp,Value.ownBlock,e])
  have hcb:d≤9223372036854775807:=hcm
  by_cases J:a.length+c.length≤d
  rotate_left
  ·refine (zIg b a.length d k y c.length f (cells zN a) (cells zN c) w0 hik (by omega) Y (by omega) h4'.2 (Array.getElem?_eq_some_iff.1 N).1 (Array.getElem?_eq_some_iff.1 hg).1 hcl V (fun j v B=>by
    have:=((q.rowSees (i:=0) rfl).hard (fun e=>by rw [e] at B; simp at B)).2.2 j v B
    simpa using this) hvs (s _) (s _)).mono ?_
   rintro e w' ⟨C,l,rfl,g1,g2,g3,g4,g5,g6,g7,g8,g9,g10⟩
   have n:(a.take k++c++a.drop k).length=a.length+c.length:=by simp; omega
   have Z:cells zN (a.take k++c++a.drop k)=(cells zN a).take (k*2)++cells zN c++(cells zN a).drop (k*2):=by
    rw [Dk.cells_append,Dk.cells_append,Dk.cells_take A,Dk.cells_drop A]
   refine ⟨_,C,by rw [n],?_⟩;refine (q.grown (i:=0) rfl (zJ5 _ g5 g6 g7 (by omega) g9) ?_ (.inr rfl)).sub (.cons_cons _ (.cons _ .slnil));rw [n];exact ⟨by rw [Dk.cells_length A,n],.inr ⟨w0.heap.size,C,l.toArray,rfl,Nat.zero_le _,g10,g1,g2,by simpa using g3,by rw [Z]; exact g4⟩⟩
  have U:∀(w':World) (l:List Value),w'.os=w0.os→w'.tape=w0.tape→w'.output=w0.output→w'.heap.size=w0.heap.size→(∀j,j≠b→w'.heap[j]? = w0.heap[j]?)→w'.heap[b]? = some (.cells l.toArray 160 (0,0))→l.length=d*2→l.take ((a.length+c.length)*2)=cells zN (a.take k++c++a.drop k) →
    Dk.Own w0 F w' [.row (.slice (some ⟨b,0,none⟩) (a.take k++c++a.drop k).length d) 160 2 (a.take k++c++a.drop k).length (cells zN (a.take k++c++a.drop k))]:=by
   intro w' l G K e3 e4 e5 e6 e7 e8
   have n:(a.take k++c++a.drop k).length=a.length+c.length:=by simp; omega
   have hT:=q.turn (i:=0) (b:=b) (w':=w') (r' := .row (.slice (some ⟨b,0,none⟩) (a.take k++c++a.drop k).length d) 160 2 (a.take k++c++a.drop k).length (cells zN (a.take k++c++a.drop k))) rfl rfl rfl rfl rfl G K e3 e4 e5
    ⟨Dk.cells_length A _,.inr ⟨b,d,l.toArray,rfl,Nat.zero_le _,e6,by rw [n]; exact J,hcm,by simpa using e7,by rw [n]; exact e8⟩⟩
   exact hT.sub (.cons_cons _ (.cons _ .slnil))
  have E:∀(x:Nat) (cu:Array Value) (t:TypeId),w0.heap[x]? = some (.cells cu t (0,0))→w0.shape? x=some (t,cu.size):=fun x cu t h=>by simp [World.shape?,h]
  have Q:∀(x o:Nat) (cu:Array Value) (t:TypeId),w0.heap[x]? = some (.cells cu t (0,0))→w0.frozen? ⟨x,o,none⟩=false:=fun x o cu t h=>by simp [World.frozen?,h]
  refine (zFT b a.length d k y c.length f (cells zN a) (cells zN c) cur w0 hik (by omega) J hcb hne hcl V hg X hct hvs (s _) (s _) 160 _ (E y H 160 N) (by rw [E b cur 160 hg,X]) (Q y _ H 160 N) (Q y _ H 160 N)).mono ?_;rintro e w' ⟨rfl,l,hll,hlt,W1,hW,rfl⟩
  have T:l.take ((a.length+c.length)*2)=cells zN (a.take k++c++a.drop k):=by
    rw [hlt,Dk.cells_append,Dk.cells_append,Dk.cells_take A,Dk.cells_drop A]
  have S:(a.take k++c++a.drop k).length=a.length+c.length:=by simp; omega
  have hgd:w0.drew.heap[b]? = some (.cells cur 160 (0,0)):=hg
  rcases hW with rfl|⟨l',rfl⟩
  ·exact ⟨_,_,by rw [S],U _ l rfl rfl rfl (by simp [World.setRow]) (fun j B=>setRow_other w0.drew b j _ B) (setRow_heap w0.drew b cur l.toArray 160 (0,0) hgd) hll T⟩
  ·have h5:=setRow_heap w0.drew b cur l' 160 (0,0) hgd;exact ⟨_,_,by rw [S],U _ l rfl rfl rfl (by simp [World.setRow]) (fun j B=>(setRow_other _ b j _ B).trans (setRow_other w0.drew b j _ B)) (setRow_heap _ b l' l.toArray 160 (0,0) h5) hll T⟩
 ·cases hm
end Go.Proofs
end
section
namespace Go.Proofs
open Go.Shelf
theorem ft {α:Type} {a:Option α} {x y:α} (h:a=some x) (e:x=y:=by kernel_rfl):a=some y:=h.trans (congrArg some e)
open Tryz
def Tryz.lays156_ren:Go.Shelf.Ren:=⟨fun|156=>171|165=>212|166=>213|169=>214|240=>277|241=>278|276=>342|277=>343|n=>n,fun|31=>126|9=>9|3=>3|4=>4|0=>0|20=>20|72=>276|76=>279|70=>274|37=>104|75=>278|127=>339|164=>395|5=>5|80=>151|n=>n,fun|n=>n⟩
theorem Tryz.lays156:Go.Proofs.Lays.n156 Tryz.prog Tryz.lays156_ren:=⟨(by kernel_rfl),ft func171,ft func212,ft func213,ft func214,ft func277,ft func278,ft func342,ft func343,underlying0,isAgg0,sizeOf0,zeroValue0,underlying3,isAgg3,sizeOf3,zeroValue3,underlying4,isAgg4,sizeOf4,zeroValue4,underlying9,isAgg9,sizeOf9,zeroValue9,underlying20,isAgg20,sizeOf20,zeroValue20,underlying126,isAgg126,sizeOf126,zeroValue126,underlying104,isAgg104,sizeOf104,zeroValue104,underlying274,isAgg274,sizeOf274,zeroValue274,underlying276,isAgg276,sizeOf276,zeroValue276,underlying278,isAgg278,sizeOf278,zeroValue278,underlying279,isAgg279,sizeOf279,zeroValue279,underlying339,isAgg339,sizeOf339,zeroValue339,underlying395,isAgg395,sizeOf395,zeroValue395⟩
theorem Tryz.Builder_Extra_156:Builder.Extra Tryz.prog Tryz.lays156_ren:={ sizeBuilder:=(by kernel_rfl),liesBuilder:=(by kernel_rfl),t5:=underlying5,a5:=isAgg5,z5:=sizeOf5,v5:=zeroValue5,infoByte:=(by kernel_rfl),cellsByte:=(by kernel_rfl),sizeByte:=(by kernel_rfl),neB5:=(by decide) }
open Go.RowKit in
theorem Tryz.strings_Join_none (a:Option Addr) (c:Nat) (sep:ByteArray) (w:World) :
  Calls Tryz.prog 171 #[.slice a 0 c,.string sep] w fun e w'=>e = .returned (.string ⟨#[]⟩)∧w'=w:=Any.strings_Join_none Tryz.lays156 Tryz.Builder_Extra_156 a c sep w
open Go.RowKit in
theorem Tryz.strings_Join (bk o c:Nat) (xs:List ByteArray) (sep:ByteArray) (w:World) (a:∀(j:Nat) x,xs[j]? = some x→w.cell? ⟨bk,o+j,none⟩=some (.string x)) (f:bk<w.heap.size) (g:xs.length≤140737488355328) (d:xs.length≤c) (b:(Lib.join (xs.map (·.data.toList)) sep.data.toList).length≤140737488355328) :
  Calls Tryz.prog 171 #[.slice (some ⟨bk,o,none⟩) xs.length c,.string sep] w fun e w'=>e = .returned (.string ⟨(Lib.join (xs.map (·.data.toList)) sep.data.toList).toArray⟩)∧Below w.heap.size w w':=Any.strings_Join Tryz.lays156 Tryz.Builder_Extra_156 bk o c xs sep w a f g d b
def Tryz.lays162_ren:Go.Shelf.Ren:=⟨fun|162=>454|232=>302|227=>235|234=>304|236=>306|228=>236|271=>355|151=>354|120=>392|197=>349|152=>233|260=>386|137=>290|119=>291|224=>292|225=>293|217=>351|266=>391|n=>n,fun|9=>9|4=>4|3=>3|5=>5|117=>300|116=>299|0=>0|124=>347|21=>21|105=>399|46=>346|119=>475|139=>478|138=>477|n=>n,fun|3=>1|4=>2|n=>n⟩
theorem Tryz.lays162:Go.Proofs.Lays.n162 Tryz.prog Tryz.lays162_ren:=⟨(by kernel_rfl),ft func291,ft func392,ft func290,ft func354,ft func233,ft func454,ft func349,ft func351,ft func292,ft func293,ft func235,ft func236,ft func302,ft func304,ft func306,ft func386,ft func391,ft func355,underlying0,isAgg0,sizeOf0,zeroValue0,underlying3,isAgg3,sizeOf3,zeroValue3,underlying4,isAgg4,sizeOf4,zeroValue4,underlying5,isAgg5,sizeOf5,zeroValue5,underlying9,isAgg9,sizeOf9,zeroValue9,underlying21,isAgg21,sizeOf21,zeroValue21,underlying346,isAgg346,sizeOf346,zeroValue346,underlying399,isAgg399,sizeOf399,zeroValue399,underlying299,isAgg299,sizeOf299,underlying300,isAgg300,sizeOf300,zeroValue300,underlying475,isAgg475,sizeOf475,underlying347,isAgg347,sizeOf347,zeroValue347,underlying477,isAgg477,sizeOf477,zeroValue477,underlying478,isAgg478,sizeOf478,zeroValue478,(by kernel_rfl),(by kernel_rfl)⟩
def Tryz.lays160_ren:Go.Shelf.Ren:=⟨fun|160=>241|232=>302|231=>301|227=>235|234=>304|233=>303|236=>306|235=>305|228=>236|271=>355|151=>354|197=>349|120=>392|152=>233|260=>386|137=>290|119=>291|224=>292|225=>293|217=>351|266=>391|n=>n,fun|9=>9|4=>4|3=>3|5=>5|117=>300|116=>299|0=>0|124=>347|21=>21|105=>399|46=>346|119=>475|139=>478|138=>477|n=>n,fun|3=>1|4=>2|n=>n⟩
theorem Tryz.lays160:Go.Proofs.Lays.n160 Tryz.prog Tryz.lays160_ren:=⟨(by kernel_rfl),ft func291,ft func392,ft func290,ft func354,ft func233,ft func241,ft func349,ft func351,ft func292,ft func293,ft func235,ft func236,ft func301,ft func302,ft func303,ft func304,ft func305,ft func306,ft func386,ft func391,ft func355,underlying0,isAgg0,sizeOf0,zeroValue0,underlying3,isAgg3,sizeOf3,zeroValue3,underlying4,isAgg4,sizeOf4,zeroValue4,underlying5,isAgg5,sizeOf5,zeroValue5,underlying9,isAgg9,sizeOf9,zeroValue9,underlying21,isAgg21,sizeOf21,zeroValue21,underlying346,isAgg346,sizeOf346,zeroValue346,underlying399,isAgg399,sizeOf399,zeroValue399,underlying299,isAgg299,sizeOf299,underlying300,isAgg300,sizeOf300,zeroValue300,underlying475,isAgg475,sizeOf475,underlying347,isAgg347,sizeOf347,zeroValue347,underlying477,isAgg477,sizeOf477,zeroValue477,underlying478,isAgg478,sizeOf478,zeroValue478,(by kernel_rfl),(by kernel_rfl)⟩
def Tryz.lays137_ren:Go.Shelf.Ren:=⟨fun|137=>290|217=>351|266=>391|n=>n,fun|9=>9|5=>5|3=>3|n=>n,fun|n=>n⟩
theorem Tryz.lays137:Go.Proofs.Lays.n137 Tryz.prog Tryz.lays137_ren:=⟨(by kernel_rfl),ft func290,ft func351,ft func391,underlying3,isAgg3,sizeOf3,zeroValue3,underlying5,isAgg5,sizeOf5,zeroValue5,underlying9,isAgg9,sizeOf9,zeroValue9⟩
open Go.RowKit in
theorem Tryz.strings_IndexByte (s:ByteArray) (c:Int) (w:World) :
  Calls Tryz.prog 290 #[.string s,.int .u8 c] w fun e w'=>e = .returned (.int .i64 (Lib.indexByte s.data.toList c.toNat.toUInt8))∧w'=w:=Any.strings_IndexByte Tryz.lays137 s c w
def Tryz.laysM173_ren:Go.Shelf.Ren:=⟨fun|173=>288|246=>350|283=>387|284=>388|285=>389|286=>390|129=>430|317=>429|318=>431|319=>432|320=>433|337=>457|338=>458|n=>n,fun|2=>2|3=>3|9=>9|4=>4|171=>433|0=>0|53=>434|37=>104|5=>5|173=>437|212=>480|51=>472|20=>20|213=>481|46=>346|232=>501|233=>502|n=>n,fun|17=>3|18=>4|19=>5|n=>n⟩
theorem Tryz.laysM173:Go.Proofs.LaysM.n173 Tryz.prog Tryz.laysM173_ren:={ mixed:=(by kernel_rfl),f129:=ft func430,f173:=ft func288,f246:=ft func350,f283:=ft func387,f284:=ft func388,f285:=ft func389,f286:=ft func390,f317:=ft func429,f318:=ft func431,f319:=ft func432,f320:=ft func433,f337:=ft func457,f338:=ft func458,t0:=underlying0,a0:=isAgg0,z0:=sizeOf0,v0:=zeroValue0,t2:=underlying2,a2:=isAgg2,z2:=sizeOf2,v2:=zeroValue2,t3:=underlying3,a3:=isAgg3,z3:=sizeOf3,v3:=zeroValue3,t4:=underlying4,a4:=isAgg4,z4:=sizeOf4,v4:=zeroValue4,t5:=underlying5,a5:=isAgg5,z5:=sizeOf5,v5:=zeroValue5,t9:=underlying9,a9:=isAgg9,z9:=sizeOf9,v9:=zeroValue9,t20:=underlying20,a20:=isAgg20,z20:=sizeOf20,v20:=zeroValue20,t37:=underlying104,a37:=isAgg104,z37:=sizeOf104,v37:=zeroValue104,t46:=underlying346,a46:=isAgg346,z46:=sizeOf346,v46:=zeroValue346,t51:=underlying472,a51:=isAgg472,z51:=sizeOf472,v51:=zeroValue472,t53:=underlying434,a53:=isAgg434,z53:=sizeOf434,v53:=zeroValue434,t171:=underlying433,a171:=isAgg433,z171:=sizeOf433,v171:=zeroValue433,t173:=underlying437,a173:=isAgg437,z173:=sizeOf437,v173:=zeroValue437,t212:=underlying480,a212:=isAgg480,z212:=sizeOf480,v212:=zeroValue480,t213:=underlying481,a213:=isAgg481,z213:=sizeOf481,t232:=underlying501,a232:=isAgg501,z232:=sizeOf501,v232:=zeroValue501,t233:=underlying502,a233:=isAgg502,z233:=sizeOf502,v233:=zeroValue502,g17:=(by kernel_rfl),g18:=(by kernel_rfl),g19:=(by kernel_rfl),i0:=(by kernel_rfl),i2:=(by kernel_rfl),i3:=(by kernel_rfl),i4:=(by kernel_rfl),i5:=(by kernel_rfl),i9:=(by kernel_rfl),i20:=(by kernel_rfl),i37:=(by kernel_rfl),i46:=(by kernel_rfl),i51:=(by kernel_rfl),i53:=(by kernel_rfl),i171:=(by kernel_rfl),i173:=(by kernel_rfl),i212:=(by kernel_rfl),i232:=(by kernel_rfl),i233:=(by kernel_rfl),m17:=(by kernel_rfl),m18:=(by kernel_rfl),m19:=(by kernel_rfl) }
open Go.RowKit Go.Sort Go.Lib in
theorem Tryz.strconv_FormatInt_10 (n:Int) (h0 : -9223372036854775808≤n) (h1:n≤9223372036854775807) (w:World) (a:Lib.TabIs Tryz.prog w "internal/strconv.uint64pow10" .u64 Lib.pow10Tab) :
  Calls Tryz.prog 288 #[.int .i64 n,.int .i64 10] w fun e w'=>e = .returned (.string ⟨(Lib.itoa n).toArray⟩)∧∃k os,w'=grow (w.drewN k) os:=Any.strconv_FormatInt_10 Tryz.laysM173 n h0 h1 w a
def Tryz.lays143_ren:Go.Shelf.Ren:=⟨fun|143=>315|219=>346|217=>351|225=>293|224=>292|267=>383|266=>391|314=>426|n=>n,fun|9=>9|3=>3|4=>4|5=>5|46=>346|146=>473|51=>472|n=>n,fun|1=>0|n=>n⟩
theorem Tryz.lays143:Go.Proofs.Lays.n143 Tryz.prog Tryz.lays143_ren:=⟨(by kernel_rfl),ft func315,ft func351,ft func346,ft func292,ft func293,ft func391,ft func383,ft func426,underlying3,isAgg3,sizeOf3,zeroValue3,underlying4,isAgg4,sizeOf4,zeroValue4,underlying5,isAgg5,sizeOf5,zeroValue5,underlying9,isAgg9,sizeOf9,zeroValue9,underlying346,isAgg346,sizeOf346,zeroValue346,underlying472,isAgg472,sizeOf472,zeroValue472,underlying473,isAgg473,sizeOf473,zeroValue473,(by kernel_rfl)⟩
open Go.RowKit Go.Lib in
theorem Tryz.strings_Index (s sub:ByteArray) (m:Int) (w:World) (a:s.size<4294967281) (b:w.cell? ⟨0,0,none⟩=some (.int .i64 m)) :
  Calls Tryz.prog 315 #[.string s,.string sub] w fun e w'=>e = .returned (.int .i64 (Lib.index s.data.toList sub.data.toList))∧w'=w:=Any.strings_Index Tryz.lays143 s sub m w a b
def Tryz.lays144_ren:Go.Shelf.Ren:=⟨fun|144=>298|143=>315|219=>346|217=>351|225=>293|224=>292|267=>383|266=>391|314=>426|n=>n,fun|9=>9|4=>4|3=>3|5=>5|46=>346|146=>473|51=>472|n=>n,fun|1=>0|n=>n⟩
theorem Tryz.lays144:Go.Proofs.Lays.n144 Tryz.prog Tryz.lays144_ren:=⟨(by kernel_rfl),ft func315,ft func298,ft func351,ft func346,ft func292,ft func293,ft func391,ft func383,ft func426,underlying3,isAgg3,sizeOf3,zeroValue3,underlying4,isAgg4,sizeOf4,zeroValue4,underlying5,isAgg5,sizeOf5,zeroValue5,underlying9,isAgg9,sizeOf9,zeroValue9,underlying346,isAgg346,sizeOf346,zeroValue346,underlying472,isAgg472,sizeOf472,zeroValue472,underlying473,isAgg473,sizeOf473,zeroValue473,(by kernel_rfl)⟩
open Go.RowKit Go.Lib in
theorem Tryz.strings_Contains (s sub:ByteArray) (m:Int) (w:World) (a:s.size<4294967281) (b:w.cell? ⟨0,0,none⟩=some (.int .i64 m)) :
  Calls Tryz.prog 298 #[.string s,.string sub] w fun e w'=>e = .returned (.bool (Lib.contains s.data.toList sub.data.toList))∧w'=w:=Any.strings_Contains Tryz.lays144 s sub m w a b
def Tryz.lays145_ren:Go.Shelf.Ren:=⟨fun|145=>224|220=>282|219=>346|217=>351|225=>293|224=>292|267=>383|266=>391|314=>426|n=>n,fun|9=>9|4=>4|59=>288|3=>3|5=>5|46=>346|146=>473|51=>472|n=>n,fun|1=>0|n=>n⟩
theorem Tryz.lays145:Go.Proofs.Lays.n145 Tryz.prog Tryz.lays145_ren:=⟨(by kernel_rfl),ft func224,ft func351,ft func346,ft func282,ft func292,ft func293,ft func391,ft func383,ft func426,underlying3,isAgg3,sizeOf3,zeroValue3,underlying4,isAgg4,sizeOf4,zeroValue4,underlying5,isAgg5,sizeOf5,zeroValue5,underlying9,isAgg9,sizeOf9,zeroValue9,underlying346,isAgg346,sizeOf346,zeroValue346,underlying472,isAgg472,sizeOf472,zeroValue472,underlying288,isAgg288,sizeOf288,zeroValue288,underlying473,isAgg473,sizeOf473,zeroValue473,(by kernel_rfl)⟩
open Go.RowKit Go.Lib in
theorem Tryz.strings_Cut (s sep:ByteArray) (m:Int) (w:World) (a:s.size<4294967281) (b:w.cell? ⟨0,0,none⟩=some (.int .i64 m)) :
  Calls Tryz.prog 224 #[.string s,.string sep] w fun e w'=>e = .returned (.tuple #[.string ⟨(Lib.cut s.data.toList sep.data.toList).1.toArray⟩,.string ⟨(Lib.cut s.data.toList sep.data.toList).2.1.toArray⟩,.bool (Lib.cut s.data.toList sep.data.toList).2.2])∧∃n,w'=w.drewN n:=Any.strings_Cut Tryz.lays145 s sep m w a b
def Tryz.lays146_ren:Go.Shelf.Ren:=⟨fun|146=>283|221=>347|268=>384|138=>385|143=>315|195=>427|197=>349|218=>428|219=>346|260=>386|217=>351|225=>293|224=>292|267=>383|266=>391|314=>426|n=>n,fun|9=>9|31=>126|3=>3|4=>4|0=>0|105=>399|21=>21|5=>5|46=>346|119=>475|139=>478|138=>477|146=>473|51=>472|n=>n,fun|1=>0|3=>1|4=>2|n=>n⟩
theorem Tryz.lays146:Go.Proofs.Lays.n146 Tryz.prog Tryz.lays146_ren:=⟨(by kernel_rfl),ft func385,ft func315,ft func283,ft func427,ft func349,ft func351,ft func428,ft func346,ft func347,ft func292,ft func293,ft func386,ft func391,ft func383,ft func384,ft func426,underlying0,isAgg0,sizeOf0,zeroValue0,underlying3,isAgg3,sizeOf3,zeroValue3,underlying4,isAgg4,sizeOf4,zeroValue4,underlying5,isAgg5,sizeOf5,zeroValue5,underlying9,isAgg9,sizeOf9,zeroValue9,underlying21,isAgg21,sizeOf21,zeroValue21,underlying126,isAgg126,sizeOf126,zeroValue126,underlying346,isAgg346,sizeOf346,zeroValue346,underlying472,isAgg472,sizeOf472,zeroValue472,underlying399,isAgg399,sizeOf399,zeroValue399,underlying475,isAgg475,sizeOf475,underlying477,isAgg477,sizeOf477,zeroValue477,underlying478,isAgg478,sizeOf478,zeroValue478,underlying473,isAgg473,sizeOf473,zeroValue473,(by kernel_rfl),(by kernel_rfl),(by kernel_rfl)⟩
open Go.RowKit Go.Lib in
theorem Tryz.strings_Split (s sep:ByteArray) (m:Int) (w:World) (a:s.size<4294967281) (b:w.cell? ⟨0,0,none⟩=some (.int .i64 m)) (h1:1≤sep.size) :
  Calls Tryz.prog 283 #[.string s,.string sep] w fun e w' =>
   e = .returned (.slice (some ⟨w.heap.size,0,none⟩) (Lib.countB s sep+1) (Lib.countB s sep+1))∧w'=w.alloc (.cells ((Lib.splitB sep 0 (Lib.countB s sep) s).map Value.string).toArray 9):=Any.strings_Split Tryz.lays146 (by kernel_rfl) s sep m w a b h1
def Tryz.lays155_ren:Go.Shelf.Ren:=⟨fun|155=>309|154=>356|138=>385|165=>212|143=>315|166=>213|197=>349|169=>214|195=>427|218=>428|240=>277|241=>278|219=>346|260=>386|276=>342|277=>343|217=>351|225=>293|224=>292|267=>383|266=>391|314=>426|n=>n,fun|9=>9|3=>3|4=>4|72=>276|0=>0|76=>279|105=>399|21=>21|5=>5|70=>274|20=>20|37=>104|75=>278|127=>339|164=>395|46=>346|119=>475|139=>478|138=>477|146=>473|51=>472|80=>151|n=>n,fun|1=>0|3=>1|4=>2|n=>n⟩
theorem Tryz.lays155:Go.Proofs.Lays.n155 Tryz.prog Tryz.lays155_ren:=⟨(by kernel_rfl),ft func385,ft func315,ft func356,ft func309,ft func212,ft func213,ft func214,ft func427,ft func349,ft func351,ft func428,ft func346,ft func292,ft func293,ft func277,ft func278,ft func386,ft func391,ft func383,ft func342,ft func343,ft func426,underlying0,isAgg0,sizeOf0,zeroValue0,underlying3,isAgg3,sizeOf3,zeroValue3,underlying4,isAgg4,sizeOf4,zeroValue4,underlying5,isAgg5,sizeOf5,zeroValue5,underlying9,isAgg9,sizeOf9,zeroValue9,underlying20,isAgg20,sizeOf20,zeroValue20,underlying21,isAgg21,sizeOf21,zeroValue21,underlying104,isAgg104,sizeOf104,zeroValue104,underlying346,isAgg346,sizeOf346,zeroValue346,underlying472,isAgg472,sizeOf472,zeroValue472,underlying274,isAgg274,sizeOf274,zeroValue274,underlying276,isAgg276,sizeOf276,zeroValue276,underlying278,isAgg278,sizeOf278,zeroValue278,underlying279,isAgg279,sizeOf279,zeroValue279,underlying399,isAgg399,sizeOf399,zeroValue399,underlying475,isAgg475,sizeOf475,underlying339,isAgg339,sizeOf339,zeroValue339,underlying477,isAgg477,sizeOf477,zeroValue477,underlying478,isAgg478,sizeOf478,zeroValue478,underlying473,isAgg473,sizeOf473,zeroValue473,underlying395,isAgg395,sizeOf395,zeroValue395,(by kernel_rfl),(by kernel_rfl),(by kernel_rfl)⟩
theorem Tryz.Builder_Extra_155:Builder.Extra Tryz.prog Tryz.lays155_ren:={ sizeBuilder:=(by kernel_rfl),liesBuilder:=(by kernel_rfl),t5:=underlying5,a5:=isAgg5,z5:=sizeOf5,v5:=zeroValue5,infoByte:=(by kernel_rfl),cellsByte:=(by kernel_rfl),sizeByte:=(by kernel_rfl),neB5:=(by decide) }
open Go.RowKit Go.Lib in
theorem Tryz.strings_ReplaceAll (s a new:ByteArray) (m:Int) (w:World) (c:s.size<4294967281) (d:w.cell? ⟨0,0,none⟩=some (.int .i64 m)) (h1:1≤a.size) (b:s.size+Lib.countB s a*new.size≤140737488355328) :
  Calls Tryz.prog 309 #[.string s,.string a,.string new] w fun e w' =>
   e = .returned (.string ⟨(Lib.replaceAll s.data.toList a.data.toList new.data.toList).toArray⟩)∧Below w.heap.size w w':=Any.strings_ReplaceAll Tryz.lays155 Tryz.Builder_Extra_155 s a new m w c d h1 b
def Tryz.lays153_ren:Go.Shelf.Ren:=⟨fun|153=>184|152=>233|226=>234|227=>235|228=>236|137=>290|119=>291|224=>292|225=>293|217=>351|266=>391|n=>n,fun|9=>9|3=>3|4=>4|5=>5|21=>21|117=>300|116=>299|0=>0|46=>346|124=>347|n=>n,fun|n=>n⟩
theorem Tryz.lays153:Go.Proofs.Lays.n153 Tryz.prog Tryz.lays153_ren:=⟨(by kernel_rfl),ft func291,ft func290,ft func233,ft func184,ft func351,ft func292,ft func293,ft func234,ft func235,ft func236,ft func391,underlying0,isAgg0,sizeOf0,zeroValue0,underlying3,isAgg3,sizeOf3,zeroValue3,underlying4,isAgg4,sizeOf4,zeroValue4,underlying5,isAgg5,sizeOf5,zeroValue5,underlying9,isAgg9,sizeOf9,zeroValue9,underlying21,isAgg21,sizeOf21,zeroValue21,underlying346,isAgg346,sizeOf346,zeroValue346,underlying299,isAgg299,sizeOf299,underlying300,isAgg300,sizeOf300,zeroValue300,underlying347,isAgg347,sizeOf347,zeroValue347⟩
end Go.Proofs
end
section
namespace Go.Proofs
open Go.Dk Go.Dm Go.RowKit
theorem ztV (s:Str) (c:UInt8) (R:Int) (w0:World) (f:zi7 w0) (a:strings_IndexByte s c=some R) :
  Calls Tryz.prog 290 #[str s,zct c] w0 fun e w'=>e = .returned (int R)∧Below w0.heap.size w0 w':=by
 refine (Tryz.strings_IndexByte ⟨s.toArray⟩ c.toNat w0).mono fun e w' ⟨d,b⟩=>?_;subst d b;refine ⟨?_,Below.refl _ _⟩;unfold strings_IndexByte at a;rw [zyk] at a;cases a;simp
theorem zmD (s t:Str) (R:Int) (w0:World) (d:zi7 w0) (a:strings_Index s t=some R) :
  Calls Tryz.prog 315 #[str s,str t] w0 fun e w'=>e = .returned (int R)∧Below w0.heap.size w0 w':=by
 unfold strings_Index at a
 split at a
 ·rename_i b
  obtain ⟨m,f⟩:=d.max;refine (Tryz.strings_Index ⟨s.toArray⟩ ⟨t.toArray⟩ m w0 b f).mono fun e w' ⟨g,c⟩=>?_;subst g c;rw [zBq] at a;cases a;exact ⟨rfl,Below.refl _ _⟩
 ·cases a
theorem zBA (s t:Str) (R:Str × Str × Bool) (w0:World) (f:zi7 w0) (a:strings_Cut s t=some R) :
  Calls Tryz.prog 224 #[str s,str t] w0 fun e w'=>e = .returned (.tuple #[str R.1,str R.2.1,.bool R.2.2])∧Below w0.heap.size w0 w':=by
 unfold strings_Cut at a
 split at a
 ·rename_i b
  obtain ⟨m,g⟩:=f.max;refine (Tryz.strings_Cut ⟨s.toArray⟩ ⟨t.toArray⟩ m w0 b g).mono fun e w' ⟨d,n,c⟩=>?_;subst d c;cases a;exact ⟨rfl,⟨rfl,rfl,rfl,Nat.le_refl _,fun _ _=>rfl⟩⟩
 ·cases a
theorem zuL (s t:Str) (R:Bool) (w0:World) (d:zi7 w0) (a:strings_Contains s t=some R) :
  Calls Tryz.prog 298 #[str s,str t] w0 fun e w'=>e = .returned (.bool R)∧Below w0.heap.size w0 w':=by
 unfold strings_Contains at a
 split at a
 ·rename_i b
  obtain ⟨m,f⟩:=d.max;refine (Tryz.strings_Contains ⟨s.toArray⟩ ⟨t.toArray⟩ m w0 b f).mono fun e w' ⟨g,c⟩=>?_;subst g c;rw [zBq] at a;cases a;exact ⟨rfl,Below.refl _ _⟩
 ·cases a
theorem zuM (s cs:Str) (R:Int) (w0:World) (h:zi7 w0) (a:zcq s cs=some R) :
  Calls Tryz.prog 184 #[str s,str cs] w0 fun e w'=>e = .returned (int R)∧Below w0.heap.size w0 w':=by
 unfold zcq at a
 split at a
 ·rename_i c
  refine (zFQ Tryz.lays153 (by kernel_rfl) ⟨s.toArray⟩ ⟨cs.toArray⟩ w0 c.1 c.2.1 (fun j b d=>?_)).mono fun e w' ⟨g,f⟩=>?_
  ·have:=List.all_eq_true.1 c.2.2 b (List.mem_of_getElem? d);simpa using this
  ·subst g;rw [zJR] at a;cases a;exact ⟨rfl,f⟩
 ·cases a
theorem ztW (n b:Int) (R:Str) (w0:World) (c:zk9 w0) (a:zcM n b=some R) :
  Calls Tryz.prog 288 #[int n,int b] w0 fun e w'=>e = .returned (str R)∧Below w0.heap.size w0 w':=by
 unfold zcM at a
 split at a
 ·rename_i h
  obtain ⟨h1,rfl⟩:=h;obtain ⟨h2,d⟩:=zFU.1 h1;cases a;refine (Tryz.strconv_FormatInt_10 n h2 d w0 c.2.1).mono fun e w' ⟨g,k,os,f⟩=>?_;subst g f;exact ⟨rfl,Lib.below_grow _ _ (Nat.le_refl _) _ _⟩
 ·split at a
  ·rename_i h
   obtain ⟨rfl,h2,d⟩:=h;obtain ⟨k,rfl⟩:∃k:Nat,n=k:=⟨n.toNat,by omega⟩;cases a;have:=zFJ k (by omega) w0 (Nat.le_trans (by decide) c.size) c.2.2;simpa using this
  ·cases a
theorem zyl (s sep:Str) (R:List Str) (w0:World) (u:zi7 w0) (f:strings_Split s sep=some R) :
  Calls Tryz.prog 283 #[str s,str sep] w0 fun e w'=>∃(i:Option Addr) (j:Nat),e = .returned (.slice i R.length j)∧Own w0 [] w' [.row (.slice i R.length j) 9 1 R.length (cells zla R)]:=by
 unfold strings_Split at f
 split at f
 ·rename_i d
  obtain ⟨m,r⟩:=u.max;refine (Tryz.strings_Split ⟨s.toArray⟩ ⟨sep.toArray⟩ m w0 d.1 r d.2).mono fun e w' ⟨p,q⟩=>?_;subst p q;have b:=Go.Lib.splitB_all ⟨sep.toArray⟩ d.2 0 _ ⟨s.toArray⟩ rfl;have c:=Go.Lib.splitB_data ⟨sep.toArray⟩ 0 (Go.Lib.countB ⟨s.toArray⟩ ⟨sep.toArray⟩) ⟨s.toArray⟩
  have h:R=(Go.Lib.splitB ⟨sep.toArray⟩ 0 (Go.Lib.countB ⟨s.toArray⟩ ⟨sep.toArray⟩) ⟨s.toArray⟩).map (·.data.toList):=by
   rw [c]; exact (Option.some.inj f).symm
  have g:R.length=Go.Lib.countB ⟨s.toArray⟩ ⟨sep.toArray⟩+1:=by rw [h,List.length_map,b]
  have a:(Go.Lib.splitB ⟨sep.toArray⟩ 0 (Go.Lib.countB ⟨s.toArray⟩ ⟨sep.toArray⟩) ⟨s.toArray⟩).map Value.string=cells zla R:=by
   rw [h];generalize Go.Lib.splitB _ _ _ _=l
   induction l with
   | nil=>rfl
   | cons x l t=>obtain ⟨⟨x⟩⟩:=x; rw [List.map_cons,List.map_cons,t]; rfl
  have n:=Go.Lib.countB_le ⟨sep.toArray⟩ d.2 _ ⟨s.toArray⟩ (Nat.le_refl _);have k:(⟨s.toArray⟩:ByteArray).size=s.length:=rfl;have o:=(Own.refl w0).newRow (cells zla R) 9 1 R.length (cells_length (enc:=zla) (sz:=1) (fun _=>rfl) R) (by unfold maxLen; omega);rw [a, ← g];exact ⟨_,_,rfl,o⟩
 ·cases f
theorem zsi (s a new:Str) (R:Str) (w0:World) (f:zi7 w0) (b:strings_ReplaceAll s a new=some R) :
  Calls Tryz.prog 309 #[str s,str a,str new] w0 fun e w'=>e = .returned (str R)∧Below w0.heap.size w0 w':=by
 unfold strings_ReplaceAll at b
 split at b
 ·rename_i c
  obtain ⟨m,g⟩:=f.max;refine (Tryz.strings_ReplaceAll ⟨s.toArray⟩ ⟨a.toArray⟩ ⟨new.toArray⟩ m w0 c.1 g c.2.1 c.2.2).mono fun e w' ⟨h,d⟩=>?_;subst h;cases b;exact ⟨rfl,d⟩
 ·cases b
theorem zzC (s cs:Str) (R:Str) (w0:World) (h:zi7 w0) (a:zcd s cs=some R) :
  Calls Tryz.prog 241 #[str s,str cs] w0 fun e w'=>e = .returned (str R)∧Below w0.heap.size w0 w':=by
 unfold zcd at a
 split at a
 ·rename_i c
  refine (Any.strings_Trim_laid Tryz.lays160 (by kernel_rfl) ⟨s.toArray⟩ ⟨cs.toArray⟩ w0 (Nat.le_trans (Nat.le_of_lt c.1) (by decide)) c.2.1 (fun j b d=>?_)).mono fun e w' ⟨g,f⟩=>?_
  ·have:=List.all_eq_true.1 c.2.2 b (List.mem_of_getElem? d);simpa using this
  ·subst g;cases a;exact ⟨rfl,f⟩
 ·cases a
theorem ztX (s cs:Str) (R:Str) (w0:World) (h:zi7 w0) (a:zdP s cs=some R) :
  Calls Tryz.prog 454 #[str s,str cs] w0 fun e w'=>e = .returned (str R)∧Below w0.heap.size w0 w':=by
 unfold zdP at a
 split at a
 ·rename_i c
  refine (Any.strings_TrimRight_laid Tryz.lays162 (by kernel_rfl) ⟨s.toArray⟩ ⟨cs.toArray⟩ w0 (Nat.le_trans (Nat.le_of_lt c.1) (by decide)) c.2.1 (fun j b d=>?_)).mono fun e w' ⟨g,f⟩=>?_
  ·have:=List.all_eq_true.1 c.2.2 b (List.mem_of_getElem? d);simpa using this
  ·subst g;cases a;exact ⟨rfl,f⟩
 ·cases a
theorem zzD (l:List Str) (sep:Str) (R:Str) (w0:World) (u:zi7 w0) {b:Option Addr} {c:Nat} (g:ze3 w0 b (cells zla l)) (k:l.length≤c) (i:strings_Join l sep=some R) :
  Calls Tryz.prog 171 #[.slice b l.length c,str sep] w0 fun e w'=>e = .returned (str R)∧Below w0.heap.size w0 w':=by
 unfold strings_Join at i
 split at i
 ·rename_i m
  cases i
  have d:(l.map fun x=>(⟨x.toArray⟩:ByteArray)).map (·.data.toList)=l:=by
   rw [List.map_map]; exact List.map_id' l
  by_cases p:l=[]
  ·subst p
   exact (Tryz.strings_Join_none b c ⟨sep.toArray⟩ w0).mono fun e w' h=>by
    obtain ⟨r,t⟩:=h;subst r t;exact ⟨rfl,Below.refl _ _⟩
  have f:cells zla l≠[]:=fun h=>p (by
   cases l with
   | nil=>rfl
   | cons x l=>simp [cells,zla] at h)
  cases b with
  | none=>exact absurd (show cells zla l=[] from g) f
  | some a =>
   obtain ⟨bk,o,spot⟩:=a;obtain ⟨h1,h2,q⟩:=g.hard f;simp only at h1; subst h1;have:=Tryz.strings_Join bk o c (l.map fun x=>(⟨x.toArray⟩:ByteArray)) ⟨sep.toArray⟩ w0 (fun j x n=>?_) h2 (by simpa using m.1) (by simpa using k) (by rw [d]; exact m.2)
   ·rw [d,List.length_map] at this;exact this
   ·rw [List.getElem?_map] at n;obtain ⟨y,s,rfl⟩:=Option.map_eq_some_iff.1 n;refine q j _ ?_;have:=zts (enc:=zla) (sz:=1) (fun _=>rfl) l j 0 y s (by omega);rw [Nat.mul_one,Nat.add_zero] at this;exact this
 ·cases i
end Go.Proofs
end
section
namespace Go.Proofs
open Go.Dk Go.Dm Go.RowKit
set_option maxHeartbeats 4000000 in
set_option maxRecDepth 100000 in
theorem zLm (lw:UInt8→Option UInt8) (s:ByteArray) (R:Str) (w0:World) (hG:zi7 w0) (hsz:s.size<4294967281) (hm:s.data.toList.mapM lw=some R)
  (hlow:∀b c w,lw b=some c→zi7 w→Calls Tryz.prog 289 #[.int .u8 (b.toNat:Int)] w fun e w'=>e = .returned (.int .u8 (c.toNat:Int))∧Below w.heap.size w w') :
  Calls Tryz.prog 244 #[.string s] w0 fun e w'=>e = .returned (.string ⟨R.toArray⟩)∧Below w0.heap.size w0 w':=by
 obtain ⟨hlen,hat⟩:=mapM_at hm;have HL:Aside (R.length=s.size):=hlen.trans (Lib.size_eq s).symm;have HT:Aside (∀(i:Nat) (a:UInt8),s.data.toList[i]? = some a→∃b,R[i]? = some b∧lw a=some b):=hat
 clear hlen hat hm
 have hcv:=fun w=>run_bytes_of_string (P:=Tryz.prog) w 9 104 5 s Tryz.underlying9 Tryz.underlying104 Tryz.underlying5
 go_enter Tryz.func244,Tryz.ntmps244
 go_wp2
 go_loopg [4,5,10] s.size (fun g _ _ v wx=>∃i:Nat,i+g=s.size∧v = .int .i64 (i:Int)∧Below w0.heap.size w0 wx∧∃(cur:Array Value) (fz:Nat × Nat),wx.heap[w0.heap.size]? = some (.cells cur 5 fz)∧cur.size≤fz.1∧s.size≤cur.size∧∀j,j<s.size→cur[j]? = ((if j<i then R[j]? else s.data.toList[j]?).map zct))
 case atStart =>
  have hrow:(bytesRow s (grownCap w0 s.size 0 5)).size=s.size+(grownCap w0 s.size 0 5-s.size):=by
   have:=Lib.size_eq s;unfold bytesRow;rw [Array.size_append,Array.size_map,Array.size_replicate];rfl
  refine ⟨0,by omega,rfl,((Below.refl _ _).alloc (Nat.le_refl _) _).drew,_,_,zkj _,Nat.le_refl _,?_,fun j hj=>?_⟩
  ·omega
  ·rw [if_neg (by omega)];unfold bytesRow;rw [Array.getElem?_append_left (by simp [← Lib.size_eq]; exact hj),Array.getElem?_map]
   congr 1
   exact (Array.getElem?_toList ..).symm
 case round =>
  obtain ⟨i,hig,rfl,hB,cur,fz,hcur,hfz,hsc,hcell⟩:=hrel;have HG:Aside (zi7 wr):=hG.own zPe ((Own.refl w0).grow hB);have HB:Aside (Below w0.heap.size w0 wr):=hB;have HC:Aside (wr.heap[w0.heap.size]? = some (.cells cur 5 fz)):=hcur;have HF:Aside (cur.size≤fz.1∧s.size≤cur.size):=⟨hfz,hsc⟩;have HX:Aside (∀j,j<s.size→cur[j]? = ((if j<i then R[j]? else s.data.toList[j]?).map zct)):=hcell
  clear hB hcell hfz hsc hcur
  by_cases hi:i<s.size
  ·obtain ⟨x,hx⟩:∃x,s.data.toList[i]? = some x:=⟨_,Lib.data_getElem? s i hi⟩;obtain ⟨y,hyR,hy⟩:=HT.out i x hx
   have hcx:wr.cell? ⟨w0.heap.size,i,none⟩=some (.int .u8 (x.toNat:Int)):=by
    have:=HX.out i hi;rw [if_neg (by omega),hx] at this;simp [World.cell?,HC.out,this]
   have hfr:wr.frozen? ⟨w0.heap.size,i,none⟩=false:=by
    have:=HF.out;simp [World.frozen?,HC.out]; omega
   have hii:(i:Int)<(s.size:Int):=by omega
   have HY:Aside (R[i]? = some y):=hyR;have HO:Aside (lw x=some y):=hy
   clear hyR hy hx
   go_wp2_with (go_at_call 289; refine (hlow x y _ HO.out HG.out).mono ?_; rintro e w' ⟨rfl,hb⟩; have hcx':w'.cell? ⟨w0.heap.size,i,none⟩=some (.int .u8 (x.toNat:Int)):=(hb.cell (p:=⟨w0.heap.size,i,none⟩) (Array.getElem?_eq_some_iff.1 HC.out).1).trans hcx; have hfr':w'.frozen? ⟨w0.heap.size,i,none⟩=false:=(hb.frozen (p:=⟨w0.heap.size,i,none⟩) (Array.getElem?_eq_some_iff.1 HC.out).1).trans hfr)
   go_roundg (gk-1)
   case measure=>omega
   case rel =>
    have hlt:=(Array.getElem?_eq_some_iff.1 HC.out).1;have hcw:w'.heap[w0.heap.size]? = some (.cells cur 5 fz):=(hb.block _ hlt).trans HC.out;refine ⟨i+1,by omega,rfl,?_,cur.setIfInBounds i (.int .u8 (y.toNat:Int)),fz,?_,?_,?_,fun j hj=>?_⟩
    ·exact (HB.out.trans (hb.mono HB.out.size)).setCell (p:=⟨w0.heap.size,i,none⟩) (Nat.le_refl _) _
    ·simp [World.setCell,Array.getElem?_modify,hcw]
    ·have:=HF.out; simp; omega
    ·have:=HF.out; simp; omega
    ·by_cases hji:j=i
     ·subst hji;have:=HF.out;rw [if_pos (by omega),HY.out,Array.getElem?_setIfInBounds_self_of_lt (by omega)];rfl
     ·rw [Array.getElem?_setIfInBounds_ne (Ne.symm hji),HX.out j hj]
      by_cases h2:j<i
      ·rw [if_pos h2,if_pos (by omega)]
      ·rw [if_neg h2,if_neg (by omega)]
  ·have hsi:i=s.size:=by omega
   have hbk:∀w,wr.heap=w.heap→(convert 104 9 (.slice (some ⟨w0.heap.size,0,none⟩) s.size (grownCap w0 s.size 0 5))).run Tryz.prog w = .ok (.string ⟨R.toArray⟩) w:=by
    intro w hw
    have:=run_convert_bytes_back (P:=Tryz.prog) w 104 9 5 ⟨w0.heap.size,0,none⟩ (grownCap w0 s.size 0 5) R Tryz.underlying104 Tryz.underlying5 Tryz.underlying9 (fun j hj=>by
     have hjs:j<s.size:=by rw [← HL.out]; exact hj
     have h1:=HX.out j hjs;rw [if_pos (by omega),List.getElem?_eq_getElem hj] at h1;rw [zLv]
     simp [World.cell?, ← hw,HC.out,h1])
    rw [HL.out] at this;exact this
   have hni:¬ ((i:Int)<(s.size:Int)):=by omega
   have hbk1:=hbk wr rfl
   go_wp2
   go_ret
   exact ⟨rfl,HB.out⟩
end Go.Proofs
end
section
namespace Go.Rk
open Go.RowKit Go.Dm Go.Dk
variable {P:Program} {w:World} {t':Nat}
def ztn:Nat→List (Int × Str)→List MapEntry
 | _,[]=>[]
 | n,q::l=>{ key:=int q.1,val:=str q.2,born:=n }::ztn (n+1) l
def zto (l:List (Int × Str)):Obj := .map (ztn 0 l).toArray l.length
theorem zDv:∀(l:List (Int × Str)) (n:Nat) (q:Int × Str),ztn n (l++[q])=ztn n l++[{ key:=int q.1,val:=str q.2,born:=n+l.length }]
 | [],n,q=>rfl
 | x::l,n,q=>by
  show _::ztn (n+1) (l++[q])=_::(ztn (n+1) l++_);rw [zDv l (n+1) q]
  have:n+1+l.length=n+(x::l).length:=by simp; omega
  rw [this]
theorem zFS (k:Int):∀(l:List (Int × Str)) (n i:Nat), ∃j,Instr.findNow (.int .i64) (int k) (ztn n l) i=some ((l.find? fun q=>q.1==k).map fun q=>(j,str q.2))
 | [],_,_=>⟨0,rfl⟩
 | q::l,n,i=>by
  obtain ⟨j,a⟩:=zFS k l (n+1) (i+1);have e:Instr.sameNow (.int .i64) (int k) (int q.1)=some (k==q.1):=rfl;rw [List.find?_cons];unfold ztn Instr.findNow;rw [e]
  cases hk:k==q.1 with
  | true =>
   have h1:k=q.1:=by simpa using hk
   have:(q.1==k)=true:=by rw [h1]; simp
   rw [this]; exact ⟨i,rfl⟩
  | false =>
   have:(q.1==k)=false:=by
    have h1:k≠q.1:=by simpa using hk
    exact beq_eq_false_iff_ne.2 fun h=>h1 h.symm
   rw [this]; exact ⟨j,a⟩
theorem zJ3 {c i b:Nat} {k:Int} {v:Str} {l:List (Int × Str)} (m:P.underlying t'=some (.map c i)) (g:P.underlying c=some (.int .i64)) (h:w.heap[b]? = some (zto l)) (hn:(l.find? fun q=>q.1==k)=none) :
  (Instr.mapUpdate t' (.map (some b)) (int k) (str v)).run P w = .ok () { w with heap:=w.heap.setIfInBounds b (zto (l++[(k,v)])) }:=by
 obtain ⟨j,f⟩:=zFS k l 0 0;rw [hn] at f
 have e:zto (l++[(k,v)]) = .map ((ztn 0 l).toArray.push { key:=int k,val:=str v,born:=l.length }) (l.length+1):=by
  unfold zto;rw [zDv];simp
 rw [e];have a:w.heap[b]? = some (.map (ztn 0 l).toArray l.length):=h;have hc:(Instr.checkKey false 10000 c (int k)).run P w = .ok () w:=MapKept.run_checkKey (d := .int .i64) (k:=int k) g rfl false 9999;simp [Instr.mapUpdate,run_underlying m,MapKept.run_getObj_map a,hc,MapKept.run_findKey g f,MapKept.run_setObj_map _ a,Result.andThen]
theorem zJ4 {f h b:Nat} {k:Int} {l:List (Int × Str)} (i:P.underlying t'=some (.map f h)) (g:P.underlying f=some (.int .i64)) (n:∀w,(zeroValue h).run P w = .ok (str []) w) (m:w.heap[b]? = some (zto l)) :
  (Instr.lookup t' (.map (some b)) (int k) true).run P w = .ok (.tuple #[str (zrB l k).1,.bool (zrB l k).2]) w:=by
 obtain ⟨j,c⟩:=zFS k l 0 0;have a:w.heap[b]? = some (.map (ztn 0 l).toArray l.length):=m;have hc:∀e,(Instr.checkKey e 10000 f (int k)).run P w = .ok () w:=fun e=>MapKept.run_checkKey (d := .int .i64) (k:=int k) g rfl e 9999;unfold zrB
 cases hf:l.find? fun q=>q.1==k with
 | none =>
  rw [hf] at c;simp [Instr.lookup,run_underlying i,MapKept.run_getObj_map a,hc,MapKept.run_findKey g c,Result.andThen,n]
 | some q =>
  rw [hf] at c;simp [Instr.lookup,run_underlying i,MapKept.run_getObj_map a,hc,MapKept.run_findKey g c,Result.andThen]
end Go.Rk
end
section
namespace Go.Rk
open Go.RowKit Go.Dm Go.Dk
inductive Ty where
 | bool|int|u8|u16|str
 
 | sl (e:Ty)|so (te:TypeId) (e:Ty)
 
 | sn (te:TypeId) (e:Ty)
 
 | st (n:Nat)
 
 | pt (n:Nat)|po (n:Nat)|pn (n:Nat)
 
 | fn|nil|fc (f:Nat)
 
 | cl (f:Nat) (t:Ty)
 
 | mv (f:Nat)
 
 | pr (a b:Ty)
deriving DecidableEq
def Ty.den (τ:Nat→Type):Ty→Type
 | .bool=>Bool
 | .int=>Int
 | .u8=>UInt8
 | .u16=>UInt16
 | .str=>Str
 | .sl e=>List (e.den τ)
 | .so _ e=>List (e.den τ)
 | .st n=>τ n
 | .pt n=>τ n
 | .po n=>τ n
 | .pn n=>Option (τ n)
 | .fn=>UInt8→Option Bool
 | .nil=>Unit
 | .fc _=>Unit
 | .mv _=>Unit
 | .cl _ t=>t.den τ
 | .sn _ e=>Option (List (e.den τ))
 | .pr a b=>a.den τ × b.den τ
def DP (τ:Nat→Type):List Ty→Type
 | []=>Unit
 | [t]=>t.den τ
 | t::u::ts=>t.den τ × DP τ (u::ts)
variable {τ:Nat→Type}
def DP.hd {t:Ty}:{ts:List Ty}→DP τ (t::ts)→t.den τ
 | [],p=>p
 | _::_,p=>p.1
def DP.tl {t:Ty}:{ts:List Ty}→DP τ (t::ts)→DP τ ts
 | [],_=>()
 | _::_,p=>p.2
def DP.mk {t:Ty}:{ts:List Ty}→t.den τ→DP τ ts→DP τ (t::ts)
 | [],x,_=>x
 | _::_,x,p=>(x,p)
theorem DP.hd_mk {t:Ty} {ts:List Ty} (x:t.den τ) (p:DP τ ts):(DP.mk x p).hd=x:=by cases ts<;>rfl
theorem DP.tl_mk {t:Ty} {ts:List Ty} (x:t.den τ) (p:DP τ ts):(DP.mk x p).tl=p:=by cases ts<;>rfl
abbrev Fz:=Nat→Option Obj
def Fz.le (h h':Fz):Prop:=∀b o,h b=some o→h' b=some o
structure Sig (τ:Nat→Type) where
 fs:Nat→List Ty
 ti:Nat→TypeId
 ctor:∀n,DP τ (fs n)→τ n
 dtor:∀n, τ n→DP τ (fs n)
 cd:∀n x,ctor n (dtor n x)=x
 dc:∀n p,dtor n (ctor n p)=p
 eq:∀n, τ n→τ n→Bool
 
 fp:List (FuncId × (UInt8→Option Bool))
 gl:List (Nat × (t:Ty) × t.den τ)
 
 dr:Nat→Bool:=fun _=>false
 
 ax:Fz→Prop:=fun _=>True
 axm:∀{h h'},Fz.le h h'→ax h→ax h':=by exact fun _ h=>h
inductive CV (τ:Nat→Type) where
 | b (x:Bool)
 
 | k (x:Bool)
 | i (x:Int)
 | u8 (x:UInt8)
 | u16 (x:UInt16)
 | s (x:Str)
 
 | sl (e:Ty) (xs:List (e.den τ))
 | n0
 | nl
 
 | os (id:Nat)
 
 | pt (id:Nat) (o:Nat)
 
 | ea (t:Ty) (z:t.den τ) (o:Nat)
 
 | ep (n:Nat) (x:Option (τ n))
 
 | oe (id k:Nat) (m:Int) (t:Ty) (z:t.den τ) (o:Nat)
 | fn (f:FuncId)
 | fm (m:UInt8→Option Bool)
 
 | cl (f:FuncId) (t:Ty) (x:t.den τ)
 
 | cf (id:Nat)
 
 | nf
 
 | mf (f:FuncId)
 | mv (f:FuncId) (id:Nat)
 
 | mp (id:Nat)
 | m0
 | bad
inductive XV (τ:Nat→Type) where
 | c (x:CV τ)
 | g (l:List (CV τ))
 | t (l:List (Bool × List (CV τ)))
 | un
 
 | gv (t:Ty) (x:t.den τ)
inductive AR (τ:Nat→Type) where
 | gone
 | blk (t:TypeId) (cs:List (CV τ))
 | row (t:TypeId) (e:Ty) (xs:List (e.den τ)) (k:Nat)
 | fz (e:Ty) (xs:List (e.den τ))
 | tree (n:Nat) (x:Option (τ n))
 | nilp
 
 | clo (f:FuncId) (bs cs:List (CV τ))
 | sb (id n:Nat)
 | vw (id k:Nat) (e:Ty) (lo:Nat) (xs:List (e.den τ))
 
 | mp (l:List (Int × Str))
def Ty.av:(t:Ty)→t.den τ→CV τ
 | .bool,x => .b x
 | .int,x => .i x
 | .u8,x => .u8 x
 | .u16,x => .u16 x
 | .str,x => .s x
 | .sl e,x => .sl e x
 | .so _ e,x => .sl e x
 | .st n,x => .ea (.st n) x 0
 | .pt n,x => .ea (.st n) x 0
 | .po n,x => .ea (.st n) x 0
 | .pn n,x => .ep n x
 | .fn,x => .fm x
 | .nil,_ => .nl
 | .fc f,_ => .fn f
 | .mv f,_ => .mf f
 | .cl f t,x => .cl f t x
 | .sn _ _,_ => .bad
 | .pr _ _,_ => .bad
def avs:(ts:List Ty)→DP τ ts→List (CV τ)
 | [],_=>[]
 | t::ts,p=>t.av p.hd::avs ts p.tl
def ets (G:Sig τ):Ty→List Ty
 | .st n=>G.fs n
 | t=>[t]
def edt (G:Sig τ):(t:Ty)→t.den τ→DP τ (ets G t)
 | .st n,x=>G.dtor n x
 | .bool,x=>x
 | .int,x=>x
 | .u8,x=>x
 | .u16,x=>x
 | .str,x=>x
 | .sl _,x=>x
 | .so _ _,x=>x
 | .pt _,x=>x
 | .po _,x=>x
 | .pn _,x=>x
 | .fn,x=>x
 | .nil,x=>x
 | .fc _,x=>x
 | .mv _,x=>x
 | .cl _ _,x=>x
 | .sn _ _,x=>x
 | .pr _ _,x=>x
def ect (G:Sig τ):(t:Ty)→DP τ (ets G t)→t.den τ
 | .st n,x=>G.ctor n x
 | .bool,x=>x
 | .int,x=>x
 | .u8,x=>x
 | .u16,x=>x
 | .str,x=>x
 | .sl _,x=>x
 | .so _ _,x=>x
 | .pt _,x=>x
 | .po _,x=>x
 | .pn _,x=>x
 | .fn,x=>x
 | .nil,x=>x
 | .fc _,x=>x
 | .mv _,x=>x
 | .cl _ _,x=>x
 | .sn _ _,x=>x
 | .pr _ _,x=>x
theorem zFN (G:Sig τ) (t:Ty) (p:DP τ (ets G t)):edt G t (ect G t p)=p:=by
 cases t<;>first|rfl|exact G.dc _ _
def zxZ (G:Sig τ) (t:Ty) (x:t.den τ):List (CV τ):=avs (ets G t) (edt G t x)
def prT:List Ty→Ty
 | [] => .nil
 | [t]=>t
 | t::u::ts => .pr t (prT (u::ts))
def DP.pr:(ts:List Ty)→DP τ ts→(prT ts).den τ
 | [],_=>()
 | [_],x=>x
 | _::u::ts,p=>(p.1,DP.pr (u::ts) p.2)
def zBr {t t':Ty} (x:t.den τ):Option (t'.den τ):=if h:t=t' then some (h▸x) else none
def zmU {t t':Ty} (x:List (t.den τ)):Option (List (t'.den τ)):=if h:t=t' then some (h▸x) else none
def zH3 {n m:Nat} (x:Option (τ n)):Option (Option (τ m)):=if h:n=m then some (h▸x) else none
def zOQ {n m:Nat} (x:τ n):Option (τ m):=if h:n=m then some (h▸x) else none
theorem zOR {t t':Ty} {x:t.den τ} {y:t'.den τ} (h:zBr x=some y):∃e:t=t',e▸x=y:=by
 unfold zBr at h
 split at h
 ·exact ⟨‹_›,Option.some.inj h⟩
 ·cases h
theorem zhj {t t':Ty} {x:List (t.den τ)} {y:List (t'.den τ)} (h:zmU x=some y):∃e:t=t',e▸x=y:=by
 unfold zmU at h
 split at h
 ·exact ⟨‹_›,Option.some.inj h⟩
 ·cases h
theorem zBs {n m:Nat} {x:Option (τ n)} {y:Option (τ m)} (h:zH3 x=some y):∃e:n=m,e▸x=y:=by
 unfold zH3 at h
 split at h
 ·exact ⟨‹_›,Option.some.inj h⟩
 ·cases h
theorem zOS {n m:Nat} {x:τ n} {y:τ m} (h:zOQ x=some y):∃e:n=m,e▸x=y:=by
 unfold zOQ at h
 split at h
 ·exact ⟨‹_›,Option.some.inj h⟩
 ·cases h
def Fz.on (h:Fz) (w:World):Prop:=∀b o,h b=some o→w.heap[b]? = some o
def zqo (h:Fz) (a:Option Addr) (vs:List Value):Prop :=
 vs=[]∨∃b o c e z,a=some ⟨b,o,none⟩∧h b=some (.cells c e z)∧∀(k:Nat) v,vs[k]? = some v→c[o+k]? = some v
theorem zqo.le {h h':Fz} {a:Option Addr} {vs:List Value} (f:h.le h'):zqo h a vs→zqo h' a vs
 | .inl e => .inl e
 | .inr ⟨b,o,c,e,z,h1,h2,d⟩ => .inr ⟨b,o,c,e,z,h1,f _ _ h2,d⟩
theorem zqo.sees {h:Fz} {w:World} {a:Option Addr} {vs:List Value} (g:h.on w) (f:zqo h a vs):ze3 w a vs:=by
 rcases f with rfl|⟨b,o,c,e,z,rfl,h2,d⟩
 ·cases a with
  | none=>rfl
  | some x=>exact .inl rfl
 ·have:=g _ _ h2;exact .inr ⟨rfl,(Array.getElem?_eq_some_iff.1 this).1,fun i v j=>by simp [World.cell?,this,d i v j]⟩
def zJS (P:Program) (m:UInt8→Option Bool) (f:FuncId):Prop:=zfd P f∧∀c r w,m c=some r→Calls P f #[zct c] w fun e w'=>e = .returned (.bool r)∧Below w.heap.size w w'
mutual
inductive Rp (P:Program) (G:Sig τ) (h:Fz):(t:Ty)→t.den τ→Value→Prop
 | bool (x:Bool):Rp P G h .bool x (.bool x)
 | int (x:Int):Rp P G h .int x (.int .i64 x)
 | u8 (x:UInt8):Rp P G h .u8 x (.int .u8 x.toNat)
 | u16 (x:UInt16):Rp P G h .u16 x (.int .u16 x.toNat)
 | str (x:Str):Rp P G h .str x (str x)
 | sl (e:Ty) (xs:List (e.den τ)) (a:Option Addr) (c:Nat) (vs:List Value) (hc:xs.length≤c) (hs:zqo h a vs) (hr:RpR P G h e xs vs):Rp P G h (.sl e) xs (.slice a xs.length c)
 | so (te:TypeId) (e:Ty) (xs:List (e.den τ)) (v:Value) (hr:Rp P G h (.sl e) xs v):Rp P G h (.so te e) xs v
 | pt (n:Nat) (x:τ n) (b k:Nat) (vs:List Value) (hs:zqo h (some ⟨b,k,none⟩) vs) (hr:RpL P G h (G.fs n) (G.dtor n x) vs):Rp P G h (.pt n) x (ptr b k)
 | po (n:Nat) (x:τ n) (v:Value) (hr:Rp P G h (.pt n) x v):Rp P G h (.po n) x v
 | pn0 (n:Nat):Rp P G h (.pn n) none (.pointer none)
 | pn1 (n:Nat) (x:τ n) (v:Value) (hr:Rp P G h (.pt n) x v):Rp P G h (.pn n) (some x) v
 | fn (m:UInt8→Option Bool) (f:FuncId) (hf:zJS P m f):Rp P G h .fn m (.func (.func f) #[] #[])
 | nil:Rp P G h .nil () (.pointer none)
 | fc (f:Nat):Rp P G h (.fc f) () (.func (.func f) #[] #[])
 | mv (f:Nat) (u:Value):Rp P G h (.mv f) () (.func (.func f) #[u] #[])
 | cl (f:Nat) (t:Ty) (x:t.den τ) (u:Value) (hr:Rp P G h t x u):Rp P G h (.cl f t) x (.func (.func f) #[] #[u])
inductive RpL (P:Program) (G:Sig τ) (h:Fz):(ts:List Ty)→DP τ ts→List Value→Prop
 | nil:RpL P G h [] () []
 | cons (t:Ty) (ts:List Ty) (p:DP τ (t::ts)) (v:Value) (vs:List Value) (h1:Rp P G h t p.hd v) (h2:RpL P G h ts p.tl vs):RpL P G h (t::ts) p (v::vs)
inductive RpR (P:Program) (G:Sig τ) (h:Fz):(e:Ty)→List (e.den τ)→List Value→Prop
 | nil (e:Ty):RpR P G h e [] []
 | cons (e:Ty) (x:e.den τ) (xs:List (e.den τ)) (vs ws:List Value) (h1:RpL P G h (ets G e) (edt G e x) vs) (h2:RpR P G h e xs ws):RpR P G h e (x::xs) (vs++ws)
end
section
variable {P:Program} {G:Sig τ} {h h':Fz}
mutual
theorem Rp.le (g:h.le h'):∀{t:Ty} {x:t.den τ} {v:Value},Rp P G h t x v→Rp P G h' t x v
 | _,_,_,.bool x => .bool x
 | _,_,_,.int x => .int x
 | _,_,_,.u8 x => .u8 x
 | _,_,_,.u16 x => .u16 x
 | _,_,_,.str x => .str x
 | _,_,_,.sl e xs a c vs hc i d => .sl e xs a c vs hc (i.le g) (d.le g)
 | _,_,_,.so j e xs v d => .so j e xs v (d.le g)
 | _,_,_,.pt n x b k vs i d => .pt n x b k vs (i.le g) (d.le g)
 | _,_,_,.po n x v d => .po n x v (d.le g)
 | _,_,_,.pn0 n => .pn0 n
 | _,_,_,.pn1 n x v d => .pn1 n x v (d.le g)
 | _,_,_,.fn m f l => .fn m f l
 | _,_,_,.nil => .nil
 | _,_,_,.fc f => .fc f
 | _,_,_,.mv f u => .mv f u
 | _,_,_,.cl f t x u d => .cl f t x u (d.le g)
theorem RpL.le (a:h.le h'):∀{ts:List Ty} {p:DP τ ts} {vs:List Value},RpL P G h ts p vs→RpL P G h' ts p vs
 | _,_,_,.nil => .nil
 | _,_,_,.cons t ts p v vs h1 h2 => .cons t ts p v vs (h1.le a) (h2.le a)
theorem RpR.le (a:h.le h'):∀{e:Ty} {xs:List (e.den τ)} {vs:List Value},RpR P G h e xs vs→RpR P G h' e xs vs
 | _,_,_,.nil e => .nil e
 | _,_,_,.cons e x xs vs b h1 h2 => .cons e x xs vs b (h1.le a) (h2.le a)
end
end
end Go.Rk
end
