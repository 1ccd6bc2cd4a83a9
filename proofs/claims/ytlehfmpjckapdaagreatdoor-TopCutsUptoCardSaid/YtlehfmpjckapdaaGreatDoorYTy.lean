/- strings.IndexRune at a rune beyond ASCII, in a text of ASCII bytes: -1; and strings.IndexAny, the looked-for bytes ASCII -/
import Derived.Test.YtlehfmpjckapdaaGreatDoorP0
import Derived.Test.YtlehfmpjckapdaaGreatDoorTSplit
import Derived.Shelf.Strings.IndexAnyAll
import Derived.Laws.RangeAny
import Derived.Laws.Runes
import Derived.Below
import Derived.Lib.OthersKept
import Derived.Shelf.RegionOpenPlain
import Derived.Shelf.Small.Utf8
import Derived.KernelRfl
import Derived.WideMake
import Derived.Test.YtlehfmpjckapdaaGreatDoorProg
import Derived.Laws.StructEq
import Derived.Lib.LaidTab
import Derived.Lib.ItoaNum
import Derived.WalkKit
import Derived.Lib.Walk
import Derived.Lib.SliceRun
import Derived.Lib.JoinLaws
import Derived.Laws.Externs
import Derived.Laws.Bits64b
import Derived.Deep.LoopGhost
import Derived.Laws.IdiomStrings
import Derived.Laws.BytesString
import Derived.Lib.Overlaps
import Derived.Lib.AppendZerosOnto
import Derived.Laws.AppendOwn
import Derived.Laws.IdiomCopy
import Derived.ArgAppend
import Derived.Shelf.Strings.Builder1
import Derived.Shelf.Strings.Builder2
import Derived.Shelf.Strings.OnBuilder
import Derived.Shelf.Strings.Trim
import Derived.Shelf.Small.Strs
import Derived.Shelf.Small.Wraps
import Derived.Shelf.Utf8.RuneCount
import Derived.Shelf.Strconv.Itoa0
import Derived.Shelf.Strconv.Itoa1
import Derived.Shelf.LaysM
import Derived.Shelf.Strconv.Itoa2
import Derived.Shelf.Strconv.Itoa3
import Derived.Shelf.Strconv.Itoa4
import Derived.Shelf.Strings.Search1
import Derived.Shelf.Strings.Search2
import Derived.Shelf.Strings.Search3
import Derived.Shelf.Strings.Cut
import Derived.Shelf.Strings.Count
import Derived.Shelf.Strings.Shaped
import Derived.Shelf.Strings.Prefix
import Derived.Shelf.Strings.Split
import Derived.Shelf.Strings.Replace
import Derived.Shelf.Strings.SplitShaped
import Derived.Shelf.Unicode.Decode
import Derived.Shelf.Strings.Runes
import Derived.Shelf.Strings.RuneCount
import Derived.Shelf.Strings.IndexAny
import Derived.Shelf.Strings.AsciiSet
import Derived.Shelf.Strings.Explode
import Derived.Shelf.Unicode.DecodeSlow
import Derived.Shelf.Unicode.DecodeAny
import Derived.Shelf.Unicode.DecodeLast
import Derived.Shelf.Strings.SlTrimAscii
import Derived.Lib.AppendIntMem
set_option linter.unusedVariables false
set_option linter.unusedSimpArgs false
set_option linter.unusedVariables false
set_option linter.unusedSimpArgs false
section
namespace Go.Dk
open Go.Proofs Go.Shelf Go.RowKit Go.Lib
variable {P:Program} {ρ:Ren}
theorem bcase' (b:Bool):b=true∨b=false:=by cases b<;>simp
theorem zAV (w:World) (s:ByteArray) (i:Nat):Below w.heap.size w (w.iter s i):=(Below.refl _ _).alloc (Nat.le_refl _) _
set_option maxHeartbeats 8000000 in
set_option maxRecDepth 1000000 in
theorem zCB (L:Lays.n152 P ρ) (s:ByteArray) (w:World) (hascii:∀(j:Nat) b,s.data.toList[j]? = some b→b.toNat<128) :
  Calls P (ρ.f 152) #[.string s,.int .i32 65533] w fun e w'=>e = .returned (.int .i64 (-1))∧Below w.heap.size w w':=by
 have HA:Aside (∀(j:Nat) b,s.data.toList[j]? = some b→b.toNat<128):=hascii
 clear hascii
 have mixed:=L.mixed;have t3:=L.t3; have a3:=L.a3; have z3:=L.z3; have v3:=L.v3;have t4:=L.t4; have a4:=L.a4; have z4:=L.z4; have v4:=L.v4;have t5:=L.t5; have a5:=L.a5; have z5:=L.z5; have v5:=L.v5;have t9:=L.t9; have a9:=L.a9; have z9:=L.z9; have v9:=L.v9;have t21:=L.t21; have a21:=L.a21; have z21:=L.z21; have v21:=L.v21
 go_enter L.f152,Body.n152_ntmps ρ
 go_wp2
 go_loopg [5,6] s.size (fun g _ _ wx=>∃i:Nat,i+g=s.size∧wx=w.iter s i)
 case atStart=>exact ⟨0,by omega,rfl⟩
 case round =>
  obtain ⟨i,hig,rfl⟩:=hrel
  cases gk with
  | zero =>
   obtain rfl:i=s.size:=by omega
   have hnx:=run_next_end (P:=P) w s s.size
   go_wp2
   go_ret
   exact ⟨rfl,zAV ..⟩
  | succ g =>
   have hi:i<s.size:=by omega
   obtain ⟨x,hx⟩:∃x:UInt8,s[i]'hi=x:=⟨_,rfl⟩
   have hxl:s.data.toList[i]? = some x:=by rw [← hx]; exact Lib.data_getElem? s i hi
   have hx128:x.toNat<128:=HA.out i x hxl;have hnx:=fun ty=>run_next_ascii (P:=P) w s i ty hi (by rw [hx]; exact hx128);rw [hx] at hnx;have hne:((x.toNat:Int)==65533)=false:=beq_eq_false_iff_ne.2 (by omega)
   go_wp2
   go_roundg g
   case measure=>omega
   case rel=>exact ⟨i+1,by omega,rfl⟩
set_option maxHeartbeats 8000000 in
set_option maxRecDepth 1000000 in
theorem zCC (L:Lays.n152 P ρ) (s:ByteArray) (r:Int) (w:World) (h1:128≤r) (hne:(r==65533)=false) (hv:Go.Lib.validRune r=false) :
  Calls P (ρ.f 152) #[.string s,.int .i32 r] w fun e w'=>e = .returned (.int .i64 (-1))∧w'=w:=by
 have mixed:=L.mixed;have t3:=L.t3; have a3:=L.a3; have z3:=L.z3; have v3:=L.v3;have t4:=L.t4; have a4:=L.a4; have z4:=L.z4; have v4:=L.v4;have t5:=L.t5; have a5:=L.a5; have z5:=L.z5; have v5:=L.v5;have t9:=L.t9; have a9:=L.a9; have z9:=L.z9; have v9:=L.v9;have t21:=L.t21; have a21:=L.a21; have z21:=L.z21; have v21:=L.v21;have e119:∀args w,(callFunc (ρ.f 119) args).run P w = .ok (.enter (ρ.f 119) args) w:=enters_of L.f119 (by kernel_rfl) rfl
 have h0:(0:Int)≤r:=by omega
 have h2:¬ (r<128):=by omega
 go_enter L.f152,Body.n152_ntmps ρ
 go_wp2_with (go_at_fn (ρ.f 119); refine (Any.utf8_ValidRune { L with } _ _).mono ?_; rintro e w' ⟨rfl,hw⟩; rw [hw,hv])
 go_ret
 exact ⟨rfl,rfl⟩
theorem zHj (r:Int) (h1:128≤r) (b:Lib.validRune r=true):1<(Utf8.encode r).size∧(Utf8.encode r).size≤4∧∀(h:(Utf8.encode r).size-1<(Utf8.encode r).size),128≤((Utf8.encode r)[(Utf8.encode r).size-1]'h).toNat:=by
 have a:Utf8.valid r=true:=by
  simp only [Lib.validRune,decide_eq_true_eq] at b;simp [Utf8.valid]; omega
 exact encode_facts r a h1
theorem zPS (l:List UInt8) (c:UInt8) (hc:128≤c.toNat) (h:∀b∈l,b.toNat<128):Lib.indexByte l c = -1:=by
 induction l with
 | nil=>rfl
 | cons b l f =>
  have a:(b==c)=false:=by
   refine beq_eq_false_iff_ne.2 fun e=>?_;have:=h b (List.mem_cons_self ..);rw [e] at this; omega
  simp only [Lib.indexByte,a,f (fun x d=>h x (List.mem_cons_of_mem _ d))];rfl
set_option maxHeartbeats 8000000 in
set_option maxRecDepth 1000000 in
theorem zCD (L:Lays.n152 P ρ) (s:ByteArray) (r:Int) (w:World) (h1:128≤r) (hne:(r==65533)=false) (hv:Go.Lib.validRune r=true) (hs:s.size<4294967281) (hascii:∀(j:Nat) b,s.data.toList[j]? = some b→b.toNat<128) :
  Calls P (ρ.f 152) #[.string s,.int .i32 r] w fun e w'=>e = .returned (.int .i64 (-1))∧Below w.heap.size w w':=by
 have HA:Aside (∀(j:Nat) b,s.data.toList[j]? = some b→b.toNat<128):=hascii
 clear hascii
 have mixed:=L.mixed;have t3:=L.t3; have a3:=L.a3; have z3:=L.z3; have v3:=L.v3;have t4:=L.t4; have a4:=L.a4; have z4:=L.z4; have v4:=L.v4;have t5:=L.t5; have a5:=L.a5; have z5:=L.z5; have v5:=L.v5;have t9:=L.t9; have a9:=L.a9; have z9:=L.z9; have v9:=L.v9;have t21:=L.t21; have a21:=L.a21; have z21:=L.z21; have v21:=L.v21;have e119:∀args w,(callFunc (ρ.f 119) args).run P w = .ok (.enter (ρ.f 119) args) w:=enters_of L.f119 (by kernel_rfl) rfl;have e137:∀args w,(callFunc (ρ.f 137) args).run P w = .ok (.enter (ρ.f 137) args) w:=enters_of L.f137 (by kernel_rfl) rfl
 have h0:(0:Int)≤r:=by omega
 have h2:¬ (r<128):=by omega
 have hsome:(P.underlying (ρ.t 21)).isSome=true:=by rw [t21]; rfl
 obtain ⟨hz,h4,hl⟩:=zHj r h1 hv;obtain ⟨rs,hrs⟩:∃rs,Utf8.encode r=rs:=⟨_,rfl⟩;have hcv:=fun w=>run_convert_int_string (P:=P) w (ρ.t 21) (ρ.t 9) .i32 r hsome t9;rw [hrs] at hcv hz h4 hl;obtain ⟨m,hm⟩:∃m,rs.size=m+1:=⟨rs.size-1,by omega⟩
 have hmr:m<rs.size:=by omega
 have hlm:128≤(rs[m]'hmr).toNat:=by
  have:=hl (by omega);simpa only [show rs.size-1=m by omega] using this
 clear hl
 have hsz:(rs.size:Int)-1=(m:Int):=by omega
 obtain ⟨c,hc⟩:∃c:UInt8,rs[m]'hmr=c:=⟨_,rfl⟩;rw [hc] at hlm
 go_enter L.f152,Body.n152_ntmps ρ
 go_wp2_with (go_at_fn (ρ.f 119); refine (Any.utf8_ValidRune { L with } _ _).mono ?_; rintro e w' ⟨rfl,hw⟩; rw [hw,hv])
 go_step3
 go_wp2
 go_loopg [9,10,11,12] 0 (fun g v _ _ _ wx=>v = .int .i64 (m:Int)∧wx=w)
 case atStart=>exact ⟨rfl,rfl⟩
 case round =>
  obtain ⟨rfl,rfl⟩:=hrel
  by_cases hlt:(m:Int)<(s.size:Int)
  ·have hms:m<s.size:=by omega
   obtain ⟨x,hx⟩:∃x:UInt8,s[m]'hms=x:=⟨_,rfl⟩
   have hxl:s.data.toList[m]? = some x:=by rw [← hx]; exact Lib.data_getElem? s m hms
   have hx128:x.toNat<128:=HA.out m x hxl;have hne:((x.toNat:Int)==(c.toNat:Int))=false:=beq_eq_false_iff_ne.2 (by omega)
   clear hxl
   go_wp2
   go_step3
   go_wp2
   go_region_o
   go_wp2
   have hno:Lib.indexByte (List.take (s.size-(m+1)) (List.drop (m+1) s.data.toList)) c = -1:=by
    refine zPS _ _ hlm fun b hb=>?_;obtain ⟨j,hj⟩:=List.mem_iff_getElem?.1 (List.mem_of_mem_drop (List.mem_of_mem_take hb));exact HA.out j b hj
   have hlt0:Lib.indexByte (List.take (s.size-(m+1)) (List.drop (m+1) s.data.toList)) c<0:=by omega
   have hq1:(0:Int)≤(m:Int)+1:=by omega
   have hq2:(m:Int)+1≤(s.size:Int):=by omega
   have hwr:IntKind.i64.wrap ((m:Int)+1)=(m:Int)+1:=by simp [IntKind.wrap,IntKind.signed,IntKind.bits]; omega
   have hq3:m+1≤s.size:=hms
   have hq4:¬ ((s.size:Int)<(m:Int)+1):=by omega
   have hq5:¬ (s.size<m+1):=by omega
   have hq6:(m:Int)<(m:Int)+1:=by omega
   have hback:((c.toNat:Int)).toNat.toUInt8=c:=by simp
   go_region_with_o (go_at_fn (ρ.f 137); refine (Any.strings_IndexByte { L with } _ _ _).mono ?_; rintro e w' ⟨rfl,rfl⟩)
   go_wp2
   simp only [Exit.noGoto,Exit.inBlock,Exit.then]
   go_ret
   exact ⟨rfl,((Below.refl _ _).drew).drew⟩
  ·go_wp2
   go_ret
   exact ⟨rfl,Below.refl _ _⟩
theorem zE9 (L:Lays.n152 P ρ) (s:ByteArray) (r:Int) (w:World) (h1:128≤r) (i:s.size<4294967281) (a:∀(j:Nat) b,s.data.toList[j]? = some b→b.toNat<128) :
  Calls P (ρ.f 152) #[.string s,.int .i32 r] w fun e w'=>e = .returned (.int .i64 (-1))∧Below w.heap.size w w':=by
 by_cases g:r=65533
 ·subst g; exact zCB L s w a
 ·have c:(r==65533)=false:=beq_eq_false_iff_ne.2 g
  cases d:Lib.validRune r with
  | false=>exact (zCC L s r w h1 c d).mono fun e w' ⟨h,k⟩=>⟨h,by rw [k]; exact Below.refl _ _⟩
  | true=>exact zCD L s r w h1 c d i a
theorem zHk (s:ByteArray) (i:Nat) (h:i<s.size) (g:128≤(s[i]'h).toNat):i+(Utf8.decode s i).2≤s.size∧∀k,k<(Utf8.decode s i).2→∀b,s.data.toList[i+k]? = some b→128≤b.toNat:=by
 have j:∀k (hk:i+k<s.size),s.get! (i+k)=s[i+k]'hk:=fun k hk=>by
  show s.get! (i+k)=_;simp [ByteArray.get!,getElem!_pos,hk];rfl
 have key:∀k b,s.data.toList[i+k]? = some b→∃hk:i+k<s.size,s[i+k]'hk=b:=by
  intro k b a;have l:=(List.getElem?_eq_some_iff.1 a).1
  have hk:i+k<s.size:=by rw [Lib.size_eq]; exact l
  refine ⟨hk,?_⟩;have:=Lib.data_getElem? s (i+k) hk;rw [a] at this;exact (Option.some.inj this).symm
 have f:¬ (s.get! (i+0)).toNat<128:=by rw [j 0 h]; simpa using g
 have c:∀k,(decide (i+k<s.size)&&(s.get! (i+k)).toNat/64==2)=true→i+k<s.size∧∀b,s.data.toList[i+k]? = some b→128≤b.toNat:=by
  intro k hk;simp only [Bool.and_eq_true,decide_eq_true_eq,beq_iff_eq] at hk;refine ⟨hk.1,fun b a=>?_⟩;obtain ⟨_,rfl⟩:=key k b a;rw [j k hk.1] at hk;omega
 have d:∀b,s.data.toList[i+0]? = some b→128≤b.toNat:=by
  intro b a;obtain ⟨_,rfl⟩:=key 0 b a;simpa using g
 have one:i+1≤s.size∧∀k,k<1→∀b,s.data.toList[i+k]? = some b→128≤b.toNat:=⟨h,fun k hk=>by
  have h0:k=0:=by omega
  subst h0
  exact d⟩
 have step:∀n,(i+n≤s.size∧∀k,k<n→∀b,s.data.toList[i+k]? = some b→128≤b.toNat)→(decide (i+n<s.size)&&(s.get! (i+n)).toNat/64==2)=true→(i+(n+1)≤s.size∧∀k,k<n+1→∀b,s.data.toList[i+k]? = some b→128≤b.toNat):=by
  intro n hn hc;obtain ⟨m,a⟩:=c n hc;refine ⟨by omega,fun k hk=>?_⟩
  by_cases e:k=n
  ·subst e; exact a
  ·exact hn.2 k (by omega)
 simp only [Utf8.decode,f,if_false]
 split
 ·rename_i hc
  rw [Bool.and_eq_true] at hc
  split
  ·exact step 1 one hc.2
  ·exact one
 ·split
  ·rename_i hc
   rw [Bool.and_eq_true,Bool.and_eq_true] at hc
   split
   ·exact step 2 (step 1 one hc.1.2) hc.2
   ·exact one
  ·split
   ·rename_i hc
    rw [Bool.and_eq_true,Bool.and_eq_true,Bool.and_eq_true] at hc
    split
    ·exact step 3 (step 2 (step 1 one hc.1.1.2) hc.1.2) hc.2
    ·exact one
   ·exact one
set_option maxHeartbeats 8000000 in
set_option maxRecDepth 1000000 in
theorem zAW (L:Lays.n153 P ρ) (s chars:ByteArray) (w:World) (h2:2≤chars.size) (h8:s.size≤8) (hcs:chars.size<4294967281) (hascii:∀(j:Nat) b,chars.data.toList[j]? = some b→b.toNat<128) :
  Calls P (ρ.f 153) #[.string s,.string chars] w fun e w'=>e = .returned (.int .i64 (Lib.indexAny s.data.toList chars.data.toList))∧Below w.heap.size w w':=by
 have HA:Aside (∀(j:Nat) b,chars.data.toList[j]? = some b→b.toNat<128):=hascii
 clear hascii
 have hemp:chars.toList.isEmpty=false:=by
  rw [Lib.toList_data]
  cases h:chars.data.toList with
  | nil=>have:=Lib.size_eq chars; rw [h,List.length_nil] at this; omega
  | cons _ _=>rfl
 have hn1:((chars.size:Int)==1)=false:=beq_eq_false_iff_ne.2 (by omega);have h8z:decide ((8:Int)<(s.size:Int))=false:=decide_eq_false (by omega);have t3:=L.t3; have a3:=L.a3; have z3:=L.z3; have v3:=L.v3;have t4:=L.t4; have a4:=L.a4; have z4:=L.z4; have v4:=L.v4;have t5:=L.t5; have a5:=L.a5; have z5:=L.z5; have v5:=L.v5;have t9:=L.t9; have a9:=L.a9; have z9:=L.z9; have v9:=L.v9;have t21:=L.t21; have a21:=L.a21; have z21:=L.z21; have v21:=L.v21;have e152:∀args w,(callFunc (ρ.f 152) args).run P w = .ok (.enter (ρ.f 152) args) w:=enters_of L.f152 (by kernel_rfl) rfl;have e226:∀args w,(callFunc (ρ.f 226) args).run P w = .ok (.enter (ρ.f 226) args) w:=enters_of L.f226 (by kernel_rfl) rfl
 go_enter L.f153,Body.n153_ntmps ρ
 go_wp2_with (go_at_fn (ρ.f 226); refine (Any.strings_shouldUseASCIISet { L with } _ _).mono ?_; rintro e w' ⟨rfl,hw⟩; rw [hw,h8z])
 go_loopg [9,10] s.size (fun g _ _ wx=>∃i:Nat,i+g=s.size∧wx.heap[w.heap.size]? = some (.stringIter s i)∧Below w.heap.size w wx∧Lib.NoAny s.data.toList chars.data.toList i)
 case atStart=>exact ⟨0,by omega,World.iter_heap ..,zAV ..,Lib.NoAny.zero _ _⟩
 case round =>
  obtain ⟨i,hig,hk,hbel,hno⟩:=hrel;have HN:Aside (Lib.NoAny s.data.toList chars.data.toList i):=hno;have HB:Aside (Below w.heap.size w wr):=hbel
  clear hno hbel
  by_cases hi:i<s.size
  ·obtain ⟨x,hx⟩:∃x:UInt8,s[i]'hi=x:=⟨_,rfl⟩
   have hxl:s.data.toList[i]? = some x:=by rw [← hx]; exact Lib.data_getElem? s i hi
   have Hx:Aside (s.data.toList[i]? = some x):=hxl
   clear hxl
   have HK:Aside (wr.heap[w.heap.size]? = some (.stringIter s i)):=hk;have HX2:Aside (s[i]'hi=x):=hx
   by_cases hx128:x.toNat<128
   ·have hnx:=fun ty=>run_next_ascii_at (P:=P) wr w.heap.size s i ty hk hi (by rw [hx]; exact hx128);rw [hx] at hnx
    clear hx hk
    have hcon:=Lib.contains_iff_indexByte chars.data.toList x
    have hback:((x.toNat:Int)).toNat.toUInt8=x:=by simp
    cases hin:chars.data.toList.contains x
    ·rw [hin] at hcon;have hlt:¬ ((0:Int)≤Lib.indexByte chars.data.toList x):=of_decide_eq_false hcon.symm
     clear hcon
     go_wp2_with (go_at_fn (ρ.f 152); refine (Any.strings_IndexRune_ascii { L with } _ _ _ (by omega) (by omega)).mono ?_; rintro e w' ⟨rfl,hw⟩; rw [hw,hback])
     go_roundg (gk-1)
     case measure=>omega
     case rel=>exact ⟨i+1,by omega,iterAt_heap _ _ _ _ _ HK.out,below_iterAt HB.out (Nat.le_refl _) _ _,HN.out.succ Hx.out hin⟩
    ·rw [hin] at hcon;have hge:(0:Int)≤Lib.indexByte chars.data.toList x:=of_decide_eq_true hcon.symm
     clear hcon
     go_wp2_with (go_at_fn (ρ.f 152); refine (Any.strings_IndexRune_ascii { L with } _ _ _ (by omega) (by omega)).mono ?_; rintro e w' ⟨rfl,hw⟩; rw [hw,hback])
     go_ret
     exact ⟨by rw [Lib.indexAny_hit HN.out Hx.out hin]; rfl,below_iterAt HB.out (Nat.le_refl _) _ _⟩
   ·have hhi:128≤(s[i]'hi).toNat:=by rw [hx]; omega
    have hnx:=fun ty=>run_next_any_at (P:=P) wr w.heap.size s i ty hk hi;obtain ⟨hspan,hbytes⟩:=zHk s i hi hhi;obtain ⟨h128,hwid⟩:=decode_high s i hi hhi;have HS:Aside (∀k,k<(Utf8.decode s i).2→∀b,s.data.toList[i+k]? = some b→128≤b.toNat):=hbytes
    clear hbytes hx hk hhi
    obtain ⟨dr,hdr⟩:∃dr,(Utf8.decode s i).1=dr:=⟨_,rfl⟩;obtain ⟨dw,hdw⟩:∃dw,(Utf8.decode s i).2=dw:=⟨_,rfl⟩;rw [hdr] at hnx h128;rw [hdw] at hnx hspan hwid HS
    clear hdr hdw
    have hdr:(128:Int)≤(dr:Int):=by omega
    go_wp2_with (go_at_fn (ρ.f 152); refine (zE9 { L with } _ _ _ hdr hcs HA.out).mono ?_; rintro e w' ⟨rfl,hw⟩)
    go_roundg (gk-dw)
    case measure=>omega
    case rel =>
     refine ⟨i+dw,by omega,?_,?_,fun j b hj hb=>?_⟩
     ·exact (hw.block _ (by rw [iterAt_size]; exact (Array.getElem?_eq_some_iff.1 HK.out).1)).trans (iterAt_heap _ _ _ _ _ HK.out)
     ·have hge:w.heap.size≤(wr.iterAt w.heap.size s (i+dw)).heap.size:=by
       rw [iterAt_size]; exact HB.out.size
      exact (below_iterAt HB.out (Nat.le_refl _) _ _).trans (hw.mono hge)
     ·by_cases hji:j<i
      ·exact HN.out j b hji hb
      ·have h128b:=HS.out (j-i) (by omega) b (by rw [show i+(j-i)=j by omega]; exact hb)
       rcases bcase' (chars.data.toList.contains b) with hc|hc
       ·exfalso
        obtain ⟨q,hq⟩:=List.mem_iff_getElem?.1 (List.contains_iff_mem.1 hc);have:=HA.out q b hq;omega
       ·exact hc
  ·have hnx:=fun ty=>run_next_end_at (P:=P) wr w.heap.size s i ty hk hi
   go_wp2
   go_ret
   have:i=s.size:=by omega
   subst this;exact ⟨by rw [Lib.indexAny_none (by rw [← Lib.size_eq]; exact HN.out)]; rfl,HB.out⟩
theorem zFa (L:Lays.n153 P ρ) (a:(P.info? (ρ.t 116)).map (fun i=>(i.zero,i.size))=some (some (.agg (Array.replicate 256 (.bool false))),256)) (s chars:ByteArray) (w:World) (k:s.size<4294967281) (d:chars.size<4294967281)
  (c:∀(j:Nat) b,chars.data.toList[j]? = some b→b.toNat<128) :
  Calls P (ρ.f 153) #[.string s,.string chars] w fun e w'=>e = .returned (.int .i64 (Lib.indexAny s.data.toList chars.data.toList))∧Below w.heap.size w w':=by
 by_cases h0:chars.size=0
 ·exact (Any.strings_IndexAny_none L s chars w h0).mono fun e w' ⟨h,g⟩=>⟨h,by rw [g]; exact Below.refl _ _⟩
 ·by_cases h1:chars.size=1
  ·exact (Any.strings_IndexAny_one L s chars w h1 c).mono fun e w' ⟨h,g⟩=>⟨h,by rw [g]; exact Below.refl _ _⟩
  ·by_cases l:s.size≤8
   ·exact zAW L s chars w (by omega) l d c
   ·refine (Any.strings_IndexAny_long L (zero_of_info a).1 (zero_of_info a).2 s chars w (by omega) (by omega) k d c).mono fun e w' ⟨h,g⟩=>⟨h,?_⟩;rw [g];exact ((Below.refl _ _).alloc (Nat.le_refl _) _).alloc (Nat.le_of_lt (by show _<(Array.push _ _).size; simp)) _
end Go.Dk
end
section
namespace Go.Proofs
open Go.Dk Go.Dm Go.RowKit
variable {w0 w:World}
theorem zOe {P:Program} {n:String} {g:Nat} (a:P.globalNamed n=some g) (h:w.heap[g]? = w0.heap[g]?):w.var? P n=w0.var? P n:=by
 unfold World.var?;rw [a];simp only [Option.bind_some,h]
def zi6 (w:World):Prop:=6≤w.heap.size∧(∃m,w.cell? ⟨0,0,none⟩=some (.int .i64 m))
def Away (F:List Nat):Prop:=∀b∈F,6≤b
theorem zOf:Away []:=fun b a=>by cases a
theorem zi6.same (h:zi6 w0) (c:w0.heap.size≤w.heap.size) (d:∀g,g<6→w.heap[g]? = w0.heap[g]?):zi6 w:=by
 obtain ⟨h0,⟨m,b⟩⟩:=h;exact ⟨Nat.le_trans h0 c,⟨m,(World.cell?_of_block (w:=w0) (a:=⟨0,0,none⟩) (d 0 (by omega))).trans b⟩⟩
theorem zi6.low {B:Nat} (h:zi6 w0) (b:6≤B) (a:Below B w0 w):zi6 w :=
 h.same a.size fun g c=>a.block g (by omega)
theorem zi6.size {w:World} (h:zi6 w):6≤w.heap.size:=h.1
theorem zi6.max {w:World} (h:zi6 w):(∃m,w.cell? ⟨0,0,none⟩=some (.int .i64 m)):=h.2
theorem zi6.own {F:List Nat} {L:List Res} (h:zi6 w0) (c:Away F) (a:Own w0 F w L):zi6 w :=
 h.same a.size fun g d=>a.frame g (by have:=h.size; omega) (fun b=>absurd (c g b) (by omega))
def zlb (w:World):Prop:=zi6 w∧Go.Lib.TabIs Tryz.prog w "internal/strconv.uint64pow10" .u64 Go.Lib.pow10Tab∧w.cell? ⟨5,15,none⟩=some (.int .u8 4)
theorem zlb.same (h:zlb w0) (c:w0.heap.size≤w.heap.size) (b:∀g,g<6→w.heap[g]? = w0.heap[g]?):zlb w:=by
 obtain ⟨h,hp⟩:=h;exact ⟨h.same c b,⟨by have hp:=hp.1; unfold Go.Lib.TabIs at hp ⊢; rw [← hp]; exact zOe (show Tryz.prog.globalNamed "internal/strconv.uint64pow10" = some 3 by kernel_rfl) (b 3 (by omega)),(World.cell?_of_block (w:=w0) (a:=⟨5,15,none⟩) (b 5 (by omega))).trans hp.2⟩⟩
theorem zlb.low {B:Nat} (h:zlb w0) (b:6≤B) (a:Below B w0 w):zlb w :=
 h.same a.size fun g c=>a.block g (by omega)
theorem zlb.size {w:World} (h:zlb w):6≤w.heap.size:=h.1.size
theorem zlb.own {F:List Nat} {L:List Res} (h:zlb w0) (c:Away F) (a:Own w0 F w L):zlb w :=
 h.same a.size fun g d=>a.frame g (by have:=h.size; omega) (fun b=>absurd (c g b) (by omega))
def zlc (x:Str):List Value:=[str x]
def zpw (x:zZL):List Value:=[int x.Kind,int x.N]
def zN (x:zZn):List Value:=[str x.Name,str x.Value]
def zrw (x:zZq):List Value:=[int x.Kind,str x.Text]
def zrx (x:zZJ):List Value:=[str x.From,str x.To]
theorem ei_105:(Tryz.prog.info? 135).map (fun i=>(i.zero,i.size,i.bytes))=some (some (.agg #[int 0,str []]),2,24):=by kernel_rfl
theorem el_105:Elem Tryz.prog 105 135 2 24:=⟨Tryz.underlying105,by obtain ⟨i,h0,h1,h2,a⟩:=info_parts ei_105; exact ⟨i,_,h0,h1,h2,a,rfl⟩,by decide⟩
theorem ei_140:(Tryz.prog.info? 255).map (fun i=>(i.zero,i.size,i.bytes))=some (some (.agg #[str [],str []]),2,32):=by kernel_rfl
theorem zOg:Elem Tryz.prog 140 255 2 32:=⟨Tryz.underlying140,by obtain ⟨i,h0,h1,h2,a⟩:=info_parts ei_140; exact ⟨i,_,h0,h1,h2,a,rfl⟩,by decide⟩
theorem ei_22:(Tryz.prog.info? 124).map (fun i=>(i.zero,i.size,i.bytes))=some (some (.agg #[str [],str []]),2,32):=by kernel_rfl
theorem el_22:Elem Tryz.prog 22 124 2 32:=⟨Tryz.underlying22,by obtain ⟨i,h0,h1,h2,a⟩:=info_parts ei_22; exact ⟨i,_,h0,h1,h2,a,rfl⟩,by decide⟩
theorem ei_28:(Tryz.prog.info? 56).map (fun i=>(i.zero,i.size,i.bytes))=some (some (.agg #[int 0,int 0]),2,16):=by kernel_rfl
theorem el_28:Elem Tryz.prog 28 56 2 16:=⟨Tryz.underlying28,by obtain ⟨i,h0,h1,h2,a⟩:=info_parts ei_28; exact ⟨i,_,h0,h1,h2,a,rfl⟩,by decide⟩
end Go.Proofs
end
section
namespace Go.Proofs
open Go.Dk Go.Dm Go.RowKit Go.Lib
variable {Q:Exit→Act→World→Prop} {P:Program} {w:World} {o:Oper} {a:Act}
set_option maxHeartbeats 4000000 in
set_option maxRecDepth 100000 in
theorem zPC (w:World) (hc:w.cell? ⟨5,15,none⟩=some (.int .u8 4)):Calls Tryz.prog 464 #[.int .u64 16] w fun e w'=>e = .returned (.int .i64 4)∧w'=w:=by
 have key:IntKind.u64.wrap (bits BinOp.and IntKind.u64 (16:Int) (IntKind.u64.wrap (-(16:Int)))*285870213051353865)/288230376151711744=(15:Int):=by decide +kernel
 have h0:((16:Int)==0)=false:=rfl
 go_enter Tryz.func464,Tryz.ntmps464
 go_wp2_with (simp only [key])
 go_ret
 exact ⟨rfl,rfl⟩
set_option maxHeartbeats 4000000 in
set_option maxRecDepth 100000 in
theorem tz_16 (w:World) (hc:w.cell? ⟨5,15,none⟩=some (.int .u8 4)):Calls Tryz.prog 439 #[.int .u64 16] w fun e w'=>e = .returned (.int .i64 4)∧w'=w:=by
 go_enter Tryz.func439,Tryz.ntmps439
 go_wp2_with (go_at_call 464; refine (zPC w hc).mono ?_; rintro e w' ⟨rfl,rfl⟩)
 go_ret
 exact ⟨rfl,rfl⟩
set_option maxHeartbeats 4000000 in
set_option maxRecDepth 100000 in
theorem zPD (w:World):Calls Tryz.prog 438 #[.int .i64 16] w fun e w'=>e = .returned (.bool true)∧w'=w:=by
 have key:bits BinOp.and IntKind.i64 (16:Int) (15:Int)=0:=by decide +kernel
 go_enter Tryz.func438,Tryz.ntmps438
 go_wp2_with (simp only [key])
 go_ret
 exact ⟨rfl,rfl⟩
def digs:ByteArray:={ data := #[48,49,50,51,52,53,54,55,56,57,97,98,99,100,101,102,103,104,105,106,107,108,109,110,111,112,113,114,115,116,117,118,119,120,121,122] }
theorem zJ1 (m:Nat) (a:m<16) (h:m<digs.size):digs[m]'h=zse m:=by
 have:m=0∨m=1∨m=2∨m=3∨m=4∨m=5∨m=6∨m=7∨m=8∨m=9∨m=10∨m=11∨m=12∨m=13∨m=14∨m=15:=by omega
 rcases this with rfl|rfl|rfl|rfl|rfl|rfl|rfl|rfl|rfl|rfl|rfl|rfl|rfl|rfl|rfl|rfl<;>rfl
theorem zIv {g u:Nat} (a:u<16):zro g u=[zse u]:=by
 cases g with
 | zero=>rfl
 | succ g=>unfold zro; rw [if_pos a]
theorem zyG {ops:Array Oper} {rest:List Oper} (b:o.guard=none) (x:Operand) (t t':TypeId) (f:o.op = .convert t t' x) (v:Value) (d:a.eval x=v) {c:Value}
  (g:(convert t t' v).run P w = .ok c w) (h:wpList P ops Q rest (a.put o.dst c) w):wpList P ops Q (o::rest) a w :=
 wpList_plain b fun _ i=>by
  have e:(execOp a.eval o).run P w = .ok (.value c) w:=by
   unfold execOp;simp only [f,d,Sem.run_bind,g,Result.andThen_ok,Sem.run_pure]
  unfold Oper.wp;rw [e];exact i _ _ h
theorem zPE {K:Act→World→Prop} (m:Nat) (x y:Operand) (t t':TypeId) (d:o.op = .binOp .shr t x y t') (c:a.eval x = .int .u64 m) (b:a.eval y = .int .u64 4)
  (h:K (a.put o.dst (.int .u64 ((m/16:Nat):Int))) w):o.wp P a w K Q:=by
 have e:(execOp a.eval o).run P w = .ok (.value (.int .u64 ((m/16:Nat):Int))) w:=by
  unfold execOp;simp only [d,c,b]
  have f:Int.fdiv (m:Int) 16=((m/16:Nat):Int):=by rw [Int.fdiv_eq_ediv_of_nonneg _ (by omega)]; omega
  simp [eqGuard,binOp,Op.shift,Result.andThen,IntKind.bits,f]
 unfold Oper.wp;rw [e];exact h
theorem zGx {ops:Array Oper} {rest:List Oper} (b:o.guard=none) (m:Nat) (x y:Operand) (t t':TypeId) (e:o.op = .binOp .shr t x y t') (c:a.eval x = .int .u64 m) (d:a.eval y = .int .u64 4)
  (h:wpList P ops Q rest (a.put o.dst (.int .u64 ((m/16:Nat):Int))) w):wpList P ops Q (o::rest) a w :=
 wpList_plain b fun _ f=>zPE m x y t t' e c d (f _ _ h)
set_option maxHeartbeats 4000000 in
set_option maxRecDepth 100000 in
theorem zB8 (n:Nat) (hn:n<1048576) (w:World) (hG:6≤w.heap.size) (hc:w.cell? ⟨5,15,none⟩=some (.int .u8 4)) :
  Calls Tryz.prog 396 #[.slice none 0 0,.int .u64 n,.int .i64 16,.bool false,.bool false] w fun e w'=>e = .returned (.tuple #[.slice none 0 0,str (zro 4 n)])∧Below w.heap.size w w':=by
 have hc1:∀W:World,Below w.heap.size w W→W.cell? ⟨5,15,none⟩=some (.int .u8 4):=fun W hb=>(hb.cell (p:=⟨5,15,none⟩) (show 5<w.heap.size by omega)).trans hc
 go_enter Tryz.func396,Tryz.ntmps396
 go_wp2_with (first|(go_at_call 438; refine (zPD _).mono ?_; rintro e w' ⟨rfl,rfl⟩)|(go_at_call 439; refine (tz_16 _ (hc1 _ (zoG w _))).mono ?_; rintro e w' ⟨rfl,rfl⟩))
 go_loopg [1,13] 4 (fun g u i wx=>∃(un k:Nat) (d:Str) (row:Array Value) (ty:TypeId),u = .int .u64 un∧i = .int .i64 k∧un<16^(g+1)∧60+g<k∧k+d.length=65∧zro 4 n=zro g un++d∧Below w.heap.size w wx∧wx.heap[w.heap.size]? = some (.cells row ty (0,0))∧row.size=65∧∀j,j<d.length→row[k+j]? = d[j]?.map zcs)
 case atStart =>
  exact ⟨n,65,[],_,_,rfl,rfl,by omega,by omega,rfl,by simp,zoG w _,zkx _,rfl,fun j hj=>by cases hj⟩
 case round =>
  obtain ⟨un,k,d,row,ty,rfl,rfl,hlt,hk,hkd,hF,hB,hh,hrs,hrow⟩:=hrel;have HB:Aside (Below w.heap.size w wr):=hB;have HH:Aside (wr.heap[w.heap.size]? = some (.cells row ty (0,0))):=hh;have HX:Aside (∀j,j<d.length→row[k+j]? = d[j]?.map zcs):=hrow;have HF:Aside (zro 4 n=zro gk un++d):=hF;have HL:Aside (un<16^(gk+1)):=hlt
  clear hB hrow hF hlt
  by_cases hu:16≤un
  ·have hge:(16:Int)≤(un:Int):=by omega
   have hwk:IntKind.i64.wrap ((k:Int)-1)=((k-1:Nat):Int):=by rw [IntKind.wrap_i64]; omega
   have hun:un<18446744073709551616:=by
    have:=HL.out;have h5:16^(gk+1)≤16^5:=Nat.pow_le_pow_right (by omega) (by omega);omega
   have hand:bits BinOp.and IntKind.u64 (un:Int) 15=((un%16:Nat):Int):=by
    have:=bits_and_u64_nat un 15 hun (by omega);rw [show ((15:Nat):Int)=15 from rfl] at this;rw [this,show un &&& 15=un%2^4 from Nat.and_two_pow_sub_one_eq_mod un 4]
   have hi0:(0:Int)≤((un%16:Nat):Int)∧((un%16:Nat):Int)<36:=by omega
   have hk1:k-1<65:=by omega
   obtain ⟨v0,hv0⟩:∃v,row[k-1]? = some v:=⟨_,Array.getElem?_eq_getElem (by omega)⟩
   have hcx:wr.cell? ⟨w.heap.size,k-1,none⟩=some v0:=by simp [World.cell?,HH.out,hv0]
   have hfr:wr.frozen? ⟨w.heap.size,k-1,none⟩=false:=by simp [World.frozen?,HH.out]
   have hsh:((un:Int)/16)=((un/16:Nat):Int):=by omega
   have HV:Aside (row[k-1]? = some v0):=hv0
   clear hv0
   go_wp2_with (refine zGx rfl un _ _ 457 369 rfl rfl rfl ?_; simp only [Act.put,List.setIfInBounds_toArray,List.set_cons_zero,List.set_cons_succ])
   go_roundg (gk-1)
   case measure =>
    have:=HL.out
    by_cases h0:gk=0
    ·subst h0; simp at this; omega
    ·omega
   case rel =>
    have hgk:gk≠0:=by
     intro h0;have:=HL.out;subst h0; simp at this; omega
    obtain ⟨g',rfl⟩:∃g',gk=g'+1:=⟨gk-1,by omega⟩;have hd1:=zJ1 (un%16) (Nat.mod_lt _ (by decide)) (show un%16<36 by omega);refine ⟨un/16,k-1,zse (un%16)::d,row.setIfInBounds (k-1) (zcs (zse (un%16))),ty,rfl,rfl,?_,by omega,by simp only [List.length_cons]; omega,?_,HB.out.setCell (p:=⟨w.heap.size,k-1,none⟩) (Nat.le_refl _) _,?_,by simpa using hrs,fun j hj=>?_⟩
    ·have:=HL.out;rw [Nat.pow_succ] at this;simp only [Nat.add_sub_cancel];omega
    ·rw [HF.out];show zro (g'+1) un++d=_;rw [zro,if_neg (by omega)];simp
    ·have e:∀b:UInt8,b=zse (un%16)→(wr.setCell ⟨w.heap.size,k-1,none⟩ (Value.int IntKind.u8 (b.toNat:Int))).heap[w.heap.size]? = some (Obj.cells (row.setIfInBounds (k-1) (zcs (zse (un%16)))) ty (0,0)):=by
      rintro b rfl;simp [World.setCell,Array.getElem?_modify,HH.out]
     exact e _ hd1
    ·rw [Array.getElem?_setIfInBounds]
     cases j with
     | zero=>simp; omega
     | succ j =>
      have hjd:j<d.length:=by simpa using hj
      rw [if_neg (by omega),show k-1+(j+1)=k+j by omega,HX.out j hjd];simp
  ·have hlt:un<16:=by omega
   have hge:¬ ((16:Int)≤(un:Int)):=by omega
   have hge':(un:Int)<16:=by omega
   have hwk:IntKind.i64.wrap ((k:Int)-1)=((k-1:Nat):Int):=by rw [IntKind.wrap_i64]; omega
   have hi0:(0:Int)≤(un:Int)∧(un:Int)<36:=by omega
   have hi1:un<36:=by omega
   have hk1:k-1<65:=by omega
   have hk2:k-1≤65:=by omega
   have hk66:k≤66:=by omega
   have hk65:k≤65+1:=by omega
   have hk3:¬ (65=k-1):=by omega
   have hk3':¬ (k-1=65):=by omega
   obtain ⟨v0,hv0⟩:∃v,row[k-1]? = some v:=⟨_,Array.getElem?_eq_getElem (by omega)⟩
   have hcx:wr.cell? ⟨w.heap.size,k-1,none⟩=some v0:=by simp [World.cell?,HH.out,hv0]
   have hfr:wr.frozen? ⟨w.heap.size,k-1,none⟩=false:=by simp [World.frozen?,HH.out]
   have HV:Aside (row[k-1]? = some v0):=hv0
   have hR:zro 4 n=zse un::d:=by rw [HF.out,zIv hlt]; rfl
   have HR:Aside (zro 4 n=zse un::d):=hR;have HD:Aside (digs[un]'(show un<36 by omega)=zse un):=zJ1 un hlt _
   have hcv:∀(val:Value) (L C:Nat),val=zcs (zse un)→L=(zse un::d).length→(convert 84 9 (.slice (some ⟨w.heap.size,k-1,none⟩) L C)).run Tryz.prog (wr.setCell ⟨w.heap.size,k-1,none⟩ val) = .ok (.string ⟨(zse un::d).toArray⟩) (wr.setCell ⟨w.heap.size,k-1,none⟩ val):=by
    rintro val L C rfl rfl;refine run_convert_bytes_back _ 84 9 5 ⟨w.heap.size,k-1,none⟩ C (zse un::d) (by kernel_rfl) (by kernel_rfl) (by kernel_rfl) fun j hj=>?_
    have hh2:(wr.setCell ⟨w.heap.size,k-1,none⟩ (zcs (zse un))).heap[w.heap.size]? = some (Obj.cells (row.setIfInBounds (k-1) (zcs (zse un))) ty (0,0)):=by
     simp [World.setCell,Array.getElem?_modify,HH.out]
    rw [Addr.add_lit];simp only [World.cell?,hh2];rw [Array.getElem?_setIfInBounds]
    cases j with
    | zero=>simp [zcs]; omega
    | succ j =>
     have hjd:j<d.length:=by simpa using hj
     rw [show k-1+(j+1)=k+j by omega,if_neg (show ¬ (k-1=k+j) by omega),HX.out j hjd,List.getElem?_eq_getElem hjd];rfl
   have hsl:∀W,(Instr.sliceAt 504 (.pointer (some ⟨w.heap.size,0,none⟩)) (some (.int .i64 ((k-1:Nat):Int))) none none).run Tryz.prog W = .ok (.slice (some ⟨w.heap.size,k-1,none⟩) (65-(k-1)) (65-(k-1))) W:=fun W=>by
    have hal:Tryz.prog.arrayLen 504=65:=by kernel_rfl
    have hel:Tryz.prog.elem 504=5:=by kernel_rfl
    rw [run_sliceAt_array_l (P:=Tryz.prog) W 504 ⟨w.heap.size,0,none⟩ (by rw [hal,hel]; exact Tryz.underlying504) .i64 _ (by omega) (by rw [hal]; omega),hel,zeo (show znV Tryz.prog 5=some 1 by kernel_rfl),hal];simp only [Result.andThen,slicedAt];rw [show (((k-1:Nat):Int)).toNat=k-1 from Int.toNat_natCast _,if_neg (by omega),Addr.add_lit,Nat.mul_one,Nat.zero_add]
   clear hv0 hR
   go_wp2_with (refine zyG rfl _ 84 9 rfl _ rfl (hcv _ _ _ (congrArg (fun c:UInt8=>Value.int .u8 (c.toNat:Int)) HD.out) (by simp only [List.length_cons]; omega)) ?_)
   go_ret2
   exact ⟨by rw [HR.out]; rfl,HB.out.setCell (p:=⟨w.heap.size,k-1,none⟩) (Nat.le_refl _) _⟩
set_option maxHeartbeats 4000000 in
set_option maxRecDepth 100000 in
theorem zAd (n:Nat) (hn:n<1048576) (w:World) (hG:6≤w.heap.size) (hc:w.cell? ⟨5,15,none⟩=some (.int .u8 4)) :
  Calls Tryz.prog 356 #[.int .i64 n,.int .i64 16] w fun e w'=>e = .returned (str (zro 4 n))∧Below w.heap.size w w':=by
 have hwu:IntKind.u64.wrap (n:Int)=(n:Int):=by rw [IntKind.wrap_u64]; omega
 have hnn:¬ ((n:Int)<0):=by omega
 go_enter Tryz.func356,Tryz.ntmps356
 go_wp2_with (go_at_call 396; refine (zB8 n hn w hG hc).mono ?_; rintro e w' ⟨rfl,hb⟩)
 go_ret
 exact ⟨rfl,hb⟩
set_option maxHeartbeats 4000000 in
set_option maxRecDepth 100000 in
theorem zDZ (n:Nat) (hn:n<1048576) (w:World) (hG:6≤w.heap.size) (hc:w.cell? ⟨5,15,none⟩=some (.int .u8 4)) :
  Calls Tryz.prog 295 #[.int .i64 n,.int .i64 16] w fun e w'=>e = .returned (str (zro 4 n))∧Below w.heap.size w w':=by
 go_enter Tryz.func295,Tryz.ntmps295
 go_wp2_with (go_at_call 356; refine (zAd n hn w hG hc).mono ?_; rintro e w' ⟨rfl,hb⟩)
 go_ret
 exact ⟨rfl,hb⟩
end Go.Proofs
end
section
namespace Go.Proofs
open Go.Dk Go.Dm Go.RowKit Go.Lib
theorem zgU (w:World) {P:Program} {ops:Array Oper} {rest:List Oper} {o:Oper} {a:Act} {Q:Exit→Act→World→Prop} (b:o.guard=none) (d s:Operand) (t t':TypeId)
  (f:o.op = .call { callee := .builtin .append,args := #[d,s],argTypes := #[t,t'] }) (v u:Value) (hd:a.eval d=v) (e:a.eval s=u) {c:Value} {w':World}
  (g:(Builtin.append_ #[t,t'] o.type #[v,u]).run P w = .ok c w') (h:wpList P ops Q rest (a.put o.dst c) w'):wpList P ops Q (o::rest) a w :=
 wpList_plain b fun _ i=>by
  unfold Oper.wp execOp;simp only [f,resolve,invoke,builtin,Sem.run_bind,Sem.run_pure,Result.andThen_ok,List.map_toArray,List.map_cons,List.map_nil,hd,e,g];exact i _ _ h
theorem ztN {P:Program} (w:World) (k p ty elem:TypeId) (b o c f:Nat) (a:Addr) (d g sz:Nat) (cs:List Value) (cur:Array Value)
  (m:P.underlying k=some (.slice elem)) (l:znV P elem=some sz) (hn:cs.length=Nat.min d c*sz) (q:w.heap[b]? = some (.cells cur elem (0,0)))
  (i:∀j v,cs[j]? = some v→w.cell? (a.add j)=some v) (h:o+cs.length≤cur.size) (h1:∀v∈cs,v.oneCell'=true) :
  (Builtin.copy_ #[k,p] ty #[.slice (some ⟨b,o,none⟩) c f,.slice (some a) d g]).run P w = .ok (goInt (Nat.min d c)) (w.setRow b (cur.toList.take o++cs++cur.toList.drop (o+cs.length)).toArray):=by
 have n:=run_loadCells_list (P:=P) w a cs i;have e:=run_storeCells_at P b o elem cs 0 cur w q (by simpa using h) h1;simp only [Nat.add_zero] at e;simp [Builtin.copy_,run_underlying m,Builtin.lenOf,Builtin.firstCells,zeo l, ← hn,n,e,Result.andThen]
set_option maxHeartbeats 4000000 in
set_option maxRecDepth 100000 in
theorem zFd (b n c i vb m vc:Nat) (cs vs:List Value) (cur:Array Value) (w:World) (hi:i<n) (hm:0<m) (hroom:n+m≤c) (hc63:c≤9223372036854775807) (hvb:vb≠b)
  (hcl:cs.length=n*2) (hvl:vs.length=m*2) (hg:w.heap[b]? = some (.cells cur 255 (0,0))) (hcz:cur.size=c*2) (hcs:cur.toList.take (n*2)=cs)
  (hvs:∀j v,vs[j]? = some v→w.cell? ⟨vb,j,none⟩=some v) (h1c:∀v∈cs,v.oneCell'=true) (h1v:∀v∈vs,v.oneCell'=true)
  (tA:TypeId) (kA:Nat) (hsa:w.shape? vb=some (tA,kA)) (hsb:w.shape? b=some (255,c*2)) (hfa:w.frozen? ⟨vb,0,none⟩=false) (hfe:w.frozen? ⟨vb,kA,none⟩=false) :
  Calls Tryz.prog 413 #[.slice (some ⟨b,0,none⟩) n c,.int .i64 i,.slice (some ⟨vb,0,none⟩) m vc] w fun e w' =>
   e = .returned (.slice (some ⟨b,0,none⟩) (n+m) c)∧∃l:List Value,l.length=c*2∧l.take ((n+m)*2)=cs.take (i*2)++vs++cs.drop (i*2)∧∃W1,(W1=w.drew.setRow b l.toArray∨∃l',W1=(w.drew.setRow b l').setRow b l.toArray)∧w'=W1:=by
 have mixed:Tryz.prog.follows .mixedOrders=true:=by kernel_rfl
 have hz1:¬ ((m:Int)=0):=by omega
 have hz2:¬ ((i:Int)=(n:Int)):=by omega
 have hov:∀lb cb,(callFunc 446 #[.slice (some ⟨vb,0,none⟩) m vc,.slice (some ⟨b,(i+m)*2,none⟩) lb cb]).run Tryz.prog w = .ok (.value (.bool false)) w:=fun lb cb=>by
  rw [run_callFunc_extern Tryz.func446 (by kernel_rfl) (by kernel_rfl) (by kernel_rfl) (e:=Extern.SlicesOverlaps.overlaps #[140,140] #[4]) (by kernel_rfl),
   Lib.run_overlaps_apart w 140 4 255 Tryz.underlying140 2 (fun w=>zeo (by kernel_rfl)) ⟨vb,0,none⟩ ⟨b,(i+m)*2,none⟩ m vc lb cb hvb tA 255 kA (c*2) hsa hsb (by omega) hfa hfe]
  rfl
 have hdl:(cs.drop (i*2)).length=(n-i)*2:=by rw [List.length_drop,hcl]; omega
 have hcell:∀j v,cs[j]? = some v→w.cell? ⟨b,j,none⟩=some v:=fun j v hj=>by
  rw [← hcs,List.getElem?_take] at hj
  split at hj
  ·simp only [World.cell?,hg]; simpa using hj
  ·cases hj
 have hgd:w.drew.heap[b]? = some (.cells cur 255 (0,0)):=hg
 have hcp1:∀ty dc sc,(Builtin.copy_ #[140,140] ty #[.slice (some ⟨b,(i+m)*2,none⟩) (n+m-(i+m)) dc,.slice (some ⟨b,i*2,none⟩) (n+m-i) sc]).run Tryz.prog w.drew = .ok (goInt (Nat.min (n+m-i) (n+m-(i+m)))) (w.drew.setRow b (cur.toList.take ((i+m)*2)++cs.drop (i*2)++cur.toList.drop ((i+m)*2+(cs.drop (i*2)).length)).toArray):=fun ty dc sc =>
  ztN w.drew _ _ ty 255 b ((i+m)*2) (n+m-(i+m)) dc ⟨b,i*2,none⟩ (n+m-i) sc 2 (cs.drop (i*2)) cur Tryz.underlying140 (by kernel_rfl) (by rw [hdl]; simp only [Nat.min_def]; split<;>omega) hgd
   (fun j v hj=>by rw [Addr.add_lit]; exact hcell (i*2+j) v (by rwa [List.getElem?_drop] at hj))
   (by rw [hdl,hcz]; omega) (fun v hv=>h1c v (List.mem_of_mem_drop hv))
 obtain ⟨l1,hl1⟩:∃l1,l1=cur.toList.take ((i+m)*2)++cs.drop (i*2)++cur.toList.drop ((i+m)*2+(cs.drop (i*2)).length):=⟨_,rfl⟩;rw [← hl1] at hcp1
 have hl1l:l1.length=c*2:=by
  rw [hl1]; simp only [List.length_append,List.length_take,List.length_drop,Array.length_toList,hcz,hcl];rw [Nat.min_eq_left (by omega)]; omega
 have hg1:(w.drew.setRow b l1.toArray).heap[b]? = some (.cells l1.toArray 255 (0,0)):=setRow_heap w.drew b cur l1.toArray 255 (0,0) hgd
 have hcp2:∀(W:World),W.heap=(w.drew.setRow b l1.toArray).heap→∀ty dc,(Builtin.copy_ #[140,140] ty #[.slice (some ⟨b,i*2,none⟩) (n+m-i) dc,.slice (some ⟨vb,0,none⟩) m vc]).run Tryz.prog W = .ok (goInt (Nat.min m (n+m-i))) (W.setRow b (l1.toArray.toList.take (i*2)++vs++l1.toArray.toList.drop (i*2+vs.length)).toArray):=fun W hW ty dc =>
  ztN W _ _ ty 255 b (i*2) (n+m-i) dc ⟨vb,0,none⟩ m vc 2 vs l1.toArray Tryz.underlying140 (by kernel_rfl) (by rw [hvl]; simp only [Nat.min_def]; split<;>omega) (by rw [hW]; exact hg1)
   (fun j v hj=>by
    rw [Addr.add_lit,Nat.zero_add];have h2:=hvs j v hj;simp only [World.cell?] at h2 ⊢;rw [hW,setRow_other w.drew b vb _ hvb]
    exact h2)
   (by rw [hvl]; simp [hl1l]; omega) h1v
 have hw1:IntKind.i64.wrap ((i:Int)+(m:Int))=(i:Int)+(m:Int):=by rw [IntKind.wrap_i64]; omega
 have hw2:IntKind.i64.wrap ((n:Int)+(m:Int))=(n:Int)+(m:Int):=by rw [IntKind.wrap_i64]; omega
 have hb1:(0:Int)≤(i:Int)+(m:Int):=by omega
 have hin:i≤n:=by omega
 have htn:((i:Int)+(m:Int)).toNat=i+m:=by omega
 have hb2:¬ (c=i+m):=by omega
 have hb3:(i:Int)≤(n:Int)+(m:Int):=by omega
 have hb4:¬ (c=i):=by omega
 have hfin:(l1.toArray.toList.take (i*2)++vs++l1.toArray.toList.drop (i*2+vs.length)).length=c*2∧(l1.toArray.toList.take (i*2)++vs++l1.toArray.toList.drop (i*2+vs.length)).take ((n+m)*2)=cs.take (i*2)++vs++cs.drop (i*2):=by
  have e0:l1.toArray.toList=l1:=rfl;rw [e0];refine ⟨by simp only [List.length_append,List.length_take,List.length_drop,hl1l,hvl]; rw [Nat.min_eq_left (by omega)]; omega,?_⟩
  have a1:l1.take (i*2)=cs.take (i*2):=by
   rw [hl1,List.append_assoc,List.take_append_of_le_length (by rw [List.length_take,Array.length_toList,hcz]; omega),List.take_take,Nat.min_eq_left (by omega), ← hcs,List.take_take,Nat.min_eq_left (by omega)]
  have a2:l1.drop (i*2+vs.length)=cs.drop (i*2)++cur.toList.drop ((i+m)*2+(cs.drop (i*2)).length):=by
   have hL:cur.toList.length=c*2:=by rw [Array.length_toList,hcz]
   rw [hl1,List.append_assoc,List.drop_append,List.drop_eq_nil_of_le (by rw [List.length_take,hL,hvl]; omega),List.nil_append,List.length_take,hL,hvl,show i*2+m*2-min ((i+m)*2) (c*2)=0 by omega,List.drop_zero]
  rw [a1,a2, ← List.append_assoc,List.take_append_of_le_length (by simp only [List.length_append,List.length_take,hcl,hvl,hdl]; omega),List.take_of_length_le (by simp only [List.length_append,List.length_take,hcl,hvl,hdl]; omega)]
 clear hl1
 generalize l1.toArray.toList.take (i*2)++vs++l1.toArray.toList.drop (i*2+vs.length)=l2 at hfin hcp2
 go_enter Tryz.func413,Tryz.ntmps413
 go_wp2_with (simp only [hov])
 go_region_law_o (refine step_copy_runI rfl _ _ 140 140 rfl _ _ (by simp [Act.eval,Act.put]) (by simp [Act.eval,Act.put]) (hcp1 _ _ _) ?_)
 go_wp2_with (at_builtin; refine wpList_copy_runI _ rfl _ _ 140 140 rfl _ _ rfl rfl (hcp2 _ rfl _ _) ?_)
 go_ret
 exact ⟨rfl,_,hfin.1,hfin.2,_,.inr ⟨_,rfl⟩,rfl⟩
theorem zvg (w:World) {P:Program} {ops:Array Oper} {rest:List Oper} {o:Oper} {a:Act} {Q:Exit→Act→World→Prop} (b:o.guard=none) (d s:Operand) (t t':TypeId)
  (f:o.op = .call { callee := .builtin .append,args := #[d,s],argTypes := #[t,t'] }) (v u:Value) (hd:a.eval d=v) (e:a.eval s=u) {c:Value} {w':World}
  (g:(Builtin.append_ #[t,t'] o.type #[v,u]).run P w = .ok c w') (h:wpList P ops Q rest (a.put o.dst c) w'):wpList P ops Q (o::rest) a w :=
 zgU w b d s t t' f v u hd e g h
set_option maxHeartbeats 4000000 in
set_option maxRecDepth 100000 in
theorem zHn (b n c i vb m vc:Nat) (cs vs:List Value) (w:World) (hi:i<n) (hm:0<m) (hnc:n≤c) (hroom:c<n+m) (hfit:(n+m)*32≤140737488355328) (hvb:vb<w.heap.size) (hbs:b<w.heap.size)
  (hcl:cs.length=n*2) (hvl:vs.length=m*2) (hcell:∀j v,cs[j]? = some v→w.cell? ⟨b,j,none⟩=some v)
  (hvs:∀j v,vs[j]? = some v→w.cell? ⟨vb,j,none⟩=some v) (h1c:∀v∈cs,v.oneCell'=true) (h1v:∀v∈vs,v.oneCell'=true) :
  Calls Tryz.prog 413 #[.slice (some ⟨b,0,none⟩) n c,.int .i64 i,.slice (some ⟨vb,0,none⟩) m vc] w fun e w' =>
   ∃(C:Nat) (l:List Value),e = .returned (.slice (some ⟨w.heap.size,0,none⟩) (n+m) C)∧n+m≤C∧C≤maxLen∧l.length=C*2∧l.take ((n+m)*2)=cs.take (i*2)++vs++cs.drop (i*2) ∧
    w'.os=w.os∧w'.tape=w.tape∧w'.output=w.output∧w'.heap.size=w.heap.size+1∧(∀j,j<w.heap.size→w'.heap[j]? = w.heap[j]?)∧w'.heap[w.heap.size]? = some (.cells l.toArray 255 (0,0)):=by
 have mixed:Tryz.prog.follows .mixedOrders=true:=by kernel_rfl
 have hz1:¬ ((m:Int)=0):=by omega
 have hz2:¬ ((i:Int)=(n:Int)):=by omega
 have hw2:IntKind.i64.wrap ((n:Int)+(m:Int))=(n:Int)+(m:Int):=by rw [IntKind.wrap_i64]; omega
 have hw3:IntKind.i64.wrap ((n:Int)+(m:Int)-(i:Int))=(((n+m-i:Nat)):Int):=by rw [IntKind.wrap_i64]; omega
 have hw1:IntKind.i64.wrap ((i:Int)+(m:Int))=(i:Int)+(m:Int):=by rw [IntKind.wrap_i64]; omega
 obtain ⟨ti,hti,hts,htb⟩:∃ti,Tryz.prog.info? 255=some ti∧ti.size=2∧ti.bytes=32:=by
  have h:(Tryz.prog.info? 255).map (fun t=>(t.size,t.bytes))=some (2,32):=by kernel_rfl
  obtain ⟨ti,h1,h2⟩:=Option.map_eq_some_iff.1 h;exact ⟨ti,h1,by injection h2,by injection h2⟩
 obtain ⟨z,hz,hzs⟩:∃z,ti.zero=some z∧z.cells.size=2:=by
  have h:((Tryz.prog.info? 255).bind (·.zero)).map (·.cells.size)=some 2:=by kernel_rfl
  rw [hti] at h;obtain ⟨z,h1,h2⟩:=Option.map_eq_some_iff.1 h;exact ⟨z,h1,h2⟩
 have hty3:Tryz.prog.underlying 3=some (.int .i64):=by kernel_rfl
 have hap0:=fun ty=>run_append_grow_zeros (P:=Tryz.prog) w 140 3 ty 255 ti z .i64 .i64 Tryz.underlying140 hty3 hti hz (some ⟨b,0,none⟩) i c (cs.take (i*2))
   (run_firstCells_some (P:=Tryz.prog) w.drew ti.size i ⟨b,0,none⟩ i c (cs.take (i*2)) (by rw [List.length_take,hcl,hts]; omega) (fun j v hj=>by
    rw [Addr.add_lit,Nat.zero_add];rw [List.getElem?_take] at hj
    split at hj
    ·exact hcell j v hj
    ·cases hj))
   (n+m-i) (by omega) (by omega) (by omega) (by omega) (by rw [htb]; omega) (growslice_fits (by omega) (by rw [htb]; omega))
 have hC1:=grownCap_ge w (i+(n+m-i)) c 255;have hC2:=grownCap_le_maxLen w (i+(n+m-i)) c 255 (by simp only [maxLen]; omega)
 have hrl:((cs.take (i*2)).toArray++Builtin.zeroCells z.cells (n+m-i)++Builtin.zeroCells z.cells (grownCap w (i+(n+m-i)) c 255-(i+(n+m-i)))).size=grownCap w (i+(n+m-i)) c 255*2:=by
  simp only [Array.size_append,List.size_toArray,size_zeroCells,hzs,List.length_take,hcl];omega
 have hrt:((cs.take (i*2)).toArray++Builtin.zeroCells z.cells (n+m-i)++Builtin.zeroCells z.cells (grownCap w (i+(n+m-i)) c 255-(i+(n+m-i)))).toList.take (i*2)=cs.take (i*2):=by
  simp only [Array.toList_append,List.append_assoc]
  have hl:(cs.take (i*2)).length=i*2:=by rw [List.length_take,hcl]; omega
  exact List.take_left' hl
 rw [show i+(n+m-i)=n+m by omega] at hap0 hC1 hC2 hrl hrt;generalize grownCap w (n+m) c 255=C at hap0 hC1 hC2 hrl hrt;generalize (cs.take (i*2)).toArray++Builtin.zeroCells z.cells (n+m-i)++Builtin.zeroCells z.cells (C-(n+m))=row at hap0 hrl hrt;obtain ⟨W1,hW1⟩:∃W1,W1=w.drew.alloc (.cells row 255):=⟨_,rfl⟩;rw [← hW1] at hap0
 have g1:W1.heap[w.heap.size]? = some (.cells row 255 (0,0)):=by rw [hW1]; exact heap_alloc_new w.drew _
 have o1:∀j,j<w.heap.size→W1.heap[j]? = w.heap[j]? := fun j hj=>by rw [hW1]; exact heap_alloc_old w.drew _ hj
 have hcp1:∀ty dc,(Builtin.copy_ #[140,140] ty #[.slice (some ⟨w.heap.size,i*2,none⟩) (n+m-i) dc,.slice (some ⟨vb,0,none⟩) m vc]).run Tryz.prog W1 = .ok (goInt (Nat.min m (n+m-i))) (W1.setRow w.heap.size (row.toList.take (i*2)++vs++row.toList.drop (i*2+vs.length)).toArray):=fun ty dc =>
  ztN W1 _ _ ty 255 w.heap.size (i*2) (n+m-i) dc ⟨vb,0,none⟩ m vc 2 vs row Tryz.underlying140 (by kernel_rfl) (by rw [hvl]; simp only [Nat.min_def]; split<;>omega) g1
   (fun j v hj=>by
    rw [Addr.add_lit,Nat.zero_add];have h2:=hvs j v hj;simp only [World.cell?] at h2 ⊢;rw [o1 vb hvb]
    exact h2)
   (by rw [hvl,hrl]; omega) h1v
 obtain ⟨l2,hl2⟩:∃l2,l2=row.toList.take (i*2)++vs++row.toList.drop (i*2+vs.length):=⟨_,rfl⟩;rw [← hl2] at hcp1
 have hl2l:l2.length=C*2:=by
  rw [hl2]; simp only [List.length_append,List.length_take,List.length_drop,Array.length_toList,hrl,hvl];rw [Nat.min_eq_left (by omega)]; omega
 have hl2t:l2.take ((i+m)*2)=cs.take (i*2)++vs:=by
  rw [hl2,hrt]
  have hl:(cs.take (i*2)++vs).length=(i+m)*2:=by rw [List.length_append,List.length_take,hcl,hvl]; omega
  exact List.take_left' hl
 have hdl:(cs.drop (i*2)).length=(n-i)*2:=by rw [List.length_drop,hcl]; omega
 have g2:(W1.setRow w.heap.size l2.toArray).heap[w.heap.size]? = some (.cells l2.toArray 255 (0,0)):=setRow_heap W1 w.heap.size row l2.toArray 255 (0,0) g1
 have hcp2:∀(W:World),W.heap=(W1.setRow w.heap.size l2.toArray).heap→∀ty dc sc,(Builtin.copy_ #[140,140] ty #[.slice (some ⟨w.heap.size,(i+m)*2,none⟩) (n+m-(i+m)) dc,.slice (some ⟨b,i*2,none⟩) (n-i) sc]).run Tryz.prog W = .ok (goInt (Nat.min (n-i) (n+m-(i+m)))) (W.setRow w.heap.size (l2.toArray.toList.take ((i+m)*2)++cs.drop (i*2)++l2.toArray.toList.drop ((i+m)*2+(cs.drop (i*2)).length)).toArray):=fun W hW ty dc sc =>
  ztN W _ _ ty 255 w.heap.size ((i+m)*2) (n+m-(i+m)) dc ⟨b,i*2,none⟩ (n-i) sc 2 (cs.drop (i*2)) l2.toArray Tryz.underlying140 (by kernel_rfl) (by rw [hdl]; simp only [Nat.min_def]; split<;>omega) (by rw [hW]; exact g2)
   (fun j v hj=>by
    rw [Addr.add_lit];have h2:=hcell (i*2+j) v (by rwa [List.getElem?_drop] at hj);simp only [World.cell?] at h2 ⊢;rw [hW,setRow_other W1 w.heap.size b _ (by omega),o1 b hbs]
    exact h2)
   (by rw [hdl]; simp [hl2l]; omega) (fun v hv=>h1c v (List.mem_of_mem_drop hv))
 have hfin:(l2.toArray.toList.take ((i+m)*2)++cs.drop (i*2)++l2.toArray.toList.drop ((i+m)*2+(cs.drop (i*2)).length)).length=C*2∧(l2.toArray.toList.take ((i+m)*2)++cs.drop (i*2)++l2.toArray.toList.drop ((i+m)*2+(cs.drop (i*2)).length)).take ((n+m)*2)=cs.take (i*2)++vs++cs.drop (i*2):=by
  have e0:l2.toArray.toList=l2:=rfl;rw [e0,hl2t];refine ⟨by simp only [List.length_append,List.length_take,List.length_drop,hl2l,hvl,hcl]; omega,?_⟩
  have hl:(cs.take (i*2)++vs++cs.drop (i*2)).length=(n+m)*2:=by rw [List.length_append,List.length_append,List.length_take,hcl,hvl,hdl]; omega
  exact List.take_left' hl
 generalize l2.toArray.toList.take ((i+m)*2)++cs.drop (i*2)++l2.toArray.toList.drop ((i+m)*2+(cs.drop (i*2)).length)=l3 at hfin hcp2
 obtain ⟨q1,q2,q3,q4⟩:W1.os=w.os∧W1.tape=w.tape∧W1.output=w.output∧W1.heap.size=w.heap.size+1:=by rw [hW1]; exact ⟨rfl,rfl,rfl,by simp⟩
 clear hl2 hrt hl2t hrl hW1
 have hcp3:=hcp2 (W1.setRow w.heap.size l2.toArray).drew rfl
 clear hcp2
 have hb1:¬ (c=i):=by omega
 have hin:i≤n:=by omega
 have hcn:¬ (n+m≤c):=by omega
 have hci:(c:Int)<(n:Int)+(m:Int):=by omega
 have hic:i≤c:=by omega
 have htn:((i:Int)+(m:Int)).toNat=i+m:=by omega
 have hd1:(0:Int)≤(i:Int)+(m:Int):=by omega
 have hd2:¬ (C=i+m):=by omega
 have hd3:(i:Int)≤(n:Int)+(m:Int):=by omega
 have hd4:¬ (C=i):=by omega
 go_enter Tryz.func413,Tryz.ntmps413
 go_wp2_with (at_builtin; refine zvg _ rfl _ _ 140 3 rfl _ _ rfl rfl (hap0 _) ?_)
 go_wp2_with (at_builtin; refine wpList_copy_runI _ rfl _ _ 140 140 rfl _ _ rfl rfl (hcp1 _ _) ?_)
 go_region_law_o (refine step_copy_runI rfl _ _ 140 140 rfl _ _ (by simp [Act.eval,Act.put]) (by simp [Act.eval,Act.put]) (hcp3 _ _ _) ?_)
 go_wp2
 go_ret
 exact ⟨C,l3,rfl,hC1,hC2,hfin.1,hfin.2,q1,q2,q3,by simp [World.setRow,q4],fun j hj=>(setRow_other (W1.setRow w.heap.size l2.toArray).drew w.heap.size j _ (by omega)).trans ((setRow_other W1 w.heap.size j _ (by omega)).trans (o1 j hj)),setRow_heap (W1.setRow w.heap.size l2.toArray).drew w.heap.size l2.toArray l3.toArray 255 (0,0) g2⟩
set_option maxHeartbeats 4000000 in
set_option maxRecDepth 100000 in
theorem zHo (b n c vb m vc:Nat) (w w1:World) (hm:0<m) (ad:Option Addr) (C:Nat) (hnc:n≤c)
  (hap:∀ty,(Builtin.append_ #[140,140] ty #[.slice (some ⟨b,0,none⟩) n c,.slice (some ⟨vb,0,none⟩) m vc]).run Tryz.prog w = .ok (.slice ad (n+m) C) w1) :
  Calls Tryz.prog 413 #[.slice (some ⟨b,0,none⟩) n c,.int .i64 n,.slice (some ⟨vb,0,none⟩) m vc] w fun e w'=>e = .returned (.slice ad (n+m) C)∧w'=w1:=by
 have hz1:¬ ((m:Int)=0):=by omega
 by_cases hcn:c=n
 ·subst hcn
  go_enter Tryz.func413,Tryz.ntmps413
  go_wp2_with (at_builtin; refine zgU _ rfl _ _ 140 140 rfl _ _ rfl rfl (hap _) ?_)
  go_ret
  exact ⟨rfl,rfl⟩
 ·go_enter Tryz.func413,Tryz.ntmps413
  go_wp2_with (at_builtin; refine zgU _ rfl _ _ 140 140 rfl _ _ rfl rfl (hap _) ?_)
  go_ret
  exact ⟨rfl,rfl⟩
set_option maxHeartbeats 4000000 in
set_option maxRecDepth 100000 in
theorem zHp (vb m vc:Nat) (w w1:World) (hm:0<m) (ad:Option Addr) (C:Nat)
  (hap:∀ty,(Builtin.append_ #[140,140] ty #[.slice none 0 0,.slice (some ⟨vb,0,none⟩) m vc]).run Tryz.prog w = .ok (.slice ad m C) w1) :
  Calls Tryz.prog 413 #[.slice none 0 0,.int .i64 0,.slice (some ⟨vb,0,none⟩) m vc] w fun e w'=>e = .returned (.slice ad m C)∧w'=w1:=by
 have hz1:¬ ((m:Int)=0):=by omega
 go_enter Tryz.func413,Tryz.ntmps413
 go_wp2_with (at_builtin; refine zgU _ rfl _ _ 140 140 rfl _ _ rfl rfl (hap _) ?_)
 go_ret
 exact ⟨rfl,rfl⟩
theorem zJa {w w':World} (b:Option Nat) (h1:w'.os=w.os) (h2:w'.tape=w.tape) (e:w'.output=w.output) (d:w.heap.size≤w'.heap.size) (a:∀j,j<w.heap.size→w'.heap[j]? = w.heap[j]?):w.grownBy w' b :=
 ⟨h1,h2,e,d,fun k c _=>a k c⟩
set_option maxHeartbeats 400000 in
set_option maxRecDepth 100000 in
theorem zPV (a:List zZn) (N:Int) (c:List zZn) (R:List zZn) (w0:World) {m:Option Addr} {d:Nat} {r:Option Addr} {f:Nat} {F:List Nat}
  (q:Dk.Own w0 F w0 [.row (.slice m a.length d) 255 2 a.length (cells zN a),.row (.slice r c.length f) 255 2 c.length (cells zN c)]) (hm:zcK a N c=some R) :
  Calls Tryz.prog 413 #[.slice m a.length d,int N,.slice r c.length f] w0 fun e w'=>∃(p0:Option Addr) (c0:Nat),e = .returned (.slice p0 R.length c0)∧Dk.Own w0 F w' [.row (.slice p0 R.length c0) 255 2 R.length (cells zN R)]:=by
 unfold zcK at hm
 split at hm
 ·rename_i hc
  obtain ⟨h1,h2,h3,h4⟩:=hc;obtain rfl:=Option.some.inj hm;have A:∀x:zZn,(zN x).length=2:=fun _=>rfl;have s:∀(l:List zZn), ∀v∈cells zN l,v.oneCell'=true:=fun l=>Dk.cells_one' (fun x u hu=>by simp [zN] at hu; rcases hu with rfl|rfl<;>rfl) l;have hel:Elem Tryz.prog 140 255 2 32:=zOg;obtain ⟨hu,⟨ti,z,hti,hz,hs1,hs2,hzs⟩,hpos⟩:=hel;have X:=h4;simp only [zf,Bool.and_eq_true,decide_eq_true_eq] at X
  rcases r with _|⟨y,vo,vsp⟩
  ·rcases (q.get (i:=1) rfl).2 with ⟨O,hn⟩|⟨g,cap,cur,p,_⟩
   ·have:c.length=0:=hn;omega
   ·cases p
  have hsv:(⟨y,vo,vsp⟩:Addr)=⟨y,0,none⟩:=by
   rcases (q.get (i:=1) rfl).2 with ⟨O,_⟩|⟨g,cap,cur,p,_⟩
   ·cases O
   ·injection p with G _ _
    injection G with G
    injection G with M Y e4
    subst M Y e4; rfl
  rw [hsv] at q ⊢;obtain ⟨I,K,hncv,hcmv,hczv,hctv,V⟩:=Dk.own_cur (q.get (i:=1) rfl)
  have hvs:∀j v,(cells zN c)[j]? = some v→w0.cell? ⟨y,j,none⟩=some v:=fun j v B=>by
   have:=((q.rowSees (i:=1) rfl).hard (fun e=>by rw [e] at B; simp at B)).2.2 j v B;simpa using this
  obtain ⟨k,rfl⟩:∃k:Nat,N=k:=⟨N.toNat,by omega⟩
  have hk:((k:Int)).toNat=k:=by simp
  rw [hk]
  have E:∀(ve:Value),ve = .slice m a.length d→k=a.length→(∀(ad:Option Addr) (C:Nat) (w1:World),(∀ty,(Builtin.append_ #[140,140] ty #[ve,.slice (some ⟨y,0,none⟩) c.length f]).run Tryz.prog w0 = .ok (.slice ad (a.length+c.length) C) w1) →
    Calls Tryz.prog 413 #[ve,int k,.slice (some ⟨y,0,none⟩) c.length f] w0 fun e w'=>e = .returned (.slice ad (a.length+c.length) C)∧w'=w1) →
    Calls Tryz.prog 413 #[ve,int k,.slice (some ⟨y,0,none⟩) c.length f] w0 fun e w'=>∃(p0:Option Addr) (c0:Nat),e = .returned (.slice p0 (a.take k++c++a.drop k).length c0)∧Dk.Own w0 F w' [.row (.slice p0 (a.take k++c++a.drop k).length c0) 255 2 (a.take k++c++a.drop k).length (cells zN (a.take k++c++a.drop k))]:=by
   rintro ve rfl hk h;subst hk
   have key:∀ty, ∃L c' w',(Builtin.append_ #[140,140] ty #[.slice m a.length d,.slice (some ⟨y,0,none⟩) c.length f]).run Tryz.prog w0 = .ok (.slice L (a.length+c.length) c') w'∧_:=fun ty =>
    zkv (P:=Tryz.prog) (w:=w0) 140 ty 255 ti z 2 32 hu hti hz hs1 hs2 hzs hpos (.slice m a.length d) a.length _ (q.get (i:=0) rfl) ⟨y,0,none⟩ c.length f (cells zN c) (Dk.cells_length A _)
     (fun j u B=>by rw [Addr.add_lit,Nat.zero_add]; exact hvs j u B) (s _) (by unfold maxLen; omega) X.2
   obtain ⟨L,c',w',hr,q2,q3,q4⟩:=key 0;refine (h L c' w' (fun ty=>hr)).mono ?_;rintro e w'' ⟨rfl,rfl⟩
   have n:(a.take a.length++c++a.drop a.length).length=a.length+c.length:=by simp
   have Z:cells zN (a.take a.length++c++a.drop a.length)=cells zN a++cells zN c:=by rw [List.take_length,List.drop_length,List.append_nil,Dk.cells_append]
   rw [n,Z];exact ⟨L,c',rfl,(q.grown (i:=0) rfl q3 q2 q4).sub (.cons_cons _ (.cons _ .slnil))⟩
  by_cases hke:k=a.length
  ·rcases m with _|⟨b,o,sp⟩
   ·have W:d=0∧a.length=0:=by
     rcases (q.get (i:=0) rfl).2 with ⟨O,hn⟩|⟨g,cap,cur,p,_⟩
     ·injection O with _ G M; exact ⟨M,hn⟩
     ·cases p
    have hk0:k=0:=by omega
    have hv0:Value.slice none a.length d = .slice none 0 0:=by rw [W.1,W.2]
    rw [hv0];refine E (.slice none 0 0) hv0.symm hke fun ad C w1 hr=>?_;subst hk0
    have e0:a.length+c.length=c.length:=by rw [W.2,Nat.zero_add]
    rw [e0] at hr ⊢;exact zHp y c.length f w0 w1 (by omega) ad C hr
   ·have H:(⟨b,o,sp⟩:Addr)=⟨b,0,none⟩:=by
     rcases (q.get (i:=0) rfl).2 with ⟨O,_⟩|⟨g,cap,cur,p,_⟩
     ·cases O
     ·injection p with G _ _
      injection G with G
      injection G with M Y e4
      subst M Y e4; rfl
    rw [H] at q E ⊢;obtain ⟨cur,hg,hnc,hcm,hcz,hct,hcl⟩:=Dk.own_cur (q.get (i:=0) rfl);refine E _ rfl hke fun ad C w1 hr=>?_;rw [hke];exact zHo b a.length d y c.length f w0 w1 (by omega) ad C hnc hr
  have hik:k<a.length:=by omega
  rcases m with _|⟨b,o,sp⟩
  ·rcases (q.get (i:=0) rfl).2 with ⟨O,hn⟩|⟨g,cap,cur,p,_⟩
   ·have:a.length=0:=hn;omega
   ·cases p
  clear E
  have H:(⟨b,o,sp⟩:Addr)=⟨b,0,none⟩:=by
   rcases (q.get (i:=0) rfl).2 with ⟨O,_⟩|⟨g,cap,cur,p,_⟩
   ·cases O
   ·injection p with G _ _
    injection G with G
    injection G with M Y e4
    subst M Y e4; rfl
  rw [H] at q ⊢;obtain ⟨cur,hg,hnc,hcm,hcz,hct,hcl⟩:=Dk.own_cur (q.get (i:=0) rfl)
  have hne:y≠b:=by
   intro e;have hp:=List.pairwise_iff_getElem.1 q.sep 0 1 (by simp) (by simp) (by omega)
   rcases hp with ⟨h,_⟩|h
   ·cases h
   ·exact h b (by simp [Res.fp,Value.ownBlock]) (by simp [Res.fp,Value.ownBlock,e])
  have hcb:d≤9223372036854775807:=hcm
  by_cases J:a.length+c.length≤d
  rotate_left
  ·refine (zHn b a.length d k y c.length f (cells zN a) (cells zN c) w0 hik (by omega) hnc (by omega) X.2 (Array.getElem?_eq_some_iff.1 K).1 (Array.getElem?_eq_some_iff.1 hg).1 hcl V (fun j v B=>by
    have:=((q.rowSees (i:=0) rfl).hard (fun e=>by rw [e] at B; simp at B)).2.2 j v B
    simpa using this) hvs (s _) (s _)).mono ?_
   rintro e w' ⟨C,l,rfl,g1,g2,g3,g4,g5,g6,g7,g8,g9,g10⟩
   have n:(a.take k++c++a.drop k).length=a.length+c.length:=by simp; omega
   have Z:cells zN (a.take k++c++a.drop k)=(cells zN a).take (k*2)++cells zN c++(cells zN a).drop (k*2):=by
    rw [Dk.cells_append,Dk.cells_append,Dk.cells_take A,Dk.cells_drop A]
   refine ⟨_,C,by rw [n],?_⟩;refine (q.grown (i:=0) rfl (zJa _ g5 g6 g7 (by omega) g9) ?_ (.inr rfl)).sub (.cons_cons _ (.cons _ .slnil));rw [n];exact ⟨by rw [Dk.cells_length A,n],.inr ⟨w0.heap.size,C,l.toArray,rfl,Nat.zero_le _,g10,g1,g2,by simpa using g3,by rw [Z]; exact g4⟩⟩
  have U:∀(w':World) (l:List Value),w'.os=w0.os→w'.tape=w0.tape→w'.output=w0.output→w'.heap.size=w0.heap.size→(∀j,j≠b→w'.heap[j]? = w0.heap[j]?)→w'.heap[b]? = some (.cells l.toArray 255 (0,0))→l.length=d*2→l.take ((a.length+c.length)*2)=cells zN (a.take k++c++a.drop k) →
    Dk.Own w0 F w' [.row (.slice (some ⟨b,0,none⟩) (a.take k++c++a.drop k).length d) 255 2 (a.take k++c++a.drop k).length (cells zN (a.take k++c++a.drop k))]:=by
   intro w' l G M Y e4 e5 e6 e7 e8
   have n:(a.take k++c++a.drop k).length=a.length+c.length:=by simp; omega
   have hT:=q.turn (i:=0) (b:=b) (w':=w') (r' := .row (.slice (some ⟨b,0,none⟩) (a.take k++c++a.drop k).length d) 255 2 (a.take k++c++a.drop k).length (cells zN (a.take k++c++a.drop k))) rfl rfl rfl rfl rfl G M Y e4 e5
    ⟨Dk.cells_length A _,.inr ⟨b,d,l.toArray,rfl,Nat.zero_le _,e6,by rw [n]; exact J,hcm,by simpa using e7,by rw [n]; exact e8⟩⟩
   exact hT.sub (.cons_cons _ (.cons _ .slnil))
  have D:∀(x:Nat) (cu:Array Value) (t:TypeId),w0.heap[x]? = some (.cells cu t (0,0))→w0.shape? x=some (t,cu.size):=fun x cu t h=>by simp [World.shape?,h]
  have Q:∀(x o:Nat) (cu:Array Value) (t:TypeId),w0.heap[x]? = some (.cells cu t (0,0))→w0.frozen? ⟨x,o,none⟩=false:=fun x o cu t h=>by simp [World.frozen?,h]
  refine (zFd b a.length d k y c.length f (cells zN a) (cells zN c) cur w0 hik (by omega) J hcb hne hcl V hg hcz hct hvs (s _) (s _) 255 _ (D y I 255 K) (by rw [D b cur 255 hg,hcz]) (Q y _ I 255 K) (Q y _ I 255 K)).mono ?_;rintro e w' ⟨rfl,l,hll,hlt,W1,hW,rfl⟩
  have T:l.take ((a.length+c.length)*2)=cells zN (a.take k++c++a.drop k):=by
    rw [hlt,Dk.cells_append,Dk.cells_append,Dk.cells_take A,Dk.cells_drop A]
  have S:(a.take k++c++a.drop k).length=a.length+c.length:=by simp; omega
  have hgd:w0.drew.heap[b]? = some (.cells cur 255 (0,0)):=hg
  rcases hW with rfl|⟨l',rfl⟩
  ·exact ⟨_,_,by rw [S],U _ l rfl rfl rfl (by simp [World.setRow]) (fun j B=>setRow_other w0.drew b j _ B) (setRow_heap w0.drew b cur l.toArray 255 (0,0) hgd) hll T⟩
  ·have h5:=setRow_heap w0.drew b cur l' 255 (0,0) hgd;exact ⟨_,_,by rw [S],U _ l rfl rfl rfl (by simp [World.setRow]) (fun j B=>(setRow_other _ b j _ B).trans (setRow_other w0.drew b j _ B)) (setRow_heap _ b l' l.toArray 255 (0,0) h5) hll T⟩
 ·cases hm
end Go.Proofs
end
section
namespace Go.Proofs
open Go.Shelf
theorem ft {α:Type} {a:Option α} {x y:α} (h:a=some x) (e:x=y:=by kernel_rfl):a=some y:=h.trans (congrArg some e)
open Tryz
def Tryz.lays156_ren:Go.Shelf.Ren:=⟨fun|156=>163|165=>217|166=>218|169=>219|240=>284|241=>285|276=>348|277=>349|n=>n,fun|31=>68|9=>9|3=>3|4=>4|0=>0|20=>20|72=>299|76=>302|70=>297|37=>84|75=>301|127=>362|164=>418|5=>5|80=>139|n=>n,fun|n=>n⟩
theorem Tryz.lays156:Go.Proofs.Lays.n156 Tryz.prog Tryz.lays156_ren:=⟨(by kernel_rfl),ft func163,ft func217,ft func218,ft func219,ft func284,ft func285,ft func348,ft func349,underlying0,isAgg0,sizeOf0,zeroValue0,underlying3,isAgg3,sizeOf3,zeroValue3,underlying4,isAgg4,sizeOf4,zeroValue4,underlying9,isAgg9,sizeOf9,zeroValue9,underlying20,isAgg20,sizeOf20,zeroValue20,underlying68,isAgg68,sizeOf68,zeroValue68,underlying84,isAgg84,sizeOf84,zeroValue84,underlying297,isAgg297,sizeOf297,zeroValue297,underlying299,isAgg299,sizeOf299,zeroValue299,underlying301,isAgg301,sizeOf301,zeroValue301,underlying302,isAgg302,sizeOf302,zeroValue302,underlying362,isAgg362,sizeOf362,zeroValue362,underlying418,isAgg418,sizeOf418,zeroValue418⟩
theorem Tryz.Builder_Extra_156:Builder.Extra Tryz.prog Tryz.lays156_ren:={ sizeBuilder:=(by kernel_rfl),liesBuilder:=(by kernel_rfl),t5:=underlying5,a5:=isAgg5,z5:=sizeOf5,v5:=zeroValue5,infoByte:=(by kernel_rfl),cellsByte:=(by kernel_rfl),sizeByte:=(by kernel_rfl),neB5:=(by decide) }
open Go.RowKit in
theorem Tryz.strings_Join_none (a:Option Addr) (c:Nat) (sep:ByteArray) (w:World) :
  Calls Tryz.prog 163 #[.slice a 0 c,.string sep] w fun e w'=>e = .returned (.string ⟨#[]⟩)∧w'=w:=Any.strings_Join_none Tryz.lays156 Tryz.Builder_Extra_156 a c sep w
open Go.RowKit in
theorem Tryz.strings_Join (bk o c:Nat) (xs:List ByteArray) (sep:ByteArray) (w:World) (a:∀(j:Nat) x,xs[j]? = some x→w.cell? ⟨bk,o+j,none⟩=some (.string x)) (f:bk<w.heap.size) (g:xs.length≤140737488355328) (d:xs.length≤c) (b:(Lib.join (xs.map (·.data.toList)) sep.data.toList).length≤140737488355328) :
  Calls Tryz.prog 163 #[.slice (some ⟨bk,o,none⟩) xs.length c,.string sep] w fun e w'=>e = .returned (.string ⟨(Lib.join (xs.map (·.data.toList)) sep.data.toList).toArray⟩)∧Below w.heap.size w w':=Any.strings_Join Tryz.lays156 Tryz.Builder_Extra_156 bk o c xs sep w a f g d b
def Tryz.lays162_ren:Go.Shelf.Ren:=⟨fun|162=>460|232=>309|227=>240|234=>311|236=>313|228=>241|271=>361|151=>360|120=>398|197=>355|152=>238|260=>392|137=>297|119=>298|224=>299|225=>300|217=>357|266=>397|n=>n,fun|9=>9|4=>4|3=>3|5=>5|117=>323|116=>322|0=>0|124=>370|21=>21|105=>422|46=>369|119=>498|139=>501|138=>500|n=>n,fun|3=>1|4=>2|n=>n⟩
theorem Tryz.lays162:Go.Proofs.Lays.n162 Tryz.prog Tryz.lays162_ren:=⟨(by kernel_rfl),ft func298,ft func398,ft func297,ft func360,ft func238,ft func460,ft func355,ft func357,ft func299,ft func300,ft func240,ft func241,ft func309,ft func311,ft func313,ft func392,ft func397,ft func361,underlying0,isAgg0,sizeOf0,zeroValue0,underlying3,isAgg3,sizeOf3,zeroValue3,underlying4,isAgg4,sizeOf4,zeroValue4,underlying5,isAgg5,sizeOf5,zeroValue5,underlying9,isAgg9,sizeOf9,zeroValue9,underlying21,isAgg21,sizeOf21,zeroValue21,underlying369,isAgg369,sizeOf369,zeroValue369,underlying422,isAgg422,sizeOf422,zeroValue422,underlying322,isAgg322,sizeOf322,underlying323,isAgg323,sizeOf323,zeroValue323,underlying498,isAgg498,sizeOf498,underlying370,isAgg370,sizeOf370,zeroValue370,underlying500,isAgg500,sizeOf500,zeroValue500,underlying501,isAgg501,sizeOf501,zeroValue501,(by kernel_rfl),(by kernel_rfl)⟩
def Tryz.lays160_ren:Go.Shelf.Ren:=⟨fun|160=>246|232=>309|231=>308|227=>240|234=>311|233=>310|236=>313|235=>312|228=>241|271=>361|151=>360|197=>355|120=>398|152=>238|260=>392|137=>297|119=>298|224=>299|225=>300|217=>357|266=>397|n=>n,fun|9=>9|4=>4|3=>3|5=>5|117=>323|116=>322|0=>0|124=>370|21=>21|105=>422|46=>369|119=>498|139=>501|138=>500|n=>n,fun|3=>1|4=>2|n=>n⟩
theorem Tryz.lays160:Go.Proofs.Lays.n160 Tryz.prog Tryz.lays160_ren:=⟨(by kernel_rfl),ft func298,ft func398,ft func297,ft func360,ft func238,ft func246,ft func355,ft func357,ft func299,ft func300,ft func240,ft func241,ft func308,ft func309,ft func310,ft func311,ft func312,ft func313,ft func392,ft func397,ft func361,underlying0,isAgg0,sizeOf0,zeroValue0,underlying3,isAgg3,sizeOf3,zeroValue3,underlying4,isAgg4,sizeOf4,zeroValue4,underlying5,isAgg5,sizeOf5,zeroValue5,underlying9,isAgg9,sizeOf9,zeroValue9,underlying21,isAgg21,sizeOf21,zeroValue21,underlying369,isAgg369,sizeOf369,zeroValue369,underlying422,isAgg422,sizeOf422,zeroValue422,underlying322,isAgg322,sizeOf322,underlying323,isAgg323,sizeOf323,zeroValue323,underlying498,isAgg498,sizeOf498,underlying370,isAgg370,sizeOf370,zeroValue370,underlying500,isAgg500,sizeOf500,zeroValue500,underlying501,isAgg501,sizeOf501,zeroValue501,(by kernel_rfl),(by kernel_rfl)⟩
def Tryz.lays137_ren:Go.Shelf.Ren:=⟨fun|137=>297|217=>357|266=>397|n=>n,fun|9=>9|5=>5|3=>3|n=>n,fun|n=>n⟩
theorem Tryz.lays137:Go.Proofs.Lays.n137 Tryz.prog Tryz.lays137_ren:=⟨(by kernel_rfl),ft func297,ft func357,ft func397,underlying3,isAgg3,sizeOf3,zeroValue3,underlying5,isAgg5,sizeOf5,zeroValue5,underlying9,isAgg9,sizeOf9,zeroValue9⟩
open Go.RowKit in
theorem Tryz.strings_IndexByte (s:ByteArray) (c:Int) (w:World) :
  Calls Tryz.prog 297 #[.string s,.int .u8 c] w fun e w'=>e = .returned (.int .i64 (Lib.indexByte s.data.toList c.toNat.toUInt8))∧w'=w:=Any.strings_IndexByte Tryz.lays137 s c w
def Tryz.laysM173_ren:Go.Shelf.Ren:=⟨fun|173=>295|246=>356|283=>393|284=>394|285=>395|286=>396|129=>436|317=>435|318=>437|319=>438|320=>439|337=>463|338=>464|n=>n,fun|2=>2|3=>3|9=>9|4=>4|171=>456|0=>0|53=>457|37=>84|5=>5|173=>460|212=>503|51=>495|20=>20|213=>504|46=>369|232=>524|233=>525|n=>n,fun|17=>3|18=>4|19=>5|n=>n⟩
theorem Tryz.laysM173:Go.Proofs.LaysM.n173 Tryz.prog Tryz.laysM173_ren:={ mixed:=(by kernel_rfl),f129:=ft func436,f173:=ft func295,f246:=ft func356,f283:=ft func393,f284:=ft func394,f285:=ft func395,f286:=ft func396,f317:=ft func435,f318:=ft func437,f319:=ft func438,f320:=ft func439,f337:=ft func463,f338:=ft func464,t0:=underlying0,a0:=isAgg0,z0:=sizeOf0,v0:=zeroValue0,t2:=underlying2,a2:=isAgg2,z2:=sizeOf2,v2:=zeroValue2,t3:=underlying3,a3:=isAgg3,z3:=sizeOf3,v3:=zeroValue3,t4:=underlying4,a4:=isAgg4,z4:=sizeOf4,v4:=zeroValue4,t5:=underlying5,a5:=isAgg5,z5:=sizeOf5,v5:=zeroValue5,t9:=underlying9,a9:=isAgg9,z9:=sizeOf9,v9:=zeroValue9,t20:=underlying20,a20:=isAgg20,z20:=sizeOf20,v20:=zeroValue20,t37:=underlying84,a37:=isAgg84,z37:=sizeOf84,v37:=zeroValue84,t46:=underlying369,a46:=isAgg369,z46:=sizeOf369,v46:=zeroValue369,t51:=underlying495,a51:=isAgg495,z51:=sizeOf495,v51:=zeroValue495,t53:=underlying457,a53:=isAgg457,z53:=sizeOf457,v53:=zeroValue457,t171:=underlying456,a171:=isAgg456,z171:=sizeOf456,v171:=zeroValue456,t173:=underlying460,a173:=isAgg460,z173:=sizeOf460,v173:=zeroValue460,t212:=underlying503,a212:=isAgg503,z212:=sizeOf503,v212:=zeroValue503,t213:=underlying504,a213:=isAgg504,z213:=sizeOf504,t232:=underlying524,a232:=isAgg524,z232:=sizeOf524,v232:=zeroValue524,t233:=underlying525,a233:=isAgg525,z233:=sizeOf525,v233:=zeroValue525,g17:=(by kernel_rfl),g18:=(by kernel_rfl),g19:=(by kernel_rfl),i0:=(by kernel_rfl),i2:=(by kernel_rfl),i3:=(by kernel_rfl),i4:=(by kernel_rfl),i5:=(by kernel_rfl),i9:=(by kernel_rfl),i20:=(by kernel_rfl),i37:=(by kernel_rfl),i46:=(by kernel_rfl),i51:=(by kernel_rfl),i53:=(by kernel_rfl),i171:=(by kernel_rfl),i173:=(by kernel_rfl),i212:=(by kernel_rfl),i232:=(by kernel_rfl),i233:=(by kernel_rfl),m17:=(by kernel_rfl),m18:=(by kernel_rfl),m19:=(by kernel_rfl) }
open Go.RowKit Go.Sort Go.Lib in
theorem Tryz.strconv_FormatInt_10 (n:Int) (h0 : -9223372036854775808≤n) (h1:n≤9223372036854775807) (w:World) (a:Lib.TabIs Tryz.prog w "internal/strconv.uint64pow10" .u64 Lib.pow10Tab) :
  Calls Tryz.prog 295 #[.int .i64 n,.int .i64 10] w fun e w'=>e = .returned (.string ⟨(Lib.itoa n).toArray⟩)∧∃k os,w'=grow (w.drewN k) os:=Any.strconv_FormatInt_10 Tryz.laysM173 n h0 h1 w a
def Tryz.lays143_ren:Go.Shelf.Ren:=⟨fun|143=>322|219=>352|217=>357|225=>300|224=>299|267=>389|266=>397|314=>432|n=>n,fun|9=>9|3=>3|4=>4|5=>5|46=>369|146=>496|51=>495|n=>n,fun|1=>0|n=>n⟩
theorem Tryz.lays143:Go.Proofs.Lays.n143 Tryz.prog Tryz.lays143_ren:=⟨(by kernel_rfl),ft func322,ft func357,ft func352,ft func299,ft func300,ft func397,ft func389,ft func432,underlying3,isAgg3,sizeOf3,zeroValue3,underlying4,isAgg4,sizeOf4,zeroValue4,underlying5,isAgg5,sizeOf5,zeroValue5,underlying9,isAgg9,sizeOf9,zeroValue9,underlying369,isAgg369,sizeOf369,zeroValue369,underlying495,isAgg495,sizeOf495,zeroValue495,underlying496,isAgg496,sizeOf496,zeroValue496,(by kernel_rfl)⟩
open Go.RowKit Go.Lib in
theorem Tryz.strings_Index (s sub:ByteArray) (m:Int) (w:World) (b:s.size<4294967281) (a:w.cell? ⟨0,0,none⟩=some (.int .i64 m)) :
  Calls Tryz.prog 322 #[.string s,.string sub] w fun e w'=>e = .returned (.int .i64 (Lib.index s.data.toList sub.data.toList))∧w'=w:=Any.strings_Index Tryz.lays143 s sub m w b a
def Tryz.lays144_ren:Go.Shelf.Ren:=⟨fun|144=>305|143=>322|219=>352|217=>357|225=>300|224=>299|267=>389|266=>397|314=>432|n=>n,fun|9=>9|4=>4|3=>3|5=>5|46=>369|146=>496|51=>495|n=>n,fun|1=>0|n=>n⟩
theorem Tryz.lays144:Go.Proofs.Lays.n144 Tryz.prog Tryz.lays144_ren:=⟨(by kernel_rfl),ft func322,ft func305,ft func357,ft func352,ft func299,ft func300,ft func397,ft func389,ft func432,underlying3,isAgg3,sizeOf3,zeroValue3,underlying4,isAgg4,sizeOf4,zeroValue4,underlying5,isAgg5,sizeOf5,zeroValue5,underlying9,isAgg9,sizeOf9,zeroValue9,underlying369,isAgg369,sizeOf369,zeroValue369,underlying495,isAgg495,sizeOf495,zeroValue495,underlying496,isAgg496,sizeOf496,zeroValue496,(by kernel_rfl)⟩
open Go.RowKit Go.Lib in
theorem Tryz.strings_Contains (s sub:ByteArray) (m:Int) (w:World) (b:s.size<4294967281) (a:w.cell? ⟨0,0,none⟩=some (.int .i64 m)) :
  Calls Tryz.prog 305 #[.string s,.string sub] w fun e w'=>e = .returned (.bool (Lib.contains s.data.toList sub.data.toList))∧w'=w:=Any.strings_Contains Tryz.lays144 s sub m w b a
def Tryz.lays145_ren:Go.Shelf.Ren:=⟨fun|145=>229|220=>289|219=>352|217=>357|225=>300|224=>299|267=>389|266=>397|314=>432|n=>n,fun|9=>9|4=>4|59=>311|3=>3|5=>5|46=>369|146=>496|51=>495|n=>n,fun|1=>0|n=>n⟩
theorem Tryz.lays145:Go.Proofs.Lays.n145 Tryz.prog Tryz.lays145_ren:=⟨(by kernel_rfl),ft func229,ft func357,ft func352,ft func289,ft func299,ft func300,ft func397,ft func389,ft func432,underlying3,isAgg3,sizeOf3,zeroValue3,underlying4,isAgg4,sizeOf4,zeroValue4,underlying5,isAgg5,sizeOf5,zeroValue5,underlying9,isAgg9,sizeOf9,zeroValue9,underlying369,isAgg369,sizeOf369,zeroValue369,underlying495,isAgg495,sizeOf495,zeroValue495,underlying311,isAgg311,sizeOf311,zeroValue311,underlying496,isAgg496,sizeOf496,zeroValue496,(by kernel_rfl)⟩
open Go.RowKit Go.Lib in
theorem Tryz.strings_Cut (s sep:ByteArray) (m:Int) (w:World) (b:s.size<4294967281) (a:w.cell? ⟨0,0,none⟩=some (.int .i64 m)) :
  Calls Tryz.prog 229 #[.string s,.string sep] w fun e w'=>e = .returned (.tuple #[.string ⟨(Lib.cut s.data.toList sep.data.toList).1.toArray⟩,.string ⟨(Lib.cut s.data.toList sep.data.toList).2.1.toArray⟩,.bool (Lib.cut s.data.toList sep.data.toList).2.2])∧∃n,w'=w.drewN n:=Any.strings_Cut Tryz.lays145 s sep m w b a
def Tryz.lays146_ren:Go.Shelf.Ren:=⟨fun|146=>290|221=>353|268=>390|138=>391|143=>322|195=>433|197=>355|218=>434|219=>352|260=>392|217=>357|225=>300|224=>299|267=>389|266=>397|314=>432|n=>n,fun|9=>9|31=>68|3=>3|4=>4|0=>0|105=>422|21=>21|5=>5|46=>369|119=>498|139=>501|138=>500|146=>496|51=>495|n=>n,fun|1=>0|3=>1|4=>2|n=>n⟩
theorem Tryz.lays146:Go.Proofs.Lays.n146 Tryz.prog Tryz.lays146_ren:=⟨(by kernel_rfl),ft func391,ft func322,ft func290,ft func433,ft func355,ft func357,ft func434,ft func352,ft func353,ft func299,ft func300,ft func392,ft func397,ft func389,ft func390,ft func432,underlying0,isAgg0,sizeOf0,zeroValue0,underlying3,isAgg3,sizeOf3,zeroValue3,underlying4,isAgg4,sizeOf4,zeroValue4,underlying5,isAgg5,sizeOf5,zeroValue5,underlying9,isAgg9,sizeOf9,zeroValue9,underlying21,isAgg21,sizeOf21,zeroValue21,underlying68,isAgg68,sizeOf68,zeroValue68,underlying369,isAgg369,sizeOf369,zeroValue369,underlying495,isAgg495,sizeOf495,zeroValue495,underlying422,isAgg422,sizeOf422,zeroValue422,underlying498,isAgg498,sizeOf498,underlying500,isAgg500,sizeOf500,zeroValue500,underlying501,isAgg501,sizeOf501,zeroValue501,underlying496,isAgg496,sizeOf496,zeroValue496,(by kernel_rfl),(by kernel_rfl),(by kernel_rfl)⟩
open Go.RowKit Go.Lib in
theorem Tryz.strings_Split (s sep:ByteArray) (m:Int) (w:World) (b:s.size<4294967281) (a:w.cell? ⟨0,0,none⟩=some (.int .i64 m)) (h1:1≤sep.size) :
  Calls Tryz.prog 290 #[.string s,.string sep] w fun e w' =>
   e = .returned (.slice (some ⟨w.heap.size,0,none⟩) (Lib.countB s sep+1) (Lib.countB s sep+1))∧w'=w.alloc (.cells ((Lib.splitB sep 0 (Lib.countB s sep) s).map Value.string).toArray 9):=Any.strings_Split Tryz.lays146 (by kernel_rfl) s sep m w b a h1
def Tryz.lays155_ren:Go.Shelf.Ren:=⟨fun|155=>316|154=>362|138=>391|165=>217|143=>322|166=>218|197=>355|169=>219|195=>433|218=>434|240=>284|241=>285|219=>352|260=>392|276=>348|277=>349|217=>357|225=>300|224=>299|267=>389|266=>397|314=>432|n=>n,fun|9=>9|3=>3|4=>4|72=>299|0=>0|76=>302|105=>422|21=>21|5=>5|70=>297|20=>20|37=>84|75=>301|127=>362|164=>418|46=>369|119=>498|139=>501|138=>500|146=>496|51=>495|80=>139|n=>n,fun|1=>0|3=>1|4=>2|n=>n⟩
theorem Tryz.lays155:Go.Proofs.Lays.n155 Tryz.prog Tryz.lays155_ren:=⟨(by kernel_rfl),ft func391,ft func322,ft func362,ft func316,ft func217,ft func218,ft func219,ft func433,ft func355,ft func357,ft func434,ft func352,ft func299,ft func300,ft func284,ft func285,ft func392,ft func397,ft func389,ft func348,ft func349,ft func432,underlying0,isAgg0,sizeOf0,zeroValue0,underlying3,isAgg3,sizeOf3,zeroValue3,underlying4,isAgg4,sizeOf4,zeroValue4,underlying5,isAgg5,sizeOf5,zeroValue5,underlying9,isAgg9,sizeOf9,zeroValue9,underlying20,isAgg20,sizeOf20,zeroValue20,underlying21,isAgg21,sizeOf21,zeroValue21,underlying84,isAgg84,sizeOf84,zeroValue84,underlying369,isAgg369,sizeOf369,zeroValue369,underlying495,isAgg495,sizeOf495,zeroValue495,underlying297,isAgg297,sizeOf297,zeroValue297,underlying299,isAgg299,sizeOf299,zeroValue299,underlying301,isAgg301,sizeOf301,zeroValue301,underlying302,isAgg302,sizeOf302,zeroValue302,underlying422,isAgg422,sizeOf422,zeroValue422,underlying498,isAgg498,sizeOf498,underlying362,isAgg362,sizeOf362,zeroValue362,underlying500,isAgg500,sizeOf500,zeroValue500,underlying501,isAgg501,sizeOf501,zeroValue501,underlying496,isAgg496,sizeOf496,zeroValue496,underlying418,isAgg418,sizeOf418,zeroValue418,(by kernel_rfl),(by kernel_rfl),(by kernel_rfl)⟩
theorem Tryz.Builder_Extra_155:Builder.Extra Tryz.prog Tryz.lays155_ren:={ sizeBuilder:=(by kernel_rfl),liesBuilder:=(by kernel_rfl),t5:=underlying5,a5:=isAgg5,z5:=sizeOf5,v5:=zeroValue5,infoByte:=(by kernel_rfl),cellsByte:=(by kernel_rfl),sizeByte:=(by kernel_rfl),neB5:=(by decide) }
open Go.RowKit Go.Lib in
theorem Tryz.strings_ReplaceAll (s a new:ByteArray) (m:Int) (w:World) (d:s.size<4294967281) (c:w.cell? ⟨0,0,none⟩=some (.int .i64 m)) (h1:1≤a.size) (b:s.size+Lib.countB s a*new.size≤140737488355328) :
  Calls Tryz.prog 316 #[.string s,.string a,.string new] w fun e w' =>
   e = .returned (.string ⟨(Lib.replaceAll s.data.toList a.data.toList new.data.toList).toArray⟩)∧Below w.heap.size w w':=Any.strings_ReplaceAll Tryz.lays155 Tryz.Builder_Extra_155 s a new m w d c h1 b
def Tryz.lays153_ren:Go.Shelf.Ren:=⟨fun|153=>176|152=>238|226=>239|227=>240|228=>241|137=>297|119=>298|224=>299|225=>300|217=>357|266=>397|n=>n,fun|9=>9|3=>3|4=>4|5=>5|21=>21|117=>323|116=>322|0=>0|46=>369|124=>370|n=>n,fun|n=>n⟩
theorem Tryz.lays153:Go.Proofs.Lays.n153 Tryz.prog Tryz.lays153_ren:=⟨(by kernel_rfl),ft func298,ft func297,ft func238,ft func176,ft func357,ft func299,ft func300,ft func239,ft func240,ft func241,ft func397,underlying0,isAgg0,sizeOf0,zeroValue0,underlying3,isAgg3,sizeOf3,zeroValue3,underlying4,isAgg4,sizeOf4,zeroValue4,underlying5,isAgg5,sizeOf5,zeroValue5,underlying9,isAgg9,sizeOf9,zeroValue9,underlying21,isAgg21,sizeOf21,zeroValue21,underlying369,isAgg369,sizeOf369,zeroValue369,underlying322,isAgg322,sizeOf322,underlying323,isAgg323,sizeOf323,zeroValue323,underlying370,isAgg370,sizeOf370,zeroValue370⟩
end Go.Proofs
end
section
namespace Go.Proofs
open Go.Dk Go.Dm Go.RowKit
theorem ztX (s:Str) (c:UInt8) (R:Int) (w0:World) (f:zi6 w0) (a:strings_IndexByte s c=some R) :
  Calls Tryz.prog 297 #[str s,zcs c] w0 fun e w'=>e = .returned (int R)∧Below w0.heap.size w0 w':=by
 refine (Tryz.strings_IndexByte ⟨s.toArray⟩ c.toNat w0).mono fun e w' ⟨d,b⟩=>?_;subst d b;refine ⟨?_,Below.refl _ _⟩;unfold strings_IndexByte at a;rw [zx4] at a;cases a;simp
theorem zmX (s t:Str) (R:Int) (w0:World) (g:zi6 w0) (a:strings_Index s t=some R) :
  Calls Tryz.prog 322 #[str s,str t] w0 fun e w'=>e = .returned (int R)∧Below w0.heap.size w0 w':=by
 unfold strings_Index at a
 split at a
 ·rename_i b
  obtain ⟨m,d⟩:=g.max;refine (Tryz.strings_Index ⟨s.toArray⟩ ⟨t.toArray⟩ m w0 b d).mono fun e w' ⟨f,c⟩=>?_;subst f c;rw [zzN] at a;cases a;exact ⟨rfl,Below.refl _ _⟩
 ·cases a
theorem zB4 (s t:Str) (R:Str × Str × Bool) (w0:World) (g:zi6 w0) (a:strings_Cut s t=some R) :
  Calls Tryz.prog 229 #[str s,str t] w0 fun e w'=>e = .returned (.tuple #[str R.1,str R.2.1,.bool R.2.2])∧Below w0.heap.size w0 w':=by
 unfold strings_Cut at a
 split at a
 ·rename_i b
  obtain ⟨m,d⟩:=g.max;refine (Tryz.strings_Cut ⟨s.toArray⟩ ⟨t.toArray⟩ m w0 b d).mono fun e w' ⟨f,n,c⟩=>?_;subst f c;cases a;exact ⟨rfl,⟨rfl,rfl,rfl,Nat.le_refl _,fun _ _=>rfl⟩⟩
 ·cases a
theorem zuO (s t:Str) (R:Bool) (w0:World) (g:zi6 w0) (a:strings_Contains s t=some R) :
  Calls Tryz.prog 305 #[str s,str t] w0 fun e w'=>e = .returned (.bool R)∧Below w0.heap.size w0 w':=by
 unfold strings_Contains at a
 split at a
 ·rename_i b
  obtain ⟨m,d⟩:=g.max;refine (Tryz.strings_Contains ⟨s.toArray⟩ ⟨t.toArray⟩ m w0 b d).mono fun e w' ⟨f,c⟩=>?_;subst f c;rw [zzN] at a;cases a;exact ⟨rfl,Below.refl _ _⟩
 ·cases a
theorem zuP (s cs:Str) (R:Int) (w0:World) (h:zi6 w0) (a:zco s cs=some R) :
  Calls Tryz.prog 176 #[str s,str cs] w0 fun e w'=>e = .returned (int R)∧Below w0.heap.size w0 w':=by
 unfold zco at a
 split at a
 ·rename_i c
  refine (zFa Tryz.lays153 (by kernel_rfl) ⟨s.toArray⟩ ⟨cs.toArray⟩ w0 c.1 c.2.1 (fun j b d=>?_)).mono fun e w' ⟨g,f⟩=>?_
  ·have:=List.all_eq_true.1 c.2.2 b (List.mem_of_getElem? d);simpa using this
  ·subst g;rw [zH7] at a;cases a;exact ⟨rfl,f⟩
 ·cases a
theorem ztY (n b:Int) (R:Str) (w0:World) (c:zlb w0) (a:zcJ n b=some R) :
  Calls Tryz.prog 295 #[int n,int b] w0 fun e w'=>e = .returned (str R)∧Below w0.heap.size w0 w':=by
 unfold zcJ at a
 split at a
 ·rename_i h
  obtain ⟨h1,rfl⟩:=h;obtain ⟨h2,d⟩:=zD1.1 h1;cases a;refine (Tryz.strconv_FormatInt_10 n h2 d w0 c.2.1).mono fun e w' ⟨g,k,os,f⟩=>?_;subst g f;exact ⟨rfl,Lib.below_grow _ _ (Nat.le_refl _) _ _⟩
 ·split at a
  ·rename_i h
   obtain ⟨rfl,h2,d⟩:=h;obtain ⟨k,rfl⟩:∃k:Nat,n=k:=⟨n.toNat,by omega⟩;cases a;have:=zDZ k (by omega) w0 (Nat.le_trans (by decide) c.size) c.2.2;simpa using this
  ·cases a
theorem zyE (s sep:Str) (R:List Str) (w0:World) (p:zi6 w0) (f:strings_Split s sep=some R) :
  Calls Tryz.prog 290 #[str s,str sep] w0 fun e w'=>∃(h:Option Addr) (j:Nat),e = .returned (.slice h R.length j)∧Own w0 [] w' [.row (.slice h R.length j) 9 1 R.length (cells zlc R)]:=by
 unfold strings_Split at f
 split at f
 ·rename_i d
  obtain ⟨m,q⟩:=p.max;refine (Tryz.strings_Split ⟨s.toArray⟩ ⟨sep.toArray⟩ m w0 d.1 q d.2).mono fun e w' ⟨r,u⟩=>?_;subst r u;have b:=Go.Lib.splitB_all ⟨sep.toArray⟩ d.2 0 _ ⟨s.toArray⟩ rfl;have c:=Go.Lib.splitB_data ⟨sep.toArray⟩ 0 (Go.Lib.countB ⟨s.toArray⟩ ⟨sep.toArray⟩) ⟨s.toArray⟩
  have i:R=(Go.Lib.splitB ⟨sep.toArray⟩ 0 (Go.Lib.countB ⟨s.toArray⟩ ⟨sep.toArray⟩) ⟨s.toArray⟩).map (·.data.toList):=by
   rw [c]; exact (Option.some.inj f).symm
  have g:R.length=Go.Lib.countB ⟨s.toArray⟩ ⟨sep.toArray⟩+1:=by rw [i,List.length_map,b]
  have a:(Go.Lib.splitB ⟨sep.toArray⟩ 0 (Go.Lib.countB ⟨s.toArray⟩ ⟨sep.toArray⟩) ⟨s.toArray⟩).map Value.string=cells zlc R:=by
   rw [i];generalize Go.Lib.splitB _ _ _ _=l
   induction l with
   | nil=>rfl
   | cons x l k=>obtain ⟨⟨x⟩⟩:=x; rw [List.map_cons,List.map_cons,k]; rfl
  have t:=Go.Lib.countB_le ⟨sep.toArray⟩ d.2 _ ⟨s.toArray⟩ (Nat.le_refl _);have o:(⟨s.toArray⟩:ByteArray).size=s.length:=rfl;have n:=(Own.refl w0).newRow (cells zlc R) 9 1 R.length (cells_length (enc:=zlc) (sz:=1) (fun _=>rfl) R) (by unfold maxLen; omega);rw [a, ← g];exact ⟨_,_,rfl,n⟩
 ·cases f
theorem zsw (s a new:Str) (R:Str) (w0:World) (h:zi6 w0) (b:strings_ReplaceAll s a new=some R) :
  Calls Tryz.prog 316 #[str s,str a,str new] w0 fun e w'=>e = .returned (str R)∧Below w0.heap.size w0 w':=by
 unfold strings_ReplaceAll at b
 split at b
 ·rename_i c
  obtain ⟨m,f⟩:=h.max;refine (Tryz.strings_ReplaceAll ⟨s.toArray⟩ ⟨a.toArray⟩ ⟨new.toArray⟩ m w0 c.1 f c.2.1 c.2.2).mono fun e w' ⟨g,d⟩=>?_;subst g;cases b;exact ⟨rfl,d⟩
 ·cases b
theorem zzO (s cs:Str) (R:Str) (w0:World) (h:zi6 w0) (a:zcc s cs=some R) :
  Calls Tryz.prog 246 #[str s,str cs] w0 fun e w'=>e = .returned (str R)∧Below w0.heap.size w0 w':=by
 unfold zcc at a
 split at a
 ·rename_i c
  refine (Any.strings_Trim_laid Tryz.lays160 (by kernel_rfl) ⟨s.toArray⟩ ⟨cs.toArray⟩ w0 (Nat.le_trans (Nat.le_of_lt c.1) (by decide)) c.2.1 (fun j b d=>?_)).mono fun e w' ⟨g,f⟩=>?_
  ·have:=List.all_eq_true.1 c.2.2 b (List.mem_of_getElem? d);simpa using this
  ·subst g;cases a;exact ⟨rfl,f⟩
 ·cases a
theorem ztZ (s cs:Str) (R:Str) (w0:World) (h:zi6 w0) (a:zdN s cs=some R) :
  Calls Tryz.prog 460 #[str s,str cs] w0 fun e w'=>e = .returned (str R)∧Below w0.heap.size w0 w':=by
 unfold zdN at a
 split at a
 ·rename_i c
  refine (Any.strings_TrimRight_laid Tryz.lays162 (by kernel_rfl) ⟨s.toArray⟩ ⟨cs.toArray⟩ w0 (Nat.le_trans (Nat.le_of_lt c.1) (by decide)) c.2.1 (fun j b d=>?_)).mono fun e w' ⟨g,f⟩=>?_
  ·have:=List.all_eq_true.1 c.2.2 b (List.mem_of_getElem? d);simpa using this
  ·subst g;cases a;exact ⟨rfl,f⟩
 ·cases a
theorem zzP (l:List Str) (sep:Str) (R:Str) (w0:World) (u:zi6 w0) {c:Option Addr} {b:Nat} (g:ze1 w0 c (cells zlc l)) (k:l.length≤b) (i:strings_Join l sep=some R) :
  Calls Tryz.prog 163 #[.slice c l.length b,str sep] w0 fun e w'=>e = .returned (str R)∧Below w0.heap.size w0 w':=by
 unfold strings_Join at i
 split at i
 ·rename_i p
  cases i
  have d:(l.map fun x=>(⟨x.toArray⟩:ByteArray)).map (·.data.toList)=l:=by
   rw [List.map_map]; exact List.map_id' l
  by_cases n:l=[]
  ·subst n
   exact (Tryz.strings_Join_none c b ⟨sep.toArray⟩ w0).mono fun e w' h=>by
    obtain ⟨s,t⟩:=h;subst s t;exact ⟨rfl,Below.refl _ _⟩
  have f:cells zlc l≠[]:=fun h=>n (by
   cases l with
   | nil=>rfl
   | cons x l=>simp [cells,zlc] at h)
  cases c with
  | none=>exact absurd (show cells zlc l=[] from g) f
  | some a =>
   obtain ⟨bk,o,spot⟩:=a;obtain ⟨h1,h2,q⟩:=g.hard f;simp only at h1; subst h1;have:=Tryz.strings_Join bk o b (l.map fun x=>(⟨x.toArray⟩:ByteArray)) ⟨sep.toArray⟩ w0 (fun j x m=>?_) h2 (by simpa using p.1) (by simpa using k) (by rw [d]; exact p.2)
   ·rw [d,List.length_map] at this;exact this
   ·rw [List.getElem?_map] at m;obtain ⟨y,r,rfl⟩:=Option.map_eq_some_iff.1 m;refine q j _ ?_;have:=ztq (enc:=zlc) (sz:=1) (fun _=>rfl) l j 0 y r (by omega);rw [Nat.mul_one,Nat.add_zero] at this;exact this
 ·cases i
end Go.Proofs
end
section
namespace Go.Proofs
open Go.Dk Go.Dm Go.RowKit
set_option maxHeartbeats 4000000 in
set_option maxRecDepth 100000 in
theorem zLE (lw:UInt8→Option UInt8) (s:ByteArray) (R:Str) (w0:World) (hG:zi6 w0) (hsz:s.size<4294967281) (hm:s.data.toList.mapM lw=some R)
  (hlow:∀b c w,lw b=some c→zi6 w→Calls Tryz.prog 296 #[.int .u8 (b.toNat:Int)] w fun e w'=>e = .returned (.int .u8 (c.toNat:Int))∧Below w.heap.size w w') :
  Calls Tryz.prog 249 #[.string s] w0 fun e w'=>e = .returned (.string ⟨R.toArray⟩)∧Below w0.heap.size w0 w':=by
 obtain ⟨hlen,hat⟩:=mapM_at hm;have HL:Aside (R.length=s.size):=hlen.trans (Lib.size_eq s).symm;have HT:Aside (∀(i:Nat) (a:UInt8),s.data.toList[i]? = some a→∃b,R[i]? = some b∧lw a=some b):=hat
 clear hlen hat hm
 have hcv:=fun w=>run_bytes_of_string (P:=Tryz.prog) w 9 84 5 s Tryz.underlying9 Tryz.underlying84 Tryz.underlying5
 go_enter Tryz.func249,Tryz.ntmps249
 go_wp2
 go_loopg [4,5,10] s.size (fun g _ _ v wx=>∃i:Nat,i+g=s.size∧v = .int .i64 (i:Int)∧Below w0.heap.size w0 wx∧∃(cur:Array Value) (fz:Nat × Nat),wx.heap[w0.heap.size]? = some (.cells cur 5 fz)∧cur.size≤fz.1∧s.size≤cur.size∧∀j,j<s.size→cur[j]? = ((if j<i then R[j]? else s.data.toList[j]?).map zcs))
 case atStart =>
  have hrow:(bytesRow s (grownCap w0 s.size 0 5)).size=s.size+(grownCap w0 s.size 0 5-s.size):=by
   have:=Lib.size_eq s;unfold bytesRow;rw [Array.size_append,Array.size_map,Array.size_replicate];rfl
  refine ⟨0,by omega,rfl,((Below.refl _ _).alloc (Nat.le_refl _) _).drew,_,_,zkx _,Nat.le_refl _,?_,fun j hj=>?_⟩
  ·omega
  ·rw [if_neg (by omega)];unfold bytesRow;rw [Array.getElem?_append_left (by simp [← Lib.size_eq]; exact hj),Array.getElem?_map]
   congr 1
   exact (Array.getElem?_toList ..).symm
 case round =>
  obtain ⟨i,hig,rfl,hB,cur,fz,hcur,hfz,hsc,hcell⟩:=hrel;have HG:Aside (zi6 wr):=hG.own zOf ((Own.refl w0).grow hB);have HB:Aside (Below w0.heap.size w0 wr):=hB;have HC:Aside (wr.heap[w0.heap.size]? = some (.cells cur 5 fz)):=hcur;have HF:Aside (cur.size≤fz.1∧s.size≤cur.size):=⟨hfz,hsc⟩;have HX:Aside (∀j,j<s.size→cur[j]? = ((if j<i then R[j]? else s.data.toList[j]?).map zcs)):=hcell
  clear hB hcell hfz hsc hcur
  by_cases hi:i<s.size
  ·obtain ⟨x,hx⟩:∃x,s.data.toList[i]? = some x:=⟨_,Lib.data_getElem? s i hi⟩;obtain ⟨y,hyR,hy⟩:=HT.out i x hx
   have hcx:wr.cell? ⟨w0.heap.size,i,none⟩=some (.int .u8 (x.toNat:Int)):=by
    have:=HX.out i hi;rw [if_neg (by omega),hx] at this;simp [World.cell?,HC.out,this]
   have hfr:wr.frozen? ⟨w0.heap.size,i,none⟩=false:=by
    have:=HF.out;simp [World.frozen?,HC.out]; omega
   have hii:(i:Int)<(s.size:Int):=by omega
   have HY:Aside (R[i]? = some y):=hyR;have HO:Aside (lw x=some y):=hy
   clear hyR hy hx
   go_wp2_with (go_at_call 296; refine (hlow x y _ HO.out HG.out).mono ?_; rintro e w' ⟨rfl,hb⟩; have hcx':w'.cell? ⟨w0.heap.size,i,none⟩=some (.int .u8 (x.toNat:Int)):=(hb.cell (p:=⟨w0.heap.size,i,none⟩) (Array.getElem?_eq_some_iff.1 HC.out).1).trans hcx; have hfr':w'.frozen? ⟨w0.heap.size,i,none⟩=false:=(hb.frozen (p:=⟨w0.heap.size,i,none⟩) (Array.getElem?_eq_some_iff.1 HC.out).1).trans hfr)
   go_roundg (gk-1)
   case measure=>omega
   case rel =>
    have hlt:=(Array.getElem?_eq_some_iff.1 HC.out).1;have hcw:w'.heap[w0.heap.size]? = some (.cells cur 5 fz):=(hb.block _ hlt).trans HC.out;refine ⟨i+1,by omega,rfl,?_,cur.setIfInBounds i (.int .u8 (y.toNat:Int)),fz,?_,?_,?_,fun j hj=>?_⟩
    ·exact (HB.out.trans (hb.mono HB.out.size)).setCell (p:=⟨w0.heap.size,i,none⟩) (Nat.le_refl _) _
    ·simp [World.setCell,Array.getElem?_modify,hcw]
    ·have:=HF.out; simp; omega
    ·have:=HF.out; simp; omega
    ·by_cases hji:j=i
     ·subst hji;have:=HF.out;rw [if_pos (by omega),HY.out,Array.getElem?_setIfInBounds_self_of_lt (by omega)];rfl
     ·rw [Array.getElem?_setIfInBounds_ne (Ne.symm hji),HX.out j hj]
      by_cases h2:j<i
      ·rw [if_pos h2,if_pos (by omega)]
      ·rw [if_neg h2,if_neg (by omega)]
  ·have hsi:i=s.size:=by omega
   have hbk:∀w,wr.heap=w.heap→(convert 84 9 (.slice (some ⟨w0.heap.size,0,none⟩) s.size (grownCap w0 s.size 0 5))).run Tryz.prog w = .ok (.string ⟨R.toArray⟩) w:=by
    intro w hw
    have:=run_convert_bytes_back (P:=Tryz.prog) w 84 9 5 ⟨w0.heap.size,0,none⟩ (grownCap w0 s.size 0 5) R Tryz.underlying84 Tryz.underlying5 Tryz.underlying9 (fun j hj=>by
     have hjs:j<s.size:=by rw [← HL.out]; exact hj
     have h1:=HX.out j hjs;rw [if_pos (by omega),List.getElem?_eq_getElem hj] at h1;rw [zLd]
     simp [World.cell?, ← hw,HC.out,h1])
    rw [HL.out] at this;exact this
   have hni:¬ ((i:Int)<(s.size:Int)):=by omega
   have hbk1:=hbk wr rfl
   go_wp2
   go_ret
   exact ⟨rfl,HB.out⟩
end Go.Proofs
end
section
namespace Go.Rk
open Go.RowKit Go.Dm Go.Dk
variable {P:Program} {w:World} {t':Nat}
def zsx:Nat→List (Int × Str)→List MapEntry
 | _,[]=>[]
 | n,q::l=>{ key:=int q.1,val:=str q.2,born:=n }::zsx (n+1) l
def zsy (l:List (Int × Str)):Obj := .map (zsx 0 l).toArray l.length
theorem zCR:∀(l:List (Int × Str)) (n:Nat) (q:Int × Str),zsx n (l++[q])=zsx n l++[{ key:=int q.1,val:=str q.2,born:=n+l.length }]
 | [],n,q=>rfl
 | x::l,n,q=>by
  show _::zsx (n+1) (l++[q])=_::(zsx (n+1) l++_);rw [zCR l (n+1) q]
  have:n+1+l.length=n+(x::l).length:=by simp; omega
  rw [this]
theorem zDS (k:Int):∀(l:List (Int × Str)) (n i:Nat), ∃j,Instr.findNow (.int .i64) (int k) (zsx n l) i=some ((l.find? fun q=>q.1==k).map fun q=>(j,str q.2))
 | [],_,_=>⟨0,rfl⟩
 | q::l,n,i=>by
  obtain ⟨j,a⟩:=zDS k l (n+1) (i+1);have e:Instr.sameNow (.int .i64) (int k) (int q.1)=some (k==q.1):=rfl;rw [List.find?_cons];unfold zsx Instr.findNow;rw [e]
  cases hk:k==q.1 with
  | true =>
   have h1:k=q.1:=by simpa using hk
   have:(q.1==k)=true:=by rw [h1]; simp
   rw [this]; exact ⟨i,rfl⟩
  | false =>
   have:(q.1==k)=false:=by
    have h1:k≠q.1:=by simpa using hk
    exact beq_eq_false_iff_ne.2 fun h=>h1 h.symm
   rw [this]; exact ⟨j,a⟩
theorem zIe {c i b:Nat} {k:Int} {v:Str} {l:List (Int × Str)} (m:P.underlying t'=some (.map c i)) (g:P.underlying c=some (.int .i64)) (h:w.heap[b]? = some (zsy l)) (hn:(l.find? fun q=>q.1==k)=none) :
  (Instr.mapUpdate t' (.map (some b)) (int k) (str v)).run P w = .ok () { w with heap:=w.heap.setIfInBounds b (zsy (l++[(k,v)])) }:=by
 obtain ⟨j,f⟩:=zDS k l 0 0;rw [hn] at f
 have e:zsy (l++[(k,v)]) = .map ((zsx 0 l).toArray.push { key:=int k,val:=str v,born:=l.length }) (l.length+1):=by
  unfold zsy;rw [zCR];simp
 rw [e];have a:w.heap[b]? = some (.map (zsx 0 l).toArray l.length):=h;have hc:(Instr.checkKey false 10000 c (int k)).run P w = .ok () w:=MapKept.run_checkKey (d := .int .i64) (k:=int k) g rfl false 9999;simp [Instr.mapUpdate,run_underlying m,MapKept.run_getObj_map a,hc,MapKept.run_findKey g f,MapKept.run_setObj_map _ a,Result.andThen]
theorem zIf {g h b:Nat} {k:Int} {l:List (Int × Str)} (i:P.underlying t'=some (.map g h)) (f:P.underlying g=some (.int .i64)) (n:∀w,(zeroValue h).run P w = .ok (str []) w) (m:w.heap[b]? = some (zsy l)) :
  (Instr.lookup t' (.map (some b)) (int k) true).run P w = .ok (.tuple #[str (zq2 l k).1,.bool (zq2 l k).2]) w:=by
 obtain ⟨j,c⟩:=zDS k l 0 0;have a:w.heap[b]? = some (.map (zsx 0 l).toArray l.length):=m;have hc:∀e,(Instr.checkKey e 10000 g (int k)).run P w = .ok () w:=fun e=>MapKept.run_checkKey (d := .int .i64) (k:=int k) f rfl e 9999;unfold zq2
 cases hf:l.find? fun q=>q.1==k with
 | none =>
  rw [hf] at c;simp [Instr.lookup,run_underlying i,MapKept.run_getObj_map a,hc,MapKept.run_findKey f c,Result.andThen,n]
 | some q =>
  rw [hf] at c;simp [Instr.lookup,run_underlying i,MapKept.run_getObj_map a,hc,MapKept.run_findKey f c,Result.andThen]
end Go.Rk
end
section
namespace Go.Rk
open Go.RowKit Go.Dm Go.Dk
inductive Ty where
 | bool|int|u8|u16|str
 
 | sl (e:Ty)|so (te:TypeId) (e:Ty)
 
 | sn (te:TypeId) (e:Ty)
 
 | st (n:Nat)
 
 | pt (n:Nat)|po (n:Nat)|pn (n:Nat)
 
 | fn|nil|fc (f:Nat)
 
 | cl (f:Nat) (t:Ty)
 
 | mv (f:Nat)
 
 | pr (a b:Ty)
deriving DecidableEq
def Ty.den (τ:Nat→Type):Ty→Type
 | .bool=>Bool
 | .int=>Int
 | .u8=>UInt8
 | .u16=>UInt16
 | .str=>Str
 | .sl e=>List (e.den τ)
 | .so _ e=>List (e.den τ)
 | .st n=>τ n
 | .pt n=>τ n
 | .po n=>τ n
 | .pn n=>Option (τ n)
 | .fn=>UInt8→Option Bool
 | .nil=>Unit
 | .fc _=>Unit
 | .mv _=>Unit
 | .cl _ t=>t.den τ
 | .sn _ e=>Option (List (e.den τ))
 | .pr a b=>a.den τ × b.den τ
def DP (τ:Nat→Type):List Ty→Type
 | []=>Unit
 | [t]=>t.den τ
 | t::u::ts=>t.den τ × DP τ (u::ts)
variable {τ:Nat→Type}
def DP.hd {t:Ty}:{ts:List Ty}→DP τ (t::ts)→t.den τ
 | [],p=>p
 | _::_,p=>p.1
def DP.tl {t:Ty}:{ts:List Ty}→DP τ (t::ts)→DP τ ts
 | [],_=>()
 | _::_,p=>p.2
def DP.mk {t:Ty}:{ts:List Ty}→t.den τ→DP τ ts→DP τ (t::ts)
 | [],x,_=>x
 | _::_,x,p=>(x,p)
theorem DP.hd_mk {t:Ty} {ts:List Ty} (x:t.den τ) (p:DP τ ts):(DP.mk x p).hd=x:=by cases ts<;>rfl
theorem DP.tl_mk {t:Ty} {ts:List Ty} (x:t.den τ) (p:DP τ ts):(DP.mk x p).tl=p:=by cases ts<;>rfl
abbrev Fz:=Nat→Option Obj
def Fz.le (h h':Fz):Prop:=∀b o,h b=some o→h' b=some o
structure Sig (τ:Nat→Type) where
 fs:Nat→List Ty
 ti:Nat→TypeId
 ctor:∀n,DP τ (fs n)→τ n
 dtor:∀n, τ n→DP τ (fs n)
 cd:∀n x,ctor n (dtor n x)=x
 dc:∀n p,dtor n (ctor n p)=p
 eq:∀n, τ n→τ n→Bool
 
 fp:List (FuncId × (UInt8→Option Bool))
 gl:List (Nat × (t:Ty) × t.den τ)
 
 dr:Nat→Bool:=fun _=>false
 
 ax:Fz→Prop:=fun _=>True
 axm:∀{h h'},Fz.le h h'→ax h→ax h':=by exact fun _ h=>h
inductive CV (τ:Nat→Type) where
 | b (x:Bool)
 
 | k (x:Bool)
 | i (x:Int)
 | u8 (x:UInt8)
 | u16 (x:UInt16)
 | s (x:Str)
 
 | sl (e:Ty) (xs:List (e.den τ))
 | n0
 | nl
 
 | os (id:Nat)
 
 | pt (id:Nat) (o:Nat)
 
 | ea (t:Ty) (z:t.den τ) (o:Nat)
 
 | ep (n:Nat) (x:Option (τ n))
 
 | oe (id k:Nat) (m:Int) (t:Ty) (z:t.den τ) (o:Nat)
 | fn (f:FuncId)
 | fm (m:UInt8→Option Bool)
 
 | cl (f:FuncId) (t:Ty) (x:t.den τ)
 
 | cf (id:Nat)
 
 | nf
 
 | mf (f:FuncId)
 | mv (f:FuncId) (id:Nat)
 
 | mp (id:Nat)
 | m0
 | bad
inductive XV (τ:Nat→Type) where
 | c (x:CV τ)
 | g (l:List (CV τ))
 | t (l:List (Bool × List (CV τ)))
 | un
 
 | gv (t:Ty) (x:t.den τ)
inductive AR (τ:Nat→Type) where
 | gone
 | blk (t:TypeId) (cs:List (CV τ))
 | row (t:TypeId) (e:Ty) (xs:List (e.den τ)) (k:Nat)
 | fz (e:Ty) (xs:List (e.den τ))
 | tree (n:Nat) (x:Option (τ n))
 | nilp
 
 | clo (f:FuncId) (bs cs:List (CV τ))
 | sb (id n:Nat)
 | vw (id k:Nat) (e:Ty) (lo:Nat) (xs:List (e.den τ))
 
 | mp (l:List (Int × Str))
def Ty.av:(t:Ty)→t.den τ→CV τ
 | .bool,x => .b x
 | .int,x => .i x
 | .u8,x => .u8 x
 | .u16,x => .u16 x
 | .str,x => .s x
 | .sl e,x => .sl e x
 | .so _ e,x => .sl e x
 | .st n,x => .ea (.st n) x 0
 | .pt n,x => .ea (.st n) x 0
 | .po n,x => .ea (.st n) x 0
 | .pn n,x => .ep n x
 | .fn,x => .fm x
 | .nil,_ => .nl
 | .fc f,_ => .fn f
 | .mv f,_ => .mf f
 | .cl f t,x => .cl f t x
 | .sn _ _,_ => .bad
 | .pr _ _,_ => .bad
def avs:(ts:List Ty)→DP τ ts→List (CV τ)
 | [],_=>[]
 | t::ts,p=>t.av p.hd::avs ts p.tl
def ets (G:Sig τ):Ty→List Ty
 | .st n=>G.fs n
 | t=>[t]
def edt (G:Sig τ):(t:Ty)→t.den τ→DP τ (ets G t)
 | .st n,x=>G.dtor n x
 | .bool,x=>x
 | .int,x=>x
 | .u8,x=>x
 | .u16,x=>x
 | .str,x=>x
 | .sl _,x=>x
 | .so _ _,x=>x
 | .pt _,x=>x
 | .po _,x=>x
 | .pn _,x=>x
 | .fn,x=>x
 | .nil,x=>x
 | .fc _,x=>x
 | .mv _,x=>x
 | .cl _ _,x=>x
 | .sn _ _,x=>x
 | .pr _ _,x=>x
def ect (G:Sig τ):(t:Ty)→DP τ (ets G t)→t.den τ
 | .st n,x=>G.ctor n x
 | .bool,x=>x
 | .int,x=>x
 | .u8,x=>x
 | .u16,x=>x
 | .str,x=>x
 | .sl _,x=>x
 | .so _ _,x=>x
 | .pt _,x=>x
 | .po _,x=>x
 | .pn _,x=>x
 | .fn,x=>x
 | .nil,x=>x
 | .fc _,x=>x
 | .mv _,x=>x
 | .cl _ _,x=>x
 | .sn _ _,x=>x
 | .pr _ _,x=>x
theorem zFw (G:Sig τ) (t:Ty) (p:DP τ (ets G t)):edt G t (ect G t p)=p:=by
 cases t<;>first|rfl|exact G.dc _ _
def zxR (G:Sig τ) (t:Ty) (x:t.den τ):List (CV τ):=avs (ets G t) (edt G t x)
def prT:List Ty→Ty
 | [] => .nil
 | [t]=>t
 | t::u::ts => .pr t (prT (u::ts))
def DP.pr:(ts:List Ty)→DP τ ts→(prT ts).den τ
 | [],_=>()
 | [_],x=>x
 | _::u::ts,p=>(p.1,DP.pr (u::ts) p.2)
def zBa {t t':Ty} (x:t.den τ):Option (t'.den τ):=if h:t=t' then some (h▸x) else none
def zna {t t':Ty} (x:List (t.den τ)):Option (List (t'.den τ)):=if h:t=t' then some (h▸x) else none
def zHI {n m:Nat} (x:Option (τ n)):Option (Option (τ m)):=if h:n=m then some (h▸x) else none
def zOy {n m:Nat} (x:τ n):Option (τ m):=if h:n=m then some (h▸x) else none
theorem zOz {t t':Ty} {x:t.den τ} {y:t'.den τ} (h:zBa x=some y):∃e:t=t',e▸x=y:=by
 unfold zBa at h
 split at h
 ·exact ⟨‹_›,Option.some.inj h⟩
 ·cases h
theorem zhi {t t':Ty} {x:List (t.den τ)} {y:List (t'.den τ)} (h:zna x=some y):∃e:t=t',e▸x=y:=by
 unfold zna at h
 split at h
 ·exact ⟨‹_›,Option.some.inj h⟩
 ·cases h
theorem zBb {n m:Nat} {x:Option (τ n)} {y:Option (τ m)} (h:zHI x=some y):∃e:n=m,e▸x=y:=by
 unfold zHI at h
 split at h
 ·exact ⟨‹_›,Option.some.inj h⟩
 ·cases h
theorem zOA {n m:Nat} {x:τ n} {y:τ m} (h:zOy x=some y):∃e:n=m,e▸x=y:=by
 unfold zOy at h
 split at h
 ·exact ⟨‹_›,Option.some.inj h⟩
 ·cases h
def Fz.on (h:Fz) (w:World):Prop:=∀b o,h b=some o→w.heap[b]? = some o
def zqs (h:Fz) (a:Option Addr) (vs:List Value):Prop :=
 vs=[]∨∃b o c e z,a=some ⟨b,o,none⟩∧h b=some (.cells c e z)∧∀(k:Nat) v,vs[k]? = some v→c[o+k]? = some v
theorem zqs.le {h h':Fz} {a:Option Addr} {vs:List Value} (f:h.le h'):zqs h a vs→zqs h' a vs
 | .inl e => .inl e
 | .inr ⟨b,o,c,e,z,h1,h2,d⟩ => .inr ⟨b,o,c,e,z,h1,f _ _ h2,d⟩
theorem zqs.sees {h:Fz} {w:World} {a:Option Addr} {vs:List Value} (j:h.on w) (f:zqs h a vs):ze1 w a vs:=by
 rcases f with rfl|⟨b,o,c,e,z,rfl,h2,d⟩
 ·cases a with
  | none=>rfl
  | some x=>exact .inl rfl
 ·have:=j _ _ h2;exact .inr ⟨rfl,(Array.getElem?_eq_some_iff.1 this).1,fun i v g=>by simp [World.cell?,this,d i v g]⟩
def zJt (P:Program) (m:UInt8→Option Bool) (f:FuncId):Prop:=zfu P f∧∀c r w,m c=some r→Calls P f #[zcs c] w fun e w'=>e = .returned (.bool r)∧Below w.heap.size w w'
mutual
inductive Rp (P:Program) (G:Sig τ) (h:Fz):(t:Ty)→t.den τ→Value→Prop
 | bool (x:Bool):Rp P G h .bool x (.bool x)
 | int (x:Int):Rp P G h .int x (.int .i64 x)
 | u8 (x:UInt8):Rp P G h .u8 x (.int .u8 x.toNat)
 | u16 (x:UInt16):Rp P G h .u16 x (.int .u16 x.toNat)
 | str (x:Str):Rp P G h .str x (str x)
 | sl (e:Ty) (xs:List (e.den τ)) (a:Option Addr) (c:Nat) (vs:List Value) (hc:xs.length≤c) (hs:zqs h a vs) (hr:RpR P G h e xs vs):Rp P G h (.sl e) xs (.slice a xs.length c)
 | so (te:TypeId) (e:Ty) (xs:List (e.den τ)) (v:Value) (hr:Rp P G h (.sl e) xs v):Rp P G h (.so te e) xs v
 | pt (n:Nat) (x:τ n) (b k:Nat) (vs:List Value) (hs:zqs h (some ⟨b,k,none⟩) vs) (hr:RpL P G h (G.fs n) (G.dtor n x) vs):Rp P G h (.pt n) x (ptr b k)
 | po (n:Nat) (x:τ n) (v:Value) (hr:Rp P G h (.pt n) x v):Rp P G h (.po n) x v
 | pn0 (n:Nat):Rp P G h (.pn n) none (.pointer none)
 | pn1 (n:Nat) (x:τ n) (v:Value) (hr:Rp P G h (.pt n) x v):Rp P G h (.pn n) (some x) v
 | fn (m:UInt8→Option Bool) (f:FuncId) (hf:zJt P m f):Rp P G h .fn m (.func (.func f) #[] #[])
 | nil:Rp P G h .nil () (.pointer none)
 | fc (f:Nat):Rp P G h (.fc f) () (.func (.func f) #[] #[])
 | mv (f:Nat) (u:Value):Rp P G h (.mv f) () (.func (.func f) #[u] #[])
 | cl (f:Nat) (t:Ty) (x:t.den τ) (u:Value) (hr:Rp P G h t x u):Rp P G h (.cl f t) x (.func (.func f) #[] #[u])
inductive RpL (P:Program) (G:Sig τ) (h:Fz):(ts:List Ty)→DP τ ts→List Value→Prop
 | nil:RpL P G h [] () []
 | cons (t:Ty) (ts:List Ty) (p:DP τ (t::ts)) (v:Value) (vs:List Value) (h1:Rp P G h t p.hd v) (h2:RpL P G h ts p.tl vs):RpL P G h (t::ts) p (v::vs)
inductive RpR (P:Program) (G:Sig τ) (h:Fz):(e:Ty)→List (e.den τ)→List Value→Prop
 | nil (e:Ty):RpR P G h e [] []
 | cons (e:Ty) (x:e.den τ) (xs:List (e.den τ)) (vs ws:List Value) (h1:RpL P G h (ets G e) (edt G e x) vs) (h2:RpR P G h e xs ws):RpR P G h e (x::xs) (vs++ws)
end
section
variable {P:Program} {G:Sig τ} {h h':Fz}
mutual
theorem Rp.le (g:h.le h'):∀{t:Ty} {x:t.den τ} {v:Value},Rp P G h t x v→Rp P G h' t x v
 | _,_,_,.bool x => .bool x
 | _,_,_,.int x => .int x
 | _,_,_,.u8 x => .u8 x
 | _,_,_,.u16 x => .u16 x
 | _,_,_,.str x => .str x
 | _,_,_,.sl e xs a c vs hc i d => .sl e xs a c vs hc (i.le g) (d.le g)
 | _,_,_,.so l e xs v d => .so l e xs v (d.le g)
 | _,_,_,.pt n x b k vs i d => .pt n x b k vs (i.le g) (d.le g)
 | _,_,_,.po n x v d => .po n x v (d.le g)
 | _,_,_,.pn0 n => .pn0 n
 | _,_,_,.pn1 n x v d => .pn1 n x v (d.le g)
 | _,_,_,.fn m f j => .fn m f j
 | _,_,_,.nil => .nil
 | _,_,_,.fc f => .fc f
 | _,_,_,.mv f u => .mv f u
 | _,_,_,.cl f t x u d => .cl f t x u (d.le g)
theorem RpL.le (a:h.le h'):∀{ts:List Ty} {p:DP τ ts} {vs:List Value},RpL P G h ts p vs→RpL P G h' ts p vs
 | _,_,_,.nil => .nil
 | _,_,_,.cons t ts p v vs h1 h2 => .cons t ts p v vs (h1.le a) (h2.le a)
theorem RpR.le (a:h.le h'):∀{e:Ty} {xs:List (e.den τ)} {vs:List Value},RpR P G h e xs vs→RpR P G h' e xs vs
 | _,_,_,.nil e => .nil e
 | _,_,_,.cons e x xs vs b h1 h2 => .cons e x xs vs b (h1.le a) (h2.le a)
end
end
end Go.Rk
end
