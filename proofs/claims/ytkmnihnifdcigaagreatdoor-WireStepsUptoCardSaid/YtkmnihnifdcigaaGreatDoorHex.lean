/-
 strings.IndexRune at a rune beyond ASCII, in a text of ASCII bytes: -1; and strings.IndexAny, the looked-for bytes ASCII, the text whatever. Over any program that holds the library's texts.
 DERIVED: THE SHELF's CONTRACTS AT THIS DUMP, IN PLAIN WORDS (tools/lay-plain.mjs out of 'TryzShelf.lean', which tools/lay-shelf.mjs wrote): THE SAME DECLARATIONS UNDER THE SAME NAMES: 'import', 'namespace', 'open', 'def', 'theorem' AND NOTHING ELSE: no command of the shelf's: FOR A HAND-IN. Each laying: the table of numbers ('.._ren') and one theorem, a field a fact of the dump's own or the kernel's compa
-/
import Derived.Test.YtkmnihnifdcigaaGreatDoorP0
import Derived.Test.YtkmnihnifdcigaaGreatDoorTSplit
import Derived.Shelf.Strings.IndexAnyAll
import Derived.Laws.RangeAny
import Derived.Laws.Runes
import Derived.Below
import Derived.Lib.OthersKept
import Derived.Shelf.RegionOpenPlain
import Derived.Shelf.Small.Utf8
import Derived.Shelf.Strings.Builder1
import Derived.Shelf.Strings.Builder2
import Derived.Shelf.Strings.OnBuilder
import Derived.Shelf.Strings.Trim
import Derived.Shelf.Small.Strs
import Derived.Shelf.Small.Wraps
import Derived.Shelf.Utf8.RuneCount
import Derived.Shelf.Strconv.Itoa0
import Derived.Shelf.Strconv.Itoa1
import Derived.Shelf.LaysM
import Derived.Shelf.Strconv.Itoa2
import Derived.Shelf.Strconv.Itoa3
import Derived.Shelf.Strconv.Itoa4
import Derived.Shelf.Strings.Search1
import Derived.Shelf.Strings.Search2
import Derived.Shelf.Strings.Search3
import Derived.Shelf.Strings.Cut
import Derived.Shelf.Strings.Count
import Derived.Shelf.Strings.Shaped
import Derived.Shelf.Strings.Prefix
import Derived.Shelf.Strings.Split
import Derived.Shelf.Strings.Replace
import Derived.Shelf.Strings.SplitShaped
import Derived.Shelf.Unicode.Decode
import Derived.Shelf.Strings.Runes
import Derived.Shelf.Strings.RuneCount
import Derived.Shelf.Strings.IndexAny
import Derived.Shelf.Strings.AsciiSet
import Derived.Shelf.Strings.Explode
import Derived.Shelf.Unicode.DecodeSlow
import Derived.Shelf.Unicode.DecodeAny
import Derived.Shelf.Unicode.DecodeLast
import Derived.Test.YtkmnihnifdcigaaGreatDoorProg
import Derived.KernelRfl
import Derived.WalkKit
import Derived.ProofKit
import Derived.JoinedCond
import Derived.SizedLaws
import Derived.Deep.Slices
import Derived.Carry
import Derived.OpenShut
import Derived.ShutString
import Derived.WideMake
import Derived.Laws.StructEq
import Derived.Lib.LaidTab
import Derived.Lib.ItoaNum
import Derived.Lib.Walk
import Derived.Lib.SliceRun
import Derived.Lib.JoinLaws
import Derived.Laws.Externs
import Derived.Laws.Bits64b
import Derived.Deep.LoopGhost
import Derived.Laws.IdiomStrings
import Derived.Laws.BytesString
set_option linter.unusedVariables false
set_option linter.unusedSimpArgs false
section
namespace Go.Dk
open Go.Proofs Go.Shelf Go.RowKit Go.Lib
variable {P:Program} {ρ:Ren}

theorem bcase' (b:Bool):b=true∨b=false:=by cases b<;>simp
theorem zy8 (w:World) (s:ByteArray) (i:Nat):Below w.heap.size w (w.iter s i):=(Below.refl _ _).alloc (Nat.le_refl _) _
set_option maxHeartbeats 8000000 in
set_option maxRecDepth 1000000 in
theorem zA7 (L:Lays.n152 P ρ) (s:ByteArray) (w:World) (hascii:∀(j:Nat) b,s.data.toList[j]? = some b→b.toNat<128) :
  Calls P (ρ.f 152) #[.string s, .int .i32 65533] w fun e w'=>e = .returned (.int .i64 (-1))∧Below w.heap.size w w':=by
 have HA:Aside (∀(j:Nat) b,s.data.toList[j]? = some b→b.toNat<128):=hascii
 clear hascii
 have mixed:=L.mixed;have t3:=L.t3; have a3:=L.a3; have z3:=L.z3; have v3:=L.v3;have t4:=L.t4; have a4:=L.a4; have z4:=L.z4; have v4:=L.v4;have t5:=L.t5; have a5:=L.a5; have z5:=L.z5; have v5:=L.v5;have t9:=L.t9; have a9:=L.a9; have z9:=L.z9; have v9:=L.v9;have t21:=L.t21; have a21:=L.a21; have z21:=L.z21; have v21:=L.v21
 go_enter L.f152,Body.n152_ntmps ρ
 go_wp2
 go_loopg [5,6] s.size (fun g _ _ wx=>∃i:Nat,i+g=s.size∧wx=w.iter s i)
 case atStart=>exact ⟨0,by omega,rfl⟩
 case round =>
  obtain ⟨i,hig,rfl⟩:=hrel
  cases gk with
  | zero =>
   obtain rfl:i=s.size:=by omega
   have hnx:=run_next_end (P:=P) w s s.size
   go_wp2
   go_ret
   exact ⟨rfl,zy8 ..⟩
  | succ g =>
   have hi:i<s.size:=by omega
   obtain ⟨x,hx⟩:∃x:UInt8,s[i]'hi=x:=⟨_,rfl⟩
   have hxl:s.data.toList[i]? = some x:=by rw [← hx]; exact Lib.data_getElem? s i hi
   have hx128:x.toNat<128:=HA.out i x hxl;have hnx:=fun ty=>run_next_ascii (P:=P) w s i ty hi (by rw [hx]; exact hx128);rw [hx] at hnx;have hne:((x.toNat:Int)==65533)=false:=beq_eq_false_iff_ne.2 (by omega)
   go_wp2
   go_roundg g
   case measure=>omega
   case rel=>exact ⟨i+1,by omega,rfl⟩

set_option maxHeartbeats 8000000 in
set_option maxRecDepth 1000000 in
theorem zA8 (L:Lays.n152 P ρ) (s:ByteArray) (r:Int) (w:World) (h1:128≤r) (hne:(r==65533)=false) (hv:Go.Lib.validRune r=false) :
  Calls P (ρ.f 152) #[.string s, .int .i32 r] w fun e w'=>e = .returned (.int .i64 (-1))∧w'=w:=by
 have mixed:=L.mixed;have t3:=L.t3; have a3:=L.a3; have z3:=L.z3; have v3:=L.v3;have t4:=L.t4; have a4:=L.a4; have z4:=L.z4; have v4:=L.v4;have t5:=L.t5; have a5:=L.a5; have z5:=L.z5; have v5:=L.v5;have t9:=L.t9; have a9:=L.a9; have z9:=L.z9; have v9:=L.v9;have t21:=L.t21; have a21:=L.a21; have z21:=L.z21; have v21:=L.v21;have e119:∀args w,(callFunc (ρ.f 119) args).run P w = .ok (.enter (ρ.f 119) args) w:=enters_of L.f119 (by kernel_rfl) rfl
 have h0:(0:Int)≤r:=by omega
 have h2:¬ (r<128):=by omega
 go_enter L.f152,Body.n152_ntmps ρ
 go_wp2_with (go_at_fn (ρ.f 119); refine (Any.utf8_ValidRune { L with } _ _).mono ?_; rintro e w' ⟨rfl,hw⟩; rw [hw,hv])
 go_ret
 exact ⟨rfl,rfl⟩

theorem zFy (r:Int) (h1:128≤r) (hv:Lib.validRune r=true):1<(Utf8.encode r).size∧(Utf8.encode r).size≤4∧∀(h:(Utf8.encode r).size-1<(Utf8.encode r).size),128≤((Utf8.encode r)[(Utf8.encode r).size-1]'h).toNat:=by
 have hv':Utf8.valid r=true:=by
  simp only [Lib.validRune,decide_eq_true_eq] at hv;simp [Utf8.valid]; omega
 exact encode_facts r hv' h1
theorem zOc (l:List UInt8) (c:UInt8) (hc:128≤c.toNat) (h:∀b∈l,b.toNat<128):Lib.indexByte l c = -1:=by
 induction l with
 | nil=>rfl
 | cons b l ih =>
  have hb:(b==c)=false:=by
   refine beq_eq_false_iff_ne.2 fun e=>?_;have:=h b (List.mem_cons_self ..);rw [e] at this; omega
  simp only [Lib.indexByte,hb,ih (fun x hx=>h x (List.mem_cons_of_mem _ hx))];rfl
set_option maxHeartbeats 8000000 in
set_option maxRecDepth 1000000 in
theorem zA9 (L:Lays.n152 P ρ) (s:ByteArray) (r:Int) (w:World) (h1:128≤r) (hne:(r==65533)=false) (hv:Go.Lib.validRune r=true) (hs:s.size<4294967281) (hascii:∀(j:Nat) b,s.data.toList[j]? = some b→b.toNat<128) :
  Calls P (ρ.f 152) #[.string s, .int .i32 r] w fun e w'=>e = .returned (.int .i64 (-1))∧Below w.heap.size w w':=by
 have HA:Aside (∀(j:Nat) b,s.data.toList[j]? = some b→b.toNat<128):=hascii
 clear hascii
 have mixed:=L.mixed;have t3:=L.t3; have a3:=L.a3; have z3:=L.z3; have v3:=L.v3;have t4:=L.t4; have a4:=L.a4; have z4:=L.z4; have v4:=L.v4;have t5:=L.t5; have a5:=L.a5; have z5:=L.z5; have v5:=L.v5;have t9:=L.t9; have a9:=L.a9; have z9:=L.z9; have v9:=L.v9;have t21:=L.t21; have a21:=L.a21; have z21:=L.z21; have v21:=L.v21;have e119:∀args w,(callFunc (ρ.f 119) args).run P w = .ok (.enter (ρ.f 119) args) w:=enters_of L.f119 (by kernel_rfl) rfl;have e137:∀args w,(callFunc (ρ.f 137) args).run P w = .ok (.enter (ρ.f 137) args) w:=enters_of L.f137 (by kernel_rfl) rfl
 have h0:(0:Int)≤r:=by omega
 have h2:¬ (r<128):=by omega
 have hsome:(P.underlying (ρ.t 21)).isSome=true:=by rw [t21]; rfl
 obtain ⟨hz,h4,hl⟩:=zFy r h1 hv;obtain ⟨rs,hrs⟩:∃rs,Utf8.encode r=rs:=⟨_,rfl⟩;have hcv:=fun w=>run_convert_int_string (P:=P) w (ρ.t 21) (ρ.t 9) .i32 r hsome t9;rw [hrs] at hcv hz h4 hl;obtain ⟨m,hm⟩:∃m,rs.size=m+1:=⟨rs.size-1,by omega⟩
 have hmr:m<rs.size:=by omega
 have hlm:128≤(rs[m]'hmr).toNat:=by
  have:=hl (by omega);simpa only [show rs.size-1=m by omega] using this
 clear hl
 have hsz:(rs.size:Int)-1=(m:Int):=by omega
 obtain ⟨c,hc⟩:∃c:UInt8,rs[m]'hmr=c:=⟨_,rfl⟩;rw [hc] at hlm
 go_enter L.f152,Body.n152_ntmps ρ
 go_wp2_with (go_at_fn (ρ.f 119); refine (Any.utf8_ValidRune { L with } _ _).mono ?_; rintro e w' ⟨rfl,hw⟩; rw [hw,hv])
 go_step3
 go_wp2
 go_loopg [9,10,11,12] 0 (fun g v _ _ _ wx=>v = .int .i64 (m:Int)∧wx=w)
 case atStart=>exact ⟨rfl,rfl⟩
 case round =>
  obtain ⟨rfl,rfl⟩:=hrel
  by_cases hlt:(m:Int)<(s.size:Int)
  ·have hms:m<s.size:=by omega
   obtain ⟨x,hx⟩:∃x:UInt8,s[m]'hms=x:=⟨_,rfl⟩
   have hxl:s.data.toList[m]? = some x:=by rw [← hx]; exact Lib.data_getElem? s m hms
   have hx128:x.toNat<128:=HA.out m x hxl;have hne:((x.toNat:Int)==(c.toNat:Int))=false:=beq_eq_false_iff_ne.2 (by omega)
   clear hxl
   go_wp2
   go_step3
   go_wp2
   go_region_o
   go_wp2
   have hno:Lib.indexByte (List.take (s.size-(m+1)) (List.drop (m+1) s.data.toList)) c = -1:=by
    refine zOc _ _ hlm fun b hb=>?_;obtain ⟨j,hj⟩:=List.mem_iff_getElem?.1 (List.mem_of_mem_drop (List.mem_of_mem_take hb));exact HA.out j b hj
   have hlt0:Lib.indexByte (List.take (s.size-(m+1)) (List.drop (m+1) s.data.toList)) c<0:=by omega
   have hq1:(0:Int)≤(m:Int)+1:=by omega
   have hq2:(m:Int)+1≤(s.size:Int):=by omega
   have hwr:IntKind.i64.wrap ((m:Int)+1)=(m:Int)+1:=by simp [IntKind.wrap,IntKind.signed,IntKind.bits]; omega
   have hq3:m+1≤s.size:=hms
   have hq4:¬ ((s.size:Int)<(m:Int)+1):=by omega
   have hq5:¬ (s.size<m+1):=by omega
   have hq6:(m:Int)<(m:Int)+1:=by omega
   have hback:((c.toNat:Int)).toNat.toUInt8=c:=by simp
   go_region_with_o (go_at_fn (ρ.f 137); refine (Any.strings_IndexByte { L with } _ _ _).mono ?_; rintro e w' ⟨rfl,rfl⟩)
   go_wp2
   simp only [Exit.noGoto,Exit.inBlock,Exit.then]
   go_ret
   exact ⟨rfl,((Below.refl _ _).drew).drew⟩
  ·go_wp2
   go_ret
   exact ⟨rfl,Below.refl _ _⟩

theorem zC4 (L:Lays.n152 P ρ) (s:ByteArray) (r:Int) (w:World) (h1:128≤r) (hs:s.size<4294967281) (hascii:∀(j:Nat) b,s.data.toList[j]? = some b→b.toNat<128) :
  Calls P (ρ.f 152) #[.string s, .int .i32 r] w fun e w'=>e = .returned (.int .i64 (-1))∧Below w.heap.size w w':=by
 by_cases he:r=65533
 ·subst he; exact zA7 L s w hascii
 ·have hne:(r==65533)=false:=beq_eq_false_iff_ne.2 he
  cases hv:Lib.validRune r with
  | false=>exact (zA8 L s r w h1 hne hv).mono fun e w' ⟨h,hw⟩=>⟨h,by rw [hw]; exact Below.refl _ _⟩
  | true=>exact zA9 L s r w h1 hne hv hs hascii

theorem zFz (s:ByteArray) (i:Nat) (h:i<s.size) (ha:128≤(s[i]'h).toNat):i+(Utf8.decode s i).2≤s.size∧∀k,k<(Utf8.decode s i).2→∀b,s.data.toList[i+k]? = some b→128≤b.toNat:=by
 have hg:∀k (hk:i+k<s.size),s.get! (i+k)=s[i+k]'hk:=fun k hk=>by
  show s.get! (i+k)=_;simp [ByteArray.get!,getElem!_pos,hk];rfl
 have key:∀k b,s.data.toList[i+k]? = some b→∃hk:i+k<s.size,s[i+k]'hk=b:=by
  intro k b hb;have hl:=(List.getElem?_eq_some_iff.1 hb).1
  have hk:i+k<s.size:=by rw [Lib.size_eq]; exact hl
  refine ⟨hk,?_⟩;have:=Lib.data_getElem? s (i+k) hk;rw [hb] at this;exact (Option.some.inj this).symm
 have hb0:¬ (s.get! (i+0)).toNat<128:=by rw [hg 0 h]; simpa using ha
 have hcont:∀k,(decide (i+k<s.size)&&(s.get! (i+k)).toNat/64==2)=true→i+k<s.size∧∀b,s.data.toList[i+k]? = some b→128≤b.toNat:=by
  intro k hk;simp only [Bool.and_eq_true,decide_eq_true_eq,beq_iff_eq] at hk;refine ⟨hk.1,fun b hb=>?_⟩;obtain ⟨_,rfl⟩:=key k b hb;rw [hg k hk.1] at hk;omega
 have h00:∀b,s.data.toList[i+0]? = some b→128≤b.toNat:=by
  intro b hb;obtain ⟨_,rfl⟩:=key 0 b hb;simpa using ha
 have one:i+1≤s.size∧∀k,k<1→∀b,s.data.toList[i+k]? = some b→128≤b.toNat:=⟨h,fun k hk=>by
  have h0:k=0:=by omega
  subst h0
  exact h00⟩
 have step:∀n,(i+n≤s.size∧∀k,k<n→∀b,s.data.toList[i+k]? = some b→128≤b.toNat)→(decide (i+n<s.size)&&(s.get! (i+n)).toNat/64==2)=true→(i+(n+1)≤s.size∧∀k,k<n+1→∀b,s.data.toList[i+k]? = some b→128≤b.toNat):=by
  intro n hn hc;obtain ⟨hlt,hb⟩:=hcont n hc;refine ⟨by omega,fun k hk=>?_⟩
  by_cases e:k=n
  ·subst e; exact hb
  ·exact hn.2 k (by omega)
 simp only [Utf8.decode,hb0,if_false]
 split
 ·rename_i hc
  rw [Bool.and_eq_true] at hc
  split
  ·exact step 1 one hc.2
  ·exact one
 ·split
  ·rename_i hc
   rw [Bool.and_eq_true,Bool.and_eq_true] at hc
   split
   ·exact step 2 (step 1 one hc.1.2) hc.2
   ·exact one
  ·split
   ·rename_i hc
    rw [Bool.and_eq_true,Bool.and_eq_true,Bool.and_eq_true] at hc
    split
    ·exact step 3 (step 2 (step 1 one hc.1.1.2) hc.1.2) hc.2
    ·exact one
   ·exact one

set_option maxHeartbeats 8000000 in
set_option maxRecDepth 1000000 in
theorem zy9 (L:Lays.n153 P ρ) (s chars:ByteArray) (w:World) (h2:2≤chars.size) (h8:s.size≤8) (hcs:chars.size<4294967281) (hascii:∀(j:Nat) b,chars.data.toList[j]? = some b→b.toNat<128) :
  Calls P (ρ.f 153) #[.string s, .string chars] w fun e w'=>e = .returned (.int .i64 (Lib.indexAny s.data.toList chars.data.toList))∧Below w.heap.size w w':=by
 have HA:Aside (∀(j:Nat) b,chars.data.toList[j]? = some b→b.toNat<128):=hascii
 clear hascii
 have hemp:chars.toList.isEmpty=false:=by
  rw [Lib.toList_data]
  cases h:chars.data.toList with
  | nil=>have:=Lib.size_eq chars; rw [h,List.length_nil] at this; omega
  | cons _ _=>rfl
 have hn1:((chars.size:Int)==1)=false:=beq_eq_false_iff_ne.2 (by omega);have h8z:decide ((8:Int)<(s.size:Int))=false:=decide_eq_false (by omega);have t3:=L.t3; have a3:=L.a3; have z3:=L.z3; have v3:=L.v3;have t4:=L.t4; have a4:=L.a4; have z4:=L.z4; have v4:=L.v4;have t5:=L.t5; have a5:=L.a5; have z5:=L.z5; have v5:=L.v5;have t9:=L.t9; have a9:=L.a9; have z9:=L.z9; have v9:=L.v9;have t21:=L.t21; have a21:=L.a21; have z21:=L.z21; have v21:=L.v21;have e152:∀args w,(callFunc (ρ.f 152) args).run P w = .ok (.enter (ρ.f 152) args) w:=enters_of L.f152 (by kernel_rfl) rfl;have e226:∀args w,(callFunc (ρ.f 226) args).run P w = .ok (.enter (ρ.f 226) args) w:=enters_of L.f226 (by kernel_rfl) rfl
 go_enter L.f153,Body.n153_ntmps ρ
 go_wp2_with (go_at_fn (ρ.f 226); refine (Any.strings_shouldUseASCIISet { L with } _ _).mono ?_; rintro e w' ⟨rfl,hw⟩; rw [hw,h8z])
 go_loopg [9,10] s.size (fun g _ _ wx=>∃i:Nat,i+g=s.size∧wx.heap[w.heap.size]? = some (.stringIter s i)∧Below w.heap.size w wx∧Lib.NoAny s.data.toList chars.data.toList i)
 case atStart=>exact ⟨0,by omega,World.iter_heap ..,zy8 ..,Lib.NoAny.zero _ _⟩
 case round =>
  obtain ⟨i,hig,hk,hbel,hno⟩:=hrel;have HN:Aside (Lib.NoAny s.data.toList chars.data.toList i):=hno;have HB:Aside (Below w.heap.size w wr):=hbel
  clear hno hbel
  by_cases hi:i<s.size
  ·obtain ⟨x,hx⟩:∃x:UInt8,s[i]'hi=x:=⟨_,rfl⟩
   have hxl:s.data.toList[i]? = some x:=by rw [← hx]; exact Lib.data_getElem? s i hi
   have Hx:Aside (s.data.toList[i]? = some x):=hxl
   clear hxl
   have HK:Aside (wr.heap[w.heap.size]? = some (.stringIter s i)):=hk;have HX2:Aside (s[i]'hi=x):=hx
   by_cases hx128:x.toNat<128
   ·have hnx:=fun ty=>run_next_ascii_at (P:=P) wr w.heap.size s i ty hk hi (by rw [hx]; exact hx128);rw [hx] at hnx
    clear hx hk
    have hcon:=Lib.contains_iff_indexByte chars.data.toList x
    have hback:((x.toNat:Int)).toNat.toUInt8=x:=by simp
    cases hin:chars.data.toList.contains x
    ·rw [hin] at hcon;have hlt:¬ ((0:Int)≤Lib.indexByte chars.data.toList x):=of_decide_eq_false hcon.symm
     clear hcon
     go_wp2_with (go_at_fn (ρ.f 152); refine (Any.strings_IndexRune_ascii { L with } _ _ _ (by omega) (by omega)).mono ?_; rintro e w' ⟨rfl,hw⟩; rw [hw,hback])
     go_roundg (gk-1)
     case measure=>omega
     case rel=>exact ⟨i+1,by omega,iterAt_heap _ _ _ _ _ HK.out,below_iterAt HB.out (Nat.le_refl _) _ _,HN.out.succ Hx.out hin⟩
    ·rw [hin] at hcon;have hge:(0:Int)≤Lib.indexByte chars.data.toList x:=of_decide_eq_true hcon.symm
     clear hcon
     go_wp2_with (go_at_fn (ρ.f 152); refine (Any.strings_IndexRune_ascii { L with } _ _ _ (by omega) (by omega)).mono ?_; rintro e w' ⟨rfl,hw⟩; rw [hw,hback])
     go_ret
     exact ⟨by rw [Lib.indexAny_hit HN.out Hx.out hin]; rfl,below_iterAt HB.out (Nat.le_refl _) _ _⟩
   ·have hhi:128≤(s[i]'hi).toNat:=by rw [hx]; omega
    have hnx:=fun ty=>run_next_any_at (P:=P) wr w.heap.size s i ty hk hi;obtain ⟨hspan,hbytes⟩:=zFz s i hi hhi;obtain ⟨h128,hwid⟩:=decode_high s i hi hhi;have HS:Aside (∀k,k<(Utf8.decode s i).2→∀b,s.data.toList[i+k]? = some b→128≤b.toNat):=hbytes
    clear hbytes hx hk hhi
    obtain ⟨dr,hdr⟩:∃dr,(Utf8.decode s i).1=dr:=⟨_,rfl⟩;obtain ⟨dw,hdw⟩:∃dw,(Utf8.decode s i).2=dw:=⟨_,rfl⟩;rw [hdr] at hnx h128;rw [hdw] at hnx hspan hwid HS
    clear hdr hdw
    have hdr:(128:Int)≤(dr:Int):=by omega
    go_wp2_with (go_at_fn (ρ.f 152); refine (zC4 { L with } _ _ _ hdr hcs HA.out).mono ?_; rintro e w' ⟨rfl,hw⟩)
    go_roundg (gk-dw)
    case measure=>omega
    case rel =>
     refine ⟨i+dw,by omega,?_,?_,fun j b hj hb=>?_⟩
     ·exact (hw.block _ (by rw [iterAt_size]; exact (Array.getElem?_eq_some_iff.1 HK.out).1)).trans (iterAt_heap _ _ _ _ _ HK.out)
     ·have hge:w.heap.size≤(wr.iterAt w.heap.size s (i+dw)).heap.size:=by
       rw [iterAt_size]; exact HB.out.size
      exact (below_iterAt HB.out (Nat.le_refl _) _ _).trans (hw.mono hge)
     ·by_cases hji:j<i
      ·exact HN.out j b hji hb
      ·have h128b:=HS.out (j-i) (by omega) b (by rw [show i+(j-i)=j by omega]; exact hb)
       rcases bcase' (chars.data.toList.contains b) with hc|hc
       ·exfalso
        obtain ⟨q,hq⟩:=List.mem_iff_getElem?.1 (List.contains_iff_mem.1 hc);have:=HA.out q b hq;omega
       ·exact hc
  ·have hnx:=fun ty=>run_next_end_at (P:=P) wr w.heap.size s i ty hk hi
   go_wp2
   go_ret
   have:i=s.size:=by omega
   subst this;exact ⟨by rw [Lib.indexAny_none (by rw [← Lib.size_eq]; exact HN.out)]; rfl,HB.out⟩

theorem zC5 (L:Lays.n153 P ρ) (h116:(P.info? (ρ.t 116)).map (fun i=>(i.zero,i.size))=some (some (.agg (Array.replicate 256 (.bool false))),256)) (s chars:ByteArray) (w:World) (hs:s.size<4294967281) (hcs:chars.size<4294967281)
  (hac:∀(j:Nat) b,chars.data.toList[j]? = some b→b.toNat<128) :
  Calls P (ρ.f 153) #[.string s, .string chars] w fun e w'=>e = .returned (.int .i64 (Lib.indexAny s.data.toList chars.data.toList))∧Below w.heap.size w w':=by
 by_cases h0:chars.size=0
 ·exact (Any.strings_IndexAny_none L s chars w h0).mono fun e w' ⟨h,hw⟩=>⟨h,by rw [hw]; exact Below.refl _ _⟩
 ·by_cases h1:chars.size=1
  ·exact (Any.strings_IndexAny_one L s chars w h1 hac).mono fun e w' ⟨h,hw⟩=>⟨h,by rw [hw]; exact Below.refl _ _⟩
  ·by_cases h8:s.size≤8
   ·exact zy9 L s chars w (by omega) h8 hcs hac
   ·refine (Any.strings_IndexAny_long L (zero_of_info h116).1 (zero_of_info h116).2 s chars w (by omega) (by omega) hs hcs hac).mono fun e w' ⟨h,hw⟩=>⟨h,?_⟩;rw [hw];exact ((Below.refl _ _).alloc (Nat.le_refl _) _).alloc (Nat.le_of_lt (by show _<(Array.push _ _).size; simp)) _
end Go.Dk
end
section
namespace Go.Proofs
open Go.Shelf
theorem ft {α:Type} {a:Option α} {x y:α} (h:a=some x) (e:x=y:=by kernel_rfl):a=some y:=h.trans (congrArg some e)
open Tryz
def Tryz.lays156_ren:Go.Shelf.Ren:=⟨fun|156=>130|165=>189|166=>190|169=>191|240=>267|241=>268|276=>334|277=>335|n=>n,fun|31=>163|9=>9|3=>3|4=>4|0=>0|20=>20|72=>261|76=>264|70=>259|37=>64|75=>263|127=>330|164=>386|5=>5|80=>73|n=>n,fun|n=>n⟩
theorem Tryz.lays156:Go.Proofs.Lays.n156 Tryz.prog Tryz.lays156_ren:=⟨(by kernel_rfl),ft func130,ft func189,ft func190,ft func191,ft func267,ft func268,ft func334,ft func335,underlying0,isAgg0,sizeOf0,zeroValue0,underlying3,isAgg3,sizeOf3,zeroValue3,underlying4,isAgg4,sizeOf4,zeroValue4,underlying9,isAgg9,sizeOf9,zeroValue9,underlying20,isAgg20,sizeOf20,zeroValue20,underlying163,isAgg163,sizeOf163,zeroValue163,underlying64,isAgg64,sizeOf64,zeroValue64,underlying259,isAgg259,sizeOf259,zeroValue259,underlying261,isAgg261,sizeOf261,zeroValue261,underlying263,isAgg263,sizeOf263,zeroValue263,underlying264,isAgg264,sizeOf264,zeroValue264,underlying330,isAgg330,sizeOf330,zeroValue330,underlying386,isAgg386,sizeOf386,zeroValue386⟩
theorem Tryz.Builder_Extra_156:Builder.Extra Tryz.prog Tryz.lays156_ren:={ sizeBuilder:=(by kernel_rfl),liesBuilder:=(by kernel_rfl),t5:=underlying5,a5:=isAgg5,z5:=sizeOf5,v5:=zeroValue5,infoByte:=(by kernel_rfl),cellsByte:=(by kernel_rfl),sizeByte:=(by kernel_rfl),neB5:=(by decide) }
open Go.RowKit in
theorem Tryz.strings_Join_none (a:Option Addr) (c:Nat) (sep:ByteArray) (w:World) :
  Calls Tryz.prog 130 #[.slice a 0 c, .string sep] w fun e w'=>e = .returned (.string ⟨#[]⟩)∧w'=w:=Any.strings_Join_none Tryz.lays156 Tryz.Builder_Extra_156 a c sep w
open Go.RowKit in
theorem Tryz.strings_Join (bk o c:Nat) (xs:List ByteArray) (sep:ByteArray) (w:World) (hcells:∀(j:Nat) x,xs[j]? = some x→w.cell? ⟨bk,o+j,none⟩=some (.string x)) (hbk:bk<w.heap.size) (hN:xs.length≤140737488355328) (hcap:xs.length≤c) (hlen:(Lib.join (xs.map (·.data.toList)) sep.data.toList).length≤140737488355328) :
  Calls Tryz.prog 130 #[.slice (some ⟨bk,o,none⟩) xs.length c, .string sep] w fun e w'=>e = .returned (.string ⟨(Lib.join (xs.map (·.data.toList)) sep.data.toList).toArray⟩)∧Below w.heap.size w w':=Any.strings_Join Tryz.lays156 Tryz.Builder_Extra_156 bk o c xs sep w hcells hbk hN hcap hlen
def Tryz.lays162_ren:Go.Shelf.Ren:=⟨fun|162=>446|232=>292|227=>212|234=>294|236=>296|228=>213|271=>347|151=>346|120=>384|197=>341|152=>210|260=>378|137=>280|119=>281|224=>282|225=>283|217=>343|266=>383|n=>n,fun|9=>9|4=>4|3=>3|5=>5|117=>286|116=>285|0=>0|124=>338|21=>21|105=>390|46=>337|119=>466|139=>469|138=>468|n=>n,fun|3=>1|4=>2|n=>n⟩
theorem Tryz.lays162:Go.Proofs.Lays.n162 Tryz.prog Tryz.lays162_ren:=⟨(by kernel_rfl),ft func281,ft func384,ft func280,ft func346,ft func210,ft func446,ft func341,ft func343,ft func282,ft func283,ft func212,ft func213,ft func292,ft func294,ft func296,ft func378,ft func383,ft func347,underlying0,isAgg0,sizeOf0,zeroValue0,underlying3,isAgg3,sizeOf3,zeroValue3,underlying4,isAgg4,sizeOf4,zeroValue4,underlying5,isAgg5,sizeOf5,zeroValue5,underlying9,isAgg9,sizeOf9,zeroValue9,underlying21,isAgg21,sizeOf21,zeroValue21,underlying337,isAgg337,sizeOf337,zeroValue337,underlying390,isAgg390,sizeOf390,zeroValue390,underlying285,isAgg285,sizeOf285,underlying286,isAgg286,sizeOf286,zeroValue286,underlying466,isAgg466,sizeOf466,underlying338,isAgg338,sizeOf338,zeroValue338,underlying468,isAgg468,sizeOf468,zeroValue468,underlying469,isAgg469,sizeOf469,zeroValue469,(by kernel_rfl),(by kernel_rfl)⟩
def Tryz.lays160_ren:Go.Shelf.Ren:=⟨fun|160=>218|232=>292|231=>291|227=>212|234=>294|233=>293|236=>296|235=>295|228=>213|271=>347|151=>346|197=>341|120=>384|152=>210|260=>378|137=>280|119=>281|224=>282|225=>283|217=>343|266=>383|n=>n,fun|9=>9|4=>4|3=>3|5=>5|117=>286|116=>285|0=>0|124=>338|21=>21|105=>390|46=>337|119=>466|139=>469|138=>468|n=>n,fun|3=>1|4=>2|n=>n⟩
theorem Tryz.lays160:Go.Proofs.Lays.n160 Tryz.prog Tryz.lays160_ren:=⟨(by kernel_rfl),ft func281,ft func384,ft func280,ft func346,ft func210,ft func218,ft func341,ft func343,ft func282,ft func283,ft func212,ft func213,ft func291,ft func292,ft func293,ft func294,ft func295,ft func296,ft func378,ft func383,ft func347,underlying0,isAgg0,sizeOf0,zeroValue0,underlying3,isAgg3,sizeOf3,zeroValue3,underlying4,isAgg4,sizeOf4,zeroValue4,underlying5,isAgg5,sizeOf5,zeroValue5,underlying9,isAgg9,sizeOf9,zeroValue9,underlying21,isAgg21,sizeOf21,zeroValue21,underlying337,isAgg337,sizeOf337,zeroValue337,underlying390,isAgg390,sizeOf390,zeroValue390,underlying285,isAgg285,sizeOf285,underlying286,isAgg286,sizeOf286,zeroValue286,underlying466,isAgg466,sizeOf466,underlying338,isAgg338,sizeOf338,zeroValue338,underlying468,isAgg468,sizeOf468,zeroValue468,underlying469,isAgg469,sizeOf469,zeroValue469,(by kernel_rfl),(by kernel_rfl)⟩
def Tryz.lays137_ren:Go.Shelf.Ren:=⟨fun|137=>280|217=>343|266=>383|n=>n,fun|9=>9|5=>5|3=>3|n=>n,fun|n=>n⟩
theorem Tryz.lays137:Go.Proofs.Lays.n137 Tryz.prog Tryz.lays137_ren:=⟨(by kernel_rfl),ft func280,ft func343,ft func383,underlying3,isAgg3,sizeOf3,zeroValue3,underlying5,isAgg5,sizeOf5,zeroValue5,underlying9,isAgg9,sizeOf9,zeroValue9⟩
open Go.RowKit in
theorem Tryz.strings_IndexByte (s:ByteArray) (c:Int) (w:World) :
  Calls Tryz.prog 280 #[.string s, .int .u8 c] w fun e w'=>e = .returned (.int .i64 (Lib.indexByte s.data.toList c.toNat.toUInt8))∧w'=w:=Any.strings_IndexByte Tryz.lays137 s c w
def Tryz.lays210_ren:Go.Shelf.Ren:=⟨fun|210=>270|206=>336|n=>n,fun|9=>9|4=>4|3=>3|n=>n,fun|n=>n⟩
theorem Tryz.lays210:Go.Proofs.Lays.n210 Tryz.prog Tryz.lays210_ren:=⟨(by kernel_rfl),ft func336,ft func270,underlying3,isAgg3,sizeOf3,zeroValue3,underlying4,isAgg4,sizeOf4,zeroValue4,underlying9,isAgg9,sizeOf9,zeroValue9⟩
open Go.RowKit in
theorem Tryz.stringslite_CutPrefix (s p:ByteArray) (w:World) :
  Calls Tryz.prog 270 #[.string s, .string p] w fun e w'=>e = .returned (.tuple #[.string ⟨(Lib.trimPrefix s.data.toList p.data.toList).toArray⟩, .bool (Lib.hasPrefix s.data.toList p.data.toList)])∧w'=w:=Any.stringslite_CutPrefix Tryz.lays210 s p w
def Tryz.lays103_ren:Go.Shelf.Ren:=⟨fun|103=>197|210=>270|206=>336|n=>n,fun|9=>9|4=>4|24=>268|3=>3|n=>n,fun|n=>n⟩
theorem Tryz.lays103:Go.Proofs.Lays.n103 Tryz.prog Tryz.lays103_ren:=⟨(by kernel_rfl),ft func197,ft func336,ft func270,underlying3,isAgg3,sizeOf3,zeroValue3,underlying4,isAgg4,sizeOf4,zeroValue4,underlying9,isAgg9,sizeOf9,zeroValue9,underlying268,isAgg268,sizeOf268,zeroValue268⟩
open Go.RowKit in
theorem Tryz.strings_CutPrefix (s p:ByteArray) (w:World) :
  Calls Tryz.prog 197 #[.string s, .string p] w fun e w'=>e = .returned (.tuple #[.string ⟨(Lib.trimPrefix s.data.toList p.data.toList).toArray⟩, .bool (Lib.hasPrefix s.data.toList p.data.toList)])∧w'=w:=Any.strings_CutPrefix Tryz.lays103 s p w
def Tryz.lays211_ren:Go.Shelf.Ren:=⟨fun|211=>271|207=>337|n=>n,fun|9=>9|4=>4|3=>3|n=>n,fun|n=>n⟩
theorem Tryz.lays211:Go.Proofs.Lays.n211 Tryz.prog Tryz.lays211_ren:=⟨(by kernel_rfl),ft func337,ft func271,underlying3,isAgg3,sizeOf3,zeroValue3,underlying4,isAgg4,sizeOf4,zeroValue4,underlying9,isAgg9,sizeOf9,zeroValue9⟩
open Go.RowKit in
theorem Tryz.stringslite_CutSuffix (s p:ByteArray) (w:World) (hs:s.size≤9223372036854775807) :
  Calls Tryz.prog 271 #[.string s, .string p] w fun e w'=>e = .returned (.tuple #[.string ⟨(Lib.trimSuffix s.data.toList p.data.toList).toArray⟩, .bool (Lib.hasSuffix s.data.toList p.data.toList)])∧w'=w:=Any.stringslite_CutSuffix Tryz.lays211 s p w hs
def Tryz.lays104_ren:Go.Shelf.Ren:=⟨fun|104=>199|211=>271|207=>337|n=>n,fun|9=>9|4=>4|24=>268|3=>3|n=>n,fun|n=>n⟩
theorem Tryz.lays104:Go.Proofs.Lays.n104 Tryz.prog Tryz.lays104_ren:=⟨(by kernel_rfl),ft func199,ft func337,ft func271,underlying3,isAgg3,sizeOf3,zeroValue3,underlying4,isAgg4,sizeOf4,zeroValue4,underlying9,isAgg9,sizeOf9,zeroValue9,underlying268,isAgg268,sizeOf268,zeroValue268⟩
open Go.RowKit in
theorem Tryz.strings_CutSuffix (s p:ByteArray) (w:World) (hs:s.size≤9223372036854775807) :
  Calls Tryz.prog 199 #[.string s, .string p] w fun e w'=>e = .returned (.tuple #[.string ⟨(Lib.trimSuffix s.data.toList p.data.toList).toArray⟩, .bool (Lib.hasSuffix s.data.toList p.data.toList)])∧w'=w:=Any.strings_CutSuffix Tryz.lays104 s p w hs
def Tryz.laysM173_ren:Go.Shelf.Ren:=⟨fun|173=>278|246=>342|283=>379|284=>380|285=>381|286=>382|129=>422|317=>421|318=>423|319=>424|320=>425|337=>449|338=>450|n=>n,fun|2=>2|3=>3|9=>9|4=>4|171=>424|0=>0|53=>425|37=>64|5=>5|173=>428|212=>471|51=>463|20=>20|213=>472|46=>337|232=>492|233=>493|n=>n,fun|17=>3|18=>4|19=>5|n=>n⟩
theorem Tryz.laysM173:Go.Proofs.LaysM.n173 Tryz.prog Tryz.laysM173_ren:={ mixed:=(by kernel_rfl),f129:=ft func422,f173:=ft func278,f246:=ft func342,f283:=ft func379,f284:=ft func380,f285:=ft func381,f286:=ft func382,f317:=ft func421,f318:=ft func423,f319:=ft func424,f320:=ft func425,f337:=ft func449,f338:=ft func450,t0:=underlying0,a0:=isAgg0,z0:=sizeOf0,v0:=zeroValue0,t2:=underlying2,a2:=isAgg2,z2:=sizeOf2,v2:=zeroValue2,t3:=underlying3,a3:=isAgg3,z3:=sizeOf3,v3:=zeroValue3,t4:=underlying4,a4:=isAgg4,z4:=sizeOf4,v4:=zeroValue4,t5:=underlying5,a5:=isAgg5,z5:=sizeOf5,v5:=zeroValue5,t9:=underlying9,a9:=isAgg9,z9:=sizeOf9,v9:=zeroValue9,t20:=underlying20,a20:=isAgg20,z20:=sizeOf20,v20:=zeroValue20,t37:=underlying64,a37:=isAgg64,z37:=sizeOf64,v37:=zeroValue64,t46:=underlying337,a46:=isAgg337,z46:=sizeOf337,v46:=zeroValue337,t51:=underlying463,a51:=isAgg463,z51:=sizeOf463,v51:=zeroValue463,t53:=underlying425,a53:=isAgg425,z53:=sizeOf425,v53:=zeroValue425,t171:=underlying424,a171:=isAgg424,z171:=sizeOf424,v171:=zeroValue424,t173:=underlying428,a173:=isAgg428,z173:=sizeOf428,v173:=zeroValue428,t212:=underlying471,a212:=isAgg471,z212:=sizeOf471,v212:=zeroValue471,t213:=underlying472,a213:=isAgg472,z213:=sizeOf472,t232:=underlying492,a232:=isAgg492,z232:=sizeOf492,v232:=zeroValue492,t233:=underlying493,a233:=isAgg493,z233:=sizeOf493,v233:=zeroValue493,g17:=(by kernel_rfl),g18:=(by kernel_rfl),g19:=(by kernel_rfl),i0:=(by kernel_rfl),i2:=(by kernel_rfl),i3:=(by kernel_rfl),i4:=(by kernel_rfl),i5:=(by kernel_rfl),i9:=(by kernel_rfl),i20:=(by kernel_rfl),i37:=(by kernel_rfl),i46:=(by kernel_rfl),i51:=(by kernel_rfl),i53:=(by kernel_rfl),i171:=(by kernel_rfl),i173:=(by kernel_rfl),i212:=(by kernel_rfl),i232:=(by kernel_rfl),i233:=(by kernel_rfl),m17:=(by kernel_rfl),m18:=(by kernel_rfl),m19:=(by kernel_rfl) }
open Go.RowKit Go.Sort Go.Lib in
theorem Tryz.strconv_FormatInt_10 (n:Int) (h0 : -9223372036854775808≤n) (h1:n≤9223372036854775807) (w:World) (htab:Lib.TabIs Tryz.prog w "internal/strconv.uint64pow10" .u64 Lib.pow10Tab) :
  Calls Tryz.prog 278 #[.int .i64 n, .int .i64 10] w fun e w'=>e = .returned (.string ⟨(Lib.itoa n).toArray⟩)∧∃k os,w'=grow (w.drewN k) os:=Any.strconv_FormatInt_10 Tryz.laysM173 n h0 h1 w htab
def Tryz.lays143_ren:Go.Shelf.Ren:=⟨fun|143=>305|219=>338|217=>343|225=>283|224=>282|267=>375|266=>383|314=>418|n=>n,fun|9=>9|3=>3|4=>4|5=>5|46=>337|146=>464|51=>463|n=>n,fun|1=>0|n=>n⟩
theorem Tryz.lays143:Go.Proofs.Lays.n143 Tryz.prog Tryz.lays143_ren:=⟨(by kernel_rfl),ft func305,ft func343,ft func338,ft func282,ft func283,ft func383,ft func375,ft func418,underlying3,isAgg3,sizeOf3,zeroValue3,underlying4,isAgg4,sizeOf4,zeroValue4,underlying5,isAgg5,sizeOf5,zeroValue5,underlying9,isAgg9,sizeOf9,zeroValue9,underlying337,isAgg337,sizeOf337,zeroValue337,underlying463,isAgg463,sizeOf463,zeroValue463,underlying464,isAgg464,sizeOf464,zeroValue464,(by kernel_rfl)⟩
open Go.RowKit Go.Lib in
theorem Tryz.strings_Index (s sub:ByteArray) (m:Int) (w:World) (hs:s.size<4294967281) (hm:w.cell? ⟨0,0,none⟩=some (.int .i64 m)) :
  Calls Tryz.prog 305 #[.string s, .string sub] w fun e w'=>e = .returned (.int .i64 (Lib.index s.data.toList sub.data.toList))∧w'=w:=Any.strings_Index Tryz.lays143 s sub m w hs hm
def Tryz.lays144_ren:Go.Shelf.Ren:=⟨fun|144=>288|143=>305|219=>338|217=>343|225=>283|224=>282|267=>375|266=>383|314=>418|n=>n,fun|9=>9|4=>4|3=>3|5=>5|46=>337|146=>464|51=>463|n=>n,fun|1=>0|n=>n⟩
theorem Tryz.lays144:Go.Proofs.Lays.n144 Tryz.prog Tryz.lays144_ren:=⟨(by kernel_rfl),ft func305,ft func288,ft func343,ft func338,ft func282,ft func283,ft func383,ft func375,ft func418,underlying3,isAgg3,sizeOf3,zeroValue3,underlying4,isAgg4,sizeOf4,zeroValue4,underlying5,isAgg5,sizeOf5,zeroValue5,underlying9,isAgg9,sizeOf9,zeroValue9,underlying337,isAgg337,sizeOf337,zeroValue337,underlying463,isAgg463,sizeOf463,zeroValue463,underlying464,isAgg464,sizeOf464,zeroValue464,(by kernel_rfl)⟩
open Go.RowKit Go.Lib in
theorem Tryz.strings_Contains (s sub:ByteArray) (m:Int) (w:World) (hs:s.size<4294967281) (hm:w.cell? ⟨0,0,none⟩=some (.int .i64 m)) :
  Calls Tryz.prog 288 #[.string s, .string sub] w fun e w'=>e = .returned (.bool (Lib.contains s.data.toList sub.data.toList))∧w'=w:=Any.strings_Contains Tryz.lays144 s sub m w hs hm
def Tryz.lays145_ren:Go.Shelf.Ren:=⟨fun|145=>201|220=>272|219=>338|217=>343|225=>283|224=>282|267=>375|266=>383|314=>418|n=>n,fun|9=>9|4=>4|59=>274|3=>3|5=>5|46=>337|146=>464|51=>463|n=>n,fun|1=>0|n=>n⟩
theorem Tryz.lays145:Go.Proofs.Lays.n145 Tryz.prog Tryz.lays145_ren:=⟨(by kernel_rfl),ft func201,ft func343,ft func338,ft func272,ft func282,ft func283,ft func383,ft func375,ft func418,underlying3,isAgg3,sizeOf3,zeroValue3,underlying4,isAgg4,sizeOf4,zeroValue4,underlying5,isAgg5,sizeOf5,zeroValue5,underlying9,isAgg9,sizeOf9,zeroValue9,underlying337,isAgg337,sizeOf337,zeroValue337,underlying463,isAgg463,sizeOf463,zeroValue463,underlying274,isAgg274,sizeOf274,zeroValue274,underlying464,isAgg464,sizeOf464,zeroValue464,(by kernel_rfl)⟩
open Go.RowKit Go.Lib in
theorem Tryz.strings_Cut (s sep:ByteArray) (m:Int) (w:World) (hs:s.size<4294967281) (hm:w.cell? ⟨0,0,none⟩=some (.int .i64 m)) :
  Calls Tryz.prog 201 #[.string s, .string sep] w fun e w'=>e = .returned (.tuple #[.string ⟨(Lib.cut s.data.toList sep.data.toList).1.toArray⟩, .string ⟨(Lib.cut s.data.toList sep.data.toList).2.1.toArray⟩, .bool (Lib.cut s.data.toList sep.data.toList).2.2])∧∃n,w'=w.drewN n:=Any.strings_Cut Tryz.lays145 s sep m w hs hm
def Tryz.lays206_ren:Go.Shelf.Ren:=⟨fun|206=>336|n=>n,fun|9=>9|4=>4|3=>3|n=>n,fun|n=>n⟩
theorem Tryz.lays206:Go.Proofs.Lays.n206 Tryz.prog Tryz.lays206_ren:=⟨(by kernel_rfl),ft func336,underlying3,isAgg3,sizeOf3,zeroValue3,underlying4,isAgg4,sizeOf4,zeroValue4,underlying9,isAgg9,sizeOf9,zeroValue9⟩
open Go.RowKit Go.Lib in
theorem Tryz.stringslite_HasPrefix (s p:ByteArray) (w:World) :
  Calls Tryz.prog 336 #[.string s, .string p] w fun e w'=>e = .returned (.bool (Lib.hasPrefix s.data.toList p.data.toList))∧w'=w:=Any.stringslite_HasPrefix Tryz.lays206 s p w
def Tryz.lays99_ren:Go.Shelf.Ren:=⟨fun|99=>285|206=>336|n=>n,fun|9=>9|4=>4|3=>3|n=>n,fun|n=>n⟩
theorem Tryz.lays99:Go.Proofs.Lays.n99 Tryz.prog Tryz.lays99_ren:=⟨(by kernel_rfl),ft func285,ft func336,underlying3,isAgg3,sizeOf3,zeroValue3,underlying4,isAgg4,sizeOf4,zeroValue4,underlying9,isAgg9,sizeOf9,zeroValue9⟩
open Go.RowKit Go.Lib in
theorem Tryz.strings_HasPrefix (s p:ByteArray) (w:World) :
  Calls Tryz.prog 285 #[.string s, .string p] w fun e w'=>e = .returned (.bool (Lib.hasPrefix s.data.toList p.data.toList))∧w'=w:=Any.strings_HasPrefix Tryz.lays99 s p w
def Tryz.lays207_ren:Go.Shelf.Ren:=⟨fun|207=>337|n=>n,fun|9=>9|4=>4|3=>3|n=>n,fun|n=>n⟩
theorem Tryz.lays207:Go.Proofs.Lays.n207 Tryz.prog Tryz.lays207_ren:=⟨(by kernel_rfl),ft func337,underlying3,isAgg3,sizeOf3,zeroValue3,underlying4,isAgg4,sizeOf4,zeroValue4,underlying9,isAgg9,sizeOf9,zeroValue9⟩
open Go.RowKit Go.Lib in
theorem Tryz.stringslite_HasSuffix (s p:ByteArray) (w:World) (hs:s.size≤9223372036854775807) :
  Calls Tryz.prog 337 #[.string s, .string p] w fun e w'=>e = .returned (.bool (Lib.hasSuffix s.data.toList p.data.toList))∧w'=w:=Any.stringslite_HasSuffix Tryz.lays207 s p w hs
def Tryz.lays100_ren:Go.Shelf.Ren:=⟨fun|100=>434|207=>337|n=>n,fun|9=>9|4=>4|3=>3|n=>n,fun|n=>n⟩
theorem Tryz.lays100:Go.Proofs.Lays.n100 Tryz.prog Tryz.lays100_ren:=⟨(by kernel_rfl),ft func434,ft func337,underlying3,isAgg3,sizeOf3,zeroValue3,underlying4,isAgg4,sizeOf4,zeroValue4,underlying9,isAgg9,sizeOf9,zeroValue9⟩
open Go.RowKit Go.Lib in
theorem Tryz.strings_HasSuffix (s p:ByteArray) (w:World) (hs:s.size≤9223372036854775807) :
  Calls Tryz.prog 434 #[.string s, .string p] w fun e w'=>e = .returned (.bool (Lib.hasSuffix s.data.toList p.data.toList))∧w'=w:=Any.strings_HasSuffix Tryz.lays100 s p w hs
def Tryz.lays208_ren:Go.Shelf.Ren:=⟨fun|208=>457|206=>336|n=>n,fun|9=>9|4=>4|3=>3|n=>n,fun|n=>n⟩
theorem Tryz.lays208:Go.Proofs.Lays.n208 Tryz.prog Tryz.lays208_ren:=⟨(by kernel_rfl),ft func336,ft func457,underlying3,isAgg3,sizeOf3,zeroValue3,underlying4,isAgg4,sizeOf4,zeroValue4,underlying9,isAgg9,sizeOf9,zeroValue9⟩
open Go.RowKit Go.Lib in
theorem Tryz.stringslite_TrimPrefix (s p:ByteArray) (w:World) :
  Calls Tryz.prog 457 #[.string s, .string p] w fun e w'=>e = .returned (.string ⟨(Lib.trimPrefix s.data.toList p.data.toList).toArray⟩)∧w'=w:=Any.stringslite_TrimPrefix Tryz.lays208 s p w
def Tryz.lays101_ren:Go.Shelf.Ren:=⟨fun|101=>438|208=>457|206=>336|n=>n,fun|9=>9|4=>4|3=>3|n=>n,fun|n=>n⟩
theorem Tryz.lays101:Go.Proofs.Lays.n101 Tryz.prog Tryz.lays101_ren:=⟨(by kernel_rfl),ft func438,ft func336,ft func457,underlying3,isAgg3,sizeOf3,zeroValue3,underlying4,isAgg4,sizeOf4,zeroValue4,underlying9,isAgg9,sizeOf9,zeroValue9⟩
open Go.RowKit Go.Lib in
theorem Tryz.strings_TrimPrefix (s p:ByteArray) (w:World) :
  Calls Tryz.prog 438 #[.string s, .string p] w fun e w'=>e = .returned (.string ⟨(Lib.trimPrefix s.data.toList p.data.toList).toArray⟩)∧w'=w:=Any.strings_TrimPrefix Tryz.lays101 s p w
def Tryz.lays146_ren:Go.Shelf.Ren:=⟨fun|146=>273|221=>339|268=>376|138=>377|143=>305|195=>419|197=>341|218=>420|219=>338|260=>378|217=>343|225=>283|224=>282|267=>375|266=>383|314=>418|n=>n,fun|9=>9|31=>163|3=>3|4=>4|0=>0|105=>390|21=>21|5=>5|46=>337|119=>466|139=>469|138=>468|146=>464|51=>463|n=>n,fun|1=>0|3=>1|4=>2|n=>n⟩
theorem Tryz.lays146:Go.Proofs.Lays.n146 Tryz.prog Tryz.lays146_ren:=⟨(by kernel_rfl),ft func377,ft func305,ft func273,ft func419,ft func341,ft func343,ft func420,ft func338,ft func339,ft func282,ft func283,ft func378,ft func383,ft func375,ft func376,ft func418,underlying0,isAgg0,sizeOf0,zeroValue0,underlying3,isAgg3,sizeOf3,zeroValue3,underlying4,isAgg4,sizeOf4,zeroValue4,underlying5,isAgg5,sizeOf5,zeroValue5,underlying9,isAgg9,sizeOf9,zeroValue9,underlying21,isAgg21,sizeOf21,zeroValue21,underlying163,isAgg163,sizeOf163,zeroValue163,underlying337,isAgg337,sizeOf337,zeroValue337,underlying463,isAgg463,sizeOf463,zeroValue463,underlying390,isAgg390,sizeOf390,zeroValue390,underlying466,isAgg466,sizeOf466,underlying468,isAgg468,sizeOf468,zeroValue468,underlying469,isAgg469,sizeOf469,zeroValue469,underlying464,isAgg464,sizeOf464,zeroValue464,(by kernel_rfl),(by kernel_rfl),(by kernel_rfl)⟩
open Go.RowKit Go.Lib in
theorem Tryz.strings_Split (s sep:ByteArray) (m:Int) (w:World) (hs:s.size<4294967281) (hm:w.cell? ⟨0,0,none⟩=some (.int .i64 m)) (h1:1≤sep.size) :
  Calls Tryz.prog 273 #[.string s, .string sep] w fun e w' =>
   e = .returned (.slice (some ⟨w.heap.size,0,none⟩) (Lib.countB s sep+1) (Lib.countB s sep+1))∧w'=w.alloc (.cells ((Lib.splitB sep 0 (Lib.countB s sep) s).map Value.string).toArray 9):=Any.strings_Split Tryz.lays146 (by kernel_rfl) s sep m w hs hm h1
def Tryz.lays155_ren:Go.Shelf.Ren:=⟨fun|155=>299|154=>348|138=>377|165=>189|143=>305|166=>190|197=>341|169=>191|195=>419|218=>420|240=>267|241=>268|219=>338|260=>378|276=>334|277=>335|217=>343|225=>283|224=>282|267=>375|266=>383|314=>418|n=>n,fun|9=>9|3=>3|4=>4|72=>261|0=>0|76=>264|105=>390|21=>21|5=>5|70=>259|20=>20|37=>64|75=>263|127=>330|164=>386|46=>337|119=>466|139=>469|138=>468|146=>464|51=>463|80=>73|n=>n,fun|1=>0|3=>1|4=>2|n=>n⟩
theorem Tryz.lays155:Go.Proofs.Lays.n155 Tryz.prog Tryz.lays155_ren:=⟨(by kernel_rfl),ft func377,ft func305,ft func348,ft func299,ft func189,ft func190,ft func191,ft func419,ft func341,ft func343,ft func420,ft func338,ft func282,ft func283,ft func267,ft func268,ft func378,ft func383,ft func375,ft func334,ft func335,ft func418,underlying0,isAgg0,sizeOf0,zeroValue0,underlying3,isAgg3,sizeOf3,zeroValue3,underlying4,isAgg4,sizeOf4,zeroValue4,underlying5,isAgg5,sizeOf5,zeroValue5,underlying9,isAgg9,sizeOf9,zeroValue9,underlying20,isAgg20,sizeOf20,zeroValue20,underlying21,isAgg21,sizeOf21,zeroValue21,underlying64,isAgg64,sizeOf64,zeroValue64,underlying337,isAgg337,sizeOf337,zeroValue337,underlying463,isAgg463,sizeOf463,zeroValue463,underlying259,isAgg259,sizeOf259,zeroValue259,underlying261,isAgg261,sizeOf261,zeroValue261,underlying263,isAgg263,sizeOf263,zeroValue263,underlying264,isAgg264,sizeOf264,zeroValue264,underlying390,isAgg390,sizeOf390,zeroValue390,underlying466,isAgg466,sizeOf466,underlying330,isAgg330,sizeOf330,zeroValue330,underlying468,isAgg468,sizeOf468,zeroValue468,underlying469,isAgg469,sizeOf469,zeroValue469,underlying464,isAgg464,sizeOf464,zeroValue464,underlying386,isAgg386,sizeOf386,zeroValue386,(by kernel_rfl),(by kernel_rfl),(by kernel_rfl)⟩
theorem Tryz.Builder_Extra_155:Builder.Extra Tryz.prog Tryz.lays155_ren:={ sizeBuilder:=(by kernel_rfl),liesBuilder:=(by kernel_rfl),t5:=underlying5,a5:=isAgg5,z5:=sizeOf5,v5:=zeroValue5,infoByte:=(by kernel_rfl),cellsByte:=(by kernel_rfl),sizeByte:=(by kernel_rfl),neB5:=(by decide) }
open Go.RowKit Go.Lib in
theorem Tryz.strings_ReplaceAll (s old new:ByteArray) (m:Int) (w:World) (hs:s.size<4294967281) (hm:w.cell? ⟨0,0,none⟩=some (.int .i64 m)) (h1:1≤old.size) (hlen:s.size+Lib.countB s old*new.size≤140737488355328) :
  Calls Tryz.prog 299 #[.string s, .string old, .string new] w fun e w' =>
   e = .returned (.string ⟨(Lib.replaceAll s.data.toList old.data.toList new.data.toList).toArray⟩)∧Below w.heap.size w w':=Any.strings_ReplaceAll Tryz.lays155 Tryz.Builder_Extra_155 s old new m w hs hm h1 hlen
def Tryz.lays153_ren:Go.Shelf.Ren:=⟨fun|153=>143|152=>210|226=>211|227=>212|228=>213|137=>280|119=>281|224=>282|225=>283|217=>343|266=>383|n=>n,fun|9=>9|3=>3|4=>4|5=>5|21=>21|117=>286|116=>285|0=>0|46=>337|124=>338|n=>n,fun|n=>n⟩
theorem Tryz.lays153:Go.Proofs.Lays.n153 Tryz.prog Tryz.lays153_ren:=⟨(by kernel_rfl),ft func281,ft func280,ft func210,ft func143,ft func343,ft func282,ft func283,ft func211,ft func212,ft func213,ft func383,underlying0,isAgg0,sizeOf0,zeroValue0,underlying3,isAgg3,sizeOf3,zeroValue3,underlying4,isAgg4,sizeOf4,zeroValue4,underlying5,isAgg5,sizeOf5,zeroValue5,underlying9,isAgg9,sizeOf9,zeroValue9,underlying21,isAgg21,sizeOf21,zeroValue21,underlying337,isAgg337,sizeOf337,zeroValue337,underlying285,isAgg285,sizeOf285,underlying286,isAgg286,sizeOf286,zeroValue286,underlying338,isAgg338,sizeOf338,zeroValue338⟩
open Go.RowKit Go.Lib in
theorem Tryz.strings_IndexAny (hv116:∀w,(zeroValue 285).run Tryz.prog w = .ok (.agg (Array.replicate 256 (.bool false))) w) (s chars:ByteArray) (w:World) (hs:s.size<4294967281) (hcs:chars.size<4294967281) (has:∀(j:Nat) b,s.data.toList[j]? = some b→b.toNat<128) (hac:∀(j:Nat) b,chars.data.toList[j]? = some b→b.toNat<128) :
  Calls Tryz.prog 143 #[.string s, .string chars] w fun e w'=>e = .returned (.int .i64 (Lib.indexAny s.data.toList chars.data.toList))∧Below w.heap.size w w':=Any.strings_IndexAny Tryz.lays153 hv116 (by kernel_rfl) s chars w hs hcs has hac
def Tryz.lays150_ren:Go.Shelf.Ren:=⟨fun|150=>90|153=>143|152=>210|226=>211|227=>212|228=>213|137=>280|119=>281|224=>282|225=>283|217=>343|266=>383|n=>n,fun|9=>9|4=>4|3=>3|5=>5|21=>21|117=>286|116=>285|0=>0|46=>337|124=>338|n=>n,fun|n=>n⟩
theorem Tryz.lays150:Go.Proofs.Lays.n150 Tryz.prog Tryz.lays150_ren:=⟨(by kernel_rfl),ft func281,ft func280,ft func90,ft func210,ft func143,ft func343,ft func282,ft func283,ft func211,ft func212,ft func213,ft func383,underlying0,isAgg0,sizeOf0,zeroValue0,underlying3,isAgg3,sizeOf3,zeroValue3,underlying4,isAgg4,sizeOf4,zeroValue4,underlying5,isAgg5,sizeOf5,zeroValue5,underlying9,isAgg9,sizeOf9,zeroValue9,underlying21,isAgg21,sizeOf21,zeroValue21,underlying337,isAgg337,sizeOf337,zeroValue337,underlying285,isAgg285,sizeOf285,underlying286,isAgg286,sizeOf286,zeroValue286,underlying338,isAgg338,sizeOf338,zeroValue338⟩
open Go.RowKit Go.Lib in
theorem Tryz.strings_ContainsAny (hv116:∀w,(zeroValue 285).run Tryz.prog w = .ok (.agg (Array.replicate 256 (.bool false))) w) (s chars:ByteArray) (w:World) (hs:s.size<4294967281) (hcs:chars.size<4294967281) (has:∀(j:Nat) b,s.data.toList[j]? = some b→b.toNat<128) (hac:∀(j:Nat) b,chars.data.toList[j]? = some b→b.toNat<128) :
  Calls Tryz.prog 90 #[.string s, .string chars] w fun e w'=>e = .returned (.bool (Lib.containsAny s.data.toList chars.data.toList))∧Below w.heap.size w w':=Any.strings_ContainsAny Tryz.lays150 hv116 (by kernel_rfl) s chars w hs hcs has hac
end Go.Proofs
end
section
namespace Go.Dk
open Go.RowKit Go.Dm

inductive Fr where
 | sq (y:Code)
 | ct (K:Act→World→Prop)
 | bk (id:Nat)
def QS (P:Program) (Q0:Exit→Act→World→Prop):List Fr→Exit→Act→World→Prop
 | []=>Q0
 | .sq y::fs=>Exit.then (y.wp P (QS P Q0 fs)) (QS P Q0 fs)
 | .ct K::fs=>Exit.then K (QS P Q0 fs)
 | .bk id::fs=>Exit.inBlock id (QS P Q0 fs)
inductive Cur where
 | co (c:Code)
 | op (all:Array Oper) (rest:List Oper)
 | no
 | ex (id:Nat)
 | rt
def wpU (P:Program) (Q0:Exit→Act→World→Prop):Cur→List Fr→Act→World→Prop
 | .co c,fs=>c.wp P (QS P Q0 fs)
 | .op all rest,fs=>wpList P all (QS P Q0 fs) rest
 | .no,fs=>QS P Q0 fs .normal
 | .ex id,fs=>QS P Q0 fs (.exit id)
 | .rt,fs=>QS P Q0 fs .ret

abbrev Kn:=List (Nat × Option Bool)
def lkB:Kn→Nat→Option Bool
 | [],_=>none
 | (k,v)::B,d=>bif Nat.beq k d then v else lkB B d
def zII (d:Nat) (k:Option Bool) (B:Kn):Kn :=
 match k with
 | some b=>(d,some b)::B
 | none=>match lkB B d with
  | some _=>(d,none)::B
  | none=>B
def Kns (B:Kn) (a:Act):Prop:=∀d b,lkB B d=some b→a.tmps[d]? = some (.bool b)
def kOf (B:Kn):Operand→Option Bool
 | .tmp s=>lkB B s
 | .const (.bool b)=>some b
 | _=>none
def knO (B:Kn):Op→Option Bool
 | .move x=>kOf B x
 | .assign x=>kOf B x
 | .pick c x y=>match kOf B c with
  | some true=>kOf B x
  | some false=>kOf B y
  | none=>none
 | .unOp .not _ x=>match kOf B x with
  | some true=>some false
  | some false=>some true
  | none=>none
 | _=>none

structure Tab where
 und:List (Nat × TypeDesc)
 fa:List (Nat × Nat × Nat)
 ag:List (Nat × Bool)
 sz:List (Nat × Nat)
class TabOk (P:Program) (τ:Tab):Prop where
 und:∀p∈τ.und,P.underlying p.1=some p.2
 fa:∀p∈τ.fa, ∀b o w,(Instr.fieldAt p.1 (ptr b o) p.2.1).run P w = .ok (ptr b (o+p.2.2)) w
 ag:∀p∈τ.ag,zDp P p.1=some p.2
 sz:∀p∈τ.sz,zkN P p.1=some p.2
def allP {α:Type} (Q:α→Prop):List α→Prop
 | []=>True
 | x::l=>Q x∧allP Q l
theorem zsI {α:Type} {Q:α→Prop}:∀{l:List α},allP Q l→∀x∈l,Q x
 | [],_,x,hx=>by cases hx
 | y::l,h,x,hx=>by
  rcases List.mem_cons.1 hx with rfl|hx
  ·exact h.1
  ·exact zsI h.2 x hx
def ass {α:Type}:List (Nat × α)→Nat→Option α
 | [],_=>none
 | (k,v)::l,t=>bif Nat.beq k t then some v else ass l t
def offs:List (Nat × Nat × Nat)→Nat→Nat→Option Nat
 | [],_,_=>none
 | (k,j,v)::l,t,i=>bif Nat.beq k t then bif Nat.beq j i then some v else offs l t i else offs l t i
theorem zy5 {α:Type}:∀{l:List (Nat × α)} {t:Nat} {v:α},ass l t=some v→(t,v)∈l
 | [],_,_,h=>by cases h
 | (k,u)::l,t,v,h=>by
  simp only [ass] at h
  by_cases e:Nat.beq k t=true
  ·simp only [e,cond_true,Option.some.injEq] at h
   have:k=t:=by simpa using e
   subst this; subst h;exact List.mem_cons_self ..
  ·simp only [e] at h;exact List.mem_cons_of_mem _ (zy5 h)
theorem zAl:∀{l:List (Nat × Nat × Nat)} {t i v:Nat},offs l t i=some v→(t,i,v)∈l
 | [],_,_,_,h=>by cases h
 | (k,j,u)::l,t,i,v,h=>by
  simp only [offs] at h
  by_cases e:Nat.beq k t=true
  ·by_cases e2:Nat.beq j i=true
   ·simp only [e,e2,cond_true,Option.some.injEq] at h
    have h1:k=t:=by simpa using e
    have h2:j=i:=by simpa using e2
    subst h1; subst h2; subst h;exact List.mem_cons_self ..
   ·simp only [e,e2,cond_true] at h;exact List.mem_cons_of_mem _ (zAl h)
  ·simp only [e] at h;exact List.mem_cons_of_mem _ (zAl h)
def nth {α:Type}:List α→Nat→Option α
 | [],_=>none
 | x::_,0=>some x
 | _::l,n+1=>nth l n
theorem zEr {α:Type}:∀(l:List α) (n:Nat),nth l n=l[n]?
 | [],_=>by simp [nth]
 | _::_,0=>by simp [nth]
 | _::l,n+1=>by simp [nth,zEr l n]

def cmpI (o:BinOp) (m n:Int):Option Value :=
 match o with
 | .eql=>some (.bool (m==n))
 | .neq=>some (.bool (!(m==n)))
 | .lss=>some (.bool (decide (m<n)))
 | .leq=>some (.bool (decide (m≤n)))
 | .gtr=>some (.bool (decide (n<m)))
 | .geq=>some (.bool (decide (n≤m)))
 | _=>none
def evO (τ:Tab) (E:Env) (B:Kn):Op→Option Value
 | .move x=>evl E x
 | .assign x=>evl E x
 | .pick c x y=>match kOf B c with
  | some true=>evl E x
  | some false=>evl E y
  | none=>none
 | .unOp .not _ x=>match evl E x with
  | some (.bool b)=>some (.bool (!b))
  | _=>none
 | .binOp o _ x y _=>match evl E x with
  | some (.int .i64 m)=>match evl E y with
   | some (.int .i64 n)=>cmpI o m n
   | _=>none
  | some (.string ⟨⟨l⟩⟩)=>match evl E y with
   | some (.string ⟨⟨m⟩⟩)=>match o with
    | .eql=>some (.bool (l==m))
    | .neq=>some (.bool (!(l==m)))
    | _=>none
   | _=>none
  | _=>none
 | .extract x i=>match evl E x with
  | some (.tuple ⟨l⟩)=>nth l i
  | _=>none
 | .nilCheck x=>match evl E x with
  | some (.pointer (some ad))=>some (.pointer (some ad))
  | _=>none
 | .fieldAddr t x i=>match evl E x with
  | some (.pointer (some ⟨b,o,none⟩))=>match offs τ.fa t i with
   | some f=>some (.pointer (some ⟨b,o+f,none⟩))
   | none=>none
  | _=>none
 | .call ⟨.builtin .len,⟨[x]⟩,⟨[t]⟩⟩=>match ass τ.und t with
  | some .string=>match evl E x with
   | some (.string ⟨⟨l⟩⟩)=>some (.int .i64 l.length)
   | _=>none
  | some (.slice _)=>match evl E x with
   | some (.slice _ n _)=>some (.int .i64 n)
   | _=>none
  | _=>none
 | _=>none

section
variable {P:Program} {τ:Tab} {N:Nat} {E:Env} {B:Kn} {a:Act} {w:World}

theorem zi2 (hB:Kns B a) {x:Operand} {b:Bool} (h:kOf B x=some b):a.eval x = .bool b:=by
 cases x with
 | tmp s=>have:=hB s b h; simp [Act.eval,Array.getD_eq_getD_getElem?,this]
 | const c =>
  cases c<;>first|(simp [kOf] at h; done)|skip
  simp only [kOf,Option.some.injEq] at h;subst h; rfl
 | global g=>simp [kOf] at h
 | func f=>simp [kOf] at h

theorem evO_ok [hτ:TabOk P τ] {o:Oper} {v:Value} (hf:Fits N E a) (hB:Kns B a) (h:evO τ E B o.op=some v) :
  (execOp a.eval o).run P w = .ok (.value v) w∧∀b,knO B o.op=some b→v = .bool b:=by
 obtain ⟨dst,op,t,p,af,gd⟩:=o;dsimp only at h ⊢;unfold evO at h
 split at h
 ·exact ⟨zyX hf h,fun b hb=>(hf.ev h).symm.trans (zi2 hB hb)⟩
 ·exact ⟨zpc hf h,fun b hb=>(hf.ev h).symm.trans (zi2 hB hb)⟩
 ·rename_i c x y
  split at h
  ·rename_i hc
   refine ⟨?_,fun b hb=>?_⟩
   ·simp only [execOp]; rw [zi2 hB hc,hf.ev h]; simp [asBool]
   ·simp only [knO,hc] at hb; exact (hf.ev h).symm.trans (zi2 hB hb)
  ·rename_i hc
   refine ⟨?_,fun b hb=>?_⟩
   ·simp only [execOp]; rw [zi2 hB hc,hf.ev h]; simp [asBool]
   ·simp only [knO,hc] at hb; exact (hf.ev h).symm.trans (zi2 hB hb)
  ·cases h
 ·rename_i ti x
  split at h
  ·rename_i b hx
   obtain rfl:=Option.some.inj h;refine ⟨zHO hf hx,fun b' hb=>?_⟩;simp only [knO] at hb
   split at hb
   ·rename_i hk
    have:=(hf.ev hx).symm.trans (zi2 hB hk);cases this; cases hb; rfl
   ·rename_i hk
    have:=(hf.ev hx).symm.trans (zi2 hB hk);cases this; cases hb; rfl
   ·cases hb
  ·cases h
 ·rename_i bo ti x y ty
  refine ⟨?_,fun b hb=>by simp [knO] at hb⟩
  split at h
  ·rename_i m hx
   split at h
   ·rename_i n hy
    cases bo<;>first|(cases h; done)|skip
    ·obtain rfl:=Option.some.inj h; exact zLY hf hx hy
    ·obtain rfl:=Option.some.inj h; exact zHP hf hx hy
    ·obtain rfl:=Option.some.inj h; exact zLZ hf hx hy
    ·obtain rfl:=Option.some.inj h; exact zL1 hf hx hy
    ·obtain rfl:=Option.some.inj h; exact zL2 hf hx hy
    ·obtain rfl:=Option.some.inj h; exact zL3 hf hx hy
   ·cases h
  ·rename_i l hx
   split at h
   ·rename_i m hy
    split at h
    ·obtain rfl:=Option.some.inj h; exact zFT hf hx hy
    ·obtain rfl:=Option.some.inj h; exact zFU hf hx hy
    ·cases h
   ·cases h
  ·cases h
 ·rename_i x i
  refine ⟨?_,fun b hb=>by simp [knO] at hb⟩
  split at h
  ·rename_i l hx
   exact zur hf hx (by rw [zEr] at h; simpa using h)
  ·cases h
 ·refine ⟨?_,fun b hb=>by simp [knO] at hb⟩
  split at h
  ·rename_i ad hx
   obtain rfl:=Option.some.inj h;exact zr1 hf hx
  ·cases h
 ·refine ⟨?_,fun b hb=>by simp [knO] at hb⟩
  split at h
  ·rename_i b o hx
   split at h
   ·rename_i f ho
    obtain rfl:=Option.some.inj h;exact zMB (fun b o w=>hτ.fa _ (zAl ho) b o w) hf hx
   ·cases h
  ·cases h
 ·refine ⟨?_,fun b hb=>by simp [knO] at hb⟩
  split at h
  ·rename_i ht
   split at h
   ·rename_i l hx
    obtain rfl:=Option.some.inj h;exact zFV (hτ.und _ (zy5 ht)) hf hx
   ·cases h
  ·rename_i e ht
   split at h
   ·rename_i n c hx
    obtain rfl:=Option.some.inj h;exact zpe (hτ.und _ (zy5 ht)) hf hx
   ·cases h
  ·cases h
 ·cases h

def gd (all:Array Oper) (E:Env) (B:Kn):Option (Nat × Bool)→Option Bool
 | none=>some true
 | some (j,b)=>match nth all.toList j with
  | some ⟨some s,_,_,_,_,_⟩=>match lkB B s with
   | some b'=>some (b'==b)
   | none=>match look E s with
    | some (.tuple ⟨[]⟩)=>some false
    | _=>none
  | _=>none
theorem zNM {all:Array Oper} {o:Oper} {m:Bool} (hf:Fits N E a) (hB:Kns B a) (h:gd all E B o.guard=some m):Region.wanted o (yielded all a.tmps)=m:=by
 unfold gd at h
 split at h
 ·rename_i hg
  obtain rfl:=Option.some.inj h;simp [Region.wanted,hg]
 ·rename_i j b hg
  split at h
  ·rename_i s _ _ _ _ _ hs
   rw [zEr] at hs
   have hs':(all[j]?).bind (·.dst)=some s:=by rw [← Array.getElem?_toList,hs]; rfl
   split at h
   ·rename_i b' hb'
    obtain rfl:=Option.some.inj h
    have hy:yielded all a.tmps j=some b':=by simp [yielded,hs',hB s _ hb']
    cases b<;>cases b'<;>simp [Region.wanted,hg,hy]
   ·split at h
    ·rename_i hu
     obtain rfl:=Option.some.inj h
     have hy:yielded all a.tmps j=none:=by simp [yielded,hs',hf.has s _ hu]
     simp [Region.wanted,hg,hy]
    ·cases h
  ·cases h

abbrev Cfg:=Cur × List Fr × Env × Kn
def zIJ (τ:Tab) (N:Nat) (all:Array Oper) (o:Oper) (rest:List Oper) (fs:List Fr) (E:Env) (B:Kn):Option Cfg :=
 match gd all E B o.guard with
 | some true=>match evO τ E B o.op with
  | some v=>match o.dst with
   | some d=>match Nat.blt d N with
    | true=>match zII d (knO B o.op) B with
     | []=>some (.op all rest,fs,(d,v)::E,[])
     | k::B'=>some (.op all rest,fs,(d,v)::E,k::B')
    | false=>none
   | none=>some (.op all rest,fs,E,B)
  | none=>none
 | some false=>match o.dst with
  | some d=>match Nat.blt d N with
   | true=>match zII d none B with
    | []=>some (.op all rest,fs,(d,undef)::E,[])
    | k::B'=>some (.op all rest,fs,(d,undef)::E,k::B')
   | false=>none
  | none=>some (.op all rest,fs,E,B)
 | none=>none
def step (τ:Tab) (N:Nat) (E:Env) (B:Kn):Cur→List Fr→Option Cfg
 | .co .skip,fs=>some (.no,fs,E,B)
 | .co (.seq x y),fs=>some (.co x, .sq y::fs,E,B)
 | .co (.region _ ops false),fs=>some (.op ops ops.toList,fs,E,B)
 | .co (.cond c x y),fs=>match kOf B c with
  | some true=>some (.co x,fs,E,B)
  | some false=>some (.co y,fs,E,B)
  | none=>none
 | .co (.block id c),fs=>some (.co c, .bk id::fs,E,B)
 | .co (.exit id),fs=>some (.ex id,fs,E,B)
 | .co .ret,fs=>some (.rt,fs,E,B)
 | .no, .sq y::fs=>some (.co y,fs,E,B)
 | .no, .bk _::fs=>some (.no,fs,E,B)
 | .ex id, .sq _::fs=>some (.ex id,fs,E,B)
 | .ex id, .ct _::fs=>some (.ex id,fs,E,B)
 | .ex id, .bk i::fs=>match Nat.beq id i with
  | true=>some (.no,fs,E,B)
  | false=>some (.ex id,fs,E,B)
 | .rt,_::fs=>some (.rt,fs,E,B)
 | .op _ [],fs=>some (.no,fs,E,B)
 | .op all (o::rest),fs=>zIJ τ N all o rest fs E B
 | _,_=>none
def zxR (τ:Tab) (N:Nat):Nat→Cur→List Fr→Env→Kn→Cfg
 | 0,c,fs,E,B=>(c,fs,E,B)
 | n+1,c,fs,E,B=>match step τ N E B c fs with
  | some (c',fs',E',B')=>zxR τ N n c' fs' E' B'
  | none=>(c,fs,E,B)

variable {Q0:Exit→Act→World→Prop}

theorem zNN {d:Nat} {k:Option Bool} {d':Nat} {b:Bool} (h:lkB (zII d k B) d'=some b):(d=d'∧k=some b)∨(d≠d'∧lkB B d'=some b):=by
 unfold zII at h
 by_cases e:d=d'
 ·subst e
  left
  split at h
  ·simp [lkB] at h; exact ⟨rfl,by rw [h]⟩
  ·split at h
   ·simp [lkB] at h
   ·rename_i hn; rw [hn] at h; cases h
 ·right
  refine ⟨e,?_⟩;have hb:Nat.beq d d'=false:=zbL.2 e
  split at h
  ·simpa [lkB,hb] using h
  ·split at h
   ·simpa [lkB,hb] using h
   ·exact h
theorem Kns.put (hf:Fits N E a) (hB:Kns B a) {d:Nat} (hd:Nat.blt d N=true) {v:Value} {k:Option Bool} (hk:∀b,k=some b→v = .bool b):Kns (zII d k B) (a.put (some d) v):=by
 intro d' b h
 have hd':d<a.tmps.size:=by rw [hf.size]; simpa [Nat.blt_eq] using hd
 rcases zNN h with ⟨rfl,hkb⟩|⟨hne,hb⟩
 ·simp [Act.put,hd',hk b hkb]
 ·simp [Act.put,hne,hB d' b hb]
theorem Kns.nil:Kns [] a:=fun _ _ h=>by cases h

theorem zJ9 {Q:Exit→Act→World→Prop} {all:Array Oper} {rest:List Oper} {o:Oper} {v:Value} (hg:Region.wanted o (yielded all a.tmps)=true) (hx:(execOp a.eval o).run P w = .ok (.value v) w)
  (hk:wpList P all Q rest (a.put o.dst v) w):wpList P all Q (o::rest) a w:=by
 unfold wpList;rw [if_pos hg]
 left
 unfold Oper.wp;rw [hx];exact hk
theorem zNO {Q:Exit→Act→World→Prop} {all:Array Oper} {rest:List Oper} {o:Oper} (hg:Region.wanted o (yielded all a.tmps)=false)
  (hk:wpList P all Q rest (a.put o.dst undef) w):wpList P all Q (o::rest) a w:=by
 unfold wpList;rw [if_neg (by simp [hg])];exact hk
theorem zPA {Q:Exit→Act→World→Prop} {all:Array Oper} {rest:List Oper} {dst:Option Nat} {op:Op} {t:Nat} {p:String} {af:Array Edge} {g:Option (Nat × Bool)}
  (hg:Region.wanted ⟨dst,op,t,p,af,g⟩ (yielded all a.tmps)=true) (hk:wpList P all Q (⟨dst,op,t,p,af,none⟩::rest) a w):wpList P all Q (⟨dst,op,t,p,af,g⟩::rest) a w:=by
 unfold wpList at hk ⊢;rw [if_pos hg];rw [if_pos (by simp [Region.wanted])] at hk;exact hk

theorem zKZ [TabOk P τ] {all:Array Oper} {o:Oper} {rest:List Oper} {fs:List Fr} {c:Cfg} (h:zIJ τ N all o rest fs E B=some c) (hf:Fits N E a) (hB:Kns B a)
  (k:∀a,Fits N c.2.2.1 a→Kns c.2.2.2 a→wpU P Q0 c.1 c.2.1 a w):wpU P Q0 (.op all (o::rest)) fs a w:=by
 unfold zIJ at h
 split at h
 ·rename_i hg
  have hw:=zNM hf hB hg
  split at h
  ·rename_i v hv
   obtain ⟨hx,hkn⟩:=evO_ok (P:=P) (w:=w) hf hB hv
   split at h
   ·rename_i d hd
    split at h
    ·rename_i hN
     have hs:=Kns.put hf hB hN (v:=v) hkn;refine zJ9 hw hx ?_;rw [hd]
     split at h<;>(obtain rfl:=Option.some.inj h; rename_i e; rw [e] at hs; exact k _ (hf.put hN _) hs)
    ·cases h
   ·rename_i hd
    obtain rfl:=Option.some.inj h;refine zJ9 hw hx ?_;rw [hd];exact k _ hf hB
  ·cases h
 ·rename_i hg
  have hw:=zNM hf hB hg;refine zNO hw ?_
  split at h
  ·rename_i d hd
   split at h
   ·rename_i hN
    have hs:=Kns.put hf hB hN (v:=undef) (k:=none) (fun b h=>by cases h);rw [hd]
    split at h<;>(obtain rfl:=Option.some.inj h; rename_i e; rw [e] at hs; exact k _ (hf.put hN _) hs)
   ·cases h
  ·rename_i hd
   obtain rfl:=Option.some.inj h;rw [hd];exact k _ hf hB
 ·cases h
theorem zPB [TabOk P τ] {cu:Cur} {fs:List Fr} {c:Cfg} (h:step τ N E B cu fs=some c) (hf:Fits N E a) (hB:Kns B a)
  (k:∀a,Fits N c.2.2.1 a→Kns c.2.2.2 a→wpU P Q0 c.1 c.2.1 a w):wpU P Q0 cu fs a w:=by
 unfold step at h
 split at h
 ·obtain rfl:=Option.some.inj h; exact wp_skip (k a hf hB)
 ·obtain rfl:=Option.some.inj h; exact wp_seq (k a hf hB)
 ·obtain rfl:=Option.some.inj h; exact wp_region_list (k a hf hB)
 ·split at h
  ·rename_i hc; obtain rfl:=Option.some.inj h; exact wp_cond_true (zi2 hB hc) (k a hf hB)
  ·rename_i hc; obtain rfl:=Option.some.inj h; exact wp_cond_false (zi2 hB hc) (k a hf hB)
  ·cases h
 ·obtain rfl:=Option.some.inj h; exact wp_block (k a hf hB)
 ·obtain rfl:=Option.some.inj h; exact wp_exit (k a hf hB)
 ·obtain rfl:=Option.some.inj h; exact wp_ret (k a hf hB)
 ·obtain rfl:=Option.some.inj h; exact k a hf hB
 ·obtain rfl:=Option.some.inj h; exact k a hf hB
 ·obtain rfl:=Option.some.inj h; exact k a hf hB
 ·obtain rfl:=Option.some.inj h; exact k a hf hB
 ·rename_i id i fs
  split at h
  ·rename_i e
   obtain rfl:=Option.some.inj h
   have e':id=i:=by simpa using e
   subst e';exact zwG (k a hf hB)
  ·rename_i e
   obtain rfl:=Option.some.inj h;exact zwH e (k a hf hB)
 ·rename_i f fs
  obtain rfl:=Option.some.inj h
  cases f with
  | sq y=>exact k a hf hB
  | ct K=>exact k a hf hB
  | bk id=>exact k a hf hB
 ·obtain rfl:=Option.some.inj h; exact k a hf hB
 ·exact zKZ h hf hB k
 ·cases h
theorem zsJ [TabOk P τ]:∀{n:Nat} {c c':Cur} {fs fs':List Fr} {E E':Env} {B B':Kn} {a:Act},zxR τ N n c fs E B=(c',fs',E',B')→Fits N E a→Kns B a →
  (∀a,Fits N E' a→Kns B' a→wpU P Q0 c' fs' a w)→wpU P Q0 c fs a w
 | 0,c,c',fs,fs',E,E',B,B',a,h,hf,hB,k=>by cases h; exact k a hf hB
 | n+1,c,c',fs,fs',E,E',B,B',a,h,hf,hB,k=>by
  unfold zxR at h
  split at h
  ·rename_i h1
   exact zPB h1 hf hB fun a hf hB=>zsJ h hf hB k
  ·cases h; exact k a hf hB
end

def S (P:Program) (τ:Tab) (N:Nat) {ρ:Type} (R:ρ) (Q0:Exit→Act→World→Prop) (w0:World) (F:List Nat) (c:Cur) (fs:List Fr) (E:Env) (B:Kn) (L:List Res) (M:Option ρ):Prop :=
 ∀a w,Fits N E a→Kns B a→Own w0 F w L→M=some R→wpU P Q0 c fs a w
def far:Nat:=100000000

section
variable {P:Program} {τ:Tab} {N:Nat} {Q0:Exit→Act→World→Prop} {w0:World} {F:List Nat} {ρ α:Type} {R:ρ} {c c':Cur} {fs fs':List Fr} {E E':Env} {B B':Kn} {L:List Res} {M:Option ρ}
variable {all:Array Oper} {rest:List Oper} {d:Nat} {o:Oper}

theorem S.at [TabOk P τ] (h:zxR τ N far c fs E B=(c',fs',E',B')) (k:S P τ N R Q0 w0 F c' fs' E' B' L M):S P τ N R Q0 w0 F c fs E B L M :=
 fun _ w hf hB hO hm=>zsJ h hf hB fun a hf hB=>k a w hf hB hO hm
theorem S.enter (τ:Tab) {f:FuncId} {fn:Func} {co:Code} {vs:List Value} {Rp:Ending→World→Prop}
  (hf:P.funcs[f]? = some fn) (hb:fn.body=some co) (hN:fn.ntmps=N) (hv:Nat.ble vs.length N=true)
  (h:S P τ N R (bodyPost P fn Rp) w0 F (.co co) [] (params 0 vs) [] L M) (hO:Own w0 F w0 L) (hm:M=some R):Calls P f vs.toArray w0 Rp :=
 zxB hf hb hN hv fun a hf=>h a w0 hf Kns.nil hO hm
theorem S.op (τ:Tab) {a:Act} {w:World} (h:S P τ N R Q0 w0 F (.op all rest) fs E [] L M) (hf:Fits N E a) (hO:Own w0 F w L) (hm:M=some R):wpList P all (QS P Q0 fs) rest a w:=h a w hf Kns.nil hO hm
theorem S.co (τ:Tab) {a:Act} {w:World} {co:Code} (h:S P τ N R Q0 w0 F (.co co) fs E [] L M) (hf:Fits N E a) (hO:Own w0 F w L) (hm:M=some R):co.wp P (QS P Q0 fs) a w:=h a w hf Kns.nil hO hm
theorem S.no (τ:Tab) {a:Act} {w:World} (h:S P τ N R Q0 w0 F .no fs E [] L M) (hf:Fits N E a) (hO:Own w0 F w L) (hm:M=some R):QS P Q0 fs .normal a w:=h a w hf Kns.nil hO hm

def nxO (τ:Tab) (N:Nat) (c:Cur) (fs:List Fr) (E:Env) (B:Kn):Option (Array Oper × Oper × List Oper × List Fr × Env × Kn) :=
 match zxR τ N far c fs E B with
 | (.op all (o::rest),fs,E,B)=>match gd all E B o.guard with
  | some true=>match o with
   | ⟨dst,op,t,p,af,_⟩=>some (all,⟨dst,op,t,p,af,none⟩,rest,fs,E,B)
  | _=>none
 | _=>none
theorem zNP [TabOk P τ] {a:Act} {w:World} (h:nxO τ N c fs E B=some (all,o,rest,fs',E',B')) (hf:Fits N E a) (hB:Kns B a)
  (k:∀a,Fits N E' a→Kns B' a→wpList P all (QS P Q0 fs') (o::rest) a w):wpU P Q0 c fs a w:=by
 unfold nxO at h
 split at h
 ·rename_i hd
  split at h
  ·rename_i hg
   obtain ⟨dst,op,t,p,af,g⟩ := ‹Oper›;cases h;exact zsJ hd hf hB fun a hf hB=>zPA (zNM hf hB hg) (k a hf hB)
  ·cases h
 ·cases h
def one1:Value→Bool
 | .agg _=>false
 | .tuple _=>false
 | _=>true
def zyy (cs vs:List Value):Nat→Option (List Value)
 | 0=>over cs vs
 | o+1=>match cs with
  | []=>none
  | c::cs=>match zyy cs vs o with
   | some r=>some (c::r)
   | none=>none
where over:List Value→List Value→Option (List Value)
 | cs,[]=>some cs
 | _::cs,v::vs=>match over cs vs with
  | some r=>some (v::r)
  | none=>none
 | [],_::_=>none
theorem zKa:∀{vs cs r:List Value},zyy.over cs vs=some r→r=vs++cs.drop vs.length∧vs.length≤cs.length
 | [],cs,r,h=>by
  unfold zyy.over at h;cases h; simp
 | v::vs,[],r,h=>by unfold zyy.over at h; cases h
 | v::vs,c::cs,r,h=>by
  unfold zyy.over at h
  split at h
  ·rename_i r' hr
   cases h;obtain ⟨h1,h2⟩:=zKa hr;subst h1;simp [h2]
  ·cases h
theorem zKb:∀{o:Nat} {cs vs r:List Value},zyy cs vs o=some r→r=cs.take o++vs++cs.drop (o+vs.length)∧o+vs.length≤cs.length
 | 0,cs,vs,r,h=>by
  unfold zyy at h;obtain ⟨h1,h2⟩:=zKa h;simp [h1,h2]
 | o+1,[],vs,r,h=>by unfold zyy at h; cases h
 | o+1,c::cs,vs,r,h=>by
  cases hr:zyy cs vs o with
  | none=>rw [zyy,hr] at h; cases h
  | some r' =>
   rw [zyy,hr] at h;cases h;obtain ⟨h1,h2⟩:=zKb hr;subst h1;refine ⟨?_,by simp only [List.length_cons]; omega⟩;rw [show o+1+vs.length=(o+vs.length)+1 by omega,List.take_succ_cons,List.drop_succ_cons];rfl
theorem zPC {cs:List Value} {o:Nat} {v:Value} (h:o<cs.length):cs.take o++[v]++cs.drop (o+[v].length)=cs.set o v:=by
 rw [List.set_eq_take_append_cons_drop,if_pos h]; simp
def setR:List Res→Nat→Res→Option (List Res)
 | [],_,_=>none
 | _::L,0,r=>some (r::L)
 | x::L,i+1,r=>match setR L i r with
  | some l=>some (x::l)
  | none=>none
theorem zKc {r:Res}:∀{L l:List Res} {i:Nat},setR L i r=some l→l=L.set i r
 | [],_,_,h=>by cases h
 | _::_,_,0,h=>by cases h; rfl
 | x::L,l,i+1,h=>by
  unfold setR at h
  split at h
  ·rename_i l' hl
   cases h;rw [List.set_cons_succ, ← zKc hl]
  ·cases h
theorem zPE {v:Value} (h:one1 v=true):v.oneCell'=true∧v.cells = #[v]:=by
 cases v<;>first|exact ⟨rfl,rfl⟩|cases h
def cvs:Value→Option (Bool × List Value)
 | .agg ⟨l⟩=>match l.all one1 with
  | true=>some (true,l)
  | false=>none
 | .tuple _=>none
 | v=>some (false,[v])
def nxS (τ:Tab) (N:Nat) (i:Nat) (L:List Res) (c:Cur) (fs:List Fr) (E:Env) (B:Kn):Option (Array Oper × List Oper × List Fr × Env × Kn × Nat × Nat × List Res) :=
 match nxO τ N c fs E B with
 | some (all,⟨none, .store t x y,_,_,_,none⟩,rest,fs,E,B)=>match evl E x with
  | some (.pointer (some ⟨b,o,none⟩))=>match evl E y with
   | some v=>match nth L i with
    | some (.blk b' cs ty)=>match cvs v with
     | some (_,vs)=>match ass τ.sz t with
      | some n=>match Nat.beq n vs.length with
       | true=>match zyy cs vs o with
        | some cs'=>match setR L i (.blk b' cs' ty) with
         | some L'=>some (all,rest,fs,E,B,b,b',L')
         | none=>none
        | none=>none
       | false=>none
      | none=>none
     | none=>none
    | _=>none
   | none=>none
  | _=>none
 | _=>none
theorem st [hτ:TabOk P τ] (i:Nat) {b b':Nat} {L':List Res} (h:nxS τ N i L c fs E B=some (all,rest,fs',E',B',b,b',L')) (hb:b'=b)
  (k:S P τ N R Q0 w0 F (.op all rest) fs' E' B' L' M):S P τ N R Q0 w0 F c fs E B L M:=by
 intro a w hf hB hO hm;subst hb;unfold nxS at h
 split at h
 ·rename_i h0
  split at h
  ·rename_i b1 o hx
   split at h
   ·rename_i v hv
    split at h
    ·rename_i b2 cs ty hi
     rw [zEr] at hi
     split at h
     ·rename_i g vs hvs
      split at h
      ·rename_i n hn
       split at h
       ·rename_i hnl
        split at h
        ·rename_i cs' hp
         split at h
         ·rename_i L1 hL
          cases h;obtain ⟨p1,p2⟩:=zKb hp
          have hnl':n=vs.length:=by simpa using hnl
          refine zNP h0 hf hB fun a hf hB=>?_;have hk:∀w,Own w0 F w (L.set i (.blk b' cs' ty))→wpList P all (QS P Q0 fs') rest a w:=fun w hO'=>k a w hf hB (by rw [zKc hL]; exact hO') hm;have hst:=hτ.sz _ (zy5 hn)
          cases v with
          | agg l =>
           obtain ⟨l⟩:=l
           cases ha:l.all one1 with
           | false=>rw [cvs,ha] at hvs; cases hvs
           | true =>
            rw [cvs,ha] at hvs;cases hvs;exact zKy (n:=n) hst hi (by omega) (by simpa [hnl'] using p2) (fun v hv=>(zPE (List.all_eq_true.1 ha v hv)).1) p1 hf hx hv hO hk
          | tuple l=>cases hvs
          | _ =>
           cases hvs;have hn1:n=1:=hnl';subst hn1
           have ho:o<cs.length:=by simp only [List.length_cons,List.length_nil] at p2; omega
           refine zKx (o:=o) hst hi (by simpa [Nat.blt_eq] using ho) rfl rfl hf hx hv hO fun w hO'=>hk w ?_;rw [p1,zPC ho];exact hO'
         ·cases h
        ·cases h
       ·cases h
      ·cases h
     ·cases h
    ·cases h
   ·cases h
  ·cases h
 ·cases h
abbrev Ret {ρ:Type} (w0:World) (V:ρ→Value) (R:ρ):Ending→World→Prop:=fun e w'=>e = .returned (V R)∧Below w0.heap.size w0 w'
def nxC (τ:Tab) (N:Nat) (c:Cur) (fs:List Fr) (E:Env) (B:Kn):Option (Array Oper × List Oper × List Fr × Env × Kn × Nat × Nat × List Value) :=
 match nxO τ N c fs E B with
 | some (all,⟨some d, .call ⟨.value (.func f),⟨xs⟩,_⟩,_,_,_,none⟩,rest,fs,E,B)=>match Nat.blt d N with
  | true=>match zBa E xs with
   | some vs=>match zII d none B with
    | []=>some (all,rest,fs,E,[],d,f,vs)
    | k::B'=>some (all,rest,fs,E,k::B',d,f,vs)
   | none=>none
  | false=>none
 | _=>none
theorem zK0 {Q:Exit→Act→World→Prop} {a:Act} {w:World} {f t:Nat} {p:String} {af:Array Edge} {xs:List Operand} {ats:Array TypeId} {vs:List Value} {K:Ending→World→Prop} (hc:zcD P f) (hf:Fits N E a) (hB:Kns B a) (hd:Nat.blt d N=true) (hv:zBa E xs=some vs)
  (hw:Calls P f vs.toArray w K) (k:∀e w',K e w'→∃v,e = .returned v∧∀a,Fits N ((d,v)::E) a→Kns (zII d none B) a→wpList P all Q rest a w') :
  wpList P all Q (⟨some d, .call ⟨.value (.func f),⟨xs⟩,ats⟩,t,p,af,none⟩::rest) a w:=by
 have hx:=zOK (w:=w) (dst:=some d) (t:=t) (p:=p) (af:=af) (gd:=none) (ats:=ats) hc hf (args:=⟨xs⟩) hv;unfold wpList;rw [if_pos (by simp [Region.wanted])]
 left
 unfold Oper.wp;rw [hx,Oper.upon_enter];refine hw.mono fun e w' he=>?_;obtain ⟨v,rfl,hk⟩:=k e w' he;exact hk _ (hf.put hd _) (Kns.put hf hB hd fun b h=>by cases h)
theorem nxC_ok [TabOk P τ] {a:Act} {w:World} {f:Nat} {vs:List Value} {K:Ending→World→Prop} (hc:zcD P f) (h:nxC τ N c fs E B=some (all,rest,fs',E',B',d,f,vs)) (hf:Fits N E a) (hB:Kns B a)
  (hw:Calls P f vs.toArray w K) (k:∀e w',K e w'→∃v,e = .returned v∧∀a,Fits N ((d,v)::E') a→Kns B' a→wpList P all (QS P Q0 fs') rest a w'):wpU P Q0 c fs a w:=by
 unfold nxC at h
 split at h
 ·rename_i h0
  split at h
  ·rename_i hN
   split at h
   ·rename_i p hp
    refine zNP h0 hf hB fun a hf hB=>?_;have hs:=fun v=>Kns.put hf hB hN (v:=v) (k:=none) (fun b h=>by cases h)
    split at h<;>(rename_i e; cases h; refine zK0 hc hf hB hN hp hw fun e1 w' he=>?_; rw [e]; exact k e1 w' he)
   ·cases h
  ·cases h
 ·cases h
theorem cl [TabOk P τ] {f:Nat} {vs:List Value} {m:Option α} {g:α→Option ρ} {enc:α→Value} (hc:zcD P f) (h:nxC τ N c fs E B=some (all,rest,fs',E',B',d,f,vs))
  (hw:∀x w,m=some x→Own w0 F w L→Calls P f vs.toArray w (Ret w enc x))
  (k:∀x,m=some x→S P τ N R Q0 w0 F (.op all rest) fs' ((d,enc x)::E') B' L (g x)):S P τ N R Q0 w0 F c fs E B L (m.bind g):=by
 intro a w hf hB hO hm;obtain ⟨x,hx,hm⟩:=ob hm;exact nxC_ok hc h hf hB (hw x w hx hO) fun e w' ⟨he,hb⟩=>⟨_,he,fun a hf hB=>k x hx a w' hf hB (hO.grow hb) hm⟩

def keys:Env→List Nat
 | []=>[]
 | (k,_)::E=>k::keys E
def zsK (E:Env):List Nat→Option Env
 | []=>some []
 | k::ks=>match look E k with
  | some v=>match zsK E ks with
   | some l=>some ((k,v)::l)
   | none=>none
  | none=>none
theorem Fits.vals {a:Act} (hf:Fits N E a):∀{ks:List Nat} {E':Env},zsK E ks=some E'→Fits N E' a
 | [],E',h=>by cases h; exact hf.nil
 | k::ks,E',h=>by
  unfold zsK at h
  split at h
  ·rename_i v hv
   split at h
   ·rename_i l hl
    cases h;exact hf.cons hv (hf.vals hl)
   ·cases h
  ·cases h
theorem Fits.sel {a:Act} (hf:Fits N E a) (h:zsK E (keys E')=some E'):Fits N E' a:=hf.vals h
theorem eo [TabOk P τ] {K:Act→World→Prop} (h:zxR τ N far c fs E B=(.no, .ct K::fs',E',B'))
  (k:∀a w,Fits N E' a→Own w0 F w L→M=some R→K a w):S P τ N R Q0 w0 F c fs E B L M :=
 fun _ w hf hB hO hm=>zsJ h hf hB fun a hf _=>k a w hf hO hm
abbrev Jp (N:Nat) (w0:World) (F:List Nat) {ρ:Type} (R:ρ) (a:Act) (w:World) (E:Env) (L:List Res) (M:Option ρ):Prop:=Fits N E a∧Own w0 F w L∧M=some R
def pickO (L:List Res):List Nat→Option (List Res)
 | []=>some []
 | i::is=>match nth L i with
  | some r=>match pickO L is with
   | some l=>some (r::l)
   | none=>none
  | none=>none
theorem en [TabOk P τ] {K:Act→World→Prop} (h:zxR τ N far c fs E B=(.no, .ct K::fs',E',B'))
  (k:∀a w,(∀{E2},zsK E' (keys E2)=some E2→Jp N w0 F R a w E2 L M)→K a w):S P τ N R Q0 w0 F c fs E B L M :=
 eo h fun a w hf hO hm=>k a w fun h=>⟨hf.sel h,hO,hm⟩
def nxW (τ:Tab) (N:Nat) (ks is:List Nat) (L:List Res) (c:Cur) (fs:List Fr) (E:Env) (B:Kn):Option (Code × List Fr × Env × Kn × Env × List Res) :=
 match zxR τ N far c fs E B with
 | (.co (.loop co),fs,E,B)=>match zsK E ks with
  | some Ek=>match pickO L is with
   | some Lk=>some (co,fs,E,B,Ek,Lk)
   | none=>none
  | none=>none
 | _=>none
theorem lv [TabOk P τ] (ks is:List Nat) (I:(Env→List Res→Option ρ→Prop)→Env→List Res→Nat→Prop) {co:Code} {Ek:Env} {Lk:List Res}
  (h:nxW τ N ks is L c fs E B=some (co,fs',E',B',Ek,Lk))
  (h0:∀a w,(∀{E2},zsK E' (keys E2)=some E2→Jp N w0 F R a w E2 L M)→I (Jp N w0 F R a w) Ek Lk fuel)
  (k:∀n a w,I (Jp N w0 F R a w) Ek Lk n→co.wp P (QS P Q0 (.ct (fun a w=>∃m,m<n∧I (Jp N w0 F R a w) Ek Lk m)::fs')) a w):S P τ N R Q0 w0 F c fs E B L M:=by
 intro a w hf hB hO hm;unfold nxW at h
 split at h
 ·rename_i hd
  split at h
  ·split at h
   ·cases h;exact zsJ hd hf hB fun a hf _=>zCE (fun n a w=>I (Jp N w0 F R a w) Ek Lk n) (fun n a w hI=>k n a w hI) fuel (h0 a w fun h=>⟨hf.sel h,hO,hm⟩)
   ·cases h
  ·cases h
 ·cases h
end
end Go.Dk
end
section
namespace Go.Dk
open Go.RowKit Go.Dm
section
variable {P:Program} {τ:Tab} {N:Nat} {Q0:Exit→Act→World→Prop} {w0:World} {F:List Nat} {ρ α:Type} {R:ρ} {c:Cur} {fs fs':List Fr} {E E':Env} {B B':Kn} {L:List Res} {all:Array Oper} {rest:List Oper} {d f:Nat} {vs:List Value} {m:Option α} {g:α→Option ρ}
def part (n:Nat) (L:List Res) (is:List Nat):List Res × List Res:=((pick L is).take n,(pick L is).drop n)
theorem Own.part {w:World} (h:Own w0 F w L) (is:List Nat) (n:Nat) (hd:zst is=true):Own w0 F w ((Dk.part n L is).1++(Dk.part n L is).2):=by
 unfold Dk.part;rw [List.take_append_drop];exact h.choose is hd
theorem lw [TabOk P τ] {M:Option ρ} (ks is:List Nat) (I:(Env→List Res→Option ρ→Prop)→Env→List Res→Nat→Prop) {co:Code} {Ek:Env} {Lk:List Res}
  (h:nxW τ N ks is L c fs E B=some (co,fs',E',B',Ek,Lk))
  (k:∀n a w,I (Jp N w0 F R a w) Ek Lk n→co.wp P (QS P Q0 (.ct (fun a w=>∃m,m<n∧I (Jp N w0 F R a w) Ek Lk m)::fs')) a w)
  (h0:∀a w,(∀{E2 L' M'},M=M'→L=L'→zsK E' (keys E2)=some E2→Jp N w0 F R a w E2 L' M')→I (Jp N w0 F R a w) Ek Lk fuel:=by intro _ _ j; (repeat apply Exists.intro); exact j rfl rfl rfl):S P τ N R Q0 w0 F c fs E B L M :=
 lv ks is I h (fun a w j=>h0 a w fun e1 e2 e3=>by rw [← e1, ← e2]; exact j e3) k
end
end Go.Dk
end
section
namespace Go.Dk
open Go.RowKit Go.Dm

section
variable {P:Program} {N:Nat} {Q:Exit→Act→World→Prop} {S:Type} {l:List Oper} {D:S→List DOp} {es:List Nat} {i s:Nat} {o:Oper} {w0:World} {F:List Nat} {Ls:S→List (List Res)}

variable {a:Act} {w:World} {L:List Res} {E:Env}
theorem Fits.all {E0:Env} (hf:Fits N E a) (h:AllE (fun p=>look E p.1=some p.2) E0):Fits N E0 a:=by
 induction E0 with
 | nil=>exact hf.nil
 | cons p E0 ih=>exact hf.cons h.1 (ih h.2)
end
end Go.Dk
end
section
namespace Go.Dk
open Go.RowKit Go.Dm
section
variable {P:Program} {Q:Exit→Act→World→Prop} {a:Act} {w w' w0:World} {N:Nat} {E:Env} {F:List Nat} {L K:List Res}
variable {ops:Array Oper} {rest:List Oper} {t t' ty d:Nat} {p:String} {af:Array Edge} {x y:Operand}

theorem zkS.append {s:Option Addr × Nat × Nat} {y:List Value} (hs:zsr w s.1 y) (hc:s.2.1≤s.2.2):∀{ss:List (Option Addr × Nat × Nat)} {xs:List (List Value)},zkS w ss xs→zkS w (ss++[s]) (xs++[y])
 | [],[],_=>⟨⟨hs,hc⟩,trivial⟩
 | [],_::_,h=>h.elim
 | _::_,[],h=>h.elim
 | _::_,_::_,⟨h1,h2⟩=>⟨h1,zkS.append hs hc h2⟩
theorem zkS.get:∀{ss:List (Option Addr × Nat × Nat)} {xs:List (List Value)},zkS w ss xs→∀(i:Nat) (x:List Value),xs[i]? = some x→∃s,ss[i]? = some s∧zsr w s.1 x∧s.2.1≤s.2.2
 | [],[],_,i,x,h=>by simp at h
 | [],_::_,h,_,_,_=>h.elim
 | _::_,[],h,_,_,_=>h.elim
 | s::ss,y::xs,⟨h1,h2⟩,0,x,h=>by simp at h; subst h; exact ⟨s,by simp,h1⟩
 | s::ss,y::xs,⟨h1,h2⟩,i+1,x,h=>by
  obtain ⟨s',h3,h4⟩:=zkS.get h2 i x (by simpa using h);exact ⟨s',by simpa using h3,h4⟩
end
end Go.Dk
end
section
namespace Go.Dk
open Go.RowKit Go.Dm
structure Sub (α A:Type) where
 fp:α→A→List Nat
 ok:World→α→A→Prop
 lt:∀{w:World} {x:α} {a:A},ok w x a→∀b∈fp x a,b<w.heap.size
 mono:∀{w w':World} {x:α} {a:A},ok w x a→w.heap.size≤w'.heap.size→(∀b∈fp x a,w'.heap[b]? = w.heap[b]?)→ok w' x a
structure DE (α A:Type) extends Sub α A where
 enc:α→A→List Value
def zFt {α A:Type} (d:DE α A):List α→List A→List Value
 | x::xs,a::gs=>d.enc x a++zFt d xs gs
 | _,_=>[]
def fpsD {α A:Type} (d:DE α A):List α→List A→List Nat
 | x::xs,a::gs=>d.fp x a++fpsD d xs gs
 | _,_=>[]
def zC2 {α A:Type} (d:DE α A) (w:World):List α→List A→Prop
 | [],[]=>True
 | x::xs,a::gs=>d.ok w x a∧zC2 d w xs gs
 | _,_=>False
def zwD {α A:Type} (d:DE α A) (w:World) (ad:Option Addr) (c:Nat) (xs:List α) (gs:List A):Prop:=zd9 w ad (zFt d xs gs)∧xs.length≤c∧zC2 d w xs gs
def fpD {α A:Type} (d:DE α A) (ad:Option Addr) (xs:List α) (gs:List A):List Nat:=zvO ad (zFt d xs gs)++fpsD d xs gs
section
variable {α A B β:Type} {d:DE α A} {w w':World} {ad:Option Addr} {c:Nat} {xs:List α} {gs:List A}
theorem zA2:∀{xs:List α} {gs:List A},zC2 d w xs gs→∀b∈fpsD d xs gs,b<w.heap.size
 | [],[],_,b,hb=>by cases hb
 | [],_::_,h,_,_=>h.elim
 | _::_,[],h,_,_=>h.elim
 | x::xs,a::gs,h,b,hb=>by
  rcases List.mem_append.1 hb with hb|hb
  ·exact d.lt h.1 b hb
  ·exact zA2 h.2 b hb
theorem zvc (hs:w.heap.size≤w'.heap.size):∀{xs:List α} {gs:List A},zC2 d w xs gs→(∀b∈fpsD d xs gs,w'.heap[b]? = w.heap[b]?)→zC2 d w' xs gs
 | [],[],_,_=>trivial
 | [],_::_,h,_=>h.elim
 | _::_,[],h,_=>h.elim
 | x::xs,a::gs,h,hb=>⟨d.mono h.1 hs fun b hm=>hb b (List.mem_append_left _ hm),zvc hs h.2 fun b hm=>hb b (List.mem_append_right _ hm)⟩
theorem zwD.lt (h:zwD d w ad c xs gs):∀b∈fpD d ad xs gs,b<w.heap.size:=by
 intro b hb
 rcases List.mem_append.1 hb with hb|hb
 ·exact zDY h.1 hb
 ·exact zA2 h.2.2 b hb
theorem zwD.mono (h:zwD d w ad c xs gs) (hs:w.heap.size≤w'.heap.size) (hb:∀b∈fpD d ad xs gs,w'.heap[b]? = w.heap[b]?):zwD d w' ad c xs gs :=
 ⟨zDX h.1 hs fun b e=>hb b (List.mem_append_left _ e),h.2.1,zvc hs h.2.2 fun b e=>hb b (List.mem_append_right _ e)⟩
theorem zwD.nil (d:DE α A) (w:World) (c:Nat):zwD d w none c [] []:=⟨rfl,Nat.zero_le _,trivial⟩
def Sub.row (en:β→List Value) (get:α→List β):Sub α (Option Addr × Nat) where
 fp x a:=zvO a.1 (cells en (get x))
 ok w x a:=zd9 w a.1 (cells en (get x))∧(get x).length≤a.2
 lt h b hb:=zDY h.1 hb
 mono h hs hb:=⟨zDX h.1 hs hb,h.2⟩
def Sub.and (s:Sub α A) (t:Sub α B):Sub α (A × B) where
 fp x a:=s.fp x a.1++t.fp x a.2
 ok w x a:=s.ok w x a.1∧t.ok w x a.2
 lt h b hb:=by
  rcases List.mem_append.1 hb with hb|hb
  ·exact s.lt h.1 b hb
  ·exact t.lt h.2 b hb
 mono h hs hb:=⟨s.mono h.1 hs fun b e=>hb b (List.mem_append_left _ e),t.mono h.2 hs fun b e=>hb b (List.mem_append_right _ e)⟩
def RowD (d:DE α A) (v:Value) (e sz:Nat) (xs:List α) (gs:List A) (w:World):Prop :=
 w.ownsRow 0 e sz v xs.length (zFt d xs gs)∧zC2 d w xs gs∧∀b,v.ownBlock=some b→b∉fpsD d xs gs
abbrev rowD (d:DE α A) (v:Value) (e sz:Nat) (xs:List α) (gs:List A):Res := .gen (v.ownBlock.toList++fpsD d xs gs) (RowD d v e sz xs gs)
theorem RowD.holds {v:Value} {e sz:Nat} (h:RowD d v e sz xs gs w):(rowD d v e sz xs gs).holds w 0:=by
 refine ⟨h,fun b hb=>?_,fun w1 w2 h hs hb=>⟨zIy h.1 fun b e=>hb b (List.mem_append_left _ (by rw [e]; simp)),zvc hs h.2.1 fun b e=>hb b (List.mem_append_right _ e),h.2.2⟩⟩
 rcases List.mem_append.1 hb with hb|hb
 ·exact zIx h.1 (by simpa using hb)
 ·exact zA2 h.2.1 b hb
theorem RowD.sees {e sz:Nat} (h:RowD d (.slice ad xs.length c) e sz xs gs w):zwD d w ad c xs gs:=by
 refine ⟨zvP h.1,?_,h.2.1⟩;obtain ⟨_,⟨h1,h2⟩|⟨g,cap,cur,hv,_,_,hle,_⟩⟩:=h.1
 ·simp at h1; omega
 ·simp at hv; omega
theorem Own.getD {w0:World} {F:List Nat} {L:List Res} {e sz i:Nat} (hO:Own w0 F w L) (hi:L[i]? = some (rowD d (.slice ad xs.length c) e sz xs gs)):zwD d w ad c xs gs:=(hO.get hi).1.sees
end
section
variable {P:Program} {Q:Exit→Act→World→Prop} {a:Act} {w w' w0:World} {N:Nat} {E:Env} {F:List Nat} {L K:List Res} {α A β:Type} {d:DE α A}
variable {ops:Array Oper} {rest:List Oper} {t t' ty s:Nat} {p:String} {af:Array Edge} {x y:Operand}
end
end Go.Dk
end
section
namespace Go.Dk
open Go.RowKit Go.Dm Go.ChangeShapes Go.WideShapes Go.Deep

section
variable {H:Type} {enc:TypeId × Value→H} {P:Program}

theorem zOC {n:Int} (h:(Lit.int .u16 n).wf=true):∃b:UInt16,n=(b.toNat:Int):=by
 have h2:0≤n∧n<65536:=by
  have e1:IntKind.u16.min=0:=rfl;have e2:IntKind.u16.max=65535:=rfl
  have e3:0≤n∧n≤65535:=by simpa [Lit.wf,e1,e2] using h
  omega
 refine ⟨UInt16.ofNat n.toNat,?_⟩;simp only [UInt16.toNat_ofNat'];omega
theorem zOD {n:Int} (h:(Lit.int .u8 n).wf=true):∃b:UInt8,n=(b.toNat:Int):=by
 have h2:0≤n∧n<256:=by
  have e1:IntKind.u8.min=0:=rfl;have e2:IntKind.u8.max=255:=rfl
  have e3:0≤n∧n≤255:=by simpa [Lit.wf,e1,e2] using h
  omega
 refine ⟨UInt8.ofNat n.toNat,?_⟩;simp only [UInt8.toNat_ofNat'];omega
theorem zFO (b off k:Nat):(⟨b,off,none⟩:Addr).add k=⟨b,off+k,none⟩:=by
 unfold Addr.add
 by_cases h:k=0
 ·subst h; simp
 ·simp [h]
theorem zKr {w:World} {base n j:Nat} {a:Addr} {cs:List Value} {v:Value} (hc:w.cells? base a n=some cs) (hj:cs[j]? = some v):w.cell? (a.add j)=some v:=by
 obtain ⟨_,hlen,hcell⟩:=World.cells?_some hc
 have hjl:j<n:=by rw [← hlen]; exact (List.getElem?_eq_some_iff.1 hj).1
 rw [hcell j hjl,hj]
theorem zHN {w:World} {a:Addr} {v:Value} (h:w.cell? a=some v):a.spot=none∧a.block<w.heap.size:=by
 unfold World.cell? at h
 split at h
 ·rename_i hb
  refine ⟨?_,(Array.getElem?_eq_some_iff.1 hb).1⟩
  cases hs:a.spot with
  | none=>rfl
  | some x=>rw [hs] at h; simp at h
 ·cases h
theorem zt3 (hl:laidOutB P=true) {W W':World} (hb:Below W.heap.size W W'):∀{ts:List TypeId} {vs:List Value} {ds:List (DataW H)} {ps:List MemPlace},
  ts.all (fun t=>P.readableRec t&&decide (t<P.types.size))=true→DataW.TrodAll enc P W 0 (fun _=>true) true ts vs ds ps→DataW.TrodAll enc P W' 0 (fun b=>decide (b<W.heap.size)) true ts vs ds ps
 | [],vs,ds,ps,_,h=>by
  obtain ⟨rfl,rfl,rfl⟩:=trodAll_nil h;exact trodAll_mk0
 | t::ts,vs,ds,ps,ht,h=>by
  obtain ⟨v,vs',d,ds',p,q,rfl,rfl,rfl,h0,h1⟩:=trodAll_cons h;simp only [List.all_cons,Bool.and_eq_true,decide_eq_true_eq] at ht
  have lt:∀x∈p,x.block<W.heap.size:=by obtain ⟨m,hm⟩:=h0; exact DataW.trod_lt m _ _ _ hm
  exact trodAll_cons_mk (Below.trod hl ht.1.1 ht.1.2 h0 hb lt) (zt3 hl hb (by simpa using ht.2) h1)

theorem zp9 {x:String × DataW Unit} {rest:List (String × DataW Unit)} {w:World} (h:laidMet P (x::rest) w):laidMet P rest w:=by
 obtain ⟨ps,hl,hn,hc⟩:=h;obtain ⟨n,d⟩:=x;obtain ⟨g,t,cs,fuel,p,q,h1,h2,h3,h4,h5,rfl⟩:=hl;exact ⟨q,h5,(List.nodup_append.1 hn).2.1,fun b off hb=>hc b off (List.mem_append_right _ hb)⟩
theorem zvm {C:Checked} {os:Os} {f:FuncId} {fn:Func} {s:OpenSpec} {k:(H:Type)→List (DataW H)→Bool} (hk:s.cond=some k) {conds:List PathCond} {apart:Bool} {X:World→Prop} (modest:Bool) (w0:World) (args:Array Value) (fuel:Nat) (hos:w0.os=os)
  (hsh:(w0.forCall (fun _ _=>0) ⟨#[],args,[]⟩).Shaped C.prog)
  (hok:Input.okWideB C.prog (w0.forCall (fun _ _=>0) ⟨#[],args,[]⟩) f ⟨#[],args,[]⟩=true)
  {x:List (DataW H) × List (DataW H) × List MemPlace} (hx:DataW.whole enc C.prog (w0.forCall (fun _ _=>0) ⟨#[],args,[]⟩).memory fn.params.toList s.vars apart args.toList fuel=some x)
  (hconds:conds.all (PathCond.test C.prog ⟨fn.params.toList,x.1,s.bare.plain.varTypes C.prog,x.2.1⟩)=true) (hkk:k H (x.1++x.2.1)=true)
  (hsz:s.bare.sizedB enc C.prog fn apart (w0.forCall (fun _ _=>0) ⟨#[],args,[]⟩).memory args fuel=true)
  (hX:X (w0.forCall (fun _ _=>0) ⟨#[],args,[]⟩).memory) :
  ∃(w:World) (tape:Tape) (i:Input),w.os=os∧(w.forCall tape i).Shaped C.prog∧i.vars=[]∧Input.okWide C.prog (w.forCall tape i) .any w.heap.size f i ∧
   ((s.pre enc C.prog fn conds apart (w.forCall tape i).memory i.args∧X (w.forCall tape i).memory)∧sizedMet enc C.prog fn s apart (w.forCall tape i).memory i.args)∧({ modest:=modest }:Assume).holds C.prog (lone (Frame.enter C.prog f i.args .normal) [] (w.forCall tape i)) :=
 ⟨w0,fun _ _=>0,⟨#[],args,[]⟩,hos,hsh,(Input.okWide_of_okWideB (base:=0) hok).1,(Input.okWide_of_okWideB hok).2,
  ⟨⟨(OpenSpec.pre_some hk conds apart _ _).2 ⟨x.1,x.2.1,x.2.2,DataW.Whole_of_whole hx,hconds,hkk⟩,hX⟩,sizedMet_of_sizedB hsz⟩,by
  simp only [Assume.holds]
  exact ⟨by simp,by simp,fun _=>Modest.zero,by simp,by simp⟩⟩
theorem zvn {a:Assume} {C:Checked} {os:Os} {f:FuncId} {fn:Func} {s:OpenSpec} {k:(H:Type)→List (DataW H)→Bool} (hk:s.cond=some k) {F:Stop.Interp} {conds:List PathCond} {apart fresh handsOn again:Bool} {X:World→Prop}
  (hX:∀(w:World) (tape:Tape) (i:Input),X (w.forCall tape i).memory→X (w.forCall tape i))
  (own:ownKnob C.prog.godebug=none) (started:os.Started) (noInit:C.prog.inits.idxOf? f=none) (hfn:C.prog.funcs[f]? = some fn)
  (witness:∃(w:World) (tape:Tape) (i:Input),w.os=os∧(w.forCall tape i).Shaped C.prog∧i.vars=[]∧Input.okWide C.prog (w.forCall tape i) .any w.heap.size f i ∧
   ((s.pre enc C.prog fn conds apart (w.forCall tape i).memory i.args∧X (w.forCall tape i).memory)∧sizedMet enc C.prog fn s apart (w.forCall tape i).memory i.args)∧a.holds C.prog (lone (Frame.enter C.prog f i.args .normal) [] (w.forCall tape i)))
  (contract:∀(W:World) (base:Nat) (args:Array Value) (ds gs:List (DataW H)) (before:List MemPlace),
   (∀(j:Nat) t v,fn.params[j]? = some t→args[j]? = some v→Value.okWide C.prog W .any base t v) →
   DataW.Whole enc C.prog fn.params.toList s.vars apart W args.toList ds gs before→k H (ds++gs)=true→W.ShapedOpen C.prog→X W →
   Calls C.prog f args W fun e W'=>∃v,e = .returned v∧(s.at F).post enc C.prog fn apart fresh handsOn again W args v W') :
  ReturnsInHanded a C os f .any (fun w args=>(s.pre enc C.prog fn conds apart w args∧X w)∧sizedMet enc C.prog fn s apart w args) ((s.at F).post enc C.prog fn apart fresh handsOn again):=by
 refine returnsInHanded_of_calls own started noInit witness ?_;intro w tape i _ hsh _ hok hpre _;obtain ⟨_,_,_,fn',hfn',_,_,_,_,hval⟩:=hok;obtain rfl:fn'=fn:=Option.some.inj (hfn'.symm.trans hfn);obtain ⟨ds,gs,before,hw,_,hkk⟩:=(OpenSpec.pre_some hk conds apart _ _).1 hpre.1.1;refine (contract (w.forCall tape i) w.heap.size i.args ds gs before hval (DataW.Whole.of_heap (w':=w.forCall tape i) (by rfl) hw) hkk hsh (hX _ _ _ hpre.1.2)).mono fun e W' ⟨v,he,hp⟩=>?_;subst he;exact ChangeSpec.post_blind hp
end
end Go.Dk
end
section
set_option linter.unusedVariables false
set_option linter.unusedSimpArgs false
namespace Go.Proofs
open Go.Dk Go.Dm Go.RowKit

theorem zNB {P:Program} {w0 w:World} {n:String} {g:Nat} (hg:P.globalNamed n=some g) (h:w.heap[g]? = w0.heap[g]?):w.var? P n=w0.var? P n:=by
 unfold World.var?;rw [hg];simp only [Option.bind_some,h]
def ziY (w:World):Prop:=6≤w.heap.size∧(∃m,w.cell? ⟨0,0,none⟩=some (.int .i64 m))
def Away (F:List Nat):Prop:=∀b∈F,6≤b
theorem zNC:Away []:=fun b hb=>by cases hb
theorem ziY.same {w0 w:World} (h:ziY w0) (hs:w0.heap.size≤w.heap.size) (hf:∀g,g<6→w.heap[g]? = w0.heap[g]?):ziY w:=by
 obtain ⟨h0,⟨m,hm0⟩⟩:=h;exact ⟨Nat.le_trans h0 hs,⟨m,(World.cell?_of_block (w:=w0) (a:=⟨0,0,none⟩) (hf 0 (by omega))).trans hm0⟩⟩
theorem ziY.low {w0 w:World} {B:Nat} (h:ziY w0) (hB:6≤B) (hb:Below B w0 w):ziY w :=
 h.same hb.size fun g hg=>hb.block g (by omega)
theorem ziY.size {w:World} (h:ziY w):6≤w.heap.size:=h.1
theorem ziY.max {w:World} (h:ziY w):(∃m,w.cell? ⟨0,0,none⟩=some (.int .i64 m)):=h.2
theorem ziY.own {w0 w:World} {F:List Nat} {L:List Res} (h:ziY w0) (hF:Away F) (hO:Own w0 F w L):ziY w :=
 h.same hO.size fun g hg=>hO.frame g (by have:=h.size; omega) (fun hm=>absurd (hF g hm) (by omega))
def zkB (w:World):Prop:=ziY w∧Go.Lib.TabIs Tryz.prog w "internal/strconv.uint64pow10" .u64 Go.Lib.pow10Tab∧w.cell? ⟨5,15,none⟩=some (.int .u8 4)
theorem zkB.same {w0 w:World} (h:zkB w0) (hs:w0.heap.size≤w.heap.size) (hf:∀g,g<6→w.heap[g]? = w0.heap[g]?):zkB w:=by
 obtain ⟨h,hp⟩:=h;exact ⟨h.same hs hf,⟨by have hp:=hp.1; unfold Go.Lib.TabIs at hp ⊢; rw [← hp]; exact zNB (show Tryz.prog.globalNamed "internal/strconv.uint64pow10" = some 3 by kernel_rfl) (hf 3 (by omega)),(World.cell?_of_block (w:=w0) (a:=⟨5,15,none⟩) (hf 5 (by omega))).trans hp.2⟩⟩
theorem zkB.low {w0 w:World} {B:Nat} (h:zkB w0) (hB:6≤B) (hb:Below B w0 w):zkB w :=
 h.same hb.size fun g hg=>hb.block g (by omega)
theorem zkB.size {w:World} (h:zkB w):6≤w.heap.size:=h.1.size
theorem zkB.own {w0 w:World} {F:List Nat} {L:List Res} (h:zkB w0) (hF:Away F) (hO:Own w0 F w L):zkB w :=
 h.same hO.size fun g hg=>hO.frame g (by have:=h.size; omega) (fun hm=>absurd (hF g hm) (by omega))
def zkC (x:Str):List Value:=[str x]
def zo (x:zWQ):List Value:=[str x.Name,str x.Value]
def zqO (x:zWR):List Value:=[int x.Kind,str x.Text]
def zqP (x:zW3):List Value:=[str x.From,str x.To]
theorem ei_154:(Tryz.prog.info? 225).map (fun i=>(i.zero,i.size,i.bytes))=some (some (.agg #[str [],str []]),2,32):=by kernel_rfl
theorem zND:Elem Tryz.prog 154 225 2 32:=⟨Tryz.underlying154,by obtain ⟨i,h0,h1,h2,h3⟩:=info_parts ei_154; exact ⟨i,_,h0,h1,h2,h3,rfl⟩,by decide⟩
theorem ei_22:(Tryz.prog.info? 98).map (fun i=>(i.zero,i.size,i.bytes))=some (some (.agg #[str [],str []]),2,32):=by kernel_rfl
theorem el_22:Elem Tryz.prog 22 98 2 32:=⟨Tryz.underlying22,by obtain ⟨i,h0,h1,h2,h3⟩:=info_parts ei_22; exact ⟨i,_,h0,h1,h2,h3,rfl⟩,by decide⟩
theorem ei_81:(Tryz.prog.info? 109).map (fun i=>(i.zero,i.size,i.bytes))=some (some (.agg #[int 0,str []]),2,24):=by kernel_rfl
theorem el_81:Elem Tryz.prog 81 109 2 24:=⟨Tryz.underlying81,by obtain ⟨i,h0,h1,h2,h3⟩:=info_parts ei_81; exact ⟨i,_,h0,h1,h2,h3,rfl⟩,by decide⟩
def tb:Tab:=⟨[],[],[],[]⟩
instance:TabOk Tryz.prog tb:=⟨zsI trivial,zsI trivial,zsI trivial,zsI trivial⟩
end Go.Proofs
end
section
set_option linter.unusedVariables false
set_option linter.unusedSimpArgs false
namespace Go.Proofs
open Go.Dk Go.Dm Go.RowKit Go.Lib
set_option maxHeartbeats 4000000 in
set_option maxRecDepth 100000 in
theorem zPe (w:World) (hc:w.cell? ⟨5,15,none⟩=some (.int .u8 4)):Calls Tryz.prog 450 #[.int .u64 16] w fun e w'=>e = .returned (.int .i64 4)∧w'=w:=by
 have key:IntKind.u64.wrap (bits BinOp.and IntKind.u64 (16:Int) (IntKind.u64.wrap (-(16:Int)))*285870213051353865)/288230376151711744=(15:Int):=by decide +kernel
 have h0:((16:Int)==0)=false:=rfl
 go_enter Tryz.func450,Tryz.ntmps450
 go_wp2_with (simp only [key])
 go_ret
 exact ⟨rfl,rfl⟩
set_option maxHeartbeats 4000000 in
set_option maxRecDepth 100000 in
theorem tz_16 (w:World) (hc:w.cell? ⟨5,15,none⟩=some (.int .u8 4)):Calls Tryz.prog 425 #[.int .u64 16] w fun e w'=>e = .returned (.int .i64 4)∧w'=w:=by
 go_enter Tryz.func425,Tryz.ntmps425
 go_wp2_with (go_at_call 450; refine (zPe w hc).mono ?_; rintro e w' ⟨rfl,rfl⟩)
 go_ret
 exact ⟨rfl,rfl⟩
set_option maxHeartbeats 4000000 in
set_option maxRecDepth 100000 in
theorem zPf (w:World):Calls Tryz.prog 424 #[.int .i64 16] w fun e w'=>e = .returned (.bool true)∧w'=w:=by
 have key:bits BinOp.and IntKind.i64 (16:Int) (15:Int)=0:=by decide +kernel
 go_enter Tryz.func424,Tryz.ntmps424
 go_wp2_with (simp only [key])
 go_ret
 exact ⟨rfl,rfl⟩
def digs:ByteArray:={ data := #[48,49,50,51,52,53,54,55,56,57,97,98,99,100,101,102,103,104,105,106,107,108,109,110,111,112,113,114,115,116,117,118,119,120,121,122] }
theorem zJZ (m:Nat) (hm:m<16) (h:m<digs.size):digs[m]'h=zrv m:=by
 have:m=0∨m=1∨m=2∨m=3∨m=4∨m=5∨m=6∨m=7∨m=8∨m=9∨m=10∨m=11∨m=12∨m=13∨m=14∨m=15:=by omega
 rcases this with rfl|rfl|rfl|rfl|rfl|rfl|rfl|rfl|rfl|rfl|rfl|rfl|rfl|rfl|rfl|rfl<;>rfl
theorem zIl {g u:Nat} (hu:u<16):zqG g u=[zrv u]:=by
 cases g with
 | zero=>rfl
 | succ g=>unfold zqG; rw [if_pos hu]
theorem zx9 {P:Program} {ops:Array Oper} {rest:List Oper} {o:Oper} {a:Act} {w:World} {Q:Exit→Act→World→Prop} (hgd:o.guard=none) (x:Operand) (t t':TypeId) (ho:o.op = .convert t t' x) (v:Value) (hx:a.eval x=v) {v':Value}
  (hr:(convert t t' v).run P w = .ok v' w) (h:wpList P ops Q rest (a.put o.dst v') w):wpList P ops Q (o::rest) a w :=
 wpList_plain hgd fun _ hK=>by
  have e:(execOp a.eval o).run P w = .ok (.value v') w:=by
   unfold execOp;simp only [ho,hx,Sem.run_bind,hr,Result.andThen_ok,Sem.run_pure]
  unfold Oper.wp;rw [e];exact hK _ _ h
theorem zPg {P:Program} {o:Oper} {a:Act} {w:World} {K:Act→World→Prop} {Q:Exit→Act→World→Prop} (m:Nat) (x y:Operand) (t t':TypeId) (ho:o.op = .binOp .shr t x y t') (hx:a.eval x = .int .u64 m) (hy:a.eval y = .int .u64 4)
  (h:K (a.put o.dst (.int .u64 ((m/16:Nat):Int))) w):o.wp P a w K Q:=by
 have e:(execOp a.eval o).run P w = .ok (.value (.int .u64 ((m/16:Nat):Int))) w:=by
  unfold execOp;simp only [ho,hx,hy]
  have hf:Int.fdiv (m:Int) 16=((m/16:Nat):Int):=by rw [Int.fdiv_eq_ediv_of_nonneg _ (by omega)]; omega
  simp [eqGuard,binOp,Op.shift,Result.andThen,IntKind.bits,hf]
 unfold Oper.wp;rw [e];exact h
theorem zGa {P:Program} {ops:Array Oper} {rest:List Oper} {o:Oper} {a:Act} {w:World} {Q:Exit→Act→World→Prop} (hgd:o.guard=none) (m:Nat) (x y:Operand) (t t':TypeId) (ho:o.op = .binOp .shr t x y t') (hx:a.eval x = .int .u64 m) (hy:a.eval y = .int .u64 4)
  (h:wpList P ops Q rest (a.put o.dst (.int .u64 ((m/16:Nat):Int))) w):wpList P ops Q (o::rest) a w :=
 wpList_plain hgd fun _ hK=>zPg m x y t t' ho hx hy (hK _ _ h)
set_option maxHeartbeats 4000000 in
set_option maxRecDepth 100000 in
theorem zBk (n:Nat) (hn:n<1048576) (w:World) (hG:6≤w.heap.size) (hc:w.cell? ⟨5,15,none⟩=some (.int .u8 4)) :
  Calls Tryz.prog 382 #[.slice none 0 0, .int .u64 n, .int .i64 16, .bool false, .bool false] w fun e w'=>e = .returned (.tuple #[.slice none 0 0,str (zqG 4 n)])∧Below w.heap.size w w':=by
 have hc1:∀W:World,Below w.heap.size w W→W.cell? ⟨5,15,none⟩=some (.int .u8 4):=fun W hb=>(hb.cell (p:=⟨5,15,none⟩) (show 5<w.heap.size by omega)).trans hc
 go_enter Tryz.func382,Tryz.ntmps382
 go_wp2_with (first|(go_at_call 424; refine (zPf _).mono ?_; rintro e w' ⟨rfl,rfl⟩)|(go_at_call 425; refine (tz_16 _ (hc1 _ (zoD w _))).mono ?_; rintro e w' ⟨rfl,rfl⟩))
 go_loopg [1,13] 4 (fun g u i wx=>∃(un k:Nat) (d:Str) (row:Array Value) (ty:TypeId),u = .int .u64 un∧i = .int .i64 k∧un<16^(g+1)∧60+g<k∧k+d.length=65∧zqG 4 n=zqG g un++d∧Below w.heap.size w wx∧wx.heap[w.heap.size]? = some (.cells row ty (0,0))∧row.size=65∧∀j,j<d.length→row[k+j]? = d[j]?.map zcV)
 case atStart =>
  exact ⟨n,65,[],_,_,rfl,rfl,by omega,by omega,rfl,by simp,zoD w _,zkA _,rfl,fun j hj=>by cases hj⟩
 case round =>
  obtain ⟨un,k,d,row,ty,rfl,rfl,hlt,hk,hkd,hF,hB,hh,hrs,hrow⟩:=hrel;have HB:Aside (Below w.heap.size w wr):=hB;have HH:Aside (wr.heap[w.heap.size]? = some (.cells row ty (0,0))):=hh;have HX:Aside (∀j,j<d.length→row[k+j]? = d[j]?.map zcV):=hrow;have HF:Aside (zqG 4 n=zqG gk un++d):=hF;have HL:Aside (un<16^(gk+1)):=hlt
  clear hB hrow hF hlt
  by_cases hu:16≤un
  ·have hge:(16:Int)≤(un:Int):=by omega
   have hwk:IntKind.i64.wrap ((k:Int)-1)=((k-1:Nat):Int):=by rw [IntKind.wrap_i64]; omega
   have hun:un<18446744073709551616:=by
    have:=HL.out;have h5:16^(gk+1)≤16^5:=Nat.pow_le_pow_right (by omega) (by omega);omega
   have hand:bits BinOp.and IntKind.u64 (un:Int) 15=((un%16:Nat):Int):=by
    have:=bits_and_u64_nat un 15 hun (by omega);rw [show ((15:Nat):Int)=15 from rfl] at this;rw [this,show un &&& 15=un%2^4 from Nat.and_two_pow_sub_one_eq_mod un 4]
   have hi0:(0:Int)≤((un%16:Nat):Int)∧((un%16:Nat):Int)<36:=by omega
   have hk1:k-1<65:=by omega
   obtain ⟨v0,hv0⟩:∃v,row[k-1]? = some v:=⟨_,Array.getElem?_eq_getElem (by omega)⟩
   have hcx:wr.cell? ⟨w.heap.size,k-1,none⟩=some v0:=by simp [World.cell?,HH.out,hv0]
   have hfr:wr.frozen? ⟨w.heap.size,k-1,none⟩=false:=by simp [World.frozen?,HH.out]
   have hsh:((un:Int)/16)=((un/16:Nat):Int):=by omega
   have HV:Aside (row[k-1]? = some v0):=hv0
   clear hv0
   go_wp2_with (refine zGa rfl un _ _ 425 337 rfl rfl rfl ?_; simp only [Act.put,List.setIfInBounds_toArray,List.set_cons_zero,List.set_cons_succ])
   go_roundg (gk-1)
   case measure =>
    have:=HL.out
    by_cases h0:gk=0
    ·subst h0; simp at this; omega
    ·omega
   case rel =>
    have hgk:gk≠0:=by
     intro h0;have:=HL.out;subst h0; simp at this; omega
    obtain ⟨g',rfl⟩:∃g',gk=g'+1:=⟨gk-1,by omega⟩;have hd1:=zJZ (un%16) (Nat.mod_lt _ (by decide)) (show un%16<36 by omega);refine ⟨un/16,k-1,zrv (un%16)::d,row.setIfInBounds (k-1) (zcV (zrv (un%16))),ty,rfl,rfl,?_,by omega,by simp only [List.length_cons]; omega,?_,HB.out.setCell (p:=⟨w.heap.size,k-1,none⟩) (Nat.le_refl _) _,?_,by simpa using hrs,fun j hj=>?_⟩
    ·have:=HL.out;rw [Nat.pow_succ] at this;simp only [Nat.add_sub_cancel];omega
    ·rw [HF.out];show zqG (g'+1) un++d=_;rw [zqG,if_neg (by omega)];simp
    ·have e:∀b:UInt8,b=zrv (un%16)→(wr.setCell ⟨w.heap.size,k-1,none⟩ (Value.int IntKind.u8 (b.toNat:Int))).heap[w.heap.size]? = some (Obj.cells (row.setIfInBounds (k-1) (zcV (zrv (un%16)))) ty (0,0)):=by
      rintro b rfl;simp [World.setCell,Array.getElem?_modify,HH.out]
     exact e _ hd1
    ·rw [Array.getElem?_setIfInBounds]
     cases j with
     | zero=>simp; omega
     | succ j =>
      have hjd:j<d.length:=by simpa using hj
      rw [if_neg (by omega),show k-1+(j+1)=k+j by omega,HX.out j hjd];simp
  ·have hlt:un<16:=by omega
   have hge:¬ ((16:Int)≤(un:Int)):=by omega
   have hge':(un:Int)<16:=by omega
   have hwk:IntKind.i64.wrap ((k:Int)-1)=((k-1:Nat):Int):=by rw [IntKind.wrap_i64]; omega
   have hi0:(0:Int)≤(un:Int)∧(un:Int)<36:=by omega
   have hi1:un<36:=by omega
   have hk1:k-1<65:=by omega
   have hk2:k-1≤65:=by omega
   have hk66:k≤66:=by omega
   have hk65:k≤65+1:=by omega
   have hk3:¬ (65=k-1):=by omega
   have hk3':¬ (k-1=65):=by omega
   obtain ⟨v0,hv0⟩:∃v,row[k-1]? = some v:=⟨_,Array.getElem?_eq_getElem (by omega)⟩
   have hcx:wr.cell? ⟨w.heap.size,k-1,none⟩=some v0:=by simp [World.cell?,HH.out,hv0]
   have hfr:wr.frozen? ⟨w.heap.size,k-1,none⟩=false:=by simp [World.frozen?,HH.out]
   have HV:Aside (row[k-1]? = some v0):=hv0
   have hR:zqG 4 n=zrv un::d:=by rw [HF.out,zIl hlt]; rfl
   have HR:Aside (zqG 4 n=zrv un::d):=hR;have HD:Aside (digs[un]'(show un<36 by omega)=zrv un):=zJZ un hlt _
   have hcv:∀(val:Value) (L C:Nat),val=zcV (zrv un)→L=(zrv un::d).length→(convert 64 9 (.slice (some ⟨w.heap.size,k-1,none⟩) L C)).run Tryz.prog (wr.setCell ⟨w.heap.size,k-1,none⟩ val) = .ok (.string ⟨(zrv un::d).toArray⟩) (wr.setCell ⟨w.heap.size,k-1,none⟩ val):=by
    rintro val L C rfl rfl;refine run_convert_bytes_back _ 64 9 5 ⟨w.heap.size,k-1,none⟩ C (zrv un::d) (by kernel_rfl) (by kernel_rfl) (by kernel_rfl) fun j hj=>?_
    have hh2:(wr.setCell ⟨w.heap.size,k-1,none⟩ (zcV (zrv un))).heap[w.heap.size]? = some (Obj.cells (row.setIfInBounds (k-1) (zcV (zrv un))) ty (0,0)):=by
     simp [World.setCell,Array.getElem?_modify,HH.out]
    rw [Addr.add_lit];simp only [World.cell?,hh2];rw [Array.getElem?_setIfInBounds]
    cases j with
    | zero=>simp [zcV]; omega
    | succ j =>
     have hjd:j<d.length:=by simpa using hj
     rw [show k-1+(j+1)=k+j by omega,if_neg (show ¬ (k-1=k+j) by omega),HX.out j hjd,List.getElem?_eq_getElem hjd];rfl
   have hsl:∀W,(Instr.sliceAt 472 (.pointer (some ⟨w.heap.size,0,none⟩)) (some (.int .i64 ((k-1:Nat):Int))) none none).run Tryz.prog W = .ok (.slice (some ⟨w.heap.size,k-1,none⟩) (65-(k-1)) (65-(k-1))) W:=fun W=>by
    have hal:Tryz.prog.arrayLen 472=65:=by kernel_rfl
    have hel:Tryz.prog.elem 472=5:=by kernel_rfl
    rw [run_sliceAt_array_l (P:=Tryz.prog) W 472 ⟨w.heap.size,0,none⟩ (by rw [hal,hel]; exact Tryz.underlying472) .i64 _ (by omega) (by rw [hal]; omega),hel,zcS (show zkN Tryz.prog 5=some 1 by kernel_rfl),hal];simp only [Result.andThen,slicedAt];rw [show (((k-1:Nat):Int)).toNat=k-1 from Int.toNat_natCast _,if_neg (by omega),Addr.add_lit,Nat.mul_one,Nat.zero_add]
   clear hv0 hR
   go_wp2_with (refine zx9 rfl _ 64 9 rfl _ rfl (hcv _ _ _ (congrArg (fun c:UInt8=>Value.int .u8 (c.toNat:Int)) HD.out) (by simp only [List.length_cons]; omega)) ?_)
   go_ret2
   exact ⟨by rw [HR.out]; rfl,HB.out.setCell (p:=⟨w.heap.size,k-1,none⟩) (Nat.le_refl _) _⟩
set_option maxHeartbeats 4000000 in
set_option maxRecDepth 100000 in
theorem zzP (n:Nat) (hn:n<1048576) (w:World) (hG:6≤w.heap.size) (hc:w.cell? ⟨5,15,none⟩=some (.int .u8 4)) :
  Calls Tryz.prog 342 #[.int .i64 n, .int .i64 16] w fun e w'=>e = .returned (str (zqG 4 n))∧Below w.heap.size w w':=by
 have hwu:IntKind.u64.wrap (n:Int)=(n:Int):=by rw [IntKind.wrap_u64]; omega
 have hnn:¬ ((n:Int)<0):=by omega
 go_enter Tryz.func342,Tryz.ntmps342
 go_wp2_with (go_at_call 382; refine (zBk n hn w hG hc).mono ?_; rintro e w' ⟨rfl,hb⟩)
 go_ret
 exact ⟨rfl,hb⟩
set_option maxHeartbeats 4000000 in
set_option maxRecDepth 100000 in
theorem zDL (n:Nat) (hn:n<1048576) (w:World) (hG:6≤w.heap.size) (hc:w.cell? ⟨5,15,none⟩=some (.int .u8 4)) :
  Calls Tryz.prog 278 #[.int .i64 n, .int .i64 16] w fun e w'=>e = .returned (str (zqG 4 n))∧Below w.heap.size w w':=by
 go_enter Tryz.func278,Tryz.ntmps278
 go_wp2_with (go_at_call 342; refine (zzP n hn w hG hc).mono ?_; rintro e w' ⟨rfl,hb⟩)
 go_ret
 exact ⟨rfl,hb⟩
end Go.Proofs
end
