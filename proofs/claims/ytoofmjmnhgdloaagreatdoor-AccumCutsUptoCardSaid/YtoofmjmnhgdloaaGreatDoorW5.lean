/-
  Walks, written by a program (wip/gen): what its model says, the function returns; what was there before is as it was.
-/
import Derived.Test.YtoofmjmnhgdloaaGreatDoorLib
import Derived.Test.YtoofmjmnhgdloaaGreatDoorW4
set_option linter.unusedVariables false
set_option maxHeartbeats 1000000
set_option linter.unusedSimpArgs false
set_option maxRecDepth 100000
namespace Go.Proofs
open Go.Dk Go.Dm Go.RowKit

theorem zeF (x_s : Str) (R : api_Field × Int) (w0 : World) (hG : zF w0) (hm : za1 x_s = some R) :
    Calls Tryz.prog 33 #[str x_s] w0 (Ret w0 (fun R => .tuple #[.agg #[str R.1.Name, str R.1.Value], int R.2]) R) := by
 rw [za1] at hm
 have hF : zO [] := zh
 have hO : Dk.Own w0 [] w0 [] := Dk.Own.refl w0
 refine S.enter tb Tryz.func33 rfl Tryz.ntmps33 rfl ?_ hO hm
 refine rw_ rfl fun a w hf hO hm => ?_
 refine zn zmP hf rfl hO fun a b1 w hf hO => ?_
 refine S.op tb ?_ hf hO hm
 refine cl c_52 rfl (fun r3 w hr3 hO => zdy x_s [13, 10] r3 _ (hG.own hF hO) hr3) fun r3 hr3 => ?_
 refine br rfl (fun hc5 => ?_) fun hc5 => ?_
 refine vl rfl rfl (fun a w hf hO => zs (vs := []) (v := .agg #[str [], str []]) hf rfl (by kernel_rfl)) ?_
 refine rw_ rfl fun a w hf hO hm => ?_
 refine ze (i := 0) (n := 2) zcQ rfl rfl rfl (by simp [Value.oneCell']) hf rfl rfl hO fun w hO => ?_
 refine S.op tb ?_ hf hO hm
 refine re_ rfl fun a w hf hO hm => ?_
 obtain rfl := Option.some.inj hm
 exact zg Tryz.results33 hf (.cell rfl (zf (n := 2) (vs := [str [], str []]) zgf zcQ rfl ((hO.blkSees (i := 0) rfl).cells (o := 0) (n := 2) rfl)) (.tmp rfl .nil)) ⟨rfl, hO.below⟩
 refine rw_ rfl fun a w hf hO hm => ?_
 obtain ⟨r8, hr8, hm⟩ := ob hm
 refine zi (zj c_57 hf (vs := [str x_s]) rfl) rfl hf rfl rfl (zfi x_s r8 _ (hG.own hF hO) hr8) ?_
 rintro e w' ⟨b9, he, hO'⟩
 refine ⟨_, he, fun a hf => ?_⟩
 have hO := hO.call hO' (by simp [Res.shared])
 refine S.op tb ?_ hf hO hm
 refine rw_ rfl fun a w hf hO hm => ?_
 obtain ⟨r11, hr11, hm⟩ := ob hm
 have hch12 := (show Dk.Own w0 [] _ ([.blk b9 [str r8.f_s, int r8.f_at] 139] ++ [.blk b1 [str [], str []] 69]) from hO)
 have hfar12 := Dk.Own.far hch12 rfl hF hG.size
 have hlend12 := hch12.lend (S := []) rfl trivial
 have hcl12 := zdv r8 r11 _ (hG.own hF hO) hfar12 hlend12 hr11
 refine zi (zj c_58 hf (vs := [ptr b9 0]) rfl) rfl hf rfl rfl (hcl12) ?_
 rintro e w' ⟨he, hO'⟩
 refine ⟨_, he, fun a hf => ?_⟩
 have hO := hch12.back rfl hO' rfl
 refine S.op tb ?_ hf hO hm
 refine br rfl (fun hc14 => ?_) fun hc14 => ?_
 refine vl rfl rfl (fun a w hf hO => zs (vs := []) (v := .agg #[str [], str []]) hf rfl (by kernel_rfl)) ?_
 refine rw_ rfl fun a w hf hO hm => ?_
 refine ze (i := 1) (n := 2) zcQ rfl rfl rfl (by simp [Value.oneCell']) hf rfl rfl hO fun w hO => ?_
 refine S.op tb ?_ hf hO hm
 refine re_ rfl fun a w hf hO hm => ?_
 obtain rfl := Option.some.inj hm
 exact zg Tryz.results33 hf (.cell rfl (zf (n := 2) (vs := [str [], str []]) zgf zcQ rfl ((hO.blkSees (i := 1) rfl).cells (o := 0) (n := 2) rfl)) (.tmp rfl .nil)) ⟨rfl, hO.below⟩
 refine rw_ rfl fun a w hf hO hm => ?_
 obtain ⟨r17, hr17, hm⟩ := ob hm
 have hch18 := (show Dk.Own w0 [] _ ([.blk b9 [str r11.2.f_s, int r11.2.f_at] 139] ++ [.blk b1 [str [], str []] 69]) from hO)
 have hfar18 := Dk.Own.far hch18 rfl hF hG.size
 have hlend18 := hch18.lend (S := []) rfl trivial
 have hcl18 := zdO r11.2 r17 _ (hG.own hF hO) hfar18 hlend18 hr17
 refine zi (zj c_59 hf (vs := [ptr b9 0]) rfl) rfl hf rfl rfl (hcl18) ?_
 rintro e w' ⟨he, hO'⟩
 refine ⟨_, he, fun a hf => ?_⟩
 have hO := hch18.back rfl hO' rfl
 refine S.op tb ?_ hf hO hm
 refine rw_ rfl fun a w hf hO hm => ?_
 obtain ⟨r20, hr20, hm⟩ := ob hm
 have hch21 := (show Dk.Own w0 [] _ ([.blk b9 [str r17.2.2.f_s, int r17.2.2.f_at] 139] ++ [.blk b1 [str [], str []] 69]) from hO)
 have hfar21 := Dk.Own.far hch21 rfl hF hG.size
 have hlend21 := hch21.lend (S := []) rfl trivial
 have hcl21 := zdv r17.2.2 r20 _ (hG.own hF hO) hfar21 hlend21 hr20
 refine zi (zj c_58 hf (vs := [ptr b9 0]) rfl) rfl hf rfl rfl (hcl21) ?_
 rintro e w' ⟨he, hO'⟩
 refine ⟨_, he, fun a hf => ?_⟩
 have hO := hch21.back rfl hO' rfl
 refine S.op tb ?_ hf hO hm
 refine jn 2 (fun a w => ∃ (t26 : Bool) (s27 : Str) (i28 : Int), Fits 49 [(2, ptr b1 0), (4, ptr b9 0), (5, str r17.1), (7, str r20.1), (24, .bool t26)] a ∧ Dk.Own w0 [] w [.blk b9 [str s27, int i28] 139, .blk b1 [str [], str []] 69] ∧ zbx r17 r20 t26 s27 i28 = some R) rfl ?_ ?_
 refine br rfl (fun hc23 => ?_) fun hc23 => ?_
 exact en rfl fun a w hf hO hm => ⟨true, r20.2.f_s, r20.2.f_at, hf.sel rfl, hO, hm⟩
 refine rw_ rfl fun a w hf hO hm => ?_
 obtain ⟨r24, hr24, hm⟩ := ob hm
 have hch25 := (show Dk.Own w0 [] _ ([.blk b9 [str r20.2.f_s, int r20.2.f_at] 139] ++ [.blk b1 [str [], str []] 69]) from hO)
 have hfar25 := Dk.Own.far hch25 rfl hF hG.size
 have hlend25 := hch25.lend (S := []) rfl trivial
 have hcl25 := zai r20.2 58 r24 _ (hG.own hF hO) hfar25 hlend25 hr24
 refine zi (zj zk5 hf (vs := [ptr b9 0, zac 58]) rfl) rfl hf rfl rfl (hcl25) ?_
 rintro e w' ⟨he, hO'⟩
 refine ⟨_, he, fun a hf => ?_⟩
 have hO := hch25.back rfl hO' rfl
 refine S.op tb ?_ hf hO hm
 refine kn (b' := false) hc23 rfl ?_
 exact en rfl fun a w hf hO hm => ⟨!r24.1, r24.2.f_s, r24.2.f_at, hf.sel rfl, hO, hm⟩
 rintro a w ⟨t26, s27, i28, hf, hO, hm⟩
 rw [zbx] at hm
 refine S.co tb ?_ hf hO hm
 refine br rfl (fun hc29 => ?_) fun hc29 => ?_
 refine vl rfl rfl (fun a w hf hO => zs (vs := []) (v := .agg #[str [], str []]) hf rfl (by kernel_rfl)) ?_
 refine rw_ rfl fun a w hf hO hm => ?_
 refine ze (i := 1) (n := 2) zcQ rfl rfl rfl (by simp [Value.oneCell']) hf rfl rfl hO fun w hO => ?_
 refine S.op tb ?_ hf hO hm
 refine re_ rfl fun a w hf hO hm => ?_
 obtain rfl := Option.some.inj hm
 exact zg Tryz.results33 hf (.cell rfl (zf (n := 2) (vs := [str [], str []]) zgf zcQ rfl ((hO.blkSees (i := 1) rfl).cells (o := 0) (n := 2) rfl)) (.tmp rfl .nil)) ⟨rfl, hO.below⟩
 refine br rfl (fun hc32 => ?_) fun hc32 => ?_
 refine vl rfl rfl (fun a w hf hO => zs (vs := []) (v := .agg #[str [], str []]) hf rfl (by kernel_rfl)) ?_
 refine rw_ rfl fun a w hf hO hm => ?_
 refine ze (i := 1) (n := 2) zcQ rfl rfl rfl (by simp [Value.oneCell']) hf rfl rfl hO fun w hO => ?_
 refine S.op tb ?_ hf hO hm
 refine re_ rfl fun a w hf hO hm => ?_
 obtain rfl := Option.some.inj hm
 exact zg Tryz.results33 hf (.cell rfl (zf (n := 2) (vs := [str [], str []]) zgf zcQ rfl ((hO.blkSees (i := 1) rfl).cells (o := 0) (n := 2) rfl)) (.tmp rfl .nil)) ⟨rfl, hO.below⟩
 refine cl c_63 rfl (fun r34 w hr34 hO => zaE (⟨s27, i28⟩ : scan_Scanner) r34 _ (hG.own hF hO) (hO.blkSees (i := 0) rfl) hr34) fun r34 hr34 => ?_
 refine rw_ rfl fun a w hf hO hm => ?_
 refine zX (vs := [(0, str r34)]) (cs := [str r34]) (e := 9) (sz := 1) hf rfl rfl (fun w => by kernel_rfl) rfl rfl hO fun a b35 w hf hO => ?_
 refine S.op tb ?_ hf hO hm
 refine cl c_61 rfl (fun r36 w hr36 hO => zdb zbn ([r34] : List Str) r36 _ (hG.own hF hO) c_62 (fun y0 r w hG h => zeO (zfp y0 r w hG h)) (hO.rowSees (i := 0) rfl) (hO.rowCap (i := 0) rfl) hr36) fun r36 hr36 => ?_
 refine br rfl (fun hc38 => ?_) fun hc38 => ?_
 refine vl rfl rfl (fun a w hf hO => zs (vs := []) (v := .agg #[str [], str []]) hf rfl (by kernel_rfl)) ?_
 refine rw_ rfl fun a w hf hO hm => ?_
 refine ze (i := 2) (n := 2) zcQ rfl rfl rfl (by simp [Value.oneCell']) hf rfl rfl hO fun w hO => ?_
 refine S.op tb ?_ hf hO hm
 refine re_ rfl fun a w hf hO hm => ?_
 obtain rfl := Option.some.inj hm
 exact zg Tryz.results33 hf (.cell rfl (zf (n := 2) (vs := [str [], str []]) zgf zcQ rfl ((hO.blkSees (i := 2) rfl).cells (o := 0) (n := 2) rfl)) (.tmp rfl .nil)) ⟨rfl, hO.below⟩
 refine cl c_63 rfl (fun r41 w hr41 hO => zaE (⟨s27, i28⟩ : scan_Scanner) r41 _ (hG.own hF hO) (hO.blkSees (i := 1) rfl) hr41) fun r41 hr41 => ?_
 refine cl c_64 rfl (fun r42 w hr42 hO => zh1 r41 [32, 9] r42 _ (hG.own hF hO) hr42) fun r42 hr42 => ?_
 refine vl rfl rfl (fun a w hf hO => zs (vs := [(0, str r17.1), (1, str r42)]) (v := .agg #[str r17.1, str r42]) hf rfl (by kernel_rfl)) ?_
 refine rw_ rfl fun a w hf hO hm => ?_
 refine ze (i := 2) (n := 2) zcQ rfl rfl rfl (by simp [Value.oneCell']) hf rfl rfl hO fun w hO => ?_
 refine S.op tb ?_ hf hO hm
 refine re_ rfl fun a w hf hO hm => ?_
 obtain rfl := Option.some.inj hm
 exact zg Tryz.results33 hf (.cell rfl (zf (n := 2) (vs := [str r17.1, str r42]) zgf zcQ rfl ((hO.blkSees (i := 2) rfl).cells (o := 0) (n := 2) rfl)) (.tmp rfl .nil)) ⟨rfl, hO.below⟩

theorem zbi (x_s : List api_Field) (R : List api_Field) (w0 : World) (hG : zF w0) {x_s_p0 : Option Addr} {x_s_c0 : Nat} (hs0 : zag w0 x_s_p0 (cells za x_s)) (hc0 : x_s.length ≤ x_s_c0) (hm : zv x_s = some R) :
    Calls Tryz.prog 146 #[.slice x_s_p0 x_s.length x_s_c0] w0 fun e w' => ∃ (p0 : Option Addr) (c0 : Nat), e = .returned (.slice p0 R.length c0) ∧ Dk.Own w0 [] w' [.row (.slice p0 R.length c0) 69 2 R.length (cells za R)] := by
 rw [zv] at hm
 have hF : zO [] := zh
 have hO : Dk.Own w0 [] w0 [] := Dk.Own.refl w0
 have hO := hO.addShr hs0 (by simp [Res.shared])
 refine S.enter tb Tryz.func146 rfl Tryz.ntmps146 rfl ?_ hO hm
 refine nl 69 2 ?_
 refine vl rfl rfl (fun a w hf hO => zl7 (ad := x_s_p0) Tryz.underlying33 hf rfl rfl) ?_
 refine rc_ rfl fun a w hf hO hm => ?_
 rcases zfq (x_s_p0.isNone) with hc3 | hc3
 have hxhc3 : x_s = [] := zl8 (enc := za) (sz := 2) (fun _ => rfl) (by decide) (hO.sees (i := 1) rfl) hc3
 rw [hxhc3] at hm
 have hm : some [] = some R := by first | exact hm | (rw [hxhc3]; exact hm) | simpa [hxhc3] using hm
 refine zl9 hf rfl hc3 ?_
 refine S.co tb ?_ hf hO hm
 refine nl 69 2 ?_
 refine re_ rfl fun a w hf hO hm => ?_
 obtain rfl := Option.some.inj hm
 exact zg Tryz.results146 hf (.tmp rfl .nil) ⟨none, 0, rfl, (hO.sub (.cons_cons _ (.cons _ (.cons _ .slnil))))⟩
 refine zma hf rfl hc3 ?_
 refine S.co tb ?_ hf hO hm
 refine rw_ rfl fun a w hf hO hm => ?_
 refine zX (vs := []) (cs := []) (e := 69) (sz := 2) hf rfl rfl (fun w => by kernel_rfl) rfl rfl hO fun a b6 w hf hO => ?_
 refine S.op tb ?_ hf hO hm
 refine rw_ rfl fun a w hf hO hm => ?_
 obtain ⟨hg9, hm⟩ := og hm
 refine zis zmR (enc := za) (xs := []) (ys := x_s) (i := 0) (fun _ => rfl) rfl (hO.sees (i := 2) rfl) (by simp [za, Value.oneCell']) hg9 hf rfl rfl rfl hO fun a p7 c8 w hf hO => ?_
 refine S.op tb ?_ hf hO hm
 refine re_ rfl fun a w hf hO hm => ?_
 obtain rfl := Option.some.inj hm
 exact zg Tryz.results146 hf (.tmp rfl .nil) ⟨p7, c8, rfl, (hO.sub (.cons_cons _ (.cons _ (.cons _ .slnil))))⟩

theorem zlS (x_l : List api_Field) (R : bag_Bag) (w0 : World) (hG : zF w0) {x_l_p0 : Option Addr} {x_l_c0 : Nat} (hs0 : zag w0 x_l_p0 (cells za x_l)) (hc0 : x_l.length ≤ x_l_c0) (hm : zhJ x_l = some R) :
    Calls Tryz.prog 110 #[.slice x_l_p0 x_l.length x_l_c0] w0 fun e w' => ∃ (b0 : Nat) (p1 : Option Addr) (c1 : Nat), e = .returned (ptr b0 0) ∧ Dk.Own w0 [] w' [.blk b0 [.slice p1 R.f_l.length c1] 177, .row (.slice p1 R.f_l.length c1) 69 2 R.f_l.length (cells za R.f_l)] := by
 rw [zhJ] at hm
 have hF : zO [] := zh
 have hO : Dk.Own w0 [] w0 [] := Dk.Own.refl w0
 have hO := hO.addShr hs0 (by simp [Res.shared])
 refine S.enter tb Tryz.func110 rfl Tryz.ntmps110 rfl ?_ hO hm
 refine rw_ rfl fun a w hf hO hm => ?_
 obtain ⟨r2, hr2, hm⟩ := ob hm
 refine zi (zj c_146 hf (vs := [.slice x_l_p0 x_l.length x_l_c0]) rfl) rfl hf rfl rfl (zbi x_l r2 _ (hG.own hF hO) (hO.sees (i := 0) rfl) hc0 hr2) ?_
 rintro e w' ⟨p3, c4, he, hO'⟩
 refine ⟨_, he, fun a hf => ?_⟩
 have hO := hO.call hO' (by simp [Res.shared])
 refine S.op tb ?_ hf hO hm
 refine vl rfl rfl (fun a w hf hO => zs (vs := [(0, .slice p3 r2.length c4)]) (v := .agg #[.slice p3 r2.length c4]) hf rfl (by kernel_rfl)) ?_
 refine rw_ rfl fun a w hf hO hm => ?_
 refine zdC (v := .agg #[.slice p3 r2.length c4]) (cs := [.slice p3 r2.length c4]) rfl hf rfl rfl hO fun a b5 w hf hO => ?_
 refine S.op tb ?_ hf hO hm
 refine re_ rfl fun a w hf hO hm => ?_
 obtain rfl := Option.some.inj hm
 exact zg Tryz.results110 hf (.tmp rfl .nil) ⟨b5, p3, c4, rfl, (hO.sub (.cons_cons _ (.cons_cons _ (.cons _ .slnil))))⟩

theorem zin (x_b : bag_Bag) (R : List api_Field) (w0 : World) (hG : zF w0) {x_b_b0 : Nat} {x_b_p1 : Option Addr} {x_b_c1 : Nat} (hs0 : zag w0 (some ⟨x_b_b0, 0, none⟩) [.slice x_b_p1 x_b.f_l.length x_b_c1]) (hs1 : zag w0 x_b_p1 (cells za x_b.f_l)) (hc1 : x_b.f_l.length ≤ x_b_c1) (hm : zd1 x_b = some R) :
    Calls Tryz.prog 147 #[ptr x_b_b0 0] w0 fun e w' => ∃ (p0 : Option Addr) (c0 : Nat), e = .returned (.slice p0 R.length c0) ∧ Dk.Own w0 [] w' [.row (.slice p0 R.length c0) 69 2 R.length (cells za R)] := by
 rw [zd1] at hm
 have hF : zO [] := zh
 have hO : Dk.Own w0 [] w0 [] := Dk.Own.refl w0
 have hO := hO.addShr hs0 (by simp [Res.shared])
 have hO := hO.addShr hs1 (by simp [Res.shared])
 refine S.enter tb Tryz.func147 rfl Tryz.ntmps147 rfl ?_ hO hm
 refine nl 69 2 ?_
 refine vl rfl rfl (fun a w hf hO => zdD Tryz.underlying149 hf rfl rfl) ?_
 refine kn (b' := false) rfl rfl ?_
 refine vl rfl rfl (fun a w hf hO => zd (o := 0) zit (hO.sees (i := 2) rfl) rfl hf rfl) ?_
 refine rw_ rfl fun a w hf hO hm => ?_
 obtain ⟨r4, hr4, hm⟩ := ob hm
 refine zi (zj c_146 hf (vs := [.slice x_b_p1 x_b.f_l.length x_b_c1]) rfl) rfl hf rfl rfl (zbi x_b.f_l r4 _ (hG.own hF hO) (hO.sees (i := 1) rfl) hc1 hr4) ?_
 rintro e w' ⟨p5, c6, he, hO'⟩
 refine ⟨_, he, fun a hf => ?_⟩
 have hO := hO.call hO' (by simp [Res.shared])
 refine S.op tb ?_ hf hO hm
 refine re_ rfl fun a w hf hO hm => ?_
 obtain rfl := Option.some.inj hm
 exact zg Tryz.results147 hf (.tmp rfl .nil) ⟨p5, c6, rfl, (hO.sub (.cons_cons _ (.cons _ (.cons _ (.cons _ .slnil)))))⟩

theorem zjQ (x_a : Str) (x_b : Str) (R : Bool) (w0 : World) (hG : zF w0) (hm : zef x_a x_b = some R) :
    Calls Tryz.prog 148 #[str x_a, str x_b] w0 (Ret w0 (fun R => .bool R) R) := by
 rw [zef] at hm
 have hF : zO [] := zh
 have hO : Dk.Own w0 [] w0 [] := Dk.Own.refl w0
 refine S.enter tb Tryz.func148 rfl Tryz.ntmps148 rfl ?_ hO hm
 refine cl zm6 rfl (fun r2 w hr2 hO => ze6 x_a r2 _ (hG.own hF hO) hr2) fun r2 hr2 => ?_
 refine cl zm6 rfl (fun r3 w hr3 hO => ze6 x_b r3 _ (hG.own hF hO) hr3) fun r3 hr3 => ?_
 exact rt Tryz.results148 rfl

theorem zg9 (x_b : bag_Bag) (x_name : Str) (R : List Str) (w0 : World) (hG : zF w0) {x_b_b0 : Nat} {x_b_p1 : Option Addr} {x_b_c1 : Nat} (hs0 : zag w0 (some ⟨x_b_b0, 0, none⟩) [.slice x_b_p1 x_b.f_l.length x_b_c1]) (hs1 : zag w0 x_b_p1 (cells za x_b.f_l)) (hc1 : x_b.f_l.length ≤ x_b_c1) (hm : zcr x_b x_name = some R) :
    Calls Tryz.prog 111 #[ptr x_b_b0 0, str x_name] w0 fun e w' => ∃ (p0 : Option Addr) (c0 : Nat), e = .returned (.slice p0 R.length c0) ∧ Dk.Own w0 [] w' [.row (.slice p0 R.length c0) 9 1 R.length (cells zk R)] := by
 rw [zcr] at hm
 have hF : zO [] := zh
 have hO : Dk.Own w0 [] w0 [] := Dk.Own.refl w0
 have hO := hO.addShr hs0 (by simp [Res.shared])
 have hO := hO.addShr hs1 (by simp [Res.shared])
 refine S.enter tb Tryz.func111 rfl Tryz.ntmps111 rfl ?_ hO hm
 refine nl 9 1 ?_
 refine nl 9 1 ?_
 refine rw_ rfl fun a w hf hO hm => ?_
 obtain ⟨r3, hr3, hm⟩ := ob hm
 refine zi (zj c_147 hf (vs := [ptr x_b_b0 0]) rfl) rfl hf rfl rfl (zin x_b r3 _ (hG.own hF hO) (hO.sees (i := 3) rfl) (hO.sees (i := 2) rfl) hc1 hr3) ?_
 rintro e w' ⟨p4, c5, he, hO'⟩
 refine ⟨_, he, fun a hf => ?_⟩
 have hO := hO.call hO' (by simp [Res.shared])
 refine S.op tb ?_ hf hO hm
 refine lp (fun k a w => ∃ (p7 : Option Addr) (c8 : Nat) (l9 : List Str) (i10 : Int), Fits 26 [(1, str x_name), (5, .slice p7 l9.length c8), (9, .slice p4 r3.length c5), (10, int (r3.length : Int)), (11, int i10)] a ∧ Dk.Own w0 [] w [.row (.slice p4 r3.length c5) 69 2 r3.length (cells za r3), .row (.slice p7 l9.length c8) 9 1 l9.length (cells zk l9), .row (.slice none 0 0) 9 1 0 (cells zk []), .shr x_b_p1 (cells za x_b.f_l), .shr (some ⟨x_b_b0, 0, none⟩) ([.slice x_b_p1 x_b.f_l.length x_b_c1])] ∧ zab x_name r3 k l9 i10 = some R) rfl (fun a w hf hO hm => ⟨none, 0, [], 0, hf.sel rfl, hO, hm⟩) ?_
 rintro n1 a w ⟨p7, c8, l9, i10, hf, hO, hm⟩
 obtain _ | n1 := n1
 rw [zab] at hm
 cases hm
 rw [zab] at hm
 refine S.co tb ?_ hf hO hm
 refine br rfl (fun hc12 => ?_) fun hc12 => ?_
 refine jn 3 (fun a w => ∃ (p26 : Option Addr) (c27 : Nat) (l28 : List Str), Fits 26 [(1, str x_name), (5, .slice p26 l28.length c27), (9, .slice p4 r3.length c5), (10, int (r3.length : Int)), (11, int i10)] a ∧ Dk.Own w0 [] w [.row (.slice p4 r3.length c5) 69 2 r3.length (cells za r3), .row (.slice p26 l28.length c27) 9 1 l28.length (cells zk l28), .row (.slice none 0 0) 9 1 0 (cells zk []), .shr x_b_p1 (cells za x_b.f_l), .shr (some ⟨x_b_b0, 0, none⟩) ([.slice x_b_p1 x_b.f_l.length x_b_c1])] ∧ zbL (zab x_name r3 n1) i10 l28 = some R) rfl ?_ ?_
 refine rw_ rfl fun a w hf hO hm => ?_
 obtain ⟨x14, hx14, hm⟩ := ob hm
 obtain ⟨b15, o16, hix14, hSx14, hAx14⟩ := zdc (enc := za) (sz := 2) (xs := r3) 33 Tryz.underlying33 zcQ (by decide) (fun _ => rfl) hO (i := 0) rfl hx14
 refine zcv (zS hix14 hf rfl rfl) rfl hf rfl rfl fun a hf => ?_
 refine S.op tb ?_ hf hO hm
 refine vl rfl rfl (fun a w hf hO => zm (o := 0) (vs := [str x14.Name, str x14.Value]) zgf zcQ (hSx14 _ (hO.rowSees (i := 0) rfl)) rfl rfl hf rfl) ?_
 refine rw_ rfl fun a w hf hO hm => ?_
 refine zn zmP hf rfl hO fun a b17 w hf hO => ?_
 refine S.op tb ?_ hf hO hm
 refine rw_ rfl fun a w hf hO hm => ?_
 refine ze (i := 0) (n := 2) zcQ rfl rfl rfl (by simp [Value.oneCell']) hf rfl rfl hO fun w hO => ?_
 refine S.op tb ?_ hf hO hm
 refine vl rfl rfl (fun a w hf hO => zd (o := 0) zep (hO.blkSees (i := 0) rfl) rfl hf rfl) ?_
 refine cl c_148 rfl (fun r19 w hr19 hO => zjQ x14.Name x_name r19 _ (hG.own hF hO) hr19) fun r19 hr19 => ?_
 refine br rfl (fun hc21 => ?_) fun hc21 => ?_
 refine vl rfl rfl (fun a w hf hO => zd (o := 1) zep (hO.blkSees (i := 0) rfl) rfl hf rfl) ?_
 refine rw_ rfl fun a w hf hO hm => ?_
 refine zX (vs := [(0, str x14.Value)]) (cs := [str x14.Value]) (e := 9) (sz := 1) hf rfl rfl (fun w => by kernel_rfl) rfl rfl hO fun a b22 w hf hO => ?_
 refine S.op tb ?_ hf hO hm
 refine rw_ rfl fun a w hf hO hm => ?_
 obtain ⟨hg25, hm⟩ := og hm
 refine zen zmQ (enc := zk) (xs := l9) (ys := ([x14.Value] : List Str)) (i := 3) (fun _ => rfl) rfl (hO.rowSees (i := 0) rfl) (by simp [cells, zk, Value.oneCell']) hg25 hf rfl rfl rfl hO fun a p23 c24 w hf hO => ?_
 refine S.op tb ?_ hf hO hm
 exact en rfl fun a w hf hO hm => ⟨p23, c24, l9 ++ ([x14.Value] : List Str), hf.sel rfl, (hO.sub (.cons _ (.cons _ (.cons_cons _ (.cons_cons _ (.cons_cons _ (.cons_cons _ (.cons_cons _ .slnil)))))))), hm⟩
 exact en rfl fun a w hf hO hm => ⟨p7, c8, l9, hf.sel rfl, (hO.sub (.cons _ (.cons_cons _ (.cons_cons _ (.cons_cons _ (.cons_cons _ (.cons_cons _ .slnil))))))), hm⟩
 rintro a w ⟨p26, c27, l28, hf, hO, hm⟩
 rw [zbL] at hm
 refine S.co tb ?_ hf hO hm
 refine bi rfl fun i29 hi29 => ?_
 exact en rfl fun a w hf hO hm => ⟨_, Nat.lt_succ_self _, p26, c27, l28, i29, hf.sel rfl, hO, hm⟩
 refine re_ rfl fun a w hf hO hm => ?_
 obtain rfl := Option.some.inj hm
 exact zg Tryz.results111 hf (.tmp rfl .nil) ⟨p7, c8, rfl, (hO.sub (.cons _ (.cons_cons _ (.cons _ (.cons _ (.cons _ .slnil))))))⟩

theorem zjR (x_h : api_Head) (R : Bool) (w0 : World) (hG : zaz w0) {x_h_p0 : Option Addr} {x_h_c0 : Nat} (hs0 : zag w0 x_h_p0 (cells za x_h.Fields)) (hc0 : x_h.Fields.length ≤ x_h_c0) (hm : zeg x_h = some R) :
    Calls Tryz.prog 65 #[.agg #[int x_h.Kind, str x_h.Method, str x_h.Target, int x_h.Code, str x_h.Reason, int x_h.Minor, .slice x_h_p0 x_h.Fields.length x_h_c0]] w0 (Ret w0 (fun R => .bool R) R) := by
 rw [zeg] at hm
 have hF : zO [] := zh
 have hO : Dk.Own w0 [] w0 [] := Dk.Own.refl w0
 have hO := hO.addShr hs0 (by simp [Res.shared])
 refine S.enter tb Tryz.func65 rfl Tryz.ntmps65 rfl ?_ hO hm
 refine rw_ rfl fun a w hf hO hm => ?_
 refine zdC (v := .agg #[int x_h.Kind, str x_h.Method, str x_h.Target, int x_h.Code, str x_h.Reason, int x_h.Minor, .slice x_h_p0 x_h.Fields.length x_h_c0]) (cs := [int x_h.Kind, str x_h.Method, str x_h.Target, int x_h.Code, str x_h.Reason, int x_h.Minor, .slice x_h_p0 x_h.Fields.length x_h_c0]) rfl hf rfl rfl hO fun a b1 w hf hO => ?_
 refine S.op tb ?_ hf hO hm
 refine vl rfl rfl (fun a w hf hO => zd (o := 0) zjp (hO.blkSees (i := 0) rfl) rfl hf rfl) ?_
 refine br rfl (fun hc4 => ?_) fun hc4 => ?_
 exact rt Tryz.results65 rfl
 refine vl rfl rfl (fun a w hf hO => zd (o := 6) zit (hO.blkSees (i := 0) rfl) rfl hf rfl) ?_
 refine rw_ rfl fun a w hf hO hm => ?_
 obtain ⟨r7, hr7, hm⟩ := ob hm
 refine zi (zj c_110 hf (vs := [.slice x_h_p0 x_h.Fields.length x_h_c0]) rfl) rfl hf rfl rfl (zlS x_h.Fields r7 _ (hG.own hF hO).1 (hO.sees (i := 1) rfl) hc0 hr7) ?_
 rintro e w' ⟨b8, p9, c10, he, hO'⟩
 refine ⟨_, he, fun a hf => ?_⟩
 have hO := hO.call hO' (by simp [Res.shared])
 refine S.op tb ?_ hf hO hm
 refine rw_ rfl fun a w hf hO hm => ?_
 obtain ⟨r11, hr11, hm⟩ := ob hm
 refine zi (zj c_111 hf (vs := [ptr b8 0, str [72, 111, 115, 116]]) rfl) rfl hf rfl rfl (zg9 r7 [72, 111, 115, 116] r11 _ (hG.own hF hO).1 (hO.blkSees (i := 0) rfl) (hO.rowSees (i := 1) rfl) (hO.rowCap (i := 1) rfl) hr11) ?_
 rintro e w' ⟨p12, c13, he, hO'⟩
 refine ⟨_, he, fun a hf => ?_⟩
 have hO := hO.call hO' (by simp [Res.shared])
 refine S.op tb ?_ hf hO hm
 refine jn 1 (fun a w => ∃ (t16 : Bool), Fits 43 [(3, .slice p12 r11.length c13), (24, .bool t16)] a ∧ Dk.Own w0 [] w [.row (.slice p12 r11.length c13) 9 1 r11.length (cells zk r11), .blk b8 [.slice p9 r7.f_l.length c10] 177, .row (.slice p9 r7.f_l.length c10) 69 2 r7.f_l.length (cells za r7.f_l), .blk b1 [int x_h.Kind, str x_h.Method, str x_h.Target, int x_h.Code, str x_h.Reason, int x_h.Minor, .slice x_h_p0 x_h.Fields.length x_h_c0] 35, .shr x_h_p0 (cells za x_h.Fields)] ∧ zbO r11 t16 = some R) rfl ?_ ?_
 refine br rfl (fun hc15 => ?_) fun hc15 => ?_
 exact en rfl fun a w hf hO hm => ⟨true, hf.sel rfl, hO, hm⟩
 refine vl rfl rfl (fun a w hf hO => zd (o := 5) zfx (hO.blkSees (i := 3) rfl) rfl hf rfl) ?_
 exact en rfl fun a w hf hO hm => ⟨decide ((r11.length : Int) < x_h.Minor), hf.sel rfl, hO, hm⟩
 rintro a w ⟨t16, hf, hO, hm⟩
 rw [zbO] at hm
 refine S.co tb ?_ hf hO hm
 refine br rfl (fun hc17 => ?_) fun hc17 => ?_
 exact rt Tryz.results65 rfl
 refine lp (fun k a w => ∃ (i21 : Int), Fits 43 [(25, .slice p12 r11.length c13), (26, int (r11.length : Int)), (27, int i21)] a ∧ Dk.Own w0 [] w [.row (.slice p12 r11.length c13) 9 1 r11.length (cells zk r11), .blk b8 [.slice p9 r7.f_l.length c10] 177, .row (.slice p9 r7.f_l.length c10) 69 2 r7.f_l.length (cells za r7.f_l), .blk b1 [int x_h.Kind, str x_h.Method, str x_h.Target, int x_h.Code, str x_h.Reason, int x_h.Minor, .slice x_h_p0 x_h.Fields.length x_h_c0] 35, .shr x_h_p0 (cells za x_h.Fields)] ∧ zaP r11 k i21 = some R) rfl (fun a w hf hO hm => ⟨0, hf.sel rfl, hO, hm⟩) ?_
 rintro n2 a w ⟨i21, hf, hO, hm⟩
 obtain _ | n2 := n2
 rw [zaP] at hm
 cases hm
 rw [zaP] at hm
 refine S.co tb ?_ hf hO hm
 refine br rfl (fun hc23 => ?_) fun hc23 => ?_
 refine rw_ rfl fun a w hf hO hm => ?_
 obtain ⟨x25, hx25, hm⟩ := ob hm
 obtain ⟨b26, o27, hix25, hSx25, hAx25⟩ := zdc (enc := zk) (sz := 1) (xs := r11) 31 Tryz.underlying31 zf4 (by decide) (fun _ => rfl) hO (i := 0) rfl hx25
 refine zcv (zS hix25 hf rfl rfl) rfl hf rfl rfl fun a hf => ?_
 refine S.op tb ?_ hf hO hm
 refine vl rfl rfl (fun a w hf hO => zd (o := 0) zep (hSx25 _ (hO.rowSees (i := 0) rfl)) rfl hf rfl) ?_
 refine cl zm4 rfl (fun r29 w hr29 hO => zdA x25 r29 _ (hG.own hF hO) hr29) fun r29 hr29 => ?_
 refine rw_ rfl fun a w hf hO hm => ?_
 refine zn zfN hf rfl hO fun a b30 w hf hO => ?_
 refine S.op tb ?_ hf hO hm
 refine rw_ rfl fun a w hf hO hm => ?_
 refine ze (i := 0) (n := 3) zbB rfl rfl rfl (by simp [Value.oneCell']) hf rfl rfl hO fun w hO => ?_
 refine S.op tb ?_ hf hO hm
 refine jn 5 (fun a w => ∃ (t33 : Bool), Fits 43 [(25, .slice p12 r11.length c13), (26, int (r11.length : Int)), (27, int i21), (41, .bool t33)] a ∧ Dk.Own w0 [] w [.blk b30 [int r29.1.Kind, str r29.1.Name, int r29.1.Port] 107, .row (.slice p12 r11.length c13) 9 1 r11.length (cells zk r11), .blk b8 [.slice p9 r7.f_l.length c10] 177, .row (.slice p9 r7.f_l.length c10) 69 2 r7.f_l.length (cells za r7.f_l), .blk b1 [int x_h.Kind, str x_h.Method, str x_h.Target, int x_h.Code, str x_h.Reason, int x_h.Minor, .slice x_h_p0 x_h.Fields.length x_h_c0] 35, .shr x_h_p0 (cells za x_h.Fields)] ∧ zcM (zaP r11 n2) i21 t33 = some R) rfl ?_ ?_
 refine br rfl (fun hc32 => ?_) fun hc32 => ?_
 exact en rfl fun a w hf hO hm => ⟨!(x25 == []), hf.sel rfl, hO, hm⟩
 exact en rfl fun a w hf hO hm => ⟨false, hf.sel rfl, hO, hm⟩
 rintro a w ⟨t33, hf, hO, hm⟩
 rw [zcM] at hm
 refine S.co tb ?_ hf hO hm
 refine br rfl (fun hc34 => ?_) fun hc34 => ?_
 exact rt Tryz.results65 rfl
 refine bi rfl fun i37 hi37 => ?_
 exact en rfl fun a w hf hO hm => ⟨_, Nat.lt_succ_self _, i37, hf.sel rfl, (hO.sub (.cons _ (.cons_cons _ (.cons_cons _ (.cons_cons _ (.cons_cons _ (.cons_cons _ .slnil))))))), hm⟩
 exact rt Tryz.results65 rfl

theorem zjS (x_h : api_Head) (R : Int) (w0 : World) (hG : zaz w0) {x_h_p0 : Option Addr} {x_h_c0 : Nat} (hs0 : zag w0 x_h_p0 (cells za x_h.Fields)) (hc0 : x_h.Fields.length ≤ x_h_c0) (hm : zeh x_h = some R) :
    Calls Tryz.prog 34 #[.agg #[int x_h.Kind, str x_h.Method, str x_h.Target, int x_h.Code, str x_h.Reason, int x_h.Minor, .slice x_h_p0 x_h.Fields.length x_h_c0]] w0 (Ret w0 (fun R => int R) R) := by
 rw [zeh] at hm
 have hF : zO [] := zh
 have hO : Dk.Own w0 [] w0 [] := Dk.Own.refl w0
 have hO := hO.addShr hs0 (by simp [Res.shared])
 refine S.enter tb Tryz.func34 rfl Tryz.ntmps34 rfl ?_ hO hm
 refine rw_ rfl fun a w hf hO hm => ?_
 refine zdC (v := .agg #[int x_h.Kind, str x_h.Method, str x_h.Target, int x_h.Code, str x_h.Reason, int x_h.Minor, .slice x_h_p0 x_h.Fields.length x_h_c0]) (cs := [int x_h.Kind, str x_h.Method, str x_h.Target, int x_h.Code, str x_h.Reason, int x_h.Minor, .slice x_h_p0 x_h.Fields.length x_h_c0]) rfl hf rfl rfl hO fun a b1 w hf hO => ?_
 refine S.op tb ?_ hf hO hm
 refine vl rfl rfl (fun a w hf hO => zd (o := 6) zit (hO.blkSees (i := 0) rfl) rfl hf rfl) ?_
 refine br rfl (fun hc4 => ?_) fun hc4 => ?_
 exact rt Tryz.results34 rfl
 refine vl rfl rfl (fun a w hf hO => zm (o := 0) (vs := [int x_h.Kind, str x_h.Method, str x_h.Target, int x_h.Code, str x_h.Reason, int x_h.Minor, .slice x_h_p0 x_h.Fields.length x_h_c0]) zak zo (hO.blkSees (i := 0) rfl) rfl rfl hf rfl) ?_
 refine cl c_65 rfl (fun r6 w hr6 hO => zjR x_h r6 _ (hG.own hF hO) (hO.sees (i := 1) rfl) hc0 hr6) fun r6 hr6 => ?_
 refine br rfl (fun hc8 => ?_) fun hc8 => ?_
 exact rt Tryz.results34 rfl
 exact rt Tryz.results34 rfl

theorem zdq (x_a0 : Int) (x_a1 : Str) (x_a2 : Int) (R : api_Head × Int) (w0 : World) (hG : zaz w0) (hm : zb4 x_a0 x_a1 x_a2 = some R) :
    Calls Tryz.prog 14 #[int x_a0, str x_a1, int x_a2] w0 fun e w' => ∃ (p0 : Option Addr) (c0 : Nat), e = .returned (.tuple #[.agg #[int R.1.Kind, str R.1.Method, str R.1.Target, int R.1.Code, str R.1.Reason, int R.1.Minor, .slice p0 R.1.Fields.length c0], int R.2]) ∧ Dk.Own w0 [] w' [.row (.slice p0 R.1.Fields.length c0) 69 2 R.1.Fields.length (cells za R.1.Fields)] := by
 rw [zb4] at hm
 have hF : zO [] := zh
 have hO : Dk.Own w0 [] w0 [] := Dk.Own.refl w0
 refine S.enter tb Tryz.func14 rfl Tryz.ntmps14 rfl ?_ hO hm
 refine rw_ rfl fun a w hf hO hm => ?_
 refine zn zcs hf rfl hO fun a b1 w hf hO => ?_
 have hO := hO.nilRow 69 2
 refine S.op tb ?_ hf hO hm
 refine rw_ rfl fun a w hf hO hm => ?_
 obtain ⟨r3, hr3, hm⟩ := ob hm
 refine zi (zj c_30 hf (vs := [int x_a0, str []]) rfl) rfl hf rfl rfl (zde x_a0 [] r3 _ (hG.own hF hO) hr3) ?_
 rintro e w' ⟨p4, c5, he, hO'⟩
 refine ⟨_, he, fun a hf => ?_⟩
 have hO := hO.call hO' (by simp [Res.shared])
 refine S.op tb ?_ hf hO hm
 refine rw_ rfl fun a w hf hO hm => ?_
 refine zn zcs hf rfl hO fun a b6 w hf hO => ?_
 have hO := hO.nilRow 69 2
 refine S.op tb ?_ hf hO hm
 refine rw_ rfl fun a w hf hO hm => ?_
 refine ze (i := 1) (n := 7) zo rfl rfl rfl (by simp [Value.oneCell']) hf rfl rfl hO fun w hO => ?_
 refine S.op tb ?_ hf hO hm
 refine br rfl (fun hc9 => ?_) fun hc9 => ?_
 refine vl rfl rfl (fun a w hf hO => zs (vs := []) (v := .agg #[int 0, str [], str [], int 0, str [], int 0, .slice none 0 0]) hf rfl (by kernel_rfl)) ?_
 refine rw_ rfl fun a w hf hO hm => ?_
 refine ze (i := 4) (n := 7) zo rfl rfl rfl (by simp [Value.oneCell']) hf rfl rfl hO fun w hO => ?_
 have hO := hO.nilRow 69 2
 refine S.op tb ?_ hf hO hm
 refine re_ rfl fun a w hf hO hm => ?_
 obtain rfl := Option.some.inj hm
 exact zg Tryz.results14 hf (.cell rfl (zf (n := 7) (vs := [int 0, str [], str [], int 0, str [], int 0, .slice none 0 0]) zak zo rfl ((hO.blkSees (i := 5) rfl).cells (o := 0) (n := 7) rfl)) (.tmp rfl .nil)) ⟨none, 0, rfl, (hO.sub (.cons_cons _ (.cons _ (.cons _ (.cons _ (.cons _ (.cons _ .slnil)))))))⟩
 refine cl c_31 rfl (fun r12 w hr12 hO => zdR x_a1 [13, 10, 13, 10] r12 _ (hG.own hF hO).1 hr12) fun r12 hr12 => ?_
 refine br rfl (fun hc15 => ?_) fun hc15 => ?_
 refine vl rfl rfl (fun a w hf hO => zs (vs := []) (v := .agg #[int 0, str [], str [], int 0, str [], int 0, .slice none 0 0]) hf rfl (by kernel_rfl)) ?_
 refine rw_ rfl fun a w hf hO hm => ?_
 refine ze (i := 4) (n := 7) zo rfl rfl rfl (by simp [Value.oneCell']) hf rfl rfl hO fun w hO => ?_
 have hO := hO.nilRow 69 2
 refine S.op tb ?_ hf hO hm
 refine re_ rfl fun a w hf hO hm => ?_
 obtain rfl := Option.some.inj hm
 exact zg Tryz.results14 hf (.cell rfl (zf (n := 7) (vs := [int 0, str [], str [], int 0, str [], int 0, .slice none 0 0]) zak zo rfl ((hO.blkSees (i := 5) rfl).cells (o := 0) (n := 7) rfl)) (.tmp rfl .nil)) ⟨none, 0, rfl, (hO.sub (.cons_cons _ (.cons _ (.cons _ (.cons _ (.cons _ (.cons _ .slnil)))))))⟩
 refine jn 2 (fun a w => ∃ (t19 : Bool), Fits 93 [(0, int x_a0), (1, str x_a1), (6, ptr b1 0), (10, int r12), (36, .bool t19)] a ∧ Dk.Own w0 [] w [.row (.slice none 0 0) 69 2 0 (cells za []), .blk b6 [int r3.1.Kind, str r3.1.Method, str r3.1.Target, int r3.1.Code, str r3.1.Reason, int r3.1.Minor, .slice p4 r3.1.Fields.length c5] 35, .row (.slice p4 r3.1.Fields.length c5) 69 2 r3.1.Fields.length (cells za r3.1.Fields), .row (.slice none 0 0) 69 2 0 (cells za []), .blk b1 [int 0, str [], str [], int 0, str [], int 0, .slice none 0 0] 35] ∧ zch x_a0 x_a1 r12 t19 = some R) rfl ?_ ?_
 refine br rfl (fun hc17 => ?_) fun hc17 => ?_
 exact en rfl fun a w hf hO hm => ⟨true, hf.sel rfl, hO, hm⟩
 refine bi rfl fun i18 hi18 => ?_
 exact en rfl fun a w hf hO hm => ⟨!(i18 == (x_a1.length : Int)), hf.sel rfl, hO, hm⟩
 rintro a w ⟨t19, hf, hO, hm⟩
 rw [zch] at hm
 refine S.co tb ?_ hf hO hm
 refine br rfl (fun hc20 => ?_) fun hc20 => ?_
 refine vl rfl rfl (fun a w hf hO => zs (vs := []) (v := .agg #[int 0, str [], str [], int 0, str [], int 0, .slice none 0 0]) hf rfl (by kernel_rfl)) ?_
 refine rw_ rfl fun a w hf hO hm => ?_
 refine ze (i := 4) (n := 7) zo rfl rfl rfl (by simp [Value.oneCell']) hf rfl rfl hO fun w hO => ?_
 have hO := hO.nilRow 69 2
 refine S.op tb ?_ hf hO hm
 refine re_ rfl fun a w hf hO hm => ?_
 obtain rfl := Option.some.inj hm
 exact zg Tryz.results14 hf (.cell rfl (zf (n := 7) (vs := [int 0, str [], str [], int 0, str [], int 0, .slice none 0 0]) zak zo rfl ((hO.blkSees (i := 5) rfl).cells (o := 0) (n := 7) rfl)) (.tmp rfl .nil)) ⟨none, 0, rfl, (hO.sub (.cons_cons _ (.cons _ (.cons _ (.cons _ (.cons _ (.cons _ .slnil)))))))⟩
 refine bi rfl fun s23 hs23 => ?_
 refine rw_ rfl fun a w hf hO hm => ?_
 obtain ⟨r24, hr24, hm⟩ := ob hm
 refine zi (zj c_32 hf (vs := [str s23, str [13, 10]]) rfl) rfl hf rfl rfl (zfn s23 [13, 10] r24 _ (hG.own hF hO).1 hr24) ?_
 rintro e w' ⟨p25, c26, he, hO'⟩
 refine ⟨_, he, fun a hf => ?_⟩
 have hO := hO.call hO' (by simp [Res.shared])
 refine S.op tb ?_ hf hO hm
 refine rw_ rfl fun a w hf hO hm => ?_
 obtain ⟨x28, hx28, hm⟩ := ob hm
 obtain ⟨b29, o30, hix28, hSx28, hAx28⟩ := zdc (enc := zk) (sz := 1) (xs := r24) 31 Tryz.underlying31 zf4 (by decide) (fun _ => rfl) hO (i := 0) rfl hx28
 refine zcv (zS hix28 hf rfl rfl) rfl hf rfl rfl fun a hf => ?_
 refine S.op tb ?_ hf hO hm
 refine vl rfl rfl (fun a w hf hO => zd (o := 0) zep (hSx28 _ (hO.rowSees (i := 0) rfl)) rfl hf rfl) ?_
 refine rw_ rfl fun a w hf hO hm => ?_
 obtain ⟨r31, hr31, hm⟩ := ob hm
 refine zi (zj c_30 hf (vs := [int x_a0, str x28]) rfl) rfl hf rfl rfl (zde x_a0 x28 r31 _ (hG.own hF hO) hr31) ?_
 rintro e w' ⟨p32, c33, he, hO'⟩
 refine ⟨_, he, fun a hf => ?_⟩
 have hO := hO.call hO' (by simp [Res.shared])
 refine S.op tb ?_ hf hO hm
 refine rw_ rfl fun a w hf hO hm => ?_
 refine zn zcs hf rfl hO fun a b34 w hf hO => ?_
 have hO := hO.nilRow 69 2
 refine S.op tb ?_ hf hO hm
 refine rw_ rfl fun a w hf hO hm => ?_
 refine ze (i := 1) (n := 7) zo rfl rfl rfl (by simp [Value.oneCell']) hf rfl rfl hO fun w hO => ?_
 refine S.op tb ?_ hf hO hm
 refine br rfl (fun hc37 => ?_) fun hc37 => ?_
 refine vl rfl rfl (fun a w hf hO => zs (vs := []) (v := .agg #[int 0, str [], str [], int 0, str [], int 0, .slice none 0 0]) hf rfl (by kernel_rfl)) ?_
 refine rw_ rfl fun a w hf hO hm => ?_
 refine ze (i := 8) (n := 7) zo rfl rfl rfl (by simp [Value.oneCell']) hf rfl rfl hO fun w hO => ?_
 have hO := hO.nilRow 69 2
 refine S.op tb ?_ hf hO hm
 refine re_ rfl fun a w hf hO hm => ?_
 obtain rfl := Option.some.inj hm
 exact zg Tryz.results14 hf (.cell rfl (zf (n := 7) (vs := [int 0, str [], str [], int 0, str [], int 0, .slice none 0 0]) zak zo rfl ((hO.blkSees (i := 9) rfl).cells (o := 0) (n := 7) rfl)) (.tmp rfl .nil)) ⟨none, 0, rfl, (hO.sub (.cons_cons _ (.cons _ (.cons _ (.cons _ (.cons _ (.cons _ (.cons _ (.cons _ (.cons _ (.cons _ .slnil)))))))))))⟩
 refine jn 0 (fun a w => ∃ (i75 : Int) (s76 : Str) (s77 : Str) (i78 : Int) (s79 : Str) (i80 : Int) (p81 : Option Addr) (c82 : Nat) (l83 : List api_Field), Fits 93 [(6, ptr b1 0), (12, ptr b34 0)] a ∧ Dk.Own w0 [] w [.row (.slice none 0 0) 69 2 0 (cells za []), .blk b34 [int i75, str s76, str s77, int i78, str s79, int i80, .slice p81 l83.length c82] 35, .row (.slice p81 l83.length c82) 69 2 l83.length (cells za l83), .shr p25 (cells zk r24), .row (.slice none 0 0) 69 2 0 (cells za []), .blk b6 [int r3.1.Kind, str r3.1.Method, str r3.1.Target, int r3.1.Code, str r3.1.Reason, int r3.1.Minor, .slice p4 r3.1.Fields.length c5] 35, .row (.slice p4 r3.1.Fields.length c5) 69 2 r3.1.Fields.length (cells za r3.1.Fields), .row (.slice none 0 0) 69 2 0 (cells za []), .blk b1 [int 0, str [], str [], int 0, str [], int 0, .slice none 0 0] 35] ∧ zcN i75 s76 s77 i78 s79 i80 l83 = some R) rfl ?_ ?_
 refine rw_ rfl fun a w hf hO hm => ?_
 obtain ⟨l41, hl41, hm⟩ := ob hm
 have hcr40 := hO.rowCap (i := 3) rfl
 have hO := hO.giveRow (i := 3) rfl
 obtain ⟨p42, c43, hrl41, hVl41, hCl41, hPl41⟩ := zlV (enc := zk) (xs := r24) 31 Tryz.underlying31 zf4 (fun _ => rfl) (hO.sees (i := 3) rfl) hcr40 hl41
 have hO := hO.share (i := 3) rfl hPl41 (hVl41 _ (hO.sees (i := 3) rfl))
 refine zcv (zjU Tryz.underlying31 hrl41 hf rfl rfl) rfl hf rfl rfl fun a hf => ?_
 refine S.op tb ?_ hf hO hm
 refine lp (fun k a w => ∃ (i45 : Int) (s46 : Str) (s47 : Str) (i48 : Int) (s49 : Str) (i50 : Int) (p51 : Option Addr) (c52 : Nat) (l53 : List api_Field) (i54 : Int), Fits 93 [(6, ptr b1 0), (12, ptr b34 0), (64, .slice p42 l41.length c43), (65, int (l41.length : Int)), (66, int i54)] a ∧ Dk.Own w0 [] w [.shr p42 (cells zk l41), .row (.slice none 0 0) 69 2 0 (cells za []), .blk b34 [int i45, str s46, str s47, int i48, str s49, int i50, .slice p51 l53.length c52] 35, .row (.slice p51 l53.length c52) 69 2 l53.length (cells za l53), .shr p25 (cells zk r24), .row (.slice none 0 0) 69 2 0 (cells za []), .blk b6 [int r3.1.Kind, str r3.1.Method, str r3.1.Target, int r3.1.Code, str r3.1.Reason, int r3.1.Minor, .slice p4 r3.1.Fields.length c5] 35, .row (.slice p4 r3.1.Fields.length c5) 69 2 r3.1.Fields.length (cells za r3.1.Fields), .row (.slice none 0 0) 69 2 0 (cells za []), .blk b1 [int 0, str [], str [], int 0, str [], int 0, .slice none 0 0] 35] ∧ zbP l41 k i45 s46 s47 i48 s49 i50 l53 i54 = some R) rfl (fun a w hf hO hm => ⟨r31.1.Kind, r31.1.Method, r31.1.Target, r31.1.Code, r31.1.Reason, r31.1.Minor, p32, c33, r31.1.Fields, 0, hf.sel rfl, hO, hm⟩) ?_
 rintro n2 a w ⟨i45, s46, s47, i48, s49, i50, p51, c52, l53, i54, hf, hO, hm⟩
 obtain _ | n2 := n2
 rw [zbP] at hm
 cases hm
 rw [zbP] at hm
 refine S.co tb ?_ hf hO hm
 refine br rfl (fun hc56 => ?_) fun hc56 => ?_
 refine rw_ rfl fun a w hf hO hm => ?_
 obtain ⟨x58, hx58, hm⟩ := ob hm
 obtain ⟨b59, o60, hix58, hSx58⟩ := zfM (enc := zk) (sz := 1) (xs := l41) 31 Tryz.underlying31 zf4 (by decide) (fun _ => rfl) (hO.sees (i := 0) rfl) hx58
 refine zcv (zS hix58 hf rfl rfl) rfl hf rfl rfl fun a hf => ?_
 refine S.op tb ?_ hf hO hm
 refine vl rfl rfl (fun a w hf hO => zd (o := 0) zep (hSx58 _ (hO.sees (i := 0) rfl)) rfl hf rfl) ?_
 refine cl c_33 rfl (fun r62 w hr62 hO => zeF x58 r62 _ (hG.own hF hO).1 hr62) fun r62 hr62 => ?_
 refine rw_ rfl fun a w hf hO hm => ?_
 refine zn zmP hf rfl hO fun a b63 w hf hO => ?_
 refine S.op tb ?_ hf hO hm
 refine rw_ rfl fun a w hf hO hm => ?_
 refine ze (i := 0) (n := 2) zcQ rfl rfl rfl (by simp [Value.oneCell']) hf rfl rfl hO fun w hO => ?_
 refine S.op tb ?_ hf hO hm
 refine br rfl (fun hc66 => ?_) fun hc66 => ?_
 refine vl rfl rfl (fun a w hf hO => zs (vs := []) (v := .agg #[int 0, str [], str [], int 0, str [], int 0, .slice none 0 0]) hf rfl (by kernel_rfl)) ?_
 refine rw_ rfl fun a w hf hO hm => ?_
 refine ze (i := 10) (n := 7) zo rfl rfl rfl (by simp [Value.oneCell']) hf rfl rfl hO fun w hO => ?_
 have hO := hO.nilRow 69 2
 refine S.op tb ?_ hf hO hm
 refine re_ rfl fun a w hf hO hm => ?_
 obtain rfl := Option.some.inj hm
 exact zg Tryz.results14 hf (.cell rfl (zf (n := 7) (vs := [int 0, str [], str [], int 0, str [], int 0, .slice none 0 0]) zak zo rfl ((hO.blkSees (i := 11) rfl).cells (o := 0) (n := 7) rfl)) (.tmp rfl .nil)) ⟨none, 0, rfl, (hO.sub (.cons_cons _ (.cons _ (.cons _ (.cons _ (.cons _ (.cons _ (.cons _ (.cons _ (.cons _ (.cons _ (.cons _ (.cons _ .slnil)))))))))))))⟩
 refine vl rfl rfl (fun a w hf hO => zd (o := 6) zit (hO.blkSees (i := 3) rfl) rfl hf rfl) ?_
 refine vl rfl rfl (fun a w hf hO => zm (o := 0) (vs := [str r62.1.Name, str r62.1.Value]) zgf zcQ (hO.blkSees (i := 0) rfl) rfl rfl hf rfl) ?_
 refine rw_ rfl fun a w hf hO hm => ?_
 refine zX (vs := [(0, .agg #[str r62.1.Name, str r62.1.Value])]) (cs := [str r62.1.Name, str r62.1.Value]) (e := 69) (sz := 2) hf rfl rfl (fun w => by kernel_rfl) rfl rfl hO fun a b69 w hf hO => ?_
 refine S.op tb ?_ hf hO hm
 refine rw_ rfl fun a w hf hO hm => ?_
 obtain ⟨hg72, hm⟩ := og hm
 refine zen zmR (enc := za) (xs := l53) (ys := [r62.1]) (i := 5) (fun _ => rfl) rfl (hO.rowSees (i := 0) rfl) (by simp [cells, za, Value.oneCell']) hg72 hf rfl rfl rfl hO fun a p70 c71 w hf hO => ?_
 refine S.op tb ?_ hf hO hm
 refine rw_ rfl fun a w hf hO hm => ?_
 refine zW (i := 4) (o := 6) (v := .slice p70 ((l53 ++ [r62.1]).length) c71) sz_33 rfl rfl rfl rfl hf rfl rfl hO fun w hO => ?_
 refine S.op tb ?_ hf hO hm
 refine bi rfl fun i74 hi74 => ?_
 exact en rfl fun a w hf hO hm => ⟨_, Nat.lt_succ_self _, i45, s46, s47, i48, s49, i50, p70, c71, l53 ++ [r62.1], i74, hf.sel rfl, (hO.sub (.cons _ (.cons _ (.cons_cons _ (.cons_cons _ (.cons_cons _ (.cons_cons _ (.cons_cons _ (.cons_cons _ (.cons_cons _ (.cons_cons _ (.cons_cons _ (.cons_cons _ .slnil))))))))))))), hm⟩
 exact en rfl fun a w hf hO hm => ⟨i45, s46, s47, i48, s49, i50, p51, c52, l53, hf.sel rfl, (hO.sub (.cons _ (.cons_cons _ (.cons_cons _ (.cons_cons _ (.cons_cons _ (.cons_cons _ (.cons_cons _ (.cons_cons _ (.cons_cons _ (.cons_cons _ .slnil))))))))))), hm⟩
 rintro a w ⟨i75, s76, s77, i78, s79, i80, p81, c82, l83, hf, hO, hm⟩
 rw [zcN] at hm
 refine S.co tb ?_ hf hO hm
 refine vl rfl rfl (fun a w hf hO => zm (o := 0) (vs := [int i75, str s76, str s77, int i78, str s79, int i80, .slice p81 l83.length c82]) zak zo (hO.blkSees (i := 1) rfl) rfl rfl hf rfl) ?_
 refine cl c_34 rfl (fun r84 w hr84 hO => zjS (⟨i75, s76, s77, i78, s79, i80, l83⟩ : api_Head) r84 _ (hG.own hF hO) (hO.rowSees (i := 2) rfl) (hO.rowCap (i := 2) rfl) hr84) fun r84 hr84 => ?_
 refine br rfl (fun hc87 => ?_) fun hc87 => ?_
 refine vl rfl rfl (fun a w hf hO => zs (vs := []) (v := .agg #[int 0, str [], str [], int 0, str [], int 0, .slice none 0 0]) hf rfl (by kernel_rfl)) ?_
 refine rw_ rfl fun a w hf hO hm => ?_
 refine ze (i := 8) (n := 7) zo rfl rfl rfl (by simp [Value.oneCell']) hf rfl rfl hO fun w hO => ?_
 have hO := hO.nilRow 69 2
 refine S.op tb ?_ hf hO hm
 refine re_ rfl fun a w hf hO hm => ?_
 obtain rfl := Option.some.inj hm
 exact zg Tryz.results14 hf (.cell rfl (zf (n := 7) (vs := [int 0, str [], str [], int 0, str [], int 0, .slice none 0 0]) zak zo rfl ((hO.blkSees (i := 9) rfl).cells (o := 0) (n := 7) rfl)) (.tmp rfl .nil)) ⟨none, 0, rfl, (hO.sub (.cons_cons _ (.cons _ (.cons _ (.cons _ (.cons _ (.cons _ (.cons _ (.cons _ (.cons _ (.cons _ .slnil)))))))))))⟩
 refine vl rfl rfl (fun a w hf hO => zm (o := 0) (vs := [int i75, str s76, str s77, int i78, str s79, int i80, .slice p81 l83.length c82]) zak zo (hO.blkSees (i := 1) rfl) rfl rfl hf rfl) ?_
 refine rw_ rfl fun a w hf hO hm => ?_
 refine ze (i := 8) (n := 7) zo rfl rfl rfl (by simp [Value.oneCell']) hf rfl rfl hO fun w hO => ?_
 refine S.op tb ?_ hf hO hm
 refine re_ rfl fun a w hf hO hm => ?_
 obtain rfl := Option.some.inj hm
 exact zg Tryz.results14 hf (.cell rfl (zf (n := 7) (vs := [int i75, str s76, str s77, int i78, str s79, int i80, .slice p81 l83.length c82]) zak zo rfl ((hO.blkSees (i := 8) rfl).cells (o := 0) (n := 7) rfl)) (.tmp rfl .nil)) ⟨p81, c82, rfl, (hO.sub (.cons _ (.cons _ (.cons_cons _ (.cons _ (.cons _ (.cons _ (.cons _ (.cons _ (.cons _ .slnil))))))))))⟩

theorem zgr (x_a : accum_Accum) (x_s : Str) (R : Bool × Int × accum_Accum) (w0 : World) (hG : zaz w0) {x_a_b0 : Nat} {x_a_p1 : Option Addr} {x_a_c1 : Nat} {x_a_p2 : Option Addr} {x_a_c2 : Nat} {F : List Nat} (hF : zO F) (hO : Dk.Own w0 F w0 [.blk x_a_b0 [int x_a.f_kind, int x_a.f_limit, .slice x_a_p1 x_a.f_buf.length x_a_c1, int x_a.f_from, .bool x_a.f_took, int x_a.f_bad, .bool x_a.f_whole, int x_a.f_got.Kind, str x_a.f_got.Method, str x_a.f_got.Target, int x_a.f_got.Code, str x_a.f_got.Reason, int x_a.f_got.Minor, .slice x_a_p2 x_a.f_got.Fields.length x_a_c2] 61, .row (.slice x_a_p1 x_a.f_buf.length x_a_c1) 5 1 x_a.f_buf.length (cells zb x_a.f_buf), .row (.slice x_a_p2 x_a.f_got.Fields.length x_a_c2) 69 2 x_a.f_got.Fields.length (cells za x_a.f_got.Fields)]) (hm : zbZ x_a x_s = some R) :
    Calls Tryz.prog 51 #[ptr x_a_b0 0, str x_s] w0 fun e w' => ∃ (p0 : Option Addr) (c0 : Nat) (p1 : Option Addr) (c1 : Nat), e = .returned (.tuple #[.bool R.1, int R.2.1]) ∧ Dk.Own w0 F w' [.blk x_a_b0 [int R.2.2.f_kind, int R.2.2.f_limit, .slice p0 R.2.2.f_buf.length c0, int R.2.2.f_from, .bool R.2.2.f_took, int R.2.2.f_bad, .bool R.2.2.f_whole, int R.2.2.f_got.Kind, str R.2.2.f_got.Method, str R.2.2.f_got.Target, int R.2.2.f_got.Code, str R.2.2.f_got.Reason, int R.2.2.f_got.Minor, .slice p1 R.2.2.f_got.Fields.length c1] 61, .row (.slice p0 R.2.2.f_buf.length c0) 5 1 R.2.2.f_buf.length (cells zb R.2.2.f_buf), .row (.slice p1 R.2.2.f_got.Fields.length c1) 69 2 R.2.2.f_got.Fields.length (cells za R.2.2.f_got.Fields)] := by
 rw [zbZ] at hm
 refine S.enter tb Tryz.func51 rfl Tryz.ntmps51 rfl ?_ hO hm
 refine jn 0 (fun a w => ∃ (i16 : Int), Fits 62 [(0, ptr x_a_b0 0), (6, int i16)] a ∧ Dk.Own w0 F w [.blk x_a_b0 [int x_a.f_kind, int x_a.f_limit, .slice x_a_p1 x_a.f_buf.length x_a_c1, int x_a.f_from, .bool x_a.f_took, int x_a.f_bad, .bool x_a.f_whole, int x_a.f_got.Kind, str x_a.f_got.Method, str x_a.f_got.Target, int x_a.f_got.Code, str x_a.f_got.Reason, int x_a.f_got.Minor, .slice x_a_p2 x_a.f_got.Fields.length x_a_c2] 61, .row (.slice x_a_p1 x_a.f_buf.length x_a_c1) 5 1 x_a.f_buf.length (cells zb x_a.f_buf), .row (.slice x_a_p2 x_a.f_got.Fields.length x_a_c2) 69 2 x_a.f_got.Fields.length (cells za x_a.f_got.Fields)] ∧ za6 x_a i16 = some R) rfl ?_ ?_
 refine vl rfl rfl (fun a w hf hO => zd (o := 3) zfx (hO.blkSees (i := 0) rfl) rfl hf rfl) ?_
 refine br rfl (fun hc4 => ?_) fun hc4 => ?_
 refine vl rfl rfl (fun a w hf hO => zd (o := 0) zjp (hO.blkSees (i := 0) rfl) rfl hf rfl) ?_
 refine rw_ rfl fun a w hf hO hm => ?_
 obtain ⟨r5, hr5, hm⟩ := ob hm
 refine zi (zj c_30 hf (vs := [int x_a.f_kind, str x_s]) rfl) rfl hf rfl rfl (zde x_a.f_kind x_s r5 _ (hG.own hF hO) hr5) ?_
 rintro e w' ⟨p6, c7, he, hO'⟩
 refine ⟨_, he, fun a hf => ?_⟩
 have hO := hO.call hO' (by simp [Res.shared])
 refine S.op tb ?_ hf hO hm
 exact en rfl fun a w hf hO hm => ⟨r5.2, hf.sel rfl, (hO.sub (.cons _ (.cons_cons _ (.cons_cons _ (.cons_cons _ .slnil))))), hm⟩
 refine br rfl (fun hc9 => ?_) fun hc9 => ?_
 refine cl c_33 rfl (fun r10 w hr10 hO => zeF x_s r10 _ (hG.own hF hO).1 hr10) fun r10 hr10 => ?_
 exact en rfl fun a w hf hO hm => ⟨r10.2, hf.sel rfl, hO, hm⟩
 refine rc_ rfl fun a w hf hO hm => ?_
 obtain ⟨r11, hr11, hm⟩ := ob hm
 refine ze1 (S := Option Addr × Nat) (E0 := [(0, ptr x_a_b0 0)]) (by kernel_rfl) (fun k σ w => match k with | 0 => Dk.Own w0 F w [.blk x_a_b0 [int x_a.f_kind, int x_a.f_limit, .slice x_a_p1 x_a.f_buf.length x_a_c1, int x_a.f_from, .bool x_a.f_took, int x_a.f_bad, .bool x_a.f_whole, int x_a.f_got.Kind, str x_a.f_got.Method, str x_a.f_got.Target, int x_a.f_got.Code, str x_a.f_got.Reason, int x_a.f_got.Minor, .slice x_a_p2 x_a.f_got.Fields.length x_a_c2] 61, .row (.slice x_a_p1 x_a.f_buf.length x_a_c1) 5 1 x_a.f_buf.length (cells zb x_a.f_buf), .row (.slice x_a_p2 x_a.f_got.Fields.length x_a_c2) 69 2 x_a.f_got.Fields.length (cells za x_a.f_got.Fields)] | 1 => Dk.Own w0 F w [.row (.slice (σ.1) r11.1.Fields.length (σ.2)) 69 2 r11.1.Fields.length (cells za r11.1.Fields), .blk x_a_b0 [int x_a.f_kind, int x_a.f_limit, .slice x_a_p1 x_a.f_buf.length x_a_c1, int x_a.f_from, .bool x_a.f_took, int x_a.f_bad, .bool x_a.f_whole, int x_a.f_got.Kind, str x_a.f_got.Method, str x_a.f_got.Target, int x_a.f_got.Code, str x_a.f_got.Reason, int x_a.f_got.Minor, .slice x_a_p2 x_a.f_got.Fields.length x_a_c2] 61, .row (.slice x_a_p1 x_a.f_buf.length x_a_c1) 5 1 x_a.f_buf.length (cells zb x_a.f_buf), .row (.slice x_a_p2 x_a.f_got.Fields.length x_a_c2) 69 2 x_a.f_got.Fields.length (cells za x_a.f_got.Fields)] | _ => Dk.Own w0 F w [.row (.slice (σ.1) r11.1.Fields.length (σ.2)) 69 2 r11.1.Fields.length (cells za r11.1.Fields), .blk x_a_b0 [int x_a.f_kind, int x_a.f_limit, .slice x_a_p1 x_a.f_buf.length x_a_c1, int x_a.f_from, .bool x_a.f_took, int x_a.f_bad, .bool x_a.f_whole, int r11.1.Kind, str r11.1.Method, str r11.1.Target, int r11.1.Code, str r11.1.Reason, int r11.1.Minor, .slice (σ.1) r11.1.Fields.length (σ.2)] 61, .row (.slice x_a_p1 x_a.f_buf.length x_a_c1) 5 1 x_a.f_buf.length (cells zb x_a.f_buf), .row (.slice x_a_p2 x_a.f_got.Fields.length x_a_c2) 69 2 x_a.f_got.Fields.length (cells za x_a.f_got.Fields)]) (fun σ => [⟨[(0, ptr x_a_b0 0)], some (8, ptr x_a_b0 0)⟩, ⟨[(0, ptr x_a_b0 0)], some (9, ptr x_a_b0 0)⟩, ⟨[(9, ptr x_a_b0 0)], some (10, ptr x_a_b0 0)⟩, ⟨[(10, ptr x_a_b0 0)], some (11, ptr x_a_b0 0)⟩, ⟨[(11, ptr x_a_b0 0)], some (12, int x_a.f_kind)⟩, ⟨[(0, ptr x_a_b0 0)], some (13, ptr x_a_b0 0)⟩, ⟨[(13, ptr x_a_b0 0)], some (14, ptr x_a_b0 0)⟩, ⟨[(14, ptr x_a_b0 0)], some (15, ptr x_a_b0 2)⟩, ⟨[(15, ptr x_a_b0 2)], some (16, .slice x_a_p1 x_a.f_buf.length x_a_c1)⟩, ⟨[(16, .slice x_a_p1 x_a.f_buf.length x_a_c1)], some (17, str x_a.f_buf)⟩, ⟨[(0, ptr x_a_b0 0)], some (18, ptr x_a_b0 0)⟩, ⟨[(18, ptr x_a_b0 0)], some (19, ptr x_a_b0 0)⟩, ⟨[(19, ptr x_a_b0 0)], some (20, ptr x_a_b0 1)⟩, ⟨[(20, ptr x_a_b0 1)], some (21, int x_a.f_limit)⟩, ⟨[(12, int x_a.f_kind), (17, str x_a.f_buf), (21, int x_a.f_limit)], some (22, .tuple #[.agg #[int r11.1.Kind, str r11.1.Method, str r11.1.Target, int r11.1.Code, str r11.1.Reason, int r11.1.Minor, .slice (σ.1) r11.1.Fields.length (σ.2)], int r11.2])⟩, ⟨[(22, .tuple #[.agg #[int r11.1.Kind, str r11.1.Method, str r11.1.Target, int r11.1.Code, str r11.1.Reason, int r11.1.Minor, .slice (σ.1) r11.1.Fields.length (σ.2)], int r11.2])], some (7, .tuple #[.agg #[int r11.1.Kind, str r11.1.Method, str r11.1.Target, int r11.1.Code, str r11.1.Reason, int r11.1.Minor, .slice (σ.1) r11.1.Fields.length (σ.2)], int r11.2])⟩, ⟨[(7, .tuple #[.agg #[int r11.1.Kind, str r11.1.Method, str r11.1.Target, int r11.1.Code, str r11.1.Reason, int r11.1.Minor, .slice (σ.1) r11.1.Fields.length (σ.2)], int r11.2])], some (23, .agg #[int r11.1.Kind, str r11.1.Method, str r11.1.Target, int r11.1.Code, str r11.1.Reason, int r11.1.Minor, .slice (σ.1) r11.1.Fields.length (σ.2)])⟩, ⟨[(7, .tuple #[.agg #[int r11.1.Kind, str r11.1.Method, str r11.1.Target, int r11.1.Code, str r11.1.Reason, int r11.1.Minor, .slice (σ.1) r11.1.Fields.length (σ.2)], int r11.2])], some (24, int r11.2)⟩, ⟨[(8, ptr x_a_b0 0)], some (25, ptr x_a_b0 0)⟩, ⟨[(25, ptr x_a_b0 0)], some (26, ptr x_a_b0 7)⟩, ⟨[(23, .agg #[int r11.1.Kind, str r11.1.Method, str r11.1.Target, int r11.1.Code, str r11.1.Reason, int r11.1.Minor, .slice (σ.1) r11.1.Fields.length (σ.2)]), (26, ptr x_a_b0 7)], none⟩, ⟨[(24, int r11.2)], some (6, int r11.2)⟩]) (none, 0) [14, 20] rfl (fun _ => rfl) (fun _ => rfl) (fun _ => rfl) rfl rfl (by decide) rfl hO.drew (hf.cons rfl hf.nil) (fun σ => ⟨⟨rfl, trivial⟩, ⟨rfl, trivial⟩, ⟨rfl, trivial⟩, ⟨rfl, trivial⟩, ⟨rfl, trivial⟩, ⟨rfl, trivial⟩, ⟨rfl, trivial⟩, ⟨rfl, trivial⟩, ⟨rfl, trivial⟩, ⟨rfl, trivial⟩, ⟨rfl, trivial⟩, ⟨rfl, trivial⟩, ⟨rfl, trivial⟩, ⟨rfl, trivial⟩, ⟨rfl, rfl, rfl, trivial⟩, ⟨rfl, trivial⟩, ⟨rfl, trivial⟩, ⟨rfl, trivial⟩, ⟨rfl, trivial⟩, ⟨rfl, trivial⟩, ⟨rfl, rfl, trivial⟩, ⟨rfl, trivial⟩, trivial⟩) ⟨zl rfl (fun σ => rfl) (fun σ => rfl) (fun σ a w k _ _ _ _ hf => zT hf rfl), zl rfl (fun σ => rfl) (fun σ => rfl) (fun σ a w k _ _ _ _ hf => zT hf rfl), zl rfl (fun σ => rfl) (fun σ => rfl) (fun σ a w k _ _ _ _ hf => zJ hf rfl), zl rfl (fun σ => rfl) (fun σ => rfl) (fun σ a w k _ _ _ _ hf => zan zlq hf rfl), zl rfl (fun σ => rfl) (fun σ => rfl) (fun σ a w k hk hlo hup hst hf => match k, hk, hlo, hup, hst, hf with | 0, _, _, _, hst, hf => have hO : Dk.Own w0 F w [.blk x_a_b0 [int x_a.f_kind, int x_a.f_limit, .slice x_a_p1 x_a.f_buf.length x_a_c1, int x_a.f_from, .bool x_a.f_took, int x_a.f_bad, .bool x_a.f_whole, int x_a.f_got.Kind, str x_a.f_got.Method, str x_a.f_got.Target, int x_a.f_got.Code, str x_a.f_got.Reason, int x_a.f_got.Minor, .slice x_a_p2 x_a.f_got.Fields.length x_a_c2] 61, .row (.slice x_a_p1 x_a.f_buf.length x_a_c1) 5 1 x_a.f_buf.length (cells zb x_a.f_buf), .row (.slice x_a_p2 x_a.f_got.Fields.length x_a_c2) 69 2 x_a.f_got.Fields.length (cells za x_a.f_got.Fields)] := hst; zd (o := 0) zjp (hO.blkSees (i := 0) rfl) rfl hf rfl | 1, _, _, _, hst, hf => have hO : Dk.Own w0 F w [.row (.slice (σ.1) r11.1.Fields.length (σ.2)) 69 2 r11.1.Fields.length (cells za r11.1.Fields), .blk x_a_b0 [int x_a.f_kind, int x_a.f_limit, .slice x_a_p1 x_a.f_buf.length x_a_c1, int x_a.f_from, .bool x_a.f_took, int x_a.f_bad, .bool x_a.f_whole, int x_a.f_got.Kind, str x_a.f_got.Method, str x_a.f_got.Target, int x_a.f_got.Code, str x_a.f_got.Reason, int x_a.f_got.Minor, .slice x_a_p2 x_a.f_got.Fields.length x_a_c2] 61, .row (.slice x_a_p1 x_a.f_buf.length x_a_c1) 5 1 x_a.f_buf.length (cells zb x_a.f_buf), .row (.slice x_a_p2 x_a.f_got.Fields.length x_a_c2) 69 2 x_a.f_got.Fields.length (cells za x_a.f_got.Fields)] := hst; zd (o := 0) zjp (hO.blkSees (i := 1) rfl) rfl hf rfl | 2, _, _, hup, _, _ => absurd (hup 0 (by decide) (by kernel_rfl)) (by decide) | k + 3, hk, _, _, _, _ => absurd hk (by simp)), zl rfl (fun σ => rfl) (fun σ => rfl) (fun σ a w k _ _ _ _ hf => zT hf rfl), zl rfl (fun σ => rfl) (fun σ => rfl) (fun σ a w k _ _ _ _ hf => zJ hf rfl), zl rfl (fun σ => rfl) (fun σ => rfl) (fun σ a w k _ _ _ _ hf => zan zgM hf rfl), zl rfl (fun σ => rfl) (fun σ => rfl) (fun σ a w k hk hlo hup hst hf => match k, hk, hlo, hup, hst, hf with | 0, _, _, _, hst, hf => have hO : Dk.Own w0 F w [.blk x_a_b0 [int x_a.f_kind, int x_a.f_limit, .slice x_a_p1 x_a.f_buf.length x_a_c1, int x_a.f_from, .bool x_a.f_took, int x_a.f_bad, .bool x_a.f_whole, int x_a.f_got.Kind, str x_a.f_got.Method, str x_a.f_got.Target, int x_a.f_got.Code, str x_a.f_got.Reason, int x_a.f_got.Minor, .slice x_a_p2 x_a.f_got.Fields.length x_a_c2] 61, .row (.slice x_a_p1 x_a.f_buf.length x_a_c1) 5 1 x_a.f_buf.length (cells zb x_a.f_buf), .row (.slice x_a_p2 x_a.f_got.Fields.length x_a_c2) 69 2 x_a.f_got.Fields.length (cells za x_a.f_got.Fields)] := hst; zd (o := 2) zge (hO.blkSees (i := 0) rfl) rfl hf rfl | 1, _, _, _, hst, hf => have hO : Dk.Own w0 F w [.row (.slice (σ.1) r11.1.Fields.length (σ.2)) 69 2 r11.1.Fields.length (cells za r11.1.Fields), .blk x_a_b0 [int x_a.f_kind, int x_a.f_limit, .slice x_a_p1 x_a.f_buf.length x_a_c1, int x_a.f_from, .bool x_a.f_took, int x_a.f_bad, .bool x_a.f_whole, int x_a.f_got.Kind, str x_a.f_got.Method, str x_a.f_got.Target, int x_a.f_got.Code, str x_a.f_got.Reason, int x_a.f_got.Minor, .slice x_a_p2 x_a.f_got.Fields.length x_a_c2] 61, .row (.slice x_a_p1 x_a.f_buf.length x_a_c1) 5 1 x_a.f_buf.length (cells zb x_a.f_buf), .row (.slice x_a_p2 x_a.f_got.Fields.length x_a_c2) 69 2 x_a.f_got.Fields.length (cells za x_a.f_got.Fields)] := hst; zd (o := 2) zge (hO.blkSees (i := 1) rfl) rfl hf rfl | 2, _, _, hup, _, _ => absurd (hup 0 (by decide) (by kernel_rfl)) (by decide) | k + 3, hk, _, _, _, _ => absurd hk (by simp)), zl rfl (fun σ => rfl) (fun σ => rfl) (fun σ a w k hk hlo hup hst hf => match k, hk, hlo, hup, hst, hf with | 0, _, _, _, hst, hf => have hO : Dk.Own w0 F w [.blk x_a_b0 [int x_a.f_kind, int x_a.f_limit, .slice x_a_p1 x_a.f_buf.length x_a_c1, int x_a.f_from, .bool x_a.f_took, int x_a.f_bad, .bool x_a.f_whole, int x_a.f_got.Kind, str x_a.f_got.Method, str x_a.f_got.Target, int x_a.f_got.Code, str x_a.f_got.Reason, int x_a.f_got.Minor, .slice x_a_p2 x_a.f_got.Fields.length x_a_c2] 61, .row (.slice x_a_p1 x_a.f_buf.length x_a_c1) 5 1 x_a.f_buf.length (cells zb x_a.f_buf), .row (.slice x_a_p2 x_a.f_got.Fields.length x_a_c2) 69 2 x_a.f_got.Fields.length (cells za x_a.f_got.Fields)] := hst; zfk (en := zb) (l := x_a.f_buf) (fun _ => rfl) Tryz.underlying9 Tryz.underlying23 Tryz.underlying5 (hO.rowSees (i := 1) rfl) hf rfl | 1, _, _, _, hst, hf => have hO : Dk.Own w0 F w [.row (.slice (σ.1) r11.1.Fields.length (σ.2)) 69 2 r11.1.Fields.length (cells za r11.1.Fields), .blk x_a_b0 [int x_a.f_kind, int x_a.f_limit, .slice x_a_p1 x_a.f_buf.length x_a_c1, int x_a.f_from, .bool x_a.f_took, int x_a.f_bad, .bool x_a.f_whole, int x_a.f_got.Kind, str x_a.f_got.Method, str x_a.f_got.Target, int x_a.f_got.Code, str x_a.f_got.Reason, int x_a.f_got.Minor, .slice x_a_p2 x_a.f_got.Fields.length x_a_c2] 61, .row (.slice x_a_p1 x_a.f_buf.length x_a_c1) 5 1 x_a.f_buf.length (cells zb x_a.f_buf), .row (.slice x_a_p2 x_a.f_got.Fields.length x_a_c2) 69 2 x_a.f_got.Fields.length (cells za x_a.f_got.Fields)] := hst; zfk (en := zb) (l := x_a.f_buf) (fun _ => rfl) Tryz.underlying9 Tryz.underlying23 Tryz.underlying5 (hO.rowSees (i := 2) rfl) hf rfl | 2, _, _, _, hst, hf => have hO : Dk.Own w0 F w [.row (.slice (σ.1) r11.1.Fields.length (σ.2)) 69 2 r11.1.Fields.length (cells za r11.1.Fields), .blk x_a_b0 [int x_a.f_kind, int x_a.f_limit, .slice x_a_p1 x_a.f_buf.length x_a_c1, int x_a.f_from, .bool x_a.f_took, int x_a.f_bad, .bool x_a.f_whole, int r11.1.Kind, str r11.1.Method, str r11.1.Target, int r11.1.Code, str r11.1.Reason, int r11.1.Minor, .slice (σ.1) r11.1.Fields.length (σ.2)] 61, .row (.slice x_a_p1 x_a.f_buf.length x_a_c1) 5 1 x_a.f_buf.length (cells zb x_a.f_buf), .row (.slice x_a_p2 x_a.f_got.Fields.length x_a_c2) 69 2 x_a.f_got.Fields.length (cells za x_a.f_got.Fields)] := hst; zfk (en := zb) (l := x_a.f_buf) (fun _ => rfl) Tryz.underlying9 Tryz.underlying23 Tryz.underlying5 (hO.rowSees (i := 2) rfl) hf rfl | k + 3, hk, _, _, _, _ => absurd hk (by simp)), zl rfl (fun σ => rfl) (fun σ => rfl) (fun σ a w k _ _ _ _ hf => zT hf rfl), zl rfl (fun σ => rfl) (fun σ => rfl) (fun σ a w k _ _ _ _ hf => zJ hf rfl), zl rfl (fun σ => rfl) (fun σ => rfl) (fun σ a w k _ _ _ _ hf => zan zjV hf rfl), zl rfl (fun σ => rfl) (fun σ => rfl) (fun σ a w k hk hlo hup hst hf => match k, hk, hlo, hup, hst, hf with | 0, _, _, _, hst, hf => have hO : Dk.Own w0 F w [.blk x_a_b0 [int x_a.f_kind, int x_a.f_limit, .slice x_a_p1 x_a.f_buf.length x_a_c1, int x_a.f_from, .bool x_a.f_took, int x_a.f_bad, .bool x_a.f_whole, int x_a.f_got.Kind, str x_a.f_got.Method, str x_a.f_got.Target, int x_a.f_got.Code, str x_a.f_got.Reason, int x_a.f_got.Minor, .slice x_a_p2 x_a.f_got.Fields.length x_a_c2] 61, .row (.slice x_a_p1 x_a.f_buf.length x_a_c1) 5 1 x_a.f_buf.length (cells zb x_a.f_buf), .row (.slice x_a_p2 x_a.f_got.Fields.length x_a_c2) 69 2 x_a.f_got.Fields.length (cells za x_a.f_got.Fields)] := hst; zd (o := 1) zfx (hO.blkSees (i := 0) rfl) rfl hf rfl | 1, _, _, _, hst, hf => have hO : Dk.Own w0 F w [.row (.slice (σ.1) r11.1.Fields.length (σ.2)) 69 2 r11.1.Fields.length (cells za r11.1.Fields), .blk x_a_b0 [int x_a.f_kind, int x_a.f_limit, .slice x_a_p1 x_a.f_buf.length x_a_c1, int x_a.f_from, .bool x_a.f_took, int x_a.f_bad, .bool x_a.f_whole, int x_a.f_got.Kind, str x_a.f_got.Method, str x_a.f_got.Target, int x_a.f_got.Code, str x_a.f_got.Reason, int x_a.f_got.Minor, .slice x_a_p2 x_a.f_got.Fields.length x_a_c2] 61, .row (.slice x_a_p1 x_a.f_buf.length x_a_c1) 5 1 x_a.f_buf.length (cells zb x_a.f_buf), .row (.slice x_a_p2 x_a.f_got.Fields.length x_a_c2) 69 2 x_a.f_got.Fields.length (cells za x_a.f_got.Fields)] := hst; zd (o := 1) zfx (hO.blkSees (i := 1) rfl) rfl hf rfl | 2, _, _, hup, _, _ => absurd (hup 0 (by decide) (by kernel_rfl)) (by decide) | k + 3, hk, _, _, _, _ => absurd hk (by simp)), zj0 rfl (fun σ => rfl) (fun σ => rfl) rfl (fun σ a w (_ : _) hf => zj c_14 hf (vs := [int x_a.f_kind, str x_a.f_buf, int x_a.f_limit]) rfl) (fun σ w (hO : Dk.Own w0 F w [.blk x_a_b0 [int x_a.f_kind, int x_a.f_limit, .slice x_a_p1 x_a.f_buf.length x_a_c1, int x_a.f_from, .bool x_a.f_took, int x_a.f_bad, .bool x_a.f_whole, int x_a.f_got.Kind, str x_a.f_got.Method, str x_a.f_got.Target, int x_a.f_got.Code, str x_a.f_got.Reason, int x_a.f_got.Minor, .slice x_a_p2 x_a.f_got.Fields.length x_a_c2] 61, .row (.slice x_a_p1 x_a.f_buf.length x_a_c1) 5 1 x_a.f_buf.length (cells zb x_a.f_buf), .row (.slice x_a_p2 x_a.f_got.Fields.length x_a_c2) 69 2 x_a.f_got.Fields.length (cells za x_a.f_got.Fields)]) => (zdq x_a.f_kind x_a.f_buf x_a.f_limit r11 _ (hG.own hF hO) hr11).mono fun e w' h => by obtain ⟨p12, c13, he, hO'⟩ := h; exact ⟨(p12, c13), he, hO.call hO' (by simp [Res.shared]), .inr rfl, .inr rfl, .inr rfl, .inr rfl, .inr rfl, .inr rfl, .inr rfl, .inr rfl, .inr rfl, .inr rfl, .inr rfl, .inr rfl, .inr rfl, .inr rfl, .inl rfl, .inl rfl, .inl rfl, .inl rfl, .inr rfl, .inr rfl, .inl rfl, .inr rfl, trivial⟩), zl rfl (fun σ => rfl) (fun σ => rfl) (fun σ a w k _ _ _ _ hf => zT hf rfl), zl rfl (fun σ => rfl) (fun σ => rfl) (fun σ a w k _ _ _ _ hf => zc2 hf rfl rfl), zl rfl (fun σ => rfl) (fun σ => rfl) (fun σ a w k _ _ _ _ hf => zc2 hf rfl rfl), zl rfl (fun σ => rfl) (fun σ => rfl) (fun σ a w k _ _ _ _ hf => zJ hf rfl), zl rfl (fun σ => rfl) (fun σ => rfl) (fun σ a w k _ _ _ _ hf => zan zlu hf rfl), zgW rfl (fun σ => rfl) (fun σ => rfl) rfl (fun σ w (hO : Dk.Own w0 F w [.row (.slice (σ.1) r11.1.Fields.length (σ.2)) 69 2 r11.1.Fields.length (cells za r11.1.Fields), .blk x_a_b0 [int x_a.f_kind, int x_a.f_limit, .slice x_a_p1 x_a.f_buf.length x_a_c1, int x_a.f_from, .bool x_a.f_took, int x_a.f_bad, .bool x_a.f_whole, int x_a.f_got.Kind, str x_a.f_got.Method, str x_a.f_got.Target, int x_a.f_got.Code, str x_a.f_got.Reason, int x_a.f_got.Minor, .slice x_a_p2 x_a.f_got.Fields.length x_a_c2] 61, .row (.slice x_a_p1 x_a.f_buf.length x_a_c1) 5 1 x_a.f_buf.length (cells zb x_a.f_buf), .row (.slice x_a_p2 x_a.f_got.Fields.length x_a_c2) 69 2 x_a.f_got.Fields.length (cells za x_a.f_got.Fields)]) => by obtain ⟨w', hO', hr⟩ := zmf (x := (.tmp 26)) (y := (.tmp 23)) (E := [(23, .agg #[int r11.1.Kind, str r11.1.Method, str r11.1.Target, int r11.1.Code, str r11.1.Reason, int r11.1.Minor, .slice (σ.1) r11.1.Fields.length (σ.2)]), (26, ptr x_a_b0 7)]) (i := 1) (n := 7) (o := 7) (vs := [int r11.1.Kind, str r11.1.Method, str r11.1.Target, int r11.1.Code, str r11.1.Reason, int r11.1.Minor, .slice (σ.1) r11.1.Fields.length (σ.2)]) (cs' := [int x_a.f_kind, int x_a.f_limit, .slice x_a_p1 x_a.f_buf.length x_a_c1, int x_a.f_from, .bool x_a.f_took, int x_a.f_bad, .bool x_a.f_whole, int r11.1.Kind, str r11.1.Method, str r11.1.Target, int r11.1.Code, str r11.1.Reason, int r11.1.Minor, .slice (σ.1) r11.1.Fields.length (σ.2)]) zo rfl rfl rfl (by simp [Value.oneCell']) rfl hO rfl rfl; exact ⟨((σ.1), (σ.2)), w', hO', ⟨.inr rfl, .inr rfl, .inr rfl, .inr rfl, .inr rfl, .inr rfl, .inr rfl, .inr rfl, .inr rfl, .inr rfl, .inr rfl, .inr rfl, .inr rfl, .inr rfl, .inr rfl, .inr rfl, .inr rfl, .inr rfl, .inr rfl, .inr rfl, .inr rfl, .inr rfl, trivial⟩, hr⟩), zl rfl (fun σ => rfl) (fun σ => rfl) (fun σ a w k _ _ _ _ hf => zaX hf rfl), trivial⟩ ?_
 rintro ⟨p12, c13⟩ a w hf hO
 have hO : Dk.Own w0 F w [.row (.slice p12 r11.1.Fields.length c13) 69 2 r11.1.Fields.length (cells za r11.1.Fields), .blk x_a_b0 [int x_a.f_kind, int x_a.f_limit, .slice x_a_p1 x_a.f_buf.length x_a_c1, int x_a.f_from, .bool x_a.f_took, int x_a.f_bad, .bool x_a.f_whole, int r11.1.Kind, str r11.1.Method, str r11.1.Target, int r11.1.Code, str r11.1.Reason, int r11.1.Minor, .slice p12 r11.1.Fields.length c13] 61, .row (.slice x_a_p1 x_a.f_buf.length x_a_c1) 5 1 x_a.f_buf.length (cells zb x_a.f_buf), .row (.slice x_a_p2 x_a.f_got.Fields.length x_a_c2) 69 2 x_a.f_got.Fields.length (cells za x_a.f_got.Fields)] := hO
 have hf : Fits 62 [(6, int r11.2)] a := (hf.cons rfl hf.nil)
 refine S.no tb ?_ hf hO hm
 refine re_ rfl fun a w hf hO hm => ?_
 obtain rfl := Option.some.inj hm
 exact zg Tryz.results51 hf (.tmp rfl (.tmp rfl .nil)) ⟨x_a_p1, x_a_c1, p12, c13, rfl, (hO.choose [1, 2, 0] rfl)⟩
 rintro a w ⟨i16, hf, hO, hm⟩
 rw [za6] at hm
 refine S.co tb ?_ hf hO hm
 refine vl rfl rfl (fun a w hf hO => zd (o := 2) zge (hO.blkSees (i := 0) rfl) rfl hf rfl) ?_
 refine rw_ rfl fun a w hf hO hm => ?_
 refine zW (i := 0) (o := 3) (v := int (x_a.f_buf.length : Int)) sz_3 rfl rfl rfl rfl hf rfl rfl hO fun w hO => ?_
 refine S.op tb ?_ hf hO hm
 refine re_ rfl fun a w hf hO hm => ?_
 obtain rfl := Option.some.inj hm
 exact zg Tryz.results51 hf (.tmp rfl (.tmp rfl .nil)) ⟨x_a_p1, x_a_c1, x_a_p2, x_a_c2, rfl, hO⟩

theorem zgs (x_a : accum_Accum) (x_b : UInt8) (R : Bool × Int × accum_Accum) (w0 : World) (hG : zaz w0) {x_a_b0 : Nat} {x_a_p1 : Option Addr} {x_a_c1 : Nat} {x_a_p2 : Option Addr} {x_a_c2 : Nat} {F : List Nat} (hF : zO F) (hO : Dk.Own w0 F w0 [.blk x_a_b0 [int x_a.f_kind, int x_a.f_limit, .slice x_a_p1 x_a.f_buf.length x_a_c1, int x_a.f_from, .bool x_a.f_took, int x_a.f_bad, .bool x_a.f_whole, int x_a.f_got.Kind, str x_a.f_got.Method, str x_a.f_got.Target, int x_a.f_got.Code, str x_a.f_got.Reason, int x_a.f_got.Minor, .slice x_a_p2 x_a.f_got.Fields.length x_a_c2] 61, .row (.slice x_a_p1 x_a.f_buf.length x_a_c1) 5 1 x_a.f_buf.length (cells zb x_a.f_buf), .row (.slice x_a_p2 x_a.f_got.Fields.length x_a_c2) 69 2 x_a.f_got.Fields.length (cells za x_a.f_got.Fields)]) (hm : zbp x_a x_b = some R) :
    Calls Tryz.prog 27 #[ptr x_a_b0 0, zac x_b] w0 fun e w' => ∃ (p0 : Option Addr) (c0 : Nat) (p1 : Option Addr) (c1 : Nat), e = .returned (.tuple #[.bool R.1, int R.2.1]) ∧ Dk.Own w0 F w' [.blk x_a_b0 [int R.2.2.f_kind, int R.2.2.f_limit, .slice p0 R.2.2.f_buf.length c0, int R.2.2.f_from, .bool R.2.2.f_took, int R.2.2.f_bad, .bool R.2.2.f_whole, int R.2.2.f_got.Kind, str R.2.2.f_got.Method, str R.2.2.f_got.Target, int R.2.2.f_got.Code, str R.2.2.f_got.Reason, int R.2.2.f_got.Minor, .slice p1 R.2.2.f_got.Fields.length c1] 61, .row (.slice p0 R.2.2.f_buf.length c0) 5 1 R.2.2.f_buf.length (cells zb R.2.2.f_buf), .row (.slice p1 R.2.2.f_got.Fields.length c1) 69 2 R.2.2.f_got.Fields.length (cells za R.2.2.f_got.Fields)] := by
 rw [zbp] at hm
 refine S.enter tb Tryz.func27 rfl Tryz.ntmps27 rfl ?_ hO hm
 refine rc_ rfl fun a w hf hO hm => ?_
 refine zeY (by kernel_rfl) (by kernel_rfl) hO ?_
 refine zA (fun w hO => zT hf rfl) rfl hf rfl rfl fun a hf => ?_
 refine zA (fun w hO => zJ hf rfl) rfl hf rfl rfl fun a hf => ?_
 refine zA (fun w hO => zan zgM hf rfl) rfl hf rfl rfl fun a hf => ?_
 refine zA (fun w hO => zd (o := 2) zge (hO.blkSees (i := 0) rfl) rfl hf rfl) rfl hf rfl rfl fun a hf => ?_
 refine zA (fun w hO => ziK Tryz.underlying23 hf rfl) rfl hf rfl rfl fun a hf => ?_
 refine zA (fun w hO => zT hf rfl) rfl hf rfl rfl fun a hf => ?_
 refine zA (fun w hO => zJ hf rfl) rfl hf rfl rfl fun a hf => ?_
 refine zA (fun w hO => zan zjV hf rfl) rfl hf rfl rfl fun a hf => ?_
 refine zA (fun w hO => zd (o := 1) zfx (hO.blkSees (i := 0) rfl) rfl hf rfl) rfl hf rfl rfl fun a hf => ?_
 refine zA (fun w hO => znn (m := (x_a.f_buf.length : Int)) (n := x_a.f_limit) hf rfl rfl) rfl hf rfl rfl fun a hf => ?_
 refine wpQuiet_nil ?_
 intro w hO
 refine S.no tb ?_ hf hO hm
 refine br rfl (fun hc3 => ?_) fun hc3 => ?_
 refine re_ rfl fun a w hf hO hm => ?_
 obtain rfl := Option.some.inj hm
 exact zg Tryz.results27 hf (.tmp rfl (.tmp rfl .nil)) ⟨x_a_p1, x_a_c1, x_a_p2, x_a_c2, rfl, hO⟩
 refine vl rfl rfl (fun a w hf hO => zd (o := 2) zge (hO.blkSees (i := 0) rfl) rfl hf rfl) ?_
 refine rw_ rfl fun a w hf hO hm => ?_
 refine zX (vs := [(0, zac x_b)]) (cs := [zac x_b]) (e := 5) (sz := 1) hf rfl rfl (fun w => by kernel_rfl) rfl rfl hO fun a b6 w hf hO => ?_
 refine S.op tb ?_ hf hO hm
 refine rw_ rfl fun a w hf hO hm => ?_
 obtain ⟨hg9, hm⟩ := og hm
 refine zen el_23 (enc := zb) (xs := x_a.f_buf) (ys := [x_b]) (i := 2) (fun _ => rfl) rfl (hO.rowSees (i := 0) rfl) (by simp [cells, zb, Value.oneCell']) hg9 hf rfl rfl rfl hO fun a p7 c8 w hf hO => ?_
 refine S.op tb ?_ hf hO hm
 refine rw_ rfl fun a w hf hO hm => ?_
 refine zW (i := 1) (o := 2) (v := .slice p7 ((x_a.f_buf ++ [x_b]).length) c8) sz_23 rfl rfl rfl rfl hf rfl rfl hO fun w hO => ?_
 refine S.op tb ?_ hf hO hm
 refine cl c_50 rfl (fun r11 w hr11 hO => zgt (⟨x_a.f_kind, x_a.f_limit, x_a.f_buf ++ [x_b], x_a.f_from, x_a.f_took, x_a.f_bad, x_a.f_whole, x_a.f_got⟩ : accum_Accum) r11 _ (hG.own hF hO).1 (hO.blkSees (i := 1) rfl) (hO.rowSees (i := 2) rfl) (hO.rowCap (i := 2) rfl) (hO.rowSees (i := 3) rfl) (hO.rowCap (i := 3) rfl) hr11) fun r11 hr11 => ?_
 refine br rfl (fun hc13 => ?_) fun hc13 => ?_
 refine re_ rfl fun a w hf hO hm => ?_
 obtain rfl := Option.some.inj hm
 exact zg Tryz.results27 hf (.tmp rfl (.tmp rfl .nil)) ⟨p7, c8, x_a_p2, x_a_c2, rfl, (hO.sub (.cons _ (.cons_cons _ (.cons_cons _ (.cons_cons _ .slnil)))))⟩
 refine vl rfl rfl (fun a w hf hO => ziH (b := x_b) (c := 10) hf rfl rfl) ?_
 refine br rfl (fun hc17 => ?_) fun hc17 => ?_
 refine re_ rfl fun a w hf hO hm => ?_
 obtain rfl := Option.some.inj hm
 exact zg Tryz.results27 hf (.tmp rfl (.tmp rfl .nil)) ⟨p7, c8, x_a_p2, x_a_c2, rfl, (hO.sub (.cons _ (.cons_cons _ (.cons_cons _ (.cons_cons _ .slnil)))))⟩
 refine rc_ rfl fun a w hf hO hm => ?_
 obtain ⟨i20, hi20, hm⟩ := ob hm
 obtain ⟨l21, hl21, hm⟩ := ob hm
 obtain ⟨p22, c23, hrl21, hVl21, hCl21, _⟩ := zmK (enc := zb) (xs := x_a.f_buf ++ [x_b]) 23 Tryz.underlying23 sz_5 (fun _ => rfl) (hO.rowSees (i := 2) rfl) (hO.rowCap (i := 2) rfl) hl21
 obtain ⟨r24, hr24, hm⟩ := ob hm
 refine ze1 (S := Option Addr × Nat × Option Addr × Nat) (E0 := [(0, ptr x_a_b0 0)]) (by kernel_rfl) (fun k σ w => match k with | 0 => Dk.Own w0 F w [.row (.slice (some ⟨b6, 0, none⟩) ([x_b].length) 1) 5 1 ([x_b].length) (cells zb [x_b]), .blk x_a_b0 [int x_a.f_kind, int x_a.f_limit, .slice p7 ((x_a.f_buf ++ [x_b]).length) c8, int x_a.f_from, .bool x_a.f_took, int x_a.f_bad, .bool x_a.f_whole, int x_a.f_got.Kind, str x_a.f_got.Method, str x_a.f_got.Target, int x_a.f_got.Code, str x_a.f_got.Reason, int x_a.f_got.Minor, .slice x_a_p2 x_a.f_got.Fields.length x_a_c2] 61, .row (.slice p7 ((x_a.f_buf ++ [x_b]).length) c8) 5 1 ((x_a.f_buf ++ [x_b]).length) (cells zb (x_a.f_buf ++ [x_b])), .row (.slice x_a_p2 x_a.f_got.Fields.length x_a_c2) 69 2 x_a.f_got.Fields.length (cells za x_a.f_got.Fields)] | _ => Dk.Own w0 F w [.blk x_a_b0 [int r24.2.2.f_kind, int r24.2.2.f_limit, .slice (σ.1) r24.2.2.f_buf.length (σ.2.1), int r24.2.2.f_from, .bool r24.2.2.f_took, int r24.2.2.f_bad, .bool r24.2.2.f_whole, int r24.2.2.f_got.Kind, str r24.2.2.f_got.Method, str r24.2.2.f_got.Target, int r24.2.2.f_got.Code, str r24.2.2.f_got.Reason, int r24.2.2.f_got.Minor, .slice (σ.2.2.1) r24.2.2.f_got.Fields.length (σ.2.2.2)] 61, .row (.slice (σ.1) r24.2.2.f_buf.length (σ.2.1)) 5 1 r24.2.2.f_buf.length (cells zb r24.2.2.f_buf), .row (.slice (σ.2.2.1) r24.2.2.f_got.Fields.length (σ.2.2.2)) 69 2 r24.2.2.f_got.Fields.length (cells za r24.2.2.f_got.Fields), .row (.slice (some ⟨b6, 0, none⟩) ([x_b].length) 1) 5 1 ([x_b].length) (cells zb [x_b])]) (fun σ => [⟨[(0, ptr x_a_b0 0)], some (30, ptr x_a_b0 0)⟩, ⟨[(0, ptr x_a_b0 0)], some (31, ptr x_a_b0 0)⟩, ⟨[(31, ptr x_a_b0 0)], some (32, ptr x_a_b0 0)⟩, ⟨[(32, ptr x_a_b0 0)], some (33, ptr x_a_b0 2)⟩, ⟨[(33, ptr x_a_b0 2)], some (34, .slice p7 ((x_a.f_buf ++ [x_b]).length) c8)⟩, ⟨[(0, ptr x_a_b0 0)], some (35, ptr x_a_b0 0)⟩, ⟨[(35, ptr x_a_b0 0)], some (36, ptr x_a_b0 0)⟩, ⟨[(36, ptr x_a_b0 0)], some (37, ptr x_a_b0 3)⟩, ⟨[(37, ptr x_a_b0 3)], some (38, int x_a.f_from)⟩, ⟨[(0, ptr x_a_b0 0)], some (39, ptr x_a_b0 0)⟩, ⟨[(39, ptr x_a_b0 0)], some (40, ptr x_a_b0 0)⟩, ⟨[(40, ptr x_a_b0 0)], some (41, ptr x_a_b0 2)⟩, ⟨[(41, ptr x_a_b0 2)], some (42, .slice p7 ((x_a.f_buf ++ [x_b]).length) c8)⟩, ⟨[(42, .slice p7 ((x_a.f_buf ++ [x_b]).length) c8)], some (43, int (((x_a.f_buf ++ [x_b]).length : Int)))⟩, ⟨[(43, int (((x_a.f_buf ++ [x_b]).length : Int)))], some (44, int i20)⟩, ⟨[(34, .slice p7 ((x_a.f_buf ++ [x_b]).length) c8), (38, int x_a.f_from), (44, int i20)], some (45, .slice p22 l21.length c23)⟩, ⟨[(45, .slice p22 l21.length c23)], some (46, str l21)⟩, ⟨[(30, ptr x_a_b0 0), (46, str l21)], some (47, .tuple #[.bool r24.1, int r24.2.1])⟩, ⟨[(47, .tuple #[.bool r24.1, int r24.2.1])], some (48, .bool r24.1)⟩, ⟨[(47, .tuple #[.bool r24.1, int r24.2.1])], some (49, int r24.2.1)⟩, ⟨[(48, .bool r24.1)], some (4, .bool r24.1)⟩, ⟨[(49, int r24.2.1)], some (5, int r24.2.1)⟩]) (none, 0, none, 0) [17] rfl (fun _ => rfl) (fun _ => rfl) (fun _ => rfl) rfl rfl (by decide) rfl hO.drew (hf.cons rfl hf.nil) (fun σ => ⟨⟨rfl, trivial⟩, ⟨rfl, trivial⟩, ⟨rfl, trivial⟩, ⟨rfl, trivial⟩, ⟨rfl, trivial⟩, ⟨rfl, trivial⟩, ⟨rfl, trivial⟩, ⟨rfl, trivial⟩, ⟨rfl, trivial⟩, ⟨rfl, trivial⟩, ⟨rfl, trivial⟩, ⟨rfl, trivial⟩, ⟨rfl, trivial⟩, ⟨rfl, trivial⟩, ⟨rfl, trivial⟩, ⟨rfl, rfl, rfl, trivial⟩, ⟨rfl, trivial⟩, ⟨rfl, rfl, trivial⟩, ⟨rfl, trivial⟩, ⟨rfl, trivial⟩, ⟨rfl, trivial⟩, ⟨rfl, trivial⟩, trivial⟩) ⟨zl rfl (fun σ => rfl) (fun σ => rfl) (fun σ a w k _ _ _ _ hf => zT hf rfl), zl rfl (fun σ => rfl) (fun σ => rfl) (fun σ a w k _ _ _ _ hf => zT hf rfl), zl rfl (fun σ => rfl) (fun σ => rfl) (fun σ a w k _ _ _ _ hf => zJ hf rfl), zl rfl (fun σ => rfl) (fun σ => rfl) (fun σ a w k _ _ _ _ hf => zan zgM hf rfl), zl rfl (fun σ => rfl) (fun σ => rfl) (fun σ a w k hk hlo hup hst hf => match k, hk, hlo, hup, hst, hf with | 0, _, _, _, hst, hf => have hO : Dk.Own w0 F w [.row (.slice (some ⟨b6, 0, none⟩) ([x_b].length) 1) 5 1 ([x_b].length) (cells zb [x_b]), .blk x_a_b0 [int x_a.f_kind, int x_a.f_limit, .slice p7 ((x_a.f_buf ++ [x_b]).length) c8, int x_a.f_from, .bool x_a.f_took, int x_a.f_bad, .bool x_a.f_whole, int x_a.f_got.Kind, str x_a.f_got.Method, str x_a.f_got.Target, int x_a.f_got.Code, str x_a.f_got.Reason, int x_a.f_got.Minor, .slice x_a_p2 x_a.f_got.Fields.length x_a_c2] 61, .row (.slice p7 ((x_a.f_buf ++ [x_b]).length) c8) 5 1 ((x_a.f_buf ++ [x_b]).length) (cells zb (x_a.f_buf ++ [x_b])), .row (.slice x_a_p2 x_a.f_got.Fields.length x_a_c2) 69 2 x_a.f_got.Fields.length (cells za x_a.f_got.Fields)] := hst; zd (o := 2) zge (hO.blkSees (i := 1) rfl) rfl hf rfl | 1, _, _, hup, _, _ => absurd (hup 0 (by decide) (by kernel_rfl)) (by decide) | k + 2, hk, _, _, _, _ => absurd hk (by simp)), zl rfl (fun σ => rfl) (fun σ => rfl) (fun σ a w k _ _ _ _ hf => zT hf rfl), zl rfl (fun σ => rfl) (fun σ => rfl) (fun σ a w k _ _ _ _ hf => zJ hf rfl), zl rfl (fun σ => rfl) (fun σ => rfl) (fun σ a w k _ _ _ _ hf => zan zlr hf rfl), zl rfl (fun σ => rfl) (fun σ => rfl) (fun σ a w k hk hlo hup hst hf => match k, hk, hlo, hup, hst, hf with | 0, _, _, _, hst, hf => have hO : Dk.Own w0 F w [.row (.slice (some ⟨b6, 0, none⟩) ([x_b].length) 1) 5 1 ([x_b].length) (cells zb [x_b]), .blk x_a_b0 [int x_a.f_kind, int x_a.f_limit, .slice p7 ((x_a.f_buf ++ [x_b]).length) c8, int x_a.f_from, .bool x_a.f_took, int x_a.f_bad, .bool x_a.f_whole, int x_a.f_got.Kind, str x_a.f_got.Method, str x_a.f_got.Target, int x_a.f_got.Code, str x_a.f_got.Reason, int x_a.f_got.Minor, .slice x_a_p2 x_a.f_got.Fields.length x_a_c2] 61, .row (.slice p7 ((x_a.f_buf ++ [x_b]).length) c8) 5 1 ((x_a.f_buf ++ [x_b]).length) (cells zb (x_a.f_buf ++ [x_b])), .row (.slice x_a_p2 x_a.f_got.Fields.length x_a_c2) 69 2 x_a.f_got.Fields.length (cells za x_a.f_got.Fields)] := hst; zd (o := 3) zfx (hO.blkSees (i := 1) rfl) rfl hf rfl | 1, _, _, hup, _, _ => absurd (hup 0 (by decide) (by kernel_rfl)) (by decide) | k + 2, hk, _, _, _, _ => absurd hk (by simp)), zl rfl (fun σ => rfl) (fun σ => rfl) (fun σ a w k _ _ _ _ hf => zT hf rfl), zl rfl (fun σ => rfl) (fun σ => rfl) (fun σ a w k _ _ _ _ hf => zJ hf rfl), zl rfl (fun σ => rfl) (fun σ => rfl) (fun σ a w k _ _ _ _ hf => zan zgM hf rfl), zl rfl (fun σ => rfl) (fun σ => rfl) (fun σ a w k hk hlo hup hst hf => match k, hk, hlo, hup, hst, hf with | 0, _, _, _, hst, hf => have hO : Dk.Own w0 F w [.row (.slice (some ⟨b6, 0, none⟩) ([x_b].length) 1) 5 1 ([x_b].length) (cells zb [x_b]), .blk x_a_b0 [int x_a.f_kind, int x_a.f_limit, .slice p7 ((x_a.f_buf ++ [x_b]).length) c8, int x_a.f_from, .bool x_a.f_took, int x_a.f_bad, .bool x_a.f_whole, int x_a.f_got.Kind, str x_a.f_got.Method, str x_a.f_got.Target, int x_a.f_got.Code, str x_a.f_got.Reason, int x_a.f_got.Minor, .slice x_a_p2 x_a.f_got.Fields.length x_a_c2] 61, .row (.slice p7 ((x_a.f_buf ++ [x_b]).length) c8) 5 1 ((x_a.f_buf ++ [x_b]).length) (cells zb (x_a.f_buf ++ [x_b])), .row (.slice x_a_p2 x_a.f_got.Fields.length x_a_c2) 69 2 x_a.f_got.Fields.length (cells za x_a.f_got.Fields)] := hst; zd (o := 2) zge (hO.blkSees (i := 1) rfl) rfl hf rfl | 1, _, _, hup, _, _ => absurd (hup 0 (by decide) (by kernel_rfl)) (by decide) | k + 2, hk, _, _, _, _ => absurd hk (by simp)), zl rfl (fun σ => rfl) (fun σ => rfl) (fun σ a w k _ _ _ _ hf => ziK Tryz.underlying23 hf rfl), zl rfl (fun σ => rfl) (fun σ => rfl) (fun σ a w k _ _ _ _ hf => zld hf rfl rfl hi20), zl rfl (fun σ => rfl) (fun σ => rfl) (fun σ a w k _ _ _ _ hf => zku Tryz.underlying23 hrl21 hf rfl rfl rfl), zl rfl (fun σ => rfl) (fun σ => rfl) (fun σ a w k hk hlo hup hst hf => match k, hk, hlo, hup, hst, hf with | 0, _, _, _, hst, hf => have hO : Dk.Own w0 F w [.row (.slice (some ⟨b6, 0, none⟩) ([x_b].length) 1) 5 1 ([x_b].length) (cells zb [x_b]), .blk x_a_b0 [int x_a.f_kind, int x_a.f_limit, .slice p7 ((x_a.f_buf ++ [x_b]).length) c8, int x_a.f_from, .bool x_a.f_took, int x_a.f_bad, .bool x_a.f_whole, int x_a.f_got.Kind, str x_a.f_got.Method, str x_a.f_got.Target, int x_a.f_got.Code, str x_a.f_got.Reason, int x_a.f_got.Minor, .slice x_a_p2 x_a.f_got.Fields.length x_a_c2] 61, .row (.slice p7 ((x_a.f_buf ++ [x_b]).length) c8) 5 1 ((x_a.f_buf ++ [x_b]).length) (cells zb (x_a.f_buf ++ [x_b])), .row (.slice x_a_p2 x_a.f_got.Fields.length x_a_c2) 69 2 x_a.f_got.Fields.length (cells za x_a.f_got.Fields)] := hst; zfk (en := zb) (l := l21) (fun _ => rfl) Tryz.underlying9 Tryz.underlying23 Tryz.underlying5 (hVl21 _ (hO.rowSees (i := 2) rfl)) hf rfl | 1, _, _, hup, _, _ => absurd (hup 0 (by decide) (by kernel_rfl)) (by decide) | k + 2, hk, _, _, _, _ => absurd hk (by simp)), zj0 rfl (fun σ => rfl) (fun σ => rfl) rfl (fun σ a w (_ : _) hf => zj c_51 hf (vs := [ptr x_a_b0 0, str l21]) rfl) (fun σ w (hO : Dk.Own w0 F w [.row (.slice (some ⟨b6, 0, none⟩) ([x_b].length) 1) 5 1 ([x_b].length) (cells zb [x_b]), .blk x_a_b0 [int x_a.f_kind, int x_a.f_limit, .slice p7 ((x_a.f_buf ++ [x_b]).length) c8, int x_a.f_from, .bool x_a.f_took, int x_a.f_bad, .bool x_a.f_whole, int x_a.f_got.Kind, str x_a.f_got.Method, str x_a.f_got.Target, int x_a.f_got.Code, str x_a.f_got.Reason, int x_a.f_got.Minor, .slice x_a_p2 x_a.f_got.Fields.length x_a_c2] 61, .row (.slice p7 ((x_a.f_buf ++ [x_b]).length) c8) 5 1 ((x_a.f_buf ++ [x_b]).length) (cells zb (x_a.f_buf ++ [x_b])), .row (.slice x_a_p2 x_a.f_got.Fields.length x_a_c2) 69 2 x_a.f_got.Fields.length (cells za x_a.f_got.Fields)]) => (zgr (⟨x_a.f_kind, x_a.f_limit, x_a.f_buf ++ [x_b], x_a.f_from, x_a.f_took, x_a.f_bad, x_a.f_whole, x_a.f_got⟩ : accum_Accum) l21 r24 _ (hG.own hF hO) (Dk.Own.far (show Dk.Own w0 F _ ([.blk x_a_b0 [int x_a.f_kind, int x_a.f_limit, .slice p7 ((x_a.f_buf ++ [x_b]).length) c8, int x_a.f_from, .bool x_a.f_took, int x_a.f_bad, .bool x_a.f_whole, int x_a.f_got.Kind, str x_a.f_got.Method, str x_a.f_got.Target, int x_a.f_got.Code, str x_a.f_got.Reason, int x_a.f_got.Minor, .slice x_a_p2 x_a.f_got.Fields.length x_a_c2] 61, .row (.slice p7 ((x_a.f_buf ++ [x_b]).length) c8) 5 1 ((x_a.f_buf ++ [x_b]).length) (cells zb (x_a.f_buf ++ [x_b])), .row (.slice x_a_p2 x_a.f_got.Fields.length x_a_c2) 69 2 x_a.f_got.Fields.length (cells za x_a.f_got.Fields)] ++ [.row (.slice (some ⟨b6, 0, none⟩) ([x_b].length) 1) 5 1 ([x_b].length) (cells zb [x_b])]) from hO.choose [1, 2, 3, 0] rfl) rfl hF hG.size) ((show Dk.Own w0 F _ ([.blk x_a_b0 [int x_a.f_kind, int x_a.f_limit, .slice p7 ((x_a.f_buf ++ [x_b]).length) c8, int x_a.f_from, .bool x_a.f_took, int x_a.f_bad, .bool x_a.f_whole, int x_a.f_got.Kind, str x_a.f_got.Method, str x_a.f_got.Target, int x_a.f_got.Code, str x_a.f_got.Reason, int x_a.f_got.Minor, .slice x_a_p2 x_a.f_got.Fields.length x_a_c2] 61, .row (.slice p7 ((x_a.f_buf ++ [x_b]).length) c8) 5 1 ((x_a.f_buf ++ [x_b]).length) (cells zb (x_a.f_buf ++ [x_b])), .row (.slice x_a_p2 x_a.f_got.Fields.length x_a_c2) 69 2 x_a.f_got.Fields.length (cells za x_a.f_got.Fields)] ++ [.row (.slice (some ⟨b6, 0, none⟩) ([x_b].length) 1) 5 1 ([x_b].length) (cells zb [x_b])]) from hO.choose [1, 2, 3, 0] rfl).lend (S := []) rfl trivial) hr24).mono fun e w' h => by obtain ⟨p25, c26, p27, c28, he, hO'⟩ := h; exact ⟨(p25, c26, p27, c28), he, (show Dk.Own w0 F _ ([.blk x_a_b0 [int x_a.f_kind, int x_a.f_limit, .slice p7 ((x_a.f_buf ++ [x_b]).length) c8, int x_a.f_from, .bool x_a.f_took, int x_a.f_bad, .bool x_a.f_whole, int x_a.f_got.Kind, str x_a.f_got.Method, str x_a.f_got.Target, int x_a.f_got.Code, str x_a.f_got.Reason, int x_a.f_got.Minor, .slice x_a_p2 x_a.f_got.Fields.length x_a_c2] 61, .row (.slice p7 ((x_a.f_buf ++ [x_b]).length) c8) 5 1 ((x_a.f_buf ++ [x_b]).length) (cells zb (x_a.f_buf ++ [x_b])), .row (.slice x_a_p2 x_a.f_got.Fields.length x_a_c2) 69 2 x_a.f_got.Fields.length (cells za x_a.f_got.Fields)] ++ [.row (.slice (some ⟨b6, 0, none⟩) ([x_b].length) 1) 5 1 ([x_b].length) (cells zb [x_b])]) from hO.choose [1, 2, 3, 0] rfl).back rfl hO' rfl, .inr rfl, .inr rfl, .inr rfl, .inr rfl, .inr rfl, .inr rfl, .inr rfl, .inr rfl, .inr rfl, .inr rfl, .inr rfl, .inr rfl, .inr rfl, .inr rfl, .inr rfl, .inr rfl, .inr rfl, .inr rfl, .inr rfl, .inr rfl, .inr rfl, .inr rfl, trivial⟩), zl rfl (fun σ => rfl) (fun σ => rfl) (fun σ a w k _ _ _ _ hf => zc2 hf rfl rfl), zl rfl (fun σ => rfl) (fun σ => rfl) (fun σ a w k _ _ _ _ hf => zc2 hf rfl rfl), zl rfl (fun σ => rfl) (fun σ => rfl) (fun σ a w k _ _ _ _ hf => zaX hf rfl), zl rfl (fun σ => rfl) (fun σ => rfl) (fun σ a w k _ _ _ _ hf => zaX hf rfl), trivial⟩ ?_
 rintro ⟨p25, c26, p27, c28⟩ a w hf hO
 have hO : Dk.Own w0 F w [.blk x_a_b0 [int r24.2.2.f_kind, int r24.2.2.f_limit, .slice p25 r24.2.2.f_buf.length c26, int r24.2.2.f_from, .bool r24.2.2.f_took, int r24.2.2.f_bad, .bool r24.2.2.f_whole, int r24.2.2.f_got.Kind, str r24.2.2.f_got.Method, str r24.2.2.f_got.Target, int r24.2.2.f_got.Code, str r24.2.2.f_got.Reason, int r24.2.2.f_got.Minor, .slice p27 r24.2.2.f_got.Fields.length c28] 61, .row (.slice p25 r24.2.2.f_buf.length c26) 5 1 r24.2.2.f_buf.length (cells zb r24.2.2.f_buf), .row (.slice p27 r24.2.2.f_got.Fields.length c28) 69 2 r24.2.2.f_got.Fields.length (cells za r24.2.2.f_got.Fields), .row (.slice (some ⟨b6, 0, none⟩) ([x_b].length) 1) 5 1 ([x_b].length) (cells zb [x_b])] := hO
 have hf : Fits 50 [(4, .bool r24.1), (5, int r24.2.1)] a := (hf.cons rfl (hf.cons rfl hf.nil))
 refine S.no tb ?_ hf hO hm
 refine re_ rfl fun a w hf hO hm => ?_
 obtain rfl := Option.some.inj hm
 exact zg Tryz.results27 hf (.tmp rfl (.tmp rfl .nil)) ⟨p25, c26, p27, c28, rfl, (hO.sub (.cons_cons _ (.cons_cons _ (.cons_cons _ (.cons _ .slnil)))))⟩

theorem zaN (x_a0 : accum_Accum) (x_a1 : Str) (R : Int × Bool × Int × accum_Accum) (w0 : World) (hG : zaz w0) {x_a0_b0 : Nat} {x_a0_p1 : Option Addr} {x_a0_c1 : Nat} {x_a0_p2 : Option Addr} {x_a0_c2 : Nat} {F : List Nat} (hF : zO F) (hO : Dk.Own w0 F w0 [.blk x_a0_b0 [int x_a0.f_kind, int x_a0.f_limit, .slice x_a0_p1 x_a0.f_buf.length x_a0_c1, int x_a0.f_from, .bool x_a0.f_took, int x_a0.f_bad, .bool x_a0.f_whole, int x_a0.f_got.Kind, str x_a0.f_got.Method, str x_a0.f_got.Target, int x_a0.f_got.Code, str x_a0.f_got.Reason, int x_a0.f_got.Minor, .slice x_a0_p2 x_a0.f_got.Fields.length x_a0_c2] 61, .row (.slice x_a0_p1 x_a0.f_buf.length x_a0_c1) 5 1 x_a0.f_buf.length (cells zb x_a0.f_buf), .row (.slice x_a0_p2 x_a0.f_got.Fields.length x_a0_c2) 69 2 x_a0.f_got.Fields.length (cells za x_a0.f_got.Fields)]) (hm : zy x_a0 x_a1 = some R) :
    Calls Tryz.prog 10 #[ptr x_a0_b0 0, str x_a1] w0 fun e w' => ∃ (p0 : Option Addr) (c0 : Nat) (p1 : Option Addr) (c1 : Nat), e = .returned (.tuple #[int R.1, .bool R.2.1, int R.2.2.1]) ∧ Dk.Own w0 F w' [.blk x_a0_b0 [int R.2.2.2.f_kind, int R.2.2.2.f_limit, .slice p0 R.2.2.2.f_buf.length c0, int R.2.2.2.f_from, .bool R.2.2.2.f_took, int R.2.2.2.f_bad, .bool R.2.2.2.f_whole, int R.2.2.2.f_got.Kind, str R.2.2.2.f_got.Method, str R.2.2.2.f_got.Target, int R.2.2.2.f_got.Code, str R.2.2.2.f_got.Reason, int R.2.2.2.f_got.Minor, .slice p1 R.2.2.2.f_got.Fields.length c1] 61, .row (.slice p0 R.2.2.2.f_buf.length c0) 5 1 R.2.2.2.f_buf.length (cells zb R.2.2.2.f_buf), .row (.slice p1 R.2.2.2.f_got.Fields.length c1) 69 2 R.2.2.2.f_got.Fields.length (cells za R.2.2.2.f_got.Fields)] := by
 rw [zy] at hm
 refine S.enter tb Tryz.func10 rfl Tryz.ntmps10 rfl ?_ hO hm
 refine vl rfl rfl (fun a w hf hO => zdD Tryz.underlying25 hf rfl rfl) ?_
 refine kn (b' := false) rfl rfl ?_
 refine jn 2 (fun a w => ∃ (t4 : Bool), Fits 72 [(0, ptr x_a0_b0 0), (1, str x_a1), (11, .bool t4)] a ∧ Dk.Own w0 F w [.blk x_a0_b0 [int x_a0.f_kind, int x_a0.f_limit, .slice x_a0_p1 x_a0.f_buf.length x_a0_c1, int x_a0.f_from, .bool x_a0.f_took, int x_a0.f_bad, .bool x_a0.f_whole, int x_a0.f_got.Kind, str x_a0.f_got.Method, str x_a0.f_got.Target, int x_a0.f_got.Code, str x_a0.f_got.Reason, int x_a0.f_got.Minor, .slice x_a0_p2 x_a0.f_got.Fields.length x_a0_c2] 61, .row (.slice x_a0_p1 x_a0.f_buf.length x_a0_c1) 5 1 x_a0.f_buf.length (cells zb x_a0.f_buf), .row (.slice x_a0_p2 x_a0.f_got.Fields.length x_a0_c2) 69 2 x_a0.f_got.Fields.length (cells za x_a0.f_got.Fields)] ∧ za8 x_a0 x_a1 t4 = some R) rfl ?_ ?_
 refine vl rfl rfl (fun a w hf hO => zd (o := 5) zmO (hO.blkSees (i := 0) rfl) rfl hf rfl) ?_
 refine br rfl (fun hc3 => ?_) fun hc3 => ?_
 exact en rfl fun a w hf hO hm => ⟨true, hf.sel rfl, hO, hm⟩
 refine vl rfl rfl (fun a w hf hO => zd (o := 6) ag_4 (hO.blkSees (i := 0) rfl) rfl hf rfl) ?_
 exact en rfl fun a w hf hO hm => ⟨x_a0.f_whole, hf.sel rfl, hO, hm⟩
 rintro a w ⟨t4, hf, hO, hm⟩
 rw [za8] at hm
 refine S.co tb ?_ hf hO hm
 refine br rfl (fun hc5 => ?_) fun hc5 => ?_
 refine re_ rfl fun a w hf hO hm => ?_
 obtain rfl := Option.some.inj hm
 exact zg Tryz.results10 hf (.tmp rfl (.tmp rfl (.tmp rfl .nil))) ⟨x_a0_p1, x_a0_c1, x_a0_p2, x_a0_c2, rfl, hO⟩
 refine jn 0 (fun a w => ∃ (i49 : Int) (i50 : Int) (p51 : Option Addr) (c52 : Nat) (l53 : List UInt8) (i54 : Int) (t55 : Bool) (i56 : Int) (t57 : Bool) (i58 : Int) (s59 : Str) (s60 : Str) (i61 : Int) (s62 : Str) (i63 : Int) (p64 : Option Addr) (c65 : Nat) (l66 : List api_Field), Fits 72 [(1, str x_a1)] a ∧ Dk.Own w0 F w [.blk x_a0_b0 [int i49, int i50, .slice p51 l53.length c52, int i54, .bool t55, int i56, .bool t57, int i58, str s59, str s60, int i61, str s62, int i63, .slice p64 l66.length c65] 61, .row (.slice p51 l53.length c52) 5 1 l53.length (cells zb l53), .row (.slice p64 l66.length c65) 69 2 l66.length (cells za l66)] ∧ zbS x_a1 i49 i50 l53 i54 t55 i56 t57 i58 s59 s60 i61 s62 i63 l66 = some R) rfl ?_ ?_
 refine lp (fun k a w => ∃ (i9 : Int) (i10 : Int) (p11 : Option Addr) (c12 : Nat) (l13 : List UInt8) (i14 : Int) (t15 : Bool) (i16 : Int) (t17 : Bool) (i18 : Int) (s19 : Str) (s20 : Str) (i21 : Int) (s22 : Str) (i23 : Int) (p24 : Option Addr) (c25 : Nat) (l26 : List api_Field) (i27 : Int), Fits 72 [(0, ptr x_a0_b0 0), (1, str x_a1), (24, int (x_a1.length : Int)), (25, int i27)] a ∧ Dk.Own w0 F w [.blk x_a0_b0 [int i9, int i10, .slice p11 l13.length c12, int i14, .bool t15, int i16, .bool t17, int i18, str s19, str s20, int i21, str s22, int i23, .slice p24 l26.length c25] 61, .row (.slice p11 l13.length c12) 5 1 l13.length (cells zb l13), .row (.slice p24 l26.length c25) 69 2 l26.length (cells za l26)] ∧ zC x_a1 k i9 i10 l13 i14 t15 i16 t17 i18 s19 s20 i21 s22 i23 l26 i27 = some R) rfl (fun a w hf hO hm => ⟨x_a0.f_kind, x_a0.f_limit, x_a0_p1, x_a0_c1, x_a0.f_buf, x_a0.f_from, x_a0.f_took, x_a0.f_bad, x_a0.f_whole, x_a0.f_got.Kind, x_a0.f_got.Method, x_a0.f_got.Target, x_a0.f_got.Code, x_a0.f_got.Reason, x_a0.f_got.Minor, x_a0_p2, x_a0_c2, x_a0.f_got.Fields, 0, hf.sel rfl, hO, hm⟩) ?_
 rintro n2 a w ⟨i9, i10, p11, c12, l13, i14, t15, i16, t17, i18, s19, s20, i21, s22, i23, p24, c25, l26, i27, hf, hO, hm⟩
 obtain _ | n2 := n2
 rw [zC] at hm
 cases hm
 rw [zC] at hm
 refine S.co tb ?_ hf hO hm
 refine br rfl (fun hc29 => ?_) fun hc29 => ?_
 refine rw_ rfl fun a w hf hO hm => ?_
 refine zW (i := 0) (o := 4) (v := .bool true) sz_4 rfl rfl rfl rfl hf rfl rfl hO fun w hO => ?_
 refine S.op tb ?_ hf hO hm
 refine bi rfl fun b33 hb33 => ?_
 refine rw_ rfl fun a w hf hO hm => ?_
 obtain ⟨r34, hr34, hm⟩ := ob hm
 have hch39 := (show Dk.Own w0 F _ ([.blk x_a0_b0 [int i9, int i10, .slice p11 l13.length c12, int i14, .bool true, int i16, .bool t17, int i18, str s19, str s20, int i21, str s22, int i23, .slice p24 l26.length c25] 61, .row (.slice p11 l13.length c12) 5 1 l13.length (cells zb l13), .row (.slice p24 l26.length c25) 69 2 l26.length (cells za l26)] ++ []) from hO)
 have hfar39 := Dk.Own.far hch39 rfl hF hG.size
 have hlend39 := hch39.lend (S := []) rfl trivial
 have hcl39 := zgs ((⟨i9, i10, l13, i14, true, i16, t17, (⟨i18, s19, s20, i21, s22, i23, l26⟩ : api_Head)⟩ : accum_Accum)) b33 r34 _ (hG.own hF hO) hfar39 hlend39 hr34
 refine zi (zj c_27 hf (vs := [ptr x_a0_b0 0, zac b33]) rfl) rfl hf rfl rfl (hcl39) ?_
 rintro e w' ⟨p35, c36, p37, c38, he, hO'⟩
 refine ⟨_, he, fun a hf => ?_⟩
 have hO := hch39.back rfl hO' rfl
 refine S.op tb ?_ hf hO hm
 refine rw_ rfl fun a w hf hO hm => ?_
 refine zW (i := 0) (o := 6) (v := .bool r34.1) sz_4 rfl rfl rfl rfl hf rfl rfl hO fun w hO => ?_
 refine S.op tb ?_ hf hO hm
 refine rw_ rfl fun a w hf hO hm => ?_
 refine zW (i := 0) (o := 5) (v := int r34.2.1) sz_26 rfl rfl rfl rfl hf rfl rfl hO fun w hO => ?_
 refine S.op tb ?_ hf hO hm
 refine jn 5 (fun a w => ∃ (t42 : Bool), Fits 72 [(0, ptr x_a0_b0 0), (1, str x_a1), (7, int i27), (24, int (x_a1.length : Int)), (25, int i27), (55, .bool t42)] a ∧ Dk.Own w0 F w [.blk x_a0_b0 [int r34.2.2.f_kind, int r34.2.2.f_limit, .slice p35 r34.2.2.f_buf.length c36, int r34.2.2.f_from, .bool r34.2.2.f_took, int r34.2.1, .bool r34.1, int r34.2.2.f_got.Kind, str r34.2.2.f_got.Method, str r34.2.2.f_got.Target, int r34.2.2.f_got.Code, str r34.2.2.f_got.Reason, int r34.2.2.f_got.Minor, .slice p37 r34.2.2.f_got.Fields.length c38] 61, .row (.slice p35 r34.2.2.f_buf.length c36) 5 1 r34.2.2.f_buf.length (cells zb r34.2.2.f_buf), .row (.slice p37 r34.2.2.f_got.Fields.length c38) 69 2 r34.2.2.f_got.Fields.length (cells za r34.2.2.f_got.Fields)] ∧ za7 (zC x_a1 n2) i27 r34 t42 = some R) rfl ?_ ?_
 refine vl rfl rfl (fun a w hf hO => zd (o := 6) ag_4 (hO.blkSees (i := 0) rfl) rfl hf rfl) ?_
 refine br rfl (fun hc41 => ?_) fun hc41 => ?_
 exact en rfl fun a w hf hO hm => ⟨true, hf.sel rfl, hO, hm⟩
 refine vl rfl rfl (fun a w hf hO => zd (o := 5) zmO (hO.blkSees (i := 0) rfl) rfl hf rfl) ?_
 exact en rfl fun a w hf hO hm => ⟨!(r34.2.1 == 0), hf.sel rfl, hO, hm⟩
 rintro a w ⟨t42, hf, hO, hm⟩
 rw [za7] at hm
 refine S.co tb ?_ hf hO hm
 refine br rfl (fun hc43 => ?_) fun hc43 => ?_
 refine rw_ rfl fun a w hf hO hm => ?_
 refine zW (i := 0) (o := 2) (v := .slice none 0 0) sz_23 rfl rfl rfl rfl hf rfl rfl hO fun w hO => ?_
 have hO := hO.nilRow 5 1
 refine S.op tb ?_ hf hO hm
 refine rc_ rfl fun a w hf hO hm => ?_
 refine zeY (by kernel_rfl) (by kernel_rfl) hO ?_
 refine zA (fun w hO => zT hf rfl) rfl hf rfl rfl fun a hf => ?_
 obtain ⟨i45, hi45, hm⟩ := ob hm
 refine zA (fun w hO => znl hf rfl rfl hi45) rfl hf rfl rfl fun a hf => ?_
 refine zA (fun w hO => zT hf rfl) rfl hf rfl rfl fun a hf => ?_
 refine zA (fun w hO => zJ hf rfl) rfl hf rfl rfl fun a hf => ?_
 refine zA (fun w hO => zan zlt hf rfl) rfl hf rfl rfl fun a hf => ?_
 refine zA (fun w hO => zd (o := 6) ag_4 (hO.blkSees (i := 1) rfl) rfl hf rfl) rfl hf rfl rfl fun a hf => ?_
 refine zA (fun w hO => zT hf rfl) rfl hf rfl rfl fun a hf => ?_
 refine zA (fun w hO => zJ hf rfl) rfl hf rfl rfl fun a hf => ?_
 refine zA (fun w hO => zan zls hf rfl) rfl hf rfl rfl fun a hf => ?_
 refine zA (fun w hO => zd (o := 5) zmO (hO.blkSees (i := 1) rfl) rfl hf rfl) rfl hf rfl rfl fun a hf => ?_
 refine zA (fun w hO => zaX hf rfl) rfl hf rfl rfl fun a hf => ?_
 refine zA (fun w hO => zaX hf rfl) rfl hf rfl rfl fun a hf => ?_
 refine zA (fun w hO => zaX hf rfl) rfl hf rfl rfl fun a hf => ?_
 refine wpQuiet_nil ?_
 intro w hO
 refine S.no tb ?_ hf hO hm
 refine re_ rfl fun a w hf hO hm => ?_
 obtain rfl := Option.some.inj hm
 exact zg Tryz.results10 hf (.tmp rfl (.tmp rfl (.tmp rfl .nil))) ⟨none, 0, p37, c38, rfl, (hO.choose [1, 0, 3] rfl)⟩
 refine bi rfl fun i48 hi48 => ?_
 exact en rfl fun a w hf hO hm => ⟨_, Nat.lt_succ_self _, r34.2.2.f_kind, r34.2.2.f_limit, p35, c36, r34.2.2.f_buf, r34.2.2.f_from, r34.2.2.f_took, r34.2.1, r34.1, r34.2.2.f_got.Kind, r34.2.2.f_got.Method, r34.2.2.f_got.Target, r34.2.2.f_got.Code, r34.2.2.f_got.Reason, r34.2.2.f_got.Minor, p37, c38, r34.2.2.f_got.Fields, i48, hf.sel rfl, hO, hm⟩
 exact en rfl fun a w hf hO hm => ⟨i9, i10, p11, c12, l13, i14, t15, i16, t17, i18, s19, s20, i21, s22, i23, p24, c25, l26, hf.sel rfl, hO, hm⟩
 rintro a w ⟨i49, i50, p51, c52, l53, i54, t55, i56, t57, i58, s59, s60, i61, s62, i63, p64, c65, l66, hf, hO, hm⟩
 rw [zbS] at hm
 refine S.co tb ?_ hf hO hm
 refine re_ rfl fun a w hf hO hm => ?_
 obtain rfl := Option.some.inj hm
 exact zg Tryz.results10 hf (.tmp rfl (.tmp rfl (.tmp rfl .nil))) ⟨p51, c52, p64, c65, rfl, hO⟩

end Go.Proofs
