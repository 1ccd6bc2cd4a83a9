/-
  Walks, written by a program (wip/gen): what its model says, the function returns; what was there before is as it was.
  Walks, written by a program (wip/gen): what its model says, the function returns; what was there before is as it was.
  Walks, written by a program (wip/gen): what its model says, the function returns; what was there before is as it was.
  Walks, written by a program (wip/gen): what its model says, the function returns; what was there before is as it was.
-/
import Derived.Test.YtoofmjmnhgdloaaGreatDoorLib
import Derived.Test.YtoofmjmnhgdloaaGreatDoorW4
section
set_option linter.unusedVariables false
set_option maxHeartbeats 1000000
set_option linter.unusedSimpArgs false
set_option maxRecDepth 100000
namespace Go.Proofs
open Go.Dk Go.Dm Go.RowKit

theorem zkr (x_s : Str) (R : api_Field × Int) (w0 : World) (hG : zx w0) (hm : zcp x_s = some R) :
    Calls Tryz.prog 33 #[str x_s] w0 (Ret w0 (fun R => .tuple #[.agg #[str R.1.Name, str R.1.Value], int R.2]) R) := by
 rw [zcp] at hm
 have hF : zz [] := zf
 have hO : Dk.Own w0 [] w0 [] := Dk.Own.refl w0
 refine S.enter tb Tryz.func33 rfl Tryz.ntmps33 rfl ?_ hO hm
 refine rw_ rfl fun a w hf hO hm => ?_
 refine zt zmK hf rfl hO fun a b1 w hf hO => ?_
 refine S.op tb ?_ hf hO hm
 refine cl c_52 rfl (fun r3 w hr3 hO => zfw x_s [13, 10] r3 _ (hG.own hF hO) hr3) fun r3 hr3 => ?_
 refine br rfl (fun hc5 => ?_) fun hc5 => ?_
 refine vl rfl rfl (fun a w hf hO => zj (vs := []) (v := .agg #[str [], str []]) hf rfl (by kernel_rfl)) ?_
 refine rw_ rfl fun a w hf hO hm => ?_
 refine ze (i := 0) (n := 2) zal rfl rfl rfl (by simp [Value.oneCell']) hf rfl rfl hO fun w hO => ?_
 refine S.op tb ?_ hf hO hm
 refine re_ rfl fun a w hf hO hm => ?_
 obtain rfl := Option.some.inj hm
 exact zg Tryz.results33 hf (.cell rfl (zd (n := 2) (vs := [str [], str []]) zdc zal rfl ((hO.blkSees (i := 0) rfl).cells (o := 0) (n := 2) rfl)) (.tmp rfl .nil)) ⟨rfl, hO.below⟩
 refine rw_ rfl fun a w hf hO hm => ?_
 obtain ⟨r8, hr8, hm⟩ := ob hm
 refine zr (zp c_57 hf (vs := [str x_s]) rfl) rfl hf rfl rfl (zin x_s r8 _ (hG.own hF hO) hr8) ?_
 rintro e w' ⟨b9, he, hO'⟩
 refine ⟨_, he, fun a hf => ?_⟩
 have hO := hO.call hO' (by simp [Res.shared])
 refine S.op tb ?_ hf hO hm
 refine rw_ rfl fun a w hf hO hm => ?_
 obtain ⟨r11, hr11, hm⟩ := ob hm
 have hch12 := (show Dk.Own w0 [] _ ([.blk b9 [str r8.f_s, int r8.f_at] 139] ++ [.blk b1 [str [], str []] 69]) from hO)
 have hfar12 := Dk.Own.far hch12 rfl hF hG.size
 have hlend12 := hch12.lend (S := []) rfl trivial
 have hcl12 := zft r8 r11 _ (hG.own hF hO) hfar12 hlend12 hr11
 refine zr (zp c_58 hf (vs := [ptr b9 0]) rfl) rfl hf rfl rfl (hcl12) ?_
 rintro e w' ⟨he, hO'⟩
 refine ⟨_, he, fun a hf => ?_⟩
 have hO := hch12.back rfl hO' rfl
 refine S.op tb ?_ hf hO hm
 refine br rfl (fun hc14 => ?_) fun hc14 => ?_
 refine vl rfl rfl (fun a w hf hO => zj (vs := []) (v := .agg #[str [], str []]) hf rfl (by kernel_rfl)) ?_
 refine rw_ rfl fun a w hf hO hm => ?_
 refine ze (i := 1) (n := 2) zal rfl rfl rfl (by simp [Value.oneCell']) hf rfl rfl hO fun w hO => ?_
 refine S.op tb ?_ hf hO hm
 refine re_ rfl fun a w hf hO hm => ?_
 obtain rfl := Option.some.inj hm
 exact zg Tryz.results33 hf (.cell rfl (zd (n := 2) (vs := [str [], str []]) zdc zal rfl ((hO.blkSees (i := 1) rfl).cells (o := 0) (n := 2) rfl)) (.tmp rfl .nil)) ⟨rfl, hO.below⟩
 refine rw_ rfl fun a w hf hO hm => ?_
 obtain ⟨r17, hr17, hm⟩ := ob hm
 have hch18 := (show Dk.Own w0 [] _ ([.blk b9 [str r11.2.f_s, int r11.2.f_at] 139] ++ [.blk b1 [str [], str []] 69]) from hO)
 have hfar18 := Dk.Own.far hch18 rfl hF hG.size
 have hlend18 := hch18.lend (S := []) rfl trivial
 have hcl18 := zgh r11.2 r17 _ (hG.own hF hO) hfar18 hlend18 hr17
 refine zr (zp c_59 hf (vs := [ptr b9 0]) rfl) rfl hf rfl rfl (hcl18) ?_
 rintro e w' ⟨he, hO'⟩
 refine ⟨_, he, fun a hf => ?_⟩
 have hO := hch18.back rfl hO' rfl
 refine S.op tb ?_ hf hO hm
 refine rw_ rfl fun a w hf hO hm => ?_
 obtain ⟨r20, hr20, hm⟩ := ob hm
 have hch21 := (show Dk.Own w0 [] _ ([.blk b9 [str r17.2.2.f_s, int r17.2.2.f_at] 139] ++ [.blk b1 [str [], str []] 69]) from hO)
 have hfar21 := Dk.Own.far hch21 rfl hF hG.size
 have hlend21 := hch21.lend (S := []) rfl trivial
 have hcl21 := zft r17.2.2 r20 _ (hG.own hF hO) hfar21 hlend21 hr20
 refine zr (zp c_58 hf (vs := [ptr b9 0]) rfl) rfl hf rfl rfl (hcl21) ?_
 rintro e w' ⟨he, hO'⟩
 refine ⟨_, he, fun a hf => ?_⟩
 have hO := hch21.back rfl hO' rfl
 refine S.op tb ?_ hf hO hm
 refine jn 2 (fun a w => ∃ (t26 : Bool) (s27 : Str) (i28 : Int), Fits 49 [(2, ptr b1 0), (4, ptr b9 0), (5, str r17.1), (7, str r20.1), (24, .bool t26)] a ∧ Dk.Own w0 [] w [.blk b9 [str s27, int i28] 139, .blk b1 [str [], str []] 69] ∧ zca r17 r20 t26 s27 i28 = some R) rfl ?_ ?_
 refine br rfl (fun hc23 => ?_) fun hc23 => ?_
 exact en rfl fun a w hf hO hm => ⟨true, r20.2.f_s, r20.2.f_at, hf.sel rfl, hO, hm⟩
 refine rw_ rfl fun a w hf hO hm => ?_
 obtain ⟨r24, hr24, hm⟩ := ob hm
 have hch25 := (show Dk.Own w0 [] _ ([.blk b9 [str r20.2.f_s, int r20.2.f_at] 139] ++ [.blk b1 [str [], str []] 69]) from hO)
 have hfar25 := Dk.Own.far hch25 rfl hF hG.size
 have hlend25 := hch25.lend (S := []) rfl trivial
 have hcl25 := zaC r20.2 58 r24 _ (hG.own hF hO) hfar25 hlend25 hr24
 refine zr (zp zqu hf (vs := [ptr b9 0, z7 58]) rfl) rfl hf rfl rfl (hcl25) ?_
 rintro e w' ⟨he, hO'⟩
 refine ⟨_, he, fun a hf => ?_⟩
 have hO := hch25.back rfl hO' rfl
 refine S.op tb ?_ hf hO hm
 refine kn (b' := false) hc23 rfl ?_
 exact en rfl fun a w hf hO hm => ⟨!r24.1, r24.2.f_s, r24.2.f_at, hf.sel rfl, hO, hm⟩
 rintro a w ⟨t26, s27, i28, hf, hO, hm⟩
 rw [zca] at hm
 refine S.co tb ?_ hf hO hm
 refine br rfl (fun hc29 => ?_) fun hc29 => ?_
 refine vl rfl rfl (fun a w hf hO => zj (vs := []) (v := .agg #[str [], str []]) hf rfl (by kernel_rfl)) ?_
 refine rw_ rfl fun a w hf hO hm => ?_
 refine ze (i := 1) (n := 2) zal rfl rfl rfl (by simp [Value.oneCell']) hf rfl rfl hO fun w hO => ?_
 refine S.op tb ?_ hf hO hm
 refine re_ rfl fun a w hf hO hm => ?_
 obtain rfl := Option.some.inj hm
 exact zg Tryz.results33 hf (.cell rfl (zd (n := 2) (vs := [str [], str []]) zdc zal rfl ((hO.blkSees (i := 1) rfl).cells (o := 0) (n := 2) rfl)) (.tmp rfl .nil)) ⟨rfl, hO.below⟩
 refine br rfl (fun hc32 => ?_) fun hc32 => ?_
 refine vl rfl rfl (fun a w hf hO => zj (vs := []) (v := .agg #[str [], str []]) hf rfl (by kernel_rfl)) ?_
 refine rw_ rfl fun a w hf hO hm => ?_
 refine ze (i := 1) (n := 2) zal rfl rfl rfl (by simp [Value.oneCell']) hf rfl rfl hO fun w hO => ?_
 refine S.op tb ?_ hf hO hm
 refine re_ rfl fun a w hf hO hm => ?_
 obtain rfl := Option.some.inj hm
 exact zg Tryz.results33 hf (.cell rfl (zd (n := 2) (vs := [str [], str []]) zdc zal rfl ((hO.blkSees (i := 1) rfl).cells (o := 0) (n := 2) rfl)) (.tmp rfl .nil)) ⟨rfl, hO.below⟩
 refine cl c_63 rfl (fun r34 w hr34 hO => zbe (⟨s27, i28⟩ : scan_Scanner) r34 _ (hG.own hF hO) (hO.blkSees (i := 0) rfl) hr34) fun r34 hr34 => ?_
 refine rw_ rfl fun a w hf hO hm => ?_
 refine zJ (vs := [(0, str r34)]) (cs := [str r34]) (e := 9) (sz := 1) hf rfl rfl (fun w => by kernel_rfl) rfl rfl hO fun a b35 w hf hO => ?_
 refine S.op tb ?_ hf hO hm
 refine cl zoQ rfl (fun r36 w hr36 hO => zcB zaH ([r34] : List Str) r36 _ (hG.own hF hO) c_62 (fun y0 r w hG h => zfT (zeF y0 r w hG h)) (hO.rowSees (i := 0) rfl) (hO.rowCap (i := 0) rfl) hr36) fun r36 hr36 => ?_
 refine br rfl (fun hc38 => ?_) fun hc38 => ?_
 refine vl rfl rfl (fun a w hf hO => zj (vs := []) (v := .agg #[str [], str []]) hf rfl (by kernel_rfl)) ?_
 refine rw_ rfl fun a w hf hO hm => ?_
 refine ze (i := 2) (n := 2) zal rfl rfl rfl (by simp [Value.oneCell']) hf rfl rfl hO fun w hO => ?_
 refine S.op tb ?_ hf hO hm
 refine re_ rfl fun a w hf hO hm => ?_
 obtain rfl := Option.some.inj hm
 exact zg Tryz.results33 hf (.cell rfl (zd (n := 2) (vs := [str [], str []]) zdc zal rfl ((hO.blkSees (i := 2) rfl).cells (o := 0) (n := 2) rfl)) (.tmp rfl .nil)) ⟨rfl, hO.below⟩
 refine cl c_63 rfl (fun r41 w hr41 hO => zbe (⟨s27, i28⟩ : scan_Scanner) r41 _ (hG.own hF hO) (hO.blkSees (i := 1) rfl) hr41) fun r41 hr41 => ?_
 refine cl c_64 rfl (fun r42 w hr42 hO => ziI r41 [32, 9] r42 _ (hG.own hF hO) hr42) fun r42 hr42 => ?_
 refine vl rfl rfl (fun a w hf hO => zj (vs := [(0, str r17.1), (1, str r42)]) (v := .agg #[str r17.1, str r42]) hf rfl (by kernel_rfl)) ?_
 refine rw_ rfl fun a w hf hO hm => ?_
 refine ze (i := 2) (n := 2) zal rfl rfl rfl (by simp [Value.oneCell']) hf rfl rfl hO fun w hO => ?_
 refine S.op tb ?_ hf hO hm
 refine re_ rfl fun a w hf hO hm => ?_
 obtain rfl := Option.some.inj hm
 exact zg Tryz.results33 hf (.cell rfl (zd (n := 2) (vs := [str r17.1, str r42]) zdc zal rfl ((hO.blkSees (i := 2) rfl).cells (o := 0) (n := 2) rfl)) (.tmp rfl .nil)) ⟨rfl, hO.below⟩

theorem zbP (x_s : List api_Field) (R : List api_Field) (w0 : World) (hG : zx w0) {x_s_p0 : Option Addr} {x_s_c0 : Nat} (hs0 : zas w0 x_s_p0 (cells za x_s)) (hc0 : x_s.length ≤ x_s_c0) (hm : zI x_s = some R) :
    Calls Tryz.prog 146 #[.slice x_s_p0 x_s.length x_s_c0] w0 fun e w' => ∃ (p0 : Option Addr) (c0 : Nat), e = .returned (.slice p0 R.length c0) ∧ Dk.Own w0 [] w' [.row (.slice p0 R.length c0) 69 2 R.length (cells za R)] := by
 rw [zI] at hm
 have hF : zz [] := zf
 have hO : Dk.Own w0 [] w0 [] := Dk.Own.refl w0
 have hO := hO.addShr hs0 (by simp [Res.shared])
 refine S.enter tb Tryz.func146 rfl Tryz.ntmps146 rfl ?_ hO hm
 refine nl 69 2 ?_
 refine vl rfl rfl (fun a w hf hO => zrt (ad := x_s_p0) Tryz.underlying33 hf rfl rfl) ?_
 refine rc_ rfl fun a w hf hO hm => ?_
 rcases zct (x_s_p0.isNone) with hc3 | hc3
 have hxhc3 : x_s = [] := zru (enc := za) (sz := 2) (fun _ => rfl) (by decide) (hO.sees (i := 1) rfl) hc3
 rw [hxhc3] at hm
 have hm : some [] = some R := by first | exact hm | (rw [hxhc3]; exact hm) | simpa [hxhc3] using hm
 refine zrv hf rfl hc3 ?_
 refine S.co tb ?_ hf hO hm
 refine nl 69 2 ?_
 refine re_ rfl fun a w hf hO hm => ?_
 obtain rfl := Option.some.inj hm
 exact zg Tryz.results146 hf (.tmp rfl .nil) ⟨none, 0, rfl, (hO.sub (.cons_cons _ (.cons _ (.cons _ .slnil))))⟩
 refine zrw hf rfl hc3 ?_
 refine S.co tb ?_ hf hO hm
 refine rw_ rfl fun a w hf hO hm => ?_
 refine zJ (vs := []) (cs := []) (e := 69) (sz := 2) hf rfl rfl (fun w => by kernel_rfl) rfl rfl hO fun a b6 w hf hO => ?_
 refine S.op tb ?_ hf hO hm
 refine rw_ rfl fun a w hf hO hm => ?_
 obtain ⟨hg9, hm⟩ := og hm
 refine zmJ zse (enc := za) (xs := []) (ys := x_s) (i := 0) (fun _ => rfl) rfl (hO.sees (i := 2) rfl) (by simp [za, Value.oneCell']) hg9 hf rfl rfl rfl hO fun a p7 c8 w hf hO => ?_
 refine S.op tb ?_ hf hO hm
 refine re_ rfl fun a w hf hO hm => ?_
 obtain rfl := Option.some.inj hm
 exact zg Tryz.results146 hf (.tmp rfl .nil) ⟨p7, c8, rfl, (hO.sub (.cons_cons _ (.cons _ (.cons _ .slnil))))⟩

theorem zrf (x_l : List api_Field) (R : bag_Bag) (w0 : World) (hG : zx w0) {x_l_p0 : Option Addr} {x_l_c0 : Nat} (hs0 : zas w0 x_l_p0 (cells za x_l)) (hc0 : x_l.length ≤ x_l_c0) (hm : zlQ x_l = some R) :
    Calls Tryz.prog 110 #[.slice x_l_p0 x_l.length x_l_c0] w0 fun e w' => ∃ (b0 : Nat) (p1 : Option Addr) (c1 : Nat), e = .returned (ptr b0 0) ∧ Dk.Own w0 [] w' [.blk b0 [.slice p1 R.f_l.length c1] 177, .row (.slice p1 R.f_l.length c1) 69 2 R.f_l.length (cells za R.f_l)] := by
 rw [zlQ] at hm
 have hF : zz [] := zf
 have hO : Dk.Own w0 [] w0 [] := Dk.Own.refl w0
 have hO := hO.addShr hs0 (by simp [Res.shared])
 refine S.enter tb Tryz.func110 rfl Tryz.ntmps110 rfl ?_ hO hm
 refine rw_ rfl fun a w hf hO hm => ?_
 obtain ⟨r2, hr2, hm⟩ := ob hm
 refine zr (zp c_146 hf (vs := [.slice x_l_p0 x_l.length x_l_c0]) rfl) rfl hf rfl rfl (zbP x_l r2 _ (hG.own hF hO) (hO.sees (i := 0) rfl) hc0 hr2) ?_
 rintro e w' ⟨p3, c4, he, hO'⟩
 refine ⟨_, he, fun a hf => ?_⟩
 have hO := hO.call hO' (by simp [Res.shared])
 refine S.op tb ?_ hf hO hm
 refine vl rfl rfl (fun a w hf hO => zj (vs := [(0, .slice p3 r2.length c4)]) (v := .agg #[.slice p3 r2.length c4]) hf rfl (by kernel_rfl)) ?_
 refine rw_ rfl fun a w hf hO hm => ?_
 refine zbU (v := .agg #[.slice p3 r2.length c4]) (cs := [.slice p3 r2.length c4]) rfl hf rfl rfl hO fun a b5 w hf hO => ?_
 refine S.op tb ?_ hf hO hm
 refine re_ rfl fun a w hf hO hm => ?_
 obtain rfl := Option.some.inj hm
 exact zg Tryz.results110 hf (.tmp rfl .nil) ⟨b5, p3, c4, rfl, (hO.sub (.cons_cons _ (.cons_cons _ (.cons _ .slnil))))⟩

theorem zmE (x_b : bag_Bag) (R : List api_Field) (w0 : World) (hG : zx w0) {x_b_b0 : Nat} {x_b_p1 : Option Addr} {x_b_c1 : Nat} (hs0 : zas w0 (some ⟨x_b_b0, 0, none⟩) [.slice x_b_p1 x_b.f_l.length x_b_c1]) (hs1 : zas w0 x_b_p1 (cells za x_b.f_l)) (hc1 : x_b.f_l.length ≤ x_b_c1) (hm : zgw x_b = some R) :
    Calls Tryz.prog 147 #[ptr x_b_b0 0] w0 fun e w' => ∃ (p0 : Option Addr) (c0 : Nat), e = .returned (.slice p0 R.length c0) ∧ Dk.Own w0 [] w' [.row (.slice p0 R.length c0) 69 2 R.length (cells za R)] := by
 rw [zgw] at hm
 have hF : zz [] := zf
 have hO : Dk.Own w0 [] w0 [] := Dk.Own.refl w0
 have hO := hO.addShr hs0 (by simp [Res.shared])
 have hO := hO.addShr hs1 (by simp [Res.shared])
 refine S.enter tb Tryz.func147 rfl Tryz.ntmps147 rfl ?_ hO hm
 refine nl 69 2 ?_
 refine vl rfl rfl (fun a w hf hO => zfS Tryz.underlying149 hf rfl rfl) ?_
 refine kn (b' := false) rfl rfl ?_
 refine vl rfl rfl (fun a w hf hO => zb (o := 0) zhT (hO.sees (i := 2) rfl) rfl hf rfl) ?_
 refine rw_ rfl fun a w hf hO hm => ?_
 obtain ⟨r4, hr4, hm⟩ := ob hm
 refine zr (zp c_146 hf (vs := [.slice x_b_p1 x_b.f_l.length x_b_c1]) rfl) rfl hf rfl rfl (zbP x_b.f_l r4 _ (hG.own hF hO) (hO.sees (i := 1) rfl) hc1 hr4) ?_
 rintro e w' ⟨p5, c6, he, hO'⟩
 refine ⟨_, he, fun a hf => ?_⟩
 have hO := hO.call hO' (by simp [Res.shared])
 refine S.op tb ?_ hf hO hm
 refine re_ rfl fun a w hf hO hm => ?_
 obtain rfl := Option.some.inj hm
 exact zg Tryz.results147 hf (.tmp rfl .nil) ⟨p5, c6, rfl, (hO.sub (.cons_cons _ (.cons _ (.cons _ (.cons _ .slnil)))))⟩

theorem zoG (x_a : Str) (x_b : Str) (R : Bool) (w0 : World) (hG : zx w0) (hm : zgR x_a x_b = some R) :
    Calls Tryz.prog 148 #[str x_a, str x_b] w0 (Ret w0 (fun R => .bool R) R) := by
 rw [zgR] at hm
 have hF : zz [] := zf
 have hO : Dk.Own w0 [] w0 [] := Dk.Own.refl w0
 refine S.enter tb Tryz.func148 rfl Tryz.ntmps148 rfl ?_ hO hm
 refine cl zsq rfl (fun r2 w hr2 hO => zh5 x_a r2 _ (hG.own hF hO) hr2) fun r2 hr2 => ?_
 refine cl zsq rfl (fun r3 w hr3 hO => zh5 x_b r3 _ (hG.own hF hO) hr3) fun r3 hr3 => ?_
 exact rt Tryz.results148 rfl

theorem zkZ (x_b : bag_Bag) (x_name : Str) (R : List Str) (w0 : World) (hG : zx w0) {x_b_b0 : Nat} {x_b_p1 : Option Addr} {x_b_c1 : Nat} (hs0 : zas w0 (some ⟨x_b_b0, 0, none⟩) [.slice x_b_p1 x_b.f_l.length x_b_c1]) (hs1 : zas w0 x_b_p1 (cells za x_b.f_l)) (hc1 : x_b.f_l.length ≤ x_b_c1) (hm : zdE x_b x_name = some R) :
    Calls Tryz.prog 111 #[ptr x_b_b0 0, str x_name] w0 fun e w' => ∃ (p0 : Option Addr) (c0 : Nat), e = .returned (.slice p0 R.length c0) ∧ Dk.Own w0 [] w' [.row (.slice p0 R.length c0) 9 1 R.length (cells zh R)] := by
 rw [zdE] at hm
 have hF : zz [] := zf
 have hO : Dk.Own w0 [] w0 [] := Dk.Own.refl w0
 have hO := hO.addShr hs0 (by simp [Res.shared])
 have hO := hO.addShr hs1 (by simp [Res.shared])
 refine S.enter tb Tryz.func111 rfl Tryz.ntmps111 rfl ?_ hO hm
 refine nl 9 1 ?_
 refine nl 9 1 ?_
 refine rw_ rfl fun a w hf hO hm => ?_
 obtain ⟨r3, hr3, hm⟩ := ob hm
 refine zr (zp c_147 hf (vs := [ptr x_b_b0 0]) rfl) rfl hf rfl rfl (zmE x_b r3 _ (hG.own hF hO) (hO.sees (i := 3) rfl) (hO.sees (i := 2) rfl) hc1 hr3) ?_
 rintro e w' ⟨p4, c5, he, hO'⟩
 refine ⟨_, he, fun a hf => ?_⟩
 have hO := hO.call hO' (by simp [Res.shared])
 refine S.op tb ?_ hf hO hm
 refine lp (fun k a w => ∃ (p7 : Option Addr) (c8 : Nat) (l9 : List Str) (i10 : Int), Fits 26 [(1, str x_name), (5, .slice p7 l9.length c8), (9, .slice p4 r3.length c5), (10, int (r3.length : Int)), (11, int i10)] a ∧ Dk.Own w0 [] w [.row (.slice p4 r3.length c5) 69 2 r3.length (cells za r3), .row (.slice p7 l9.length c8) 9 1 l9.length (cells zh l9), .row (.slice none 0 0) 9 1 0 (cells zh []), .shr x_b_p1 (cells za x_b.f_l), .shr (some ⟨x_b_b0, 0, none⟩) ([.slice x_b_p1 x_b.f_l.length x_b_c1])] ∧ zar x_name r3 k l9 i10 = some R) rfl (fun a w hf hO hm => ⟨none, 0, [], 0, hf.sel rfl, hO, hm⟩) ?_
 rintro n1 a w ⟨p7, c8, l9, i10, hf, hO, hm⟩
 obtain _ | n1 := n1
 rw [zar] at hm
 cases hm
 rw [zar] at hm
 refine S.co tb ?_ hf hO hm
 refine br rfl (fun hc12 => ?_) fun hc12 => ?_
 refine jn 3 (fun a w => ∃ (p26 : Option Addr) (c27 : Nat) (l28 : List Str), Fits 26 [(1, str x_name), (5, .slice p26 l28.length c27), (9, .slice p4 r3.length c5), (10, int (r3.length : Int)), (11, int i10)] a ∧ Dk.Own w0 [] w [.row (.slice p4 r3.length c5) 69 2 r3.length (cells za r3), .row (.slice p26 l28.length c27) 9 1 l28.length (cells zh l28), .row (.slice none 0 0) 9 1 0 (cells zh []), .shr x_b_p1 (cells za x_b.f_l), .shr (some ⟨x_b_b0, 0, none⟩) ([.slice x_b_p1 x_b.f_l.length x_b_c1])] ∧ zcw (zar x_name r3 n1) i10 l28 = some R) rfl ?_ ?_
 refine rw_ rfl fun a w hf hO hm => ?_
 obtain ⟨x14, hx14, hm⟩ := ob hm
 obtain ⟨b15, o16, hix14, hSx14, hAx14⟩ := zah (enc := za) (sz := 2) (xs := r3) 33 Tryz.underlying33 zal (by decide) (fun _ => rfl) hO (i := 0) rfl hx14
 refine za2 (zo hix14 hf rfl rfl) rfl hf rfl rfl fun a hf => ?_
 refine S.op tb ?_ hf hO hm
 refine vl rfl rfl (fun a w hf hO => zn (o := 0) (vs := [str x14.Name, str x14.Value]) zdc zal (hSx14 _ (hO.rowSees (i := 0) rfl)) rfl rfl hf rfl) ?_
 refine rw_ rfl fun a w hf hO hm => ?_
 refine zt zmK hf rfl hO fun a b17 w hf hO => ?_
 refine S.op tb ?_ hf hO hm
 refine rw_ rfl fun a w hf hO hm => ?_
 refine ze (i := 0) (n := 2) zal rfl rfl rfl (by simp [Value.oneCell']) hf rfl rfl hO fun w hO => ?_
 refine S.op tb ?_ hf hO hm
 refine vl rfl rfl (fun a w hf hO => zb (o := 0) zR (hO.blkSees (i := 0) rfl) rfl hf rfl) ?_
 refine cl c_148 rfl (fun r19 w hr19 hO => zoG x14.Name x_name r19 _ (hG.own hF hO) hr19) fun r19 hr19 => ?_
 refine br rfl (fun hc21 => ?_) fun hc21 => ?_
 refine vl rfl rfl (fun a w hf hO => zb (o := 1) zR (hO.blkSees (i := 0) rfl) rfl hf rfl) ?_
 refine rw_ rfl fun a w hf hO hm => ?_
 refine zJ (vs := [(0, str x14.Value)]) (cs := [str x14.Value]) (e := 9) (sz := 1) hf rfl rfl (fun w => by kernel_rfl) rfl rfl hO fun a b22 w hf hO => ?_
 refine S.op tb ?_ hf hO hm
 refine rw_ rfl fun a w hf hO hm => ?_
 obtain ⟨hg25, hm⟩ := og hm
 refine zeQ znX (enc := zh) (xs := l9) (ys := ([x14.Value] : List Str)) (i := 3) (fun _ => rfl) rfl (hO.rowSees (i := 0) rfl) (by simp [cells, zh, Value.oneCell']) hg25 hf rfl rfl rfl hO fun a p23 c24 w hf hO => ?_
 refine S.op tb ?_ hf hO hm
 exact en rfl fun a w hf hO hm => ⟨p23, c24, l9 ++ ([x14.Value] : List Str), hf.sel rfl, (hO.sub (.cons _ (.cons _ (.cons_cons _ (.cons_cons _ (.cons_cons _ (.cons_cons _ (.cons_cons _ .slnil)))))))), hm⟩
 exact en rfl fun a w hf hO hm => ⟨p7, c8, l9, hf.sel rfl, (hO.sub (.cons _ (.cons_cons _ (.cons_cons _ (.cons_cons _ (.cons_cons _ (.cons_cons _ .slnil))))))), hm⟩
 rintro a w ⟨p26, c27, l28, hf, hO, hm⟩
 rw [zcw] at hm
 refine S.co tb ?_ hf hO hm
 refine bi rfl fun i29 hi29 => ?_
 exact en rfl fun a w hf hO hm => ⟨_, Nat.lt_succ_self _, p26, c27, l28, i29, hf.sel rfl, hO, hm⟩
 refine re_ rfl fun a w hf hO hm => ?_
 obtain rfl := Option.some.inj hm
 exact zg Tryz.results111 hf (.tmp rfl .nil) ⟨p7, c8, rfl, (hO.sub (.cons _ (.cons_cons _ (.cons _ (.cons _ (.cons _ .slnil))))))⟩

theorem zoH (x_h : api_Head) (R : Bool) (w0 : World) (hG : zbh w0) {x_h_p0 : Option Addr} {x_h_c0 : Nat} (hs0 : zas w0 x_h_p0 (cells za x_h.Fields)) (hc0 : x_h.Fields.length ≤ x_h_c0) (hm : zgS x_h = some R) :
    Calls Tryz.prog 65 #[.agg #[int x_h.Kind, str x_h.Method, str x_h.Target, int x_h.Code, str x_h.Reason, int x_h.Minor, .slice x_h_p0 x_h.Fields.length x_h_c0]] w0 (Ret w0 (fun R => .bool R) R) := by
 rw [zgS] at hm
 have hF : zz [] := zf
 have hO : Dk.Own w0 [] w0 [] := Dk.Own.refl w0
 have hO := hO.addShr hs0 (by simp [Res.shared])
 refine S.enter tb Tryz.func65 rfl Tryz.ntmps65 rfl ?_ hO hm
 refine rw_ rfl fun a w hf hO hm => ?_
 refine zbU (v := .agg #[int x_h.Kind, str x_h.Method, str x_h.Target, int x_h.Code, str x_h.Reason, int x_h.Minor, .slice x_h_p0 x_h.Fields.length x_h_c0]) (cs := [int x_h.Kind, str x_h.Method, str x_h.Target, int x_h.Code, str x_h.Reason, int x_h.Minor, .slice x_h_p0 x_h.Fields.length x_h_c0]) rfl hf rfl rfl hO fun a b1 w hf hO => ?_
 refine S.op tb ?_ hf hO hm
 refine vl rfl rfl (fun a w hf hO => zb (o := 0) zlv (hO.blkSees (i := 0) rfl) rfl hf rfl) ?_
 refine br rfl (fun hc4 => ?_) fun hc4 => ?_
 exact rt Tryz.results65 rfl
 refine vl rfl rfl (fun a w hf hO => zb (o := 6) zhT (hO.blkSees (i := 0) rfl) rfl hf rfl) ?_
 refine rw_ rfl fun a w hf hO hm => ?_
 obtain ⟨r7, hr7, hm⟩ := ob hm
 refine zr (zp c_110 hf (vs := [.slice x_h_p0 x_h.Fields.length x_h_c0]) rfl) rfl hf rfl rfl (zrf x_h.Fields r7 _ (hG.own hF hO).1 (hO.sees (i := 1) rfl) hc0 hr7) ?_
 rintro e w' ⟨b8, p9, c10, he, hO'⟩
 refine ⟨_, he, fun a hf => ?_⟩
 have hO := hO.call hO' (by simp [Res.shared])
 refine S.op tb ?_ hf hO hm
 refine rw_ rfl fun a w hf hO hm => ?_
 obtain ⟨r11, hr11, hm⟩ := ob hm
 refine zr (zp c_111 hf (vs := [ptr b8 0, str [72, 111, 115, 116]]) rfl) rfl hf rfl rfl (zkZ r7 [72, 111, 115, 116] r11 _ (hG.own hF hO).1 (hO.blkSees (i := 0) rfl) (hO.rowSees (i := 1) rfl) (hO.rowCap (i := 1) rfl) hr11) ?_
 rintro e w' ⟨p12, c13, he, hO'⟩
 refine ⟨_, he, fun a hf => ?_⟩
 have hO := hO.call hO' (by simp [Res.shared])
 refine S.op tb ?_ hf hO hm
 refine jn 1 (fun a w => ∃ (t16 : Bool), Fits 43 [(3, .slice p12 r11.length c13), (24, .bool t16)] a ∧ Dk.Own w0 [] w [.row (.slice p12 r11.length c13) 9 1 r11.length (cells zh r11), .blk b8 [.slice p9 r7.f_l.length c10] 177, .row (.slice p9 r7.f_l.length c10) 69 2 r7.f_l.length (cells za r7.f_l), .blk b1 [int x_h.Kind, str x_h.Method, str x_h.Target, int x_h.Code, str x_h.Reason, int x_h.Minor, .slice x_h_p0 x_h.Fields.length x_h_c0] 35, .shr x_h_p0 (cells za x_h.Fields)] ∧ zcF r11 t16 = some R) rfl ?_ ?_
 refine br rfl (fun hc15 => ?_) fun hc15 => ?_
 exact en rfl fun a w hf hO hm => ⟨true, hf.sel rfl, hO, hm⟩
 refine vl rfl rfl (fun a w hf hO => zb (o := 5) zfl (hO.blkSees (i := 3) rfl) rfl hf rfl) ?_
 exact en rfl fun a w hf hO hm => ⟨decide ((r11.length : Int) < x_h.Minor), hf.sel rfl, hO, hm⟩
 rintro a w ⟨t16, hf, hO, hm⟩
 rw [zcF] at hm
 refine S.co tb ?_ hf hO hm
 refine br rfl (fun hc17 => ?_) fun hc17 => ?_
 exact rt Tryz.results65 rfl
 refine lp (fun k a w => ∃ (i21 : Int), Fits 43 [(25, .slice p12 r11.length c13), (26, int (r11.length : Int)), (27, int i21)] a ∧ Dk.Own w0 [] w [.row (.slice p12 r11.length c13) 9 1 r11.length (cells zh r11), .blk b8 [.slice p9 r7.f_l.length c10] 177, .row (.slice p9 r7.f_l.length c10) 69 2 r7.f_l.length (cells za r7.f_l), .blk b1 [int x_h.Kind, str x_h.Method, str x_h.Target, int x_h.Code, str x_h.Reason, int x_h.Minor, .slice x_h_p0 x_h.Fields.length x_h_c0] 35, .shr x_h_p0 (cells za x_h.Fields)] ∧ zbs r11 k i21 = some R) rfl (fun a w hf hO hm => ⟨0, hf.sel rfl, hO, hm⟩) ?_
 rintro n2 a w ⟨i21, hf, hO, hm⟩
 obtain _ | n2 := n2
 rw [zbs] at hm
 cases hm
 rw [zbs] at hm
 refine S.co tb ?_ hf hO hm
 refine br rfl (fun hc23 => ?_) fun hc23 => ?_
 refine rw_ rfl fun a w hf hO hm => ?_
 obtain ⟨x25, hx25, hm⟩ := ob hm
 obtain ⟨b26, o27, hix25, hSx25, hAx25⟩ := zah (enc := zh) (sz := 1) (xs := r11) 31 Tryz.underlying31 zd1 (by decide) (fun _ => rfl) hO (i := 0) rfl hx25
 refine za2 (zo hix25 hf rfl rfl) rfl hf rfl rfl fun a hf => ?_
 refine S.op tb ?_ hf hO hm
 refine vl rfl rfl (fun a w hf hO => zb (o := 0) zR (hSx25 _ (hO.rowSees (i := 0) rfl)) rfl hf rfl) ?_
 refine cl zsn rfl (fun r29 w hr29 hO => zfB x25 r29 _ (hG.own hF hO) hr29) fun r29 hr29 => ?_
 refine rw_ rfl fun a w hf hO hm => ?_
 refine zt zfm hf rfl hO fun a b30 w hf hO => ?_
 refine S.op tb ?_ hf hO hm
 refine rw_ rfl fun a w hf hO hm => ?_
 refine ze (i := 0) (n := 3) zP rfl rfl rfl (by simp [Value.oneCell']) hf rfl rfl hO fun w hO => ?_
 refine S.op tb ?_ hf hO hm
 refine jn 5 (fun a w => ∃ (t33 : Bool), Fits 43 [(25, .slice p12 r11.length c13), (26, int (r11.length : Int)), (27, int i21), (41, .bool t33)] a ∧ Dk.Own w0 [] w [.blk b30 [int r29.1.Kind, str r29.1.Name, int r29.1.Port] 107, .row (.slice p12 r11.length c13) 9 1 r11.length (cells zh r11), .blk b8 [.slice p9 r7.f_l.length c10] 177, .row (.slice p9 r7.f_l.length c10) 69 2 r7.f_l.length (cells za r7.f_l), .blk b1 [int x_h.Kind, str x_h.Method, str x_h.Target, int x_h.Code, str x_h.Reason, int x_h.Minor, .slice x_h_p0 x_h.Fields.length x_h_c0] 35, .shr x_h_p0 (cells za x_h.Fields)] ∧ zet (zbs r11 n2) i21 t33 = some R) rfl ?_ ?_
 refine br rfl (fun hc32 => ?_) fun hc32 => ?_
 exact en rfl fun a w hf hO hm => ⟨!(x25 == []), hf.sel rfl, hO, hm⟩
 exact en rfl fun a w hf hO hm => ⟨false, hf.sel rfl, hO, hm⟩
 rintro a w ⟨t33, hf, hO, hm⟩
 rw [zet] at hm
 refine S.co tb ?_ hf hO hm
 refine br rfl (fun hc34 => ?_) fun hc34 => ?_
 exact rt Tryz.results65 rfl
 refine bi rfl fun i37 hi37 => ?_
 exact en rfl fun a w hf hO hm => ⟨_, Nat.lt_succ_self _, i37, hf.sel rfl, (hO.sub (.cons _ (.cons_cons _ (.cons_cons _ (.cons_cons _ (.cons_cons _ (.cons_cons _ .slnil))))))), hm⟩
 exact rt Tryz.results65 rfl

theorem zks (x_h : api_Head) (R : Int) (w0 : World) (hG : zbh w0) {x_h_p0 : Option Addr} {x_h_c0 : Nat} (hs0 : zas w0 x_h_p0 (cells za x_h.Fields)) (hc0 : x_h.Fields.length ≤ x_h_c0) (hm : zfD x_h = some R) :
    Calls Tryz.prog 34 #[.agg #[int x_h.Kind, str x_h.Method, str x_h.Target, int x_h.Code, str x_h.Reason, int x_h.Minor, .slice x_h_p0 x_h.Fields.length x_h_c0]] w0 (Ret w0 (fun R => int R) R) := by
 rw [zfD] at hm
 have hF : zz [] := zf
 have hO : Dk.Own w0 [] w0 [] := Dk.Own.refl w0
 have hO := hO.addShr hs0 (by simp [Res.shared])
 refine S.enter tb Tryz.func34 rfl Tryz.ntmps34 rfl ?_ hO hm
 refine rw_ rfl fun a w hf hO hm => ?_
 refine zbU (v := .agg #[int x_h.Kind, str x_h.Method, str x_h.Target, int x_h.Code, str x_h.Reason, int x_h.Minor, .slice x_h_p0 x_h.Fields.length x_h_c0]) (cs := [int x_h.Kind, str x_h.Method, str x_h.Target, int x_h.Code, str x_h.Reason, int x_h.Minor, .slice x_h_p0 x_h.Fields.length x_h_c0]) rfl hf rfl rfl hO fun a b1 w hf hO => ?_
 refine S.op tb ?_ hf hO hm
 refine vl rfl rfl (fun a w hf hO => zb (o := 6) zhT (hO.blkSees (i := 0) rfl) rfl hf rfl) ?_
 refine br rfl (fun hc4 => ?_) fun hc4 => ?_
 exact rt Tryz.results34 rfl
 refine vl rfl rfl (fun a w hf hO => zn (o := 0) (vs := [int x_h.Kind, str x_h.Method, str x_h.Target, int x_h.Code, str x_h.Reason, int x_h.Minor, .slice x_h_p0 x_h.Fields.length x_h_c0]) zae zv (hO.blkSees (i := 0) rfl) rfl rfl hf rfl) ?_
 refine cl c_65 rfl (fun r6 w hr6 hO => zoH x_h r6 _ (hG.own hF hO) (hO.sees (i := 1) rfl) hc0 hr6) fun r6 hr6 => ?_
 refine br rfl (fun hc8 => ?_) fun hc8 => ?_
 exact rt Tryz.results34 rfl
 exact rt Tryz.results34 rfl

theorem zkt (x_a0 : Int) (x_a1 : Str) (x_a2 : Int) (R : api_Head × Int) (w0 : World) (hG : zbh w0) (hm : zfE x_a0 x_a1 x_a2 = some R) :
    Calls Tryz.prog 14 #[int x_a0, str x_a1, int x_a2] w0 fun e w' => ∃ (p0 : Option Addr) (c0 : Nat), e = .returned (.tuple #[.agg #[int R.1.Kind, str R.1.Method, str R.1.Target, int R.1.Code, str R.1.Reason, int R.1.Minor, .slice p0 R.1.Fields.length c0], int R.2]) ∧ Dk.Own w0 [] w' [.row (.slice p0 R.1.Fields.length c0) 69 2 R.1.Fields.length (cells za R.1.Fields)] := by
 rw [zfE] at hm
 have hF : zz [] := zf
 have hO : Dk.Own w0 [] w0 [] := Dk.Own.refl w0
 refine S.enter tb Tryz.func14 rfl Tryz.ntmps14 rfl ?_ hO hm
 refine rw_ rfl fun a w hf hO hm => ?_
 refine zt zg5 hf rfl hO fun a b1 w hf hO => ?_
 have hO := hO.nilRow 69 2
 refine S.op tb ?_ hf hO hm
 refine rw_ rfl fun a w hf hO hm => ?_
 obtain ⟨r3, hr3, hm⟩ := ob hm
 refine zr (zp c_30 hf (vs := [int x_a0, str []]) rfl) rfl hf rfl rfl (ze7 x_a0 [] r3 _ (hG.own hF hO) hr3) ?_
 rintro e w' ⟨p4, c5, he, hO'⟩
 refine ⟨_, he, fun a hf => ?_⟩
 have hO := hO.call hO' (by simp [Res.shared])
 refine S.op tb ?_ hf hO hm
 refine rw_ rfl fun a w hf hO hm => ?_
 refine zt zg5 hf rfl hO fun a b6 w hf hO => ?_
 have hO := hO.nilRow 69 2
 refine S.op tb ?_ hf hO hm
 refine rw_ rfl fun a w hf hO hm => ?_
 refine ze (i := 1) (n := 7) zv rfl rfl rfl (by simp [Value.oneCell']) hf rfl rfl hO fun w hO => ?_
 refine S.op tb ?_ hf hO hm
 refine br rfl (fun hc9 => ?_) fun hc9 => ?_
 refine vl rfl rfl (fun a w hf hO => zj (vs := []) (v := .agg #[int 0, str [], str [], int 0, str [], int 0, .slice none 0 0]) hf rfl (by kernel_rfl)) ?_
 refine rw_ rfl fun a w hf hO hm => ?_
 refine ze (i := 4) (n := 7) zv rfl rfl rfl (by simp [Value.oneCell']) hf rfl rfl hO fun w hO => ?_
 have hO := hO.nilRow 69 2
 refine S.op tb ?_ hf hO hm
 refine re_ rfl fun a w hf hO hm => ?_
 obtain rfl := Option.some.inj hm
 exact zg Tryz.results14 hf (.cell rfl (zd (n := 7) (vs := [int 0, str [], str [], int 0, str [], int 0, .slice none 0 0]) zae zv rfl ((hO.blkSees (i := 5) rfl).cells (o := 0) (n := 7) rfl)) (.tmp rfl .nil)) ⟨none, 0, rfl, (hO.sub (.cons_cons _ (.cons _ (.cons _ (.cons _ (.cons _ (.cons _ .slnil)))))))⟩
 refine cl c_31 rfl (fun r12 w hr12 hO => zgm x_a1 [13, 10, 13, 10] r12 _ (hG.own hF hO).1 hr12) fun r12 hr12 => ?_
 refine br rfl (fun hc15 => ?_) fun hc15 => ?_
 refine vl rfl rfl (fun a w hf hO => zj (vs := []) (v := .agg #[int 0, str [], str [], int 0, str [], int 0, .slice none 0 0]) hf rfl (by kernel_rfl)) ?_
 refine rw_ rfl fun a w hf hO hm => ?_
 refine ze (i := 4) (n := 7) zv rfl rfl rfl (by simp [Value.oneCell']) hf rfl rfl hO fun w hO => ?_
 have hO := hO.nilRow 69 2
 refine S.op tb ?_ hf hO hm
 refine re_ rfl fun a w hf hO hm => ?_
 obtain rfl := Option.some.inj hm
 exact zg Tryz.results14 hf (.cell rfl (zd (n := 7) (vs := [int 0, str [], str [], int 0, str [], int 0, .slice none 0 0]) zae zv rfl ((hO.blkSees (i := 5) rfl).cells (o := 0) (n := 7) rfl)) (.tmp rfl .nil)) ⟨none, 0, rfl, (hO.sub (.cons_cons _ (.cons _ (.cons _ (.cons _ (.cons _ (.cons _ .slnil)))))))⟩
 refine jn 2 (fun a w => ∃ (t19 : Bool), Fits 93 [(0, int x_a0), (1, str x_a1), (6, ptr b1 0), (10, int r12), (36, .bool t19)] a ∧ Dk.Own w0 [] w [.row (.slice none 0 0) 69 2 0 (cells za []), .blk b6 [int r3.1.Kind, str r3.1.Method, str r3.1.Target, int r3.1.Code, str r3.1.Reason, int r3.1.Minor, .slice p4 r3.1.Fields.length c5] 35, .row (.slice p4 r3.1.Fields.length c5) 69 2 r3.1.Fields.length (cells za r3.1.Fields), .row (.slice none 0 0) 69 2 0 (cells za []), .blk b1 [int 0, str [], str [], int 0, str [], int 0, .slice none 0 0] 35] ∧ zdg x_a0 x_a1 r12 t19 = some R) rfl ?_ ?_
 refine br rfl (fun hc17 => ?_) fun hc17 => ?_
 exact en rfl fun a w hf hO hm => ⟨true, hf.sel rfl, hO, hm⟩
 refine bi rfl fun i18 hi18 => ?_
 exact en rfl fun a w hf hO hm => ⟨!(i18 == (x_a1.length : Int)), hf.sel rfl, hO, hm⟩
 rintro a w ⟨t19, hf, hO, hm⟩
 rw [zdg] at hm
 refine S.co tb ?_ hf hO hm
 refine br rfl (fun hc20 => ?_) fun hc20 => ?_
 refine vl rfl rfl (fun a w hf hO => zj (vs := []) (v := .agg #[int 0, str [], str [], int 0, str [], int 0, .slice none 0 0]) hf rfl (by kernel_rfl)) ?_
 refine rw_ rfl fun a w hf hO hm => ?_
 refine ze (i := 4) (n := 7) zv rfl rfl rfl (by simp [Value.oneCell']) hf rfl rfl hO fun w hO => ?_
 have hO := hO.nilRow 69 2
 refine S.op tb ?_ hf hO hm
 refine re_ rfl fun a w hf hO hm => ?_
 obtain rfl := Option.some.inj hm
 exact zg Tryz.results14 hf (.cell rfl (zd (n := 7) (vs := [int 0, str [], str [], int 0, str [], int 0, .slice none 0 0]) zae zv rfl ((hO.blkSees (i := 5) rfl).cells (o := 0) (n := 7) rfl)) (.tmp rfl .nil)) ⟨none, 0, rfl, (hO.sub (.cons_cons _ (.cons _ (.cons _ (.cons _ (.cons _ (.cons _ .slnil)))))))⟩
 refine bi rfl fun s23 hs23 => ?_
 refine rw_ rfl fun a w hf hO hm => ?_
 obtain ⟨r24, hr24, hm⟩ := ob hm
 refine zr (zp c_32 hf (vs := [str s23, str [13, 10]]) rfl) rfl hf rfl rfl (zis s23 [13, 10] r24 _ (hG.own hF hO).1 hr24) ?_
 rintro e w' ⟨p25, c26, he, hO'⟩
 refine ⟨_, he, fun a hf => ?_⟩
 have hO := hO.call hO' (by simp [Res.shared])
 refine S.op tb ?_ hf hO hm
 refine rw_ rfl fun a w hf hO hm => ?_
 obtain ⟨x28, hx28, hm⟩ := ob hm
 obtain ⟨b29, o30, hix28, hSx28, hAx28⟩ := zah (enc := zh) (sz := 1) (xs := r24) 31 Tryz.underlying31 zd1 (by decide) (fun _ => rfl) hO (i := 0) rfl hx28
 refine za2 (zo hix28 hf rfl rfl) rfl hf rfl rfl fun a hf => ?_
 refine S.op tb ?_ hf hO hm
 refine vl rfl rfl (fun a w hf hO => zb (o := 0) zR (hSx28 _ (hO.rowSees (i := 0) rfl)) rfl hf rfl) ?_
 refine rw_ rfl fun a w hf hO hm => ?_
 obtain ⟨r31, hr31, hm⟩ := ob hm
 refine zr (zp c_30 hf (vs := [int x_a0, str x28]) rfl) rfl hf rfl rfl (ze7 x_a0 x28 r31 _ (hG.own hF hO) hr31) ?_
 rintro e w' ⟨p32, c33, he, hO'⟩
 refine ⟨_, he, fun a hf => ?_⟩
 have hO := hO.call hO' (by simp [Res.shared])
 refine S.op tb ?_ hf hO hm
 refine rw_ rfl fun a w hf hO hm => ?_
 refine zt zg5 hf rfl hO fun a b34 w hf hO => ?_
 have hO := hO.nilRow 69 2
 refine S.op tb ?_ hf hO hm
 refine rw_ rfl fun a w hf hO hm => ?_
 refine ze (i := 1) (n := 7) zv rfl rfl rfl (by simp [Value.oneCell']) hf rfl rfl hO fun w hO => ?_
 refine S.op tb ?_ hf hO hm
 refine br rfl (fun hc37 => ?_) fun hc37 => ?_
 refine vl rfl rfl (fun a w hf hO => zj (vs := []) (v := .agg #[int 0, str [], str [], int 0, str [], int 0, .slice none 0 0]) hf rfl (by kernel_rfl)) ?_
 refine rw_ rfl fun a w hf hO hm => ?_
 refine ze (i := 8) (n := 7) zv rfl rfl rfl (by simp [Value.oneCell']) hf rfl rfl hO fun w hO => ?_
 have hO := hO.nilRow 69 2
 refine S.op tb ?_ hf hO hm
 refine re_ rfl fun a w hf hO hm => ?_
 obtain rfl := Option.some.inj hm
 exact zg Tryz.results14 hf (.cell rfl (zd (n := 7) (vs := [int 0, str [], str [], int 0, str [], int 0, .slice none 0 0]) zae zv rfl ((hO.blkSees (i := 9) rfl).cells (o := 0) (n := 7) rfl)) (.tmp rfl .nil)) ⟨none, 0, rfl, (hO.sub (.cons_cons _ (.cons _ (.cons _ (.cons _ (.cons _ (.cons _ (.cons _ (.cons _ (.cons _ (.cons _ .slnil)))))))))))⟩
 refine jn 0 (fun a w => ∃ (i75 : Int) (s76 : Str) (s77 : Str) (i78 : Int) (s79 : Str) (i80 : Int) (p81 : Option Addr) (c82 : Nat) (l83 : List api_Field), Fits 93 [(6, ptr b1 0), (12, ptr b34 0)] a ∧ Dk.Own w0 [] w [.row (.slice none 0 0) 69 2 0 (cells za []), .blk b34 [int i75, str s76, str s77, int i78, str s79, int i80, .slice p81 l83.length c82] 35, .row (.slice p81 l83.length c82) 69 2 l83.length (cells za l83), .shr p25 (cells zh r24), .row (.slice none 0 0) 69 2 0 (cells za []), .blk b6 [int r3.1.Kind, str r3.1.Method, str r3.1.Target, int r3.1.Code, str r3.1.Reason, int r3.1.Minor, .slice p4 r3.1.Fields.length c5] 35, .row (.slice p4 r3.1.Fields.length c5) 69 2 r3.1.Fields.length (cells za r3.1.Fields), .row (.slice none 0 0) 69 2 0 (cells za []), .blk b1 [int 0, str [], str [], int 0, str [], int 0, .slice none 0 0] 35] ∧ zeu i75 s76 s77 i78 s79 i80 l83 = some R) rfl ?_ ?_
 refine rw_ rfl fun a w hf hO hm => ?_
 obtain ⟨l41, hl41, hm⟩ := ob hm
 have hcr40 := hO.rowCap (i := 3) rfl
 have hO := hO.giveRow (i := 3) rfl
 obtain ⟨p42, c43, hrl41, hVl41, hCl41, hPl41⟩ := zrk (enc := zh) (xs := r24) 31 Tryz.underlying31 zd1 (fun _ => rfl) (hO.sees (i := 3) rfl) hcr40 hl41
 have hO := hO.share (i := 3) rfl hPl41 (hVl41 _ (hO.sees (i := 3) rfl))
 refine za2 (zoO Tryz.underlying31 hrl41 hf rfl rfl) rfl hf rfl rfl fun a hf => ?_
 refine S.op tb ?_ hf hO hm
 refine lp (fun k a w => ∃ (i45 : Int) (s46 : Str) (s47 : Str) (i48 : Int) (s49 : Str) (i50 : Int) (p51 : Option Addr) (c52 : Nat) (l53 : List api_Field) (i54 : Int), Fits 93 [(6, ptr b1 0), (12, ptr b34 0), (64, .slice p42 l41.length c43), (65, int (l41.length : Int)), (66, int i54)] a ∧ Dk.Own w0 [] w [.shr p42 (cells zh l41), .row (.slice none 0 0) 69 2 0 (cells za []), .blk b34 [int i45, str s46, str s47, int i48, str s49, int i50, .slice p51 l53.length c52] 35, .row (.slice p51 l53.length c52) 69 2 l53.length (cells za l53), .shr p25 (cells zh r24), .row (.slice none 0 0) 69 2 0 (cells za []), .blk b6 [int r3.1.Kind, str r3.1.Method, str r3.1.Target, int r3.1.Code, str r3.1.Reason, int r3.1.Minor, .slice p4 r3.1.Fields.length c5] 35, .row (.slice p4 r3.1.Fields.length c5) 69 2 r3.1.Fields.length (cells za r3.1.Fields), .row (.slice none 0 0) 69 2 0 (cells za []), .blk b1 [int 0, str [], str [], int 0, str [], int 0, .slice none 0 0] 35] ∧ zcG l41 k i45 s46 s47 i48 s49 i50 l53 i54 = some R) rfl (fun a w hf hO hm => ⟨r31.1.Kind, r31.1.Method, r31.1.Target, r31.1.Code, r31.1.Reason, r31.1.Minor, p32, c33, r31.1.Fields, 0, hf.sel rfl, hO, hm⟩) ?_
 rintro n2 a w ⟨i45, s46, s47, i48, s49, i50, p51, c52, l53, i54, hf, hO, hm⟩
 obtain _ | n2 := n2
 rw [zcG] at hm
 cases hm
 rw [zcG] at hm
 refine S.co tb ?_ hf hO hm
 refine br rfl (fun hc56 => ?_) fun hc56 => ?_
 refine rw_ rfl fun a w hf hO hm => ?_
 obtain ⟨x58, hx58, hm⟩ := ob hm
 obtain ⟨b59, o60, hix58, hSx58⟩ := zfM (enc := zh) (sz := 1) (xs := l41) 31 Tryz.underlying31 zd1 (by decide) (fun _ => rfl) (hO.sees (i := 0) rfl) hx58
 refine za2 (zo hix58 hf rfl rfl) rfl hf rfl rfl fun a hf => ?_
 refine S.op tb ?_ hf hO hm
 refine vl rfl rfl (fun a w hf hO => zb (o := 0) zR (hSx58 _ (hO.sees (i := 0) rfl)) rfl hf rfl) ?_
 refine cl c_33 rfl (fun r62 w hr62 hO => zkr x58 r62 _ (hG.own hF hO).1 hr62) fun r62 hr62 => ?_
 refine rw_ rfl fun a w hf hO hm => ?_
 refine zt zmK hf rfl hO fun a b63 w hf hO => ?_
 refine S.op tb ?_ hf hO hm
 refine rw_ rfl fun a w hf hO hm => ?_
 refine ze (i := 0) (n := 2) zal rfl rfl rfl (by simp [Value.oneCell']) hf rfl rfl hO fun w hO => ?_
 refine S.op tb ?_ hf hO hm
 refine br rfl (fun hc66 => ?_) fun hc66 => ?_
 refine vl rfl rfl (fun a w hf hO => zj (vs := []) (v := .agg #[int 0, str [], str [], int 0, str [], int 0, .slice none 0 0]) hf rfl (by kernel_rfl)) ?_
 refine rw_ rfl fun a w hf hO hm => ?_
 refine ze (i := 10) (n := 7) zv rfl rfl rfl (by simp [Value.oneCell']) hf rfl rfl hO fun w hO => ?_
 have hO := hO.nilRow 69 2
 refine S.op tb ?_ hf hO hm
 refine re_ rfl fun a w hf hO hm => ?_
 obtain rfl := Option.some.inj hm
 exact zg Tryz.results14 hf (.cell rfl (zd (n := 7) (vs := [int 0, str [], str [], int 0, str [], int 0, .slice none 0 0]) zae zv rfl ((hO.blkSees (i := 11) rfl).cells (o := 0) (n := 7) rfl)) (.tmp rfl .nil)) ⟨none, 0, rfl, (hO.sub (.cons_cons _ (.cons _ (.cons _ (.cons _ (.cons _ (.cons _ (.cons _ (.cons _ (.cons _ (.cons _ (.cons _ (.cons _ .slnil)))))))))))))⟩
 refine vl rfl rfl (fun a w hf hO => zb (o := 6) zhT (hO.blkSees (i := 3) rfl) rfl hf rfl) ?_
 refine vl rfl rfl (fun a w hf hO => zn (o := 0) (vs := [str r62.1.Name, str r62.1.Value]) zdc zal (hO.blkSees (i := 0) rfl) rfl rfl hf rfl) ?_
 refine rw_ rfl fun a w hf hO hm => ?_
 refine zJ (vs := [(0, .agg #[str r62.1.Name, str r62.1.Value])]) (cs := [str r62.1.Name, str r62.1.Value]) (e := 69) (sz := 2) hf rfl rfl (fun w => by kernel_rfl) rfl rfl hO fun a b69 w hf hO => ?_
 refine S.op tb ?_ hf hO hm
 refine rw_ rfl fun a w hf hO hm => ?_
 obtain ⟨hg72, hm⟩ := og hm
 refine zeQ zse (enc := za) (xs := l53) (ys := [r62.1]) (i := 5) (fun _ => rfl) rfl (hO.rowSees (i := 0) rfl) (by simp [cells, za, Value.oneCell']) hg72 hf rfl rfl rfl hO fun a p70 c71 w hf hO => ?_
 refine S.op tb ?_ hf hO hm
 refine rw_ rfl fun a w hf hO hm => ?_
 refine z6 (i := 4) (o := 6) (v := .slice p70 ((l53 ++ [r62.1]).length) c71) sz_33 rfl rfl rfl rfl hf rfl rfl hO fun w hO => ?_
 refine S.op tb ?_ hf hO hm
 refine bi rfl fun i74 hi74 => ?_
 exact en rfl fun a w hf hO hm => ⟨_, Nat.lt_succ_self _, i45, s46, s47, i48, s49, i50, p70, c71, l53 ++ [r62.1], i74, hf.sel rfl, (hO.sub (.cons _ (.cons _ (.cons_cons _ (.cons_cons _ (.cons_cons _ (.cons_cons _ (.cons_cons _ (.cons_cons _ (.cons_cons _ (.cons_cons _ (.cons_cons _ (.cons_cons _ .slnil))))))))))))), hm⟩
 exact en rfl fun a w hf hO hm => ⟨i45, s46, s47, i48, s49, i50, p51, c52, l53, hf.sel rfl, (hO.sub (.cons _ (.cons_cons _ (.cons_cons _ (.cons_cons _ (.cons_cons _ (.cons_cons _ (.cons_cons _ (.cons_cons _ (.cons_cons _ (.cons_cons _ .slnil))))))))))), hm⟩
 rintro a w ⟨i75, s76, s77, i78, s79, i80, p81, c82, l83, hf, hO, hm⟩
 rw [zeu] at hm
 refine S.co tb ?_ hf hO hm
 refine vl rfl rfl (fun a w hf hO => zn (o := 0) (vs := [int i75, str s76, str s77, int i78, str s79, int i80, .slice p81 l83.length c82]) zae zv (hO.blkSees (i := 1) rfl) rfl rfl hf rfl) ?_
 refine cl c_34 rfl (fun r84 w hr84 hO => zks (⟨i75, s76, s77, i78, s79, i80, l83⟩ : api_Head) r84 _ (hG.own hF hO) (hO.rowSees (i := 2) rfl) (hO.rowCap (i := 2) rfl) hr84) fun r84 hr84 => ?_
 refine br rfl (fun hc87 => ?_) fun hc87 => ?_
 refine vl rfl rfl (fun a w hf hO => zj (vs := []) (v := .agg #[int 0, str [], str [], int 0, str [], int 0, .slice none 0 0]) hf rfl (by kernel_rfl)) ?_
 refine rw_ rfl fun a w hf hO hm => ?_
 refine ze (i := 8) (n := 7) zv rfl rfl rfl (by simp [Value.oneCell']) hf rfl rfl hO fun w hO => ?_
 have hO := hO.nilRow 69 2
 refine S.op tb ?_ hf hO hm
 refine re_ rfl fun a w hf hO hm => ?_
 obtain rfl := Option.some.inj hm
 exact zg Tryz.results14 hf (.cell rfl (zd (n := 7) (vs := [int 0, str [], str [], int 0, str [], int 0, .slice none 0 0]) zae zv rfl ((hO.blkSees (i := 9) rfl).cells (o := 0) (n := 7) rfl)) (.tmp rfl .nil)) ⟨none, 0, rfl, (hO.sub (.cons_cons _ (.cons _ (.cons _ (.cons _ (.cons _ (.cons _ (.cons _ (.cons _ (.cons _ (.cons _ .slnil)))))))))))⟩
 refine vl rfl rfl (fun a w hf hO => zn (o := 0) (vs := [int i75, str s76, str s77, int i78, str s79, int i80, .slice p81 l83.length c82]) zae zv (hO.blkSees (i := 1) rfl) rfl rfl hf rfl) ?_
 refine rw_ rfl fun a w hf hO hm => ?_
 refine ze (i := 8) (n := 7) zv rfl rfl rfl (by simp [Value.oneCell']) hf rfl rfl hO fun w hO => ?_
 refine S.op tb ?_ hf hO hm
 refine re_ rfl fun a w hf hO hm => ?_
 obtain rfl := Option.some.inj hm
 exact zg Tryz.results14 hf (.cell rfl (zd (n := 7) (vs := [int i75, str s76, str s77, int i78, str s79, int i80, .slice p81 l83.length c82]) zae zv rfl ((hO.blkSees (i := 8) rfl).cells (o := 0) (n := 7) rfl)) (.tmp rfl .nil)) ⟨p81, c82, rfl, (hO.sub (.cons _ (.cons _ (.cons_cons _ (.cons _ (.cons _ (.cons _ (.cons _ (.cons _ (.cons _ .slnil))))))))))⟩

end Go.Proofs
end
section
set_option linter.unusedVariables false
set_option maxHeartbeats 1000000
set_option linter.unusedSimpArgs false
set_option maxRecDepth 100000
namespace Go.Proofs
open Go.Dk Go.Dm Go.RowKit

theorem zoe (x_a : api_Head) (x_b : api_Head) (R : Bool) (w0 : World) (hG : zx w0) {x_a_p0 : Option Addr} {x_a_c0 : Nat} (hs0 : zas w0 x_a_p0 (cells za x_a.Fields)) (hc0 : x_a.Fields.length ≤ x_a_c0) {x_b_p1 : Option Addr} {x_b_c1 : Nat} (hs1 : zas w0 x_b_p1 (cells za x_b.Fields)) (hc1 : x_b.Fields.length ≤ x_b_c1) (hm : zid x_a x_b = some R) :
    Calls Tryz.prog 28 #[.agg #[int x_a.Kind, str x_a.Method, str x_a.Target, int x_a.Code, str x_a.Reason, int x_a.Minor, .slice x_a_p0 x_a.Fields.length x_a_c0], .agg #[int x_b.Kind, str x_b.Method, str x_b.Target, int x_b.Code, str x_b.Reason, int x_b.Minor, .slice x_b_p1 x_b.Fields.length x_b_c1]] w0 (Ret w0 (fun R => .bool R) R) := by
 rw [zid] at hm
 have hF : zz [] := zf
 have hO : Dk.Own w0 [] w0 [] := Dk.Own.refl w0
 have hO := hO.addShr hs0 (by simp [Res.shared])
 have hO := hO.addShr hs1 (by simp [Res.shared])
 refine S.enter tb Tryz.func28 rfl Tryz.ntmps28 rfl ?_ hO hm
 refine rw_ rfl fun a w hf hO hm => ?_
 refine zbU (v := .agg #[int x_a.Kind, str x_a.Method, str x_a.Target, int x_a.Code, str x_a.Reason, int x_a.Minor, .slice x_a_p0 x_a.Fields.length x_a_c0]) (cs := [int x_a.Kind, str x_a.Method, str x_a.Target, int x_a.Code, str x_a.Reason, int x_a.Minor, .slice x_a_p0 x_a.Fields.length x_a_c0]) rfl hf rfl rfl hO fun a b1 w hf hO => ?_
 refine S.op tb ?_ hf hO hm
 refine rw_ rfl fun a w hf hO hm => ?_
 refine zbU (v := .agg #[int x_b.Kind, str x_b.Method, str x_b.Target, int x_b.Code, str x_b.Reason, int x_b.Minor, .slice x_b_p1 x_b.Fields.length x_b_c1]) (cs := [int x_b.Kind, str x_b.Method, str x_b.Target, int x_b.Code, str x_b.Reason, int x_b.Minor, .slice x_b_p1 x_b.Fields.length x_b_c1]) rfl hf rfl rfl hO fun a b2 w hf hO => ?_
 refine S.op tb ?_ hf hO hm
 refine jn 0 (fun a w => ∃ (t9 : Bool), Fits 45 [(4, .bool t9)] a ∧ Dk.Own w0 [] w [.blk b2 [int x_b.Kind, str x_b.Method, str x_b.Target, int x_b.Code, str x_b.Reason, int x_b.Minor, .slice x_b_p1 x_b.Fields.length x_b_c1] 35, .blk b1 [int x_a.Kind, str x_a.Method, str x_a.Target, int x_a.Code, str x_a.Reason, int x_a.Minor, .slice x_a_p0 x_a.Fields.length x_a_c0] 35, .shr x_b_p1 (cells za x_b.Fields), .shr x_a_p0 (cells za x_a.Fields)] ∧ zbt t9 = some R) rfl ?_ ?_
 refine vl rfl rfl (fun a w hf hO => zb (o := 0) zlv (hO.blkSees (i := 1) rfl) rfl hf rfl) ?_
 refine vl rfl rfl (fun a w hf hO => zb (o := 0) zlv (hO.blkSees (i := 0) rfl) rfl hf rfl) ?_
 refine br rfl (fun hc4 => ?_) fun hc4 => ?_
 refine vl rfl rfl (fun a w hf hO => zb (o := 1) zR (hO.blkSees (i := 1) rfl) rfl hf rfl) ?_
 refine vl rfl rfl (fun a w hf hO => zb (o := 1) zR (hO.blkSees (i := 0) rfl) rfl hf rfl) ?_
 refine br rfl (fun hc5 => ?_) fun hc5 => ?_
 refine vl rfl rfl (fun a w hf hO => zb (o := 2) zR (hO.blkSees (i := 1) rfl) rfl hf rfl) ?_
 refine vl rfl rfl (fun a w hf hO => zb (o := 2) zR (hO.blkSees (i := 0) rfl) rfl hf rfl) ?_
 refine br rfl (fun hc6 => ?_) fun hc6 => ?_
 refine vl rfl rfl (fun a w hf hO => zb (o := 5) zfl (hO.blkSees (i := 1) rfl) rfl hf rfl) ?_
 refine vl rfl rfl (fun a w hf hO => zb (o := 5) zfl (hO.blkSees (i := 0) rfl) rfl hf rfl) ?_
 refine br rfl (fun hc7 => ?_) fun hc7 => ?_
 refine vl rfl rfl (fun a w hf hO => zb (o := 3) zfl (hO.blkSees (i := 1) rfl) rfl hf rfl) ?_
 refine vl rfl rfl (fun a w hf hO => zb (o := 3) zfl (hO.blkSees (i := 0) rfl) rfl hf rfl) ?_
 refine br rfl (fun hc8 => ?_) fun hc8 => ?_
 refine vl rfl rfl (fun a w hf hO => zb (o := 4) zR (hO.blkSees (i := 1) rfl) rfl hf rfl) ?_
 refine vl rfl rfl (fun a w hf hO => zb (o := 4) zR (hO.blkSees (i := 0) rfl) rfl hf rfl) ?_
 exact en rfl fun a w hf hO hm => ⟨x_a.Reason == x_b.Reason, hf.sel rfl, hO, hm⟩
 exact en rfl fun a w hf hO hm => ⟨false, hf.sel rfl, hO, hm⟩
 exact en rfl fun a w hf hO hm => ⟨false, hf.sel rfl, hO, hm⟩
 exact en rfl fun a w hf hO hm => ⟨false, hf.sel rfl, hO, hm⟩
 exact en rfl fun a w hf hO hm => ⟨false, hf.sel rfl, hO, hm⟩
 exact en rfl fun a w hf hO hm => ⟨false, hf.sel rfl, hO, hm⟩
 rintro a w ⟨t9, hf, hO, hm⟩
 rw [zbt] at hm
 refine S.co tb ?_ hf hO hm
 exact rt Tryz.results28 rfl

theorem zof (x_a : List api_Field) (x_b : List api_Field) (R : Bool) (w0 : World) (hG : zx w0) {x_a_p0 : Option Addr} {x_a_c0 : Nat} (hs0 : zas w0 x_a_p0 (cells za x_a)) (hc0 : x_a.length ≤ x_a_c0) {x_b_p1 : Option Addr} {x_b_c1 : Nat} (hs1 : zas w0 x_b_p1 (cells za x_b)) (hc1 : x_b.length ≤ x_b_c1) (hm : zgT x_a x_b = some R) :
    Calls Tryz.prog 29 #[.slice x_a_p0 x_a.length x_a_c0, .slice x_b_p1 x_b.length x_b_c1] w0 (Ret w0 (fun R => .bool R) R) := by
 rw [zgT] at hm
 have hF : zz [] := zf
 have hO : Dk.Own w0 [] w0 [] := Dk.Own.refl w0
 have hO := hO.addShr hs0 (by simp [Res.shared])
 have hO := hO.addShr hs1 (by simp [Res.shared])
 refine S.enter tb Tryz.func29 rfl Tryz.ntmps29 rfl ?_ hO hm
 refine br rfl (fun hc3 => ?_) fun hc3 => ?_
 exact rt Tryz.results29 rfl
 refine lp (fun k a w => ∃ (i7 : Int), Fits 26 [(0, .slice x_a_p0 x_a.length x_a_c0), (1, .slice x_b_p1 x_b.length x_b_c1), (5, int i7)] a ∧ Dk.Own w0 [] w [.shr x_b_p1 (cells za x_b), .shr x_a_p0 (cells za x_a)] ∧ zbX x_a x_b k i7 = some R) rfl (fun a w hf hO hm => ⟨0, hf.sel rfl, hO, hm⟩) ?_
 rintro n1 a w ⟨i7, hf, hO, hm⟩
 obtain _ | n1 := n1
 rw [zbX] at hm
 cases hm
 rw [zbX] at hm
 refine S.co tb ?_ hf hO hm
 refine br rfl (fun hc9 => ?_) fun hc9 => ?_
 refine rc_ rfl fun a w hf hO hm => ?_
 refine zgi (by kernel_rfl) (by kernel_rfl) hO ?_
 refine zA (fun w hO => zB hf rfl) rfl hf rfl rfl fun a hf => ?_
 refine zA (fun w hO => zB hf rfl) rfl hf rfl rfl fun a hf => ?_
 obtain ⟨x11, hx11, hm⟩ := ob hm
 obtain ⟨b12, o13, hix11, hSx11⟩ := zfM (enc := za) (sz := 2) (xs := x_a) 33 Tryz.underlying33 zal (by decide) (fun _ => rfl) (hO.sees (i := 1) rfl) hx11
 refine zA (fun w hO => zo hix11 hf rfl rfl) rfl hf rfl rfl fun a hf => ?_
 refine zA (fun w hO => zn (o := 0) (vs := [str x11.Name, str x11.Value]) zdc zal (hSx11 _ (hO.sees (i := 1) rfl)) rfl rfl hf rfl) rfl hf rfl rfl fun a hf => ?_
 refine zA (fun w hO => zB hf rfl) rfl hf rfl rfl fun a hf => ?_
 refine zA (fun w hO => zB hf rfl) rfl hf rfl rfl fun a hf => ?_
 obtain ⟨x14, hx14, hm⟩ := ob hm
 obtain ⟨b15, o16, hix14, hSx14⟩ := zfM (enc := za) (sz := 2) (xs := x_b) 33 Tryz.underlying33 zal (by decide) (fun _ => rfl) (hO.sees (i := 0) rfl) hx14
 refine zA (fun w hO => zo hix14 hf rfl rfl) rfl hf rfl rfl fun a hf => ?_
 refine zA (fun w hO => zn (o := 0) (vs := [str x14.Name, str x14.Value]) zdc zal (hSx14 _ (hO.sees (i := 0) rfl)) rfl rfl hf rfl) rfl hf rfl rfl fun a hf => ?_
 refine zA (fun w hO => zp2 (by kernel_rfl) (eq_69 x11 x14) hf rfl rfl) rfl hf rfl rfl fun a hf => ?_
 refine wpQuiet_nil ?_
 intro w hO
 refine S.no tb ?_ hf hO hm
 refine br rfl (fun hc18 => ?_) fun hc18 => ?_
 exact rt Tryz.results29 rfl
 refine bi rfl fun i21 hi21 => ?_
 exact en rfl fun a w hf hO hm => ⟨_, Nat.lt_succ_self _, i21, hf.sel rfl, hO, hm⟩
 exact rt Tryz.results29 rfl

theorem zog (x_a : api_Head) (x_b : api_Head) (R : Bool) (w0 : World) (hG : zx w0) {x_a_p0 : Option Addr} {x_a_c0 : Nat} (hs0 : zas w0 x_a_p0 (cells za x_a.Fields)) (hc0 : x_a.Fields.length ≤ x_a_c0) {x_b_p1 : Option Addr} {x_b_c1 : Nat} (hs1 : zas w0 x_b_p1 (cells za x_b.Fields)) (hc1 : x_b.Fields.length ≤ x_b_c1) (hm : zgU x_a x_b = some R) :
    Calls Tryz.prog 13 #[.agg #[int x_a.Kind, str x_a.Method, str x_a.Target, int x_a.Code, str x_a.Reason, int x_a.Minor, .slice x_a_p0 x_a.Fields.length x_a_c0], .agg #[int x_b.Kind, str x_b.Method, str x_b.Target, int x_b.Code, str x_b.Reason, int x_b.Minor, .slice x_b_p1 x_b.Fields.length x_b_c1]] w0 (Ret w0 (fun R => .bool R) R) := by
 rw [zgU] at hm
 have hF : zz [] := zf
 have hO : Dk.Own w0 [] w0 [] := Dk.Own.refl w0
 have hO := hO.addShr hs0 (by simp [Res.shared])
 have hO := hO.addShr hs1 (by simp [Res.shared])
 refine S.enter tb Tryz.func13 rfl Tryz.ntmps13 rfl ?_ hO hm
 refine rw_ rfl fun a w hf hO hm => ?_
 refine zbU (v := .agg #[int x_a.Kind, str x_a.Method, str x_a.Target, int x_a.Code, str x_a.Reason, int x_a.Minor, .slice x_a_p0 x_a.Fields.length x_a_c0]) (cs := [int x_a.Kind, str x_a.Method, str x_a.Target, int x_a.Code, str x_a.Reason, int x_a.Minor, .slice x_a_p0 x_a.Fields.length x_a_c0]) rfl hf rfl rfl hO fun a b1 w hf hO => ?_
 refine S.op tb ?_ hf hO hm
 refine rw_ rfl fun a w hf hO hm => ?_
 refine zbU (v := .agg #[int x_b.Kind, str x_b.Method, str x_b.Target, int x_b.Code, str x_b.Reason, int x_b.Minor, .slice x_b_p1 x_b.Fields.length x_b_c1]) (cs := [int x_b.Kind, str x_b.Method, str x_b.Target, int x_b.Code, str x_b.Reason, int x_b.Minor, .slice x_b_p1 x_b.Fields.length x_b_c1]) rfl hf rfl rfl hO fun a b2 w hf hO => ?_
 refine S.op tb ?_ hf hO hm
 refine jn 0 (fun a w => ∃ (t7 : Bool), Fits 15 [(4, .bool t7)] a ∧ Dk.Own w0 [] w [.blk b2 [int x_b.Kind, str x_b.Method, str x_b.Target, int x_b.Code, str x_b.Reason, int x_b.Minor, .slice x_b_p1 x_b.Fields.length x_b_c1] 35, .blk b1 [int x_a.Kind, str x_a.Method, str x_a.Target, int x_a.Code, str x_a.Reason, int x_a.Minor, .slice x_a_p0 x_a.Fields.length x_a_c0] 35, .shr x_b_p1 (cells za x_b.Fields), .shr x_a_p0 (cells za x_a.Fields)] ∧ zev t7 = some R) rfl ?_ ?_
 refine vl rfl rfl (fun a w hf hO => zn (o := 0) (vs := [int x_a.Kind, str x_a.Method, str x_a.Target, int x_a.Code, str x_a.Reason, int x_a.Minor, .slice x_a_p0 x_a.Fields.length x_a_c0]) zae zv (hO.blkSees (i := 1) rfl) rfl rfl hf rfl) ?_
 refine vl rfl rfl (fun a w hf hO => zn (o := 0) (vs := [int x_b.Kind, str x_b.Method, str x_b.Target, int x_b.Code, str x_b.Reason, int x_b.Minor, .slice x_b_p1 x_b.Fields.length x_b_c1]) zae zv (hO.blkSees (i := 0) rfl) rfl rfl hf rfl) ?_
 refine cl c_28 rfl (fun r4 w hr4 hO => zoe x_a x_b r4 _ (hG.own hF hO) (hO.sees (i := 3) rfl) hc0 (hO.sees (i := 2) rfl) hc1 hr4) fun r4 hr4 => ?_
 refine br rfl (fun hc5 => ?_) fun hc5 => ?_
 refine vl rfl rfl (fun a w hf hO => zb (o := 6) zhT (hO.blkSees (i := 1) rfl) rfl hf rfl) ?_
 refine vl rfl rfl (fun a w hf hO => zb (o := 6) zhT (hO.blkSees (i := 0) rfl) rfl hf rfl) ?_
 refine cl c_29 rfl (fun r6 w hr6 hO => zof x_a.Fields x_b.Fields r6 _ (hG.own hF hO) (hO.sees (i := 3) rfl) hc0 (hO.sees (i := 2) rfl) hc1 hr6) fun r6 hr6 => ?_
 exact en rfl fun a w hf hO hm => ⟨r6, hf.sel rfl, hO, hm⟩
 exact en rfl fun a w hf hO hm => ⟨false, hf.sel rfl, hO, hm⟩
 rintro a w ⟨t7, hf, hO, hm⟩
 rw [zev] at hm
 refine S.co tb ?_ hf hO hm
 exact rt Tryz.results13 rfl

theorem zhr (x_s : Str) (x_c : UInt8) (R : List Str) (w0 : World) (hG : zx w0) (hm : zdG x_s x_c = some R) :
    Calls Tryz.prog 66 #[str x_s, z7 x_c] w0 fun e w' => ∃ (p0 : Option Addr) (c0 : Nat), e = .returned (.slice p0 R.length c0) ∧ Dk.Own w0 [] w' [.row (.slice p0 R.length c0) 9 1 R.length (cells zh R)] := by
 rw [zdG] at hm
 have hF : zz [] := zf
 have hO : Dk.Own w0 [] w0 [] := Dk.Own.refl w0
 refine S.enter tb Tryz.func66 rfl Tryz.ntmps66 rfl ?_ hO hm
 refine nl 9 1 ?_
 refine nl 9 1 ?_
 refine lp (fun k a w => ∃ (p5 : Option Addr) (c6 : Nat) (l7 : List Str) (i8 : Int) (i9 : Int), Fits 34 [(0, str x_s), (1, z7 x_c), (5, .slice p5 l7.length c6), (6, int i8), (7, int i9)] a ∧ Dk.Own w0 [] w [.row (.slice p5 l7.length c6) 9 1 l7.length (cells zh l7), .row (.slice none 0 0) 9 1 0 (cells zh [])] ∧ za9 x_s x_c k l7 i8 i9 = some R) rfl (fun a w hf hO hm => ⟨none, 0, [], 0, 0, hf.sel rfl, hO, hm⟩) ?_
 rintro n1 a w ⟨p5, c6, l7, i8, i9, hf, hO, hm⟩
 obtain _ | n1 := n1
 rw [za9] at hm
 cases hm
 rw [za9] at hm
 refine S.co tb ?_ hf hO hm
 refine br rfl (fun hc11 => ?_) fun hc11 => ?_
 refine jn 3 (fun a w => ∃ (p23 : Option Addr) (c24 : Nat) (l25 : List Str) (i26 : Int), Fits 34 [(0, str x_s), (1, z7 x_c), (5, .slice p23 l25.length c24), (6, int i26), (7, int i9)] a ∧ Dk.Own w0 [] w [.row (.slice p23 l25.length c24) 9 1 l25.length (cells zh l25), .row (.slice none 0 0) 9 1 0 (cells zh [])] ∧ zdF (za9 x_s x_c n1) i9 l25 i26 = some R) rfl ?_ ?_
 refine bi rfl fun b13 hb13 => ?_
 refine vl rfl rfl (fun a w hf hO => zW (b := b13) (c := x_c) hf rfl rfl) ?_
 refine br rfl (fun hc15 => ?_) fun hc15 => ?_
 refine bi rfl fun s16 hs16 => ?_
 refine rw_ rfl fun a w hf hO hm => ?_
 refine zJ (vs := [(0, str s16)]) (cs := [str s16]) (e := 9) (sz := 1) hf rfl rfl (fun w => by kernel_rfl) rfl rfl hO fun a b17 w hf hO => ?_
 refine S.op tb ?_ hf hO hm
 refine rw_ rfl fun a w hf hO hm => ?_
 obtain ⟨hg20, hm⟩ := og hm
 refine zeQ znX (enc := zh) (xs := l7) (ys := ([s16] : List Str)) (i := 1) (fun _ => rfl) rfl (hO.rowSees (i := 0) rfl) (by simp [cells, zh, Value.oneCell']) hg20 hf rfl rfl rfl hO fun a p18 c19 w hf hO => ?_
 refine S.op tb ?_ hf hO hm
 refine bi rfl fun i22 hi22 => ?_
 exact en rfl fun a w hf hO hm => ⟨p18, c19, l7 ++ ([s16] : List Str), i22, hf.sel rfl, (hO.sub (.cons _ (.cons_cons _ (.cons_cons _ .slnil)))), hm⟩
 exact en rfl fun a w hf hO hm => ⟨p5, c6, l7, i8, hf.sel rfl, hO, hm⟩
 rintro a w ⟨p23, c24, l25, i26, hf, hO, hm⟩
 rw [zdF] at hm
 refine S.co tb ?_ hf hO hm
 refine bi rfl fun i27 hi27 => ?_
 exact en rfl fun a w hf hO hm => ⟨_, Nat.lt_succ_self _, p23, c24, l25, i26, i27, hf.sel rfl, hO, hm⟩
 refine bi rfl fun s29 hs29 => ?_
 refine rw_ rfl fun a w hf hO hm => ?_
 refine zJ (vs := [(0, str s29)]) (cs := [str s29]) (e := 9) (sz := 1) hf rfl rfl (fun w => by kernel_rfl) rfl rfl hO fun a b30 w hf hO => ?_
 refine S.op tb ?_ hf hO hm
 refine rw_ rfl fun a w hf hO hm => ?_
 obtain ⟨hg33, hm⟩ := og hm
 refine zeQ znX (enc := zh) (xs := l7) (ys := ([s29] : List Str)) (i := 1) (fun _ => rfl) rfl (hO.rowSees (i := 0) rfl) (by simp [cells, zh, Value.oneCell']) hg33 hf rfl rfl rfl hO fun a p31 c32 w hf hO => ?_
 refine S.op tb ?_ hf hO hm
 refine re_ rfl fun a w hf hO hm => ?_
 obtain rfl := Option.some.inj hm
 exact zg Tryz.results66 hf (.tmp rfl .nil) ⟨p31, c32, rfl, (hO.sub (.cons _ (.cons_cons _ (.cons _ .slnil))))⟩

theorem zfz (x_b : UInt8) (x_l : Str) (R : Bool) (w0 : World) (hG : zx w0) (hm : zew x_b x_l = some R) :
    Calls Tryz.prog 151 #[z7 x_b, str x_l] w0 (Ret w0 (fun R => .bool R) R) := by
 rw [zew] at hm
 have hF : zz [] := zf
 have hO : Dk.Own w0 [] w0 [] := Dk.Own.refl w0
 refine S.enter tb Tryz.func151 rfl Tryz.ntmps151 rfl ?_ hO hm
 refine lp (fun k a w => ∃ (i3 : Int), Fits 17 [(0, z7 x_b), (1, str x_l), (5, int i3)] a ∧ Dk.Own w0 [] w [] ∧ zcT x_b x_l k i3 = some R) rfl (fun a w hf hO hm => ⟨0, hf.sel rfl, hO, hm⟩) ?_
 rintro n1 a w ⟨i3, hf, hO, hm⟩
 obtain _ | n1 := n1
 rw [zcT] at hm
 cases hm
 rw [zcT] at hm
 refine S.co tb ?_ hf hO hm
 refine br rfl (fun hc5 => ?_) fun hc5 => ?_
 refine bi rfl fun b7 hb7 => ?_
 refine vl rfl rfl (fun a w hf hO => zW (b := b7) (c := x_b) hf rfl rfl) ?_
 refine br rfl (fun hc9 => ?_) fun hc9 => ?_
 exact rt Tryz.results151 rfl
 refine bi rfl fun i12 hi12 => ?_
 exact en rfl fun a w hf hO hm => ⟨_, Nat.lt_succ_self _, i12, hf.sel rfl, hO, hm⟩
 exact rt Tryz.results151 rfl

end Go.Proofs
end
section
set_option linter.unusedVariables false
set_option maxHeartbeats 1000000
set_option linter.unusedSimpArgs false
set_option maxRecDepth 100000
namespace Go.Proofs
open Go.Dk Go.Dm Go.RowKit

theorem zjI (x_b : UInt8) (R : Bool) (w0 : World) (hG : zx w0) (hm : zcU x_b = some R) :
    Calls Tryz.prog 113 #[z7 x_b] w0 (Ret w0 (fun R => .bool R) R) := by
 rw [zcU] at hm
 have hF : zz [] := zf
 have hO : Dk.Own w0 [] w0 [] := Dk.Own.refl w0
 refine S.enter tb Tryz.func113 rfl Tryz.ntmps113 rfl ?_ hO hm
 refine cl znY rfl (fun r2 w hr2 hO => zfz x_b [48, 49, 50, 51, 52, 53, 54, 55, 56, 57] r2 _ (hG.own hF hO) hr2) fun r2 hr2 => ?_
 exact rt Tryz.results113 rfl

theorem ziA (x_s : Str) (R : Int) (w0 : World) (hG : zx w0) (hm : zbY x_s = some R) :
    Calls Tryz.prog 67 #[str x_s] w0 (Ret w0 (fun R => int R) R) := by
 rw [zbY] at hm
 have hF : zz [] := zf
 have hO : Dk.Own w0 [] w0 [] := Dk.Own.refl w0
 refine S.enter tb Tryz.func67 rfl Tryz.ntmps67 rfl ?_ hO hm
 refine jn 1 (fun a w => ∃ (t12 : Bool), Fits 34 [(0, str x_s), (27, .bool t12)] a ∧ Dk.Own w0 [] w [] ∧ za0 x_s t12 = some R) rfl ?_ ?_
 refine br rfl (fun hc2 => ?_) fun hc2 => ?_
 exact en rfl fun a w hf hO hm => ⟨true, hf.sel rfl, hO, hm⟩
 refine bi rfl fun s3 hs3 => ?_
 refine br rfl (fun hc4 => ?_) fun hc4 => ?_
 exact en rfl fun a w hf hO hm => ⟨true, hf.sel rfl, hO, hm⟩
 refine bi rfl fun b5 hb5 => ?_
 refine cl c_113 rfl (fun r6 w hr6 hO => zjI b5 r6 _ (hG.own hF hO) hr6) fun r6 hr6 => ?_
 refine br rfl (fun hc7 => ?_) fun hc7 => ?_
 exact en rfl fun a w hf hO hm => ⟨true, hf.sel rfl, hO, hm⟩
 refine bi rfl fun b8 hb8 => ?_
 refine vl rfl rfl (fun a w hf hO => zd2 (b := b8) (c := 46) hf rfl rfl) ?_
 refine br rfl (fun hc9 => ?_) fun hc9 => ?_
 exact en rfl fun a w hf hO hm => ⟨true, hf.sel rfl, hO, hm⟩
 refine bi rfl fun b10 hb10 => ?_
 refine cl c_113 rfl (fun r11 w hr11 hO => zjI b10 r11 _ (hG.own hF hO) hr11) fun r11 hr11 => ?_
 exact en rfl fun a w hf hO hm => ⟨!r11, hf.sel rfl, hO, hm⟩
 rintro a w ⟨t12, hf, hO, hm⟩
 rw [za0] at hm
 refine S.co tb ?_ hf hO hm
 refine br rfl (fun hc13 => ?_) fun hc13 => ?_
 exact rt Tryz.results67 rfl
 refine bi rfl fun s16 hs16 => ?_
 refine br rfl (fun hc18 => ?_) fun hc18 => ?_
 exact rt Tryz.results67 rfl
 refine bi rfl fun s21 hs21 => ?_
 refine br rfl (fun hc23 => ?_) fun hc23 => ?_
 exact rt Tryz.results67 rfl
 exact rt Tryz.results67 rfl

theorem zpS (x_b : UInt8) (R : Bool) (w0 : World) (hG : zx w0) (hm : zhK x_b = some R) :
    Calls Tryz.prog 114 #[z7 x_b] w0 (Ret w0 (fun R => .bool R) R) := by
 rw [zhK] at hm
 have hF : zz [] := zf
 have hO : Dk.Own w0 [] w0 [] := Dk.Own.refl w0
 refine S.enter tb Tryz.func114 rfl Tryz.ntmps114 rfl ?_ hO hm
 refine cl znY rfl (fun r2 w hr2 hO => zfz x_b [97, 98, 99, 100, 101, 102, 103, 104, 105, 106, 107, 108, 109, 110, 111, 112, 113, 114, 115, 116, 117, 118, 119, 120, 121, 122, 65, 66, 67, 68, 69, 70, 71, 72, 73, 74, 75, 76, 77, 78, 79, 80, 81, 82, 83, 84, 85, 86, 87, 88, 89, 90, 48, 49, 50, 51, 52, 53, 54, 55, 56, 57, 33, 35, 36, 37, 38, 39, 42, 43, 45, 46, 94, 95, 96, 124, 126] r2 _ (hG.own hF hO) hr2) fun r2 hr2 => ?_
 exact rt Tryz.results114 rfl

theorem zjJ (x_s : Str) (R : Bool) (w0 : World) (hG : zx w0) (hm : zdH x_s = some R) :
    Calls Tryz.prog 68 #[str x_s] w0 (Ret w0 (fun R => .bool R) R) := by
 rw [zdH] at hm
 have hF : zz [] := zf
 have hO : Dk.Own w0 [] w0 [] := Dk.Own.refl w0
 refine S.enter tb Tryz.func68 rfl Tryz.ntmps68 rfl ?_ hO hm
 refine lp (fun k a w => ∃ (i3 : Int), Fits 18 [(0, str x_s), (3, int i3)] a ∧ Dk.Own w0 [] w [] ∧ zbz x_s k i3 = some R) rfl (fun a w hf hO hm => ⟨0, hf.sel rfl, hO, hm⟩) ?_
 rintro n1 a w ⟨i3, hf, hO, hm⟩
 obtain _ | n1 := n1
 rw [zbz] at hm
 cases hm
 rw [zbz] at hm
 refine S.co tb ?_ hf hO hm
 refine br rfl (fun hc5 => ?_) fun hc5 => ?_
 refine bi rfl fun b7 hb7 => ?_
 refine cl c_114 rfl (fun r8 w hr8 hO => zpS b7 r8 _ (hG.own hF hO) hr8) fun r8 hr8 => ?_
 refine br rfl (fun hc10 => ?_) fun hc10 => ?_
 exact rt Tryz.results68 rfl
 refine bi rfl fun i13 hi13 => ?_
 exact en rfl fun a w hf hO hm => ⟨_, Nat.lt_succ_self _, i13, hf.sel rfl, hO, hm⟩
 exact rt Tryz.results68 rfl

theorem zjK (x_b : UInt8) (x_base : Int) (R : Int) (w0 : World) (hG : zx w0) (hm : zcx x_b x_base = some R) :
    Calls Tryz.prog 121 #[z7 x_b, int x_base] w0 (Ret w0 (fun R => int R) R) := by
 rw [zcx] at hm
 have hF : zz [] := zf
 have hO : Dk.Own w0 [] w0 [] := Dk.Own.refl w0
 refine S.enter tb Tryz.func121 rfl Tryz.ntmps121 rfl ?_ hO hm
 refine lp (fun k a w => ∃ (i5 : Int), Fits 26 [(0, z7 x_b), (1, int x_base), (5, str [48, 49, 50, 51, 52, 53, 54, 55, 56, 57, 97, 98, 99, 100, 101, 102]), (6, str [48, 49, 50, 51, 52, 53, 54, 55, 56, 57, 65, 66, 67, 68, 69, 70]), (7, int i5)] a ∧ Dk.Own w0 [] w [] ∧ zF x_b x_base k i5 = some R) rfl (fun a w hf hO hm => ⟨0, hf.sel rfl, hO, hm⟩) ?_
 rintro n1 a w ⟨i5, hf, hO, hm⟩
 obtain _ | n1 := n1
 rw [zF] at hm
 cases hm
 rw [zF] at hm
 refine S.co tb ?_ hf hO hm
 refine br rfl (fun hc7 => ?_) fun hc7 => ?_
 refine jn 5 (fun a w => ∃ (t12 : Bool), Fits 26 [(0, z7 x_b), (1, int x_base), (5, str [48, 49, 50, 51, 52, 53, 54, 55, 56, 57, 97, 98, 99, 100, 101, 102]), (6, str [48, 49, 50, 51, 52, 53, 54, 55, 56, 57, 65, 66, 67, 68, 69, 70]), (7, int i5), (24, .bool t12)] a ∧ Dk.Own w0 [] w [] ∧ zdI (zF x_b x_base n1) i5 t12 = some R) rfl ?_ ?_
 refine bi rfl fun b9 hb9 => ?_
 refine vl rfl rfl (fun a w hf hO => zW (b := b9) (c := x_b) hf rfl rfl) ?_
 refine br rfl (fun hc10 => ?_) fun hc10 => ?_
 exact en rfl fun a w hf hO hm => ⟨true, hf.sel rfl, hO, hm⟩
 refine bi rfl fun b11 hb11 => ?_
 refine vl rfl rfl (fun a w hf hO => zW (b := b11) (c := x_b) hf rfl rfl) ?_
 exact en rfl fun a w hf hO hm => ⟨b11 == x_b, hf.sel rfl, hO, hm⟩
 rintro a w ⟨t12, hf, hO, hm⟩
 rw [zdI] at hm
 refine S.co tb ?_ hf hO hm
 refine br rfl (fun hc13 => ?_) fun hc13 => ?_
 exact rt Tryz.results121 rfl
 refine bi rfl fun i16 hi16 => ?_
 exact en rfl fun a w hf hO hm => ⟨_, Nat.lt_succ_self _, i16, hf.sel rfl, hO, hm⟩
 exact rt Tryz.results121 rfl

theorem zk5 (n0 : Nat) : ∀ (x_n : Int) (x_base : Int) (R : Str) (w0 : World) (hG : zx w0) (hm : zbA n0 x_n x_base = some R),
    Calls Tryz.prog 120 #[int x_n, int x_base] w0 (Ret w0 (fun R => str R) R) := by
  induction n0 with
  | zero => intro x_n x_base R w0 hG  hm; rw [zbA] at hm; cases hm
  | succ n0 ih =>
    intro x_n x_base R w0 hG  hm
    rw [zbA] at hm
    have hF : zz [] := zf
    have hO : Dk.Own w0 [] w0 [] := Dk.Own.refl w0
    refine S.enter tb Tryz.func120 rfl Tryz.ntmps120 rfl ?_ hO hm
    refine br rfl (fun hc4 => ?_) fun hc4 => ?_
    · refine bi rfl fun i5 hi5 => ?_
      refine bi rfl fun s6 hs6 => ?_
      exact rt Tryz.results120 rfl
    · refine rc_ rfl fun a w hf hO hm => ?_
      refine zgi (by kernel_rfl) (by kernel_rfl) hO ?_
      refine zA (fun w hO => zB hf rfl) rfl hf rfl rfl fun a hf => ?_
      refine zA (fun w hO => zB hf rfl) rfl hf rfl rfl fun a hf => ?_
      obtain ⟨i9, hi9, hm⟩ := ob hm
      refine zA (fun w hO => zsL hf rfl rfl hi9) rfl hf rfl rfl fun a hf => ?_
      refine zA (fun w hO => zB hf rfl) rfl hf rfl rfl fun a hf => ?_
      obtain ⟨r10, hr10, hm⟩ := ob hm
      refine q_call (fun w hO => zp zqW hf (vs := [int i9, int x_base]) rfl) rfl hf rfl rfl (fun w hO => (ih i9 x_base r10 _ (hG.own hF hO) hr10).mono fun e w' ⟨he, hb⟩ => ⟨he, hO.grow hb⟩) fun a hf => ?_
      refine zA (fun w hO => zB hf rfl) rfl hf rfl rfl fun a hf => ?_
      refine zA (fun w hO => zB hf rfl) rfl hf rfl rfl fun a hf => ?_
      refine zA (fun w hO => zB hf rfl) rfl hf rfl rfl fun a hf => ?_
      obtain ⟨i11, hi11, hm⟩ := ob hm
      refine zA (fun w hO => zqG hf rfl rfl hi11) rfl hf rfl rfl fun a hf => ?_
      refine zA (fun w hO => zB hf rfl) rfl hf rfl rfl fun a hf => ?_
      refine zA (fun w hO => zB hf rfl) rfl hf rfl rfl fun a hf => ?_
      obtain ⟨i12, hi12, hm⟩ := ob hm
      refine zA (fun w hO => zqG hf rfl rfl hi12) rfl hf rfl rfl fun a hf => ?_
      obtain ⟨i13, hi13, hm⟩ := ob hm
      refine zA (fun w hO => zsK hf rfl rfl hi13) rfl hf rfl rfl fun a hf => ?_
      obtain ⟨s14, hs14, hm⟩ := ob hm
      refine zA (fun w hO => zkP (l := [48, 49, 50, 51, 52, 53, 54, 55, 56, 57, 97, 98, 99, 100, 101, 102]) Tryz.underlying9 hf rfl rfl rfl hs14) rfl hf rfl rfl fun a hf => ?_
      obtain ⟨s15, hs15, hm⟩ := ob hm
      refine zA (fun w hO => zsR (l := r10) (m := s14) hf rfl rfl hs15) rfl hf rfl rfl fun a hf => ?_
      refine zA (fun w hO => zaG hf rfl) rfl hf rfl rfl fun a hf => ?_
      refine wpQuiet_nil ?_
      intro w hO
      refine S.no tb ?_ hf hO hm
      exact rt Tryz.results120 rfl
theorem zg7 (x_n : Int) (x_base : Int) (R : Str) (w0 : World) (hG : zx w0) (hm : zcZ x_n x_base = some R) :
    Calls Tryz.prog 120 #[int x_n, int x_base] w0 (Ret w0 (fun R => str R) R) :=
  zk5 fuel x_n x_base R w0 hG  hm

theorem znx (x_s : Str) (x_base : Int) (R : Str × Bool) (w0 : World) (hG : zx w0) (hm : zga x_s x_base = some R) :
    Calls Tryz.prog 118 #[str x_s, int x_base] w0 (Ret w0 (fun R => .tuple #[str R.1, .bool R.2]) R) := by
 rw [zga] at hm
 have hF : zz [] := zf
 have hO : Dk.Own w0 [] w0 [] := Dk.Own.refl w0
 refine S.enter tb Tryz.func118 rfl Tryz.ntmps118 rfl ?_ hO hm
 refine lp (fun k a w => ∃ (s4 : Str) (i5 : Int), Fits 38 [(0, str x_s), (1, int x_base), (6, str s4), (7, int i5)] a ∧ Dk.Own w0 [] w [] ∧ zaI x_s x_base k s4 i5 = some R) rfl (fun a w hf hO hm => ⟨[], 0, hf.sel rfl, hO, hm⟩) ?_
 rintro n1 a w ⟨s4, i5, hf, hO, hm⟩
 obtain _ | n1 := n1
 rw [zaI] at hm
 cases hm
 rw [zaI] at hm
 refine S.co tb ?_ hf hO hm
 refine br rfl (fun hc7 => ?_) fun hc7 => ?_
 refine jn 3 (fun a w => ∃ (s21 : Str), Fits 38 [(0, str x_s), (1, int x_base), (6, str s21), (7, int i5)] a ∧ Dk.Own w0 [] w [] ∧ zdJ (zaI x_s x_base n1) i5 s21 = some R) rfl ?_ ?_
 refine bi rfl fun b9 hb9 => ?_
 refine cl c_121 rfl (fun r10 w hr10 hO => zjK b9 x_base r10 _ (hG.own hF hO) hr10) fun r10 hr10 => ?_
 refine br rfl (fun hc13 => ?_) fun hc13 => ?_
 exact rt Tryz.results118 rfl
 refine jn 5 (fun a w => ∃ (t17 : Bool), Fits 38 [(0, str x_s), (1, int x_base), (6, str s4), (7, int i5), (8, int r10), (27, .bool t17)] a ∧ Dk.Own w0 [] w [] ∧ zdK (zaI x_s x_base n1) x_base s4 i5 r10 t17 = some R) rfl ?_ ?_
 refine br rfl (fun hc16 => ?_) fun hc16 => ?_
 exact en rfl fun a w hf hO hm => ⟨true, hf.sel rfl, hO, hm⟩
 exact en rfl fun a w hf hO hm => ⟨decide (0 < r10), hf.sel rfl, hO, hm⟩
 rintro a w ⟨t17, hf, hO, hm⟩
 rw [zdK] at hm
 refine S.co tb ?_ hf hO hm
 refine br rfl (fun hc18 => ?_) fun hc18 => ?_
 refine cl zqW rfl (fun r19 w hr19 hO => zg7 r10 x_base r19 _ (hG.own hF hO) hr19) fun r19 hr19 => ?_
 refine bi rfl fun s20 hs20 => ?_
 exact en rfl fun a w hf hO hm => ⟨s20, hf.sel rfl, hO, hm⟩
 exact en rfl fun a w hf hO hm => ⟨s4, hf.sel rfl, hO, hm⟩
 rintro a w ⟨s21, hf, hO, hm⟩
 rw [zdJ] at hm
 refine S.co tb ?_ hf hO hm
 refine bi rfl fun i22 hi22 => ?_
 exact en rfl fun a w hf hO hm => ⟨_, Nat.lt_succ_self _, s21, i22, hf.sel rfl, hO, hm⟩
 refine jn 0 (fun a w => ∃ (s26 : Str), Fits 38 [(0, str x_s), (6, str s26)] a ∧ Dk.Own w0 [] w [] ∧ zdL x_s s26 = some R) rfl ?_ ?_
 refine br rfl (fun hc25 => ?_) fun hc25 => ?_
 exact en rfl fun a w hf hO hm => ⟨[48], hf.sel rfl, hO, hm⟩
 exact en rfl fun a w hf hO hm => ⟨s4, hf.sel rfl, hO, hm⟩
 rintro a w ⟨s26, hf, hO, hm⟩
 rw [zdL] at hm
 refine S.co tb ?_ hf hO hm
 exact rt Tryz.results118 rfl

theorem zoT (x_a : Str) (x_b : Str) (R : Bool) (w0 : World) (hG : zx w0) (hm : zgV x_a x_b = some R) :
    Calls Tryz.prog 119 #[str x_a, str x_b] w0 (Ret w0 (fun R => .bool R) R) := by
 rw [zgV] at hm
 have hF : zz [] := zf
 have hO : Dk.Own w0 [] w0 [] := Dk.Own.refl w0
 refine S.enter tb Tryz.func119 rfl Tryz.ntmps119 rfl ?_ hO hm
 refine jn 0 (fun a w => ∃ (t4 : Bool), Fits 22 [(4, .bool t4)] a ∧ Dk.Own w0 [] w [] ∧ zbZ t4 = some R) rfl ?_ ?_
 refine br rfl (fun hc2 => ?_) fun hc2 => ?_
 exact en rfl fun a w hf hO hm => ⟨true, hf.sel rfl, hO, hm⟩
 refine br rfl (fun hc3 => ?_) fun hc3 => ?_
 refine vl rfl rfl (fun a w hf hO => zsQ (l := x_a) (m := x_b) hf rfl rfl) ?_
 exact en rfl fun a w hf hO hm => ⟨zlj x_a x_b, hf.sel rfl, hO, hm⟩
 exact en rfl fun a w hf hO hm => ⟨false, hf.sel rfl, hO, hm⟩
 rintro a w ⟨t4, hf, hO, hm⟩
 rw [zbZ] at hm
 refine S.co tb ?_ hf hO hm
 exact rt Tryz.results119 rfl

theorem zkF (x_s : Str) (x_base : Int) (x_most : Int) (R : Int × Int) (w0 : World) (hG : zx w0) (hm : zfF x_s x_base x_most = some R) :
    Calls Tryz.prog 70 #[str x_s, int x_base, int x_most] w0 (Ret w0 (fun R => .tuple #[int R.1, int R.2]) R) := by
 rw [zfF] at hm
 have hF : zz [] := zf
 have hO : Dk.Own w0 [] w0 [] := Dk.Own.refl w0
 refine S.enter tb Tryz.func70 rfl Tryz.ntmps70 rfl ?_ hO hm
 refine cl c_118 rfl (fun r2 w hr2 hO => znx x_s x_base r2 _ (hG.own hF hO) hr2) fun r2 hr2 => ?_
 refine br rfl (fun hc5 => ?_) fun hc5 => ?_
 exact rt Tryz.results70 rfl
 refine jn 1 (fun a w => ∃ (t11 : Bool), Fits 45 [(1, int x_base), (8, str r2.1), (28, .bool t11)] a ∧ Dk.Own w0 [] w [] ∧ zdh x_base r2 t11 = some R) rfl ?_ ?_
 refine br rfl (fun hc8 => ?_) fun hc8 => ?_
 exact en rfl fun a w hf hO hm => ⟨true, hf.sel rfl, hO, hm⟩
 refine cl zqW rfl (fun r9 w hr9 hO => zg7 x_most x_base r9 _ (hG.own hF hO) hr9) fun r9 hr9 => ?_
 refine cl c_119 rfl (fun r10 w hr10 hO => zoT r9 r2.1 r10 _ (hG.own hF hO) hr10) fun r10 hr10 => ?_
 exact en rfl fun a w hf hO hm => ⟨r10, hf.sel rfl, hO, hm⟩
 rintro a w ⟨t11, hf, hO, hm⟩
 rw [zdh] at hm
 refine S.co tb ?_ hf hO hm
 refine br rfl (fun hc12 => ?_) fun hc12 => ?_
 exact rt Tryz.results70 rfl
 refine lp (fun k a w => ∃ (i17 : Int) (i18 : Int), Fits 45 [(1, int x_base), (8, str r2.1), (10, int i17), (11, int i18)] a ∧ Dk.Own w0 [] w [] ∧ zb0 x_base r2 k i17 i18 = some R) rfl (fun a w hf hO hm => ⟨0, 0, hf.sel rfl, hO, hm⟩) ?_
 rintro n2 a w ⟨i17, i18, hf, hO, hm⟩
 obtain _ | n2 := n2
 rw [zb0] at hm
 cases hm
 rw [zb0] at hm
 refine S.co tb ?_ hf hO hm
 refine br rfl (fun hc20 => ?_) fun hc20 => ?_
 refine bi rfl fun i22 hi22 => ?_
 refine bi rfl fun b23 hb23 => ?_
 refine cl c_121 rfl (fun r24 w hr24 hO => zjK b23 x_base r24 _ (hG.own hF hO) hr24) fun r24 hr24 => ?_
 refine bi rfl fun i25 hi25 => ?_
 refine bi rfl fun i27 hi27 => ?_
 exact en rfl fun a w hf hO hm => ⟨_, Nat.lt_succ_self _, i25, i27, hf.sel rfl, hO, hm⟩
 exact rt Tryz.results70 rfl

theorem zoU (x_n : Int) (x_base : Int) (R : Str) (w0 : World) (hG : zx w0) (hm : zgW x_n x_base = some R) :
    Calls Tryz.prog 78 #[int x_n, int x_base] w0 (Ret w0 (fun R => str R) R) := by
 rw [zgW] at hm
 have hF : zz [] := zf
 have hO : Dk.Own w0 [] w0 [] := Dk.Own.refl w0
 refine S.enter tb Tryz.func78 rfl Tryz.ntmps78 rfl ?_ hO hm
 refine br rfl (fun hc3 => ?_) fun hc3 => ?_
 exact rt Tryz.results78 rfl
 refine cl zqW rfl (fun r6 w hr6 hO => zg7 x_n x_base r6 _ (hG.own hF hO) hr6) fun r6 hr6 => ?_
 exact rt Tryz.results78 rfl

theorem zjL (x_s : Str) (x_most : Int) (R : Int) (w0 : World) (hG : zx w0) (hm : zeY x_s x_most = some R) :
    Calls Tryz.prog 127 #[str x_s, int x_most] w0 (Ret w0 (fun R => int R) R) := by
 rw [zeY] at hm
 have hF : zz [] := zf
 have hO : Dk.Own w0 [] w0 [] := Dk.Own.refl w0
 refine S.enter tb Tryz.func127 rfl Tryz.ntmps127 rfl ?_ hO hm
 refine br rfl (fun hc3 => ?_) fun hc3 => ?_
 exact rt Tryz.results127 rfl
 refine cl c_70 rfl (fun r6 w hr6 hO => zkF x_s 10 x_most r6 _ (hG.own hF hO) hr6) fun r6 hr6 => ?_
 refine jn 1 (fun a w => ∃ (t10 : Bool), Fits 25 [(5, int r6.1), (23, .bool t10)] a ∧ Dk.Own w0 [] w [] ∧ zcN r6 t10 = some R) rfl ?_ ?_
 refine br rfl (fun hc8 => ?_) fun hc8 => ?_
 exact en rfl fun a w hf hO hm => ⟨true, hf.sel rfl, hO, hm⟩
 refine cl c_78 rfl (fun r9 w hr9 hO => zoU r6.1 10 r9 _ (hG.own hF hO) hr9) fun r9 hr9 => ?_
 exact en rfl fun a w hf hO hm => ⟨!(r9 == x_s), hf.sel rfl, hO, hm⟩
 rintro a w ⟨t10, hf, hO, hm⟩
 rw [zcN] at hm
 refine S.co tb ?_ hf hO hm
 refine br rfl (fun hc11 => ?_) fun hc11 => ?_
 exact rt Tryz.results127 rfl
 exact rt Tryz.results127 rfl

theorem zkG (x_s : Str) (R : Bool) (w0 : World) (hG : zx w0) (hm : zfG x_s = some R) :
    Calls Tryz.prog 161 #[str x_s] w0 (Ret w0 (fun R => .bool R) R) := by
 rw [zfG] at hm
 have hF : zz [] := zf
 have hO : Dk.Own w0 [] w0 [] := Dk.Own.refl w0
 refine S.enter tb Tryz.func161 rfl Tryz.ntmps161 rfl ?_ hO hm
 refine rw_ rfl fun a w hf hO hm => ?_
 obtain ⟨r2, hr2, hm⟩ := ob hm
 refine zr (zp c_66 hf (vs := [str x_s, z7 46]) rfl) rfl hf rfl rfl (zhr x_s 46 r2 _ (hG.own hF hO) hr2) ?_
 rintro e w' ⟨p3, c4, he, hO'⟩
 refine ⟨_, he, fun a hf => ?_⟩
 have hO := hO.call hO' (by simp [Res.shared])
 refine S.op tb ?_ hf hO hm
 refine lp (fun k a w => ∃ (i7 : Int), Fits 22 [(3, .slice p3 r2.length c4), (4, int i7)] a ∧ Dk.Own w0 [] w [.row (.slice p3 r2.length c4) 9 1 r2.length (cells zh r2)] ∧ zb1 r2 k i7 = some R) rfl (fun a w hf hO hm => ⟨0, hf.sel rfl, hO, hm⟩) ?_
 rintro n1 a w ⟨i7, hf, hO, hm⟩
 obtain _ | n1 := n1
 rw [zb1] at hm
 cases hm
 rw [zb1] at hm
 refine S.co tb ?_ hf hO hm
 refine br rfl (fun hc9 => ?_) fun hc9 => ?_
 refine rw_ rfl fun a w hf hO hm => ?_
 obtain ⟨x11, hx11, hm⟩ := ob hm
 obtain ⟨b12, o13, hix11, hSx11, hAx11⟩ := zah (enc := zh) (sz := 1) (xs := r2) 31 Tryz.underlying31 zd1 (by decide) (fun _ => rfl) hO (i := 0) rfl hx11
 refine za2 (zo hix11 hf rfl rfl) rfl hf rfl rfl fun a hf => ?_
 refine S.op tb ?_ hf hO hm
 refine vl rfl rfl (fun a w hf hO => zb (o := 0) zR (hSx11 _ (hO.rowSees (i := 0) rfl)) rfl hf rfl) ?_
 refine cl c_127 rfl (fun r14 w hr14 hO => zjL x11 255 r14 _ (hG.own hF hO) hr14) fun r14 hr14 => ?_
 refine br rfl (fun hc16 => ?_) fun hc16 => ?_
 exact rt Tryz.results161 rfl
 refine bi rfl fun i19 hi19 => ?_
 exact en rfl fun a w hf hO hm => ⟨_, Nat.lt_succ_self _, i19, hf.sel rfl, hO, hm⟩
 exact rt Tryz.results161 rfl

end Go.Proofs
end
section
set_option linter.unusedVariables false
set_option maxHeartbeats 1000000
set_option linter.unusedSimpArgs false
set_option maxRecDepth 100000
namespace Go.Proofs
open Go.Dk Go.Dm Go.RowKit

theorem zf5 (x_b : UInt8) (R : Bool) (w0 : World) (hG : zx w0) (hm : zd9 x_b = some R) :
    Calls Tryz.prog 178 #[z7 x_b] w0 (Ret w0 (fun R => .bool R) R) := by
 rw [zd9] at hm
 have hF : zz [] := zf
 have hO : Dk.Own w0 [] w0 [] := Dk.Own.refl w0
 refine S.enter tb Tryz.func178 rfl Tryz.ntmps178 rfl ?_ hO hm
 refine cl znY rfl (fun r2 w hr2 hO => zfz x_b [48, 49, 50, 51, 52, 53, 54, 55, 56, 57, 97, 98, 99, 100, 101, 102, 65, 66, 67, 68, 69, 70] r2 _ (hG.own hF hO) hr2) fun r2 hr2 => ?_
 exact rt Tryz.results178 rfl

theorem zjB (x_s : Str) (R : Bool) (w0 : World) (hG : zx w0) (hm : zeZ x_s = some R) :
    Calls Tryz.prog 183 #[str x_s] w0 (Ret w0 (fun R => .bool R) R) := by
 rw [zeZ] at hm
 have hF : zz [] := zf
 have hO : Dk.Own w0 [] w0 [] := Dk.Own.refl w0
 refine S.enter tb Tryz.func183 rfl Tryz.ntmps183 rfl ?_ hO hm
 refine rw_ rfl fun a w hf hO hm => ?_
 obtain ⟨r2, hr2, hm⟩ := ob hm
 refine zr (zp c_66 hf (vs := [str x_s, z7 58]) rfl) rfl hf rfl rfl (zhr x_s 58 r2 _ (hG.own hF hO) hr2) ?_
 rintro e w' ⟨p3, c4, he, hO'⟩
 refine ⟨_, he, fun a hf => ?_⟩
 have hO := hO.call hO' (by simp [Res.shared])
 refine S.op tb ?_ hf hO hm
 refine lp (fun k a w => ∃ (i8 : Int) (i9 : Int), Fits 64 [(3, .slice p3 r2.length c4), (4, int i8), (5, int i9)] a ∧ Dk.Own w0 [] w [.row (.slice p3 r2.length c4) 9 1 r2.length (cells zh r2)] ∧ zac r2 k i8 i9 = some R) rfl (fun a w hf hO hm => ⟨0, 0, hf.sel rfl, hO, hm⟩) ?_
 rintro n1 a w ⟨i8, i9, hf, hO, hm⟩
 obtain _ | n1 := n1
 rw [zac] at hm
 cases hm
 rw [zac] at hm
 refine S.co tb ?_ hf hO hm
 refine br rfl (fun hc11 => ?_) fun hc11 => ?_
 refine jn 3 (fun a w => ∃ (i55 : Int), Fits 64 [(3, .slice p3 r2.length c4), (4, int i55), (5, int i9)] a ∧ Dk.Own w0 [] w [.row (.slice p3 r2.length c4) 9 1 r2.length (cells zh r2)] ∧ zcO (zac r2 n1) i9 i55 = some R) rfl ?_ ?_
 refine jn 6 (fun a w => ∃ (t19 : Bool), Fits 64 [(3, .slice p3 r2.length c4), (4, int i8), (5, int i9), (26, .bool t19)] a ∧ Dk.Own w0 [] w [.row (.slice p3 r2.length c4) 9 1 r2.length (cells zh r2)] ∧ zcP (zac r2 n1) r2 i8 i9 t19 = some R) rfl ?_ ?_
 refine bi rfl fun i13 hi13 => ?_
 refine br rfl (fun hc14 => ?_) fun hc14 => ?_
 refine rw_ rfl fun a w hf hO hm => ?_
 obtain ⟨x15, hx15, hm⟩ := ob hm
 obtain ⟨b16, o17, hix15, hSx15, hAx15⟩ := zah (enc := zh) (sz := 1) (xs := r2) 31 Tryz.underlying31 zd1 (by decide) (fun _ => rfl) hO (i := 0) rfl hx15
 refine za2 (zo hix15 hf rfl rfl) rfl hf rfl rfl fun a hf => ?_
 refine S.op tb ?_ hf hO hm
 refine kn (b' := true) hc14 rfl ?_
 refine vl rfl rfl (fun a w hf hO => zb (o := 0) zR (hSx15 _ (hO.rowSees (i := 0) rfl)) rfl hf rfl) ?_
 refine cl c_161 rfl (fun r18 w hr18 hO => zkG x15 r18 _ (hG.own hF hO) hr18) fun r18 hr18 => ?_
 exact en rfl fun a w hf hO hm => ⟨r18, hf.sel rfl, hO, hm⟩
 exact en rfl fun a w hf hO hm => ⟨false, hf.sel rfl, hO, hm⟩
 rintro a w ⟨t19, hf, hO, hm⟩
 rw [zcP] at hm
 refine S.co tb ?_ hf hO hm
 refine br rfl (fun hc20 => ?_) fun hc20 => ?_
 refine bi rfl fun i21 hi21 => ?_
 exact en rfl fun a w hf hO hm => ⟨i21, hf.sel rfl, hO, hm⟩
 refine lp (fun k a w => ∃ (i25 : Int), Fits 64 [(3, .slice p3 r2.length c4), (4, int i8), (5, int i9), (6, int i25)] a ∧ Dk.Own w0 [] w [.row (.slice p3 r2.length c4) 9 1 r2.length (cells zh r2)] ∧ zbB (zac r2 n1) r2 i8 i9 k i25 = some R) rfl (fun a w hf hO hm => ⟨0, hf.sel rfl, hO, hm⟩) ?_
 rintro n3 a w ⟨i25, hf, hO, hm⟩
 obtain _ | n3 := n3
 rw [zbB] at hm
 cases hm
 rw [zbB] at hm
 refine S.co tb ?_ hf hO hm
 refine rw_ rfl fun a w hf hO hm => ?_
 obtain ⟨x26, hx26, hm⟩ := ob hm
 obtain ⟨b27, o28, hix26, hSx26, hAx26⟩ := zah (enc := zh) (sz := 1) (xs := r2) 31 Tryz.underlying31 zd1 (by decide) (fun _ => rfl) hO (i := 0) rfl hx26
 refine za2 (zo hix26 hf rfl rfl) rfl hf rfl rfl fun a hf => ?_
 refine S.op tb ?_ hf hO hm
 refine vl rfl rfl (fun a w hf hO => zb (o := 0) zR (hSx26 _ (hO.rowSees (i := 0) rfl)) rfl hf rfl) ?_
 refine br rfl (fun hc30 => ?_) fun hc30 => ?_
 refine rw_ rfl fun a w hf hO hm => ?_
 obtain ⟨x32, hx32, hm⟩ := ob hm
 obtain ⟨b33, o34, hix32, hSx32, hAx32⟩ := zah (enc := zh) (sz := 1) (xs := r2) 31 Tryz.underlying31 zd1 (by decide) (fun _ => rfl) hO (i := 0) rfl hx32
 refine za2 (zo hix32 hf rfl rfl) rfl hf rfl rfl fun a hf => ?_
 refine S.op tb ?_ hf hO hm
 refine vl rfl rfl (fun a w hf hO => zb (o := 0) zR (hSx32 _ (hO.rowSees (i := 0) rfl)) rfl hf rfl) ?_
 refine bi rfl fun b35 hb35 => ?_
 refine cl zpN rfl (fun r36 w hr36 hO => zf5 b35 r36 _ (hG.own hF hO) hr36) fun r36 hr36 => ?_
 refine br rfl (fun hc38 => ?_) fun hc38 => ?_
 exact rt Tryz.results183 rfl
 refine bi rfl fun i41 hi41 => ?_
 exact en rfl fun a w hf hO hm => ⟨_, Nat.lt_succ_self _, i41, hf.sel rfl, hO, hm⟩
 refine jn 6 (fun a w => ∃ (t50 : Bool), Fits 64 [(3, .slice p3 r2.length c4), (4, int i8), (5, int i9), (59, .bool t50)] a ∧ Dk.Own w0 [] w [.row (.slice p3 r2.length c4) 9 1 r2.length (cells zh r2)] ∧ zdM (zac r2 n1) i8 i9 t50 = some R) rfl ?_ ?_
 refine rw_ rfl fun a w hf hO hm => ?_
 obtain ⟨x43, hx43, hm⟩ := ob hm
 obtain ⟨b44, o45, hix43, hSx43, hAx43⟩ := zah (enc := zh) (sz := 1) (xs := r2) 31 Tryz.underlying31 zd1 (by decide) (fun _ => rfl) hO (i := 0) rfl hx43
 refine za2 (zo hix43 hf rfl rfl) rfl hf rfl rfl fun a hf => ?_
 refine S.op tb ?_ hf hO hm
 refine vl rfl rfl (fun a w hf hO => zb (o := 0) zR (hSx43 _ (hO.rowSees (i := 0) rfl)) rfl hf rfl) ?_
 refine br rfl (fun hc46 => ?_) fun hc46 => ?_
 exact en rfl fun a w hf hO hm => ⟨true, hf.sel rfl, hO, hm⟩
 refine rw_ rfl fun a w hf hO hm => ?_
 obtain ⟨x47, hx47, hm⟩ := ob hm
 obtain ⟨b48, o49, hix47, hSx47, hAx47⟩ := zah (enc := zh) (sz := 1) (xs := r2) 31 Tryz.underlying31 zd1 (by decide) (fun _ => rfl) hO (i := 0) rfl hx47
 refine za2 (zo hix47 hf rfl rfl) rfl hf rfl rfl fun a hf => ?_
 refine S.op tb ?_ hf hO hm
 refine kn (b' := false) hc46 rfl ?_
 refine vl rfl rfl (fun a w hf hO => zb (o := 0) zR (hSx47 _ (hO.rowSees (i := 0) rfl)) rfl hf rfl) ?_
 exact en rfl fun a w hf hO hm => ⟨decide (4 < (x47.length : Int)), hf.sel rfl, hO, hm⟩
 rintro a w ⟨t50, hf, hO, hm⟩
 rw [zdM] at hm
 refine S.co tb ?_ hf hO hm
 refine br rfl (fun hc51 => ?_) fun hc51 => ?_
 exact rt Tryz.results183 rfl
 refine bi rfl fun i54 hi54 => ?_
 exact en rfl fun a w hf hO hm => ⟨i54, hf.sel rfl, hO, hm⟩
 rintro a w ⟨i55, hf, hO, hm⟩
 rw [zcO] at hm
 refine S.co tb ?_ hf hO hm
 refine bi rfl fun i56 hi56 => ?_
 exact en rfl fun a w hf hO hm => ⟨_, Nat.lt_succ_self _, i55, i56, hf.sel rfl, hO, hm⟩
 exact rt Tryz.results183 rfl

theorem zpg (x_s : Str) (R : Bool) (w0 : World) (hG : zx w0) (hm : zgB x_s = some R) :
    Calls Tryz.prog 160 #[str x_s] w0 (Ret w0 (fun R => .bool R) R) := by
 rw [zgB] at hm
 have hF : zz [] := zf
 have hO : Dk.Own w0 [] w0 [] := Dk.Own.refl w0
 refine S.enter tb Tryz.func160 rfl Tryz.ntmps160 rfl ?_ hO hm
 refine lp (fun k a w => ∃ (i3 : Int), Fits 59 [(0, str x_s), (3, int i3)] a ∧ Dk.Own w0 [] w [] ∧ zbT x_s k i3 = some R) rfl (fun a w hf hO hm => ⟨0, hf.sel rfl, hO, hm⟩) ?_
 rintro n1 a w ⟨i3, hf, hO, hm⟩
 obtain _ | n1 := n1
 rw [zbT] at hm
 cases hm
 rw [zbT] at hm
 refine S.co tb ?_ hf hO hm
 refine bi rfl fun i4 hi4 => ?_
 refine br rfl (fun hc6 => ?_) fun hc6 => ?_
 refine jn 6 (fun a w => ∃ (t12 : Bool), Fits 59 [(0, str x_s), (3, int i3), (24, .bool t12)] a ∧ Dk.Own w0 [] w [] ∧ zff (zbT x_s n1) x_s i3 t12 = some R) rfl ?_ ?_
 refine bi rfl fun b8 hb8 => ?_
 refine vl rfl rfl (fun a w hf hO => zd2 (b := b8) (c := 58) hf rfl rfl) ?_
 refine br rfl (fun hc9 => ?_) fun hc9 => ?_
 exact en rfl fun a w hf hO hm => ⟨true, hf.sel rfl, hO, hm⟩
 refine bi rfl fun i10 hi10 => ?_
 refine bi rfl fun b11 hb11 => ?_
 refine vl rfl rfl (fun a w hf hO => zd2 (b := b11) (c := 58) hf rfl rfl) ?_
 exact en rfl fun a w hf hO hm => ⟨!(b11 == 58), hf.sel rfl, hO, hm⟩
 rintro a w ⟨t12, hf, hO, hm⟩
 rw [zff] at hm
 refine S.co tb ?_ hf hO hm
 refine br rfl (fun hc13 => ?_) fun hc13 => ?_
 refine bi rfl fun i54 hi54 => ?_
 exact en rfl fun a w hf hO hm => ⟨_, Nat.lt_succ_self _, i54, hf.sel rfl, hO, hm⟩
 refine lp (fun k a w => ∃ (i16 : Int), Fits 59 [(0, str x_s), (3, int i3), (4, int i16)] a ∧ Dk.Own w0 [] w [] ∧ zaO x_s i3 k i16 = some R) rfl (fun a w hf hO hm => ⟨1, hf.sel rfl, hO, hm⟩) ?_
 rintro n3 a w ⟨i16, hf, hO, hm⟩
 obtain _ | n3 := n3
 rw [zaO] at hm
 cases hm
 rw [zaO] at hm
 refine S.co tb ?_ hf hO hm
 refine br rfl (fun hc18 => ?_) fun hc18 => ?_
 refine bi rfl fun s20 hs20 => ?_
 refine lp (fun k a w => ∃ (s23 : Str) (i24 : Int), Fits 59 [(0, str x_s), (3, int i3), (4, int i16), (5, str s23), (6, int i24)] a ∧ Dk.Own w0 [] w [] ∧ zbS (zaO x_s i3 n3) x_s i3 i16 k s23 i24 = some R) rfl (fun a w hf hO hm => ⟨s20, 0, hf.sel rfl, hO, hm⟩) ?_
 rintro n4 a w ⟨s23, i24, hf, hO, hm⟩
 obtain _ | n4 := n4
 rw [zbS] at hm
 cases hm
 rw [zbS] at hm
 refine S.co tb ?_ hf hO hm
 refine br rfl (fun hc26 => ?_) fun hc26 => ?_
 refine jn 15 (fun a w => ∃ (s31 : Str), Fits 59 [(0, str x_s), (3, int i3), (4, int i16), (5, str s31), (6, int i24)] a ∧ Dk.Own w0 [] w [] ∧ zfe (zbS (zaO x_s i3 n3) x_s i3 i16 n4) i24 s31 = some R) rfl ?_ ?_
 refine br rfl (fun hc29 => ?_) fun hc29 => ?_
 refine bi rfl fun s30 hs30 => ?_
 exact en rfl fun a w hf hO hm => ⟨s30, hf.sel rfl, hO, hm⟩
 exact en rfl fun a w hf hO hm => ⟨s23, hf.sel rfl, hO, hm⟩
 rintro a w ⟨s31, hf, hO, hm⟩
 rw [zfe] at hm
 refine S.co tb ?_ hf hO hm
 refine bi rfl fun s32 hs32 => ?_
 refine bi rfl fun i34 hi34 => ?_
 exact en rfl fun a w hf hO hm => ⟨_, Nat.lt_succ_self _, s32, i34, hf.sel rfl, hO, hm⟩
 refine jn 10 (fun a w => ∃ (s44 : Str), Fits 59 [(0, str x_s), (3, int i3), (4, int i16), (5, str s44)] a ∧ Dk.Own w0 [] w [] ∧ zea (zaO x_s i3 n3) i16 s44 = some R) rfl ?_ ?_
 refine bi rfl fun i36 hi36 => ?_
 refine bi rfl fun s37 hs37 => ?_
 refine br rfl (fun hc39 => ?_) fun hc39 => ?_
 refine bi rfl fun s40 hs40 => ?_
 refine bi rfl fun i41 hi41 => ?_
 refine bi rfl fun s42 hs42 => ?_
 refine bi rfl fun s43 hs43 => ?_
 exact en rfl fun a w hf hO hm => ⟨s43, hf.sel rfl, hO, hm⟩
 exact en rfl fun a w hf hO hm => ⟨s23, hf.sel rfl, hO, hm⟩
 rintro a w ⟨s44, hf, hO, hm⟩
 rw [zea] at hm
 refine S.co tb ?_ hf hO hm
 refine cl c_183 rfl (fun r45 w hr45 hO => zjB s44 r45 _ (hG.own hF hO) hr45) fun r45 hr45 => ?_
 refine br rfl (fun hc47 => ?_) fun hc47 => ?_
 exact rt Tryz.results160 rfl
 refine bi rfl fun i50 hi50 => ?_
 exact en rfl fun a w hf hO hm => ⟨_, Nat.lt_succ_self _, i50, hf.sel rfl, hO, hm⟩
 exact rt Tryz.results160 rfl
 refine cl c_183 rfl (fun r56 w hr56 hO => zjB x_s r56 _ (hG.own hF hO) hr56) fun r56 hr56 => ?_
 exact rt Tryz.results160 rfl

theorem zgH (x_b : UInt8) (R : Bool) (w0 : World) (hG : zx w0) (hm : zb2 x_b = some R) :
    Calls Tryz.prog 184 #[z7 x_b] w0 (Ret w0 (fun R => .bool R) R) := by
 rw [zb2] at hm
 have hF : zz [] := zf
 have hO : Dk.Own w0 [] w0 [] := Dk.Own.refl w0
 refine S.enter tb Tryz.func184 rfl Tryz.ntmps184 rfl ?_ hO hm
 refine cl znY rfl (fun r2 w hr2 hO => zfz x_b [97, 98, 99, 100, 101, 102, 103, 104, 105, 106, 107, 108, 109, 110, 111, 112, 113, 114, 115, 116, 117, 118, 119, 120, 121, 122, 65, 66, 67, 68, 69, 70, 71, 72, 73, 74, 75, 76, 77, 78, 79, 80, 81, 82, 83, 84, 85, 86, 87, 88, 89, 90, 48, 49, 50, 51, 52, 53, 54, 55, 56, 57, 45, 46, 95, 126] r2 _ (hG.own hF hO) hr2) fun r2 hr2 => ?_
 exact rt Tryz.results184 rfl

theorem zlh (x_b : UInt8) (R : Bool) (w0 : World) (hG : zx w0) (hm : zgC x_b = some R) :
    Calls Tryz.prog 185 #[z7 x_b] w0 (Ret w0 (fun R => .bool R) R) := by
 rw [zgC] at hm
 have hF : zz [] := zf
 have hO : Dk.Own w0 [] w0 [] := Dk.Own.refl w0
 refine S.enter tb Tryz.func185 rfl Tryz.ntmps185 rfl ?_ hO hm
 refine cl znY rfl (fun r2 w hr2 hO => zfz x_b [33, 36, 38, 39, 40, 41, 42, 43, 44, 59, 61] r2 _ (hG.own hF hO) hr2) fun r2 hr2 => ?_
 exact rt Tryz.results185 rfl

theorem zoq (x_s : Str) (R : Bool) (w0 : World) (hG : zx w0) (hm : zgX x_s = some R) :
    Calls Tryz.prog 162 #[str x_s] w0 (Ret w0 (fun R => .bool R) R) := by
 rw [zgX] at hm
 have hF : zz [] := zf
 have hO : Dk.Own w0 [] w0 [] := Dk.Own.refl w0
 refine S.enter tb Tryz.func162 rfl Tryz.ntmps162 rfl ?_ hO hm
 refine lp (fun k a w => ∃ (i3 : Int), Fits 52 [(0, str x_s), (3, int i3)] a ∧ Dk.Own w0 [] w [] ∧ zY x_s k i3 = some R) rfl (fun a w hf hO hm => ⟨0, hf.sel rfl, hO, hm⟩) ?_
 rintro n1 a w ⟨i3, hf, hO, hm⟩
 obtain _ | n1 := n1
 rw [zY] at hm
 cases hm
 rw [zY] at hm
 refine S.co tb ?_ hf hO hm
 refine br rfl (fun hc5 => ?_) fun hc5 => ?_
 refine jn 3 (fun a w => ∃ (i34 : Int), Fits 52 [(0, str x_s), (3, int i34)] a ∧ Dk.Own w0 [] w [] ∧ zdi (zY x_s n1) i34 = some R) rfl ?_ ?_
 refine bi rfl fun b7 hb7 => ?_
 refine vl rfl rfl (fun a w hf hO => zW (b := b7) (c := 37) hf rfl rfl) ?_
 refine br rfl (fun hc9 => ?_) fun hc9 => ?_
 refine jn 7 (fun a w => ∃ (t19 : Bool), Fits 52 [(0, str x_s), (3, int i3), (34, .bool t19)] a ∧ Dk.Own w0 [] w [] ∧ zbu (zY x_s n1) i3 t19 = some R) rfl ?_ ?_
 refine bi rfl fun i10 hi10 => ?_
 refine br rfl (fun hc11 => ?_) fun hc11 => ?_
 exact en rfl fun a w hf hO hm => ⟨true, hf.sel rfl, hO, hm⟩
 refine bi rfl fun i12 hi12 => ?_
 refine bi rfl fun b13 hb13 => ?_
 refine cl zpN rfl (fun r14 w hr14 hO => zf5 b13 r14 _ (hG.own hF hO) hr14) fun r14 hr14 => ?_
 refine br rfl (fun hc15 => ?_) fun hc15 => ?_
 exact en rfl fun a w hf hO hm => ⟨true, hf.sel rfl, hO, hm⟩
 refine bi rfl fun i16 hi16 => ?_
 refine bi rfl fun b17 hb17 => ?_
 refine cl zpN rfl (fun r18 w hr18 hO => zf5 b17 r18 _ (hG.own hF hO) hr18) fun r18 hr18 => ?_
 exact en rfl fun a w hf hO hm => ⟨!r18, hf.sel rfl, hO, hm⟩
 rintro a w ⟨t19, hf, hO, hm⟩
 rw [zbu] at hm
 refine S.co tb ?_ hf hO hm
 refine br rfl (fun hc20 => ?_) fun hc20 => ?_
 exact rt Tryz.results162 rfl
 refine bi rfl fun i23 hi23 => ?_
 exact en rfl fun a w hf hO hm => ⟨i23, hf.sel rfl, hO, hm⟩
 refine jn 5 (fun a w => ∃ (t31 : Bool), Fits 52 [(0, str x_s), (3, int i3), (48, .bool t31)] a ∧ Dk.Own w0 [] w [] ∧ zex (zY x_s n1) i3 t31 = some R) rfl ?_ ?_
 refine bi rfl fun b26 hb26 => ?_
 refine cl c_184 rfl (fun r27 w hr27 hO => zgH b26 r27 _ (hG.own hF hO) hr27) fun r27 hr27 => ?_
 refine br rfl (fun hc28 => ?_) fun hc28 => ?_
 refine bi rfl fun b29 hb29 => ?_
 refine cl c_185 rfl (fun r30 w hr30 hO => zlh b29 r30 _ (hG.own hF hO) hr30) fun r30 hr30 => ?_
 exact en rfl fun a w hf hO hm => ⟨!r30, hf.sel rfl, hO, hm⟩
 exact en rfl fun a w hf hO hm => ⟨false, hf.sel rfl, hO, hm⟩
 rintro a w ⟨t31, hf, hO, hm⟩
 rw [zex] at hm
 refine S.co tb ?_ hf hO hm
 refine br rfl (fun hc32 => ?_) fun hc32 => ?_
 exact rt Tryz.results162 rfl
 exact en rfl fun a w hf hO hm => ⟨i3, hf.sel rfl, hO, hm⟩
 rintro a w ⟨i34, hf, hO, hm⟩
 rw [zdi] at hm
 refine S.co tb ?_ hf hO hm
 refine bi rfl fun i35 hi35 => ?_
 exact en rfl fun a w hf hO hm => ⟨_, Nat.lt_succ_self _, i35, hf.sel rfl, hO, hm⟩
 exact rt Tryz.results162 rfl

theorem zmf (x_s : Str) (R : api_Host) (w0 : World) (hG : zx w0) (hm : zhL x_s = some R) :
    Calls Tryz.prog 126 #[str x_s] w0 (Ret w0 (fun R => .agg #[int R.Kind, str R.Name, int R.Port]) R) := by
 rw [zhL] at hm
 have hF : zz [] := zf
 have hO : Dk.Own w0 [] w0 [] := Dk.Own.refl w0
 refine S.enter tb Tryz.func126 rfl Tryz.ntmps126 rfl ?_ hO hm
 refine rw_ rfl fun a w hf hO hm => ?_
 refine zt zfm hf rfl hO fun a b1 w hf hO => ?_
 refine S.op tb ?_ hf hO hm
 refine jn 1 (fun a w => ∃ (t12 : Bool), Fits 42 [(0, str x_s), (2, ptr b1 0), (26, .bool t12)] a ∧ Dk.Own w0 [] w [.blk b1 [int 0, str [], int 0] 107] ∧ zcV x_s t12 = some R) rfl ?_ ?_
 refine br rfl (fun hc3 => ?_) fun hc3 => ?_
 refine bi rfl fun b4 hb4 => ?_
 refine vl rfl rfl (fun a w hf hO => zW (b := b4) (c := 91) hf rfl rfl) ?_
 refine br rfl (fun hc5 => ?_) fun hc5 => ?_
 refine bi rfl fun i6 hi6 => ?_
 refine bi rfl fun b7 hb7 => ?_
 refine vl rfl rfl (fun a w hf hO => zW (b := b7) (c := 93) hf rfl rfl) ?_
 refine br rfl (fun hc8 => ?_) fun hc8 => ?_
 refine bi rfl fun i9 hi9 => ?_
 refine bi rfl fun s10 hs10 => ?_
 refine cl c_160 rfl (fun r11 w hr11 hO => zpg s10 r11 _ (hG.own hF hO) hr11) fun r11 hr11 => ?_
 exact en rfl fun a w hf hO hm => ⟨r11, hf.sel rfl, hO, hm⟩
 exact en rfl fun a w hf hO hm => ⟨false, hf.sel rfl, hO, hm⟩
 exact en rfl fun a w hf hO hm => ⟨false, hf.sel rfl, hO, hm⟩
 exact en rfl fun a w hf hO hm => ⟨false, hf.sel rfl, hO, hm⟩
 rintro a w ⟨t12, hf, hO, hm⟩
 rw [zcV] at hm
 refine S.co tb ?_ hf hO hm
 refine br rfl (fun hc13 => ?_) fun hc13 => ?_
 refine bi rfl fun i14 hi14 => ?_
 refine bi rfl fun s15 hs15 => ?_
 refine vl rfl rfl (fun a w hf hO => zj (vs := [(0, int 3), (1, str s15), (2, int (-1))]) (v := .agg #[int 3, str s15, int (-1)]) hf rfl (by kernel_rfl)) ?_
 refine rw_ rfl fun a w hf hO hm => ?_
 refine ze (i := 0) (n := 3) zP rfl rfl rfl (by simp [Value.oneCell']) hf rfl rfl hO fun w hO => ?_
 refine S.op tb ?_ hf hO hm
 refine re_ rfl fun a w hf hO hm => ?_
 obtain rfl := Option.some.inj hm
 exact zg Tryz.results126 hf (.cell rfl (zd (n := 3) (vs := [int 3, str s15, int (-1)]) zci zP rfl ((hO.blkSees (i := 0) rfl).cells (o := 0) (n := 3) rfl)) .nil) ⟨rfl, hO.below⟩
 refine cl c_161 rfl (fun r18 w hr18 hO => zkG x_s r18 _ (hG.own hF hO) hr18) fun r18 hr18 => ?_
 refine br rfl (fun hc20 => ?_) fun hc20 => ?_
 refine vl rfl rfl (fun a w hf hO => zj (vs := [(0, int 2), (1, str x_s), (2, int (-1))]) (v := .agg #[int 2, str x_s, int (-1)]) hf rfl (by kernel_rfl)) ?_
 refine rw_ rfl fun a w hf hO hm => ?_
 refine ze (i := 0) (n := 3) zP rfl rfl rfl (by simp [Value.oneCell']) hf rfl rfl hO fun w hO => ?_
 refine S.op tb ?_ hf hO hm
 refine re_ rfl fun a w hf hO hm => ?_
 obtain rfl := Option.some.inj hm
 exact zg Tryz.results126 hf (.cell rfl (zd (n := 3) (vs := [int 2, str x_s, int (-1)]) zci zP rfl ((hO.blkSees (i := 0) rfl).cells (o := 0) (n := 3) rfl)) .nil) ⟨rfl, hO.below⟩
 refine cl c_162 rfl (fun r23 w hr23 hO => zoq x_s r23 _ (hG.own hF hO) hr23) fun r23 hr23 => ?_
 refine br rfl (fun hc25 => ?_) fun hc25 => ?_
 refine vl rfl rfl (fun a w hf hO => zj (vs := [(0, int 1), (1, str x_s), (2, int (-1))]) (v := .agg #[int 1, str x_s, int (-1)]) hf rfl (by kernel_rfl)) ?_
 refine rw_ rfl fun a w hf hO hm => ?_
 refine ze (i := 0) (n := 3) zP rfl rfl rfl (by simp [Value.oneCell']) hf rfl rfl hO fun w hO => ?_
 refine S.op tb ?_ hf hO hm
 refine re_ rfl fun a w hf hO hm => ?_
 obtain rfl := Option.some.inj hm
 exact zg Tryz.results126 hf (.cell rfl (zd (n := 3) (vs := [int 1, str x_s, int (-1)]) zci zP rfl ((hO.blkSees (i := 0) rfl).cells (o := 0) (n := 3) rfl)) .nil) ⟨rfl, hO.below⟩
 refine vl rfl rfl (fun a w hf hO => zj (vs := []) (v := .agg #[int 0, str [], int 0]) hf rfl (by kernel_rfl)) ?_
 refine rw_ rfl fun a w hf hO hm => ?_
 refine ze (i := 0) (n := 3) zP rfl rfl rfl (by simp [Value.oneCell']) hf rfl rfl hO fun w hO => ?_
 refine S.op tb ?_ hf hO hm
 refine re_ rfl fun a w hf hO hm => ?_
 obtain rfl := Option.some.inj hm
 exact zg Tryz.results126 hf (.cell rfl (zd (n := 3) (vs := [int 0, str [], int 0]) zci zP rfl ((hO.blkSees (i := 0) rfl).cells (o := 0) (n := 3) rfl)) .nil) ⟨rfl, hO.below⟩

theorem zhs (x_s : Str) (R : api_Host × Int) (w0 : World) (hG : zx w0) (hm : zcW x_s = some R) :
    Calls Tryz.prog 80 #[str x_s] w0 (Ret w0 (fun R => .tuple #[.agg #[int R.1.Kind, str R.1.Name, int R.1.Port], int R.2]) R) := by
 rw [zcW] at hm
 have hF : zz [] := zf
 have hO : Dk.Own w0 [] w0 [] := Dk.Own.refl w0
 refine S.enter tb Tryz.func80 rfl Tryz.ntmps80 rfl ?_ hO hm
 refine rw_ rfl fun a w hf hO hm => ?_
 refine zt zfm hf rfl hO fun a b1 w hf hO => ?_
 refine S.op tb ?_ hf hO hm
 refine cl c_126 rfl (fun r3 w hr3 hO => zmf x_s r3 _ (hG.own hF hO) hr3) fun r3 hr3 => ?_
 refine rw_ rfl fun a w hf hO hm => ?_
 refine zt zfm hf rfl hO fun a b4 w hf hO => ?_
 refine S.op tb ?_ hf hO hm
 refine rw_ rfl fun a w hf hO hm => ?_
 refine ze (i := 0) (n := 3) zP rfl rfl rfl (by simp [Value.oneCell']) hf rfl rfl hO fun w hO => ?_
 refine S.op tb ?_ hf hO hm
 refine vl rfl rfl (fun a w hf hO => zb (o := 0) zoP (hO.blkSees (i := 0) rfl) rfl hf rfl) ?_
 refine br rfl (fun hc7 => ?_) fun hc7 => ?_
 refine vl rfl rfl (fun a w hf hO => zn (o := 0) (vs := [int r3.Kind, str r3.Name, int r3.Port]) zci zP (hO.blkSees (i := 0) rfl) rfl rfl hf rfl) ?_
 refine rw_ rfl fun a w hf hO hm => ?_
 refine ze (i := 1) (n := 3) zP rfl rfl rfl (by simp [Value.oneCell']) hf rfl rfl hO fun w hO => ?_
 refine S.op tb ?_ hf hO hm
 refine re_ rfl fun a w hf hO hm => ?_
 obtain rfl := Option.some.inj hm
 exact zg Tryz.results80 hf (.cell rfl (zd (n := 3) (vs := [int r3.Kind, str r3.Name, int r3.Port]) zci zP rfl ((hO.blkSees (i := 1) rfl).cells (o := 0) (n := 3) rfl)) (.tmp rfl .nil)) ⟨rfl, hO.below⟩
 refine bi rfl fun i10 hi10 => ?_
 refine lp (fun k a w => ∃ (i12 : Int), Fits 45 [(0, str x_s), (2, ptr b1 0), (4, ptr b4 0), (5, int i12)] a ∧ Dk.Own w0 [] w [.blk b4 [int r3.Kind, str r3.Name, int r3.Port] 107, .blk b1 [int 0, str [], int 0] 107] ∧ zcb x_s k i12 = some R) rfl (fun a w hf hO hm => ⟨i10, hf.sel rfl, hO, hm⟩) ?_
 rintro n1 a w ⟨i12, hf, hO, hm⟩
 obtain _ | n1 := n1
 rw [zcb] at hm
 cases hm
 rw [zcb] at hm
 refine S.co tb ?_ hf hO hm
 refine br rfl (fun hc14 => ?_) fun hc14 => ?_
 refine bi rfl fun b16 hb16 => ?_
 refine vl rfl rfl (fun a w hf hO => zd2 (b := b16) (c := 58) hf rfl rfl) ?_
 refine br rfl (fun hc18 => ?_) fun hc18 => ?_
 refine bi rfl fun i35 hi35 => ?_
 exact en rfl fun a w hf hO hm => ⟨_, Nat.lt_succ_self _, i35, hf.sel rfl, hO, hm⟩
 refine bi rfl fun s20 hs20 => ?_
 refine cl c_126 rfl (fun r21 w hr21 hO => zmf s20 r21 _ (hG.own hF hO) hr21) fun r21 hr21 => ?_
 refine rw_ rfl fun a w hf hO hm => ?_
 refine ze (i := 0) (n := 3) zP rfl rfl rfl (by simp [Value.oneCell']) hf rfl rfl hO fun w hO => ?_
 refine S.op tb ?_ hf hO hm
 refine bi rfl fun i23 hi23 => ?_
 refine bi rfl fun s24 hs24 => ?_
 refine cl c_127 rfl (fun r25 w hr25 hO => zjL s24 65535 r25 _ (hG.own hF hO) hr25) fun r25 hr25 => ?_
 refine jn 6 (fun a w => ∃ (t28 : Bool), Fits 45 [(2, ptr b1 0), (4, ptr b4 0), (6, int r25), (39, .bool t28)] a ∧ Dk.Own w0 [] w [.blk b4 [int r21.Kind, str r21.Name, int r21.Port] 107, .blk b1 [int 0, str [], int 0] 107] ∧ zdN r21 r25 t28 = some R) rfl ?_ ?_
 refine vl rfl rfl (fun a w hf hO => zb (o := 0) zoP (hO.blkSees (i := 0) rfl) rfl hf rfl) ?_
 refine br rfl (fun hc27 => ?_) fun hc27 => ?_
 exact en rfl fun a w hf hO hm => ⟨true, hf.sel rfl, hO, hm⟩
 exact en rfl fun a w hf hO hm => ⟨decide (r25 < 0), hf.sel rfl, hO, hm⟩
 rintro a w ⟨t28, hf, hO, hm⟩
 rw [zdN] at hm
 refine S.co tb ?_ hf hO hm
 refine br rfl (fun hc29 => ?_) fun hc29 => ?_
 refine vl rfl rfl (fun a w hf hO => zj (vs := []) (v := .agg #[int 0, str [], int 0]) hf rfl (by kernel_rfl)) ?_
 refine rw_ rfl fun a w hf hO hm => ?_
 refine ze (i := 1) (n := 3) zP rfl rfl rfl (by simp [Value.oneCell']) hf rfl rfl hO fun w hO => ?_
 refine S.op tb ?_ hf hO hm
 refine re_ rfl fun a w hf hO hm => ?_
 obtain rfl := Option.some.inj hm
 exact zg Tryz.results80 hf (.cell rfl (zd (n := 3) (vs := [int 0, str [], int 0]) zci zP rfl ((hO.blkSees (i := 1) rfl).cells (o := 0) (n := 3) rfl)) (.tmp rfl .nil)) ⟨rfl, hO.below⟩
 refine rw_ rfl fun a w hf hO hm => ?_
 refine z6 (i := 0) (o := 2) (v := int r25) sz_3 rfl rfl rfl rfl hf rfl rfl hO fun w hO => ?_
 refine S.op tb ?_ hf hO hm
 refine vl rfl rfl (fun a w hf hO => zn (o := 0) (vs := [int r21.Kind, str r21.Name, int r25]) zci zP (hO.blkSees (i := 0) rfl) rfl rfl hf rfl) ?_
 refine rw_ rfl fun a w hf hO hm => ?_
 refine ze (i := 1) (n := 3) zP rfl rfl rfl (by simp [Value.oneCell']) hf rfl rfl hO fun w hO => ?_
 refine S.op tb ?_ hf hO hm
 refine re_ rfl fun a w hf hO hm => ?_
 obtain rfl := Option.some.inj hm
 exact zg Tryz.results80 hf (.cell rfl (zd (n := 3) (vs := [int r21.Kind, str r21.Name, int r25]) zci zP rfl ((hO.blkSees (i := 1) rfl).cells (o := 0) (n := 3) rfl)) (.tmp rfl .nil)) ⟨rfl, hO.below⟩
 refine vl rfl rfl (fun a w hf hO => zj (vs := []) (v := .agg #[int 0, str [], int 0]) hf rfl (by kernel_rfl)) ?_
 refine rw_ rfl fun a w hf hO hm => ?_
 refine ze (i := 1) (n := 3) zP rfl rfl rfl (by simp [Value.oneCell']) hf rfl rfl hO fun w hO => ?_
 refine S.op tb ?_ hf hO hm
 refine re_ rfl fun a w hf hO hm => ?_
 obtain rfl := Option.some.inj hm
 exact zg Tryz.results80 hf (.cell rfl (zd (n := 3) (vs := [int 0, str [], int 0]) zci zP rfl ((hO.blkSees (i := 1) rfl).cells (o := 0) (n := 3) rfl)) (.tmp rfl .nil)) ⟨rfl, hO.below⟩

theorem zor (x_s : Str) (R : Int) (w0 : World) (hG : zx w0) (hm : zgY x_s = some R) :
    Calls Tryz.prog 152 #[str x_s] w0 (Ret w0 (fun R => int R) R) := by
 rw [zgY] at hm
 have hF : zz [] := zf
 have hO : Dk.Own w0 [] w0 [] := Dk.Own.refl w0
 refine S.enter tb Tryz.func152 rfl Tryz.ntmps152 rfl ?_ hO hm
 refine lp (fun k a w => ∃ (i3 : Int), Fits 17 [(0, str x_s), (3, int i3)] a ∧ Dk.Own w0 [] w [] ∧ zbv x_s k i3 = some R) rfl (fun a w hf hO hm => ⟨0, hf.sel rfl, hO, hm⟩) ?_
 rintro n1 a w ⟨i3, hf, hO, hm⟩
 obtain _ | n1 := n1
 rw [zbv] at hm
 cases hm
 rw [zbv] at hm
 refine S.co tb ?_ hf hO hm
 refine jn 4 (fun a w => ∃ (t6 : Bool), Fits 17 [(0, str x_s), (3, int i3), (13, .bool t6)] a ∧ Dk.Own w0 [] w [] ∧ zey (zbv x_s n1) i3 t6 = some R) rfl ?_ ?_
 refine br rfl (fun hc4 => ?_) fun hc4 => ?_
 refine bi rfl fun b5 hb5 => ?_
 refine vl rfl rfl (fun a w hf hO => zd2 (b := b5) (c := 63) hf rfl rfl) ?_
 exact en rfl fun a w hf hO hm => ⟨!(b5 == 63), hf.sel rfl, hO, hm⟩
 exact en rfl fun a w hf hO hm => ⟨false, hf.sel rfl, hO, hm⟩
 rintro a w ⟨t6, hf, hO, hm⟩
 rw [zey] at hm
 refine S.co tb ?_ hf hO hm
 refine br rfl (fun hc7 => ?_) fun hc7 => ?_
 refine bi rfl fun i9 hi9 => ?_
 exact en rfl fun a w hf hO hm => ⟨_, Nat.lt_succ_self _, i9, hf.sel rfl, hO, hm⟩
 exact rt Tryz.results152 rfl

theorem zos (x_b : UInt8) (R : Bool) (w0 : World) (hG : zx w0) (hm : zgZ x_b = some R) :
    Calls Tryz.prog 179 #[z7 x_b] w0 (Ret w0 (fun R => .bool R) R) := by
 rw [zgZ] at hm
 have hF : zz [] := zf
 have hO : Dk.Own w0 [] w0 [] := Dk.Own.refl w0
 refine S.enter tb Tryz.func179 rfl Tryz.ntmps179 rfl ?_ hO hm
 refine jn 0 (fun a w => ∃ (t7 : Bool), Fits 17 [(2, .bool t7)] a ∧ Dk.Own w0 [] w [] ∧ zdj t7 = some R) rfl ?_ ?_
 refine cl c_184 rfl (fun r2 w hr2 hO => zgH x_b r2 _ (hG.own hF hO) hr2) fun r2 hr2 => ?_
 refine br rfl (fun hc3 => ?_) fun hc3 => ?_
 exact en rfl fun a w hf hO hm => ⟨true, hf.sel rfl, hO, hm⟩
 refine cl c_185 rfl (fun r4 w hr4 hO => zlh x_b r4 _ (hG.own hF hO) hr4) fun r4 hr4 => ?_
 refine br rfl (fun hc5 => ?_) fun hc5 => ?_
 exact en rfl fun a w hf hO hm => ⟨true, hf.sel rfl, hO, hm⟩
 refine vl rfl rfl (fun a w hf hO => zW (b := x_b) (c := 58) hf rfl rfl) ?_
 refine br rfl (fun hc6 => ?_) fun hc6 => ?_
 exact en rfl fun a w hf hO hm => ⟨true, hf.sel rfl, hO, hm⟩
 refine vl rfl rfl (fun a w hf hO => zW (b := x_b) (c := 64) hf rfl rfl) ?_
 exact en rfl fun a w hf hO hm => ⟨x_b == 64, hf.sel rfl, hO, hm⟩
 rintro a w ⟨t7, hf, hO, hm⟩
 rw [zdj] at hm
 refine S.co tb ?_ hf hO hm
 exact rt Tryz.results179 rfl

theorem zot (n0 : Nat) : ∀ (x_s : Str) (x_more : Str) (R : Bool) (w0 : World) (hG : zx w0) (hm : zc0 n0 x_s x_more = some R),
    Calls Tryz.prog 154 #[str x_s, str x_more] w0 (Ret w0 (fun R => .bool R) R) := by
  induction n0 with
  | zero => intro x_s x_more R w0 hG  hm; rw [zc0] at hm; cases hm
  | succ n0 ih =>
    intro x_s x_more R w0 hG  hm
    rw [zc0] at hm
    have hF : zz [] := zf
    have hO : Dk.Own w0 [] w0 [] := Dk.Own.refl w0
    refine S.enter tb Tryz.func154 rfl Tryz.ntmps154 rfl ?_ hO hm
    refine br rfl (fun hc3 => ?_) fun hc3 => ?_
    · exact rt Tryz.results154 rfl
    · refine bi rfl fun b6 hb6 => ?_
      refine vl rfl rfl (fun a w hf hO => zW (b := b6) (c := 37) hf rfl rfl) ?_
      refine br rfl (fun hc8 => ?_) fun hc8 => ?_
      · refine jn 1 (fun a w => ∃ (t18 : Bool), Fits 44 [(4, .bool t18)] a ∧ Dk.Own w0 [] w [] ∧ zcy t18 = some R) rfl ?_ ?_
        · refine br rfl (fun hc9 => ?_) fun hc9 => ?_
          · refine bi rfl fun b10 hb10 => ?_
            refine cl zpN rfl (fun r11 w hr11 hO => zf5 b10 r11 _ (hG.own hF hO) hr11) fun r11 hr11 => ?_
            refine br rfl (fun hc12 => ?_) fun hc12 => ?_
            · refine bi rfl fun b13 hb13 => ?_
              refine cl zpN rfl (fun r14 w hr14 hO => zf5 b13 r14 _ (hG.own hF hO) hr14) fun r14 hr14 => ?_
              refine br rfl (fun hc15 => ?_) fun hc15 => ?_
              · refine bi rfl fun s16 hs16 => ?_
                refine cl zpL rfl (fun r17 w hr17 hO => ih s16 x_more r17 _ (hG.own hF hO) hr17) fun r17 hr17 => ?_
                exact en rfl fun a w hf hO hm => ⟨r17, hf.sel rfl, hO, hm⟩
              · exact en rfl fun a w hf hO hm => ⟨false, hf.sel rfl, hO, hm⟩
            · exact en rfl fun a w hf hO hm => ⟨false, hf.sel rfl, hO, hm⟩
          · exact en rfl fun a w hf hO hm => ⟨false, hf.sel rfl, hO, hm⟩
        · rintro a w ⟨t18, hf, hO, hm⟩
          rw [zcy] at hm
          refine S.co tb ?_ hf hO hm
          exact rt Tryz.results154 rfl
      · refine jn 0 (fun a w => ∃ (t30 : Bool), Fits 44 [(4, .bool t30)] a ∧ Dk.Own w0 [] w [] ∧ ze0 t30 = some R) rfl ?_ ?_
        · refine bi rfl fun b20 hb20 => ?_
          refine cl c_179 rfl (fun r21 w hr21 hO => zos b20 r21 _ (hG.own hF hO) hr21) fun r21 hr21 => ?_
          refine br rfl (fun hc22 => ?_) fun hc22 => ?_
          · refine bi rfl fun s23 hs23 => ?_
            refine cl zpL rfl (fun r24 w hr24 hO => ih s23 x_more r24 _ (hG.own hF hO) hr24) fun r24 hr24 => ?_
            exact en rfl fun a w hf hO hm => ⟨r24, hf.sel rfl, hO, hm⟩
          · refine bi rfl fun b25 hb25 => ?_
            refine cl znY rfl (fun r26 w hr26 hO => zfz b25 x_more r26 _ (hG.own hF hO) hr26) fun r26 hr26 => ?_
            refine br rfl (fun hc27 => ?_) fun hc27 => ?_
            · refine bi rfl fun s28 hs28 => ?_
              refine cl zpL rfl (fun r29 w hr29 hO => ih s28 x_more r29 _ (hG.own hF hO) hr29) fun r29 hr29 => ?_
              exact en rfl fun a w hf hO hm => ⟨r29, hf.sel rfl, hO, hm⟩
            · exact en rfl fun a w hf hO hm => ⟨false, hf.sel rfl, hO, hm⟩
        · rintro a w ⟨t30, hf, hO, hm⟩
          rw [ze0] at hm
          refine S.co tb ?_ hf hO hm
          exact rt Tryz.results154 rfl
theorem zmg (x_s : Str) (x_more : Str) (R : Bool) (w0 : World) (hG : zx w0) (hm : ziY x_s x_more = some R) :
    Calls Tryz.prog 154 #[str x_s, str x_more] w0 (Ret w0 (fun R => .bool R) R) :=
  zot fuel x_s x_more R w0 hG  hm

theorem zke (x_s : Str) (R : Bool) (w0 : World) (hG : zx w0) (hm : zg0 x_s = some R) :
    Calls Tryz.prog 153 #[str x_s] w0 (Ret w0 (fun R => .bool R) R) := by
 rw [zg0] at hm
 have hF : zz [] := zf
 have hO : Dk.Own w0 [] w0 [] := Dk.Own.refl w0
 refine S.enter tb Tryz.func153 rfl Tryz.ntmps153 rfl ?_ hO hm
 refine jn 0 (fun a w => ∃ (t6 : Bool), Fits 15 [(2, .bool t6)] a ∧ Dk.Own w0 [] w [] ∧ zdk t6 = some R) rfl ?_ ?_
 refine br rfl (fun hc2 => ?_) fun hc2 => ?_
 refine bi rfl fun b3 hb3 => ?_
 refine vl rfl rfl (fun a w hf hO => zW (b := b3) (c := 47) hf rfl rfl) ?_
 refine br rfl (fun hc4 => ?_) fun hc4 => ?_
 refine cl zpL rfl (fun r5 w hr5 hO => zmg x_s [47] r5 _ (hG.own hF hO) hr5) fun r5 hr5 => ?_
 exact en rfl fun a w hf hO hm => ⟨r5, hf.sel rfl, hO, hm⟩
 exact en rfl fun a w hf hO hm => ⟨false, hf.sel rfl, hO, hm⟩
 exact en rfl fun a w hf hO hm => ⟨false, hf.sel rfl, hO, hm⟩
 rintro a w ⟨t6, hf, hO, hm⟩
 rw [zdk] at hm
 refine S.co tb ?_ hf hO hm
 exact rt Tryz.results153 rfl

end Go.Proofs
end
