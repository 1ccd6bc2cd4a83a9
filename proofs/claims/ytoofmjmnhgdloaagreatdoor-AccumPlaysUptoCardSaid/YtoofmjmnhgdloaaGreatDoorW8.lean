/-
  Walks, written by a program (wip/gen): what its model says, the function returns; what was there before is as it was.
  Walks, written by a program (wip/gen): what its model says, the function returns; what was there before is as it was.
  Walks, written by a program (wip/gen): what its model says, the function returns; what was there before is as it was.
  Walks, written by a program (wip/gen): what its model says, the function returns; what was there before is as it was.
-/
import Derived.Test.YtoofmjmnhgdloaaGreatDoorLib
import Derived.Test.YtoofmjmnhgdloaaGreatDoorW4
section
set_option linter.unusedVariables false
set_option maxHeartbeats 1000000
set_option linter.unusedSimpArgs false
set_option maxRecDepth 100000
namespace Go.Proofs
open Go.Dk Go.Dm Go.RowKit

theorem zhN (x_s : Str) (R : api_Field × Int) (w0 : World) (hG : zD w0) (hm : zb9 x_s = some R) :
    Calls Tryz.prog 33 #[str x_s] w0 (Ret w0 (fun R => .tuple #[.agg #[str R.1.Name, str R.1.Value], int R.2]) R) := by
 rw [zb9] at hm
 have hF : zG [] := zg
 have hO : Dk.Own w0 [] w0 [] := Dk.Own.refl w0
 refine S.enter tb Tryz.func33 rfl Tryz.ntmps33 rfl ?_ hO hm
 refine rw_ rfl fun a w hf hO hm => ?_
 refine zx zoD hf rfl hO fun a b1 w hf hO => ?_
 refine S.op tb ?_ hf hO hm
 refine cl c_52 rfl (fun r3 w hr3 hO => zf4 x_s [13, 10] r3 _ (hG.own hF hO) hr3) fun r3 hr3 => ?_
 refine br rfl (fun hc5 => ?_) fun hc5 => ?_
 refine vl rfl rfl (fun a w hf hO => zo (vs := []) (v := .agg #[str [], str []]) hf rfl (by kernel_rfl)) ?_
 refine rw_ rfl fun a w hf hO hm => ?_
 refine zd (i := 0) (n := 2) zbt rfl rfl rfl (by simp [Value.oneCell']) hf rfl rfl hO fun w hO => ?_
 refine S.op tb ?_ hf hO hm
 refine re_ rfl fun a w hf hO hm => ?_
 obtain rfl := Option.some.inj hm
 exact zf Tryz.results33 hf (.cell rfl (zc (n := 2) (vs := [str [], str []]) zf3 zbt rfl ((hO.blkSees (i := 0) rfl).cells (o := 0) (n := 2) rfl)) (.tmp rfl .nil)) ⟨rfl, hO.below⟩
 refine rw_ rfl fun a w hf hO hm => ?_
 obtain ⟨r8, hr8, hm⟩ := ob hm
 refine zv (zt c_57 hf (vs := [str x_s]) rfl) rfl hf rfl rfl (ziM x_s r8 _ (hG.own hF hO) hr8) ?_
 rintro e w' ⟨b9, he, hO'⟩
 refine ⟨_, he, fun a hf => ?_⟩
 have hO := hO.call hO' (by simp [Res.shared])
 refine S.op tb ?_ hf hO hm
 refine rw_ rfl fun a w hf hO hm => ?_
 obtain ⟨r11, hr11, hm⟩ := ob hm
 have hch12 := (show Dk.Own w0 [] _ ([.blk b9 [str r8.f_s, int r8.f_at] 139] ++ [.blk b1 [str [], str []] 69]) from hO)
 have hfar12 := Dk.Own.far hch12 rfl hF hG.size
 have hlend12 := hch12.lend (S := []) rfl trivial
 have hcl12 := zf1 r8 r11 _ (hG.own hF hO) hfar12 hlend12 hr11
 refine zv (zt c_58 hf (vs := [ptr b9 0]) rfl) rfl hf rfl rfl (hcl12) ?_
 rintro e w' ⟨he, hO'⟩
 refine ⟨_, he, fun a hf => ?_⟩
 have hO := hch12.back rfl hO' rfl
 refine S.op tb ?_ hf hO hm
 refine br rfl (fun hc14 => ?_) fun hc14 => ?_
 refine vl rfl rfl (fun a w hf hO => zo (vs := []) (v := .agg #[str [], str []]) hf rfl (by kernel_rfl)) ?_
 refine rw_ rfl fun a w hf hO hm => ?_
 refine zd (i := 1) (n := 2) zbt rfl rfl rfl (by simp [Value.oneCell']) hf rfl rfl hO fun w hO => ?_
 refine S.op tb ?_ hf hO hm
 refine re_ rfl fun a w hf hO hm => ?_
 obtain rfl := Option.some.inj hm
 exact zf Tryz.results33 hf (.cell rfl (zc (n := 2) (vs := [str [], str []]) zf3 zbt rfl ((hO.blkSees (i := 1) rfl).cells (o := 0) (n := 2) rfl)) (.tmp rfl .nil)) ⟨rfl, hO.below⟩
 refine rw_ rfl fun a w hf hO hm => ?_
 obtain ⟨r17, hr17, hm⟩ := ob hm
 have hch18 := (show Dk.Own w0 [] _ ([.blk b9 [str r11.2.f_s, int r11.2.f_at] 139] ++ [.blk b1 [str [], str []] 69]) from hO)
 have hfar18 := Dk.Own.far hch18 rfl hF hG.size
 have hlend18 := hch18.lend (S := []) rfl trivial
 have hcl18 := zgG r11.2 r17 _ (hG.own hF hO) hfar18 hlend18 hr17
 refine zv (zt c_59 hf (vs := [ptr b9 0]) rfl) rfl hf rfl rfl (hcl18) ?_
 rintro e w' ⟨he, hO'⟩
 refine ⟨_, he, fun a hf => ?_⟩
 have hO := hch18.back rfl hO' rfl
 refine S.op tb ?_ hf hO hm
 refine rw_ rfl fun a w hf hO hm => ?_
 obtain ⟨r20, hr20, hm⟩ := ob hm
 have hch21 := (show Dk.Own w0 [] _ ([.blk b9 [str r17.2.2.f_s, int r17.2.2.f_at] 139] ++ [.blk b1 [str [], str []] 69]) from hO)
 have hfar21 := Dk.Own.far hch21 rfl hF hG.size
 have hlend21 := hch21.lend (S := []) rfl trivial
 have hcl21 := zf1 r17.2.2 r20 _ (hG.own hF hO) hfar21 hlend21 hr20
 refine zv (zt c_58 hf (vs := [ptr b9 0]) rfl) rfl hf rfl rfl (hcl21) ?_
 rintro e w' ⟨he, hO'⟩
 refine ⟨_, he, fun a hf => ?_⟩
 have hO := hch21.back rfl hO' rfl
 refine S.op tb ?_ hf hO hm
 refine jn 2 (fun a w => ∃ (t26 : Bool) (s27 : Str) (i28 : Int), Fits 49 [(2, ptr b1 0), (4, ptr b9 0), (5, str r17.1), (7, str r20.1), (24, .bool t26)] a ∧ Dk.Own w0 [] w [.blk b9 [str s27, int i28] 139, .blk b1 [str [], str []] 69] ∧ zcD r17 r20 t26 s27 i28 = some R) rfl ?_ ?_
 refine br rfl (fun hc23 => ?_) fun hc23 => ?_
 exact en rfl fun a w hf hO hm => ⟨true, r20.2.f_s, r20.2.f_at, hf.sel rfl, hO, hm⟩
 refine rw_ rfl fun a w hf hO hm => ?_
 obtain ⟨r24, hr24, hm⟩ := ob hm
 have hch25 := (show Dk.Own w0 [] _ ([.blk b9 [str r20.2.f_s, int r20.2.f_at] 139] ++ [.blk b1 [str [], str []] 69]) from hO)
 have hfar25 := Dk.Own.far hch25 rfl hF hG.size
 have hlend25 := hch25.lend (S := []) rfl trivial
 have hcl25 := zaR r20.2 58 r24 _ (hG.own hF hO) hfar25 hlend25 hr24
 refine zv (zt zrc hf (vs := [ptr b9 0, zY 58]) rfl) rfl hf rfl rfl (hcl25) ?_
 rintro e w' ⟨he, hO'⟩
 refine ⟨_, he, fun a hf => ?_⟩
 have hO := hch25.back rfl hO' rfl
 refine S.op tb ?_ hf hO hm
 refine kn (b' := false) hc23 rfl ?_
 exact en rfl fun a w hf hO hm => ⟨!r24.1, r24.2.f_s, r24.2.f_at, hf.sel rfl, hO, hm⟩
 rintro a w ⟨t26, s27, i28, hf, hO, hm⟩
 rw [zcD] at hm
 refine S.co tb ?_ hf hO hm
 refine br rfl (fun hc29 => ?_) fun hc29 => ?_
 refine vl rfl rfl (fun a w hf hO => zo (vs := []) (v := .agg #[str [], str []]) hf rfl (by kernel_rfl)) ?_
 refine rw_ rfl fun a w hf hO hm => ?_
 refine zd (i := 1) (n := 2) zbt rfl rfl rfl (by simp [Value.oneCell']) hf rfl rfl hO fun w hO => ?_
 refine S.op tb ?_ hf hO hm
 refine re_ rfl fun a w hf hO hm => ?_
 obtain rfl := Option.some.inj hm
 exact zf Tryz.results33 hf (.cell rfl (zc (n := 2) (vs := [str [], str []]) zf3 zbt rfl ((hO.blkSees (i := 1) rfl).cells (o := 0) (n := 2) rfl)) (.tmp rfl .nil)) ⟨rfl, hO.below⟩
 refine br rfl (fun hc32 => ?_) fun hc32 => ?_
 refine vl rfl rfl (fun a w hf hO => zo (vs := []) (v := .agg #[str [], str []]) hf rfl (by kernel_rfl)) ?_
 refine rw_ rfl fun a w hf hO hm => ?_
 refine zd (i := 1) (n := 2) zbt rfl rfl rfl (by simp [Value.oneCell']) hf rfl rfl hO fun w hO => ?_
 refine S.op tb ?_ hf hO hm
 refine re_ rfl fun a w hf hO hm => ?_
 obtain rfl := Option.some.inj hm
 exact zf Tryz.results33 hf (.cell rfl (zc (n := 2) (vs := [str [], str []]) zf3 zbt rfl ((hO.blkSees (i := 1) rfl).cells (o := 0) (n := 2) rfl)) (.tmp rfl .nil)) ⟨rfl, hO.below⟩
 refine cl c_63 rfl (fun r34 w hr34 hO => zbz (⟨s27, i28⟩ : scan_Scanner) r34 _ (hG.own hF hO) (hO.blkSees (i := 0) rfl) hr34) fun r34 hr34 => ?_
 refine rw_ rfl fun a w hf hO hm => ?_
 refine zS (vs := [(0, str r34)]) (cs := [str r34]) (e := 9) (sz := 1) hf rfl rfl (fun w => by kernel_rfl) rfl rfl hO fun a b35 w hf hO => ?_
 refine S.op tb ?_ hf hO hm
 refine cl c_61 rfl (fun r36 w hr36 hO => zfx zcp ([r34] : List Str) r36 _ (hG.own hF hO) c_62 (fun y0 r w hG h => zh4 (ziW y0 r w hG h)) (hO.rowSees (i := 0) rfl) (hO.rowCap (i := 0) rfl) hr36) fun r36 hr36 => ?_
 refine br rfl (fun hc38 => ?_) fun hc38 => ?_
 refine vl rfl rfl (fun a w hf hO => zo (vs := []) (v := .agg #[str [], str []]) hf rfl (by kernel_rfl)) ?_
 refine rw_ rfl fun a w hf hO hm => ?_
 refine zd (i := 2) (n := 2) zbt rfl rfl rfl (by simp [Value.oneCell']) hf rfl rfl hO fun w hO => ?_
 refine S.op tb ?_ hf hO hm
 refine re_ rfl fun a w hf hO hm => ?_
 obtain rfl := Option.some.inj hm
 exact zf Tryz.results33 hf (.cell rfl (zc (n := 2) (vs := [str [], str []]) zf3 zbt rfl ((hO.blkSees (i := 2) rfl).cells (o := 0) (n := 2) rfl)) (.tmp rfl .nil)) ⟨rfl, hO.below⟩
 refine cl c_63 rfl (fun r41 w hr41 hO => zbz (⟨s27, i28⟩ : scan_Scanner) r41 _ (hG.own hF hO) (hO.blkSees (i := 1) rfl) hr41) fun r41 hr41 => ?_
 refine cl c_64 rfl (fun r42 w hr42 hO => zmV r41 [32, 9] r42 _ (hG.own hF hO) hr42) fun r42 hr42 => ?_
 refine vl rfl rfl (fun a w hf hO => zo (vs := [(0, str r17.1), (1, str r42)]) (v := .agg #[str r17.1, str r42]) hf rfl (by kernel_rfl)) ?_
 refine rw_ rfl fun a w hf hO hm => ?_
 refine zd (i := 2) (n := 2) zbt rfl rfl rfl (by simp [Value.oneCell']) hf rfl rfl hO fun w hO => ?_
 refine S.op tb ?_ hf hO hm
 refine re_ rfl fun a w hf hO hm => ?_
 obtain rfl := Option.some.inj hm
 exact zf Tryz.results33 hf (.cell rfl (zc (n := 2) (vs := [str r17.1, str r42]) zf3 zbt rfl ((hO.blkSees (i := 2) rfl).cells (o := 0) (n := 2) rfl)) (.tmp rfl .nil)) ⟨rfl, hO.below⟩

theorem zch (x_s : List api_Field) (R : List api_Field) (w0 : World) (hG : zD w0) {x_s_p0 : Option Addr} {x_s_c0 : Nat} (hs0 : zaw w0 x_s_p0 (cells za x_s)) (hc0 : x_s.length ≤ x_s_c0) (hm : zM x_s = some R) :
    Calls Tryz.prog 146 #[.slice x_s_p0 x_s.length x_s_c0] w0 fun e w' => ∃ (p0 : Option Addr) (c0 : Nat), e = .returned (.slice p0 R.length c0) ∧ Dk.Own w0 [] w' [.row (.slice p0 R.length c0) 69 2 R.length (cells za R)] := by
 rw [zM] at hm
 have hF : zG [] := zg
 have hO : Dk.Own w0 [] w0 [] := Dk.Own.refl w0
 have hO := hO.addShr hs0 (by simp [Res.shared])
 refine S.enter tb Tryz.func146 rfl Tryz.ntmps146 rfl ?_ hO hm
 refine nl 69 2 ?_
 refine vl rfl rfl (fun a w hf hO => zso (ad := x_s_p0) Tryz.underlying33 hf rfl rfl) ?_
 refine rc_ rfl fun a w hf hO hm => ?_
 rcases zbN (x_s_p0.isNone) with hc3 | hc3
 have hxhc3 : x_s = [] := zsp (enc := za) (sz := 2) (fun _ => rfl) (by decide) (hO.sees (i := 1) rfl) hc3
 rw [hxhc3] at hm
 have hm : some [] = some R := by first | exact hm | (rw [hxhc3]; exact hm) | simpa [hxhc3] using hm
 refine zsq hf rfl hc3 ?_
 refine S.co tb ?_ hf hO hm
 refine nl 69 2 ?_
 refine re_ rfl fun a w hf hO hm => ?_
 obtain rfl := Option.some.inj hm
 exact zf Tryz.results146 hf (.tmp rfl .nil) ⟨none, 0, rfl, (hO.sub (.cons_cons _ (.cons _ (.cons _ .slnil))))⟩
 refine zsr hf rfl hc3 ?_
 refine S.co tb ?_ hf hO hm
 refine rw_ rfl fun a w hf hO hm => ?_
 refine zS (vs := []) (cs := []) (e := 69) (sz := 2) hf rfl rfl (fun w => by kernel_rfl) rfl rfl hO fun a b6 w hf hO => ?_
 refine S.op tb ?_ hf hO hm
 refine rw_ rfl fun a w hf hO hm => ?_
 obtain ⟨hg9, hm⟩ := og hm
 refine znt zrG (enc := za) (xs := []) (ys := x_s) (i := 0) (fun _ => rfl) rfl (hO.sees (i := 2) rfl) (by simp [za, Value.oneCell']) hg9 hf rfl rfl rfl hO fun a p7 c8 w hf hO => ?_
 refine S.op tb ?_ hf hO hm
 refine re_ rfl fun a w hf hO hm => ?_
 obtain rfl := Option.some.inj hm
 exact zf Tryz.results146 hf (.tmp rfl .nil) ⟨p7, c8, rfl, (hO.sub (.cons_cons _ (.cons _ (.cons _ .slnil))))⟩

theorem zr9 (x_l : List api_Field) (R : bag_Bag) (w0 : World) (hG : zD w0) {x_l_p0 : Option Addr} {x_l_c0 : Nat} (hs0 : zaw w0 x_l_p0 (cells za x_l)) (hc0 : x_l.length ≤ x_l_c0) (hm : zmx x_l = some R) :
    Calls Tryz.prog 110 #[.slice x_l_p0 x_l.length x_l_c0] w0 fun e w' => ∃ (b0 : Nat) (p1 : Option Addr) (c1 : Nat), e = .returned (ptr b0 0) ∧ Dk.Own w0 [] w' [.blk b0 [.slice p1 R.f_l.length c1] 177, .row (.slice p1 R.f_l.length c1) 69 2 R.f_l.length (cells za R.f_l)] := by
 rw [zmx] at hm
 have hF : zG [] := zg
 have hO : Dk.Own w0 [] w0 [] := Dk.Own.refl w0
 have hO := hO.addShr hs0 (by simp [Res.shared])
 refine S.enter tb Tryz.func110 rfl Tryz.ntmps110 rfl ?_ hO hm
 refine rw_ rfl fun a w hf hO hm => ?_
 obtain ⟨r2, hr2, hm⟩ := ob hm
 refine zv (zt c_146 hf (vs := [.slice x_l_p0 x_l.length x_l_c0]) rfl) rfl hf rfl rfl (zch x_l r2 _ (hG.own hF hO) (hO.sees (i := 0) rfl) hc0 hr2) ?_
 rintro e w' ⟨p3, c4, he, hO'⟩
 refine ⟨_, he, fun a hf => ?_⟩
 have hO := hO.call hO' (by simp [Res.shared])
 refine S.op tb ?_ hf hO hm
 refine vl rfl rfl (fun a w hf hO => zo (vs := [(0, .slice p3 r2.length c4)]) (v := .agg #[.slice p3 r2.length c4]) hf rfl (by kernel_rfl)) ?_
 refine rw_ rfl fun a w hf hO hm => ?_
 refine zeA (v := .agg #[.slice p3 r2.length c4]) (cs := [.slice p3 r2.length c4]) rfl hf rfl rfl hO fun a b5 w hf hO => ?_
 refine S.op tb ?_ hf hO hm
 refine re_ rfl fun a w hf hO hm => ?_
 obtain rfl := Option.some.inj hm
 exact zf Tryz.results110 hf (.tmp rfl .nil) ⟨b5, p3, c4, rfl, (hO.sub (.cons_cons _ (.cons_cons _ (.cons _ .slnil))))⟩

theorem zno (x_b : bag_Bag) (R : List api_Field) (w0 : World) (hG : zD w0) {x_b_b0 : Nat} {x_b_p1 : Option Addr} {x_b_c1 : Nat} (hs0 : zaw w0 (some ⟨x_b_b0, 0, none⟩) [.slice x_b_p1 x_b.f_l.length x_b_c1]) (hs1 : zaw w0 x_b_p1 (cells za x_b.f_l)) (hc1 : x_b.f_l.length ≤ x_b_c1) (hm : zgU x_b = some R) :
    Calls Tryz.prog 147 #[ptr x_b_b0 0] w0 fun e w' => ∃ (p0 : Option Addr) (c0 : Nat), e = .returned (.slice p0 R.length c0) ∧ Dk.Own w0 [] w' [.row (.slice p0 R.length c0) 69 2 R.length (cells za R)] := by
 rw [zgU] at hm
 have hF : zG [] := zg
 have hO : Dk.Own w0 [] w0 [] := Dk.Own.refl w0
 have hO := hO.addShr hs0 (by simp [Res.shared])
 have hO := hO.addShr hs1 (by simp [Res.shared])
 refine S.enter tb Tryz.func147 rfl Tryz.ntmps147 rfl ?_ hO hm
 refine nl 69 2 ?_
 refine vl rfl rfl (fun a w hf hO => zdo Tryz.underlying149 hf rfl rfl) ?_
 refine kn (b' := false) rfl rfl ?_
 refine vl rfl rfl (fun a w hf hO => zb (o := 0) zkf (hO.sees (i := 2) rfl) rfl hf rfl) ?_
 refine rw_ rfl fun a w hf hO hm => ?_
 obtain ⟨r4, hr4, hm⟩ := ob hm
 refine zv (zt c_146 hf (vs := [.slice x_b_p1 x_b.f_l.length x_b_c1]) rfl) rfl hf rfl rfl (zch x_b.f_l r4 _ (hG.own hF hO) (hO.sees (i := 1) rfl) hc1 hr4) ?_
 rintro e w' ⟨p5, c6, he, hO'⟩
 refine ⟨_, he, fun a hf => ?_⟩
 have hO := hO.call hO' (by simp [Res.shared])
 refine S.op tb ?_ hf hO hm
 refine re_ rfl fun a w hf hO hm => ?_
 obtain rfl := Option.some.inj hm
 exact zf Tryz.results147 hf (.tmp rfl .nil) ⟨p5, c6, rfl, (hO.sub (.cons_cons _ (.cons _ (.cons _ (.cons _ .slnil)))))⟩

theorem zpk (x_a : Str) (x_b : Str) (R : Bool) (w0 : World) (hG : zD w0) (hm : zhj x_a x_b = some R) :
    Calls Tryz.prog 148 #[str x_a, str x_b] w0 (Ret w0 (fun R => .bool R) R) := by
 rw [zhj] at hm
 have hF : zG [] := zg
 have hO : Dk.Own w0 [] w0 [] := Dk.Own.refl w0
 refine S.enter tb Tryz.func148 rfl Tryz.ntmps148 rfl ?_ hO hm
 refine cl ztA rfl (fun r2 w hr2 hO => zix x_a r2 _ (hG.own hF hO) hr2) fun r2 hr2 => ?_
 refine cl ztA rfl (fun r3 w hr3 hO => zix x_b r3 _ (hG.own hF hO) hr3) fun r3 hr3 => ?_
 exact rt Tryz.results148 rfl

theorem zly (x_b : bag_Bag) (x_name : Str) (R : List Str) (w0 : World) (hG : zD w0) {x_b_b0 : Nat} {x_b_p1 : Option Addr} {x_b_c1 : Nat} (hs0 : zaw w0 (some ⟨x_b_b0, 0, none⟩) [.slice x_b_p1 x_b.f_l.length x_b_c1]) (hs1 : zaw w0 x_b_p1 (cells za x_b.f_l)) (hc1 : x_b.f_l.length ≤ x_b_c1) (hm : zed x_b x_name = some R) :
    Calls Tryz.prog 111 #[ptr x_b_b0 0, str x_name] w0 fun e w' => ∃ (p0 : Option Addr) (c0 : Nat), e = .returned (.slice p0 R.length c0) ∧ Dk.Own w0 [] w' [.row (.slice p0 R.length c0) 9 1 R.length (cells zj R)] := by
 rw [zed] at hm
 have hF : zG [] := zg
 have hO : Dk.Own w0 [] w0 [] := Dk.Own.refl w0
 have hO := hO.addShr hs0 (by simp [Res.shared])
 have hO := hO.addShr hs1 (by simp [Res.shared])
 refine S.enter tb Tryz.func111 rfl Tryz.ntmps111 rfl ?_ hO hm
 refine nl 9 1 ?_
 refine nl 9 1 ?_
 refine rw_ rfl fun a w hf hO hm => ?_
 obtain ⟨r3, hr3, hm⟩ := ob hm
 refine zv (zt c_147 hf (vs := [ptr x_b_b0 0]) rfl) rfl hf rfl rfl (zno x_b r3 _ (hG.own hF hO) (hO.sees (i := 3) rfl) (hO.sees (i := 2) rfl) hc1 hr3) ?_
 rintro e w' ⟨p4, c5, he, hO'⟩
 refine ⟨_, he, fun a hf => ?_⟩
 have hO := hO.call hO' (by simp [Res.shared])
 refine S.op tb ?_ hf hO hm
 refine lp (fun k a w => ∃ (p7 : Option Addr) (c8 : Nat) (l9 : List Str) (i10 : Int), Fits 26 [(1, str x_name), (5, .slice p7 l9.length c8), (9, .slice p4 r3.length c5), (10, int (r3.length : Int)), (11, int i10)] a ∧ Dk.Own w0 [] w [.row (.slice p4 r3.length c5) 69 2 r3.length (cells za r3), .row (.slice p7 l9.length c8) 9 1 l9.length (cells zj l9), .row (.slice none 0 0) 9 1 0 (cells zj []), .shr x_b_p1 (cells za x_b.f_l), .shr (some ⟨x_b_b0, 0, none⟩) ([.slice x_b_p1 x_b.f_l.length x_b_c1])] ∧ zaD x_name r3 k l9 i10 = some R) rfl (fun a w hf hO hm => ⟨none, 0, [], 0, hf.sel rfl, hO, hm⟩) ?_
 rintro n1 a w ⟨p7, c8, l9, i10, hf, hO, hm⟩
 obtain _ | n1 := n1
 rw [zaD] at hm
 cases hm
 rw [zaD] at hm
 refine S.co tb ?_ hf hO hm
 refine br rfl (fun hc12 => ?_) fun hc12 => ?_
 refine jn 3 (fun a w => ∃ (p26 : Option Addr) (c27 : Nat) (l28 : List Str), Fits 26 [(1, str x_name), (5, .slice p26 l28.length c27), (9, .slice p4 r3.length c5), (10, int (r3.length : Int)), (11, int i10)] a ∧ Dk.Own w0 [] w [.row (.slice p4 r3.length c5) 69 2 r3.length (cells za r3), .row (.slice p26 l28.length c27) 9 1 l28.length (cells zj l28), .row (.slice none 0 0) 9 1 0 (cells zj []), .shr x_b_p1 (cells za x_b.f_l), .shr (some ⟨x_b_b0, 0, none⟩) ([.slice x_b_p1 x_b.f_l.length x_b_c1])] ∧ zcV (zaD x_name r3 n1) i10 l28 = some R) rfl ?_ ?_
 refine rw_ rfl fun a w hf hO hm => ?_
 obtain ⟨x14, hx14, hm⟩ := ob hm
 obtain ⟨b15, o16, hix14, hSx14, hAx14⟩ := zae (enc := za) (sz := 2) (xs := r3) 33 Tryz.underlying33 zbt (by decide) (fun _ => rfl) hO (i := 0) rfl hx14
 refine zaL (zw hix14 hf rfl rfl) rfl hf rfl rfl fun a hf => ?_
 refine S.op tb ?_ hf hO hm
 refine vl rfl rfl (fun a w hf hO => zu (o := 0) (vs := [str x14.Name, str x14.Value]) zf3 zbt (hSx14 _ (hO.rowSees (i := 0) rfl)) rfl rfl hf rfl) ?_
 refine rw_ rfl fun a w hf hO hm => ?_
 refine zx zoD hf rfl hO fun a b17 w hf hO => ?_
 refine S.op tb ?_ hf hO hm
 refine rw_ rfl fun a w hf hO hm => ?_
 refine zd (i := 0) (n := 2) zbt rfl rfl rfl (by simp [Value.oneCell']) hf rfl rfl hO fun w hO => ?_
 refine S.op tb ?_ hf hO hm
 refine vl rfl rfl (fun a w hf hO => zb (o := 0) za6 (hO.blkSees (i := 0) rfl) rfl hf rfl) ?_
 refine cl c_148 rfl (fun r19 w hr19 hO => zpk x14.Name x_name r19 _ (hG.own hF hO) hr19) fun r19 hr19 => ?_
 refine br rfl (fun hc21 => ?_) fun hc21 => ?_
 refine vl rfl rfl (fun a w hf hO => zb (o := 1) za6 (hO.blkSees (i := 0) rfl) rfl hf rfl) ?_
 refine rw_ rfl fun a w hf hO hm => ?_
 refine zS (vs := [(0, str x14.Value)]) (cs := [str x14.Value]) (e := 9) (sz := 1) hf rfl rfl (fun w => by kernel_rfl) rfl rfl hO fun a b22 w hf hO => ?_
 refine S.op tb ?_ hf hO hm
 refine rw_ rfl fun a w hf hO hm => ?_
 obtain ⟨hg25, hm⟩ := og hm
 refine zdD zoE (enc := zj) (xs := l9) (ys := ([x14.Value] : List Str)) (i := 3) (fun _ => rfl) rfl (hO.rowSees (i := 0) rfl) (by simp [cells, zj, Value.oneCell']) hg25 hf rfl rfl rfl hO fun a p23 c24 w hf hO => ?_
 refine S.op tb ?_ hf hO hm
 exact en rfl fun a w hf hO hm => ⟨p23, c24, l9 ++ ([x14.Value] : List Str), hf.sel rfl, (hO.sub (.cons _ (.cons _ (.cons_cons _ (.cons_cons _ (.cons_cons _ (.cons_cons _ (.cons_cons _ .slnil)))))))), hm⟩
 exact en rfl fun a w hf hO hm => ⟨p7, c8, l9, hf.sel rfl, (hO.sub (.cons _ (.cons_cons _ (.cons_cons _ (.cons_cons _ (.cons_cons _ (.cons_cons _ .slnil))))))), hm⟩
 rintro a w ⟨p26, c27, l28, hf, hO, hm⟩
 rw [zcV] at hm
 refine S.co tb ?_ hf hO hm
 refine bi rfl fun i29 hi29 => ?_
 exact en rfl fun a w hf hO hm => ⟨_, Nat.lt_succ_self _, p26, c27, l28, i29, hf.sel rfl, hO, hm⟩
 refine re_ rfl fun a w hf hO hm => ?_
 obtain rfl := Option.some.inj hm
 exact zf Tryz.results111 hf (.tmp rfl .nil) ⟨p7, c8, rfl, (hO.sub (.cons _ (.cons_cons _ (.cons _ (.cons _ (.cons _ .slnil))))))⟩

theorem zpl (x_h : api_Head) (R : Bool) (w0 : World) (hG : zbB w0) {x_h_p0 : Option Addr} {x_h_c0 : Nat} (hs0 : zaw w0 x_h_p0 (cells za x_h.Fields)) (hc0 : x_h.Fields.length ≤ x_h_c0) (hm : zhk x_h = some R) :
    Calls Tryz.prog 65 #[.agg #[int x_h.Kind, str x_h.Method, str x_h.Target, int x_h.Code, str x_h.Reason, int x_h.Minor, .slice x_h_p0 x_h.Fields.length x_h_c0]] w0 (Ret w0 (fun R => .bool R) R) := by
 rw [zhk] at hm
 have hF : zG [] := zg
 have hO : Dk.Own w0 [] w0 [] := Dk.Own.refl w0
 have hO := hO.addShr hs0 (by simp [Res.shared])
 refine S.enter tb Tryz.func65 rfl Tryz.ntmps65 rfl ?_ hO hm
 refine rw_ rfl fun a w hf hO hm => ?_
 refine zeA (v := .agg #[int x_h.Kind, str x_h.Method, str x_h.Target, int x_h.Code, str x_h.Reason, int x_h.Minor, .slice x_h_p0 x_h.Fields.length x_h_c0]) (cs := [int x_h.Kind, str x_h.Method, str x_h.Target, int x_h.Code, str x_h.Reason, int x_h.Minor, .slice x_h_p0 x_h.Fields.length x_h_c0]) rfl hf rfl rfl hO fun a b1 w hf hO => ?_
 refine S.op tb ?_ hf hO hm
 refine vl rfl rfl (fun a w hf hO => zb (o := 0) znu (hO.blkSees (i := 0) rfl) rfl hf rfl) ?_
 refine br rfl (fun hc4 => ?_) fun hc4 => ?_
 exact rt Tryz.results65 rfl
 refine vl rfl rfl (fun a w hf hO => zb (o := 6) zkf (hO.blkSees (i := 0) rfl) rfl hf rfl) ?_
 refine rw_ rfl fun a w hf hO hm => ?_
 obtain ⟨r7, hr7, hm⟩ := ob hm
 refine zv (zt c_110 hf (vs := [.slice x_h_p0 x_h.Fields.length x_h_c0]) rfl) rfl hf rfl rfl (zr9 x_h.Fields r7 _ (hG.own hF hO).1 (hO.sees (i := 1) rfl) hc0 hr7) ?_
 rintro e w' ⟨b8, p9, c10, he, hO'⟩
 refine ⟨_, he, fun a hf => ?_⟩
 have hO := hO.call hO' (by simp [Res.shared])
 refine S.op tb ?_ hf hO hm
 refine rw_ rfl fun a w hf hO hm => ?_
 obtain ⟨r11, hr11, hm⟩ := ob hm
 refine zv (zt c_111 hf (vs := [ptr b8 0, str [72, 111, 115, 116]]) rfl) rfl hf rfl rfl (zly r7 [72, 111, 115, 116] r11 _ (hG.own hF hO).1 (hO.blkSees (i := 0) rfl) (hO.rowSees (i := 1) rfl) (hO.rowCap (i := 1) rfl) hr11) ?_
 rintro e w' ⟨p12, c13, he, hO'⟩
 refine ⟨_, he, fun a hf => ?_⟩
 have hO := hO.call hO' (by simp [Res.shared])
 refine S.op tb ?_ hf hO hm
 refine jn 1 (fun a w => ∃ (t16 : Bool), Fits 43 [(3, .slice p12 r11.length c13), (24, .bool t16)] a ∧ Dk.Own w0 [] w [.row (.slice p12 r11.length c13) 9 1 r11.length (cells zj r11), .blk b8 [.slice p9 r7.f_l.length c10] 177, .row (.slice p9 r7.f_l.length c10) 69 2 r7.f_l.length (cells za r7.f_l), .blk b1 [int x_h.Kind, str x_h.Method, str x_h.Target, int x_h.Code, str x_h.Reason, int x_h.Minor, .slice x_h_p0 x_h.Fields.length x_h_c0] 35, .shr x_h_p0 (cells za x_h.Fields)] ∧ zc7 r11 t16 = some R) rfl ?_ ?_
 refine br rfl (fun hc15 => ?_) fun hc15 => ?_
 exact en rfl fun a w hf hO hm => ⟨true, hf.sel rfl, hO, hm⟩
 refine vl rfl rfl (fun a w hf hO => zb (o := 5) zfz (hO.blkSees (i := 3) rfl) rfl hf rfl) ?_
 exact en rfl fun a w hf hO hm => ⟨decide ((r11.length : Int) < x_h.Minor), hf.sel rfl, hO, hm⟩
 rintro a w ⟨t16, hf, hO, hm⟩
 rw [zc7] at hm
 refine S.co tb ?_ hf hO hm
 refine br rfl (fun hc17 => ?_) fun hc17 => ?_
 exact rt Tryz.results65 rfl
 refine lp (fun k a w => ∃ (i21 : Int), Fits 43 [(25, .slice p12 r11.length c13), (26, int (r11.length : Int)), (27, int i21)] a ∧ Dk.Own w0 [] w [.row (.slice p12 r11.length c13) 9 1 r11.length (cells zj r11), .blk b8 [.slice p9 r7.f_l.length c10] 177, .row (.slice p9 r7.f_l.length c10) 69 2 r7.f_l.length (cells za r7.f_l), .blk b1 [int x_h.Kind, str x_h.Method, str x_h.Target, int x_h.Code, str x_h.Reason, int x_h.Minor, .slice x_h_p0 x_h.Fields.length x_h_c0] 35, .shr x_h_p0 (cells za x_h.Fields)] ∧ zbO r11 k i21 = some R) rfl (fun a w hf hO hm => ⟨0, hf.sel rfl, hO, hm⟩) ?_
 rintro n2 a w ⟨i21, hf, hO, hm⟩
 obtain _ | n2 := n2
 rw [zbO] at hm
 cases hm
 rw [zbO] at hm
 refine S.co tb ?_ hf hO hm
 refine br rfl (fun hc23 => ?_) fun hc23 => ?_
 refine rw_ rfl fun a w hf hO hm => ?_
 obtain ⟨x25, hx25, hm⟩ := ob hm
 obtain ⟨b26, o27, hix25, hSx25, hAx25⟩ := zae (enc := zj) (sz := 1) (xs := r11) 31 Tryz.underlying31 zeB (by decide) (fun _ => rfl) hO (i := 0) rfl hx25
 refine zaL (zw hix25 hf rfl rfl) rfl hf rfl rfl fun a hf => ?_
 refine S.op tb ?_ hf hO hm
 refine vl rfl rfl (fun a w hf hO => zb (o := 0) za6 (hSx25 _ (hO.rowSees (i := 0) rfl)) rfl hf rfl) ?_
 refine cl ztx rfl (fun r29 w hr29 hO => zf9 x25 r29 _ (hG.own hF hO) hr29) fun r29 hr29 => ?_
 refine rw_ rfl fun a w hf hO hm => ?_
 refine zx zfU hf rfl hO fun a b30 w hf hO => ?_
 refine S.op tb ?_ hf hO hm
 refine rw_ rfl fun a w hf hO hm => ?_
 refine zd (i := 0) (n := 3) zW rfl rfl rfl (by simp [Value.oneCell']) hf rfl rfl hO fun w hO => ?_
 refine S.op tb ?_ hf hO hm
 refine jn 5 (fun a w => ∃ (t33 : Bool), Fits 43 [(25, .slice p12 r11.length c13), (26, int (r11.length : Int)), (27, int i21), (41, .bool t33)] a ∧ Dk.Own w0 [] w [.blk b30 [int r29.1.Kind, str r29.1.Name, int r29.1.Port] 107, .row (.slice p12 r11.length c13) 9 1 r11.length (cells zj r11), .blk b8 [.slice p9 r7.f_l.length c10] 177, .row (.slice p9 r7.f_l.length c10) 69 2 r7.f_l.length (cells za r7.f_l), .blk b1 [int x_h.Kind, str x_h.Method, str x_h.Target, int x_h.Code, str x_h.Reason, int x_h.Minor, .slice x_h_p0 x_h.Fields.length x_h_c0] 35, .shr x_h_p0 (cells za x_h.Fields)] ∧ zeZ (zbO r11 n2) i21 t33 = some R) rfl ?_ ?_
 refine br rfl (fun hc32 => ?_) fun hc32 => ?_
 exact en rfl fun a w hf hO hm => ⟨!(x25 == []), hf.sel rfl, hO, hm⟩
 exact en rfl fun a w hf hO hm => ⟨false, hf.sel rfl, hO, hm⟩
 rintro a w ⟨t33, hf, hO, hm⟩
 rw [zeZ] at hm
 refine S.co tb ?_ hf hO hm
 refine br rfl (fun hc34 => ?_) fun hc34 => ?_
 exact rt Tryz.results65 rfl
 refine bi rfl fun i37 hi37 => ?_
 exact en rfl fun a w hf hO hm => ⟨_, Nat.lt_succ_self _, i37, hf.sel rfl, (hO.sub (.cons _ (.cons_cons _ (.cons_cons _ (.cons_cons _ (.cons_cons _ (.cons_cons _ .slnil))))))), hm⟩
 exact rt Tryz.results65 rfl

theorem zpm (x_h : api_Head) (R : Int) (w0 : World) (hG : zbB w0) {x_h_p0 : Option Addr} {x_h_c0 : Nat} (hs0 : zaw w0 x_h_p0 (cells za x_h.Fields)) (hc0 : x_h.Fields.length ≤ x_h_c0) (hm : zhl x_h = some R) :
    Calls Tryz.prog 34 #[.agg #[int x_h.Kind, str x_h.Method, str x_h.Target, int x_h.Code, str x_h.Reason, int x_h.Minor, .slice x_h_p0 x_h.Fields.length x_h_c0]] w0 (Ret w0 (fun R => int R) R) := by
 rw [zhl] at hm
 have hF : zG [] := zg
 have hO : Dk.Own w0 [] w0 [] := Dk.Own.refl w0
 have hO := hO.addShr hs0 (by simp [Res.shared])
 refine S.enter tb Tryz.func34 rfl Tryz.ntmps34 rfl ?_ hO hm
 refine rw_ rfl fun a w hf hO hm => ?_
 refine zeA (v := .agg #[int x_h.Kind, str x_h.Method, str x_h.Target, int x_h.Code, str x_h.Reason, int x_h.Minor, .slice x_h_p0 x_h.Fields.length x_h_c0]) (cs := [int x_h.Kind, str x_h.Method, str x_h.Target, int x_h.Code, str x_h.Reason, int x_h.Minor, .slice x_h_p0 x_h.Fields.length x_h_c0]) rfl hf rfl rfl hO fun a b1 w hf hO => ?_
 refine S.op tb ?_ hf hO hm
 refine vl rfl rfl (fun a w hf hO => zb (o := 6) zkf (hO.blkSees (i := 0) rfl) rfl hf rfl) ?_
 refine br rfl (fun hc4 => ?_) fun hc4 => ?_
 exact rt Tryz.results34 rfl
 refine vl rfl rfl (fun a w hf hO => zu (o := 0) (vs := [int x_h.Kind, str x_h.Method, str x_h.Target, int x_h.Code, str x_h.Reason, int x_h.Minor, .slice x_h_p0 x_h.Fields.length x_h_c0]) zau zA (hO.blkSees (i := 0) rfl) rfl rfl hf rfl) ?_
 refine cl c_65 rfl (fun r6 w hr6 hO => zpl x_h r6 _ (hG.own hF hO) (hO.sees (i := 1) rfl) hc0 hr6) fun r6 hr6 => ?_
 refine br rfl (fun hc8 => ?_) fun hc8 => ?_
 exact rt Tryz.results34 rfl
 exact rt Tryz.results34 rfl

theorem zpn (x_a0 : Int) (x_a1 : Str) (x_a2 : Int) (R : api_Head × Int) (w0 : World) (hG : zbB w0) (hm : zhm x_a0 x_a1 x_a2 = some R) :
    Calls Tryz.prog 14 #[int x_a0, str x_a1, int x_a2] w0 fun e w' => ∃ (p0 : Option Addr) (c0 : Nat), e = .returned (.tuple #[.agg #[int R.1.Kind, str R.1.Method, str R.1.Target, int R.1.Code, str R.1.Reason, int R.1.Minor, .slice p0 R.1.Fields.length c0], int R.2]) ∧ Dk.Own w0 [] w' [.row (.slice p0 R.1.Fields.length c0) 69 2 R.1.Fields.length (cells za R.1.Fields)] := by
 rw [zhm] at hm
 have hF : zG [] := zg
 have hO : Dk.Own w0 [] w0 [] := Dk.Own.refl w0
 refine S.enter tb Tryz.func14 rfl Tryz.ntmps14 rfl ?_ hO hm
 refine rw_ rfl fun a w hf hO hm => ?_
 refine zx zgH hf rfl hO fun a b1 w hf hO => ?_
 have hO := hO.nilRow 69 2
 refine S.op tb ?_ hf hO hm
 refine rw_ rfl fun a w hf hO hm => ?_
 obtain ⟨r3, hr3, hm⟩ := ob hm
 refine zv (zt c_30 hf (vs := [int x_a0, str []]) rfl) rfl hf rfl rfl (zfC x_a0 [] r3 _ (hG.own hF hO) hr3) ?_
 rintro e w' ⟨p4, c5, he, hO'⟩
 refine ⟨_, he, fun a hf => ?_⟩
 have hO := hO.call hO' (by simp [Res.shared])
 refine S.op tb ?_ hf hO hm
 refine rw_ rfl fun a w hf hO hm => ?_
 refine zx zgH hf rfl hO fun a b6 w hf hO => ?_
 have hO := hO.nilRow 69 2
 refine S.op tb ?_ hf hO hm
 refine rw_ rfl fun a w hf hO hm => ?_
 refine zd (i := 1) (n := 7) zA rfl rfl rfl (by simp [Value.oneCell']) hf rfl rfl hO fun w hO => ?_
 refine S.op tb ?_ hf hO hm
 refine br rfl (fun hc9 => ?_) fun hc9 => ?_
 refine vl rfl rfl (fun a w hf hO => zo (vs := []) (v := .agg #[int 0, str [], str [], int 0, str [], int 0, .slice none 0 0]) hf rfl (by kernel_rfl)) ?_
 refine rw_ rfl fun a w hf hO hm => ?_
 refine zd (i := 4) (n := 7) zA rfl rfl rfl (by simp [Value.oneCell']) hf rfl rfl hO fun w hO => ?_
 have hO := hO.nilRow 69 2
 refine S.op tb ?_ hf hO hm
 refine re_ rfl fun a w hf hO hm => ?_
 obtain rfl := Option.some.inj hm
 exact zf Tryz.results14 hf (.cell rfl (zc (n := 7) (vs := [int 0, str [], str [], int 0, str [], int 0, .slice none 0 0]) zau zA rfl ((hO.blkSees (i := 5) rfl).cells (o := 0) (n := 7) rfl)) (.tmp rfl .nil)) ⟨none, 0, rfl, (hO.sub (.cons_cons _ (.cons _ (.cons _ (.cons _ (.cons _ (.cons _ .slnil)))))))⟩
 refine cl c_31 rfl (fun r12 w hr12 hO => zgL x_a1 [13, 10, 13, 10] r12 _ (hG.own hF hO).1 hr12) fun r12 hr12 => ?_
 refine br rfl (fun hc15 => ?_) fun hc15 => ?_
 refine vl rfl rfl (fun a w hf hO => zo (vs := []) (v := .agg #[int 0, str [], str [], int 0, str [], int 0, .slice none 0 0]) hf rfl (by kernel_rfl)) ?_
 refine rw_ rfl fun a w hf hO hm => ?_
 refine zd (i := 4) (n := 7) zA rfl rfl rfl (by simp [Value.oneCell']) hf rfl rfl hO fun w hO => ?_
 have hO := hO.nilRow 69 2
 refine S.op tb ?_ hf hO hm
 refine re_ rfl fun a w hf hO hm => ?_
 obtain rfl := Option.some.inj hm
 exact zf Tryz.results14 hf (.cell rfl (zc (n := 7) (vs := [int 0, str [], str [], int 0, str [], int 0, .slice none 0 0]) zau zA rfl ((hO.blkSees (i := 5) rfl).cells (o := 0) (n := 7) rfl)) (.tmp rfl .nil)) ⟨none, 0, rfl, (hO.sub (.cons_cons _ (.cons _ (.cons _ (.cons _ (.cons _ (.cons _ .slnil)))))))⟩
 refine jn 2 (fun a w => ∃ (t19 : Bool), Fits 93 [(0, int x_a0), (1, str x_a1), (6, ptr b1 0), (10, int r12), (36, .bool t19)] a ∧ Dk.Own w0 [] w [.row (.slice none 0 0) 69 2 0 (cells za []), .blk b6 [int r3.1.Kind, str r3.1.Method, str r3.1.Target, int r3.1.Code, str r3.1.Reason, int r3.1.Minor, .slice p4 r3.1.Fields.length c5] 35, .row (.slice p4 r3.1.Fields.length c5) 69 2 r3.1.Fields.length (cells za r3.1.Fields), .row (.slice none 0 0) 69 2 0 (cells za []), .blk b1 [int 0, str [], str [], int 0, str [], int 0, .slice none 0 0] 35] ∧ zdR x_a0 x_a1 r12 t19 = some R) rfl ?_ ?_
 refine br rfl (fun hc17 => ?_) fun hc17 => ?_
 exact en rfl fun a w hf hO hm => ⟨true, hf.sel rfl, hO, hm⟩
 refine bi rfl fun i18 hi18 => ?_
 exact en rfl fun a w hf hO hm => ⟨!(i18 == (x_a1.length : Int)), hf.sel rfl, hO, hm⟩
 rintro a w ⟨t19, hf, hO, hm⟩
 rw [zdR] at hm
 refine S.co tb ?_ hf hO hm
 refine br rfl (fun hc20 => ?_) fun hc20 => ?_
 refine vl rfl rfl (fun a w hf hO => zo (vs := []) (v := .agg #[int 0, str [], str [], int 0, str [], int 0, .slice none 0 0]) hf rfl (by kernel_rfl)) ?_
 refine rw_ rfl fun a w hf hO hm => ?_
 refine zd (i := 4) (n := 7) zA rfl rfl rfl (by simp [Value.oneCell']) hf rfl rfl hO fun w hO => ?_
 have hO := hO.nilRow 69 2
 refine S.op tb ?_ hf hO hm
 refine re_ rfl fun a w hf hO hm => ?_
 obtain rfl := Option.some.inj hm
 exact zf Tryz.results14 hf (.cell rfl (zc (n := 7) (vs := [int 0, str [], str [], int 0, str [], int 0, .slice none 0 0]) zau zA rfl ((hO.blkSees (i := 5) rfl).cells (o := 0) (n := 7) rfl)) (.tmp rfl .nil)) ⟨none, 0, rfl, (hO.sub (.cons_cons _ (.cons _ (.cons _ (.cons _ (.cons _ (.cons _ .slnil)))))))⟩
 refine bi rfl fun s23 hs23 => ?_
 refine rw_ rfl fun a w hf hO hm => ?_
 obtain ⟨r24, hr24, hm⟩ := ob hm
 refine zv (zt c_32 hf (vs := [str s23, str [13, 10]]) rfl) rfl hf rfl rfl (ziU s23 [13, 10] r24 _ (hG.own hF hO).1 hr24) ?_
 rintro e w' ⟨p25, c26, he, hO'⟩
 refine ⟨_, he, fun a hf => ?_⟩
 have hO := hO.call hO' (by simp [Res.shared])
 refine S.op tb ?_ hf hO hm
 refine rw_ rfl fun a w hf hO hm => ?_
 obtain ⟨x28, hx28, hm⟩ := ob hm
 obtain ⟨b29, o30, hix28, hSx28, hAx28⟩ := zae (enc := zj) (sz := 1) (xs := r24) 31 Tryz.underlying31 zeB (by decide) (fun _ => rfl) hO (i := 0) rfl hx28
 refine zaL (zw hix28 hf rfl rfl) rfl hf rfl rfl fun a hf => ?_
 refine S.op tb ?_ hf hO hm
 refine vl rfl rfl (fun a w hf hO => zb (o := 0) za6 (hSx28 _ (hO.rowSees (i := 0) rfl)) rfl hf rfl) ?_
 refine rw_ rfl fun a w hf hO hm => ?_
 obtain ⟨r31, hr31, hm⟩ := ob hm
 refine zv (zt c_30 hf (vs := [int x_a0, str x28]) rfl) rfl hf rfl rfl (zfC x_a0 x28 r31 _ (hG.own hF hO) hr31) ?_
 rintro e w' ⟨p32, c33, he, hO'⟩
 refine ⟨_, he, fun a hf => ?_⟩
 have hO := hO.call hO' (by simp [Res.shared])
 refine S.op tb ?_ hf hO hm
 refine rw_ rfl fun a w hf hO hm => ?_
 refine zx zgH hf rfl hO fun a b34 w hf hO => ?_
 have hO := hO.nilRow 69 2
 refine S.op tb ?_ hf hO hm
 refine rw_ rfl fun a w hf hO hm => ?_
 refine zd (i := 1) (n := 7) zA rfl rfl rfl (by simp [Value.oneCell']) hf rfl rfl hO fun w hO => ?_
 refine S.op tb ?_ hf hO hm
 refine br rfl (fun hc37 => ?_) fun hc37 => ?_
 refine vl rfl rfl (fun a w hf hO => zo (vs := []) (v := .agg #[int 0, str [], str [], int 0, str [], int 0, .slice none 0 0]) hf rfl (by kernel_rfl)) ?_
 refine rw_ rfl fun a w hf hO hm => ?_
 refine zd (i := 8) (n := 7) zA rfl rfl rfl (by simp [Value.oneCell']) hf rfl rfl hO fun w hO => ?_
 have hO := hO.nilRow 69 2
 refine S.op tb ?_ hf hO hm
 refine re_ rfl fun a w hf hO hm => ?_
 obtain rfl := Option.some.inj hm
 exact zf Tryz.results14 hf (.cell rfl (zc (n := 7) (vs := [int 0, str [], str [], int 0, str [], int 0, .slice none 0 0]) zau zA rfl ((hO.blkSees (i := 9) rfl).cells (o := 0) (n := 7) rfl)) (.tmp rfl .nil)) ⟨none, 0, rfl, (hO.sub (.cons_cons _ (.cons _ (.cons _ (.cons _ (.cons _ (.cons _ (.cons _ (.cons _ (.cons _ (.cons _ .slnil)))))))))))⟩
 refine jn 0 (fun a w => ∃ (i75 : Int) (s76 : Str) (s77 : Str) (i78 : Int) (s79 : Str) (i80 : Int) (p81 : Option Addr) (c82 : Nat) (l83 : List api_Field), Fits 93 [(6, ptr b1 0), (12, ptr b34 0)] a ∧ Dk.Own w0 [] w [.row (.slice none 0 0) 69 2 0 (cells za []), .blk b34 [int i75, str s76, str s77, int i78, str s79, int i80, .slice p81 l83.length c82] 35, .row (.slice p81 l83.length c82) 69 2 l83.length (cells za l83), .shr p25 (cells zj r24), .row (.slice none 0 0) 69 2 0 (cells za []), .blk b6 [int r3.1.Kind, str r3.1.Method, str r3.1.Target, int r3.1.Code, str r3.1.Reason, int r3.1.Minor, .slice p4 r3.1.Fields.length c5] 35, .row (.slice p4 r3.1.Fields.length c5) 69 2 r3.1.Fields.length (cells za r3.1.Fields), .row (.slice none 0 0) 69 2 0 (cells za []), .blk b1 [int 0, str [], str [], int 0, str [], int 0, .slice none 0 0] 35] ∧ ze0 i75 s76 s77 i78 s79 i80 l83 = some R) rfl ?_ ?_
 refine rw_ rfl fun a w hf hO hm => ?_
 obtain ⟨l41, hl41, hm⟩ := ob hm
 have hcr40 := hO.rowCap (i := 3) rfl
 have hO := hO.giveRow (i := 3) rfl
 obtain ⟨p42, c43, hrl41, hVl41, hCl41, hPl41⟩ := zse (enc := zj) (xs := r24) 31 Tryz.underlying31 zeB (fun _ => rfl) (hO.sees (i := 3) rfl) hcr40 hl41
 have hO := hO.share (i := 3) rfl hPl41 (hVl41 _ (hO.sees (i := 3) rfl))
 refine zaL (zps Tryz.underlying31 hrl41 hf rfl rfl) rfl hf rfl rfl fun a hf => ?_
 refine S.op tb ?_ hf hO hm
 refine lp (fun k a w => ∃ (i45 : Int) (s46 : Str) (s47 : Str) (i48 : Int) (s49 : Str) (i50 : Int) (p51 : Option Addr) (c52 : Nat) (l53 : List api_Field) (i54 : Int), Fits 93 [(6, ptr b1 0), (12, ptr b34 0), (64, .slice p42 l41.length c43), (65, int (l41.length : Int)), (66, int i54)] a ∧ Dk.Own w0 [] w [.shr p42 (cells zj l41), .row (.slice none 0 0) 69 2 0 (cells za []), .blk b34 [int i45, str s46, str s47, int i48, str s49, int i50, .slice p51 l53.length c52] 35, .row (.slice p51 l53.length c52) 69 2 l53.length (cells za l53), .shr p25 (cells zj r24), .row (.slice none 0 0) 69 2 0 (cells za []), .blk b6 [int r3.1.Kind, str r3.1.Method, str r3.1.Target, int r3.1.Code, str r3.1.Reason, int r3.1.Minor, .slice p4 r3.1.Fields.length c5] 35, .row (.slice p4 r3.1.Fields.length c5) 69 2 r3.1.Fields.length (cells za r3.1.Fields), .row (.slice none 0 0) 69 2 0 (cells za []), .blk b1 [int 0, str [], str [], int 0, str [], int 0, .slice none 0 0] 35] ∧ zc8 l41 k i45 s46 s47 i48 s49 i50 l53 i54 = some R) rfl (fun a w hf hO hm => ⟨r31.1.Kind, r31.1.Method, r31.1.Target, r31.1.Code, r31.1.Reason, r31.1.Minor, p32, c33, r31.1.Fields, 0, hf.sel rfl, hO, hm⟩) ?_
 rintro n2 a w ⟨i45, s46, s47, i48, s49, i50, p51, c52, l53, i54, hf, hO, hm⟩
 obtain _ | n2 := n2
 rw [zc8] at hm
 cases hm
 rw [zc8] at hm
 refine S.co tb ?_ hf hO hm
 refine br rfl (fun hc56 => ?_) fun hc56 => ?_
 refine rw_ rfl fun a w hf hO hm => ?_
 obtain ⟨x58, hx58, hm⟩ := ob hm
 obtain ⟨b59, o60, hix58, hSx58⟩ := zh1 (enc := zj) (sz := 1) (xs := l41) 31 Tryz.underlying31 zeB (by decide) (fun _ => rfl) (hO.sees (i := 0) rfl) hx58
 refine zaL (zw hix58 hf rfl rfl) rfl hf rfl rfl fun a hf => ?_
 refine S.op tb ?_ hf hO hm
 refine vl rfl rfl (fun a w hf hO => zb (o := 0) za6 (hSx58 _ (hO.sees (i := 0) rfl)) rfl hf rfl) ?_
 refine cl c_33 rfl (fun r62 w hr62 hO => zhN x58 r62 _ (hG.own hF hO).1 hr62) fun r62 hr62 => ?_
 refine rw_ rfl fun a w hf hO hm => ?_
 refine zx zoD hf rfl hO fun a b63 w hf hO => ?_
 refine S.op tb ?_ hf hO hm
 refine rw_ rfl fun a w hf hO hm => ?_
 refine zd (i := 0) (n := 2) zbt rfl rfl rfl (by simp [Value.oneCell']) hf rfl rfl hO fun w hO => ?_
 refine S.op tb ?_ hf hO hm
 refine br rfl (fun hc66 => ?_) fun hc66 => ?_
 refine vl rfl rfl (fun a w hf hO => zo (vs := []) (v := .agg #[int 0, str [], str [], int 0, str [], int 0, .slice none 0 0]) hf rfl (by kernel_rfl)) ?_
 refine rw_ rfl fun a w hf hO hm => ?_
 refine zd (i := 10) (n := 7) zA rfl rfl rfl (by simp [Value.oneCell']) hf rfl rfl hO fun w hO => ?_
 have hO := hO.nilRow 69 2
 refine S.op tb ?_ hf hO hm
 refine re_ rfl fun a w hf hO hm => ?_
 obtain rfl := Option.some.inj hm
 exact zf Tryz.results14 hf (.cell rfl (zc (n := 7) (vs := [int 0, str [], str [], int 0, str [], int 0, .slice none 0 0]) zau zA rfl ((hO.blkSees (i := 11) rfl).cells (o := 0) (n := 7) rfl)) (.tmp rfl .nil)) ⟨none, 0, rfl, (hO.sub (.cons_cons _ (.cons _ (.cons _ (.cons _ (.cons _ (.cons _ (.cons _ (.cons _ (.cons _ (.cons _ (.cons _ (.cons _ .slnil)))))))))))))⟩
 refine vl rfl rfl (fun a w hf hO => zb (o := 6) zkf (hO.blkSees (i := 3) rfl) rfl hf rfl) ?_
 refine vl rfl rfl (fun a w hf hO => zu (o := 0) (vs := [str r62.1.Name, str r62.1.Value]) zf3 zbt (hO.blkSees (i := 0) rfl) rfl rfl hf rfl) ?_
 refine rw_ rfl fun a w hf hO hm => ?_
 refine zS (vs := [(0, .agg #[str r62.1.Name, str r62.1.Value])]) (cs := [str r62.1.Name, str r62.1.Value]) (e := 69) (sz := 2) hf rfl rfl (fun w => by kernel_rfl) rfl rfl hO fun a b69 w hf hO => ?_
 refine S.op tb ?_ hf hO hm
 refine rw_ rfl fun a w hf hO hm => ?_
 obtain ⟨hg72, hm⟩ := og hm
 refine zdD zrG (enc := za) (xs := l53) (ys := [r62.1]) (i := 5) (fun _ => rfl) rfl (hO.rowSees (i := 0) rfl) (by simp [cells, za, Value.oneCell']) hg72 hf rfl rfl rfl hO fun a p70 c71 w hf hO => ?_
 refine S.op tb ?_ hf hO hm
 refine rw_ rfl fun a w hf hO hm => ?_
 refine zV (i := 4) (o := 6) (v := .slice p70 ((l53 ++ [r62.1]).length) c71) ztu rfl rfl rfl rfl hf rfl rfl hO fun w hO => ?_
 refine S.op tb ?_ hf hO hm
 refine bi rfl fun i74 hi74 => ?_
 exact en rfl fun a w hf hO hm => ⟨_, Nat.lt_succ_self _, i45, s46, s47, i48, s49, i50, p70, c71, l53 ++ [r62.1], i74, hf.sel rfl, (hO.sub (.cons _ (.cons _ (.cons_cons _ (.cons_cons _ (.cons_cons _ (.cons_cons _ (.cons_cons _ (.cons_cons _ (.cons_cons _ (.cons_cons _ (.cons_cons _ (.cons_cons _ .slnil))))))))))))), hm⟩
 exact en rfl fun a w hf hO hm => ⟨i45, s46, s47, i48, s49, i50, p51, c52, l53, hf.sel rfl, (hO.sub (.cons _ (.cons_cons _ (.cons_cons _ (.cons_cons _ (.cons_cons _ (.cons_cons _ (.cons_cons _ (.cons_cons _ (.cons_cons _ (.cons_cons _ .slnil))))))))))), hm⟩
 rintro a w ⟨i75, s76, s77, i78, s79, i80, p81, c82, l83, hf, hO, hm⟩
 rw [ze0] at hm
 refine S.co tb ?_ hf hO hm
 refine vl rfl rfl (fun a w hf hO => zu (o := 0) (vs := [int i75, str s76, str s77, int i78, str s79, int i80, .slice p81 l83.length c82]) zau zA (hO.blkSees (i := 1) rfl) rfl rfl hf rfl) ?_
 refine cl c_34 rfl (fun r84 w hr84 hO => zpm (⟨i75, s76, s77, i78, s79, i80, l83⟩ : api_Head) r84 _ (hG.own hF hO) (hO.rowSees (i := 2) rfl) (hO.rowCap (i := 2) rfl) hr84) fun r84 hr84 => ?_
 refine br rfl (fun hc87 => ?_) fun hc87 => ?_
 refine vl rfl rfl (fun a w hf hO => zo (vs := []) (v := .agg #[int 0, str [], str [], int 0, str [], int 0, .slice none 0 0]) hf rfl (by kernel_rfl)) ?_
 refine rw_ rfl fun a w hf hO hm => ?_
 refine zd (i := 8) (n := 7) zA rfl rfl rfl (by simp [Value.oneCell']) hf rfl rfl hO fun w hO => ?_
 have hO := hO.nilRow 69 2
 refine S.op tb ?_ hf hO hm
 refine re_ rfl fun a w hf hO hm => ?_
 obtain rfl := Option.some.inj hm
 exact zf Tryz.results14 hf (.cell rfl (zc (n := 7) (vs := [int 0, str [], str [], int 0, str [], int 0, .slice none 0 0]) zau zA rfl ((hO.blkSees (i := 9) rfl).cells (o := 0) (n := 7) rfl)) (.tmp rfl .nil)) ⟨none, 0, rfl, (hO.sub (.cons_cons _ (.cons _ (.cons _ (.cons _ (.cons _ (.cons _ (.cons _ (.cons _ (.cons _ (.cons _ .slnil)))))))))))⟩
 refine vl rfl rfl (fun a w hf hO => zu (o := 0) (vs := [int i75, str s76, str s77, int i78, str s79, int i80, .slice p81 l83.length c82]) zau zA (hO.blkSees (i := 1) rfl) rfl rfl hf rfl) ?_
 refine rw_ rfl fun a w hf hO hm => ?_
 refine zd (i := 8) (n := 7) zA rfl rfl rfl (by simp [Value.oneCell']) hf rfl rfl hO fun w hO => ?_
 refine S.op tb ?_ hf hO hm
 refine re_ rfl fun a w hf hO hm => ?_
 obtain rfl := Option.some.inj hm
 exact zf Tryz.results14 hf (.cell rfl (zc (n := 7) (vs := [int i75, str s76, str s77, int i78, str s79, int i80, .slice p81 l83.length c82]) zau zA rfl ((hO.blkSees (i := 8) rfl).cells (o := 0) (n := 7) rfl)) (.tmp rfl .nil)) ⟨p81, c82, rfl, (hO.sub (.cons _ (.cons _ (.cons_cons _ (.cons _ (.cons _ (.cons _ (.cons _ (.cons _ (.cons _ .slnil))))))))))⟩

theorem zky (x_a : accum_Accum) (x_s : Str) (R : Bool × Int × accum_Accum) (w0 : World) (hG : zbB w0) {x_a_b0 : Nat} {x_a_p1 : Option Addr} {x_a_c1 : Nat} {x_a_p2 : Option Addr} {x_a_c2 : Nat} {F : List Nat} (hF : zG F) (hO : Dk.Own w0 F w0 [.blk x_a_b0 [int x_a.f_kind, int x_a.f_limit, .slice x_a_p1 x_a.f_buf.length x_a_c1, int x_a.f_from, .bool x_a.f_took, int x_a.f_bad, .bool x_a.f_whole, int x_a.f_got.Kind, str x_a.f_got.Method, str x_a.f_got.Target, int x_a.f_got.Code, str x_a.f_got.Reason, int x_a.f_got.Minor, .slice x_a_p2 x_a.f_got.Fields.length x_a_c2] 61, .row (.slice x_a_p1 x_a.f_buf.length x_a_c1) 5 1 x_a.f_buf.length (cells zh x_a.f_buf), .row (.slice x_a_p2 x_a.f_got.Fields.length x_a_c2) 69 2 x_a.f_got.Fields.length (cells za x_a.f_got.Fields)]) (hm : zdh x_a x_s = some R) :
    Calls Tryz.prog 51 #[ptr x_a_b0 0, str x_s] w0 fun e w' => ∃ (p0 : Option Addr) (c0 : Nat) (p1 : Option Addr) (c1 : Nat), e = .returned (.tuple #[.bool R.1, int R.2.1]) ∧ Dk.Own w0 F w' [.blk x_a_b0 [int R.2.2.f_kind, int R.2.2.f_limit, .slice p0 R.2.2.f_buf.length c0, int R.2.2.f_from, .bool R.2.2.f_took, int R.2.2.f_bad, .bool R.2.2.f_whole, int R.2.2.f_got.Kind, str R.2.2.f_got.Method, str R.2.2.f_got.Target, int R.2.2.f_got.Code, str R.2.2.f_got.Reason, int R.2.2.f_got.Minor, .slice p1 R.2.2.f_got.Fields.length c1] 61, .row (.slice p0 R.2.2.f_buf.length c0) 5 1 R.2.2.f_buf.length (cells zh R.2.2.f_buf), .row (.slice p1 R.2.2.f_got.Fields.length c1) 69 2 R.2.2.f_got.Fields.length (cells za R.2.2.f_got.Fields)] := by
 rw [zdh] at hm
 refine S.enter tb Tryz.func51 rfl Tryz.ntmps51 rfl ?_ hO hm
 refine jn 0 (fun a w => ∃ (i16 : Int), Fits 62 [(0, ptr x_a_b0 0), (6, int i16)] a ∧ Dk.Own w0 F w [.blk x_a_b0 [int x_a.f_kind, int x_a.f_limit, .slice x_a_p1 x_a.f_buf.length x_a_c1, int x_a.f_from, .bool x_a.f_took, int x_a.f_bad, .bool x_a.f_whole, int x_a.f_got.Kind, str x_a.f_got.Method, str x_a.f_got.Target, int x_a.f_got.Code, str x_a.f_got.Reason, int x_a.f_got.Minor, .slice x_a_p2 x_a.f_got.Fields.length x_a_c2] 61, .row (.slice x_a_p1 x_a.f_buf.length x_a_c1) 5 1 x_a.f_buf.length (cells zh x_a.f_buf), .row (.slice x_a_p2 x_a.f_got.Fields.length x_a_c2) 69 2 x_a.f_got.Fields.length (cells za x_a.f_got.Fields)] ∧ zcd x_a i16 = some R) rfl ?_ ?_
 refine vl rfl rfl (fun a w hf hO => zb (o := 3) zfz (hO.blkSees (i := 0) rfl) rfl hf rfl) ?_
 refine br rfl (fun hc4 => ?_) fun hc4 => ?_
 refine vl rfl rfl (fun a w hf hO => zb (o := 0) znu (hO.blkSees (i := 0) rfl) rfl hf rfl) ?_
 refine rw_ rfl fun a w hf hO hm => ?_
 obtain ⟨r5, hr5, hm⟩ := ob hm
 refine zv (zt c_30 hf (vs := [int x_a.f_kind, str x_s]) rfl) rfl hf rfl rfl (zfC x_a.f_kind x_s r5 _ (hG.own hF hO) hr5) ?_
 rintro e w' ⟨p6, c7, he, hO'⟩
 refine ⟨_, he, fun a hf => ?_⟩
 have hO := hO.call hO' (by simp [Res.shared])
 refine S.op tb ?_ hf hO hm
 exact en rfl fun a w hf hO hm => ⟨r5.2, hf.sel rfl, (hO.sub (.cons _ (.cons_cons _ (.cons_cons _ (.cons_cons _ .slnil))))), hm⟩
 refine br rfl (fun hc9 => ?_) fun hc9 => ?_
 refine cl c_33 rfl (fun r10 w hr10 hO => zhN x_s r10 _ (hG.own hF hO).1 hr10) fun r10 hr10 => ?_
 exact en rfl fun a w hf hO hm => ⟨r10.2, hf.sel rfl, hO, hm⟩
 refine rc_ rfl fun a w hf hO hm => ?_
 obtain ⟨r11, hr11, hm⟩ := ob hm
 refine zfy (S := Option Addr × Nat) (E0 := [(0, ptr x_a_b0 0)]) (by kernel_rfl) (fun k σ w => match k with | 0 => Dk.Own w0 F w [.blk x_a_b0 [int x_a.f_kind, int x_a.f_limit, .slice x_a_p1 x_a.f_buf.length x_a_c1, int x_a.f_from, .bool x_a.f_took, int x_a.f_bad, .bool x_a.f_whole, int x_a.f_got.Kind, str x_a.f_got.Method, str x_a.f_got.Target, int x_a.f_got.Code, str x_a.f_got.Reason, int x_a.f_got.Minor, .slice x_a_p2 x_a.f_got.Fields.length x_a_c2] 61, .row (.slice x_a_p1 x_a.f_buf.length x_a_c1) 5 1 x_a.f_buf.length (cells zh x_a.f_buf), .row (.slice x_a_p2 x_a.f_got.Fields.length x_a_c2) 69 2 x_a.f_got.Fields.length (cells za x_a.f_got.Fields)] | 1 => Dk.Own w0 F w [.row (.slice (σ.1) r11.1.Fields.length (σ.2)) 69 2 r11.1.Fields.length (cells za r11.1.Fields), .blk x_a_b0 [int x_a.f_kind, int x_a.f_limit, .slice x_a_p1 x_a.f_buf.length x_a_c1, int x_a.f_from, .bool x_a.f_took, int x_a.f_bad, .bool x_a.f_whole, int x_a.f_got.Kind, str x_a.f_got.Method, str x_a.f_got.Target, int x_a.f_got.Code, str x_a.f_got.Reason, int x_a.f_got.Minor, .slice x_a_p2 x_a.f_got.Fields.length x_a_c2] 61, .row (.slice x_a_p1 x_a.f_buf.length x_a_c1) 5 1 x_a.f_buf.length (cells zh x_a.f_buf), .row (.slice x_a_p2 x_a.f_got.Fields.length x_a_c2) 69 2 x_a.f_got.Fields.length (cells za x_a.f_got.Fields)] | _ => Dk.Own w0 F w [.row (.slice (σ.1) r11.1.Fields.length (σ.2)) 69 2 r11.1.Fields.length (cells za r11.1.Fields), .blk x_a_b0 [int x_a.f_kind, int x_a.f_limit, .slice x_a_p1 x_a.f_buf.length x_a_c1, int x_a.f_from, .bool x_a.f_took, int x_a.f_bad, .bool x_a.f_whole, int r11.1.Kind, str r11.1.Method, str r11.1.Target, int r11.1.Code, str r11.1.Reason, int r11.1.Minor, .slice (σ.1) r11.1.Fields.length (σ.2)] 61, .row (.slice x_a_p1 x_a.f_buf.length x_a_c1) 5 1 x_a.f_buf.length (cells zh x_a.f_buf), .row (.slice x_a_p2 x_a.f_got.Fields.length x_a_c2) 69 2 x_a.f_got.Fields.length (cells za x_a.f_got.Fields)]) (fun σ => [⟨[(0, ptr x_a_b0 0)], some (8, ptr x_a_b0 0)⟩, ⟨[(0, ptr x_a_b0 0)], some (9, ptr x_a_b0 0)⟩, ⟨[(9, ptr x_a_b0 0)], some (10, ptr x_a_b0 0)⟩, ⟨[(10, ptr x_a_b0 0)], some (11, ptr x_a_b0 0)⟩, ⟨[(11, ptr x_a_b0 0)], some (12, int x_a.f_kind)⟩, ⟨[(0, ptr x_a_b0 0)], some (13, ptr x_a_b0 0)⟩, ⟨[(13, ptr x_a_b0 0)], some (14, ptr x_a_b0 0)⟩, ⟨[(14, ptr x_a_b0 0)], some (15, ptr x_a_b0 2)⟩, ⟨[(15, ptr x_a_b0 2)], some (16, .slice x_a_p1 x_a.f_buf.length x_a_c1)⟩, ⟨[(16, .slice x_a_p1 x_a.f_buf.length x_a_c1)], some (17, str x_a.f_buf)⟩, ⟨[(0, ptr x_a_b0 0)], some (18, ptr x_a_b0 0)⟩, ⟨[(18, ptr x_a_b0 0)], some (19, ptr x_a_b0 0)⟩, ⟨[(19, ptr x_a_b0 0)], some (20, ptr x_a_b0 1)⟩, ⟨[(20, ptr x_a_b0 1)], some (21, int x_a.f_limit)⟩, ⟨[(12, int x_a.f_kind), (17, str x_a.f_buf), (21, int x_a.f_limit)], some (22, .tuple #[.agg #[int r11.1.Kind, str r11.1.Method, str r11.1.Target, int r11.1.Code, str r11.1.Reason, int r11.1.Minor, .slice (σ.1) r11.1.Fields.length (σ.2)], int r11.2])⟩, ⟨[(22, .tuple #[.agg #[int r11.1.Kind, str r11.1.Method, str r11.1.Target, int r11.1.Code, str r11.1.Reason, int r11.1.Minor, .slice (σ.1) r11.1.Fields.length (σ.2)], int r11.2])], some (7, .tuple #[.agg #[int r11.1.Kind, str r11.1.Method, str r11.1.Target, int r11.1.Code, str r11.1.Reason, int r11.1.Minor, .slice (σ.1) r11.1.Fields.length (σ.2)], int r11.2])⟩, ⟨[(7, .tuple #[.agg #[int r11.1.Kind, str r11.1.Method, str r11.1.Target, int r11.1.Code, str r11.1.Reason, int r11.1.Minor, .slice (σ.1) r11.1.Fields.length (σ.2)], int r11.2])], some (23, .agg #[int r11.1.Kind, str r11.1.Method, str r11.1.Target, int r11.1.Code, str r11.1.Reason, int r11.1.Minor, .slice (σ.1) r11.1.Fields.length (σ.2)])⟩, ⟨[(7, .tuple #[.agg #[int r11.1.Kind, str r11.1.Method, str r11.1.Target, int r11.1.Code, str r11.1.Reason, int r11.1.Minor, .slice (σ.1) r11.1.Fields.length (σ.2)], int r11.2])], some (24, int r11.2)⟩, ⟨[(8, ptr x_a_b0 0)], some (25, ptr x_a_b0 0)⟩, ⟨[(25, ptr x_a_b0 0)], some (26, ptr x_a_b0 7)⟩, ⟨[(23, .agg #[int r11.1.Kind, str r11.1.Method, str r11.1.Target, int r11.1.Code, str r11.1.Reason, int r11.1.Minor, .slice (σ.1) r11.1.Fields.length (σ.2)]), (26, ptr x_a_b0 7)], none⟩, ⟨[(24, int r11.2)], some (6, int r11.2)⟩]) (none, 0) [14, 20] rfl (fun _ => rfl) (fun _ => rfl) (fun _ => rfl) rfl rfl (by decide) rfl hO.drew (hf.cons rfl hf.nil) (fun σ => ⟨⟨rfl, trivial⟩, ⟨rfl, trivial⟩, ⟨rfl, trivial⟩, ⟨rfl, trivial⟩, ⟨rfl, trivial⟩, ⟨rfl, trivial⟩, ⟨rfl, trivial⟩, ⟨rfl, trivial⟩, ⟨rfl, trivial⟩, ⟨rfl, trivial⟩, ⟨rfl, trivial⟩, ⟨rfl, trivial⟩, ⟨rfl, trivial⟩, ⟨rfl, trivial⟩, ⟨rfl, rfl, rfl, trivial⟩, ⟨rfl, trivial⟩, ⟨rfl, trivial⟩, ⟨rfl, trivial⟩, ⟨rfl, trivial⟩, ⟨rfl, trivial⟩, ⟨rfl, rfl, trivial⟩, ⟨rfl, trivial⟩, trivial⟩) ⟨zk rfl (fun σ => rfl) (fun σ => rfl) (fun σ a w k _ _ _ _ hf => zp hf rfl), zk rfl (fun σ => rfl) (fun σ => rfl) (fun σ a w k _ _ _ _ hf => zp hf rfl), zk rfl (fun σ => rfl) (fun σ => rfl) (fun σ a w k _ _ _ _ hf => zag hf rfl), zk rfl (fun σ => rfl) (fun σ => rfl) (fun σ a w k _ _ _ _ hf => zao zrH hf rfl), zk rfl (fun σ => rfl) (fun σ => rfl) (fun σ a w k hk hlo hup hst hf => match k, hk, hlo, hup, hst, hf with | 0, _, _, _, hst, hf => have hO : Dk.Own w0 F w [.blk x_a_b0 [int x_a.f_kind, int x_a.f_limit, .slice x_a_p1 x_a.f_buf.length x_a_c1, int x_a.f_from, .bool x_a.f_took, int x_a.f_bad, .bool x_a.f_whole, int x_a.f_got.Kind, str x_a.f_got.Method, str x_a.f_got.Target, int x_a.f_got.Code, str x_a.f_got.Reason, int x_a.f_got.Minor, .slice x_a_p2 x_a.f_got.Fields.length x_a_c2] 61, .row (.slice x_a_p1 x_a.f_buf.length x_a_c1) 5 1 x_a.f_buf.length (cells zh x_a.f_buf), .row (.slice x_a_p2 x_a.f_got.Fields.length x_a_c2) 69 2 x_a.f_got.Fields.length (cells za x_a.f_got.Fields)] := hst; zb (o := 0) znu (hO.blkSees (i := 0) rfl) rfl hf rfl | 1, _, _, _, hst, hf => have hO : Dk.Own w0 F w [.row (.slice (σ.1) r11.1.Fields.length (σ.2)) 69 2 r11.1.Fields.length (cells za r11.1.Fields), .blk x_a_b0 [int x_a.f_kind, int x_a.f_limit, .slice x_a_p1 x_a.f_buf.length x_a_c1, int x_a.f_from, .bool x_a.f_took, int x_a.f_bad, .bool x_a.f_whole, int x_a.f_got.Kind, str x_a.f_got.Method, str x_a.f_got.Target, int x_a.f_got.Code, str x_a.f_got.Reason, int x_a.f_got.Minor, .slice x_a_p2 x_a.f_got.Fields.length x_a_c2] 61, .row (.slice x_a_p1 x_a.f_buf.length x_a_c1) 5 1 x_a.f_buf.length (cells zh x_a.f_buf), .row (.slice x_a_p2 x_a.f_got.Fields.length x_a_c2) 69 2 x_a.f_got.Fields.length (cells za x_a.f_got.Fields)] := hst; zb (o := 0) znu (hO.blkSees (i := 1) rfl) rfl hf rfl | 2, _, _, hup, _, _ => absurd (hup 0 (by decide) (by kernel_rfl)) (by decide) | k + 3, hk, _, _, _, _ => absurd hk (by simp)), zk rfl (fun σ => rfl) (fun σ => rfl) (fun σ a w k _ _ _ _ hf => zp hf rfl), zk rfl (fun σ => rfl) (fun σ => rfl) (fun σ a w k _ _ _ _ hf => zag hf rfl), zk rfl (fun σ => rfl) (fun σ => rfl) (fun σ a w k _ _ _ _ hf => zao zk5 hf rfl), zk rfl (fun σ => rfl) (fun σ => rfl) (fun σ a w k hk hlo hup hst hf => match k, hk, hlo, hup, hst, hf with | 0, _, _, _, hst, hf => have hO : Dk.Own w0 F w [.blk x_a_b0 [int x_a.f_kind, int x_a.f_limit, .slice x_a_p1 x_a.f_buf.length x_a_c1, int x_a.f_from, .bool x_a.f_took, int x_a.f_bad, .bool x_a.f_whole, int x_a.f_got.Kind, str x_a.f_got.Method, str x_a.f_got.Target, int x_a.f_got.Code, str x_a.f_got.Reason, int x_a.f_got.Minor, .slice x_a_p2 x_a.f_got.Fields.length x_a_c2] 61, .row (.slice x_a_p1 x_a.f_buf.length x_a_c1) 5 1 x_a.f_buf.length (cells zh x_a.f_buf), .row (.slice x_a_p2 x_a.f_got.Fields.length x_a_c2) 69 2 x_a.f_got.Fields.length (cells za x_a.f_got.Fields)] := hst; zb (o := 2) zjy (hO.blkSees (i := 0) rfl) rfl hf rfl | 1, _, _, _, hst, hf => have hO : Dk.Own w0 F w [.row (.slice (σ.1) r11.1.Fields.length (σ.2)) 69 2 r11.1.Fields.length (cells za r11.1.Fields), .blk x_a_b0 [int x_a.f_kind, int x_a.f_limit, .slice x_a_p1 x_a.f_buf.length x_a_c1, int x_a.f_from, .bool x_a.f_took, int x_a.f_bad, .bool x_a.f_whole, int x_a.f_got.Kind, str x_a.f_got.Method, str x_a.f_got.Target, int x_a.f_got.Code, str x_a.f_got.Reason, int x_a.f_got.Minor, .slice x_a_p2 x_a.f_got.Fields.length x_a_c2] 61, .row (.slice x_a_p1 x_a.f_buf.length x_a_c1) 5 1 x_a.f_buf.length (cells zh x_a.f_buf), .row (.slice x_a_p2 x_a.f_got.Fields.length x_a_c2) 69 2 x_a.f_got.Fields.length (cells za x_a.f_got.Fields)] := hst; zb (o := 2) zjy (hO.blkSees (i := 1) rfl) rfl hf rfl | 2, _, _, hup, _, _ => absurd (hup 0 (by decide) (by kernel_rfl)) (by decide) | k + 3, hk, _, _, _, _ => absurd hk (by simp)), zk rfl (fun σ => rfl) (fun σ => rfl) (fun σ a w k hk hlo hup hst hf => match k, hk, hlo, hup, hst, hf with | 0, _, _, _, hst, hf => have hO : Dk.Own w0 F w [.blk x_a_b0 [int x_a.f_kind, int x_a.f_limit, .slice x_a_p1 x_a.f_buf.length x_a_c1, int x_a.f_from, .bool x_a.f_took, int x_a.f_bad, .bool x_a.f_whole, int x_a.f_got.Kind, str x_a.f_got.Method, str x_a.f_got.Target, int x_a.f_got.Code, str x_a.f_got.Reason, int x_a.f_got.Minor, .slice x_a_p2 x_a.f_got.Fields.length x_a_c2] 61, .row (.slice x_a_p1 x_a.f_buf.length x_a_c1) 5 1 x_a.f_buf.length (cells zh x_a.f_buf), .row (.slice x_a_p2 x_a.f_got.Fields.length x_a_c2) 69 2 x_a.f_got.Fields.length (cells za x_a.f_got.Fields)] := hst; ziP (en := zh) (l := x_a.f_buf) (fun _ => rfl) Tryz.underlying9 Tryz.underlying23 Tryz.underlying5 (hO.rowSees (i := 1) rfl) hf rfl | 1, _, _, _, hst, hf => have hO : Dk.Own w0 F w [.row (.slice (σ.1) r11.1.Fields.length (σ.2)) 69 2 r11.1.Fields.length (cells za r11.1.Fields), .blk x_a_b0 [int x_a.f_kind, int x_a.f_limit, .slice x_a_p1 x_a.f_buf.length x_a_c1, int x_a.f_from, .bool x_a.f_took, int x_a.f_bad, .bool x_a.f_whole, int x_a.f_got.Kind, str x_a.f_got.Method, str x_a.f_got.Target, int x_a.f_got.Code, str x_a.f_got.Reason, int x_a.f_got.Minor, .slice x_a_p2 x_a.f_got.Fields.length x_a_c2] 61, .row (.slice x_a_p1 x_a.f_buf.length x_a_c1) 5 1 x_a.f_buf.length (cells zh x_a.f_buf), .row (.slice x_a_p2 x_a.f_got.Fields.length x_a_c2) 69 2 x_a.f_got.Fields.length (cells za x_a.f_got.Fields)] := hst; ziP (en := zh) (l := x_a.f_buf) (fun _ => rfl) Tryz.underlying9 Tryz.underlying23 Tryz.underlying5 (hO.rowSees (i := 2) rfl) hf rfl | 2, _, _, _, hst, hf => have hO : Dk.Own w0 F w [.row (.slice (σ.1) r11.1.Fields.length (σ.2)) 69 2 r11.1.Fields.length (cells za r11.1.Fields), .blk x_a_b0 [int x_a.f_kind, int x_a.f_limit, .slice x_a_p1 x_a.f_buf.length x_a_c1, int x_a.f_from, .bool x_a.f_took, int x_a.f_bad, .bool x_a.f_whole, int r11.1.Kind, str r11.1.Method, str r11.1.Target, int r11.1.Code, str r11.1.Reason, int r11.1.Minor, .slice (σ.1) r11.1.Fields.length (σ.2)] 61, .row (.slice x_a_p1 x_a.f_buf.length x_a_c1) 5 1 x_a.f_buf.length (cells zh x_a.f_buf), .row (.slice x_a_p2 x_a.f_got.Fields.length x_a_c2) 69 2 x_a.f_got.Fields.length (cells za x_a.f_got.Fields)] := hst; ziP (en := zh) (l := x_a.f_buf) (fun _ => rfl) Tryz.underlying9 Tryz.underlying23 Tryz.underlying5 (hO.rowSees (i := 2) rfl) hf rfl | k + 3, hk, _, _, _, _ => absurd hk (by simp)), zk rfl (fun σ => rfl) (fun σ => rfl) (fun σ a w k _ _ _ _ hf => zp hf rfl), zk rfl (fun σ => rfl) (fun σ => rfl) (fun σ a w k _ _ _ _ hf => zag hf rfl), zk rfl (fun σ => rfl) (fun σ => rfl) (fun σ a w k _ _ _ _ hf => zao zpu hf rfl), zk rfl (fun σ => rfl) (fun σ => rfl) (fun σ a w k hk hlo hup hst hf => match k, hk, hlo, hup, hst, hf with | 0, _, _, _, hst, hf => have hO : Dk.Own w0 F w [.blk x_a_b0 [int x_a.f_kind, int x_a.f_limit, .slice x_a_p1 x_a.f_buf.length x_a_c1, int x_a.f_from, .bool x_a.f_took, int x_a.f_bad, .bool x_a.f_whole, int x_a.f_got.Kind, str x_a.f_got.Method, str x_a.f_got.Target, int x_a.f_got.Code, str x_a.f_got.Reason, int x_a.f_got.Minor, .slice x_a_p2 x_a.f_got.Fields.length x_a_c2] 61, .row (.slice x_a_p1 x_a.f_buf.length x_a_c1) 5 1 x_a.f_buf.length (cells zh x_a.f_buf), .row (.slice x_a_p2 x_a.f_got.Fields.length x_a_c2) 69 2 x_a.f_got.Fields.length (cells za x_a.f_got.Fields)] := hst; zb (o := 1) zfz (hO.blkSees (i := 0) rfl) rfl hf rfl | 1, _, _, _, hst, hf => have hO : Dk.Own w0 F w [.row (.slice (σ.1) r11.1.Fields.length (σ.2)) 69 2 r11.1.Fields.length (cells za r11.1.Fields), .blk x_a_b0 [int x_a.f_kind, int x_a.f_limit, .slice x_a_p1 x_a.f_buf.length x_a_c1, int x_a.f_from, .bool x_a.f_took, int x_a.f_bad, .bool x_a.f_whole, int x_a.f_got.Kind, str x_a.f_got.Method, str x_a.f_got.Target, int x_a.f_got.Code, str x_a.f_got.Reason, int x_a.f_got.Minor, .slice x_a_p2 x_a.f_got.Fields.length x_a_c2] 61, .row (.slice x_a_p1 x_a.f_buf.length x_a_c1) 5 1 x_a.f_buf.length (cells zh x_a.f_buf), .row (.slice x_a_p2 x_a.f_got.Fields.length x_a_c2) 69 2 x_a.f_got.Fields.length (cells za x_a.f_got.Fields)] := hst; zb (o := 1) zfz (hO.blkSees (i := 1) rfl) rfl hf rfl | 2, _, _, hup, _, _ => absurd (hup 0 (by decide) (by kernel_rfl)) (by decide) | k + 3, hk, _, _, _, _ => absurd hk (by simp)), ziQ rfl (fun σ => rfl) (fun σ => rfl) rfl (fun σ a w (_ : _) hf => zt c_14 hf (vs := [int x_a.f_kind, str x_a.f_buf, int x_a.f_limit]) rfl) (fun σ w (hO : Dk.Own w0 F w [.blk x_a_b0 [int x_a.f_kind, int x_a.f_limit, .slice x_a_p1 x_a.f_buf.length x_a_c1, int x_a.f_from, .bool x_a.f_took, int x_a.f_bad, .bool x_a.f_whole, int x_a.f_got.Kind, str x_a.f_got.Method, str x_a.f_got.Target, int x_a.f_got.Code, str x_a.f_got.Reason, int x_a.f_got.Minor, .slice x_a_p2 x_a.f_got.Fields.length x_a_c2] 61, .row (.slice x_a_p1 x_a.f_buf.length x_a_c1) 5 1 x_a.f_buf.length (cells zh x_a.f_buf), .row (.slice x_a_p2 x_a.f_got.Fields.length x_a_c2) 69 2 x_a.f_got.Fields.length (cells za x_a.f_got.Fields)]) => (zpn x_a.f_kind x_a.f_buf x_a.f_limit r11 _ (hG.own hF hO) hr11).mono fun e w' h => by obtain ⟨p12, c13, he, hO'⟩ := h; exact ⟨(p12, c13), he, hO.call hO' (by simp [Res.shared]), .inr rfl, .inr rfl, .inr rfl, .inr rfl, .inr rfl, .inr rfl, .inr rfl, .inr rfl, .inr rfl, .inr rfl, .inr rfl, .inr rfl, .inr rfl, .inr rfl, .inl rfl, .inl rfl, .inl rfl, .inl rfl, .inr rfl, .inr rfl, .inl rfl, .inr rfl, trivial⟩), zk rfl (fun σ => rfl) (fun σ => rfl) (fun σ a w k _ _ _ _ hf => zp hf rfl), zk rfl (fun σ => rfl) (fun σ => rfl) (fun σ a w k _ _ _ _ hf => zcK hf rfl rfl), zk rfl (fun σ => rfl) (fun σ => rfl) (fun σ a w k _ _ _ _ hf => zcK hf rfl rfl), zk rfl (fun σ => rfl) (fun σ => rfl) (fun σ a w k _ _ _ _ hf => zag hf rfl), zk rfl (fun σ => rfl) (fun σ => rfl) (fun σ a w k _ _ _ _ hf => zao zrL hf rfl), zgp rfl (fun σ => rfl) (fun σ => rfl) rfl (fun σ w (hO : Dk.Own w0 F w [.row (.slice (σ.1) r11.1.Fields.length (σ.2)) 69 2 r11.1.Fields.length (cells za r11.1.Fields), .blk x_a_b0 [int x_a.f_kind, int x_a.f_limit, .slice x_a_p1 x_a.f_buf.length x_a_c1, int x_a.f_from, .bool x_a.f_took, int x_a.f_bad, .bool x_a.f_whole, int x_a.f_got.Kind, str x_a.f_got.Method, str x_a.f_got.Target, int x_a.f_got.Code, str x_a.f_got.Reason, int x_a.f_got.Minor, .slice x_a_p2 x_a.f_got.Fields.length x_a_c2] 61, .row (.slice x_a_p1 x_a.f_buf.length x_a_c1) 5 1 x_a.f_buf.length (cells zh x_a.f_buf), .row (.slice x_a_p2 x_a.f_got.Fields.length x_a_c2) 69 2 x_a.f_got.Fields.length (cells za x_a.f_got.Fields)]) => by obtain ⟨w', hO', hr⟩ := zsx (x := (.tmp 26)) (y := (.tmp 23)) (E := [(23, .agg #[int r11.1.Kind, str r11.1.Method, str r11.1.Target, int r11.1.Code, str r11.1.Reason, int r11.1.Minor, .slice (σ.1) r11.1.Fields.length (σ.2)]), (26, ptr x_a_b0 7)]) (i := 1) (n := 7) (o := 7) (vs := [int r11.1.Kind, str r11.1.Method, str r11.1.Target, int r11.1.Code, str r11.1.Reason, int r11.1.Minor, .slice (σ.1) r11.1.Fields.length (σ.2)]) (cs' := [int x_a.f_kind, int x_a.f_limit, .slice x_a_p1 x_a.f_buf.length x_a_c1, int x_a.f_from, .bool x_a.f_took, int x_a.f_bad, .bool x_a.f_whole, int r11.1.Kind, str r11.1.Method, str r11.1.Target, int r11.1.Code, str r11.1.Reason, int r11.1.Minor, .slice (σ.1) r11.1.Fields.length (σ.2)]) zA rfl rfl rfl (by simp [Value.oneCell']) rfl hO rfl rfl; exact ⟨((σ.1), (σ.2)), w', hO', ⟨.inr rfl, .inr rfl, .inr rfl, .inr rfl, .inr rfl, .inr rfl, .inr rfl, .inr rfl, .inr rfl, .inr rfl, .inr rfl, .inr rfl, .inr rfl, .inr rfl, .inr rfl, .inr rfl, .inr rfl, .inr rfl, .inr rfl, .inr rfl, .inr rfl, .inr rfl, trivial⟩, hr⟩), zk rfl (fun σ => rfl) (fun σ => rfl) (fun σ a w k _ _ _ _ hf => zaE hf rfl), trivial⟩ ?_
 rintro ⟨p12, c13⟩ a w hf hO
 have hO : Dk.Own w0 F w [.row (.slice p12 r11.1.Fields.length c13) 69 2 r11.1.Fields.length (cells za r11.1.Fields), .blk x_a_b0 [int x_a.f_kind, int x_a.f_limit, .slice x_a_p1 x_a.f_buf.length x_a_c1, int x_a.f_from, .bool x_a.f_took, int x_a.f_bad, .bool x_a.f_whole, int r11.1.Kind, str r11.1.Method, str r11.1.Target, int r11.1.Code, str r11.1.Reason, int r11.1.Minor, .slice p12 r11.1.Fields.length c13] 61, .row (.slice x_a_p1 x_a.f_buf.length x_a_c1) 5 1 x_a.f_buf.length (cells zh x_a.f_buf), .row (.slice x_a_p2 x_a.f_got.Fields.length x_a_c2) 69 2 x_a.f_got.Fields.length (cells za x_a.f_got.Fields)] := hO
 have hf : Fits 62 [(6, int r11.2)] a := (hf.cons rfl hf.nil)
 refine S.no tb ?_ hf hO hm
 refine re_ rfl fun a w hf hO hm => ?_
 obtain rfl := Option.some.inj hm
 exact zf Tryz.results51 hf (.tmp rfl (.tmp rfl .nil)) ⟨x_a_p1, x_a_c1, p12, c13, rfl, (hO.choose [1, 2, 0] rfl)⟩
 rintro a w ⟨i16, hf, hO, hm⟩
 rw [zcd] at hm
 refine S.co tb ?_ hf hO hm
 refine vl rfl rfl (fun a w hf hO => zb (o := 2) zjy (hO.blkSees (i := 0) rfl) rfl hf rfl) ?_
 refine rw_ rfl fun a w hf hO hm => ?_
 refine zV (i := 0) (o := 3) (v := int (x_a.f_buf.length : Int)) zrb rfl rfl rfl rfl hf rfl rfl hO fun w hO => ?_
 refine S.op tb ?_ hf hO hm
 refine re_ rfl fun a w hf hO hm => ?_
 obtain rfl := Option.some.inj hm
 exact zf Tryz.results51 hf (.tmp rfl (.tmp rfl .nil)) ⟨x_a_p1, x_a_c1, x_a_p2, x_a_c2, rfl, hO⟩

theorem zkz (x_a : accum_Accum) (x_b : UInt8) (R : Bool × Int × accum_Accum) (w0 : World) (hG : zbB w0) {x_a_b0 : Nat} {x_a_p1 : Option Addr} {x_a_c1 : Nat} {x_a_p2 : Option Addr} {x_a_c2 : Nat} {F : List Nat} (hF : zG F) (hO : Dk.Own w0 F w0 [.blk x_a_b0 [int x_a.f_kind, int x_a.f_limit, .slice x_a_p1 x_a.f_buf.length x_a_c1, int x_a.f_from, .bool x_a.f_took, int x_a.f_bad, .bool x_a.f_whole, int x_a.f_got.Kind, str x_a.f_got.Method, str x_a.f_got.Target, int x_a.f_got.Code, str x_a.f_got.Reason, int x_a.f_got.Minor, .slice x_a_p2 x_a.f_got.Fields.length x_a_c2] 61, .row (.slice x_a_p1 x_a.f_buf.length x_a_c1) 5 1 x_a.f_buf.length (cells zh x_a.f_buf), .row (.slice x_a_p2 x_a.f_got.Fields.length x_a_c2) 69 2 x_a.f_got.Fields.length (cells za x_a.f_got.Fields)]) (hm : zcv x_a x_b = some R) :
    Calls Tryz.prog 27 #[ptr x_a_b0 0, zY x_b] w0 fun e w' => ∃ (p0 : Option Addr) (c0 : Nat) (p1 : Option Addr) (c1 : Nat), e = .returned (.tuple #[.bool R.1, int R.2.1]) ∧ Dk.Own w0 F w' [.blk x_a_b0 [int R.2.2.f_kind, int R.2.2.f_limit, .slice p0 R.2.2.f_buf.length c0, int R.2.2.f_from, .bool R.2.2.f_took, int R.2.2.f_bad, .bool R.2.2.f_whole, int R.2.2.f_got.Kind, str R.2.2.f_got.Method, str R.2.2.f_got.Target, int R.2.2.f_got.Code, str R.2.2.f_got.Reason, int R.2.2.f_got.Minor, .slice p1 R.2.2.f_got.Fields.length c1] 61, .row (.slice p0 R.2.2.f_buf.length c0) 5 1 R.2.2.f_buf.length (cells zh R.2.2.f_buf), .row (.slice p1 R.2.2.f_got.Fields.length c1) 69 2 R.2.2.f_got.Fields.length (cells za R.2.2.f_got.Fields)] := by
 rw [zcv] at hm
 refine S.enter tb Tryz.func27 rfl Tryz.ntmps27 rfl ?_ hO hm
 refine rc_ rfl fun a w hf hO hm => ?_
 refine zfT (by kernel_rfl) (by kernel_rfl) hO ?_
 refine zn (fun w hO => zp hf rfl) rfl hf rfl rfl fun a hf => ?_
 refine zn (fun w hO => zag hf rfl) rfl hf rfl rfl fun a hf => ?_
 refine zn (fun w hO => zao zk5 hf rfl) rfl hf rfl rfl fun a hf => ?_
 refine zn (fun w hO => zb (o := 2) zjy (hO.blkSees (i := 0) rfl) rfl hf rfl) rfl hf rfl rfl fun a hf => ?_
 refine zn (fun w hO => znR Tryz.underlying23 hf rfl) rfl hf rfl rfl fun a hf => ?_
 refine zn (fun w hO => zp hf rfl) rfl hf rfl rfl fun a hf => ?_
 refine zn (fun w hO => zag hf rfl) rfl hf rfl rfl fun a hf => ?_
 refine zn (fun w hO => zao zpu hf rfl) rfl hf rfl rfl fun a hf => ?_
 refine zn (fun w hO => zb (o := 1) zfz (hO.blkSees (i := 0) rfl) rfl hf rfl) rfl hf rfl rfl fun a hf => ?_
 refine zn (fun w hO => ztY (m := (x_a.f_buf.length : Int)) (n := x_a.f_limit) hf rfl rfl) rfl hf rfl rfl fun a hf => ?_
 refine wpQuiet_nil ?_
 intro w hO
 refine S.no tb ?_ hf hO hm
 refine br rfl (fun hc3 => ?_) fun hc3 => ?_
 refine re_ rfl fun a w hf hO hm => ?_
 obtain rfl := Option.some.inj hm
 exact zf Tryz.results27 hf (.tmp rfl (.tmp rfl .nil)) ⟨x_a_p1, x_a_c1, x_a_p2, x_a_c2, rfl, hO⟩
 refine vl rfl rfl (fun a w hf hO => zb (o := 2) zjy (hO.blkSees (i := 0) rfl) rfl hf rfl) ?_
 refine rw_ rfl fun a w hf hO hm => ?_
 refine zS (vs := [(0, zY x_b)]) (cs := [zY x_b]) (e := 5) (sz := 1) hf rfl rfl (fun w => by kernel_rfl) rfl rfl hO fun a b6 w hf hO => ?_
 refine S.op tb ?_ hf hO hm
 refine rw_ rfl fun a w hf hO hm => ?_
 obtain ⟨hg9, hm⟩ := og hm
 refine zdD el_23 (enc := zh) (xs := x_a.f_buf) (ys := [x_b]) (i := 2) (fun _ => rfl) rfl (hO.rowSees (i := 0) rfl) (by simp [cells, zh, Value.oneCell']) hg9 hf rfl rfl rfl hO fun a p7 c8 w hf hO => ?_
 refine S.op tb ?_ hf hO hm
 refine rw_ rfl fun a w hf hO hm => ?_
 refine zV (i := 1) (o := 2) (v := .slice p7 ((x_a.f_buf ++ [x_b]).length) c8) sz_23 rfl rfl rfl rfl hf rfl rfl hO fun w hO => ?_
 refine S.op tb ?_ hf hO hm
 refine cl c_50 rfl (fun r11 w hr11 hO => zkB (⟨x_a.f_kind, x_a.f_limit, x_a.f_buf ++ [x_b], x_a.f_from, x_a.f_took, x_a.f_bad, x_a.f_whole, x_a.f_got⟩ : accum_Accum) r11 _ (hG.own hF hO).1 (hO.blkSees (i := 1) rfl) (hO.rowSees (i := 2) rfl) (hO.rowCap (i := 2) rfl) (hO.rowSees (i := 3) rfl) (hO.rowCap (i := 3) rfl) hr11) fun r11 hr11 => ?_
 refine br rfl (fun hc13 => ?_) fun hc13 => ?_
 refine re_ rfl fun a w hf hO hm => ?_
 obtain rfl := Option.some.inj hm
 exact zf Tryz.results27 hf (.tmp rfl (.tmp rfl .nil)) ⟨p7, c8, x_a_p2, x_a_c2, rfl, (hO.sub (.cons _ (.cons_cons _ (.cons_cons _ (.cons_cons _ .slnil)))))⟩
 refine vl rfl rfl (fun a w hf hO => zcJ (b := x_b) (c := 10) hf rfl rfl) ?_
 refine br rfl (fun hc17 => ?_) fun hc17 => ?_
 refine re_ rfl fun a w hf hO hm => ?_
 obtain rfl := Option.some.inj hm
 exact zf Tryz.results27 hf (.tmp rfl (.tmp rfl .nil)) ⟨p7, c8, x_a_p2, x_a_c2, rfl, (hO.sub (.cons _ (.cons_cons _ (.cons_cons _ (.cons_cons _ .slnil)))))⟩
 refine rc_ rfl fun a w hf hO hm => ?_
 obtain ⟨i20, hi20, hm⟩ := ob hm
 obtain ⟨l21, hl21, hm⟩ := ob hm
 obtain ⟨p22, c23, hrl21, hVl21, hCl21, _⟩ := zti (enc := zh) (xs := x_a.f_buf ++ [x_b]) 23 Tryz.underlying23 sz_5 (fun _ => rfl) (hO.rowSees (i := 2) rfl) (hO.rowCap (i := 2) rfl) hl21
 obtain ⟨r24, hr24, hm⟩ := ob hm
 refine zfy (S := Option Addr × Nat × Option Addr × Nat) (E0 := [(0, ptr x_a_b0 0)]) (by kernel_rfl) (fun k σ w => match k with | 0 => Dk.Own w0 F w [.row (.slice (some ⟨b6, 0, none⟩) ([x_b].length) 1) 5 1 ([x_b].length) (cells zh [x_b]), .blk x_a_b0 [int x_a.f_kind, int x_a.f_limit, .slice p7 ((x_a.f_buf ++ [x_b]).length) c8, int x_a.f_from, .bool x_a.f_took, int x_a.f_bad, .bool x_a.f_whole, int x_a.f_got.Kind, str x_a.f_got.Method, str x_a.f_got.Target, int x_a.f_got.Code, str x_a.f_got.Reason, int x_a.f_got.Minor, .slice x_a_p2 x_a.f_got.Fields.length x_a_c2] 61, .row (.slice p7 ((x_a.f_buf ++ [x_b]).length) c8) 5 1 ((x_a.f_buf ++ [x_b]).length) (cells zh (x_a.f_buf ++ [x_b])), .row (.slice x_a_p2 x_a.f_got.Fields.length x_a_c2) 69 2 x_a.f_got.Fields.length (cells za x_a.f_got.Fields)] | _ => Dk.Own w0 F w [.blk x_a_b0 [int r24.2.2.f_kind, int r24.2.2.f_limit, .slice (σ.1) r24.2.2.f_buf.length (σ.2.1), int r24.2.2.f_from, .bool r24.2.2.f_took, int r24.2.2.f_bad, .bool r24.2.2.f_whole, int r24.2.2.f_got.Kind, str r24.2.2.f_got.Method, str r24.2.2.f_got.Target, int r24.2.2.f_got.Code, str r24.2.2.f_got.Reason, int r24.2.2.f_got.Minor, .slice (σ.2.2.1) r24.2.2.f_got.Fields.length (σ.2.2.2)] 61, .row (.slice (σ.1) r24.2.2.f_buf.length (σ.2.1)) 5 1 r24.2.2.f_buf.length (cells zh r24.2.2.f_buf), .row (.slice (σ.2.2.1) r24.2.2.f_got.Fields.length (σ.2.2.2)) 69 2 r24.2.2.f_got.Fields.length (cells za r24.2.2.f_got.Fields), .row (.slice (some ⟨b6, 0, none⟩) ([x_b].length) 1) 5 1 ([x_b].length) (cells zh [x_b])]) (fun σ => [⟨[(0, ptr x_a_b0 0)], some (30, ptr x_a_b0 0)⟩, ⟨[(0, ptr x_a_b0 0)], some (31, ptr x_a_b0 0)⟩, ⟨[(31, ptr x_a_b0 0)], some (32, ptr x_a_b0 0)⟩, ⟨[(32, ptr x_a_b0 0)], some (33, ptr x_a_b0 2)⟩, ⟨[(33, ptr x_a_b0 2)], some (34, .slice p7 ((x_a.f_buf ++ [x_b]).length) c8)⟩, ⟨[(0, ptr x_a_b0 0)], some (35, ptr x_a_b0 0)⟩, ⟨[(35, ptr x_a_b0 0)], some (36, ptr x_a_b0 0)⟩, ⟨[(36, ptr x_a_b0 0)], some (37, ptr x_a_b0 3)⟩, ⟨[(37, ptr x_a_b0 3)], some (38, int x_a.f_from)⟩, ⟨[(0, ptr x_a_b0 0)], some (39, ptr x_a_b0 0)⟩, ⟨[(39, ptr x_a_b0 0)], some (40, ptr x_a_b0 0)⟩, ⟨[(40, ptr x_a_b0 0)], some (41, ptr x_a_b0 2)⟩, ⟨[(41, ptr x_a_b0 2)], some (42, .slice p7 ((x_a.f_buf ++ [x_b]).length) c8)⟩, ⟨[(42, .slice p7 ((x_a.f_buf ++ [x_b]).length) c8)], some (43, int (((x_a.f_buf ++ [x_b]).length : Int)))⟩, ⟨[(43, int (((x_a.f_buf ++ [x_b]).length : Int)))], some (44, int i20)⟩, ⟨[(34, .slice p7 ((x_a.f_buf ++ [x_b]).length) c8), (38, int x_a.f_from), (44, int i20)], some (45, .slice p22 l21.length c23)⟩, ⟨[(45, .slice p22 l21.length c23)], some (46, str l21)⟩, ⟨[(30, ptr x_a_b0 0), (46, str l21)], some (47, .tuple #[.bool r24.1, int r24.2.1])⟩, ⟨[(47, .tuple #[.bool r24.1, int r24.2.1])], some (48, .bool r24.1)⟩, ⟨[(47, .tuple #[.bool r24.1, int r24.2.1])], some (49, int r24.2.1)⟩, ⟨[(48, .bool r24.1)], some (4, .bool r24.1)⟩, ⟨[(49, int r24.2.1)], some (5, int r24.2.1)⟩]) (none, 0, none, 0) [17] rfl (fun _ => rfl) (fun _ => rfl) (fun _ => rfl) rfl rfl (by decide) rfl hO.drew (hf.cons rfl hf.nil) (fun σ => ⟨⟨rfl, trivial⟩, ⟨rfl, trivial⟩, ⟨rfl, trivial⟩, ⟨rfl, trivial⟩, ⟨rfl, trivial⟩, ⟨rfl, trivial⟩, ⟨rfl, trivial⟩, ⟨rfl, trivial⟩, ⟨rfl, trivial⟩, ⟨rfl, trivial⟩, ⟨rfl, trivial⟩, ⟨rfl, trivial⟩, ⟨rfl, trivial⟩, ⟨rfl, trivial⟩, ⟨rfl, trivial⟩, ⟨rfl, rfl, rfl, trivial⟩, ⟨rfl, trivial⟩, ⟨rfl, rfl, trivial⟩, ⟨rfl, trivial⟩, ⟨rfl, trivial⟩, ⟨rfl, trivial⟩, ⟨rfl, trivial⟩, trivial⟩) ⟨zk rfl (fun σ => rfl) (fun σ => rfl) (fun σ a w k _ _ _ _ hf => zp hf rfl), zk rfl (fun σ => rfl) (fun σ => rfl) (fun σ a w k _ _ _ _ hf => zp hf rfl), zk rfl (fun σ => rfl) (fun σ => rfl) (fun σ a w k _ _ _ _ hf => zag hf rfl), zk rfl (fun σ => rfl) (fun σ => rfl) (fun σ a w k _ _ _ _ hf => zao zk5 hf rfl), zk rfl (fun σ => rfl) (fun σ => rfl) (fun σ a w k hk hlo hup hst hf => match k, hk, hlo, hup, hst, hf with | 0, _, _, _, hst, hf => have hO : Dk.Own w0 F w [.row (.slice (some ⟨b6, 0, none⟩) ([x_b].length) 1) 5 1 ([x_b].length) (cells zh [x_b]), .blk x_a_b0 [int x_a.f_kind, int x_a.f_limit, .slice p7 ((x_a.f_buf ++ [x_b]).length) c8, int x_a.f_from, .bool x_a.f_took, int x_a.f_bad, .bool x_a.f_whole, int x_a.f_got.Kind, str x_a.f_got.Method, str x_a.f_got.Target, int x_a.f_got.Code, str x_a.f_got.Reason, int x_a.f_got.Minor, .slice x_a_p2 x_a.f_got.Fields.length x_a_c2] 61, .row (.slice p7 ((x_a.f_buf ++ [x_b]).length) c8) 5 1 ((x_a.f_buf ++ [x_b]).length) (cells zh (x_a.f_buf ++ [x_b])), .row (.slice x_a_p2 x_a.f_got.Fields.length x_a_c2) 69 2 x_a.f_got.Fields.length (cells za x_a.f_got.Fields)] := hst; zb (o := 2) zjy (hO.blkSees (i := 1) rfl) rfl hf rfl | 1, _, _, hup, _, _ => absurd (hup 0 (by decide) (by kernel_rfl)) (by decide) | k + 2, hk, _, _, _, _ => absurd hk (by simp)), zk rfl (fun σ => rfl) (fun σ => rfl) (fun σ a w k _ _ _ _ hf => zp hf rfl), zk rfl (fun σ => rfl) (fun σ => rfl) (fun σ a w k _ _ _ _ hf => zag hf rfl), zk rfl (fun σ => rfl) (fun σ => rfl) (fun σ a w k _ _ _ _ hf => zao zrI hf rfl), zk rfl (fun σ => rfl) (fun σ => rfl) (fun σ a w k hk hlo hup hst hf => match k, hk, hlo, hup, hst, hf with | 0, _, _, _, hst, hf => have hO : Dk.Own w0 F w [.row (.slice (some ⟨b6, 0, none⟩) ([x_b].length) 1) 5 1 ([x_b].length) (cells zh [x_b]), .blk x_a_b0 [int x_a.f_kind, int x_a.f_limit, .slice p7 ((x_a.f_buf ++ [x_b]).length) c8, int x_a.f_from, .bool x_a.f_took, int x_a.f_bad, .bool x_a.f_whole, int x_a.f_got.Kind, str x_a.f_got.Method, str x_a.f_got.Target, int x_a.f_got.Code, str x_a.f_got.Reason, int x_a.f_got.Minor, .slice x_a_p2 x_a.f_got.Fields.length x_a_c2] 61, .row (.slice p7 ((x_a.f_buf ++ [x_b]).length) c8) 5 1 ((x_a.f_buf ++ [x_b]).length) (cells zh (x_a.f_buf ++ [x_b])), .row (.slice x_a_p2 x_a.f_got.Fields.length x_a_c2) 69 2 x_a.f_got.Fields.length (cells za x_a.f_got.Fields)] := hst; zb (o := 3) zfz (hO.blkSees (i := 1) rfl) rfl hf rfl | 1, _, _, hup, _, _ => absurd (hup 0 (by decide) (by kernel_rfl)) (by decide) | k + 2, hk, _, _, _, _ => absurd hk (by simp)), zk rfl (fun σ => rfl) (fun σ => rfl) (fun σ a w k _ _ _ _ hf => zp hf rfl), zk rfl (fun σ => rfl) (fun σ => rfl) (fun σ a w k _ _ _ _ hf => zag hf rfl), zk rfl (fun σ => rfl) (fun σ => rfl) (fun σ a w k _ _ _ _ hf => zao zk5 hf rfl), zk rfl (fun σ => rfl) (fun σ => rfl) (fun σ a w k hk hlo hup hst hf => match k, hk, hlo, hup, hst, hf with | 0, _, _, _, hst, hf => have hO : Dk.Own w0 F w [.row (.slice (some ⟨b6, 0, none⟩) ([x_b].length) 1) 5 1 ([x_b].length) (cells zh [x_b]), .blk x_a_b0 [int x_a.f_kind, int x_a.f_limit, .slice p7 ((x_a.f_buf ++ [x_b]).length) c8, int x_a.f_from, .bool x_a.f_took, int x_a.f_bad, .bool x_a.f_whole, int x_a.f_got.Kind, str x_a.f_got.Method, str x_a.f_got.Target, int x_a.f_got.Code, str x_a.f_got.Reason, int x_a.f_got.Minor, .slice x_a_p2 x_a.f_got.Fields.length x_a_c2] 61, .row (.slice p7 ((x_a.f_buf ++ [x_b]).length) c8) 5 1 ((x_a.f_buf ++ [x_b]).length) (cells zh (x_a.f_buf ++ [x_b])), .row (.slice x_a_p2 x_a.f_got.Fields.length x_a_c2) 69 2 x_a.f_got.Fields.length (cells za x_a.f_got.Fields)] := hst; zb (o := 2) zjy (hO.blkSees (i := 1) rfl) rfl hf rfl | 1, _, _, hup, _, _ => absurd (hup 0 (by decide) (by kernel_rfl)) (by decide) | k + 2, hk, _, _, _, _ => absurd hk (by simp)), zk rfl (fun σ => rfl) (fun σ => rfl) (fun σ a w k _ _ _ _ hf => znR Tryz.underlying23 hf rfl), zk rfl (fun σ => rfl) (fun σ => rfl) (fun σ a w k _ _ _ _ hf => zrl hf rfl rfl hi20), zk rfl (fun σ => rfl) (fun σ => rfl) (fun σ a w k _ _ _ _ hf => zqp Tryz.underlying23 hrl21 hf rfl rfl rfl), zk rfl (fun σ => rfl) (fun σ => rfl) (fun σ a w k hk hlo hup hst hf => match k, hk, hlo, hup, hst, hf with | 0, _, _, _, hst, hf => have hO : Dk.Own w0 F w [.row (.slice (some ⟨b6, 0, none⟩) ([x_b].length) 1) 5 1 ([x_b].length) (cells zh [x_b]), .blk x_a_b0 [int x_a.f_kind, int x_a.f_limit, .slice p7 ((x_a.f_buf ++ [x_b]).length) c8, int x_a.f_from, .bool x_a.f_took, int x_a.f_bad, .bool x_a.f_whole, int x_a.f_got.Kind, str x_a.f_got.Method, str x_a.f_got.Target, int x_a.f_got.Code, str x_a.f_got.Reason, int x_a.f_got.Minor, .slice x_a_p2 x_a.f_got.Fields.length x_a_c2] 61, .row (.slice p7 ((x_a.f_buf ++ [x_b]).length) c8) 5 1 ((x_a.f_buf ++ [x_b]).length) (cells zh (x_a.f_buf ++ [x_b])), .row (.slice x_a_p2 x_a.f_got.Fields.length x_a_c2) 69 2 x_a.f_got.Fields.length (cells za x_a.f_got.Fields)] := hst; ziP (en := zh) (l := l21) (fun _ => rfl) Tryz.underlying9 Tryz.underlying23 Tryz.underlying5 (hVl21 _ (hO.rowSees (i := 2) rfl)) hf rfl | 1, _, _, hup, _, _ => absurd (hup 0 (by decide) (by kernel_rfl)) (by decide) | k + 2, hk, _, _, _, _ => absurd hk (by simp)), ziQ rfl (fun σ => rfl) (fun σ => rfl) rfl (fun σ a w (_ : _) hf => zt c_51 hf (vs := [ptr x_a_b0 0, str l21]) rfl) (fun σ w (hO : Dk.Own w0 F w [.row (.slice (some ⟨b6, 0, none⟩) ([x_b].length) 1) 5 1 ([x_b].length) (cells zh [x_b]), .blk x_a_b0 [int x_a.f_kind, int x_a.f_limit, .slice p7 ((x_a.f_buf ++ [x_b]).length) c8, int x_a.f_from, .bool x_a.f_took, int x_a.f_bad, .bool x_a.f_whole, int x_a.f_got.Kind, str x_a.f_got.Method, str x_a.f_got.Target, int x_a.f_got.Code, str x_a.f_got.Reason, int x_a.f_got.Minor, .slice x_a_p2 x_a.f_got.Fields.length x_a_c2] 61, .row (.slice p7 ((x_a.f_buf ++ [x_b]).length) c8) 5 1 ((x_a.f_buf ++ [x_b]).length) (cells zh (x_a.f_buf ++ [x_b])), .row (.slice x_a_p2 x_a.f_got.Fields.length x_a_c2) 69 2 x_a.f_got.Fields.length (cells za x_a.f_got.Fields)]) => (zky (⟨x_a.f_kind, x_a.f_limit, x_a.f_buf ++ [x_b], x_a.f_from, x_a.f_took, x_a.f_bad, x_a.f_whole, x_a.f_got⟩ : accum_Accum) l21 r24 _ (hG.own hF hO) (Dk.Own.far (show Dk.Own w0 F _ ([.blk x_a_b0 [int x_a.f_kind, int x_a.f_limit, .slice p7 ((x_a.f_buf ++ [x_b]).length) c8, int x_a.f_from, .bool x_a.f_took, int x_a.f_bad, .bool x_a.f_whole, int x_a.f_got.Kind, str x_a.f_got.Method, str x_a.f_got.Target, int x_a.f_got.Code, str x_a.f_got.Reason, int x_a.f_got.Minor, .slice x_a_p2 x_a.f_got.Fields.length x_a_c2] 61, .row (.slice p7 ((x_a.f_buf ++ [x_b]).length) c8) 5 1 ((x_a.f_buf ++ [x_b]).length) (cells zh (x_a.f_buf ++ [x_b])), .row (.slice x_a_p2 x_a.f_got.Fields.length x_a_c2) 69 2 x_a.f_got.Fields.length (cells za x_a.f_got.Fields)] ++ [.row (.slice (some ⟨b6, 0, none⟩) ([x_b].length) 1) 5 1 ([x_b].length) (cells zh [x_b])]) from hO.choose [1, 2, 3, 0] rfl) rfl hF hG.size) ((show Dk.Own w0 F _ ([.blk x_a_b0 [int x_a.f_kind, int x_a.f_limit, .slice p7 ((x_a.f_buf ++ [x_b]).length) c8, int x_a.f_from, .bool x_a.f_took, int x_a.f_bad, .bool x_a.f_whole, int x_a.f_got.Kind, str x_a.f_got.Method, str x_a.f_got.Target, int x_a.f_got.Code, str x_a.f_got.Reason, int x_a.f_got.Minor, .slice x_a_p2 x_a.f_got.Fields.length x_a_c2] 61, .row (.slice p7 ((x_a.f_buf ++ [x_b]).length) c8) 5 1 ((x_a.f_buf ++ [x_b]).length) (cells zh (x_a.f_buf ++ [x_b])), .row (.slice x_a_p2 x_a.f_got.Fields.length x_a_c2) 69 2 x_a.f_got.Fields.length (cells za x_a.f_got.Fields)] ++ [.row (.slice (some ⟨b6, 0, none⟩) ([x_b].length) 1) 5 1 ([x_b].length) (cells zh [x_b])]) from hO.choose [1, 2, 3, 0] rfl).lend (S := []) rfl trivial) hr24).mono fun e w' h => by obtain ⟨p25, c26, p27, c28, he, hO'⟩ := h; exact ⟨(p25, c26, p27, c28), he, (show Dk.Own w0 F _ ([.blk x_a_b0 [int x_a.f_kind, int x_a.f_limit, .slice p7 ((x_a.f_buf ++ [x_b]).length) c8, int x_a.f_from, .bool x_a.f_took, int x_a.f_bad, .bool x_a.f_whole, int x_a.f_got.Kind, str x_a.f_got.Method, str x_a.f_got.Target, int x_a.f_got.Code, str x_a.f_got.Reason, int x_a.f_got.Minor, .slice x_a_p2 x_a.f_got.Fields.length x_a_c2] 61, .row (.slice p7 ((x_a.f_buf ++ [x_b]).length) c8) 5 1 ((x_a.f_buf ++ [x_b]).length) (cells zh (x_a.f_buf ++ [x_b])), .row (.slice x_a_p2 x_a.f_got.Fields.length x_a_c2) 69 2 x_a.f_got.Fields.length (cells za x_a.f_got.Fields)] ++ [.row (.slice (some ⟨b6, 0, none⟩) ([x_b].length) 1) 5 1 ([x_b].length) (cells zh [x_b])]) from hO.choose [1, 2, 3, 0] rfl).back rfl hO' rfl, .inr rfl, .inr rfl, .inr rfl, .inr rfl, .inr rfl, .inr rfl, .inr rfl, .inr rfl, .inr rfl, .inr rfl, .inr rfl, .inr rfl, .inr rfl, .inr rfl, .inr rfl, .inr rfl, .inr rfl, .inr rfl, .inr rfl, .inr rfl, .inr rfl, .inr rfl, trivial⟩), zk rfl (fun σ => rfl) (fun σ => rfl) (fun σ a w k _ _ _ _ hf => zcK hf rfl rfl), zk rfl (fun σ => rfl) (fun σ => rfl) (fun σ a w k _ _ _ _ hf => zcK hf rfl rfl), zk rfl (fun σ => rfl) (fun σ => rfl) (fun σ a w k _ _ _ _ hf => zaE hf rfl), zk rfl (fun σ => rfl) (fun σ => rfl) (fun σ a w k _ _ _ _ hf => zaE hf rfl), trivial⟩ ?_
 rintro ⟨p25, c26, p27, c28⟩ a w hf hO
 have hO : Dk.Own w0 F w [.blk x_a_b0 [int r24.2.2.f_kind, int r24.2.2.f_limit, .slice p25 r24.2.2.f_buf.length c26, int r24.2.2.f_from, .bool r24.2.2.f_took, int r24.2.2.f_bad, .bool r24.2.2.f_whole, int r24.2.2.f_got.Kind, str r24.2.2.f_got.Method, str r24.2.2.f_got.Target, int r24.2.2.f_got.Code, str r24.2.2.f_got.Reason, int r24.2.2.f_got.Minor, .slice p27 r24.2.2.f_got.Fields.length c28] 61, .row (.slice p25 r24.2.2.f_buf.length c26) 5 1 r24.2.2.f_buf.length (cells zh r24.2.2.f_buf), .row (.slice p27 r24.2.2.f_got.Fields.length c28) 69 2 r24.2.2.f_got.Fields.length (cells za r24.2.2.f_got.Fields), .row (.slice (some ⟨b6, 0, none⟩) ([x_b].length) 1) 5 1 ([x_b].length) (cells zh [x_b])] := hO
 have hf : Fits 50 [(4, .bool r24.1), (5, int r24.2.1)] a := (hf.cons rfl (hf.cons rfl hf.nil))
 refine S.no tb ?_ hf hO hm
 refine re_ rfl fun a w hf hO hm => ?_
 obtain rfl := Option.some.inj hm
 exact zf Tryz.results27 hf (.tmp rfl (.tmp rfl .nil)) ⟨p25, c26, p27, c28, rfl, (hO.sub (.cons_cons _ (.cons_cons _ (.cons_cons _ (.cons _ .slnil)))))⟩

theorem zfg (x_a0 : accum_Accum) (x_a1 : Str) (R : Int × Bool × Int × accum_Accum) (w0 : World) (hG : zbB w0) {x_a0_b0 : Nat} {x_a0_p1 : Option Addr} {x_a0_c1 : Nat} {x_a0_p2 : Option Addr} {x_a0_c2 : Nat} {F : List Nat} (hF : zG F) (hO : Dk.Own w0 F w0 [.blk x_a0_b0 [int x_a0.f_kind, int x_a0.f_limit, .slice x_a0_p1 x_a0.f_buf.length x_a0_c1, int x_a0.f_from, .bool x_a0.f_took, int x_a0.f_bad, .bool x_a0.f_whole, int x_a0.f_got.Kind, str x_a0.f_got.Method, str x_a0.f_got.Target, int x_a0.f_got.Code, str x_a0.f_got.Reason, int x_a0.f_got.Minor, .slice x_a0_p2 x_a0.f_got.Fields.length x_a0_c2] 61, .row (.slice x_a0_p1 x_a0.f_buf.length x_a0_c1) 5 1 x_a0.f_buf.length (cells zh x_a0.f_buf), .row (.slice x_a0_p2 x_a0.f_got.Fields.length x_a0_c2) 69 2 x_a0.f_got.Fields.length (cells za x_a0.f_got.Fields)]) (hm : zak x_a0 x_a1 = some R) :
    Calls Tryz.prog 10 #[ptr x_a0_b0 0, str x_a1] w0 fun e w' => ∃ (p0 : Option Addr) (c0 : Nat) (p1 : Option Addr) (c1 : Nat), e = .returned (.tuple #[int R.1, .bool R.2.1, int R.2.2.1]) ∧ Dk.Own w0 F w' [.blk x_a0_b0 [int R.2.2.2.f_kind, int R.2.2.2.f_limit, .slice p0 R.2.2.2.f_buf.length c0, int R.2.2.2.f_from, .bool R.2.2.2.f_took, int R.2.2.2.f_bad, .bool R.2.2.2.f_whole, int R.2.2.2.f_got.Kind, str R.2.2.2.f_got.Method, str R.2.2.2.f_got.Target, int R.2.2.2.f_got.Code, str R.2.2.2.f_got.Reason, int R.2.2.2.f_got.Minor, .slice p1 R.2.2.2.f_got.Fields.length c1] 61, .row (.slice p0 R.2.2.2.f_buf.length c0) 5 1 R.2.2.2.f_buf.length (cells zh R.2.2.2.f_buf), .row (.slice p1 R.2.2.2.f_got.Fields.length c1) 69 2 R.2.2.2.f_got.Fields.length (cells za R.2.2.2.f_got.Fields)] := by
 rw [zak] at hm
 refine S.enter tb Tryz.func10 rfl Tryz.ntmps10 rfl ?_ hO hm
 refine vl rfl rfl (fun a w hf hO => zdo Tryz.underlying25 hf rfl rfl) ?_
 refine kn (b' := false) rfl rfl ?_
 refine jn 2 (fun a w => ∃ (t4 : Bool), Fits 72 [(0, ptr x_a0_b0 0), (1, str x_a1), (11, .bool t4)] a ∧ Dk.Own w0 F w [.blk x_a0_b0 [int x_a0.f_kind, int x_a0.f_limit, .slice x_a0_p1 x_a0.f_buf.length x_a0_c1, int x_a0.f_from, .bool x_a0.f_took, int x_a0.f_bad, .bool x_a0.f_whole, int x_a0.f_got.Kind, str x_a0.f_got.Method, str x_a0.f_got.Target, int x_a0.f_got.Code, str x_a0.f_got.Reason, int x_a0.f_got.Minor, .slice x_a0_p2 x_a0.f_got.Fields.length x_a0_c2] 61, .row (.slice x_a0_p1 x_a0.f_buf.length x_a0_c1) 5 1 x_a0.f_buf.length (cells zh x_a0.f_buf), .row (.slice x_a0_p2 x_a0.f_got.Fields.length x_a0_c2) 69 2 x_a0.f_got.Fields.length (cells za x_a0.f_got.Fields)] ∧ zbw x_a0 x_a1 t4 = some R) rfl ?_ ?_
 refine vl rfl rfl (fun a w hf hO => zb (o := 5) ztl (hO.blkSees (i := 0) rfl) rfl hf rfl) ?_
 refine br rfl (fun hc3 => ?_) fun hc3 => ?_
 exact en rfl fun a w hf hO hm => ⟨true, hf.sel rfl, hO, hm⟩
 refine vl rfl rfl (fun a w hf hO => zb (o := 6) ag_4 (hO.blkSees (i := 0) rfl) rfl hf rfl) ?_
 exact en rfl fun a w hf hO hm => ⟨x_a0.f_whole, hf.sel rfl, hO, hm⟩
 rintro a w ⟨t4, hf, hO, hm⟩
 rw [zbw] at hm
 refine S.co tb ?_ hf hO hm
 refine br rfl (fun hc5 => ?_) fun hc5 => ?_
 refine re_ rfl fun a w hf hO hm => ?_
 obtain rfl := Option.some.inj hm
 exact zf Tryz.results10 hf (.tmp rfl (.tmp rfl (.tmp rfl .nil))) ⟨x_a0_p1, x_a0_c1, x_a0_p2, x_a0_c2, rfl, hO⟩
 refine jn 0 (fun a w => ∃ (i49 : Int) (i50 : Int) (p51 : Option Addr) (c52 : Nat) (l53 : List UInt8) (i54 : Int) (t55 : Bool) (i56 : Int) (t57 : Bool) (i58 : Int) (s59 : Str) (s60 : Str) (i61 : Int) (s62 : Str) (i63 : Int) (p64 : Option Addr) (c65 : Nat) (l66 : List api_Field), Fits 72 [(1, str x_a1)] a ∧ Dk.Own w0 F w [.blk x_a0_b0 [int i49, int i50, .slice p51 l53.length c52, int i54, .bool t55, int i56, .bool t57, int i58, str s59, str s60, int i61, str s62, int i63, .slice p64 l66.length c65] 61, .row (.slice p51 l53.length c52) 5 1 l53.length (cells zh l53), .row (.slice p64 l66.length c65) 69 2 l66.length (cells za l66)] ∧ zc9 x_a1 i49 i50 l53 i54 t55 i56 t57 i58 s59 s60 i61 s62 i63 l66 = some R) rfl ?_ ?_
 refine lp (fun k a w => ∃ (i9 : Int) (i10 : Int) (p11 : Option Addr) (c12 : Nat) (l13 : List UInt8) (i14 : Int) (t15 : Bool) (i16 : Int) (t17 : Bool) (i18 : Int) (s19 : Str) (s20 : Str) (i21 : Int) (s22 : Str) (i23 : Int) (p24 : Option Addr) (c25 : Nat) (l26 : List api_Field) (i27 : Int), Fits 72 [(0, ptr x_a0_b0 0), (1, str x_a1), (24, int (x_a1.length : Int)), (25, int i27)] a ∧ Dk.Own w0 F w [.blk x_a0_b0 [int i9, int i10, .slice p11 l13.length c12, int i14, .bool t15, int i16, .bool t17, int i18, str s19, str s20, int i21, str s22, int i23, .slice p24 l26.length c25] 61, .row (.slice p11 l13.length c12) 5 1 l13.length (cells zh l13), .row (.slice p24 l26.length c25) 69 2 l26.length (cells za l26)] ∧ z7 x_a1 k i9 i10 l13 i14 t15 i16 t17 i18 s19 s20 i21 s22 i23 l26 i27 = some R) rfl (fun a w hf hO hm => ⟨x_a0.f_kind, x_a0.f_limit, x_a0_p1, x_a0_c1, x_a0.f_buf, x_a0.f_from, x_a0.f_took, x_a0.f_bad, x_a0.f_whole, x_a0.f_got.Kind, x_a0.f_got.Method, x_a0.f_got.Target, x_a0.f_got.Code, x_a0.f_got.Reason, x_a0.f_got.Minor, x_a0_p2, x_a0_c2, x_a0.f_got.Fields, 0, hf.sel rfl, hO, hm⟩) ?_
 rintro n2 a w ⟨i9, i10, p11, c12, l13, i14, t15, i16, t17, i18, s19, s20, i21, s22, i23, p24, c25, l26, i27, hf, hO, hm⟩
 obtain _ | n2 := n2
 rw [z7] at hm
 cases hm
 rw [z7] at hm
 refine S.co tb ?_ hf hO hm
 refine br rfl (fun hc29 => ?_) fun hc29 => ?_
 refine rw_ rfl fun a w hf hO hm => ?_
 refine zV (i := 0) (o := 4) (v := .bool true) sz_4 rfl rfl rfl rfl hf rfl rfl hO fun w hO => ?_
 refine S.op tb ?_ hf hO hm
 refine bi rfl fun b33 hb33 => ?_
 refine rw_ rfl fun a w hf hO hm => ?_
 obtain ⟨r34, hr34, hm⟩ := ob hm
 have hch39 := (show Dk.Own w0 F _ ([.blk x_a0_b0 [int i9, int i10, .slice p11 l13.length c12, int i14, .bool true, int i16, .bool t17, int i18, str s19, str s20, int i21, str s22, int i23, .slice p24 l26.length c25] 61, .row (.slice p11 l13.length c12) 5 1 l13.length (cells zh l13), .row (.slice p24 l26.length c25) 69 2 l26.length (cells za l26)] ++ []) from hO)
 have hfar39 := Dk.Own.far hch39 rfl hF hG.size
 have hlend39 := hch39.lend (S := []) rfl trivial
 have hcl39 := zkz ((⟨i9, i10, l13, i14, true, i16, t17, (⟨i18, s19, s20, i21, s22, i23, l26⟩ : api_Head)⟩ : accum_Accum)) b33 r34 _ (hG.own hF hO) hfar39 hlend39 hr34
 refine zv (zt c_27 hf (vs := [ptr x_a0_b0 0, zY b33]) rfl) rfl hf rfl rfl (hcl39) ?_
 rintro e w' ⟨p35, c36, p37, c38, he, hO'⟩
 refine ⟨_, he, fun a hf => ?_⟩
 have hO := hch39.back rfl hO' rfl
 refine S.op tb ?_ hf hO hm
 refine rw_ rfl fun a w hf hO hm => ?_
 refine zV (i := 0) (o := 6) (v := .bool r34.1) sz_4 rfl rfl rfl rfl hf rfl rfl hO fun w hO => ?_
 refine S.op tb ?_ hf hO hm
 refine rw_ rfl fun a w hf hO hm => ?_
 refine zV (i := 0) (o := 5) (v := int r34.2.1) sz_26 rfl rfl rfl rfl hf rfl rfl hO fun w hO => ?_
 refine S.op tb ?_ hf hO hm
 refine jn 5 (fun a w => ∃ (t42 : Bool), Fits 72 [(0, ptr x_a0_b0 0), (1, str x_a1), (7, int i27), (24, int (x_a1.length : Int)), (25, int i27), (55, .bool t42)] a ∧ Dk.Own w0 F w [.blk x_a0_b0 [int r34.2.2.f_kind, int r34.2.2.f_limit, .slice p35 r34.2.2.f_buf.length c36, int r34.2.2.f_from, .bool r34.2.2.f_took, int r34.2.1, .bool r34.1, int r34.2.2.f_got.Kind, str r34.2.2.f_got.Method, str r34.2.2.f_got.Target, int r34.2.2.f_got.Code, str r34.2.2.f_got.Reason, int r34.2.2.f_got.Minor, .slice p37 r34.2.2.f_got.Fields.length c38] 61, .row (.slice p35 r34.2.2.f_buf.length c36) 5 1 r34.2.2.f_buf.length (cells zh r34.2.2.f_buf), .row (.slice p37 r34.2.2.f_got.Fields.length c38) 69 2 r34.2.2.f_got.Fields.length (cells za r34.2.2.f_got.Fields)] ∧ zce (z7 x_a1 n2) i27 r34 t42 = some R) rfl ?_ ?_
 refine vl rfl rfl (fun a w hf hO => zb (o := 6) ag_4 (hO.blkSees (i := 0) rfl) rfl hf rfl) ?_
 refine br rfl (fun hc41 => ?_) fun hc41 => ?_
 exact en rfl fun a w hf hO hm => ⟨true, hf.sel rfl, hO, hm⟩
 refine vl rfl rfl (fun a w hf hO => zb (o := 5) ztl (hO.blkSees (i := 0) rfl) rfl hf rfl) ?_
 exact en rfl fun a w hf hO hm => ⟨!(r34.2.1 == 0), hf.sel rfl, hO, hm⟩
 rintro a w ⟨t42, hf, hO, hm⟩
 rw [zce] at hm
 refine S.co tb ?_ hf hO hm
 refine br rfl (fun hc43 => ?_) fun hc43 => ?_
 refine rw_ rfl fun a w hf hO hm => ?_
 refine zV (i := 0) (o := 2) (v := .slice none 0 0) sz_23 rfl rfl rfl rfl hf rfl rfl hO fun w hO => ?_
 have hO := hO.nilRow 5 1
 refine S.op tb ?_ hf hO hm
 refine rc_ rfl fun a w hf hO hm => ?_
 refine zfT (by kernel_rfl) (by kernel_rfl) hO ?_
 refine zn (fun w hO => zp hf rfl) rfl hf rfl rfl fun a hf => ?_
 obtain ⟨i45, hi45, hm⟩ := ob hm
 refine zn (fun w hO => zrk hf rfl rfl hi45) rfl hf rfl rfl fun a hf => ?_
 refine zn (fun w hO => zp hf rfl) rfl hf rfl rfl fun a hf => ?_
 refine zn (fun w hO => zag hf rfl) rfl hf rfl rfl fun a hf => ?_
 refine zn (fun w hO => zao zrK hf rfl) rfl hf rfl rfl fun a hf => ?_
 refine zn (fun w hO => zb (o := 6) ag_4 (hO.blkSees (i := 1) rfl) rfl hf rfl) rfl hf rfl rfl fun a hf => ?_
 refine zn (fun w hO => zp hf rfl) rfl hf rfl rfl fun a hf => ?_
 refine zn (fun w hO => zag hf rfl) rfl hf rfl rfl fun a hf => ?_
 refine zn (fun w hO => zao zrJ hf rfl) rfl hf rfl rfl fun a hf => ?_
 refine zn (fun w hO => zb (o := 5) ztl (hO.blkSees (i := 1) rfl) rfl hf rfl) rfl hf rfl rfl fun a hf => ?_
 refine zn (fun w hO => zaE hf rfl) rfl hf rfl rfl fun a hf => ?_
 refine zn (fun w hO => zaE hf rfl) rfl hf rfl rfl fun a hf => ?_
 refine zn (fun w hO => zaE hf rfl) rfl hf rfl rfl fun a hf => ?_
 refine wpQuiet_nil ?_
 intro w hO
 refine S.no tb ?_ hf hO hm
 refine re_ rfl fun a w hf hO hm => ?_
 obtain rfl := Option.some.inj hm
 exact zf Tryz.results10 hf (.tmp rfl (.tmp rfl (.tmp rfl .nil))) ⟨none, 0, p37, c38, rfl, (hO.choose [1, 0, 3] rfl)⟩
 refine bi rfl fun i48 hi48 => ?_
 exact en rfl fun a w hf hO hm => ⟨_, Nat.lt_succ_self _, r34.2.2.f_kind, r34.2.2.f_limit, p35, c36, r34.2.2.f_buf, r34.2.2.f_from, r34.2.2.f_took, r34.2.1, r34.1, r34.2.2.f_got.Kind, r34.2.2.f_got.Method, r34.2.2.f_got.Target, r34.2.2.f_got.Code, r34.2.2.f_got.Reason, r34.2.2.f_got.Minor, p37, c38, r34.2.2.f_got.Fields, i48, hf.sel rfl, hO, hm⟩
 exact en rfl fun a w hf hO hm => ⟨i9, i10, p11, c12, l13, i14, t15, i16, t17, i18, s19, s20, i21, s22, i23, p24, c25, l26, hf.sel rfl, hO, hm⟩
 rintro a w ⟨i49, i50, p51, c52, l53, i54, t55, i56, t57, i58, s59, s60, i61, s62, i63, p64, c65, l66, hf, hO, hm⟩
 rw [zc9] at hm
 refine S.co tb ?_ hf hO hm
 refine re_ rfl fun a w hf hO hm => ?_
 obtain rfl := Option.some.inj hm
 exact zf Tryz.results10 hf (.tmp rfl (.tmp rfl (.tmp rfl .nil))) ⟨p51, c52, p64, c65, rfl, hO⟩

end Go.Proofs
end
section
set_option linter.unusedVariables false
set_option maxHeartbeats 1000000
set_option linter.unusedSimpArgs false
set_option maxRecDepth 100000
namespace Go.Proofs
open Go.Dk Go.Dm Go.RowKit

theorem zg6 (x_a : accum_Accum) (R : api_Head × Bool) (w0 : World) (hG : zD w0) {x_a_b0 : Nat} {x_a_p1 : Option Addr} {x_a_c1 : Nat} {x_a_p2 : Option Addr} {x_a_c2 : Nat} (hs0 : zaw w0 (some ⟨x_a_b0, 0, none⟩) [int x_a.f_kind, int x_a.f_limit, .slice x_a_p1 x_a.f_buf.length x_a_c1, int x_a.f_from, .bool x_a.f_took, int x_a.f_bad, .bool x_a.f_whole, int x_a.f_got.Kind, str x_a.f_got.Method, str x_a.f_got.Target, int x_a.f_got.Code, str x_a.f_got.Reason, int x_a.f_got.Minor, .slice x_a_p2 x_a.f_got.Fields.length x_a_c2]) (hs1 : zaw w0 x_a_p1 (cells zh x_a.f_buf)) (hc1 : x_a.f_buf.length ≤ x_a_c1) (hs2 : zaw w0 x_a_p2 (cells za x_a.f_got.Fields)) (hc2 : x_a.f_got.Fields.length ≤ x_a_c2) (hm : zbM x_a = some R) :
    Calls Tryz.prog 12 #[ptr x_a_b0 0] w0 fun e w' => ∃ (p0 : Option Addr) (c0 : Nat), e = .returned (.tuple #[.agg #[int R.1.Kind, str R.1.Method, str R.1.Target, int R.1.Code, str R.1.Reason, int R.1.Minor, .slice p0 R.1.Fields.length c0], .bool R.2]) ∧ Dk.Own w0 [] w' [.row (.slice p0 R.1.Fields.length c0) 69 2 R.1.Fields.length (cells za R.1.Fields)] := by
 rw [zbM] at hm
 have hF : zG [] := zg
 have hO : Dk.Own w0 [] w0 [] := Dk.Own.refl w0
 have hO := hO.addShr hs0 (by simp [Res.shared])
 have hO := hO.addShr hs1 (by simp [Res.shared])
 have hO := hO.addShr hs2 (by simp [Res.shared])
 refine S.enter tb Tryz.func12 rfl Tryz.ntmps12 rfl ?_ hO hm
 refine rw_ rfl fun a w hf hO hm => ?_
 refine zx zgH hf rfl hO fun a b1 w hf hO => ?_
 have hO := hO.nilRow 69 2
 refine S.op tb ?_ hf hO hm
 refine vl rfl rfl (fun a w hf hO => zdo Tryz.underlying25 hf rfl rfl) ?_
 refine kn (b' := false) rfl rfl ?_
 refine vl rfl rfl (fun a w hf hO => zb (o := 6) ag_4 (hO.sees (i := 4) rfl) rfl hf rfl) ?_
 refine br rfl (fun hc4 => ?_) fun hc4 => ?_
 refine vl rfl rfl (fun a w hf hO => zo (vs := []) (v := .agg #[int 0, str [], str [], int 0, str [], int 0, .slice none 0 0]) hf rfl (by kernel_rfl)) ?_
 refine rw_ rfl fun a w hf hO hm => ?_
 refine zd (i := 1) (n := 7) zA rfl rfl rfl (by simp [Value.oneCell']) hf rfl rfl hO fun w hO => ?_
 have hO := hO.nilRow 69 2
 refine S.op tb ?_ hf hO hm
 refine re_ rfl fun a w hf hO hm => ?_
 obtain rfl := Option.some.inj hm
 exact zf Tryz.results12 hf (.cell rfl (zc (n := 7) (vs := [int 0, str [], str [], int 0, str [], int 0, .slice none 0 0]) zau zA rfl ((hO.blkSees (i := 2) rfl).cells (o := 0) (n := 7) rfl)) (.tmp rfl .nil)) ⟨none, 0, rfl, (hO.sub (.cons_cons _ (.cons _ (.cons _ (.cons _ (.cons _ (.cons _ .slnil)))))))⟩
 refine vl rfl rfl (fun a w hf hO => zu (o := 7) (vs := [int x_a.f_got.Kind, str x_a.f_got.Method, str x_a.f_got.Target, int x_a.f_got.Code, str x_a.f_got.Reason, int x_a.f_got.Minor, .slice x_a_p2 x_a.f_got.Fields.length x_a_c2]) zau zA (hO.sees (i := 4) rfl) rfl rfl hf rfl) ?_
 refine rw_ rfl fun a w hf hO hm => ?_
 refine zx zgH hf rfl hO fun a b7 w hf hO => ?_
 have hO := hO.nilRow 69 2
 refine S.op tb ?_ hf hO hm
 refine rw_ rfl fun a w hf hO hm => ?_
 refine zd (i := 1) (n := 7) zA rfl rfl rfl (by simp [Value.oneCell']) hf rfl rfl hO fun w hO => ?_
 refine S.op tb ?_ hf hO hm
 refine rw_ rfl fun a w hf hO hm => ?_
 refine zS (vs := []) (cs := []) (e := 69) (sz := 2) hf rfl rfl (fun w => by kernel_rfl) rfl rfl hO fun a b9 w hf hO => ?_
 refine S.op tb ?_ hf hO hm
 refine vl rfl rfl (fun a w hf hO => zb (o := 6) zkf (hO.blkSees (i := 2) rfl) rfl hf rfl) ?_
 refine rw_ rfl fun a w hf hO hm => ?_
 obtain ⟨hg12, hm⟩ := og hm
 refine znt zrG (enc := za) (xs := []) (ys := x_a.f_got.Fields) (i := 0) (fun _ => rfl) rfl (hO.sees (i := 5) rfl) (by simp [za, Value.oneCell']) hg12 hf rfl rfl rfl hO fun a p10 c11 w hf hO => ?_
 refine S.op tb ?_ hf hO hm
 refine rw_ rfl fun a w hf hO hm => ?_
 refine zV (i := 2) (o := 6) (v := .slice p10 x_a.f_got.Fields.length c11) ztu rfl rfl rfl rfl hf rfl rfl hO fun w hO => ?_
 refine S.op tb ?_ hf hO hm
 refine vl rfl rfl (fun a w hf hO => zu (o := 0) (vs := [int x_a.f_got.Kind, str x_a.f_got.Method, str x_a.f_got.Target, int x_a.f_got.Code, str x_a.f_got.Reason, int x_a.f_got.Minor, .slice p10 x_a.f_got.Fields.length c11]) zau zA (hO.blkSees (i := 2) rfl) rfl rfl hf rfl) ?_
 refine rw_ rfl fun a w hf hO hm => ?_
 refine zd (i := 4) (n := 7) zA rfl rfl rfl (by simp [Value.oneCell']) hf rfl rfl hO fun w hO => ?_
 refine S.op tb ?_ hf hO hm
 refine re_ rfl fun a w hf hO hm => ?_
 obtain rfl := Option.some.inj hm
 exact zf Tryz.results12 hf (.cell rfl (zc (n := 7) (vs := [int x_a.f_got.Kind, str x_a.f_got.Method, str x_a.f_got.Target, int x_a.f_got.Code, str x_a.f_got.Reason, int x_a.f_got.Minor, .slice p10 x_a.f_got.Fields.length c11]) zau zA rfl ((hO.blkSees (i := 4) rfl).cells (o := 0) (n := 7) rfl)) (.tmp rfl .nil)) ⟨p10, c11, rfl, (hO.sub (.cons_cons _ (.cons _ (.cons _ (.cons _ (.cons _ (.cons _ (.cons _ (.cons _ .slnil)))))))))⟩

theorem znV (R : Bool) (w0 : World) (hG : zbB w0) (hm : zhJ = some R) :
    Calls Tryz.prog 8 #[] w0 (Ret w0 (fun R => .bool R) R) := by
 rw [zhJ] at hm
 have hF : zG [] := zg
 have hO : Dk.Own w0 [] w0 [] := Dk.Own.refl w0
 refine S.enter tb Tryz.func8 rfl Tryz.ntmps8 rfl ?_ hO hm
 refine jn 0 (fun a w => (∃ (i10 : Int), Fits 67 [(1, .pointer none), (2, int i10)] a ∧ Dk.Own w0 [] w [] ∧ zhn i10 = some R) ∨ (∃ (b13 : Nat) (i14 : Int) (i15 : Int) (i16 : Int) (p17 : Option Addr) (c18 : Nat) (l19 : List UInt8) (i20 : Int) (t21 : Bool) (i22 : Int) (t23 : Bool) (i24 : Int) (s25 : Str) (s26 : Str) (i27 : Int) (s28 : Str) (i29 : Int) (p30 : Option Addr) (c31 : Nat) (l32 : List api_Field), Fits 67 [(1, ptr b13 0), (2, int i14)] a ∧ Dk.Own w0 [] w [.blk b13 [int i15, int i16, .slice p17 l19.length c18, int i20, .bool t21, int i22, .bool t23, int i24, str s25, str s26, int i27, str s28, int i29, .slice p30 l32.length c31] 61, .row (.slice p17 l19.length c18) 5 1 l19.length (cells zh l19), .row (.slice p30 l32.length c31) 69 2 l32.length (cells za l32)] ∧ zho i14 i15 i16 l19 i20 t21 i22 t23 i24 s25 s26 i27 s28 i29 l32 = some R)) rfl ?_ ?_
 refine rw_ rfl fun a w hf hO hm => ?_
 obtain ⟨r2, hr2, hm⟩ := ob hm
 refine zv (zt c_9 hf (vs := [int 1, int 99]) rfl) rfl hf rfl rfl (zma 1 99 r2 _ (hG.own hF hO).1 hr2) ?_
 rintro e w' hpost3
 rcases hopt3 : r2.1 with _ | x4
 have hm := zta hopt3 hm
 obtain ⟨he, hb⟩ := zrE hopt3 hpost3
 refine ⟨_, he, fun a hf => ?_⟩
 have hO := hO.grow hb
 refine S.op tb ?_ hf hO hm
 refine en rfl fun a w hf hO hm => ?_
 exact Or.inl ⟨r2.2, hf.sel rfl, hO, hm⟩
 have hm := ztb hopt3 hm
 obtain ⟨b5, p6, c7, p8, c9, he, hO'⟩ := zrF hopt3 hpost3
 refine ⟨_, he, fun a hf => ?_⟩
 have hO := hO.call hO' (by simp [Res.shared])
 refine S.op tb ?_ hf hO hm
 refine en rfl fun a w hf hO hm => ?_
 exact Or.inr (⟨b5, r2.2, x4.f_kind, x4.f_limit, p6, c7, x4.f_buf, x4.f_from, x4.f_took, x4.f_bad, x4.f_whole, x4.f_got.Kind, x4.f_got.Method, x4.f_got.Target, x4.f_got.Code, x4.f_got.Reason, x4.f_got.Minor, p8, c9, x4.f_got.Fields, hf.sel rfl, hO, hm⟩)
 rintro a w (⟨i10, hf, hO, hm⟩ | ⟨b13, i14, i15, i16, p17, c18, l19, i20, t21, i22, t23, i24, s25, s26, i27, s28, i29, p30, c31, l32, hf, hO, hm⟩)
 rw [zhn] at hm
 refine S.co tb ?_ hf hO hm
 refine jn 1 (fun a w => Fits 67 [(1, .pointer none), (20, .bool true)] a ∧ Dk.Own w0 [] w [] ∧ zfL = some R) rfl ?_ ?_
 refine br rfl (fun hc11 => ?_) fun hc11 => ?_
 exact en rfl fun a w hf hO hm => ⟨hf.sel rfl, hO, hm⟩
 refine vl rfl rfl (fun a w hf hO => zlO Tryz.underlying25 hf rfl rfl) ?_
 exact en rfl fun a w hf hO hm => ⟨hf.sel rfl, hO, hm⟩
 rintro a w ⟨hf, hO, hm⟩
 rw [zfL] at hm
 refine S.co tb ?_ hf hO hm
 refine kn (b' := true) rfl rfl ?_
 exact rt Tryz.results8 rfl
 rw [zho] at hm
 refine S.co tb ?_ hf hO hm
 refine jn 1 (fun a w => ∃ (t34 : Bool), Fits 67 [(1, ptr b13 0), (20, .bool t34)] a ∧ Dk.Own w0 [] w [.blk b13 [int i15, int i16, .slice p17 l19.length c18, int i20, .bool t21, int i22, .bool t23, int i24, str s25, str s26, int i27, str s28, int i29, .slice p30 l32.length c31] 61, .row (.slice p17 l19.length c18) 5 1 l19.length (cells zh l19), .row (.slice p30 l32.length c31) 69 2 l32.length (cells za l32)] ∧ zfM i15 i16 l19 i20 t21 i22 t23 i24 s25 s26 i27 s28 i29 l32 t34 = some R) rfl ?_ ?_
 refine br rfl (fun hc33 => ?_) fun hc33 => ?_
 exact en rfl fun a w hf hO hm => ⟨true, hf.sel rfl, hO, hm⟩
 refine vl rfl rfl (fun a w hf hO => zdo Tryz.underlying25 hf rfl rfl) ?_
 exact en rfl fun a w hf hO hm => ⟨false, hf.sel rfl, hO, hm⟩
 rintro a w ⟨t34, hf, hO, hm⟩
 rw [zfM] at hm
 refine S.co tb ?_ hf hO hm
 refine br rfl (fun hc35 => ?_) fun hc35 => ?_
 exact rt Tryz.results8 rfl
 refine rw_ rfl fun a w hf hO hm => ?_
 obtain ⟨r38, hr38, hm⟩ := ob hm
 have hch43 := (show Dk.Own w0 [] _ ([.blk b13 [int i15, int i16, .slice p17 l19.length c18, int i20, .bool t21, int i22, .bool t23, int i24, str s25, str s26, int i27, str s28, int i29, .slice p30 l32.length c31] 61, .row (.slice p17 l19.length c18) 5 1 l19.length (cells zh l19), .row (.slice p30 l32.length c31) 69 2 l32.length (cells za l32)] ++ []) from hO)
 have hfar43 := Dk.Own.far hch43 rfl hF hG.size
 have hlend43 := hch43.lend (S := []) rfl trivial
 have hcl43 := zfg ((⟨i15, i16, l19, i20, t21, i22, t23, (⟨i24, s25, s26, i27, s28, i29, l32⟩ : api_Head)⟩ : accum_Accum)) [71, 69, 84, 32, 47, 32, 72, 84, 84, 80, 47, 49, 46, 48, 13] r38 _ (hG.own hF hO) hfar43 hlend43 hr38
 refine zv (zt c_10 hf (vs := [ptr b13 0, str [71, 69, 84, 32, 47, 32, 72, 84, 84, 80, 47, 49, 46, 48, 13]]) rfl) rfl hf rfl rfl (hcl43) ?_
 rintro e w' ⟨p39, c40, p41, c42, he, hO'⟩
 refine ⟨_, he, fun a hf => ?_⟩
 have hO := hch43.back rfl hO' rfl
 refine S.op tb ?_ hf hO hm
 refine rw_ rfl fun a w hf hO hm => ?_
 obtain ⟨r45, hr45, hm⟩ := ob hm
 have hch50 := (show Dk.Own w0 [] _ ([.blk b13 [int r38.2.2.2.f_kind, int r38.2.2.2.f_limit, .slice p39 r38.2.2.2.f_buf.length c40, int r38.2.2.2.f_from, .bool r38.2.2.2.f_took, int r38.2.2.2.f_bad, .bool r38.2.2.2.f_whole, int r38.2.2.2.f_got.Kind, str r38.2.2.2.f_got.Method, str r38.2.2.2.f_got.Target, int r38.2.2.2.f_got.Code, str r38.2.2.2.f_got.Reason, int r38.2.2.2.f_got.Minor, .slice p41 r38.2.2.2.f_got.Fields.length c42] 61, .row (.slice p39 r38.2.2.2.f_buf.length c40) 5 1 r38.2.2.2.f_buf.length (cells zh r38.2.2.2.f_buf), .row (.slice p41 r38.2.2.2.f_got.Fields.length c42) 69 2 r38.2.2.2.f_got.Fields.length (cells za r38.2.2.2.f_got.Fields)] ++ []) from hO)
 have hfar50 := Dk.Own.far hch50 rfl hF hG.size
 have hlend50 := hch50.lend (S := []) rfl trivial
 have hcl50 := zfg r38.2.2.2 [10, 13, 10, 120] r45 _ (hG.own hF hO) hfar50 hlend50 hr45
 refine zv (zt c_10 hf (vs := [ptr b13 0, str [10, 13, 10, 120]]) rfl) rfl hf rfl rfl (hcl50) ?_
 rintro e w' ⟨p46, c47, p48, c49, he, hO'⟩
 refine ⟨_, he, fun a hf => ?_⟩
 have hO := hch50.back rfl hO' rfl
 refine S.op tb ?_ hf hO hm
 refine rw_ rfl fun a w hf hO hm => ?_
 obtain ⟨r52, hr52, hm⟩ := ob hm
 refine zv (zt c_12 hf (vs := [ptr b13 0]) rfl) rfl hf rfl rfl (zg6 r45.2.2.2 r52 _ (hG.own hF hO).1 (hO.blkSees (i := 0) rfl) (hO.rowSees (i := 1) rfl) (hO.rowCap (i := 1) rfl) (hO.rowSees (i := 2) rfl) (hO.rowCap (i := 2) rfl) hr52) ?_
 rintro e w' ⟨p53, c54, he, hO'⟩
 refine ⟨_, he, fun a hf => ?_⟩
 have hO := hO.call hO' (by simp [Res.shared])
 refine S.op tb ?_ hf hO hm
 refine rw_ rfl fun a w hf hO hm => ?_
 refine zx zgH hf rfl hO fun a b55 w hf hO => ?_
 have hO := hO.nilRow 69 2
 refine S.op tb ?_ hf hO hm
 refine rw_ rfl fun a w hf hO hm => ?_
 refine zd (i := 1) (n := 7) zA rfl rfl rfl (by simp [Value.oneCell']) hf rfl rfl hO fun w hO => ?_
 refine S.op tb ?_ hf hO hm
 refine jn 0 (fun a w => ∃ (t64 : Bool), Fits 67 [(0, .bool t64)] a ∧ Dk.Own w0 [] w [.row (.slice none 0 0) 69 2 0 (cells za []), .blk b55 [int r52.1.Kind, str r52.1.Method, str r52.1.Target, int r52.1.Code, str r52.1.Reason, int r52.1.Minor, .slice p53 r52.1.Fields.length c54] 35, .row (.slice p53 r52.1.Fields.length c54) 69 2 r52.1.Fields.length (cells za r52.1.Fields), .blk b13 [int r45.2.2.2.f_kind, int r45.2.2.2.f_limit, .slice p46 r45.2.2.2.f_buf.length c47, int r45.2.2.2.f_from, .bool r45.2.2.2.f_took, int r45.2.2.2.f_bad, .bool r45.2.2.2.f_whole, int r45.2.2.2.f_got.Kind, str r45.2.2.2.f_got.Method, str r45.2.2.2.f_got.Target, int r45.2.2.2.f_got.Code, str r45.2.2.2.f_got.Reason, int r45.2.2.2.f_got.Minor, .slice p48 r45.2.2.2.f_got.Fields.length c49] 61, .row (.slice p46 r45.2.2.2.f_buf.length c47) 5 1 r45.2.2.2.f_buf.length (cells zh r45.2.2.2.f_buf), .row (.slice p48 r45.2.2.2.f_got.Fields.length c49) 69 2 r45.2.2.2.f_got.Fields.length (cells za r45.2.2.2.f_got.Fields)] ∧ zaV t64 = some R) rfl ?_ ?_
 refine br rfl (fun hc57 => ?_) fun hc57 => ?_
 refine br rfl (fun hc58 => ?_) fun hc58 => ?_
 refine br rfl (fun hc59 => ?_) fun hc59 => ?_
 refine br rfl (fun hc60 => ?_) fun hc60 => ?_
 refine br rfl (fun hc61 => ?_) fun hc61 => ?_
 refine br rfl (fun hc62 => ?_) fun hc62 => ?_
 refine br rfl (fun hc63 => ?_) fun hc63 => ?_
 refine vl rfl rfl (fun a w hf hO => zb (o := 2) za6 (hO.blkSees (i := 1) rfl) rfl hf rfl) ?_
 exact en rfl fun a w hf hO hm => ⟨r52.1.Target == [47], hf.sel rfl, hO, hm⟩
 exact en rfl fun a w hf hO hm => ⟨false, hf.sel rfl, hO, hm⟩
 exact en rfl fun a w hf hO hm => ⟨false, hf.sel rfl, hO, hm⟩
 exact en rfl fun a w hf hO hm => ⟨false, hf.sel rfl, hO, hm⟩
 exact en rfl fun a w hf hO hm => ⟨false, hf.sel rfl, hO, hm⟩
 exact en rfl fun a w hf hO hm => ⟨false, hf.sel rfl, hO, hm⟩
 exact en rfl fun a w hf hO hm => ⟨false, hf.sel rfl, hO, hm⟩
 exact en rfl fun a w hf hO hm => ⟨false, hf.sel rfl, hO, hm⟩
 rintro a w ⟨t64, hf, hO, hm⟩
 rw [zaV] at hm
 refine S.co tb ?_ hf hO hm
 exact rt Tryz.results8 rfl

theorem zpL (x_s : Str) (x_by : List UInt8) (R : List Str) (w0 : World) (hG : zD w0) {x_by_p0 : Option Addr} {x_by_c0 : Nat} (hs0 : zaw w0 x_by_p0 (cells zh x_by)) (hc0 : x_by.length ≤ x_by_c0) (hm : zid x_s x_by = some R) :
    Calls Tryz.prog 11 #[str x_s, .slice x_by_p0 x_by.length x_by_c0] w0 fun e w' => ∃ (p0 : Option Addr) (c0 : Nat), e = .returned (.slice p0 R.length c0) ∧ Dk.Own w0 [] w' [.row (.slice p0 R.length c0) 9 1 R.length (cells zj R)] := by
 rw [zid] at hm
 have hF : zG [] := zg
 have hO : Dk.Own w0 [] w0 [] := Dk.Own.refl w0
 have hO := hO.addShr hs0 (by simp [Res.shared])
 refine S.enter tb Tryz.func11 rfl Tryz.ntmps11 rfl ?_ hO hm
 refine nl 9 1 ?_
 refine nl 9 1 ?_
 refine lp (fun k a w => ∃ (s4 : Str) (p5 : Option Addr) (c6 : Nat) (l7 : List Str) (i8 : Int), Fits 40 [(0, str s4), (1, .slice x_by_p0 x_by.length x_by_c0), (5, .slice p5 l7.length c6), (6, int i8)] a ∧ Dk.Own w0 [] w [.row (.slice p5 l7.length c6) 9 1 l7.length (cells zj l7), .row (.slice none 0 0) 9 1 0 (cells zj []), .shr x_by_p0 (cells zh x_by)] ∧ zbP x_by k s4 l7 i8 = some R) rfl (fun a w hf hO hm => ⟨x_s, none, 0, [], 0, hf.sel rfl, hO, hm⟩) ?_
 rintro n1 a w ⟨s4, p5, c6, l7, i8, hf, hO, hm⟩
 obtain _ | n1 := n1
 rw [zbP] at hm
 cases hm
 rw [zbP] at hm
 refine S.co tb ?_ hf hO hm
 refine jn 4 (fun a w => ∃ (t10 : Bool), Fits 40 [(0, str s4), (1, .slice x_by_p0 x_by.length x_by_c0), (5, .slice p5 l7.length c6), (6, int i8), (15, .bool t10)] a ∧ Dk.Own w0 [] w [.row (.slice p5 l7.length c6) 9 1 l7.length (cells zj l7), .row (.slice none 0 0) 9 1 0 (cells zj []), .shr x_by_p0 (cells zh x_by)] ∧ zdx (zbP x_by n1) x_by s4 l7 i8 t10 = some R) rfl ?_ ?_
 refine br rfl (fun hc9 => ?_) fun hc9 => ?_
 exact en rfl fun a w hf hO hm => ⟨decide (i8 < 60), hf.sel rfl, hO, hm⟩
 exact en rfl fun a w hf hO hm => ⟨false, hf.sel rfl, hO, hm⟩
 rintro a w ⟨t10, hf, hO, hm⟩
 rw [zdx] at hm
 refine S.co tb ?_ hf hO hm
 refine br rfl (fun hc11 => ?_) fun hc11 => ?_
 refine rw_ rfl fun a w hf hO hm => ?_
 obtain ⟨x13, hx13, hm⟩ := ob hm
 obtain ⟨b14, o15, hix13, hSx13⟩ := zh1 (enc := zh) (sz := 1) (xs := x_by) 23 Tryz.underlying23 sz_5 (by decide) (fun _ => rfl) (hO.sees (i := 2) rfl) hx13
 refine zaL (zw hix13 hf rfl rfl) rfl hf rfl rfl fun a hf => ?_
 refine S.op tb ?_ hf hO hm
 refine vl rfl rfl (fun a w hf hO => zb (o := 0) ag_5 (hSx13 _ (hO.sees (i := 2) rfl)) rfl hf rfl) ?_
 refine vl rfl rfl (fun a w hf hO => zt1 (b := x13) (c := 17) rfl hf rfl rfl) ?_
 refine vl rfl rfl (fun a w hf hO => zjS Tryz.underlying3 Tryz.underlying5 (zlk _) hf (kd := .u8) rfl) ?_
 refine vl rfl rfl (fun a w hf hO => zrt (m := ((x13 % 17).toNat : Int)) (n := (s4.length : Int)) hf rfl rfl) ?_
 refine bi rfl fun s17 hs17 => ?_
 refine rw_ rfl fun a w hf hO hm => ?_
 refine zS (vs := [(0, str s17)]) (cs := [str s17]) (e := 9) (sz := 1) hf rfl rfl (fun w => by kernel_rfl) rfl rfl hO fun a b18 w hf hO => ?_
 refine S.op tb ?_ hf hO hm
 refine rw_ rfl fun a w hf hO hm => ?_
 obtain ⟨hg21, hm⟩ := og hm
 refine zdD zoE (enc := zj) (xs := l7) (ys := ([s17] : List Str)) (i := 1) (fun _ => rfl) rfl (hO.rowSees (i := 0) rfl) (by simp [cells, zj, Value.oneCell']) hg21 hf rfl rfl rfl hO fun a p19 c20 w hf hO => ?_
 refine S.op tb ?_ hf hO hm
 refine bi rfl fun s23 hs23 => ?_
 refine bi rfl fun i25 hi25 => ?_
 exact en rfl fun a w hf hO hm => ⟨_, Nat.lt_succ_self _, s23, p19, c20, l7 ++ ([s17] : List Str), i25, hf.sel rfl, (hO.sub (.cons _ (.cons_cons _ (.cons_cons _ (.cons_cons _ .slnil))))), hm⟩
 refine rw_ rfl fun a w hf hO hm => ?_
 refine zS (vs := [(0, str s4)]) (cs := [str s4]) (e := 9) (sz := 1) hf rfl rfl (fun w => by kernel_rfl) rfl rfl hO fun a b27 w hf hO => ?_
 refine S.op tb ?_ hf hO hm
 refine rw_ rfl fun a w hf hO hm => ?_
 obtain ⟨hg30, hm⟩ := og hm
 refine zdD zoE (enc := zj) (xs := l7) (ys := ([s4] : List Str)) (i := 1) (fun _ => rfl) rfl (hO.rowSees (i := 0) rfl) (by simp [cells, zj, Value.oneCell']) hg30 hf rfl rfl rfl hO fun a p28 c29 w hf hO => ?_
 refine S.op tb ?_ hf hO hm
 refine re_ rfl fun a w hf hO hm => ?_
 obtain rfl := Option.some.inj hm
 exact zf Tryz.results11 hf (.tmp rfl .nil) ⟨p28, c29, rfl, (hO.sub (.cons _ (.cons_cons _ (.cons _ (.cons _ .slnil)))))⟩

theorem zoT (x_a : api_Head) (x_b : api_Head) (R : Bool) (w0 : World) (hG : zD w0) {x_a_p0 : Option Addr} {x_a_c0 : Nat} (hs0 : zaw w0 x_a_p0 (cells za x_a.Fields)) (hc0 : x_a.Fields.length ≤ x_a_c0) {x_b_p1 : Option Addr} {x_b_c1 : Nat} (hs1 : zaw w0 x_b_p1 (cells za x_b.Fields)) (hc1 : x_b.Fields.length ≤ x_b_c1) (hm : ziF x_a x_b = some R) :
    Calls Tryz.prog 28 #[.agg #[int x_a.Kind, str x_a.Method, str x_a.Target, int x_a.Code, str x_a.Reason, int x_a.Minor, .slice x_a_p0 x_a.Fields.length x_a_c0], .agg #[int x_b.Kind, str x_b.Method, str x_b.Target, int x_b.Code, str x_b.Reason, int x_b.Minor, .slice x_b_p1 x_b.Fields.length x_b_c1]] w0 (Ret w0 (fun R => .bool R) R) := by
 rw [ziF] at hm
 have hF : zG [] := zg
 have hO : Dk.Own w0 [] w0 [] := Dk.Own.refl w0
 have hO := hO.addShr hs0 (by simp [Res.shared])
 have hO := hO.addShr hs1 (by simp [Res.shared])
 refine S.enter tb Tryz.func28 rfl Tryz.ntmps28 rfl ?_ hO hm
 refine rw_ rfl fun a w hf hO hm => ?_
 refine zeA (v := .agg #[int x_a.Kind, str x_a.Method, str x_a.Target, int x_a.Code, str x_a.Reason, int x_a.Minor, .slice x_a_p0 x_a.Fields.length x_a_c0]) (cs := [int x_a.Kind, str x_a.Method, str x_a.Target, int x_a.Code, str x_a.Reason, int x_a.Minor, .slice x_a_p0 x_a.Fields.length x_a_c0]) rfl hf rfl rfl hO fun a b1 w hf hO => ?_
 refine S.op tb ?_ hf hO hm
 refine rw_ rfl fun a w hf hO hm => ?_
 refine zeA (v := .agg #[int x_b.Kind, str x_b.Method, str x_b.Target, int x_b.Code, str x_b.Reason, int x_b.Minor, .slice x_b_p1 x_b.Fields.length x_b_c1]) (cs := [int x_b.Kind, str x_b.Method, str x_b.Target, int x_b.Code, str x_b.Reason, int x_b.Minor, .slice x_b_p1 x_b.Fields.length x_b_c1]) rfl hf rfl rfl hO fun a b2 w hf hO => ?_
 refine S.op tb ?_ hf hO hm
 refine jn 0 (fun a w => ∃ (t9 : Bool), Fits 45 [(4, .bool t9)] a ∧ Dk.Own w0 [] w [.blk b2 [int x_b.Kind, str x_b.Method, str x_b.Target, int x_b.Code, str x_b.Reason, int x_b.Minor, .slice x_b_p1 x_b.Fields.length x_b_c1] 35, .blk b1 [int x_a.Kind, str x_a.Method, str x_a.Target, int x_a.Code, str x_a.Reason, int x_a.Minor, .slice x_a_p0 x_a.Fields.length x_a_c0] 35, .shr x_b_p1 (cells za x_b.Fields), .shr x_a_p0 (cells za x_a.Fields)] ∧ zbQ t9 = some R) rfl ?_ ?_
 refine vl rfl rfl (fun a w hf hO => zb (o := 0) znu (hO.blkSees (i := 1) rfl) rfl hf rfl) ?_
 refine vl rfl rfl (fun a w hf hO => zb (o := 0) znu (hO.blkSees (i := 0) rfl) rfl hf rfl) ?_
 refine br rfl (fun hc4 => ?_) fun hc4 => ?_
 refine vl rfl rfl (fun a w hf hO => zb (o := 1) za6 (hO.blkSees (i := 1) rfl) rfl hf rfl) ?_
 refine vl rfl rfl (fun a w hf hO => zb (o := 1) za6 (hO.blkSees (i := 0) rfl) rfl hf rfl) ?_
 refine br rfl (fun hc5 => ?_) fun hc5 => ?_
 refine vl rfl rfl (fun a w hf hO => zb (o := 2) za6 (hO.blkSees (i := 1) rfl) rfl hf rfl) ?_
 refine vl rfl rfl (fun a w hf hO => zb (o := 2) za6 (hO.blkSees (i := 0) rfl) rfl hf rfl) ?_
 refine br rfl (fun hc6 => ?_) fun hc6 => ?_
 refine vl rfl rfl (fun a w hf hO => zb (o := 5) zfz (hO.blkSees (i := 1) rfl) rfl hf rfl) ?_
 refine vl rfl rfl (fun a w hf hO => zb (o := 5) zfz (hO.blkSees (i := 0) rfl) rfl hf rfl) ?_
 refine br rfl (fun hc7 => ?_) fun hc7 => ?_
 refine vl rfl rfl (fun a w hf hO => zb (o := 3) zfz (hO.blkSees (i := 1) rfl) rfl hf rfl) ?_
 refine vl rfl rfl (fun a w hf hO => zb (o := 3) zfz (hO.blkSees (i := 0) rfl) rfl hf rfl) ?_
 refine br rfl (fun hc8 => ?_) fun hc8 => ?_
 refine vl rfl rfl (fun a w hf hO => zb (o := 4) za6 (hO.blkSees (i := 1) rfl) rfl hf rfl) ?_
 refine vl rfl rfl (fun a w hf hO => zb (o := 4) za6 (hO.blkSees (i := 0) rfl) rfl hf rfl) ?_
 exact en rfl fun a w hf hO hm => ⟨x_a.Reason == x_b.Reason, hf.sel rfl, hO, hm⟩
 exact en rfl fun a w hf hO hm => ⟨false, hf.sel rfl, hO, hm⟩
 exact en rfl fun a w hf hO hm => ⟨false, hf.sel rfl, hO, hm⟩
 exact en rfl fun a w hf hO hm => ⟨false, hf.sel rfl, hO, hm⟩
 exact en rfl fun a w hf hO hm => ⟨false, hf.sel rfl, hO, hm⟩
 exact en rfl fun a w hf hO hm => ⟨false, hf.sel rfl, hO, hm⟩
 rintro a w ⟨t9, hf, hO, hm⟩
 rw [zbQ] at hm
 refine S.co tb ?_ hf hO hm
 exact rt Tryz.results28 rfl

theorem zoU (x_a : List api_Field) (x_b : List api_Field) (R : Bool) (w0 : World) (hG : zD w0) {x_a_p0 : Option Addr} {x_a_c0 : Nat} (hs0 : zaw w0 x_a_p0 (cells za x_a)) (hc0 : x_a.length ≤ x_a_c0) {x_b_p1 : Option Addr} {x_b_c1 : Nat} (hs1 : zaw w0 x_b_p1 (cells za x_b)) (hc1 : x_b.length ≤ x_b_c1) (hm : zhp x_a x_b = some R) :
    Calls Tryz.prog 29 #[.slice x_a_p0 x_a.length x_a_c0, .slice x_b_p1 x_b.length x_b_c1] w0 (Ret w0 (fun R => .bool R) R) := by
 rw [zhp] at hm
 have hF : zG [] := zg
 have hO : Dk.Own w0 [] w0 [] := Dk.Own.refl w0
 have hO := hO.addShr hs0 (by simp [Res.shared])
 have hO := hO.addShr hs1 (by simp [Res.shared])
 refine S.enter tb Tryz.func29 rfl Tryz.ntmps29 rfl ?_ hO hm
 refine br rfl (fun hc3 => ?_) fun hc3 => ?_
 exact rt Tryz.results29 rfl
 refine lp (fun k a w => ∃ (i7 : Int), Fits 26 [(0, .slice x_a_p0 x_a.length x_a_c0), (1, .slice x_b_p1 x_b.length x_b_c1), (5, int i7)] a ∧ Dk.Own w0 [] w [.shr x_b_p1 (cells za x_b), .shr x_a_p0 (cells za x_a)] ∧ zcq x_a x_b k i7 = some R) rfl (fun a w hf hO hm => ⟨0, hf.sel rfl, hO, hm⟩) ?_
 rintro n1 a w ⟨i7, hf, hO, hm⟩
 obtain _ | n1 := n1
 rw [zcq] at hm
 cases hm
 rw [zcq] at hm
 refine S.co tb ?_ hf hO hm
 refine br rfl (fun hc9 => ?_) fun hc9 => ?_
 refine rc_ rfl fun a w hf hO hm => ?_
 refine zfT (by kernel_rfl) (by kernel_rfl) hO ?_
 refine zn (fun w hO => zp hf rfl) rfl hf rfl rfl fun a hf => ?_
 refine zn (fun w hO => zp hf rfl) rfl hf rfl rfl fun a hf => ?_
 obtain ⟨x11, hx11, hm⟩ := ob hm
 obtain ⟨b12, o13, hix11, hSx11⟩ := zh1 (enc := za) (sz := 2) (xs := x_a) 33 Tryz.underlying33 zbt (by decide) (fun _ => rfl) (hO.sees (i := 1) rfl) hx11
 refine zn (fun w hO => zw hix11 hf rfl rfl) rfl hf rfl rfl fun a hf => ?_
 refine zn (fun w hO => zu (o := 0) (vs := [str x11.Name, str x11.Value]) zf3 zbt (hSx11 _ (hO.sees (i := 1) rfl)) rfl rfl hf rfl) rfl hf rfl rfl fun a hf => ?_
 refine zn (fun w hO => zp hf rfl) rfl hf rfl rfl fun a hf => ?_
 refine zn (fun w hO => zp hf rfl) rfl hf rfl rfl fun a hf => ?_
 obtain ⟨x14, hx14, hm⟩ := ob hm
 obtain ⟨b15, o16, hix14, hSx14⟩ := zh1 (enc := za) (sz := 2) (xs := x_b) 33 Tryz.underlying33 zbt (by decide) (fun _ => rfl) (hO.sees (i := 0) rfl) hx14
 refine zn (fun w hO => zw hix14 hf rfl rfl) rfl hf rfl rfl fun a hf => ?_
 refine zn (fun w hO => zu (o := 0) (vs := [str x14.Name, str x14.Value]) zf3 zbt (hSx14 _ (hO.sees (i := 0) rfl)) rfl rfl hf rfl) rfl hf rfl rfl fun a hf => ?_
 refine zn (fun w hO => zt5 (by kernel_rfl) (eq_69 x11 x14) hf rfl rfl) rfl hf rfl rfl fun a hf => ?_
 refine wpQuiet_nil ?_
 intro w hO
 refine S.no tb ?_ hf hO hm
 refine br rfl (fun hc18 => ?_) fun hc18 => ?_
 exact rt Tryz.results29 rfl
 refine bi rfl fun i21 hi21 => ?_
 exact en rfl fun a w hf hO hm => ⟨_, Nat.lt_succ_self _, i21, hf.sel rfl, hO, hm⟩
 exact rt Tryz.results29 rfl

theorem zoV (x_a : api_Head) (x_b : api_Head) (R : Bool) (w0 : World) (hG : zD w0) {x_a_p0 : Option Addr} {x_a_c0 : Nat} (hs0 : zaw w0 x_a_p0 (cells za x_a.Fields)) (hc0 : x_a.Fields.length ≤ x_a_c0) {x_b_p1 : Option Addr} {x_b_c1 : Nat} (hs1 : zaw w0 x_b_p1 (cells za x_b.Fields)) (hc1 : x_b.Fields.length ≤ x_b_c1) (hm : zhq x_a x_b = some R) :
    Calls Tryz.prog 13 #[.agg #[int x_a.Kind, str x_a.Method, str x_a.Target, int x_a.Code, str x_a.Reason, int x_a.Minor, .slice x_a_p0 x_a.Fields.length x_a_c0], .agg #[int x_b.Kind, str x_b.Method, str x_b.Target, int x_b.Code, str x_b.Reason, int x_b.Minor, .slice x_b_p1 x_b.Fields.length x_b_c1]] w0 (Ret w0 (fun R => .bool R) R) := by
 rw [zhq] at hm
 have hF : zG [] := zg
 have hO : Dk.Own w0 [] w0 [] := Dk.Own.refl w0
 have hO := hO.addShr hs0 (by simp [Res.shared])
 have hO := hO.addShr hs1 (by simp [Res.shared])
 refine S.enter tb Tryz.func13 rfl Tryz.ntmps13 rfl ?_ hO hm
 refine rw_ rfl fun a w hf hO hm => ?_
 refine zeA (v := .agg #[int x_a.Kind, str x_a.Method, str x_a.Target, int x_a.Code, str x_a.Reason, int x_a.Minor, .slice x_a_p0 x_a.Fields.length x_a_c0]) (cs := [int x_a.Kind, str x_a.Method, str x_a.Target, int x_a.Code, str x_a.Reason, int x_a.Minor, .slice x_a_p0 x_a.Fields.length x_a_c0]) rfl hf rfl rfl hO fun a b1 w hf hO => ?_
 refine S.op tb ?_ hf hO hm
 refine rw_ rfl fun a w hf hO hm => ?_
 refine zeA (v := .agg #[int x_b.Kind, str x_b.Method, str x_b.Target, int x_b.Code, str x_b.Reason, int x_b.Minor, .slice x_b_p1 x_b.Fields.length x_b_c1]) (cs := [int x_b.Kind, str x_b.Method, str x_b.Target, int x_b.Code, str x_b.Reason, int x_b.Minor, .slice x_b_p1 x_b.Fields.length x_b_c1]) rfl hf rfl rfl hO fun a b2 w hf hO => ?_
 refine S.op tb ?_ hf hO hm
 refine jn 0 (fun a w => ∃ (t7 : Bool), Fits 15 [(4, .bool t7)] a ∧ Dk.Own w0 [] w [.blk b2 [int x_b.Kind, str x_b.Method, str x_b.Target, int x_b.Code, str x_b.Reason, int x_b.Minor, .slice x_b_p1 x_b.Fields.length x_b_c1] 35, .blk b1 [int x_a.Kind, str x_a.Method, str x_a.Target, int x_a.Code, str x_a.Reason, int x_a.Minor, .slice x_a_p0 x_a.Fields.length x_a_c0] 35, .shr x_b_p1 (cells za x_b.Fields), .shr x_a_p0 (cells za x_a.Fields)] ∧ ze1 t7 = some R) rfl ?_ ?_
 refine vl rfl rfl (fun a w hf hO => zu (o := 0) (vs := [int x_a.Kind, str x_a.Method, str x_a.Target, int x_a.Code, str x_a.Reason, int x_a.Minor, .slice x_a_p0 x_a.Fields.length x_a_c0]) zau zA (hO.blkSees (i := 1) rfl) rfl rfl hf rfl) ?_
 refine vl rfl rfl (fun a w hf hO => zu (o := 0) (vs := [int x_b.Kind, str x_b.Method, str x_b.Target, int x_b.Code, str x_b.Reason, int x_b.Minor, .slice x_b_p1 x_b.Fields.length x_b_c1]) zau zA (hO.blkSees (i := 0) rfl) rfl rfl hf rfl) ?_
 refine cl c_28 rfl (fun r4 w hr4 hO => zoT x_a x_b r4 _ (hG.own hF hO) (hO.sees (i := 3) rfl) hc0 (hO.sees (i := 2) rfl) hc1 hr4) fun r4 hr4 => ?_
 refine br rfl (fun hc5 => ?_) fun hc5 => ?_
 refine vl rfl rfl (fun a w hf hO => zb (o := 6) zkf (hO.blkSees (i := 1) rfl) rfl hf rfl) ?_
 refine vl rfl rfl (fun a w hf hO => zb (o := 6) zkf (hO.blkSees (i := 0) rfl) rfl hf rfl) ?_
 refine cl c_29 rfl (fun r6 w hr6 hO => zoU x_a.Fields x_b.Fields r6 _ (hG.own hF hO) (hO.sees (i := 3) rfl) hc0 (hO.sees (i := 2) rfl) hc1 hr6) fun r6 hr6 => ?_
 exact en rfl fun a w hf hO hm => ⟨r6, hf.sel rfl, hO, hm⟩
 exact en rfl fun a w hf hO hm => ⟨false, hf.sel rfl, hO, hm⟩
 rintro a w ⟨t7, hf, hO, hm⟩
 rw [ze1] at hm
 refine S.co tb ?_ hf hO hm
 exact rt Tryz.results13 rfl

theorem zeO (x_a : accum_Accum) (R : Bool) (w0 : World) (hG : zD w0) {x_a_b0 : Nat} {x_a_p1 : Option Addr} {x_a_c1 : Nat} {x_a_p2 : Option Addr} {x_a_c2 : Nat} (hs0 : zaw w0 (some ⟨x_a_b0, 0, none⟩) [int x_a.f_kind, int x_a.f_limit, .slice x_a_p1 x_a.f_buf.length x_a_c1, int x_a.f_from, .bool x_a.f_took, int x_a.f_bad, .bool x_a.f_whole, int x_a.f_got.Kind, str x_a.f_got.Method, str x_a.f_got.Target, int x_a.f_got.Code, str x_a.f_got.Reason, int x_a.f_got.Minor, .slice x_a_p2 x_a.f_got.Fields.length x_a_c2]) (hs1 : zaw w0 x_a_p1 (cells zh x_a.f_buf)) (hc1 : x_a.f_buf.length ≤ x_a_c1) (hs2 : zaw w0 x_a_p2 (cells za x_a.f_got.Fields)) (hc2 : x_a.f_got.Fields.length ≤ x_a_c2) (hm : zbp x_a = some R) :
    Calls Tryz.prog 15 #[ptr x_a_b0 0] w0 (Ret w0 (fun R => .bool R) R) := by
 rw [zbp] at hm
 have hF : zG [] := zg
 have hO : Dk.Own w0 [] w0 [] := Dk.Own.refl w0
 have hO := hO.addShr hs0 (by simp [Res.shared])
 have hO := hO.addShr hs1 (by simp [Res.shared])
 have hO := hO.addShr hs2 (by simp [Res.shared])
 refine S.enter tb Tryz.func15 rfl Tryz.ntmps15 rfl ?_ hO hm
 refine vl rfl rfl (fun a w hf hO => zdo Tryz.underlying25 hf rfl rfl) ?_
 refine kn (b' := false) rfl rfl ?_
 refine vl rfl rfl (fun a w hf hO => zb (o := 4) ag_4 (hO.sees (i := 2) rfl) rfl hf rfl) ?_
 exact rt Tryz.results15 rfl

theorem zhW (x_s : Str) (x_c : UInt8) (R : List Str) (w0 : World) (hG : zD w0) (hm : zef x_s x_c = some R) :
    Calls Tryz.prog 66 #[str x_s, zY x_c] w0 fun e w' => ∃ (p0 : Option Addr) (c0 : Nat), e = .returned (.slice p0 R.length c0) ∧ Dk.Own w0 [] w' [.row (.slice p0 R.length c0) 9 1 R.length (cells zj R)] := by
 rw [zef] at hm
 have hF : zG [] := zg
 have hO : Dk.Own w0 [] w0 [] := Dk.Own.refl w0
 refine S.enter tb Tryz.func66 rfl Tryz.ntmps66 rfl ?_ hO hm
 refine nl 9 1 ?_
 refine nl 9 1 ?_
 refine lp (fun k a w => ∃ (p5 : Option Addr) (c6 : Nat) (l7 : List Str) (i8 : Int) (i9 : Int), Fits 34 [(0, str x_s), (1, zY x_c), (5, .slice p5 l7.length c6), (6, int i8), (7, int i9)] a ∧ Dk.Own w0 [] w [.row (.slice p5 l7.length c6) 9 1 l7.length (cells zj l7), .row (.slice none 0 0) 9 1 0 (cells zj [])] ∧ zbq x_s x_c k l7 i8 i9 = some R) rfl (fun a w hf hO hm => ⟨none, 0, [], 0, 0, hf.sel rfl, hO, hm⟩) ?_
 rintro n1 a w ⟨p5, c6, l7, i8, i9, hf, hO, hm⟩
 obtain _ | n1 := n1
 rw [zbq] at hm
 cases hm
 rw [zbq] at hm
 refine S.co tb ?_ hf hO hm
 refine br rfl (fun hc11 => ?_) fun hc11 => ?_
 refine jn 3 (fun a w => ∃ (p23 : Option Addr) (c24 : Nat) (l25 : List Str) (i26 : Int), Fits 34 [(0, str x_s), (1, zY x_c), (5, .slice p23 l25.length c24), (6, int i26), (7, int i9)] a ∧ Dk.Own w0 [] w [.row (.slice p23 l25.length c24) 9 1 l25.length (cells zj l25), .row (.slice none 0 0) 9 1 0 (cells zj [])] ∧ zee (zbq x_s x_c n1) i9 l25 i26 = some R) rfl ?_ ?_
 refine bi rfl fun b13 hb13 => ?_
 refine vl rfl rfl (fun a w hf hO => zU (b := b13) (c := x_c) hf rfl rfl) ?_
 refine br rfl (fun hc15 => ?_) fun hc15 => ?_
 refine bi rfl fun s16 hs16 => ?_
 refine rw_ rfl fun a w hf hO hm => ?_
 refine zS (vs := [(0, str s16)]) (cs := [str s16]) (e := 9) (sz := 1) hf rfl rfl (fun w => by kernel_rfl) rfl rfl hO fun a b17 w hf hO => ?_
 refine S.op tb ?_ hf hO hm
 refine rw_ rfl fun a w hf hO hm => ?_
 obtain ⟨hg20, hm⟩ := og hm
 refine zdD zoE (enc := zj) (xs := l7) (ys := ([s16] : List Str)) (i := 1) (fun _ => rfl) rfl (hO.rowSees (i := 0) rfl) (by simp [cells, zj, Value.oneCell']) hg20 hf rfl rfl rfl hO fun a p18 c19 w hf hO => ?_
 refine S.op tb ?_ hf hO hm
 refine bi rfl fun i22 hi22 => ?_
 exact en rfl fun a w hf hO hm => ⟨p18, c19, l7 ++ ([s16] : List Str), i22, hf.sel rfl, (hO.sub (.cons _ (.cons_cons _ (.cons_cons _ .slnil)))), hm⟩
 exact en rfl fun a w hf hO hm => ⟨p5, c6, l7, i8, hf.sel rfl, hO, hm⟩
 rintro a w ⟨p23, c24, l25, i26, hf, hO, hm⟩
 rw [zee] at hm
 refine S.co tb ?_ hf hO hm
 refine bi rfl fun i27 hi27 => ?_
 exact en rfl fun a w hf hO hm => ⟨_, Nat.lt_succ_self _, p23, c24, l25, i26, i27, hf.sel rfl, hO, hm⟩
 refine bi rfl fun s29 hs29 => ?_
 refine rw_ rfl fun a w hf hO hm => ?_
 refine zS (vs := [(0, str s29)]) (cs := [str s29]) (e := 9) (sz := 1) hf rfl rfl (fun w => by kernel_rfl) rfl rfl hO fun a b30 w hf hO => ?_
 refine S.op tb ?_ hf hO hm
 refine rw_ rfl fun a w hf hO hm => ?_
 obtain ⟨hg33, hm⟩ := og hm
 refine zdD zoE (enc := zj) (xs := l7) (ys := ([s29] : List Str)) (i := 1) (fun _ => rfl) rfl (hO.rowSees (i := 0) rfl) (by simp [cells, zj, Value.oneCell']) hg33 hf rfl rfl rfl hO fun a p31 c32 w hf hO => ?_
 refine S.op tb ?_ hf hO hm
 refine re_ rfl fun a w hf hO hm => ?_
 obtain rfl := Option.some.inj hm
 exact zf Tryz.results66 hf (.tmp rfl .nil) ⟨p31, c32, rfl, (hO.sub (.cons _ (.cons_cons _ (.cons _ .slnil))))⟩

theorem zf7 (x_b : UInt8) (x_l : Str) (R : Bool) (w0 : World) (hG : zD w0) (hm : ze2 x_b x_l = some R) :
    Calls Tryz.prog 151 #[zY x_b, str x_l] w0 (Ret w0 (fun R => .bool R) R) := by
 rw [ze2] at hm
 have hF : zG [] := zg
 have hO : Dk.Own w0 [] w0 [] := Dk.Own.refl w0
 refine S.enter tb Tryz.func151 rfl Tryz.ntmps151 rfl ?_ hO hm
 refine lp (fun k a w => ∃ (i3 : Int), Fits 17 [(0, zY x_b), (1, str x_l), (5, int i3)] a ∧ Dk.Own w0 [] w [] ∧ zds x_b x_l k i3 = some R) rfl (fun a w hf hO hm => ⟨0, hf.sel rfl, hO, hm⟩) ?_
 rintro n1 a w ⟨i3, hf, hO, hm⟩
 obtain _ | n1 := n1
 rw [zds] at hm
 cases hm
 rw [zds] at hm
 refine S.co tb ?_ hf hO hm
 refine br rfl (fun hc5 => ?_) fun hc5 => ?_
 refine bi rfl fun b7 hb7 => ?_
 refine vl rfl rfl (fun a w hf hO => zU (b := b7) (c := x_b) hf rfl rfl) ?_
 refine br rfl (fun hc9 => ?_) fun hc9 => ?_
 exact rt Tryz.results151 rfl
 refine bi rfl fun i12 hi12 => ?_
 exact en rfl fun a w hf hO hm => ⟨_, Nat.lt_succ_self _, i12, hf.sel rfl, hO, hm⟩
 exact rt Tryz.results151 rfl

end Go.Proofs
end
section
set_option linter.unusedVariables false
set_option maxHeartbeats 1000000
set_option linter.unusedSimpArgs false
set_option maxRecDepth 100000
namespace Go.Proofs
open Go.Dk Go.Dm Go.RowKit

theorem zkg (x_b : UInt8) (R : Bool) (w0 : World) (hG : zD w0) (hm : zdt x_b = some R) :
    Calls Tryz.prog 113 #[zY x_b] w0 (Ret w0 (fun R => .bool R) R) := by
 rw [zdt] at hm
 have hF : zG [] := zg
 have hO : Dk.Own w0 [] w0 [] := Dk.Own.refl w0
 refine S.enter tb Tryz.func113 rfl Tryz.ntmps113 rfl ?_ hO hm
 refine cl zoF rfl (fun r2 w hr2 hO => zf7 x_b [48, 49, 50, 51, 52, 53, 54, 55, 56, 57] r2 _ (hG.own hF hO) hr2) fun r2 hr2 => ?_
 exact rt Tryz.results113 rfl

theorem zi2 (x_s : Str) (R : Int) (w0 : World) (hG : zD w0) (hm : zcr x_s = some R) :
    Calls Tryz.prog 67 #[str x_s] w0 (Ret w0 (fun R => int R) R) := by
 rw [zcr] at hm
 have hF : zG [] := zg
 have hO : Dk.Own w0 [] w0 [] := Dk.Own.refl w0
 refine S.enter tb Tryz.func67 rfl Tryz.ntmps67 rfl ?_ hO hm
 refine jn 1 (fun a w => ∃ (t12 : Bool), Fits 34 [(0, str x_s), (27, .bool t12)] a ∧ Dk.Own w0 [] w [] ∧ zbd x_s t12 = some R) rfl ?_ ?_
 refine br rfl (fun hc2 => ?_) fun hc2 => ?_
 exact en rfl fun a w hf hO hm => ⟨true, hf.sel rfl, hO, hm⟩
 refine bi rfl fun s3 hs3 => ?_
 refine br rfl (fun hc4 => ?_) fun hc4 => ?_
 exact en rfl fun a w hf hO hm => ⟨true, hf.sel rfl, hO, hm⟩
 refine bi rfl fun b5 hb5 => ?_
 refine cl c_113 rfl (fun r6 w hr6 hO => zkg b5 r6 _ (hG.own hF hO) hr6) fun r6 hr6 => ?_
 refine br rfl (fun hc7 => ?_) fun hc7 => ?_
 exact en rfl fun a w hf hO hm => ⟨true, hf.sel rfl, hO, hm⟩
 refine bi rfl fun b8 hb8 => ?_
 refine vl rfl rfl (fun a w hf hO => zcJ (b := b8) (c := 46) hf rfl rfl) ?_
 refine br rfl (fun hc9 => ?_) fun hc9 => ?_
 exact en rfl fun a w hf hO hm => ⟨true, hf.sel rfl, hO, hm⟩
 refine bi rfl fun b10 hb10 => ?_
 refine cl c_113 rfl (fun r11 w hr11 hO => zkg b10 r11 _ (hG.own hF hO) hr11) fun r11 hr11 => ?_
 exact en rfl fun a w hf hO hm => ⟨!r11, hf.sel rfl, hO, hm⟩
 rintro a w ⟨t12, hf, hO, hm⟩
 rw [zbd] at hm
 refine S.co tb ?_ hf hO hm
 refine br rfl (fun hc13 => ?_) fun hc13 => ?_
 exact rt Tryz.results67 rfl
 refine bi rfl fun s16 hs16 => ?_
 refine br rfl (fun hc18 => ?_) fun hc18 => ?_
 exact rt Tryz.results67 rfl
 refine bi rfl fun s21 hs21 => ?_
 refine br rfl (fun hc23 => ?_) fun hc23 => ?_
 exact rt Tryz.results67 rfl
 exact rt Tryz.results67 rfl

theorem zqA (x_b : UInt8) (R : Bool) (w0 : World) (hG : zD w0) (hm : zie x_b = some R) :
    Calls Tryz.prog 114 #[zY x_b] w0 (Ret w0 (fun R => .bool R) R) := by
 rw [zie] at hm
 have hF : zG [] := zg
 have hO : Dk.Own w0 [] w0 [] := Dk.Own.refl w0
 refine S.enter tb Tryz.func114 rfl Tryz.ntmps114 rfl ?_ hO hm
 refine cl zoF rfl (fun r2 w hr2 hO => zf7 x_b [97, 98, 99, 100, 101, 102, 103, 104, 105, 106, 107, 108, 109, 110, 111, 112, 113, 114, 115, 116, 117, 118, 119, 120, 121, 122, 65, 66, 67, 68, 69, 70, 71, 72, 73, 74, 75, 76, 77, 78, 79, 80, 81, 82, 83, 84, 85, 86, 87, 88, 89, 90, 48, 49, 50, 51, 52, 53, 54, 55, 56, 57, 33, 35, 36, 37, 38, 39, 42, 43, 45, 46, 94, 95, 96, 124, 126] r2 _ (hG.own hF hO) hr2) fun r2 hr2 => ?_
 exact rt Tryz.results114 rfl

theorem zkh (x_s : Str) (R : Bool) (w0 : World) (hG : zD w0) (hm : zeg x_s = some R) :
    Calls Tryz.prog 68 #[str x_s] w0 (Ret w0 (fun R => .bool R) R) := by
 rw [zeg] at hm
 have hF : zG [] := zg
 have hO : Dk.Own w0 [] w0 [] := Dk.Own.refl w0
 refine S.enter tb Tryz.func68 rfl Tryz.ntmps68 rfl ?_ hO hm
 refine lp (fun k a w => ∃ (i3 : Int), Fits 18 [(0, str x_s), (3, int i3)] a ∧ Dk.Own w0 [] w [] ∧ zbV x_s k i3 = some R) rfl (fun a w hf hO hm => ⟨0, hf.sel rfl, hO, hm⟩) ?_
 rintro n1 a w ⟨i3, hf, hO, hm⟩
 obtain _ | n1 := n1
 rw [zbV] at hm
 cases hm
 rw [zbV] at hm
 refine S.co tb ?_ hf hO hm
 refine br rfl (fun hc5 => ?_) fun hc5 => ?_
 refine bi rfl fun b7 hb7 => ?_
 refine cl c_114 rfl (fun r8 w hr8 hO => zqA b7 r8 _ (hG.own hF hO) hr8) fun r8 hr8 => ?_
 refine br rfl (fun hc10 => ?_) fun hc10 => ?_
 exact rt Tryz.results68 rfl
 refine bi rfl fun i13 hi13 => ?_
 exact en rfl fun a w hf hO hm => ⟨_, Nat.lt_succ_self _, i13, hf.sel rfl, hO, hm⟩
 exact rt Tryz.results68 rfl

theorem zki (x_b : UInt8) (x_base : Int) (R : Int) (w0 : World) (hG : zD w0) (hm : zcW x_b x_base = some R) :
    Calls Tryz.prog 121 #[zY x_b, int x_base] w0 (Ret w0 (fun R => int R) R) := by
 rw [zcW] at hm
 have hF : zG [] := zg
 have hO : Dk.Own w0 [] w0 [] := Dk.Own.refl w0
 refine S.enter tb Tryz.func121 rfl Tryz.ntmps121 rfl ?_ hO hm
 refine lp (fun k a w => ∃ (i5 : Int), Fits 26 [(0, zY x_b), (1, int x_base), (5, str [48, 49, 50, 51, 52, 53, 54, 55, 56, 57, 97, 98, 99, 100, 101, 102]), (6, str [48, 49, 50, 51, 52, 53, 54, 55, 56, 57, 65, 66, 67, 68, 69, 70]), (7, int i5)] a ∧ Dk.Own w0 [] w [] ∧ zJ x_b x_base k i5 = some R) rfl (fun a w hf hO hm => ⟨0, hf.sel rfl, hO, hm⟩) ?_
 rintro n1 a w ⟨i5, hf, hO, hm⟩
 obtain _ | n1 := n1
 rw [zJ] at hm
 cases hm
 rw [zJ] at hm
 refine S.co tb ?_ hf hO hm
 refine br rfl (fun hc7 => ?_) fun hc7 => ?_
 refine jn 5 (fun a w => ∃ (t12 : Bool), Fits 26 [(0, zY x_b), (1, int x_base), (5, str [48, 49, 50, 51, 52, 53, 54, 55, 56, 57, 97, 98, 99, 100, 101, 102]), (6, str [48, 49, 50, 51, 52, 53, 54, 55, 56, 57, 65, 66, 67, 68, 69, 70]), (7, int i5), (24, .bool t12)] a ∧ Dk.Own w0 [] w [] ∧ zeh (zJ x_b x_base n1) i5 t12 = some R) rfl ?_ ?_
 refine bi rfl fun b9 hb9 => ?_
 refine vl rfl rfl (fun a w hf hO => zU (b := b9) (c := x_b) hf rfl rfl) ?_
 refine br rfl (fun hc10 => ?_) fun hc10 => ?_
 exact en rfl fun a w hf hO hm => ⟨true, hf.sel rfl, hO, hm⟩
 refine bi rfl fun b11 hb11 => ?_
 refine vl rfl rfl (fun a w hf hO => zU (b := b11) (c := x_b) hf rfl rfl) ?_
 exact en rfl fun a w hf hO hm => ⟨b11 == x_b, hf.sel rfl, hO, hm⟩
 rintro a w ⟨t12, hf, hO, hm⟩
 rw [zeh] at hm
 refine S.co tb ?_ hf hO hm
 refine br rfl (fun hc13 => ?_) fun hc13 => ?_
 exact rt Tryz.results121 rfl
 refine bi rfl fun i16 hi16 => ?_
 exact en rfl fun a w hf hO hm => ⟨_, Nat.lt_succ_self _, i16, hf.sel rfl, hO, hm⟩
 exact rt Tryz.results121 rfl

theorem zlF (n0 : Nat) : ∀ (x_n : Int) (x_base : Int) (R : Str) (w0 : World) (hG : zD w0) (hm : zbW n0 x_n x_base = some R),
    Calls Tryz.prog 120 #[int x_n, int x_base] w0 (Ret w0 (fun R => str R) R) := by
  induction n0 with
  | zero => intro x_n x_base R w0 hG  hm; rw [zbW] at hm; cases hm
  | succ n0 ih =>
    intro x_n x_base R w0 hG  hm
    rw [zbW] at hm
    have hF : zG [] := zg
    have hO : Dk.Own w0 [] w0 [] := Dk.Own.refl w0
    refine S.enter tb Tryz.func120 rfl Tryz.ntmps120 rfl ?_ hO hm
    refine br rfl (fun hc4 => ?_) fun hc4 => ?_
    · refine bi rfl fun i5 hi5 => ?_
      refine bi rfl fun s6 hs6 => ?_
      exact rt Tryz.results120 rfl
    · refine rc_ rfl fun a w hf hO hm => ?_
      refine zfT (by kernel_rfl) (by kernel_rfl) hO ?_
      refine zn (fun w hO => zp hf rfl) rfl hf rfl rfl fun a hf => ?_
      refine zn (fun w hO => zp hf rfl) rfl hf rfl rfl fun a hf => ?_
      obtain ⟨i9, hi9, hm⟩ := ob hm
      refine zn (fun w hO => ztW hf rfl rfl hi9) rfl hf rfl rfl fun a hf => ?_
      refine zn (fun w hO => zp hf rfl) rfl hf rfl rfl fun a hf => ?_
      obtain ⟨r10, hr10, hm⟩ := ob hm
      refine zlB (fun w hO => zt zrO hf (vs := [int i9, int x_base]) rfl) rfl hf rfl rfl (fun w hO => (ih i9 x_base r10 _ (hG.own hF hO) hr10).mono fun e w' ⟨he, hb⟩ => ⟨he, hO.grow hb⟩) fun a hf => ?_
      refine zn (fun w hO => zp hf rfl) rfl hf rfl rfl fun a hf => ?_
      refine zn (fun w hO => zp hf rfl) rfl hf rfl rfl fun a hf => ?_
      refine zn (fun w hO => zp hf rfl) rfl hf rfl rfl fun a hf => ?_
      obtain ⟨i11, hi11, hm⟩ := ob hm
      refine zn (fun w hO => zrn hf rfl rfl hi11) rfl hf rfl rfl fun a hf => ?_
      refine zn (fun w hO => zp hf rfl) rfl hf rfl rfl fun a hf => ?_
      refine zn (fun w hO => zp hf rfl) rfl hf rfl rfl fun a hf => ?_
      obtain ⟨i12, hi12, hm⟩ := ob hm
      refine zn (fun w hO => zrn hf rfl rfl hi12) rfl hf rfl rfl fun a hf => ?_
      obtain ⟨i13, hi13, hm⟩ := ob hm
      refine zn (fun w hO => zrk hf rfl rfl hi13) rfl hf rfl rfl fun a hf => ?_
      obtain ⟨s14, hs14, hm⟩ := ob hm
      refine zn (fun w hO => zlj (l := [48, 49, 50, 51, 52, 53, 54, 55, 56, 57, 97, 98, 99, 100, 101, 102]) Tryz.underlying9 hf rfl rfl rfl hs14) rfl hf rfl rfl fun a hf => ?_
      obtain ⟨s15, hs15, hm⟩ := ob hm
      refine zn (fun w hO => zt7 (l := r10) (m := s14) hf rfl rfl hs15) rfl hf rfl rfl fun a hf => ?_
      refine zn (fun w hO => zaE hf rfl) rfl hf rfl rfl fun a hf => ?_
      refine wpQuiet_nil ?_
      intro w hO
      refine S.no tb ?_ hf hO hm
      exact rt Tryz.results120 rfl
theorem zhA (x_n : Int) (x_base : Int) (R : Str) (w0 : World) (hG : zD w0) (hm : zdy x_n x_base = some R) :
    Calls Tryz.prog 120 #[int x_n, int x_base] w0 (Ret w0 (fun R => str R) R) :=
  zlF fuel x_n x_base R w0 hG  hm

theorem zoc (x_s : Str) (x_base : Int) (R : Str × Bool) (w0 : World) (hG : zD w0) (hm : zgB x_s x_base = some R) :
    Calls Tryz.prog 118 #[str x_s, int x_base] w0 (Ret w0 (fun R => .tuple #[str R.1, .bool R.2]) R) := by
 rw [zgB] at hm
 have hF : zG [] := zg
 have hO : Dk.Own w0 [] w0 [] := Dk.Own.refl w0
 refine S.enter tb Tryz.func118 rfl Tryz.ntmps118 rfl ?_ hO hm
 refine lp (fun k a w => ∃ (s4 : Str) (i5 : Int), Fits 38 [(0, str x_s), (1, int x_base), (6, str s4), (7, int i5)] a ∧ Dk.Own w0 [] w [] ∧ zaW x_s x_base k s4 i5 = some R) rfl (fun a w hf hO hm => ⟨[], 0, hf.sel rfl, hO, hm⟩) ?_
 rintro n1 a w ⟨s4, i5, hf, hO, hm⟩
 obtain _ | n1 := n1
 rw [zaW] at hm
 cases hm
 rw [zaW] at hm
 refine S.co tb ?_ hf hO hm
 refine br rfl (fun hc7 => ?_) fun hc7 => ?_
 refine jn 3 (fun a w => ∃ (s21 : Str), Fits 38 [(0, str x_s), (1, int x_base), (6, str s21), (7, int i5)] a ∧ Dk.Own w0 [] w [] ∧ zei (zaW x_s x_base n1) i5 s21 = some R) rfl ?_ ?_
 refine bi rfl fun b9 hb9 => ?_
 refine cl c_121 rfl (fun r10 w hr10 hO => zki b9 x_base r10 _ (hG.own hF hO) hr10) fun r10 hr10 => ?_
 refine br rfl (fun hc13 => ?_) fun hc13 => ?_
 exact rt Tryz.results118 rfl
 refine jn 5 (fun a w => ∃ (t17 : Bool), Fits 38 [(0, str x_s), (1, int x_base), (6, str s4), (7, int i5), (8, int r10), (27, .bool t17)] a ∧ Dk.Own w0 [] w [] ∧ zej (zaW x_s x_base n1) x_base s4 i5 r10 t17 = some R) rfl ?_ ?_
 refine br rfl (fun hc16 => ?_) fun hc16 => ?_
 exact en rfl fun a w hf hO hm => ⟨true, hf.sel rfl, hO, hm⟩
 exact en rfl fun a w hf hO hm => ⟨decide (0 < r10), hf.sel rfl, hO, hm⟩
 rintro a w ⟨t17, hf, hO, hm⟩
 rw [zej] at hm
 refine S.co tb ?_ hf hO hm
 refine br rfl (fun hc18 => ?_) fun hc18 => ?_
 refine cl zrO rfl (fun r19 w hr19 hO => zhA r10 x_base r19 _ (hG.own hF hO) hr19) fun r19 hr19 => ?_
 refine bi rfl fun s20 hs20 => ?_
 exact en rfl fun a w hf hO hm => ⟨s20, hf.sel rfl, hO, hm⟩
 exact en rfl fun a w hf hO hm => ⟨s4, hf.sel rfl, hO, hm⟩
 rintro a w ⟨s21, hf, hO, hm⟩
 rw [zei] at hm
 refine S.co tb ?_ hf hO hm
 refine bi rfl fun i22 hi22 => ?_
 exact en rfl fun a w hf hO hm => ⟨_, Nat.lt_succ_self _, s21, i22, hf.sel rfl, hO, hm⟩
 refine jn 0 (fun a w => ∃ (s26 : Str), Fits 38 [(0, str x_s), (6, str s26)] a ∧ Dk.Own w0 [] w [] ∧ zek x_s s26 = some R) rfl ?_ ?_
 refine br rfl (fun hc25 => ?_) fun hc25 => ?_
 exact en rfl fun a w hf hO hm => ⟨[48], hf.sel rfl, hO, hm⟩
 exact en rfl fun a w hf hO hm => ⟨s4, hf.sel rfl, hO, hm⟩
 rintro a w ⟨s26, hf, hO, hm⟩
 rw [zek] at hm
 refine S.co tb ?_ hf hO hm
 exact rt Tryz.results118 rfl

theorem zpx (x_a : Str) (x_b : Str) (R : Bool) (w0 : World) (hG : zD w0) (hm : zhr x_a x_b = some R) :
    Calls Tryz.prog 119 #[str x_a, str x_b] w0 (Ret w0 (fun R => .bool R) R) := by
 rw [zhr] at hm
 have hF : zG [] := zg
 have hO : Dk.Own w0 [] w0 [] := Dk.Own.refl w0
 refine S.enter tb Tryz.func119 rfl Tryz.ntmps119 rfl ?_ hO hm
 refine jn 0 (fun a w => ∃ (t4 : Bool), Fits 22 [(4, .bool t4)] a ∧ Dk.Own w0 [] w [] ∧ zcs t4 = some R) rfl ?_ ?_
 refine br rfl (fun hc2 => ?_) fun hc2 => ?_
 exact en rfl fun a w hf hO hm => ⟨true, hf.sel rfl, hO, hm⟩
 refine br rfl (fun hc3 => ?_) fun hc3 => ?_
 refine vl rfl rfl (fun a w hf hO => zt6 (l := x_a) (m := x_b) hf rfl rfl) ?_
 exact en rfl fun a w hf hO hm => ⟨zlY x_a x_b, hf.sel rfl, hO, hm⟩
 exact en rfl fun a w hf hO hm => ⟨false, hf.sel rfl, hO, hm⟩
 rintro a w ⟨t4, hf, hO, hm⟩
 rw [zcs] at hm
 refine S.co tb ?_ hf hO hm
 exact rt Tryz.results119 rfl

theorem zla (x_s : Str) (x_base : Int) (x_most : Int) (R : Int × Int) (w0 : World) (hG : zD w0) (hm : zgb x_s x_base x_most = some R) :
    Calls Tryz.prog 70 #[str x_s, int x_base, int x_most] w0 (Ret w0 (fun R => .tuple #[int R.1, int R.2]) R) := by
 rw [zgb] at hm
 have hF : zG [] := zg
 have hO : Dk.Own w0 [] w0 [] := Dk.Own.refl w0
 refine S.enter tb Tryz.func70 rfl Tryz.ntmps70 rfl ?_ hO hm
 refine cl c_118 rfl (fun r2 w hr2 hO => zoc x_s x_base r2 _ (hG.own hF hO) hr2) fun r2 hr2 => ?_
 refine br rfl (fun hc5 => ?_) fun hc5 => ?_
 exact rt Tryz.results70 rfl
 refine jn 1 (fun a w => ∃ (t11 : Bool), Fits 45 [(1, int x_base), (8, str r2.1), (28, .bool t11)] a ∧ Dk.Own w0 [] w [] ∧ zdS x_base r2 t11 = some R) rfl ?_ ?_
 refine br rfl (fun hc8 => ?_) fun hc8 => ?_
 exact en rfl fun a w hf hO hm => ⟨true, hf.sel rfl, hO, hm⟩
 refine cl zrO rfl (fun r9 w hr9 hO => zhA x_most x_base r9 _ (hG.own hF hO) hr9) fun r9 hr9 => ?_
 refine cl c_119 rfl (fun r10 w hr10 hO => zpx r9 r2.1 r10 _ (hG.own hF hO) hr10) fun r10 hr10 => ?_
 exact en rfl fun a w hf hO hm => ⟨r10, hf.sel rfl, hO, hm⟩
 rintro a w ⟨t11, hf, hO, hm⟩
 rw [zdS] at hm
 refine S.co tb ?_ hf hO hm
 refine br rfl (fun hc12 => ?_) fun hc12 => ?_
 exact rt Tryz.results70 rfl
 refine lp (fun k a w => ∃ (i17 : Int) (i18 : Int), Fits 45 [(1, int x_base), (8, str r2.1), (10, int i17), (11, int i18)] a ∧ Dk.Own w0 [] w [] ∧ zct x_base r2 k i17 i18 = some R) rfl (fun a w hf hO hm => ⟨0, 0, hf.sel rfl, hO, hm⟩) ?_
 rintro n2 a w ⟨i17, i18, hf, hO, hm⟩
 obtain _ | n2 := n2
 rw [zct] at hm
 cases hm
 rw [zct] at hm
 refine S.co tb ?_ hf hO hm
 refine br rfl (fun hc20 => ?_) fun hc20 => ?_
 refine bi rfl fun i22 hi22 => ?_
 refine bi rfl fun b23 hb23 => ?_
 refine cl c_121 rfl (fun r24 w hr24 hO => zki b23 x_base r24 _ (hG.own hF hO) hr24) fun r24 hr24 => ?_
 refine bi rfl fun i25 hi25 => ?_
 refine bi rfl fun i27 hi27 => ?_
 exact en rfl fun a w hf hO hm => ⟨_, Nat.lt_succ_self _, i25, i27, hf.sel rfl, hO, hm⟩
 exact rt Tryz.results70 rfl

theorem zpy (x_n : Int) (x_base : Int) (R : Str) (w0 : World) (hG : zD w0) (hm : zhs x_n x_base = some R) :
    Calls Tryz.prog 78 #[int x_n, int x_base] w0 (Ret w0 (fun R => str R) R) := by
 rw [zhs] at hm
 have hF : zG [] := zg
 have hO : Dk.Own w0 [] w0 [] := Dk.Own.refl w0
 refine S.enter tb Tryz.func78 rfl Tryz.ntmps78 rfl ?_ hO hm
 refine br rfl (fun hc3 => ?_) fun hc3 => ?_
 exact rt Tryz.results78 rfl
 refine cl zrO rfl (fun r6 w hr6 hO => zhA x_n x_base r6 _ (hG.own hF hO) hr6) fun r6 hr6 => ?_
 exact rt Tryz.results78 rfl

theorem zkj (x_s : Str) (x_most : Int) (R : Int) (w0 : World) (hG : zD w0) (hm : zfn x_s x_most = some R) :
    Calls Tryz.prog 127 #[str x_s, int x_most] w0 (Ret w0 (fun R => int R) R) := by
 rw [zfn] at hm
 have hF : zG [] := zg
 have hO : Dk.Own w0 [] w0 [] := Dk.Own.refl w0
 refine S.enter tb Tryz.func127 rfl Tryz.ntmps127 rfl ?_ hO hm
 refine br rfl (fun hc3 => ?_) fun hc3 => ?_
 exact rt Tryz.results127 rfl
 refine cl c_70 rfl (fun r6 w hr6 hO => zla x_s 10 x_most r6 _ (hG.own hF hO) hr6) fun r6 hr6 => ?_
 refine jn 1 (fun a w => ∃ (t10 : Bool), Fits 25 [(5, int r6.1), (23, .bool t10)] a ∧ Dk.Own w0 [] w [] ∧ zdi r6 t10 = some R) rfl ?_ ?_
 refine br rfl (fun hc8 => ?_) fun hc8 => ?_
 exact en rfl fun a w hf hO hm => ⟨true, hf.sel rfl, hO, hm⟩
 refine cl c_78 rfl (fun r9 w hr9 hO => zpy r6.1 10 r9 _ (hG.own hF hO) hr9) fun r9 hr9 => ?_
 exact en rfl fun a w hf hO hm => ⟨!(r9 == x_s), hf.sel rfl, hO, hm⟩
 rintro a w ⟨t10, hf, hO, hm⟩
 rw [zdi] at hm
 refine S.co tb ?_ hf hO hm
 refine br rfl (fun hc11 => ?_) fun hc11 => ?_
 exact rt Tryz.results127 rfl
 exact rt Tryz.results127 rfl

theorem zlb (x_s : Str) (R : Bool) (w0 : World) (hG : zD w0) (hm : zgc x_s = some R) :
    Calls Tryz.prog 161 #[str x_s] w0 (Ret w0 (fun R => .bool R) R) := by
 rw [zgc] at hm
 have hF : zG [] := zg
 have hO : Dk.Own w0 [] w0 [] := Dk.Own.refl w0
 refine S.enter tb Tryz.func161 rfl Tryz.ntmps161 rfl ?_ hO hm
 refine rw_ rfl fun a w hf hO hm => ?_
 obtain ⟨r2, hr2, hm⟩ := ob hm
 refine zv (zt c_66 hf (vs := [str x_s, zY 46]) rfl) rfl hf rfl rfl (zhW x_s 46 r2 _ (hG.own hF hO) hr2) ?_
 rintro e w' ⟨p3, c4, he, hO'⟩
 refine ⟨_, he, fun a hf => ?_⟩
 have hO := hO.call hO' (by simp [Res.shared])
 refine S.op tb ?_ hf hO hm
 refine lp (fun k a w => ∃ (i7 : Int), Fits 22 [(3, .slice p3 r2.length c4), (4, int i7)] a ∧ Dk.Own w0 [] w [.row (.slice p3 r2.length c4) 9 1 r2.length (cells zj r2)] ∧ zcu r2 k i7 = some R) rfl (fun a w hf hO hm => ⟨0, hf.sel rfl, hO, hm⟩) ?_
 rintro n1 a w ⟨i7, hf, hO, hm⟩
 obtain _ | n1 := n1
 rw [zcu] at hm
 cases hm
 rw [zcu] at hm
 refine S.co tb ?_ hf hO hm
 refine br rfl (fun hc9 => ?_) fun hc9 => ?_
 refine rw_ rfl fun a w hf hO hm => ?_
 obtain ⟨x11, hx11, hm⟩ := ob hm
 obtain ⟨b12, o13, hix11, hSx11, hAx11⟩ := zae (enc := zj) (sz := 1) (xs := r2) 31 Tryz.underlying31 zeB (by decide) (fun _ => rfl) hO (i := 0) rfl hx11
 refine zaL (zw hix11 hf rfl rfl) rfl hf rfl rfl fun a hf => ?_
 refine S.op tb ?_ hf hO hm
 refine vl rfl rfl (fun a w hf hO => zb (o := 0) za6 (hSx11 _ (hO.rowSees (i := 0) rfl)) rfl hf rfl) ?_
 refine cl c_127 rfl (fun r14 w hr14 hO => zkj x11 255 r14 _ (hG.own hF hO) hr14) fun r14 hr14 => ?_
 refine br rfl (fun hc16 => ?_) fun hc16 => ?_
 exact rt Tryz.results161 rfl
 refine bi rfl fun i19 hi19 => ?_
 exact en rfl fun a w hf hO hm => ⟨_, Nat.lt_succ_self _, i19, hf.sel rfl, hO, hm⟩
 exact rt Tryz.results161 rfl

end Go.Proofs
end
section
set_option linter.unusedVariables false
set_option maxHeartbeats 1000000
set_option linter.unusedSimpArgs false
set_option maxRecDepth 100000
namespace Go.Proofs
open Go.Dk Go.Dm Go.RowKit

theorem zgw (x_b : UInt8) (R : Bool) (w0 : World) (hG : zD w0) (hm : zeI x_b = some R) :
    Calls Tryz.prog 178 #[zY x_b] w0 (Ret w0 (fun R => .bool R) R) := by
 rw [zeI] at hm
 have hF : zG [] := zg
 have hO : Dk.Own w0 [] w0 [] := Dk.Own.refl w0
 refine S.enter tb Tryz.func178 rfl Tryz.ntmps178 rfl ?_ hO hm
 refine cl zoF rfl (fun r2 w hr2 hO => zf7 x_b [48, 49, 50, 51, 52, 53, 54, 55, 56, 57, 97, 98, 99, 100, 101, 102, 65, 66, 67, 68, 69, 70] r2 _ (hG.own hF hO) hr2) fun r2 hr2 => ?_
 exact rt Tryz.results178 rfl

theorem zj6 (x_s : Str) (R : Bool) (w0 : World) (hG : zD w0) (hm : zfo x_s = some R) :
    Calls Tryz.prog 183 #[str x_s] w0 (Ret w0 (fun R => .bool R) R) := by
 rw [zfo] at hm
 have hF : zG [] := zg
 have hO : Dk.Own w0 [] w0 [] := Dk.Own.refl w0
 refine S.enter tb Tryz.func183 rfl Tryz.ntmps183 rfl ?_ hO hm
 refine rw_ rfl fun a w hf hO hm => ?_
 obtain ⟨r2, hr2, hm⟩ := ob hm
 refine zv (zt c_66 hf (vs := [str x_s, zY 58]) rfl) rfl hf rfl rfl (zhW x_s 58 r2 _ (hG.own hF hO) hr2) ?_
 rintro e w' ⟨p3, c4, he, hO'⟩
 refine ⟨_, he, fun a hf => ?_⟩
 have hO := hO.call hO' (by simp [Res.shared])
 refine S.op tb ?_ hf hO hm
 refine lp (fun k a w => ∃ (i8 : Int) (i9 : Int), Fits 64 [(3, .slice p3 r2.length c4), (4, int i8), (5, int i9)] a ∧ Dk.Own w0 [] w [.row (.slice p3 r2.length c4) 9 1 r2.length (cells zj r2)] ∧ zal r2 k i8 i9 = some R) rfl (fun a w hf hO hm => ⟨0, 0, hf.sel rfl, hO, hm⟩) ?_
 rintro n1 a w ⟨i8, i9, hf, hO, hm⟩
 obtain _ | n1 := n1
 rw [zal] at hm
 cases hm
 rw [zal] at hm
 refine S.co tb ?_ hf hO hm
 refine br rfl (fun hc11 => ?_) fun hc11 => ?_
 refine jn 3 (fun a w => ∃ (i55 : Int), Fits 64 [(3, .slice p3 r2.length c4), (4, int i55), (5, int i9)] a ∧ Dk.Own w0 [] w [.row (.slice p3 r2.length c4) 9 1 r2.length (cells zj r2)] ∧ zdj (zal r2 n1) i9 i55 = some R) rfl ?_ ?_
 refine jn 6 (fun a w => ∃ (t19 : Bool), Fits 64 [(3, .slice p3 r2.length c4), (4, int i8), (5, int i9), (26, .bool t19)] a ∧ Dk.Own w0 [] w [.row (.slice p3 r2.length c4) 9 1 r2.length (cells zj r2)] ∧ zdk (zal r2 n1) r2 i8 i9 t19 = some R) rfl ?_ ?_
 refine bi rfl fun i13 hi13 => ?_
 refine br rfl (fun hc14 => ?_) fun hc14 => ?_
 refine rw_ rfl fun a w hf hO hm => ?_
 obtain ⟨x15, hx15, hm⟩ := ob hm
 obtain ⟨b16, o17, hix15, hSx15, hAx15⟩ := zae (enc := zj) (sz := 1) (xs := r2) 31 Tryz.underlying31 zeB (by decide) (fun _ => rfl) hO (i := 0) rfl hx15
 refine zaL (zw hix15 hf rfl rfl) rfl hf rfl rfl fun a hf => ?_
 refine S.op tb ?_ hf hO hm
 refine kn (b' := true) hc14 rfl ?_
 refine vl rfl rfl (fun a w hf hO => zb (o := 0) za6 (hSx15 _ (hO.rowSees (i := 0) rfl)) rfl hf rfl) ?_
 refine cl c_161 rfl (fun r18 w hr18 hO => zlb x15 r18 _ (hG.own hF hO) hr18) fun r18 hr18 => ?_
 exact en rfl fun a w hf hO hm => ⟨r18, hf.sel rfl, hO, hm⟩
 exact en rfl fun a w hf hO hm => ⟨false, hf.sel rfl, hO, hm⟩
 rintro a w ⟨t19, hf, hO, hm⟩
 rw [zdk] at hm
 refine S.co tb ?_ hf hO hm
 refine br rfl (fun hc20 => ?_) fun hc20 => ?_
 refine bi rfl fun i21 hi21 => ?_
 exact en rfl fun a w hf hO hm => ⟨i21, hf.sel rfl, hO, hm⟩
 refine lp (fun k a w => ∃ (i25 : Int), Fits 64 [(3, .slice p3 r2.length c4), (4, int i8), (5, int i9), (6, int i25)] a ∧ Dk.Own w0 [] w [.row (.slice p3 r2.length c4) 9 1 r2.length (cells zj r2)] ∧ zbX (zal r2 n1) r2 i8 i9 k i25 = some R) rfl (fun a w hf hO hm => ⟨0, hf.sel rfl, hO, hm⟩) ?_
 rintro n3 a w ⟨i25, hf, hO, hm⟩
 obtain _ | n3 := n3
 rw [zbX] at hm
 cases hm
 rw [zbX] at hm
 refine S.co tb ?_ hf hO hm
 refine rw_ rfl fun a w hf hO hm => ?_
 obtain ⟨x26, hx26, hm⟩ := ob hm
 obtain ⟨b27, o28, hix26, hSx26, hAx26⟩ := zae (enc := zj) (sz := 1) (xs := r2) 31 Tryz.underlying31 zeB (by decide) (fun _ => rfl) hO (i := 0) rfl hx26
 refine zaL (zw hix26 hf rfl rfl) rfl hf rfl rfl fun a hf => ?_
 refine S.op tb ?_ hf hO hm
 refine vl rfl rfl (fun a w hf hO => zb (o := 0) za6 (hSx26 _ (hO.rowSees (i := 0) rfl)) rfl hf rfl) ?_
 refine br rfl (fun hc30 => ?_) fun hc30 => ?_
 refine rw_ rfl fun a w hf hO hm => ?_
 obtain ⟨x32, hx32, hm⟩ := ob hm
 obtain ⟨b33, o34, hix32, hSx32, hAx32⟩ := zae (enc := zj) (sz := 1) (xs := r2) 31 Tryz.underlying31 zeB (by decide) (fun _ => rfl) hO (i := 0) rfl hx32
 refine zaL (zw hix32 hf rfl rfl) rfl hf rfl rfl fun a hf => ?_
 refine S.op tb ?_ hf hO hm
 refine vl rfl rfl (fun a w hf hO => zb (o := 0) za6 (hSx32 _ (hO.rowSees (i := 0) rfl)) rfl hf rfl) ?_
 refine bi rfl fun b35 hb35 => ?_
 refine cl zqv rfl (fun r36 w hr36 hO => zgw b35 r36 _ (hG.own hF hO) hr36) fun r36 hr36 => ?_
 refine br rfl (fun hc38 => ?_) fun hc38 => ?_
 exact rt Tryz.results183 rfl
 refine bi rfl fun i41 hi41 => ?_
 exact en rfl fun a w hf hO hm => ⟨_, Nat.lt_succ_self _, i41, hf.sel rfl, hO, hm⟩
 refine jn 6 (fun a w => ∃ (t50 : Bool), Fits 64 [(3, .slice p3 r2.length c4), (4, int i8), (5, int i9), (59, .bool t50)] a ∧ Dk.Own w0 [] w [.row (.slice p3 r2.length c4) 9 1 r2.length (cells zj r2)] ∧ zel (zal r2 n1) i8 i9 t50 = some R) rfl ?_ ?_
 refine rw_ rfl fun a w hf hO hm => ?_
 obtain ⟨x43, hx43, hm⟩ := ob hm
 obtain ⟨b44, o45, hix43, hSx43, hAx43⟩ := zae (enc := zj) (sz := 1) (xs := r2) 31 Tryz.underlying31 zeB (by decide) (fun _ => rfl) hO (i := 0) rfl hx43
 refine zaL (zw hix43 hf rfl rfl) rfl hf rfl rfl fun a hf => ?_
 refine S.op tb ?_ hf hO hm
 refine vl rfl rfl (fun a w hf hO => zb (o := 0) za6 (hSx43 _ (hO.rowSees (i := 0) rfl)) rfl hf rfl) ?_
 refine br rfl (fun hc46 => ?_) fun hc46 => ?_
 exact en rfl fun a w hf hO hm => ⟨true, hf.sel rfl, hO, hm⟩
 refine rw_ rfl fun a w hf hO hm => ?_
 obtain ⟨x47, hx47, hm⟩ := ob hm
 obtain ⟨b48, o49, hix47, hSx47, hAx47⟩ := zae (enc := zj) (sz := 1) (xs := r2) 31 Tryz.underlying31 zeB (by decide) (fun _ => rfl) hO (i := 0) rfl hx47
 refine zaL (zw hix47 hf rfl rfl) rfl hf rfl rfl fun a hf => ?_
 refine S.op tb ?_ hf hO hm
 refine kn (b' := false) hc46 rfl ?_
 refine vl rfl rfl (fun a w hf hO => zb (o := 0) za6 (hSx47 _ (hO.rowSees (i := 0) rfl)) rfl hf rfl) ?_
 exact en rfl fun a w hf hO hm => ⟨decide (4 < (x47.length : Int)), hf.sel rfl, hO, hm⟩
 rintro a w ⟨t50, hf, hO, hm⟩
 rw [zel] at hm
 refine S.co tb ?_ hf hO hm
 refine br rfl (fun hc51 => ?_) fun hc51 => ?_
 exact rt Tryz.results183 rfl
 refine bi rfl fun i54 hi54 => ?_
 exact en rfl fun a w hf hO hm => ⟨i54, hf.sel rfl, hO, hm⟩
 rintro a w ⟨i55, hf, hO, hm⟩
 rw [zdj] at hm
 refine S.co tb ?_ hf hO hm
 refine bi rfl fun i56 hi56 => ?_
 exact en rfl fun a w hf hO hm => ⟨_, Nat.lt_succ_self _, i55, i56, hf.sel rfl, hO, hm⟩
 exact rt Tryz.results183 rfl

theorem zp0 (x_s : Str) (R : Bool) (w0 : World) (hG : zD w0) (hm : zg0 x_s = some R) :
    Calls Tryz.prog 160 #[str x_s] w0 (Ret w0 (fun R => .bool R) R) := by
 rw [zg0] at hm
 have hF : zG [] := zg
 have hO : Dk.Own w0 [] w0 [] := Dk.Own.refl w0
 refine S.enter tb Tryz.func160 rfl Tryz.ntmps160 rfl ?_ hO hm
 refine lp (fun k a w => ∃ (i3 : Int), Fits 59 [(0, str x_s), (3, int i3)] a ∧ Dk.Own w0 [] w [] ∧ zcm x_s k i3 = some R) rfl (fun a w hf hO hm => ⟨0, hf.sel rfl, hO, hm⟩) ?_
 rintro n1 a w ⟨i3, hf, hO, hm⟩
 obtain _ | n1 := n1
 rw [zcm] at hm
 cases hm
 rw [zcm] at hm
 refine S.co tb ?_ hf hO hm
 refine bi rfl fun i4 hi4 => ?_
 refine br rfl (fun hc6 => ?_) fun hc6 => ?_
 refine jn 6 (fun a w => ∃ (t12 : Bool), Fits 59 [(0, str x_s), (3, int i3), (24, .bool t12)] a ∧ Dk.Own w0 [] w [] ∧ zfO (zcm x_s n1) x_s i3 t12 = some R) rfl ?_ ?_
 refine bi rfl fun b8 hb8 => ?_
 refine vl rfl rfl (fun a w hf hO => zcJ (b := b8) (c := 58) hf rfl rfl) ?_
 refine br rfl (fun hc9 => ?_) fun hc9 => ?_
 exact en rfl fun a w hf hO hm => ⟨true, hf.sel rfl, hO, hm⟩
 refine bi rfl fun i10 hi10 => ?_
 refine bi rfl fun b11 hb11 => ?_
 refine vl rfl rfl (fun a w hf hO => zcJ (b := b11) (c := 58) hf rfl rfl) ?_
 exact en rfl fun a w hf hO hm => ⟨!(b11 == 58), hf.sel rfl, hO, hm⟩
 rintro a w ⟨t12, hf, hO, hm⟩
 rw [zfO] at hm
 refine S.co tb ?_ hf hO hm
 refine br rfl (fun hc13 => ?_) fun hc13 => ?_
 refine bi rfl fun i54 hi54 => ?_
 exact en rfl fun a w hf hO hm => ⟨_, Nat.lt_succ_self _, i54, hf.sel rfl, hO, hm⟩
 refine lp (fun k a w => ∃ (i16 : Int), Fits 59 [(0, str x_s), (3, int i3), (4, int i16)] a ∧ Dk.Own w0 [] w [] ∧ zaZ x_s i3 k i16 = some R) rfl (fun a w hf hO hm => ⟨1, hf.sel rfl, hO, hm⟩) ?_
 rintro n3 a w ⟨i16, hf, hO, hm⟩
 obtain _ | n3 := n3
 rw [zaZ] at hm
 cases hm
 rw [zaZ] at hm
 refine S.co tb ?_ hf hO hm
 refine br rfl (fun hc18 => ?_) fun hc18 => ?_
 refine bi rfl fun s20 hs20 => ?_
 refine lp (fun k a w => ∃ (s23 : Str) (i24 : Int), Fits 59 [(0, str x_s), (3, int i3), (4, int i16), (5, str s23), (6, int i24)] a ∧ Dk.Own w0 [] w [] ∧ zcl (zaZ x_s i3 n3) x_s i3 i16 k s23 i24 = some R) rfl (fun a w hf hO hm => ⟨s20, 0, hf.sel rfl, hO, hm⟩) ?_
 rintro n4 a w ⟨s23, i24, hf, hO, hm⟩
 obtain _ | n4 := n4
 rw [zcl] at hm
 cases hm
 rw [zcl] at hm
 refine S.co tb ?_ hf hO hm
 refine br rfl (fun hc26 => ?_) fun hc26 => ?_
 refine jn 15 (fun a w => ∃ (s31 : Str), Fits 59 [(0, str x_s), (3, int i3), (4, int i16), (5, str s31), (6, int i24)] a ∧ Dk.Own w0 [] w [] ∧ zfN (zcl (zaZ x_s i3 n3) x_s i3 i16 n4) i24 s31 = some R) rfl ?_ ?_
 refine br rfl (fun hc29 => ?_) fun hc29 => ?_
 refine bi rfl fun s30 hs30 => ?_
 exact en rfl fun a w hf hO hm => ⟨s30, hf.sel rfl, hO, hm⟩
 exact en rfl fun a w hf hO hm => ⟨s23, hf.sel rfl, hO, hm⟩
 rintro a w ⟨s31, hf, hO, hm⟩
 rw [zfN] at hm
 refine S.co tb ?_ hf hO hm
 refine bi rfl fun s32 hs32 => ?_
 refine bi rfl fun i34 hi34 => ?_
 exact en rfl fun a w hf hO hm => ⟨_, Nat.lt_succ_self _, s32, i34, hf.sel rfl, hO, hm⟩
 refine jn 10 (fun a w => ∃ (s44 : Str), Fits 59 [(0, str x_s), (3, int i3), (4, int i16), (5, str s44)] a ∧ Dk.Own w0 [] w [] ∧ zeJ (zaZ x_s i3 n3) i16 s44 = some R) rfl ?_ ?_
 refine bi rfl fun i36 hi36 => ?_
 refine bi rfl fun s37 hs37 => ?_
 refine br rfl (fun hc39 => ?_) fun hc39 => ?_
 refine bi rfl fun s40 hs40 => ?_
 refine bi rfl fun i41 hi41 => ?_
 refine bi rfl fun s42 hs42 => ?_
 refine bi rfl fun s43 hs43 => ?_
 exact en rfl fun a w hf hO hm => ⟨s43, hf.sel rfl, hO, hm⟩
 exact en rfl fun a w hf hO hm => ⟨s23, hf.sel rfl, hO, hm⟩
 rintro a w ⟨s44, hf, hO, hm⟩
 rw [zeJ] at hm
 refine S.co tb ?_ hf hO hm
 refine cl c_183 rfl (fun r45 w hr45 hO => zj6 s44 r45 _ (hG.own hF hO) hr45) fun r45 hr45 => ?_
 refine br rfl (fun hc47 => ?_) fun hc47 => ?_
 exact rt Tryz.results160 rfl
 refine bi rfl fun i50 hi50 => ?_
 exact en rfl fun a w hf hO hm => ⟨_, Nat.lt_succ_self _, i50, hf.sel rfl, hO, hm⟩
 exact rt Tryz.results160 rfl
 refine cl c_183 rfl (fun r56 w hr56 hO => zj6 x_s r56 _ (hG.own hF hO) hr56) fun r56 hr56 => ?_
 exact rt Tryz.results160 rfl

theorem zg8 (x_b : UInt8) (R : Bool) (w0 : World) (hG : zD w0) (hm : zcw x_b = some R) :
    Calls Tryz.prog 184 #[zY x_b] w0 (Ret w0 (fun R => .bool R) R) := by
 rw [zcw] at hm
 have hF : zG [] := zg
 have hO : Dk.Own w0 [] w0 [] := Dk.Own.refl w0
 refine S.enter tb Tryz.func184 rfl Tryz.ntmps184 rfl ?_ hO hm
 refine cl zoF rfl (fun r2 w hr2 hO => zf7 x_b [97, 98, 99, 100, 101, 102, 103, 104, 105, 106, 107, 108, 109, 110, 111, 112, 113, 114, 115, 116, 117, 118, 119, 120, 121, 122, 65, 66, 67, 68, 69, 70, 71, 72, 73, 74, 75, 76, 77, 78, 79, 80, 81, 82, 83, 84, 85, 86, 87, 88, 89, 90, 48, 49, 50, 51, 52, 53, 54, 55, 56, 57, 45, 46, 95, 126] r2 _ (hG.own hF hO) hr2) fun r2 hr2 => ?_
 exact rt Tryz.results184 rfl

theorem zlW (x_b : UInt8) (R : Bool) (w0 : World) (hG : zD w0) (hm : zg1 x_b = some R) :
    Calls Tryz.prog 185 #[zY x_b] w0 (Ret w0 (fun R => .bool R) R) := by
 rw [zg1] at hm
 have hF : zG [] := zg
 have hO : Dk.Own w0 [] w0 [] := Dk.Own.refl w0
 refine S.enter tb Tryz.func185 rfl Tryz.ntmps185 rfl ?_ hO hm
 refine cl zoF rfl (fun r2 w hr2 hO => zf7 x_b [33, 36, 38, 39, 40, 41, 42, 43, 44, 59, 61] r2 _ (hG.own hF hO) hr2) fun r2 hr2 => ?_
 exact rt Tryz.results185 rfl

theorem zo5 (x_s : Str) (R : Bool) (w0 : World) (hG : zD w0) (hm : zht x_s = some R) :
    Calls Tryz.prog 162 #[str x_s] w0 (Ret w0 (fun R => .bool R) R) := by
 rw [zht] at hm
 have hF : zG [] := zg
 have hO : Dk.Own w0 [] w0 [] := Dk.Own.refl w0
 refine S.enter tb Tryz.func162 rfl Tryz.ntmps162 rfl ?_ hO hm
 refine lp (fun k a w => ∃ (i3 : Int), Fits 52 [(0, str x_s), (3, int i3)] a ∧ Dk.Own w0 [] w [] ∧ zac x_s k i3 = some R) rfl (fun a w hf hO hm => ⟨0, hf.sel rfl, hO, hm⟩) ?_
 rintro n1 a w ⟨i3, hf, hO, hm⟩
 obtain _ | n1 := n1
 rw [zac] at hm
 cases hm
 rw [zac] at hm
 refine S.co tb ?_ hf hO hm
 refine br rfl (fun hc5 => ?_) fun hc5 => ?_
 refine jn 3 (fun a w => ∃ (i34 : Int), Fits 52 [(0, str x_s), (3, int i34)] a ∧ Dk.Own w0 [] w [] ∧ zdT (zac x_s n1) i34 = some R) rfl ?_ ?_
 refine bi rfl fun b7 hb7 => ?_
 refine vl rfl rfl (fun a w hf hO => zU (b := b7) (c := 37) hf rfl rfl) ?_
 refine br rfl (fun hc9 => ?_) fun hc9 => ?_
 refine jn 7 (fun a w => ∃ (t19 : Bool), Fits 52 [(0, str x_s), (3, int i3), (34, .bool t19)] a ∧ Dk.Own w0 [] w [] ∧ zbR (zac x_s n1) i3 t19 = some R) rfl ?_ ?_
 refine bi rfl fun i10 hi10 => ?_
 refine br rfl (fun hc11 => ?_) fun hc11 => ?_
 exact en rfl fun a w hf hO hm => ⟨true, hf.sel rfl, hO, hm⟩
 refine bi rfl fun i12 hi12 => ?_
 refine bi rfl fun b13 hb13 => ?_
 refine cl zqv rfl (fun r14 w hr14 hO => zgw b13 r14 _ (hG.own hF hO) hr14) fun r14 hr14 => ?_
 refine br rfl (fun hc15 => ?_) fun hc15 => ?_
 exact en rfl fun a w hf hO hm => ⟨true, hf.sel rfl, hO, hm⟩
 refine bi rfl fun i16 hi16 => ?_
 refine bi rfl fun b17 hb17 => ?_
 refine cl zqv rfl (fun r18 w hr18 hO => zgw b17 r18 _ (hG.own hF hO) hr18) fun r18 hr18 => ?_
 exact en rfl fun a w hf hO hm => ⟨!r18, hf.sel rfl, hO, hm⟩
 rintro a w ⟨t19, hf, hO, hm⟩
 rw [zbR] at hm
 refine S.co tb ?_ hf hO hm
 refine br rfl (fun hc20 => ?_) fun hc20 => ?_
 exact rt Tryz.results162 rfl
 refine bi rfl fun i23 hi23 => ?_
 exact en rfl fun a w hf hO hm => ⟨i23, hf.sel rfl, hO, hm⟩
 refine jn 5 (fun a w => ∃ (t31 : Bool), Fits 52 [(0, str x_s), (3, int i3), (48, .bool t31)] a ∧ Dk.Own w0 [] w [] ∧ ze3 (zac x_s n1) i3 t31 = some R) rfl ?_ ?_
 refine bi rfl fun b26 hb26 => ?_
 refine cl c_184 rfl (fun r27 w hr27 hO => zg8 b26 r27 _ (hG.own hF hO) hr27) fun r27 hr27 => ?_
 refine br rfl (fun hc28 => ?_) fun hc28 => ?_
 refine bi rfl fun b29 hb29 => ?_
 refine cl c_185 rfl (fun r30 w hr30 hO => zlW b29 r30 _ (hG.own hF hO) hr30) fun r30 hr30 => ?_
 exact en rfl fun a w hf hO hm => ⟨!r30, hf.sel rfl, hO, hm⟩
 exact en rfl fun a w hf hO hm => ⟨false, hf.sel rfl, hO, hm⟩
 rintro a w ⟨t31, hf, hO, hm⟩
 rw [ze3] at hm
 refine S.co tb ?_ hf hO hm
 refine br rfl (fun hc32 => ?_) fun hc32 => ?_
 exact rt Tryz.results162 rfl
 exact en rfl fun a w hf hO hm => ⟨i3, hf.sel rfl, hO, hm⟩
 rintro a w ⟨i34, hf, hO, hm⟩
 rw [zdT] at hm
 refine S.co tb ?_ hf hO hm
 refine bi rfl fun i35 hi35 => ?_
 exact en rfl fun a w hf hO hm => ⟨_, Nat.lt_succ_self _, i35, hf.sel rfl, hO, hm⟩
 exact rt Tryz.results162 rfl

theorem zm1 (x_s : Str) (R : api_Host) (w0 : World) (hG : zD w0) (hm : zif x_s = some R) :
    Calls Tryz.prog 126 #[str x_s] w0 (Ret w0 (fun R => .agg #[int R.Kind, str R.Name, int R.Port]) R) := by
 rw [zif] at hm
 have hF : zG [] := zg
 have hO : Dk.Own w0 [] w0 [] := Dk.Own.refl w0
 refine S.enter tb Tryz.func126 rfl Tryz.ntmps126 rfl ?_ hO hm
 refine rw_ rfl fun a w hf hO hm => ?_
 refine zx zfU hf rfl hO fun a b1 w hf hO => ?_
 refine S.op tb ?_ hf hO hm
 refine jn 1 (fun a w => ∃ (t12 : Bool), Fits 42 [(0, str x_s), (2, ptr b1 0), (26, .bool t12)] a ∧ Dk.Own w0 [] w [.blk b1 [int 0, str [], int 0] 107] ∧ zdu x_s t12 = some R) rfl ?_ ?_
 refine br rfl (fun hc3 => ?_) fun hc3 => ?_
 refine bi rfl fun b4 hb4 => ?_
 refine vl rfl rfl (fun a w hf hO => zU (b := b4) (c := 91) hf rfl rfl) ?_
 refine br rfl (fun hc5 => ?_) fun hc5 => ?_
 refine bi rfl fun i6 hi6 => ?_
 refine bi rfl fun b7 hb7 => ?_
 refine vl rfl rfl (fun a w hf hO => zU (b := b7) (c := 93) hf rfl rfl) ?_
 refine br rfl (fun hc8 => ?_) fun hc8 => ?_
 refine bi rfl fun i9 hi9 => ?_
 refine bi rfl fun s10 hs10 => ?_
 refine cl c_160 rfl (fun r11 w hr11 hO => zp0 s10 r11 _ (hG.own hF hO) hr11) fun r11 hr11 => ?_
 exact en rfl fun a w hf hO hm => ⟨r11, hf.sel rfl, hO, hm⟩
 exact en rfl fun a w hf hO hm => ⟨false, hf.sel rfl, hO, hm⟩
 exact en rfl fun a w hf hO hm => ⟨false, hf.sel rfl, hO, hm⟩
 exact en rfl fun a w hf hO hm => ⟨false, hf.sel rfl, hO, hm⟩
 rintro a w ⟨t12, hf, hO, hm⟩
 rw [zdu] at hm
 refine S.co tb ?_ hf hO hm
 refine br rfl (fun hc13 => ?_) fun hc13 => ?_
 refine bi rfl fun i14 hi14 => ?_
 refine bi rfl fun s15 hs15 => ?_
 refine vl rfl rfl (fun a w hf hO => zo (vs := [(0, int 3), (1, str s15), (2, int (-1))]) (v := .agg #[int 3, str s15, int (-1)]) hf rfl (by kernel_rfl)) ?_
 refine rw_ rfl fun a w hf hO hm => ?_
 refine zd (i := 0) (n := 3) zW rfl rfl rfl (by simp [Value.oneCell']) hf rfl rfl hO fun w hO => ?_
 refine S.op tb ?_ hf hO hm
 refine re_ rfl fun a w hf hO hm => ?_
 obtain rfl := Option.some.inj hm
 exact zf Tryz.results126 hf (.cell rfl (zc (n := 3) (vs := [int 3, str s15, int (-1)]) zcI zW rfl ((hO.blkSees (i := 0) rfl).cells (o := 0) (n := 3) rfl)) .nil) ⟨rfl, hO.below⟩
 refine cl c_161 rfl (fun r18 w hr18 hO => zlb x_s r18 _ (hG.own hF hO) hr18) fun r18 hr18 => ?_
 refine br rfl (fun hc20 => ?_) fun hc20 => ?_
 refine vl rfl rfl (fun a w hf hO => zo (vs := [(0, int 2), (1, str x_s), (2, int (-1))]) (v := .agg #[int 2, str x_s, int (-1)]) hf rfl (by kernel_rfl)) ?_
 refine rw_ rfl fun a w hf hO hm => ?_
 refine zd (i := 0) (n := 3) zW rfl rfl rfl (by simp [Value.oneCell']) hf rfl rfl hO fun w hO => ?_
 refine S.op tb ?_ hf hO hm
 refine re_ rfl fun a w hf hO hm => ?_
 obtain rfl := Option.some.inj hm
 exact zf Tryz.results126 hf (.cell rfl (zc (n := 3) (vs := [int 2, str x_s, int (-1)]) zcI zW rfl ((hO.blkSees (i := 0) rfl).cells (o := 0) (n := 3) rfl)) .nil) ⟨rfl, hO.below⟩
 refine cl c_162 rfl (fun r23 w hr23 hO => zo5 x_s r23 _ (hG.own hF hO) hr23) fun r23 hr23 => ?_
 refine br rfl (fun hc25 => ?_) fun hc25 => ?_
 refine vl rfl rfl (fun a w hf hO => zo (vs := [(0, int 1), (1, str x_s), (2, int (-1))]) (v := .agg #[int 1, str x_s, int (-1)]) hf rfl (by kernel_rfl)) ?_
 refine rw_ rfl fun a w hf hO hm => ?_
 refine zd (i := 0) (n := 3) zW rfl rfl rfl (by simp [Value.oneCell']) hf rfl rfl hO fun w hO => ?_
 refine S.op tb ?_ hf hO hm
 refine re_ rfl fun a w hf hO hm => ?_
 obtain rfl := Option.some.inj hm
 exact zf Tryz.results126 hf (.cell rfl (zc (n := 3) (vs := [int 1, str x_s, int (-1)]) zcI zW rfl ((hO.blkSees (i := 0) rfl).cells (o := 0) (n := 3) rfl)) .nil) ⟨rfl, hO.below⟩
 refine vl rfl rfl (fun a w hf hO => zo (vs := []) (v := .agg #[int 0, str [], int 0]) hf rfl (by kernel_rfl)) ?_
 refine rw_ rfl fun a w hf hO hm => ?_
 refine zd (i := 0) (n := 3) zW rfl rfl rfl (by simp [Value.oneCell']) hf rfl rfl hO fun w hO => ?_
 refine S.op tb ?_ hf hO hm
 refine re_ rfl fun a w hf hO hm => ?_
 obtain rfl := Option.some.inj hm
 exact zf Tryz.results126 hf (.cell rfl (zc (n := 3) (vs := [int 0, str [], int 0]) zcI zW rfl ((hO.blkSees (i := 0) rfl).cells (o := 0) (n := 3) rfl)) .nil) ⟨rfl, hO.below⟩

theorem zhX (x_s : Str) (R : api_Host × Int) (w0 : World) (hG : zD w0) (hm : zdv x_s = some R) :
    Calls Tryz.prog 80 #[str x_s] w0 (Ret w0 (fun R => .tuple #[.agg #[int R.1.Kind, str R.1.Name, int R.1.Port], int R.2]) R) := by
 rw [zdv] at hm
 have hF : zG [] := zg
 have hO : Dk.Own w0 [] w0 [] := Dk.Own.refl w0
 refine S.enter tb Tryz.func80 rfl Tryz.ntmps80 rfl ?_ hO hm
 refine rw_ rfl fun a w hf hO hm => ?_
 refine zx zfU hf rfl hO fun a b1 w hf hO => ?_
 refine S.op tb ?_ hf hO hm
 refine cl c_126 rfl (fun r3 w hr3 hO => zm1 x_s r3 _ (hG.own hF hO) hr3) fun r3 hr3 => ?_
 refine rw_ rfl fun a w hf hO hm => ?_
 refine zx zfU hf rfl hO fun a b4 w hf hO => ?_
 refine S.op tb ?_ hf hO hm
 refine rw_ rfl fun a w hf hO hm => ?_
 refine zd (i := 0) (n := 3) zW rfl rfl rfl (by simp [Value.oneCell']) hf rfl rfl hO fun w hO => ?_
 refine S.op tb ?_ hf hO hm
 refine vl rfl rfl (fun a w hf hO => zb (o := 0) zpt (hO.blkSees (i := 0) rfl) rfl hf rfl) ?_
 refine br rfl (fun hc7 => ?_) fun hc7 => ?_
 refine vl rfl rfl (fun a w hf hO => zu (o := 0) (vs := [int r3.Kind, str r3.Name, int r3.Port]) zcI zW (hO.blkSees (i := 0) rfl) rfl rfl hf rfl) ?_
 refine rw_ rfl fun a w hf hO hm => ?_
 refine zd (i := 1) (n := 3) zW rfl rfl rfl (by simp [Value.oneCell']) hf rfl rfl hO fun w hO => ?_
 refine S.op tb ?_ hf hO hm
 refine re_ rfl fun a w hf hO hm => ?_
 obtain rfl := Option.some.inj hm
 exact zf Tryz.results80 hf (.cell rfl (zc (n := 3) (vs := [int r3.Kind, str r3.Name, int r3.Port]) zcI zW rfl ((hO.blkSees (i := 1) rfl).cells (o := 0) (n := 3) rfl)) (.tmp rfl .nil)) ⟨rfl, hO.below⟩
 refine bi rfl fun i10 hi10 => ?_
 refine lp (fun k a w => ∃ (i12 : Int), Fits 45 [(0, str x_s), (2, ptr b1 0), (4, ptr b4 0), (5, int i12)] a ∧ Dk.Own w0 [] w [.blk b4 [int r3.Kind, str r3.Name, int r3.Port] 107, .blk b1 [int 0, str [], int 0] 107] ∧ zcE x_s k i12 = some R) rfl (fun a w hf hO hm => ⟨i10, hf.sel rfl, hO, hm⟩) ?_
 rintro n1 a w ⟨i12, hf, hO, hm⟩
 obtain _ | n1 := n1
 rw [zcE] at hm
 cases hm
 rw [zcE] at hm
 refine S.co tb ?_ hf hO hm
 refine br rfl (fun hc14 => ?_) fun hc14 => ?_
 refine bi rfl fun b16 hb16 => ?_
 refine vl rfl rfl (fun a w hf hO => zcJ (b := b16) (c := 58) hf rfl rfl) ?_
 refine br rfl (fun hc18 => ?_) fun hc18 => ?_
 refine bi rfl fun i35 hi35 => ?_
 exact en rfl fun a w hf hO hm => ⟨_, Nat.lt_succ_self _, i35, hf.sel rfl, hO, hm⟩
 refine bi rfl fun s20 hs20 => ?_
 refine cl c_126 rfl (fun r21 w hr21 hO => zm1 s20 r21 _ (hG.own hF hO) hr21) fun r21 hr21 => ?_
 refine rw_ rfl fun a w hf hO hm => ?_
 refine zd (i := 0) (n := 3) zW rfl rfl rfl (by simp [Value.oneCell']) hf rfl rfl hO fun w hO => ?_
 refine S.op tb ?_ hf hO hm
 refine bi rfl fun i23 hi23 => ?_
 refine bi rfl fun s24 hs24 => ?_
 refine cl c_127 rfl (fun r25 w hr25 hO => zkj s24 65535 r25 _ (hG.own hF hO) hr25) fun r25 hr25 => ?_
 refine jn 6 (fun a w => ∃ (t28 : Bool), Fits 45 [(2, ptr b1 0), (4, ptr b4 0), (6, int r25), (39, .bool t28)] a ∧ Dk.Own w0 [] w [.blk b4 [int r21.Kind, str r21.Name, int r21.Port] 107, .blk b1 [int 0, str [], int 0] 107] ∧ zem r21 r25 t28 = some R) rfl ?_ ?_
 refine vl rfl rfl (fun a w hf hO => zb (o := 0) zpt (hO.blkSees (i := 0) rfl) rfl hf rfl) ?_
 refine br rfl (fun hc27 => ?_) fun hc27 => ?_
 exact en rfl fun a w hf hO hm => ⟨true, hf.sel rfl, hO, hm⟩
 exact en rfl fun a w hf hO hm => ⟨decide (r25 < 0), hf.sel rfl, hO, hm⟩
 rintro a w ⟨t28, hf, hO, hm⟩
 rw [zem] at hm
 refine S.co tb ?_ hf hO hm
 refine br rfl (fun hc29 => ?_) fun hc29 => ?_
 refine vl rfl rfl (fun a w hf hO => zo (vs := []) (v := .agg #[int 0, str [], int 0]) hf rfl (by kernel_rfl)) ?_
 refine rw_ rfl fun a w hf hO hm => ?_
 refine zd (i := 1) (n := 3) zW rfl rfl rfl (by simp [Value.oneCell']) hf rfl rfl hO fun w hO => ?_
 refine S.op tb ?_ hf hO hm
 refine re_ rfl fun a w hf hO hm => ?_
 obtain rfl := Option.some.inj hm
 exact zf Tryz.results80 hf (.cell rfl (zc (n := 3) (vs := [int 0, str [], int 0]) zcI zW rfl ((hO.blkSees (i := 1) rfl).cells (o := 0) (n := 3) rfl)) (.tmp rfl .nil)) ⟨rfl, hO.below⟩
 refine rw_ rfl fun a w hf hO hm => ?_
 refine zV (i := 0) (o := 2) (v := int r25) zrb rfl rfl rfl rfl hf rfl rfl hO fun w hO => ?_
 refine S.op tb ?_ hf hO hm
 refine vl rfl rfl (fun a w hf hO => zu (o := 0) (vs := [int r21.Kind, str r21.Name, int r25]) zcI zW (hO.blkSees (i := 0) rfl) rfl rfl hf rfl) ?_
 refine rw_ rfl fun a w hf hO hm => ?_
 refine zd (i := 1) (n := 3) zW rfl rfl rfl (by simp [Value.oneCell']) hf rfl rfl hO fun w hO => ?_
 refine S.op tb ?_ hf hO hm
 refine re_ rfl fun a w hf hO hm => ?_
 obtain rfl := Option.some.inj hm
 exact zf Tryz.results80 hf (.cell rfl (zc (n := 3) (vs := [int r21.Kind, str r21.Name, int r25]) zcI zW rfl ((hO.blkSees (i := 1) rfl).cells (o := 0) (n := 3) rfl)) (.tmp rfl .nil)) ⟨rfl, hO.below⟩
 refine vl rfl rfl (fun a w hf hO => zo (vs := []) (v := .agg #[int 0, str [], int 0]) hf rfl (by kernel_rfl)) ?_
 refine rw_ rfl fun a w hf hO hm => ?_
 refine zd (i := 1) (n := 3) zW rfl rfl rfl (by simp [Value.oneCell']) hf rfl rfl hO fun w hO => ?_
 refine S.op tb ?_ hf hO hm
 refine re_ rfl fun a w hf hO hm => ?_
 obtain rfl := Option.some.inj hm
 exact zf Tryz.results80 hf (.cell rfl (zc (n := 3) (vs := [int 0, str [], int 0]) zcI zW rfl ((hO.blkSees (i := 1) rfl).cells (o := 0) (n := 3) rfl)) (.tmp rfl .nil)) ⟨rfl, hO.below⟩

theorem zo6 (x_s : Str) (R : Int) (w0 : World) (hG : zD w0) (hm : zhu x_s = some R) :
    Calls Tryz.prog 152 #[str x_s] w0 (Ret w0 (fun R => int R) R) := by
 rw [zhu] at hm
 have hF : zG [] := zg
 have hO : Dk.Own w0 [] w0 [] := Dk.Own.refl w0
 refine S.enter tb Tryz.func152 rfl Tryz.ntmps152 rfl ?_ hO hm
 refine lp (fun k a w => ∃ (i3 : Int), Fits 17 [(0, str x_s), (3, int i3)] a ∧ Dk.Own w0 [] w [] ∧ zbS x_s k i3 = some R) rfl (fun a w hf hO hm => ⟨0, hf.sel rfl, hO, hm⟩) ?_
 rintro n1 a w ⟨i3, hf, hO, hm⟩
 obtain _ | n1 := n1
 rw [zbS] at hm
 cases hm
 rw [zbS] at hm
 refine S.co tb ?_ hf hO hm
 refine jn 4 (fun a w => ∃ (t6 : Bool), Fits 17 [(0, str x_s), (3, int i3), (13, .bool t6)] a ∧ Dk.Own w0 [] w [] ∧ ze4 (zbS x_s n1) i3 t6 = some R) rfl ?_ ?_
 refine br rfl (fun hc4 => ?_) fun hc4 => ?_
 refine bi rfl fun b5 hb5 => ?_
 refine vl rfl rfl (fun a w hf hO => zcJ (b := b5) (c := 63) hf rfl rfl) ?_
 exact en rfl fun a w hf hO hm => ⟨!(b5 == 63), hf.sel rfl, hO, hm⟩
 exact en rfl fun a w hf hO hm => ⟨false, hf.sel rfl, hO, hm⟩
 rintro a w ⟨t6, hf, hO, hm⟩
 rw [ze4] at hm
 refine S.co tb ?_ hf hO hm
 refine br rfl (fun hc7 => ?_) fun hc7 => ?_
 refine bi rfl fun i9 hi9 => ?_
 exact en rfl fun a w hf hO hm => ⟨_, Nat.lt_succ_self _, i9, hf.sel rfl, hO, hm⟩
 exact rt Tryz.results152 rfl

theorem zo7 (x_b : UInt8) (R : Bool) (w0 : World) (hG : zD w0) (hm : zhv x_b = some R) :
    Calls Tryz.prog 179 #[zY x_b] w0 (Ret w0 (fun R => .bool R) R) := by
 rw [zhv] at hm
 have hF : zG [] := zg
 have hO : Dk.Own w0 [] w0 [] := Dk.Own.refl w0
 refine S.enter tb Tryz.func179 rfl Tryz.ntmps179 rfl ?_ hO hm
 refine jn 0 (fun a w => ∃ (t7 : Bool), Fits 17 [(2, .bool t7)] a ∧ Dk.Own w0 [] w [] ∧ zdU t7 = some R) rfl ?_ ?_
 refine cl c_184 rfl (fun r2 w hr2 hO => zg8 x_b r2 _ (hG.own hF hO) hr2) fun r2 hr2 => ?_
 refine br rfl (fun hc3 => ?_) fun hc3 => ?_
 exact en rfl fun a w hf hO hm => ⟨true, hf.sel rfl, hO, hm⟩
 refine cl c_185 rfl (fun r4 w hr4 hO => zlW x_b r4 _ (hG.own hF hO) hr4) fun r4 hr4 => ?_
 refine br rfl (fun hc5 => ?_) fun hc5 => ?_
 exact en rfl fun a w hf hO hm => ⟨true, hf.sel rfl, hO, hm⟩
 refine vl rfl rfl (fun a w hf hO => zU (b := x_b) (c := 58) hf rfl rfl) ?_
 refine br rfl (fun hc6 => ?_) fun hc6 => ?_
 exact en rfl fun a w hf hO hm => ⟨true, hf.sel rfl, hO, hm⟩
 refine vl rfl rfl (fun a w hf hO => zU (b := x_b) (c := 64) hf rfl rfl) ?_
 exact en rfl fun a w hf hO hm => ⟨x_b == 64, hf.sel rfl, hO, hm⟩
 rintro a w ⟨t7, hf, hO, hm⟩
 rw [zdU] at hm
 refine S.co tb ?_ hf hO hm
 exact rt Tryz.results179 rfl

theorem zo8 (n0 : Nat) : ∀ (x_s : Str) (x_more : Str) (R : Bool) (w0 : World) (hG : zD w0) (hm : zdz n0 x_s x_more = some R),
    Calls Tryz.prog 154 #[str x_s, str x_more] w0 (Ret w0 (fun R => .bool R) R) := by
  induction n0 with
  | zero => intro x_s x_more R w0 hG  hm; rw [zdz] at hm; cases hm
  | succ n0 ih =>
    intro x_s x_more R w0 hG  hm
    rw [zdz] at hm
    have hF : zG [] := zg
    have hO : Dk.Own w0 [] w0 [] := Dk.Own.refl w0
    refine S.enter tb Tryz.func154 rfl Tryz.ntmps154 rfl ?_ hO hm
    refine br rfl (fun hc3 => ?_) fun hc3 => ?_
    · exact rt Tryz.results154 rfl
    · refine bi rfl fun b6 hb6 => ?_
      refine vl rfl rfl (fun a w hf hO => zU (b := b6) (c := 37) hf rfl rfl) ?_
      refine br rfl (fun hc8 => ?_) fun hc8 => ?_
      · refine jn 1 (fun a w => ∃ (t18 : Bool), Fits 44 [(4, .bool t18)] a ∧ Dk.Own w0 [] w [] ∧ zcX t18 = some R) rfl ?_ ?_
        · refine br rfl (fun hc9 => ?_) fun hc9 => ?_
          · refine bi rfl fun b10 hb10 => ?_
            refine cl zqv rfl (fun r11 w hr11 hO => zgw b10 r11 _ (hG.own hF hO) hr11) fun r11 hr11 => ?_
            refine br rfl (fun hc12 => ?_) fun hc12 => ?_
            · refine bi rfl fun b13 hb13 => ?_
              refine cl zqv rfl (fun r14 w hr14 hO => zgw b13 r14 _ (hG.own hF hO) hr14) fun r14 hr14 => ?_
              refine br rfl (fun hc15 => ?_) fun hc15 => ?_
              · refine bi rfl fun s16 hs16 => ?_
                refine cl zqt rfl (fun r17 w hr17 hO => ih s16 x_more r17 _ (hG.own hF hO) hr17) fun r17 hr17 => ?_
                exact en rfl fun a w hf hO hm => ⟨r17, hf.sel rfl, hO, hm⟩
              · exact en rfl fun a w hf hO hm => ⟨false, hf.sel rfl, hO, hm⟩
            · exact en rfl fun a w hf hO hm => ⟨false, hf.sel rfl, hO, hm⟩
          · exact en rfl fun a w hf hO hm => ⟨false, hf.sel rfl, hO, hm⟩
        · rintro a w ⟨t18, hf, hO, hm⟩
          rw [zcX] at hm
          refine S.co tb ?_ hf hO hm
          exact rt Tryz.results154 rfl
      · refine jn 0 (fun a w => ∃ (t30 : Bool), Fits 44 [(4, .bool t30)] a ∧ Dk.Own w0 [] w [] ∧ zfp t30 = some R) rfl ?_ ?_
        · refine bi rfl fun b20 hb20 => ?_
          refine cl c_179 rfl (fun r21 w hr21 hO => zo7 b20 r21 _ (hG.own hF hO) hr21) fun r21 hr21 => ?_
          refine br rfl (fun hc22 => ?_) fun hc22 => ?_
          · refine bi rfl fun s23 hs23 => ?_
            refine cl zqt rfl (fun r24 w hr24 hO => ih s23 x_more r24 _ (hG.own hF hO) hr24) fun r24 hr24 => ?_
            exact en rfl fun a w hf hO hm => ⟨r24, hf.sel rfl, hO, hm⟩
          · refine bi rfl fun b25 hb25 => ?_
            refine cl zoF rfl (fun r26 w hr26 hO => zf7 b25 x_more r26 _ (hG.own hF hO) hr26) fun r26 hr26 => ?_
            refine br rfl (fun hc27 => ?_) fun hc27 => ?_
            · refine bi rfl fun s28 hs28 => ?_
              refine cl zqt rfl (fun r29 w hr29 hO => ih s28 x_more r29 _ (hG.own hF hO) hr29) fun r29 hr29 => ?_
              exact en rfl fun a w hf hO hm => ⟨r29, hf.sel rfl, hO, hm⟩
            · exact en rfl fun a w hf hO hm => ⟨false, hf.sel rfl, hO, hm⟩
        · rintro a w ⟨t30, hf, hO, hm⟩
          rw [zfp] at hm
          refine S.co tb ?_ hf hO hm
          exact rt Tryz.results154 rfl
theorem zm2 (x_s : Str) (x_more : Str) (R : Bool) (w0 : World) (hG : zD w0) (hm : zjr x_s x_more = some R) :
    Calls Tryz.prog 154 #[str x_s, str x_more] w0 (Ret w0 (fun R => .bool R) R) :=
  zo8 fuel x_s x_more R w0 hG  hm

theorem zkO (x_s : Str) (R : Bool) (w0 : World) (hG : zD w0) (hm : zhw x_s = some R) :
    Calls Tryz.prog 153 #[str x_s] w0 (Ret w0 (fun R => .bool R) R) := by
 rw [zhw] at hm
 have hF : zG [] := zg
 have hO : Dk.Own w0 [] w0 [] := Dk.Own.refl w0
 refine S.enter tb Tryz.func153 rfl Tryz.ntmps153 rfl ?_ hO hm
 refine jn 0 (fun a w => ∃ (t6 : Bool), Fits 15 [(2, .bool t6)] a ∧ Dk.Own w0 [] w [] ∧ zdV t6 = some R) rfl ?_ ?_
 refine br rfl (fun hc2 => ?_) fun hc2 => ?_
 refine bi rfl fun b3 hb3 => ?_
 refine vl rfl rfl (fun a w hf hO => zU (b := b3) (c := 47) hf rfl rfl) ?_
 refine br rfl (fun hc4 => ?_) fun hc4 => ?_
 refine cl zqt rfl (fun r5 w hr5 hO => zm2 x_s [47] r5 _ (hG.own hF hO) hr5) fun r5 hr5 => ?_
 exact en rfl fun a w hf hO hm => ⟨r5, hf.sel rfl, hO, hm⟩
 exact en rfl fun a w hf hO hm => ⟨false, hf.sel rfl, hO, hm⟩
 exact en rfl fun a w hf hO hm => ⟨false, hf.sel rfl, hO, hm⟩
 rintro a w ⟨t6, hf, hO, hm⟩
 rw [zdV] at hm
 refine S.co tb ?_ hf hO hm
 exact rt Tryz.results153 rfl

end Go.Proofs
end
