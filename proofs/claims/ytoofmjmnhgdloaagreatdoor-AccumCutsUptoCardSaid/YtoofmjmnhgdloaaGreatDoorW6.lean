/-
  Walks, written by a program (wip/gen): what its model says, the function returns; what was there before is as it was.
-/
import Derived.Test.YtoofmjmnhgdloaaGreatDoorLib
import Derived.Test.YtoofmjmnhgdloaaGreatDoorW4
import Derived.Test.YtoofmjmnhgdloaaGreatDoorW5
set_option linter.unusedVariables false
set_option maxHeartbeats 1000000
set_option linter.unusedSimpArgs false
set_option maxRecDepth 100000
namespace Go.Proofs
open Go.Dk Go.Dm Go.RowKit

theorem zbr (x_a : accum_Accum) (R : api_Head × Bool) (w0 : World) (hG : zF w0) {x_a_b0 : Nat} {x_a_p1 : Option Addr} {x_a_c1 : Nat} {x_a_p2 : Option Addr} {x_a_c2 : Nat} (hs0 : zag w0 (some ⟨x_a_b0, 0, none⟩) [int x_a.f_kind, int x_a.f_limit, .slice x_a_p1 x_a.f_buf.length x_a_c1, int x_a.f_from, .bool x_a.f_took, int x_a.f_bad, .bool x_a.f_whole, int x_a.f_got.Kind, str x_a.f_got.Method, str x_a.f_got.Target, int x_a.f_got.Code, str x_a.f_got.Reason, int x_a.f_got.Minor, .slice x_a_p2 x_a.f_got.Fields.length x_a_c2]) (hs1 : zag w0 x_a_p1 (cells zb x_a.f_buf)) (hc1 : x_a.f_buf.length ≤ x_a_c1) (hs2 : zag w0 x_a_p2 (cells za x_a.f_got.Fields)) (hc2 : x_a.f_got.Fields.length ≤ x_a_c2) (hm : zN x_a = some R) :
    Calls Tryz.prog 12 #[ptr x_a_b0 0] w0 fun e w' => ∃ (p0 : Option Addr) (c0 : Nat), e = .returned (.tuple #[.agg #[int R.1.Kind, str R.1.Method, str R.1.Target, int R.1.Code, str R.1.Reason, int R.1.Minor, .slice p0 R.1.Fields.length c0], .bool R.2]) ∧ Dk.Own w0 [] w' [.row (.slice p0 R.1.Fields.length c0) 69 2 R.1.Fields.length (cells za R.1.Fields)] := by
 rw [zN] at hm
 have hF : zO [] := zh
 have hO : Dk.Own w0 [] w0 [] := Dk.Own.refl w0
 have hO := hO.addShr hs0 (by simp [Res.shared])
 have hO := hO.addShr hs1 (by simp [Res.shared])
 have hO := hO.addShr hs2 (by simp [Res.shared])
 refine S.enter tb Tryz.func12 rfl Tryz.ntmps12 rfl ?_ hO hm
 refine rw_ rfl fun a w hf hO hm => ?_
 refine zn zcs hf rfl hO fun a b1 w hf hO => ?_
 have hO := hO.nilRow 69 2
 refine S.op tb ?_ hf hO hm
 refine vl rfl rfl (fun a w hf hO => zdD Tryz.underlying25 hf rfl rfl) ?_
 refine kn (b' := false) rfl rfl ?_
 refine vl rfl rfl (fun a w hf hO => zd (o := 6) ag_4 (hO.sees (i := 4) rfl) rfl hf rfl) ?_
 refine br rfl (fun hc4 => ?_) fun hc4 => ?_
 refine vl rfl rfl (fun a w hf hO => zs (vs := []) (v := .agg #[int 0, str [], str [], int 0, str [], int 0, .slice none 0 0]) hf rfl (by kernel_rfl)) ?_
 refine rw_ rfl fun a w hf hO hm => ?_
 refine ze (i := 1) (n := 7) zo rfl rfl rfl (by simp [Value.oneCell']) hf rfl rfl hO fun w hO => ?_
 have hO := hO.nilRow 69 2
 refine S.op tb ?_ hf hO hm
 refine re_ rfl fun a w hf hO hm => ?_
 obtain rfl := Option.some.inj hm
 exact zg Tryz.results12 hf (.cell rfl (zf (n := 7) (vs := [int 0, str [], str [], int 0, str [], int 0, .slice none 0 0]) zak zo rfl ((hO.blkSees (i := 2) rfl).cells (o := 0) (n := 7) rfl)) (.tmp rfl .nil)) ⟨none, 0, rfl, (hO.sub (.cons_cons _ (.cons _ (.cons _ (.cons _ (.cons _ (.cons _ .slnil)))))))⟩
 refine vl rfl rfl (fun a w hf hO => zm (o := 7) (vs := [int x_a.f_got.Kind, str x_a.f_got.Method, str x_a.f_got.Target, int x_a.f_got.Code, str x_a.f_got.Reason, int x_a.f_got.Minor, .slice x_a_p2 x_a.f_got.Fields.length x_a_c2]) zak zo (hO.sees (i := 4) rfl) rfl rfl hf rfl) ?_
 refine rw_ rfl fun a w hf hO hm => ?_
 refine zn zcs hf rfl hO fun a b7 w hf hO => ?_
 have hO := hO.nilRow 69 2
 refine S.op tb ?_ hf hO hm
 refine rw_ rfl fun a w hf hO hm => ?_
 refine ze (i := 1) (n := 7) zo rfl rfl rfl (by simp [Value.oneCell']) hf rfl rfl hO fun w hO => ?_
 refine S.op tb ?_ hf hO hm
 refine rw_ rfl fun a w hf hO hm => ?_
 refine zX (vs := []) (cs := []) (e := 69) (sz := 2) hf rfl rfl (fun w => by kernel_rfl) rfl rfl hO fun a b9 w hf hO => ?_
 refine S.op tb ?_ hf hO hm
 refine vl rfl rfl (fun a w hf hO => zd (o := 6) zit (hO.blkSees (i := 2) rfl) rfl hf rfl) ?_
 refine rw_ rfl fun a w hf hO hm => ?_
 obtain ⟨hg12, hm⟩ := og hm
 refine zis zmR (enc := za) (xs := []) (ys := x_a.f_got.Fields) (i := 0) (fun _ => rfl) rfl (hO.sees (i := 5) rfl) (by simp [za, Value.oneCell']) hg12 hf rfl rfl rfl hO fun a p10 c11 w hf hO => ?_
 refine S.op tb ?_ hf hO hm
 refine rw_ rfl fun a w hf hO hm => ?_
 refine zW (i := 2) (o := 6) (v := .slice p10 x_a.f_got.Fields.length c11) sz_33 rfl rfl rfl rfl hf rfl rfl hO fun w hO => ?_
 refine S.op tb ?_ hf hO hm
 refine vl rfl rfl (fun a w hf hO => zm (o := 0) (vs := [int x_a.f_got.Kind, str x_a.f_got.Method, str x_a.f_got.Target, int x_a.f_got.Code, str x_a.f_got.Reason, int x_a.f_got.Minor, .slice p10 x_a.f_got.Fields.length c11]) zak zo (hO.blkSees (i := 2) rfl) rfl rfl hf rfl) ?_
 refine rw_ rfl fun a w hf hO hm => ?_
 refine ze (i := 4) (n := 7) zo rfl rfl rfl (by simp [Value.oneCell']) hf rfl rfl hO fun w hO => ?_
 refine S.op tb ?_ hf hO hm
 refine re_ rfl fun a w hf hO hm => ?_
 obtain rfl := Option.some.inj hm
 exact zg Tryz.results12 hf (.cell rfl (zf (n := 7) (vs := [int x_a.f_got.Kind, str x_a.f_got.Method, str x_a.f_got.Target, int x_a.f_got.Code, str x_a.f_got.Reason, int x_a.f_got.Minor, .slice p10 x_a.f_got.Fields.length c11]) zak zo rfl ((hO.blkSees (i := 4) rfl).cells (o := 0) (n := 7) rfl)) (.tmp rfl .nil)) ⟨p10, c11, rfl, (hO.sub (.cons_cons _ (.cons _ (.cons _ (.cons _ (.cons _ (.cons _ (.cons _ (.cons _ .slnil)))))))))⟩

theorem ziR (R : Bool) (w0 : World) (hG : zaz w0) (hm : zeB = some R) :
    Calls Tryz.prog 8 #[] w0 (Ret w0 (fun R => .bool R) R) := by
 rw [zeB] at hm
 have hF : zO [] := zh
 have hO : Dk.Own w0 [] w0 [] := Dk.Own.refl w0
 refine S.enter tb Tryz.func8 rfl Tryz.ntmps8 rfl ?_ hO hm
 refine jn 0 (fun a w => (∃ (i10 : Int), Fits 67 [(1, .pointer none), (2, int i10)] a ∧ Dk.Own w0 [] w [] ∧ zei i10 = some R) ∨ (∃ (b13 : Nat) (i14 : Int) (i15 : Int) (i16 : Int) (p17 : Option Addr) (c18 : Nat) (l19 : List UInt8) (i20 : Int) (t21 : Bool) (i22 : Int) (t23 : Bool) (i24 : Int) (s25 : Str) (s26 : Str) (i27 : Int) (s28 : Str) (i29 : Int) (p30 : Option Addr) (c31 : Nat) (l32 : List api_Field), Fits 67 [(1, ptr b13 0), (2, int i14)] a ∧ Dk.Own w0 [] w [.blk b13 [int i15, int i16, .slice p17 l19.length c18, int i20, .bool t21, int i22, .bool t23, int i24, str s25, str s26, int i27, str s28, int i29, .slice p30 l32.length c31] 61, .row (.slice p17 l19.length c18) 5 1 l19.length (cells zb l19), .row (.slice p30 l32.length c31) 69 2 l32.length (cells za l32)] ∧ zej i14 i15 i16 l19 i20 t21 i22 t23 i24 s25 s26 i27 s28 i29 l32 = some R)) rfl ?_ ?_
 refine rw_ rfl fun a w hf hO hm => ?_
 obtain ⟨r2, hr2, hm⟩ := ob hm
 refine zi (zj c_9 hf (vs := [int 1, int 99]) rfl) rfl hf rfl rfl (zeI 1 99 r2 _ (hG.own hF hO).1 hr2) ?_
 rintro e w' hpost3
 rcases hopt3 : r2.1 with _ | x4
 have hm := zjO hopt3 hm
 obtain ⟨he, hb⟩ := zhH hopt3 hpost3
 refine ⟨_, he, fun a hf => ?_⟩
 have hO := hO.grow hb
 refine S.op tb ?_ hf hO hm
 refine en rfl fun a w hf hO hm => ?_
 exact Or.inl ⟨r2.2, hf.sel rfl, hO, hm⟩
 have hm := zjP hopt3 hm
 obtain ⟨b5, p6, c7, p8, c9, he, hO'⟩ := zhI hopt3 hpost3
 refine ⟨_, he, fun a hf => ?_⟩
 have hO := hO.call hO' (by simp [Res.shared])
 refine S.op tb ?_ hf hO hm
 refine en rfl fun a w hf hO hm => ?_
 exact Or.inr (⟨b5, r2.2, x4.f_kind, x4.f_limit, p6, c7, x4.f_buf, x4.f_from, x4.f_took, x4.f_bad, x4.f_whole, x4.f_got.Kind, x4.f_got.Method, x4.f_got.Target, x4.f_got.Code, x4.f_got.Reason, x4.f_got.Minor, p8, c9, x4.f_got.Fields, hf.sel rfl, hO, hm⟩)
 rintro a w (⟨i10, hf, hO, hm⟩ | ⟨b13, i14, i15, i16, p17, c18, l19, i20, t21, i22, t23, i24, s25, s26, i27, s28, i29, p30, c31, l32, hf, hO, hm⟩)
 rw [zei] at hm
 refine S.co tb ?_ hf hO hm
 refine jn 1 (fun a w => Fits 67 [(1, .pointer none), (20, .bool true)] a ∧ Dk.Own w0 [] w [] ∧ zdn = some R) rfl ?_ ?_
 refine br rfl (fun hc11 => ?_) fun hc11 => ?_
 exact en rfl fun a w hf hO hm => ⟨hf.sel rfl, hO, hm⟩
 refine vl rfl rfl (fun a w hf hO => zhj Tryz.underlying25 hf rfl rfl) ?_
 exact en rfl fun a w hf hO hm => ⟨hf.sel rfl, hO, hm⟩
 rintro a w ⟨hf, hO, hm⟩
 rw [zdn] at hm
 refine S.co tb ?_ hf hO hm
 refine kn (b' := true) rfl rfl ?_
 exact rt Tryz.results8 rfl
 rw [zej] at hm
 refine S.co tb ?_ hf hO hm
 refine jn 1 (fun a w => ∃ (t34 : Bool), Fits 67 [(1, ptr b13 0), (20, .bool t34)] a ∧ Dk.Own w0 [] w [.blk b13 [int i15, int i16, .slice p17 l19.length c18, int i20, .bool t21, int i22, .bool t23, int i24, str s25, str s26, int i27, str s28, int i29, .slice p30 l32.length c31] 61, .row (.slice p17 l19.length c18) 5 1 l19.length (cells zb l19), .row (.slice p30 l32.length c31) 69 2 l32.length (cells za l32)] ∧ zdo i15 i16 l19 i20 t21 i22 t23 i24 s25 s26 i27 s28 i29 l32 t34 = some R) rfl ?_ ?_
 refine br rfl (fun hc33 => ?_) fun hc33 => ?_
 exact en rfl fun a w hf hO hm => ⟨true, hf.sel rfl, hO, hm⟩
 refine vl rfl rfl (fun a w hf hO => zdD Tryz.underlying25 hf rfl rfl) ?_
 exact en rfl fun a w hf hO hm => ⟨false, hf.sel rfl, hO, hm⟩
 rintro a w ⟨t34, hf, hO, hm⟩
 rw [zdo] at hm
 refine S.co tb ?_ hf hO hm
 refine br rfl (fun hc35 => ?_) fun hc35 => ?_
 exact rt Tryz.results8 rfl
 refine rw_ rfl fun a w hf hO hm => ?_
 obtain ⟨r38, hr38, hm⟩ := ob hm
 have hch43 := (show Dk.Own w0 [] _ ([.blk b13 [int i15, int i16, .slice p17 l19.length c18, int i20, .bool t21, int i22, .bool t23, int i24, str s25, str s26, int i27, str s28, int i29, .slice p30 l32.length c31] 61, .row (.slice p17 l19.length c18) 5 1 l19.length (cells zb l19), .row (.slice p30 l32.length c31) 69 2 l32.length (cells za l32)] ++ []) from hO)
 have hfar43 := Dk.Own.far hch43 rfl hF hG.size
 have hlend43 := hch43.lend (S := []) rfl trivial
 have hcl43 := zaN ((⟨i15, i16, l19, i20, t21, i22, t23, (⟨i24, s25, s26, i27, s28, i29, l32⟩ : api_Head)⟩ : accum_Accum)) [71, 69, 84, 32, 47, 32, 72, 84, 84, 80, 47, 49, 46, 48, 13] r38 _ (hG.own hF hO) hfar43 hlend43 hr38
 refine zi (zj zi2 hf (vs := [ptr b13 0, str [71, 69, 84, 32, 47, 32, 72, 84, 84, 80, 47, 49, 46, 48, 13]]) rfl) rfl hf rfl rfl (hcl43) ?_
 rintro e w' ⟨p39, c40, p41, c42, he, hO'⟩
 refine ⟨_, he, fun a hf => ?_⟩
 have hO := hch43.back rfl hO' rfl
 refine S.op tb ?_ hf hO hm
 refine rw_ rfl fun a w hf hO hm => ?_
 obtain ⟨r45, hr45, hm⟩ := ob hm
 have hch50 := (show Dk.Own w0 [] _ ([.blk b13 [int r38.2.2.2.f_kind, int r38.2.2.2.f_limit, .slice p39 r38.2.2.2.f_buf.length c40, int r38.2.2.2.f_from, .bool r38.2.2.2.f_took, int r38.2.2.2.f_bad, .bool r38.2.2.2.f_whole, int r38.2.2.2.f_got.Kind, str r38.2.2.2.f_got.Method, str r38.2.2.2.f_got.Target, int r38.2.2.2.f_got.Code, str r38.2.2.2.f_got.Reason, int r38.2.2.2.f_got.Minor, .slice p41 r38.2.2.2.f_got.Fields.length c42] 61, .row (.slice p39 r38.2.2.2.f_buf.length c40) 5 1 r38.2.2.2.f_buf.length (cells zb r38.2.2.2.f_buf), .row (.slice p41 r38.2.2.2.f_got.Fields.length c42) 69 2 r38.2.2.2.f_got.Fields.length (cells za r38.2.2.2.f_got.Fields)] ++ []) from hO)
 have hfar50 := Dk.Own.far hch50 rfl hF hG.size
 have hlend50 := hch50.lend (S := []) rfl trivial
 have hcl50 := zaN r38.2.2.2 [10, 13, 10, 120] r45 _ (hG.own hF hO) hfar50 hlend50 hr45
 refine zi (zj zi2 hf (vs := [ptr b13 0, str [10, 13, 10, 120]]) rfl) rfl hf rfl rfl (hcl50) ?_
 rintro e w' ⟨p46, c47, p48, c49, he, hO'⟩
 refine ⟨_, he, fun a hf => ?_⟩
 have hO := hch50.back rfl hO' rfl
 refine S.op tb ?_ hf hO hm
 refine rw_ rfl fun a w hf hO hm => ?_
 obtain ⟨r52, hr52, hm⟩ := ob hm
 refine zi (zj zjW hf (vs := [ptr b13 0]) rfl) rfl hf rfl rfl (zbr r45.2.2.2 r52 _ (hG.own hF hO).1 (hO.blkSees (i := 0) rfl) (hO.rowSees (i := 1) rfl) (hO.rowCap (i := 1) rfl) (hO.rowSees (i := 2) rfl) (hO.rowCap (i := 2) rfl) hr52) ?_
 rintro e w' ⟨p53, c54, he, hO'⟩
 refine ⟨_, he, fun a hf => ?_⟩
 have hO := hO.call hO' (by simp [Res.shared])
 refine S.op tb ?_ hf hO hm
 refine rw_ rfl fun a w hf hO hm => ?_
 refine zn zcs hf rfl hO fun a b55 w hf hO => ?_
 have hO := hO.nilRow 69 2
 refine S.op tb ?_ hf hO hm
 refine rw_ rfl fun a w hf hO hm => ?_
 refine ze (i := 1) (n := 7) zo rfl rfl rfl (by simp [Value.oneCell']) hf rfl rfl hO fun w hO => ?_
 refine S.op tb ?_ hf hO hm
 refine jn 0 (fun a w => ∃ (t64 : Bool), Fits 67 [(0, .bool t64)] a ∧ Dk.Own w0 [] w [.row (.slice none 0 0) 69 2 0 (cells za []), .blk b55 [int r52.1.Kind, str r52.1.Method, str r52.1.Target, int r52.1.Code, str r52.1.Reason, int r52.1.Minor, .slice p53 r52.1.Fields.length c54] 35, .row (.slice p53 r52.1.Fields.length c54) 69 2 r52.1.Fields.length (cells za r52.1.Fields), .blk b13 [int r45.2.2.2.f_kind, int r45.2.2.2.f_limit, .slice p46 r45.2.2.2.f_buf.length c47, int r45.2.2.2.f_from, .bool r45.2.2.2.f_took, int r45.2.2.2.f_bad, .bool r45.2.2.2.f_whole, int r45.2.2.2.f_got.Kind, str r45.2.2.2.f_got.Method, str r45.2.2.2.f_got.Target, int r45.2.2.2.f_got.Code, str r45.2.2.2.f_got.Reason, int r45.2.2.2.f_got.Minor, .slice p48 r45.2.2.2.f_got.Fields.length c49] 61, .row (.slice p46 r45.2.2.2.f_buf.length c47) 5 1 r45.2.2.2.f_buf.length (cells zb r45.2.2.2.f_buf), .row (.slice p48 r45.2.2.2.f_got.Fields.length c49) 69 2 r45.2.2.2.f_got.Fields.length (cells za r45.2.2.2.f_got.Fields)] ∧ zam t64 = some R) rfl ?_ ?_
 refine br rfl (fun hc57 => ?_) fun hc57 => ?_
 refine br rfl (fun hc58 => ?_) fun hc58 => ?_
 refine br rfl (fun hc59 => ?_) fun hc59 => ?_
 refine br rfl (fun hc60 => ?_) fun hc60 => ?_
 refine br rfl (fun hc61 => ?_) fun hc61 => ?_
 refine br rfl (fun hc62 => ?_) fun hc62 => ?_
 refine br rfl (fun hc63 => ?_) fun hc63 => ?_
 refine vl rfl rfl (fun a w hf hO => zd (o := 2) zep (hO.blkSees (i := 1) rfl) rfl hf rfl) ?_
 exact en rfl fun a w hf hO hm => ⟨r52.1.Target == [47], hf.sel rfl, hO, hm⟩
 exact en rfl fun a w hf hO hm => ⟨false, hf.sel rfl, hO, hm⟩
 exact en rfl fun a w hf hO hm => ⟨false, hf.sel rfl, hO, hm⟩
 exact en rfl fun a w hf hO hm => ⟨false, hf.sel rfl, hO, hm⟩
 exact en rfl fun a w hf hO hm => ⟨false, hf.sel rfl, hO, hm⟩
 exact en rfl fun a w hf hO hm => ⟨false, hf.sel rfl, hO, hm⟩
 exact en rfl fun a w hf hO hm => ⟨false, hf.sel rfl, hO, hm⟩
 exact en rfl fun a w hf hO hm => ⟨false, hf.sel rfl, hO, hm⟩
 rintro a w ⟨t64, hf, hO, hm⟩
 rw [zam] at hm
 refine S.co tb ?_ hf hO hm
 exact rt Tryz.results8 rfl

theorem zew (x_s : Str) (x_by : List UInt8) (R : List Str) (w0 : World) (hG : zF w0) {x_by_p0 : Option Addr} {x_by_c0 : Nat} (hs0 : zag w0 x_by_p0 (cells zb x_by)) (hc0 : x_by.length ≤ x_by_c0) (hm : zc8 x_s x_by = some R) :
    Calls Tryz.prog 11 #[str x_s, .slice x_by_p0 x_by.length x_by_c0] w0 fun e w' => ∃ (p0 : Option Addr) (c0 : Nat), e = .returned (.slice p0 R.length c0) ∧ Dk.Own w0 [] w' [.row (.slice p0 R.length c0) 9 1 R.length (cells zk R)] := by
 rw [zc8] at hm
 have hF : zO [] := zh
 have hO : Dk.Own w0 [] w0 [] := Dk.Own.refl w0
 have hO := hO.addShr hs0 (by simp [Res.shared])
 refine S.enter tb Tryz.func11 rfl Tryz.ntmps11 rfl ?_ hO hm
 refine nl 9 1 ?_
 refine nl 9 1 ?_
 refine lp (fun k a w => ∃ (s4 : Str) (p5 : Option Addr) (c6 : Nat) (l7 : List Str) (i8 : Int), Fits 40 [(0, str s4), (1, .slice x_by_p0 x_by.length x_by_c0), (5, .slice p5 l7.length c6), (6, int i8)] a ∧ Dk.Own w0 [] w [.row (.slice p5 l7.length c6) 9 1 l7.length (cells zk l7), .row (.slice none 0 0) 9 1 0 (cells zk []), .shr x_by_p0 (cells zb x_by)] ∧ zaQ x_by k s4 l7 i8 = some R) rfl (fun a w hf hO hm => ⟨x_s, none, 0, [], 0, hf.sel rfl, hO, hm⟩) ?_
 rintro n1 a w ⟨s4, p5, c6, l7, i8, hf, hO, hm⟩
 obtain _ | n1 := n1
 rw [zaQ] at hm
 cases hm
 rw [zaQ] at hm
 refine S.co tb ?_ hf hO hm
 refine jn 4 (fun a w => ∃ (t10 : Bool), Fits 40 [(0, str s4), (1, .slice x_by_p0 x_by.length x_by_c0), (5, .slice p5 l7.length c6), (6, int i8), (15, .bool t10)] a ∧ Dk.Own w0 [] w [.row (.slice p5 l7.length c6) 9 1 l7.length (cells zk l7), .row (.slice none 0 0) 9 1 0 (cells zk []), .shr x_by_p0 (cells zb x_by)] ∧ zb5 (zaQ x_by n1) x_by s4 l7 i8 t10 = some R) rfl ?_ ?_
 refine br rfl (fun hc9 => ?_) fun hc9 => ?_
 exact en rfl fun a w hf hO hm => ⟨decide (i8 < 60), hf.sel rfl, hO, hm⟩
 exact en rfl fun a w hf hO hm => ⟨false, hf.sel rfl, hO, hm⟩
 rintro a w ⟨t10, hf, hO, hm⟩
 rw [zb5] at hm
 refine S.co tb ?_ hf hO hm
 refine br rfl (fun hc11 => ?_) fun hc11 => ?_
 refine rw_ rfl fun a w hf hO hm => ?_
 obtain ⟨x13, hx13, hm⟩ := ob hm
 obtain ⟨b14, o15, hix13, hSx13⟩ := zfM (enc := zb) (sz := 1) (xs := x_by) 23 Tryz.underlying23 sz_5 (by decide) (fun _ => rfl) (hO.sees (i := 2) rfl) hx13
 refine zcv (zS hix13 hf rfl rfl) rfl hf rfl rfl fun a hf => ?_
 refine S.op tb ?_ hf hO hm
 refine vl rfl rfl (fun a w hf hO => zd (o := 0) ag_5 (hSx13 _ (hO.sees (i := 2) rfl)) rfl hf rfl) ?_
 refine vl rfl rfl (fun a w hf hO => znq (b := x13) (c := 17) rfl hf rfl rfl) ?_
 refine vl rfl rfl (fun a w hf hO => zfY Tryz.underlying3 Tryz.underlying5 (zgZ _) hf (kd := .u8) rfl) ?_
 refine vl rfl rfl (fun a w hf hO => znv (m := ((x13 % 17).toNat : Int)) (n := (s4.length : Int)) hf rfl rfl) ?_
 refine bi rfl fun s17 hs17 => ?_
 refine rw_ rfl fun a w hf hO hm => ?_
 refine zX (vs := [(0, str s17)]) (cs := [str s17]) (e := 9) (sz := 1) hf rfl rfl (fun w => by kernel_rfl) rfl rfl hO fun a b18 w hf hO => ?_
 refine S.op tb ?_ hf hO hm
 refine rw_ rfl fun a w hf hO hm => ?_
 obtain ⟨hg21, hm⟩ := og hm
 refine zen zmQ (enc := zk) (xs := l7) (ys := ([s17] : List Str)) (i := 1) (fun _ => rfl) rfl (hO.rowSees (i := 0) rfl) (by simp [cells, zk, Value.oneCell']) hg21 hf rfl rfl rfl hO fun a p19 c20 w hf hO => ?_
 refine S.op tb ?_ hf hO hm
 refine bi rfl fun s23 hs23 => ?_
 refine bi rfl fun i25 hi25 => ?_
 exact en rfl fun a w hf hO hm => ⟨_, Nat.lt_succ_self _, s23, p19, c20, l7 ++ ([s17] : List Str), i25, hf.sel rfl, (hO.sub (.cons _ (.cons_cons _ (.cons_cons _ (.cons_cons _ .slnil))))), hm⟩
 refine rw_ rfl fun a w hf hO hm => ?_
 refine zX (vs := [(0, str s4)]) (cs := [str s4]) (e := 9) (sz := 1) hf rfl rfl (fun w => by kernel_rfl) rfl rfl hO fun a b27 w hf hO => ?_
 refine S.op tb ?_ hf hO hm
 refine rw_ rfl fun a w hf hO hm => ?_
 obtain ⟨hg30, hm⟩ := og hm
 refine zen zmQ (enc := zk) (xs := l7) (ys := ([s4] : List Str)) (i := 1) (fun _ => rfl) rfl (hO.rowSees (i := 0) rfl) (by simp [cells, zk, Value.oneCell']) hg30 hf rfl rfl rfl hO fun a p28 c29 w hf hO => ?_
 refine S.op tb ?_ hf hO hm
 refine re_ rfl fun a w hf hO hm => ?_
 obtain rfl := Option.some.inj hm
 exact zg Tryz.results11 hf (.tmp rfl .nil) ⟨p28, c29, rfl, (hO.sub (.cons _ (.cons_cons _ (.cons _ (.cons _ .slnil)))))⟩

theorem zjw (x_a : api_Head) (x_b : api_Head) (R : Bool) (w0 : World) (hG : zF w0) {x_a_p0 : Option Addr} {x_a_c0 : Nat} (hs0 : zag w0 x_a_p0 (cells za x_a.Fields)) (hc0 : x_a.Fields.length ≤ x_a_c0) {x_b_p1 : Option Addr} {x_b_c1 : Nat} (hs1 : zag w0 x_b_p1 (cells za x_b.Fields)) (hc1 : x_b.Fields.length ≤ x_b_c1) (hm : zfa x_a x_b = some R) :
    Calls Tryz.prog 28 #[.agg #[int x_a.Kind, str x_a.Method, str x_a.Target, int x_a.Code, str x_a.Reason, int x_a.Minor, .slice x_a_p0 x_a.Fields.length x_a_c0], .agg #[int x_b.Kind, str x_b.Method, str x_b.Target, int x_b.Code, str x_b.Reason, int x_b.Minor, .slice x_b_p1 x_b.Fields.length x_b_c1]] w0 (Ret w0 (fun R => .bool R) R) := by
 rw [zfa] at hm
 have hF : zO [] := zh
 have hO : Dk.Own w0 [] w0 [] := Dk.Own.refl w0
 have hO := hO.addShr hs0 (by simp [Res.shared])
 have hO := hO.addShr hs1 (by simp [Res.shared])
 refine S.enter tb Tryz.func28 rfl Tryz.ntmps28 rfl ?_ hO hm
 refine rw_ rfl fun a w hf hO hm => ?_
 refine zdC (v := .agg #[int x_a.Kind, str x_a.Method, str x_a.Target, int x_a.Code, str x_a.Reason, int x_a.Minor, .slice x_a_p0 x_a.Fields.length x_a_c0]) (cs := [int x_a.Kind, str x_a.Method, str x_a.Target, int x_a.Code, str x_a.Reason, int x_a.Minor, .slice x_a_p0 x_a.Fields.length x_a_c0]) rfl hf rfl rfl hO fun a b1 w hf hO => ?_
 refine S.op tb ?_ hf hO hm
 refine rw_ rfl fun a w hf hO hm => ?_
 refine zdC (v := .agg #[int x_b.Kind, str x_b.Method, str x_b.Target, int x_b.Code, str x_b.Reason, int x_b.Minor, .slice x_b_p1 x_b.Fields.length x_b_c1]) (cs := [int x_b.Kind, str x_b.Method, str x_b.Target, int x_b.Code, str x_b.Reason, int x_b.Minor, .slice x_b_p1 x_b.Fields.length x_b_c1]) rfl hf rfl rfl hO fun a b2 w hf hO => ?_
 refine S.op tb ?_ hf hO hm
 refine jn 0 (fun a w => ∃ (t9 : Bool), Fits 45 [(4, .bool t9)] a ∧ Dk.Own w0 [] w [.blk b2 [int x_b.Kind, str x_b.Method, str x_b.Target, int x_b.Code, str x_b.Reason, int x_b.Minor, .slice x_b_p1 x_b.Fields.length x_b_c1] 35, .blk b1 [int x_a.Kind, str x_a.Method, str x_a.Target, int x_a.Code, str x_a.Reason, int x_a.Minor, .slice x_a_p0 x_a.Fields.length x_a_c0] 35, .shr x_b_p1 (cells za x_b.Fields), .shr x_a_p0 (cells za x_a.Fields)] ∧ zaR t9 = some R) rfl ?_ ?_
 refine vl rfl rfl (fun a w hf hO => zd (o := 0) zjp (hO.blkSees (i := 1) rfl) rfl hf rfl) ?_
 refine vl rfl rfl (fun a w hf hO => zd (o := 0) zjp (hO.blkSees (i := 0) rfl) rfl hf rfl) ?_
 refine br rfl (fun hc4 => ?_) fun hc4 => ?_
 refine vl rfl rfl (fun a w hf hO => zd (o := 1) zep (hO.blkSees (i := 1) rfl) rfl hf rfl) ?_
 refine vl rfl rfl (fun a w hf hO => zd (o := 1) zep (hO.blkSees (i := 0) rfl) rfl hf rfl) ?_
 refine br rfl (fun hc5 => ?_) fun hc5 => ?_
 refine vl rfl rfl (fun a w hf hO => zd (o := 2) zep (hO.blkSees (i := 1) rfl) rfl hf rfl) ?_
 refine vl rfl rfl (fun a w hf hO => zd (o := 2) zep (hO.blkSees (i := 0) rfl) rfl hf rfl) ?_
 refine br rfl (fun hc6 => ?_) fun hc6 => ?_
 refine vl rfl rfl (fun a w hf hO => zd (o := 5) zfx (hO.blkSees (i := 1) rfl) rfl hf rfl) ?_
 refine vl rfl rfl (fun a w hf hO => zd (o := 5) zfx (hO.blkSees (i := 0) rfl) rfl hf rfl) ?_
 refine br rfl (fun hc7 => ?_) fun hc7 => ?_
 refine vl rfl rfl (fun a w hf hO => zd (o := 3) zfx (hO.blkSees (i := 1) rfl) rfl hf rfl) ?_
 refine vl rfl rfl (fun a w hf hO => zd (o := 3) zfx (hO.blkSees (i := 0) rfl) rfl hf rfl) ?_
 refine br rfl (fun hc8 => ?_) fun hc8 => ?_
 refine vl rfl rfl (fun a w hf hO => zd (o := 4) zep (hO.blkSees (i := 1) rfl) rfl hf rfl) ?_
 refine vl rfl rfl (fun a w hf hO => zd (o := 4) zep (hO.blkSees (i := 0) rfl) rfl hf rfl) ?_
 exact en rfl fun a w hf hO hm => ⟨x_a.Reason == x_b.Reason, hf.sel rfl, hO, hm⟩
 exact en rfl fun a w hf hO hm => ⟨false, hf.sel rfl, hO, hm⟩
 exact en rfl fun a w hf hO hm => ⟨false, hf.sel rfl, hO, hm⟩
 exact en rfl fun a w hf hO hm => ⟨false, hf.sel rfl, hO, hm⟩
 exact en rfl fun a w hf hO hm => ⟨false, hf.sel rfl, hO, hm⟩
 exact en rfl fun a w hf hO hm => ⟨false, hf.sel rfl, hO, hm⟩
 rintro a w ⟨t9, hf, hO, hm⟩
 rw [zaR] at hm
 refine S.co tb ?_ hf hO hm
 exact rt Tryz.results28 rfl

theorem zjx (x_a : List api_Field) (x_b : List api_Field) (R : Bool) (w0 : World) (hG : zF w0) {x_a_p0 : Option Addr} {x_a_c0 : Nat} (hs0 : zag w0 x_a_p0 (cells za x_a)) (hc0 : x_a.length ≤ x_a_c0) {x_b_p1 : Option Addr} {x_b_c1 : Nat} (hs1 : zag w0 x_b_p1 (cells za x_b)) (hc1 : x_b.length ≤ x_b_c1) (hm : zek x_a x_b = some R) :
    Calls Tryz.prog 29 #[.slice x_a_p0 x_a.length x_a_c0, .slice x_b_p1 x_b.length x_b_c1] w0 (Ret w0 (fun R => .bool R) R) := by
 rw [zek] at hm
 have hF : zO [] := zh
 have hO : Dk.Own w0 [] w0 [] := Dk.Own.refl w0
 have hO := hO.addShr hs0 (by simp [Res.shared])
 have hO := hO.addShr hs1 (by simp [Res.shared])
 refine S.enter tb Tryz.func29 rfl Tryz.ntmps29 rfl ?_ hO hm
 refine br rfl (fun hc3 => ?_) fun hc3 => ?_
 exact rt Tryz.results29 rfl
 refine lp (fun k a w => ∃ (i7 : Int), Fits 26 [(0, .slice x_a_p0 x_a.length x_a_c0), (1, .slice x_b_p1 x_b.length x_b_c1), (5, int i7)] a ∧ Dk.Own w0 [] w [.shr x_b_p1 (cells za x_b), .shr x_a_p0 (cells za x_a)] ∧ zbo x_a x_b k i7 = some R) rfl (fun a w hf hO hm => ⟨0, hf.sel rfl, hO, hm⟩) ?_
 rintro n1 a w ⟨i7, hf, hO, hm⟩
 obtain _ | n1 := n1
 rw [zbo] at hm
 cases hm
 rw [zbo] at hm
 refine S.co tb ?_ hf hO hm
 refine br rfl (fun hc9 => ?_) fun hc9 => ?_
 refine rc_ rfl fun a w hf hO hm => ?_
 refine zeY (by kernel_rfl) (by kernel_rfl) hO ?_
 refine zA (fun w hO => zT hf rfl) rfl hf rfl rfl fun a hf => ?_
 refine zA (fun w hO => zT hf rfl) rfl hf rfl rfl fun a hf => ?_
 obtain ⟨x11, hx11, hm⟩ := ob hm
 obtain ⟨b12, o13, hix11, hSx11⟩ := zfM (enc := za) (sz := 2) (xs := x_a) 33 Tryz.underlying33 zcQ (by decide) (fun _ => rfl) (hO.sees (i := 1) rfl) hx11
 refine zA (fun w hO => zS hix11 hf rfl rfl) rfl hf rfl rfl fun a hf => ?_
 refine zA (fun w hO => zm (o := 0) (vs := [str x11.Name, str x11.Value]) zgf zcQ (hSx11 _ (hO.sees (i := 1) rfl)) rfl rfl hf rfl) rfl hf rfl rfl fun a hf => ?_
 refine zA (fun w hO => zT hf rfl) rfl hf rfl rfl fun a hf => ?_
 refine zA (fun w hO => zT hf rfl) rfl hf rfl rfl fun a hf => ?_
 obtain ⟨x14, hx14, hm⟩ := ob hm
 obtain ⟨b15, o16, hix14, hSx14⟩ := zfM (enc := za) (sz := 2) (xs := x_b) 33 Tryz.underlying33 zcQ (by decide) (fun _ => rfl) (hO.sees (i := 0) rfl) hx14
 refine zA (fun w hO => zS hix14 hf rfl rfl) rfl hf rfl rfl fun a hf => ?_
 refine zA (fun w hO => zm (o := 0) (vs := [str x14.Name, str x14.Value]) zgf zcQ (hSx14 _ (hO.sees (i := 0) rfl)) rfl rfl hf rfl) rfl hf rfl rfl fun a hf => ?_
 refine zA (fun w hO => znt (by kernel_rfl) (eq_69 x11 x14) hf rfl rfl) rfl hf rfl rfl fun a hf => ?_
 refine wpQuiet_nil ?_
 intro w hO
 refine S.no tb ?_ hf hO hm
 refine br rfl (fun hc18 => ?_) fun hc18 => ?_
 exact rt Tryz.results29 rfl
 refine bi rfl fun i21 hi21 => ?_
 exact en rfl fun a w hf hO hm => ⟨_, Nat.lt_succ_self _, i21, hf.sel rfl, hO, hm⟩
 exact rt Tryz.results29 rfl

theorem zbH (x_a : api_Head) (x_b : api_Head) (R : Bool) (w0 : World) (hG : zF w0) {x_a_p0 : Option Addr} {x_a_c0 : Nat} (hs0 : zag w0 x_a_p0 (cells za x_a.Fields)) (hc0 : x_a.Fields.length ≤ x_a_c0) {x_b_p1 : Option Addr} {x_b_c1 : Nat} (hs1 : zag w0 x_b_p1 (cells za x_b.Fields)) (hc1 : x_b.Fields.length ≤ x_b_c1) (hm : za2 x_a x_b = some R) :
    Calls Tryz.prog 13 #[.agg #[int x_a.Kind, str x_a.Method, str x_a.Target, int x_a.Code, str x_a.Reason, int x_a.Minor, .slice x_a_p0 x_a.Fields.length x_a_c0], .agg #[int x_b.Kind, str x_b.Method, str x_b.Target, int x_b.Code, str x_b.Reason, int x_b.Minor, .slice x_b_p1 x_b.Fields.length x_b_c1]] w0 (Ret w0 (fun R => .bool R) R) := by
 rw [za2] at hm
 have hF : zO [] := zh
 have hO : Dk.Own w0 [] w0 [] := Dk.Own.refl w0
 have hO := hO.addShr hs0 (by simp [Res.shared])
 have hO := hO.addShr hs1 (by simp [Res.shared])
 refine S.enter tb Tryz.func13 rfl Tryz.ntmps13 rfl ?_ hO hm
 refine rw_ rfl fun a w hf hO hm => ?_
 refine zdC (v := .agg #[int x_a.Kind, str x_a.Method, str x_a.Target, int x_a.Code, str x_a.Reason, int x_a.Minor, .slice x_a_p0 x_a.Fields.length x_a_c0]) (cs := [int x_a.Kind, str x_a.Method, str x_a.Target, int x_a.Code, str x_a.Reason, int x_a.Minor, .slice x_a_p0 x_a.Fields.length x_a_c0]) rfl hf rfl rfl hO fun a b1 w hf hO => ?_
 refine S.op tb ?_ hf hO hm
 refine rw_ rfl fun a w hf hO hm => ?_
 refine zdC (v := .agg #[int x_b.Kind, str x_b.Method, str x_b.Target, int x_b.Code, str x_b.Reason, int x_b.Minor, .slice x_b_p1 x_b.Fields.length x_b_c1]) (cs := [int x_b.Kind, str x_b.Method, str x_b.Target, int x_b.Code, str x_b.Reason, int x_b.Minor, .slice x_b_p1 x_b.Fields.length x_b_c1]) rfl hf rfl rfl hO fun a b2 w hf hO => ?_
 refine S.op tb ?_ hf hO hm
 refine jn 0 (fun a w => ∃ (t7 : Bool), Fits 15 [(4, .bool t7)] a ∧ Dk.Own w0 [] w [.blk b2 [int x_b.Kind, str x_b.Method, str x_b.Target, int x_b.Code, str x_b.Reason, int x_b.Minor, .slice x_b_p1 x_b.Fields.length x_b_c1] 35, .blk b1 [int x_a.Kind, str x_a.Method, str x_a.Target, int x_a.Code, str x_a.Reason, int x_a.Minor, .slice x_a_p0 x_a.Fields.length x_a_c0] 35, .shr x_b_p1 (cells za x_b.Fields), .shr x_a_p0 (cells za x_a.Fields)] ∧ zcO t7 = some R) rfl ?_ ?_
 refine vl rfl rfl (fun a w hf hO => zm (o := 0) (vs := [int x_a.Kind, str x_a.Method, str x_a.Target, int x_a.Code, str x_a.Reason, int x_a.Minor, .slice x_a_p0 x_a.Fields.length x_a_c0]) zak zo (hO.blkSees (i := 1) rfl) rfl rfl hf rfl) ?_
 refine vl rfl rfl (fun a w hf hO => zm (o := 0) (vs := [int x_b.Kind, str x_b.Method, str x_b.Target, int x_b.Code, str x_b.Reason, int x_b.Minor, .slice x_b_p1 x_b.Fields.length x_b_c1]) zak zo (hO.blkSees (i := 0) rfl) rfl rfl hf rfl) ?_
 refine cl c_28 rfl (fun r4 w hr4 hO => zjw x_a x_b r4 _ (hG.own hF hO) (hO.sees (i := 3) rfl) hc0 (hO.sees (i := 2) rfl) hc1 hr4) fun r4 hr4 => ?_
 refine br rfl (fun hc5 => ?_) fun hc5 => ?_
 refine vl rfl rfl (fun a w hf hO => zd (o := 6) zit (hO.blkSees (i := 1) rfl) rfl hf rfl) ?_
 refine vl rfl rfl (fun a w hf hO => zd (o := 6) zit (hO.blkSees (i := 0) rfl) rfl hf rfl) ?_
 refine cl c_29 rfl (fun r6 w hr6 hO => zjx x_a.Fields x_b.Fields r6 _ (hG.own hF hO) (hO.sees (i := 3) rfl) hc0 (hO.sees (i := 2) rfl) hc1 hr6) fun r6 hr6 => ?_
 exact en rfl fun a w hf hO hm => ⟨r6, hf.sel rfl, hO, hm⟩
 exact en rfl fun a w hf hO hm => ⟨false, hf.sel rfl, hO, hm⟩
 rintro a w ⟨t7, hf, hO, hm⟩
 rw [zcO] at hm
 refine S.co tb ?_ hf hO hm
 exact rt Tryz.results13 rfl

theorem zbC (x_a1 : Str) (R : Int × Bool × Int) (w0 : World) (hG : zaz w0) (hm : zaB x_a1 = some R) :
    Calls Tryz.prog 10 #[.pointer none, str x_a1] w0 (Ret w0 (fun R => .tuple #[int R.1, .bool R.2.1, int R.2.2]) R) := by
 rw [zaB] at hm
 have hF : zO [] := zh
 have hO : Dk.Own w0 [] w0 [] := Dk.Own.refl w0
 refine S.enter tb Tryz.func10 rfl Tryz.ntmps10 rfl ?_ hO hm
 refine vl rfl rfl (fun a w hf hO => zhj Tryz.underlying25 hf rfl rfl) ?_
 refine kn (b' := true) rfl rfl ?_
 exact rt Tryz.results10 rfl

theorem zbD (R : api_Head × Bool) (w0 : World) (hG : zF w0) (hm : zaC = some R) :
    Calls Tryz.prog 12 #[.pointer none] w0 fun e w' => ∃ (p0 : Option Addr) (c0 : Nat), e = .returned (.tuple #[.agg #[int R.1.Kind, str R.1.Method, str R.1.Target, int R.1.Code, str R.1.Reason, int R.1.Minor, .slice p0 R.1.Fields.length c0], .bool R.2]) ∧ Dk.Own w0 [] w' [.row (.slice p0 R.1.Fields.length c0) 69 2 R.1.Fields.length (cells za R.1.Fields)] := by
 rw [zaC] at hm
 have hF : zO [] := zh
 have hO : Dk.Own w0 [] w0 [] := Dk.Own.refl w0
 refine S.enter tb Tryz.func12 rfl Tryz.ntmps12 rfl ?_ hO hm
 refine rw_ rfl fun a w hf hO hm => ?_
 refine zn zcs hf rfl hO fun a b1 w hf hO => ?_
 have hO := hO.nilRow 69 2
 refine S.op tb ?_ hf hO hm
 refine vl rfl rfl (fun a w hf hO => zhj Tryz.underlying25 hf rfl rfl) ?_
 refine kn (b' := true) rfl rfl ?_
 refine vl rfl rfl (fun a w hf hO => zs (vs := []) (v := .agg #[int 0, str [], str [], int 0, str [], int 0, .slice none 0 0]) hf rfl (by kernel_rfl)) ?_
 refine rw_ rfl fun a w hf hO hm => ?_
 refine ze (i := 1) (n := 7) zo rfl rfl rfl (by simp [Value.oneCell']) hf rfl rfl hO fun w hO => ?_
 have hO := hO.nilRow 69 2
 refine S.op tb ?_ hf hO hm
 refine re_ rfl fun a w hf hO hm => ?_
 obtain rfl := Option.some.inj hm
 exact zg Tryz.results12 hf (.cell rfl (zf (n := 7) (vs := [int 0, str [], str [], int 0, str [], int 0, .slice none 0 0]) zak zo rfl ((hO.blkSees (i := 2) rfl).cells (o := 0) (n := 7) rfl)) (.tmp rfl .nil)) ⟨none, 0, rfl, (hO.sub (.cons_cons _ (.cons _ (.cons _ .slnil))))⟩

theorem zgy (x_a0 : Int) (x_a1 : Str) (x_a2 : List UInt8) (R : Bool) (w0 : World) (hG : zaz w0) {x_a2_p0 : Option Addr} {x_a2_c0 : Nat} (hs0 : zag w0 x_a2_p0 (cells zb x_a2)) (hc0 : x_a2.length ≤ x_a2_c0) (hm : zcU x_a0 x_a1 x_a2 = some R) :
    Calls Tryz.prog 3 #[int x_a0, str x_a1, .slice x_a2_p0 x_a2.length x_a2_c0] w0 (Ret w0 (fun R => .bool R) R) := by
 rw [zcU] at hm
 have hF : zO [] := zh
 have hO : Dk.Own w0 [] w0 [] := Dk.Own.refl w0
 have hO := hO.addShr hs0 (by simp [Res.shared])
 refine S.enter tb Tryz.func3 rfl Tryz.ntmps3 rfl ?_ hO hm
 refine cl c_8 rfl (fun r2 w hr2 hO => ziR r2 _ (hG.own hF hO) hr2) fun r2 hr2 => ?_
 refine br rfl (fun hc4 => ?_) fun hc4 => ?_
 exact rt Tryz.results3 rfl
 refine vl rfl rfl (fun a w hf hO => znv (m := (x_a1.length : Int)) (n := 3000) hf rfl rfl) ?_
 refine bi rfl fun s7 hs7 => ?_
 refine jn 0 (fun a w => (∃ (i17 : Int), Fits 149 [(0, int x_a0), (1, str s7), (2, .slice x_a2_p0 x_a2.length x_a2_c0), (7, .pointer none), (8, int i17)] a ∧ Dk.Own w0 [] w [.shr x_a2_p0 (cells zb x_a2)] ∧ zbA x_a0 x_a2 s7 i17 = some R) ∨ (∃ (b216 : Nat) (i217 : Int) (i218 : Int) (i219 : Int) (p220 : Option Addr) (c221 : Nat) (l222 : List UInt8) (i223 : Int) (t224 : Bool) (i225 : Int) (t226 : Bool) (i227 : Int) (s228 : Str) (s229 : Str) (i230 : Int) (s231 : Str) (i232 : Int) (p233 : Option Addr) (c234 : Nat) (l235 : List api_Field), Fits 149 [(0, int x_a0), (1, str s7), (2, .slice x_a2_p0 x_a2.length x_a2_c0), (7, ptr b216 0), (8, int i217)] a ∧ Dk.Own w0 [] w [.blk b216 [int i218, int i219, .slice p220 l222.length c221, int i223, .bool t224, int i225, .bool t226, int i227, str s228, str s229, int i230, str s231, int i232, .slice p233 l235.length c234] 61, .row (.slice p220 l222.length c221) 5 1 l222.length (cells zb l222), .row (.slice p233 l235.length c234) 69 2 l235.length (cells za l235), .shr x_a2_p0 (cells zb x_a2)] ∧ zbg x_a0 x_a2 s7 i217 i218 i219 l222 i223 t224 i225 t226 i227 s228 s229 i230 s231 i232 l235 = some R)) rfl ?_ ?_
 refine rw_ rfl fun a w hf hO hm => ?_
 obtain ⟨r9, hr9, hm⟩ := ob hm
 refine zi (zj c_9 hf (vs := [int x_a0, int 2000]) rfl) rfl hf rfl rfl (zeI x_a0 2000 r9 _ (hG.own hF hO).1 hr9) ?_
 rintro e w' hpost10
 rcases hopt10 : r9.1 with _ | x11
 have hm := zjO hopt10 hm
 obtain ⟨he, hb⟩ := zhH hopt10 hpost10
 refine ⟨_, he, fun a hf => ?_⟩
 have hO := hO.grow hb
 refine S.op tb ?_ hf hO hm
 refine en rfl fun a w hf hO hm => ?_
 exact Or.inl ⟨r9.2, hf.sel rfl, hO, hm⟩
 have hm := zjP hopt10 hm
 obtain ⟨b12, p13, c14, p15, c16, he, hO'⟩ := zhI hopt10 hpost10
 refine ⟨_, he, fun a hf => ?_⟩
 have hO := hO.call hO' (by simp [Res.shared])
 refine S.op tb ?_ hf hO hm
 refine en rfl fun a w hf hO hm => ?_
 exact Or.inr (⟨b12, r9.2, x11.f_kind, x11.f_limit, p13, c14, x11.f_buf, x11.f_from, x11.f_took, x11.f_bad, x11.f_whole, x11.f_got.Kind, x11.f_got.Method, x11.f_got.Target, x11.f_got.Code, x11.f_got.Reason, x11.f_got.Minor, p15, c16, x11.f_got.Fields, hf.sel rfl, hO, hm⟩)
 rintro a w (⟨i17, hf, hO, hm⟩ | ⟨b216, i217, i218, i219, p220, c221, l222, i223, t224, i225, t226, i227, s228, s229, i230, s231, i232, p233, c234, l235, hf, hO, hm⟩)
 rw [zbA] at hm
 refine S.co tb ?_ hf hO hm
 refine jn 0 (fun a w => (∃ (i26 : Int), Fits 149 [(0, int x_a0), (1, str s7), (2, .slice x_a2_p0 x_a2.length x_a2_c0), (7, .pointer none), (8, int i17), (9, .pointer none), (10, int i26)] a ∧ Dk.Own w0 [] w [.shr x_a2_p0 (cells zb x_a2)] ∧ zcY x_a0 x_a2 s7 i17 i26 = some R) ∨ (∃ (b90 : Nat) (i91 : Int) (i92 : Int) (i93 : Int) (p94 : Option Addr) (c95 : Nat) (l96 : List UInt8) (i97 : Int) (t98 : Bool) (i99 : Int) (t100 : Bool) (i101 : Int) (s102 : Str) (s103 : Str) (i104 : Int) (s105 : Str) (i106 : Int) (p107 : Option Addr) (c108 : Nat) (l109 : List api_Field), Fits 149 [(0, int x_a0), (1, str s7), (2, .slice x_a2_p0 x_a2.length x_a2_c0), (7, .pointer none), (8, int i17), (9, ptr b90 0), (10, int i91)] a ∧ Dk.Own w0 [] w [.blk b90 [int i92, int i93, .slice p94 l96.length c95, int i97, .bool t98, int i99, .bool t100, int i101, str s102, str s103, int i104, str s105, int i106, .slice p107 l109.length c108] 61, .row (.slice p94 l96.length c95) 5 1 l96.length (cells zb l96), .row (.slice p107 l109.length c108) 69 2 l109.length (cells za l109), .shr x_a2_p0 (cells zb x_a2)] ∧ zcZ x_a0 x_a2 s7 i17 i91 i92 i93 l96 i97 t98 i99 t100 i101 s102 s103 i104 s105 i106 l109 = some R)) rfl ?_ ?_
 refine rw_ rfl fun a w hf hO hm => ?_
 obtain ⟨r18, hr18, hm⟩ := ob hm
 refine zi (zj c_9 hf (vs := [int x_a0, int 2000]) rfl) rfl hf rfl rfl (zeI x_a0 2000 r18 _ (hG.own hF hO).1 hr18) ?_
 rintro e w' hpost19
 rcases hopt19 : r18.1 with _ | x20
 have hm := zjO hopt19 hm
 obtain ⟨he, hb⟩ := zhH hopt19 hpost19
 refine ⟨_, he, fun a hf => ?_⟩
 have hO := hO.grow hb
 refine S.op tb ?_ hf hO hm
 refine en rfl fun a w hf hO hm => ?_
 exact Or.inl ⟨r18.2, hf.sel rfl, hO, hm⟩
 have hm := zjP hopt19 hm
 obtain ⟨b21, p22, c23, p24, c25, he, hO'⟩ := zhI hopt19 hpost19
 refine ⟨_, he, fun a hf => ?_⟩
 have hO := hO.call hO' (by simp [Res.shared])
 refine S.op tb ?_ hf hO hm
 refine en rfl fun a w hf hO hm => ?_
 exact Or.inr (⟨b21, r18.2, x20.f_kind, x20.f_limit, p22, c23, x20.f_buf, x20.f_from, x20.f_took, x20.f_bad, x20.f_whole, x20.f_got.Kind, x20.f_got.Method, x20.f_got.Target, x20.f_got.Code, x20.f_got.Reason, x20.f_got.Minor, p24, c25, x20.f_got.Fields, hf.sel rfl, hO, hm⟩)
 rintro a w (⟨i26, hf, hO, hm⟩ | ⟨b90, i91, i92, i93, p94, c95, l96, i97, t98, i99, t100, i101, s102, s103, i104, s105, i106, p107, c108, l109, hf, hO, hm⟩)
 rw [zcY] at hm
 refine S.co tb ?_ hf hO hm
 refine jn 1 (fun a w => ∃ (t28 : Bool), Fits 149 [(0, int x_a0), (1, str s7), (2, .slice x_a2_p0 x_a2.length x_a2_c0), (7, .pointer none), (8, int i17), (9, .pointer none), (10, int i26), (48, .bool t28)] a ∧ Dk.Own w0 [] w [.shr x_a2_p0 (cells zb x_a2)] ∧ zb6 x_a0 x_a2 s7 i17 i26 t28 = some R) rfl ?_ ?_
 refine br rfl (fun hc27 => ?_) fun hc27 => ?_
 exact en rfl fun a w hf hO hm => ⟨true, hf.sel rfl, hO, hm⟩
 exact en rfl fun a w hf hO hm => ⟨!(i26 == 0), hf.sel rfl, hO, hm⟩
 rintro a w ⟨t28, hf, hO, hm⟩
 rw [zb6] at hm
 refine S.co tb ?_ hf hO hm
 refine br rfl (fun hc29 => ?_) fun hc29 => ?_
 exact rt Tryz.results3 rfl
 refine cl zi2 rfl (fun r32 w hr32 hO => zbC s7 r32 _ (hG.own hF hO) hr32) fun r32 hr32 => ?_
 refine rw_ rfl fun a w hf hO hm => ?_
 obtain ⟨r35, hr35, hm⟩ := ob hm
 refine zi (zj c_11 hf (vs := [str s7, .slice x_a2_p0 x_a2.length x_a2_c0]) rfl) rfl hf rfl rfl (zew s7 x_a2 r35 _ (hG.own hF hO).1 (hO.sees (i := 0) rfl) hc0 hr35) ?_
 rintro e w' ⟨p36, c37, he, hO'⟩
 refine ⟨_, he, fun a hf => ?_⟩
 have hO := hO.call hO' (by simp [Res.shared])
 refine S.op tb ?_ hf hO hm
 refine lp (fun k a w => ∃ (i40 : Int) (t41 : Bool) (i42 : Int) (i43 : Int), Fits 149 [(0, int x_a0), (1, str s7), (7, .pointer none), (9, .pointer none), (11, int r32.1), (12, .bool r32.2.1), (13, int r32.2.2), (14, int i40), (15, .bool t41), (16, int i42), (17, .slice p36 r35.length c37), (18, int i43)] a ∧ Dk.Own w0 [] w [.row (.slice p36 r35.length c37) 9 1 r35.length (cells zk r35), .shr x_a2_p0 (cells zb x_a2)] ∧ zad x_a0 s7 r32 r35 k i40 t41 i42 i43 = some R) rfl (fun a w hf hO hm => ⟨0, false, 0, 0, hf.sel rfl, hO, hm⟩) ?_
 rintro n4 a w ⟨i40, t41, i42, i43, hf, hO, hm⟩
 obtain _ | n4 := n4
 rw [zad] at hm
 cases hm
 rw [zad] at hm
 refine S.co tb ?_ hf hO hm
 refine jn 4 (fun a w => ∃ (t46 : Bool), Fits 149 [(0, int x_a0), (1, str s7), (7, .pointer none), (9, .pointer none), (11, int r32.1), (12, .bool r32.2.1), (13, int r32.2.2), (14, int i40), (15, .bool t41), (16, int i42), (17, .slice p36 r35.length c37), (18, int i43), (73, .bool t46)] a ∧ Dk.Own w0 [] w [.row (.slice p36 r35.length c37) 9 1 r35.length (cells zk r35), .shr x_a2_p0 (cells zb x_a2)] ∧ zbz (zad x_a0 s7 r32 r35 n4) x_a0 s7 r32 r35 i40 t41 i42 i43 t46 = some R) rfl ?_ ?_
 refine br rfl (fun hc44 => ?_) fun hc44 => ?_
 refine br rfl (fun hc45 => ?_) fun hc45 => ?_
 exact en rfl fun a w hf hO hm => ⟨i42 == 0, hf.sel rfl, hO, hm⟩
 exact en rfl fun a w hf hO hm => ⟨false, hf.sel rfl, hO, hm⟩
 exact en rfl fun a w hf hO hm => ⟨false, hf.sel rfl, hO, hm⟩
 rintro a w ⟨t46, hf, hO, hm⟩
 rw [zbz] at hm
 refine S.co tb ?_ hf hO hm
 refine br rfl (fun hc47 => ?_) fun hc47 => ?_
 refine rw_ rfl fun a w hf hO hm => ?_
 obtain ⟨x50, hx50, hm⟩ := ob hm
 obtain ⟨b51, o52, hix50, hSx50, hAx50⟩ := zdc (enc := zk) (sz := 1) (xs := r35) 31 Tryz.underlying31 zf4 (by decide) (fun _ => rfl) hO (i := 0) rfl hx50
 refine zcv (zS hix50 hf rfl rfl) rfl hf rfl rfl fun a hf => ?_
 refine S.op tb ?_ hf hO hm
 refine vl rfl rfl (fun a w hf hO => zd (o := 0) zep (hSx50 _ (hO.rowSees (i := 0) rfl)) rfl hf rfl) ?_
 refine cl zi2 rfl (fun r53 w hr53 hO => zbC x50 r53 _ (hG.own hF hO) hr53) fun r53 hr53 => ?_
 refine bi rfl fun i55 hi55 => ?_
 refine bi rfl fun i57 hi57 => ?_
 exact en rfl fun a w hf hO hm => ⟨_, Nat.lt_succ_self _, i55, r53.2.1, r53.2.2, i57, hf.sel rfl, hO, hm⟩
 refine rw_ rfl fun a w hf hO hm => ?_
 obtain ⟨r59, hr59, hm⟩ := ob hm
 refine zi (zj zjW hf (vs := [.pointer none]) rfl) rfl hf rfl rfl (zbD r59 _ (hG.own hF hO).1 hr59) ?_
 rintro e w' ⟨p60, c61, he, hO'⟩
 refine ⟨_, he, fun a hf => ?_⟩
 have hO := hO.call hO' (by simp [Res.shared])
 refine S.op tb ?_ hf hO hm
 refine rw_ rfl fun a w hf hO hm => ?_
 refine zn zcs hf rfl hO fun a b62 w hf hO => ?_
 have hO := hO.nilRow 69 2
 refine S.op tb ?_ hf hO hm
 refine rw_ rfl fun a w hf hO hm => ?_
 refine ze (i := 1) (n := 7) zo rfl rfl rfl (by simp [Value.oneCell']) hf rfl rfl hO fun w hO => ?_
 refine S.op tb ?_ hf hO hm
 refine rw_ rfl fun a w hf hO hm => ?_
 obtain ⟨r64, hr64, hm⟩ := ob hm
 refine zi (zj zjW hf (vs := [.pointer none]) rfl) rfl hf rfl rfl (zbD r64 _ (hG.own hF hO).1 hr64) ?_
 rintro e w' ⟨p65, c66, he, hO'⟩
 refine ⟨_, he, fun a hf => ?_⟩
 have hO := hO.call hO' (by simp [Res.shared])
 refine S.op tb ?_ hf hO hm
 refine rw_ rfl fun a w hf hO hm => ?_
 refine zn zcs hf rfl hO fun a b67 w hf hO => ?_
 have hO := hO.nilRow 69 2
 refine S.op tb ?_ hf hO hm
 refine rw_ rfl fun a w hf hO hm => ?_
 refine ze (i := 1) (n := 7) zo rfl rfl rfl (by simp [Value.oneCell']) hf rfl rfl hO fun w hO => ?_
 refine S.op tb ?_ hf hO hm
 refine jn 1 (fun a w => ∃ (t76 : Bool), Fits 149 [(0, int x_a0), (1, str s7), (11, int r32.1), (12, .bool r32.2.1), (20, ptr b62 0), (129, .bool t76)] a ∧ Dk.Own w0 [] w [.row (.slice none 0 0) 69 2 0 (cells za []), .blk b67 [int r64.1.Kind, str r64.1.Method, str r64.1.Target, int r64.1.Code, str r64.1.Reason, int r64.1.Minor, .slice p65 r64.1.Fields.length c66] 35, .row (.slice p65 r64.1.Fields.length c66) 69 2 r64.1.Fields.length (cells za r64.1.Fields), .row (.slice none 0 0) 69 2 0 (cells za []), .blk b62 [int r59.1.Kind, str r59.1.Method, str r59.1.Target, int r59.1.Code, str r59.1.Reason, int r59.1.Minor, .slice p60 r59.1.Fields.length c61] 35, .row (.slice p60 r59.1.Fields.length c61) 69 2 r59.1.Fields.length (cells za r59.1.Fields), .row (.slice p36 r35.length c37) 9 1 r35.length (cells zk r35), .shr x_a2_p0 (cells zb x_a2)] ∧ zR x_a0 s7 r32 r59 t76 = some R) rfl ?_ ?_
 refine br rfl (fun hc69 => ?_) fun hc69 => ?_
 exact en rfl fun a w hf hO hm => ⟨true, hf.sel rfl, hO, hm⟩
 refine vl rfl rfl (fun a w hf hO => zdu Tryz.underlying4 hf rfl rfl) ?_
 refine br rfl (fun hc70 => ?_) fun hc70 => ?_
 exact en rfl fun a w hf hO hm => ⟨true, hf.sel rfl, hO, hm⟩
 refine br rfl (fun hc71 => ?_) fun hc71 => ?_
 exact en rfl fun a w hf hO hm => ⟨true, hf.sel rfl, hO, hm⟩
 refine vl rfl rfl (fun a w hf hO => zdu Tryz.underlying4 hf rfl rfl) ?_
 refine br rfl (fun hc72 => ?_) fun hc72 => ?_
 exact en rfl fun a w hf hO hm => ⟨true, hf.sel rfl, hO, hm⟩
 refine vl rfl rfl (fun a w hf hO => zm (o := 0) (vs := [int r59.1.Kind, str r59.1.Method, str r59.1.Target, int r59.1.Code, str r59.1.Reason, int r59.1.Minor, .slice p60 r59.1.Fields.length c61]) zak zo (hO.blkSees (i := 4) rfl) rfl rfl hf rfl) ?_
 refine vl rfl rfl (fun a w hf hO => zm (o := 0) (vs := [int r64.1.Kind, str r64.1.Method, str r64.1.Target, int r64.1.Code, str r64.1.Reason, int r64.1.Minor, .slice p65 r64.1.Fields.length c66]) zak zo (hO.blkSees (i := 1) rfl) rfl rfl hf rfl) ?_
 refine cl zkw rfl (fun r73 w hr73 hO => zbH r59.1 r64.1 r73 _ (hG.own hF hO).1 (hO.rowSees (i := 5) rfl) (hO.rowCap (i := 5) rfl) (hO.rowSees (i := 2) rfl) (hO.rowCap (i := 2) rfl) hr73) fun r73 hr73 => ?_
 refine br rfl (fun hc74 => ?_) fun hc74 => ?_
 exact en rfl fun a w hf hO hm => ⟨true, hf.sel rfl, hO, hm⟩
 refine br rfl (fun hc75 => ?_) fun hc75 => ?_
 exact en rfl fun a w hf hO hm => ⟨!(r32.2.2 == 0), hf.sel rfl, hO, hm⟩
 exact en rfl fun a w hf hO hm => ⟨false, hf.sel rfl, hO, hm⟩
 rintro a w ⟨t76, hf, hO, hm⟩
 rw [zR] at hm
 refine S.co tb ?_ hf hO hm
 refine br rfl (fun hc77 => ?_) fun hc77 => ?_
 exact rt Tryz.results3 rfl
 refine bi rfl fun s80 hs80 => ?_
 refine rw_ rfl fun a w hf hO hm => ?_
 obtain ⟨r81, hr81, hm⟩ := ob hm
 refine zi (zj c_14 hf (vs := [int x_a0, str s80, int 2000]) rfl) rfl hf rfl rfl (zdq x_a0 s80 2000 r81 _ (hG.own hF hO) hr81) ?_
 rintro e w' ⟨p82, c83, he, hO'⟩
 refine ⟨_, he, fun a hf => ?_⟩
 have hO := hO.call hO' (by simp [Res.shared])
 refine S.op tb ?_ hf hO hm
 refine rw_ rfl fun a w hf hO hm => ?_
 refine zn zcs hf rfl hO fun a b84 w hf hO => ?_
 have hO := hO.nilRow 69 2
 refine S.op tb ?_ hf hO hm
 refine rw_ rfl fun a w hf hO hm => ?_
 refine ze (i := 1) (n := 7) zo rfl rfl rfl (by simp [Value.oneCell']) hf rfl rfl hO fun w hO => ?_
 refine S.op tb ?_ hf hO hm
 refine jn 0 (fun a w => ∃ (t89 : Bool), Fits 149 [(6, .bool t89)] a ∧ Dk.Own w0 [] w [.row (.slice none 0 0) 69 2 0 (cells za []), .blk b84 [int r81.1.Kind, str r81.1.Method, str r81.1.Target, int r81.1.Code, str r81.1.Reason, int r81.1.Minor, .slice p82 r81.1.Fields.length c83] 35, .row (.slice p82 r81.1.Fields.length c83) 69 2 r81.1.Fields.length (cells za r81.1.Fields), .row (.slice none 0 0) 69 2 0 (cells za []), .blk b67 [int r64.1.Kind, str r64.1.Method, str r64.1.Target, int r64.1.Code, str r64.1.Reason, int r64.1.Minor, .slice p65 r64.1.Fields.length c66] 35, .row (.slice p65 r64.1.Fields.length c66) 69 2 r64.1.Fields.length (cells za r64.1.Fields), .row (.slice none 0 0) 69 2 0 (cells za []), .blk b62 [int r59.1.Kind, str r59.1.Method, str r59.1.Target, int r59.1.Code, str r59.1.Reason, int r59.1.Minor, .slice p60 r59.1.Fields.length c61] 35, .row (.slice p60 r59.1.Fields.length c61) 69 2 r59.1.Fields.length (cells za r59.1.Fields), .row (.slice p36 r35.length c37) 9 1 r35.length (cells zk r35), .shr x_a2_p0 (cells zb x_a2)] ∧ zby t89 = some R) rfl ?_ ?_
 refine br rfl (fun hc86 => ?_) fun hc86 => ?_
 exact en rfl fun a w hf hO hm => ⟨true, hf.sel rfl, hO, hm⟩
 refine br rfl (fun hc87 => ?_) fun hc87 => ?_
 refine vl rfl rfl (fun a w hf hO => zm (o := 0) (vs := [int r81.1.Kind, str r81.1.Method, str r81.1.Target, int r81.1.Code, str r81.1.Reason, int r81.1.Minor, .slice p82 r81.1.Fields.length c83]) zak zo (hO.blkSees (i := 1) rfl) rfl rfl hf rfl) ?_
 refine vl rfl rfl (fun a w hf hO => zm (o := 0) (vs := [int r59.1.Kind, str r59.1.Method, str r59.1.Target, int r59.1.Code, str r59.1.Reason, int r59.1.Minor, .slice p60 r59.1.Fields.length c61]) zak zo (hO.blkSees (i := 7) rfl) rfl rfl hf rfl) ?_
 refine cl zkw rfl (fun r88 w hr88 hO => zbH r81.1 r59.1 r88 _ (hG.own hF hO).1 (hO.rowSees (i := 2) rfl) (hO.rowCap (i := 2) rfl) (hO.rowSees (i := 8) rfl) (hO.rowCap (i := 8) rfl) hr88) fun r88 hr88 => ?_
 exact en rfl fun a w hf hO hm => ⟨r88, hf.sel rfl, hO, hm⟩
 exact en rfl fun a w hf hO hm => ⟨false, hf.sel rfl, hO, hm⟩
 rintro a w ⟨t89, hf, hO, hm⟩
 rw [zby] at hm
 refine S.co tb ?_ hf hO hm
 exact rt Tryz.results3 rfl
 rw [zcZ] at hm
 refine S.co tb ?_ hf hO hm
 refine jn 1 (fun a w => ∃ (t111 : Bool), Fits 149 [(0, int x_a0), (1, str s7), (2, .slice x_a2_p0 x_a2.length x_a2_c0), (7, .pointer none), (8, int i17), (9, ptr b90 0), (10, int i91), (48, .bool t111)] a ∧ Dk.Own w0 [] w [.blk b90 [int i92, int i93, .slice p94 l96.length c95, int i97, .bool t98, int i99, .bool t100, int i101, str s102, str s103, int i104, str s105, int i106, .slice p107 l109.length c108] 61, .row (.slice p94 l96.length c95) 5 1 l96.length (cells zb l96), .row (.slice p107 l109.length c108) 69 2 l109.length (cells za l109), .shr x_a2_p0 (cells zb x_a2)] ∧ zb7 x_a0 x_a2 s7 i17 i91 i92 i93 l96 i97 t98 i99 t100 i101 s102 s103 i104 s105 i106 l109 t111 = some R) rfl ?_ ?_
 refine br rfl (fun hc110 => ?_) fun hc110 => ?_
 exact en rfl fun a w hf hO hm => ⟨true, hf.sel rfl, hO, hm⟩
 exact en rfl fun a w hf hO hm => ⟨!(i91 == 0), hf.sel rfl, hO, hm⟩
 rintro a w ⟨t111, hf, hO, hm⟩
 rw [zb7] at hm
 refine S.co tb ?_ hf hO hm
 refine br rfl (fun hc112 => ?_) fun hc112 => ?_
 exact rt Tryz.results3 rfl
 refine cl zi2 rfl (fun r115 w hr115 hO => zbC s7 r115 _ (hG.own hF hO) hr115) fun r115 hr115 => ?_
 refine rw_ rfl fun a w hf hO hm => ?_
 obtain ⟨r118, hr118, hm⟩ := ob hm
 refine zi (zj c_11 hf (vs := [str s7, .slice x_a2_p0 x_a2.length x_a2_c0]) rfl) rfl hf rfl rfl (zew s7 x_a2 r118 _ (hG.own hF hO).1 (hO.sees (i := 3) rfl) hc0 hr118) ?_
 rintro e w' ⟨p119, c120, he, hO'⟩
 refine ⟨_, he, fun a hf => ?_⟩
 have hO := hO.call hO' (by simp [Res.shared])
 refine S.op tb ?_ hf hO hm
 refine jn 0 (fun a w => ∃ (i164 : Int) (t165 : Bool) (i166 : Int) (i167 : Int) (i168 : Int) (p169 : Option Addr) (c170 : Nat) (l171 : List UInt8) (i172 : Int) (t173 : Bool) (i174 : Int) (t175 : Bool) (i176 : Int) (s177 : Str) (s178 : Str) (i179 : Int) (s180 : Str) (i181 : Int) (p182 : Option Addr) (c183 : Nat) (l184 : List api_Field), Fits 149 [(0, int x_a0), (1, str s7), (7, .pointer none), (9, ptr b90 0), (11, int r115.1), (12, .bool r115.2.1), (13, int r115.2.2), (14, int i164), (15, .bool t165), (16, int i166)] a ∧ Dk.Own w0 [] w [.row (.slice p119 r118.length c120) 9 1 r118.length (cells zk r118), .blk b90 [int i167, int i168, .slice p169 l171.length c170, int i172, .bool t173, int i174, .bool t175, int i176, str s177, str s178, int i179, str s180, int i181, .slice p182 l184.length c183] 61, .row (.slice p169 l171.length c170) 5 1 l171.length (cells zb l171), .row (.slice p182 l184.length c183) 69 2 l184.length (cells za l184), .shr x_a2_p0 (cells zb x_a2)] ∧ zcD x_a0 s7 r115 i164 t165 i166 i167 i168 l171 i172 t173 i174 t175 i176 s177 s178 i179 s180 i181 l184 = some R) rfl ?_ ?_
 refine lp (fun k a w => ∃ (i123 : Int) (i124 : Int) (p125 : Option Addr) (c126 : Nat) (l127 : List UInt8) (i128 : Int) (t129 : Bool) (i130 : Int) (t131 : Bool) (i132 : Int) (s133 : Str) (s134 : Str) (i135 : Int) (s136 : Str) (i137 : Int) (p138 : Option Addr) (c139 : Nat) (l140 : List api_Field) (i141 : Int) (t142 : Bool) (i143 : Int) (i144 : Int), Fits 149 [(0, int x_a0), (1, str s7), (7, .pointer none), (9, ptr b90 0), (11, int r115.1), (12, .bool r115.2.1), (13, int r115.2.2), (14, int i141), (15, .bool t142), (16, int i143), (17, .slice p119 r118.length c120), (18, int i144)] a ∧ Dk.Own w0 [] w [.row (.slice p119 r118.length c120) 9 1 r118.length (cells zk r118), .blk b90 [int i123, int i124, .slice p125 l127.length c126, int i128, .bool t129, int i130, .bool t131, int i132, str s133, str s134, int i135, str s136, int i137, .slice p138 l140.length c139] 61, .row (.slice p125 l127.length c126) 5 1 l127.length (cells zb l127), .row (.slice p138 l140.length c139) 69 2 l140.length (cells za l140), .shr x_a2_p0 (cells zb x_a2)] ∧ zZ x_a0 s7 r115 r118 k i123 i124 l127 i128 t129 i130 t131 i132 s133 s134 i135 s136 i137 l140 i141 t142 i143 i144 = some R) rfl (fun a w hf hO hm => ⟨i92, i93, p94, c95, l96, i97, t98, i99, t100, i101, s102, s103, i104, s105, i106, p107, c108, l109, 0, false, 0, 0, hf.sel rfl, hO, hm⟩) ?_
 rintro n10 a w ⟨i123, i124, p125, c126, l127, i128, t129, i130, t131, i132, s133, s134, i135, s136, i137, p138, c139, l140, i141, t142, i143, i144, hf, hO, hm⟩
 obtain _ | n10 := n10
 rw [zZ] at hm
 cases hm
 rw [zZ] at hm
 refine S.co tb ?_ hf hO hm
 refine jn 4 (fun a w => ∃ (t147 : Bool), Fits 149 [(0, int x_a0), (1, str s7), (7, .pointer none), (9, ptr b90 0), (11, int r115.1), (12, .bool r115.2.1), (13, int r115.2.2), (14, int i141), (15, .bool t142), (16, int i143), (17, .slice p119 r118.length c120), (18, int i144), (73, .bool t147)] a ∧ Dk.Own w0 [] w [.row (.slice p119 r118.length c120) 9 1 r118.length (cells zk r118), .blk b90 [int i123, int i124, .slice p125 l127.length c126, int i128, .bool t129, int i130, .bool t131, int i132, str s133, str s134, int i135, str s136, int i137, .slice p138 l140.length c139] 61, .row (.slice p125 l127.length c126) 5 1 l127.length (cells zb l127), .row (.slice p138 l140.length c139) 69 2 l140.length (cells za l140), .shr x_a2_p0 (cells zb x_a2)] ∧ zba (zZ x_a0 s7 r115 r118 n10) x_a0 s7 r115 r118 i123 i124 l127 i128 t129 i130 t131 i132 s133 s134 i135 s136 i137 l140 i141 t142 i143 i144 t147 = some R) rfl ?_ ?_
 refine br rfl (fun hc145 => ?_) fun hc145 => ?_
 refine br rfl (fun hc146 => ?_) fun hc146 => ?_
 exact en rfl fun a w hf hO hm => ⟨i143 == 0, hf.sel rfl, hO, hm⟩
 exact en rfl fun a w hf hO hm => ⟨false, hf.sel rfl, hO, hm⟩
 exact en rfl fun a w hf hO hm => ⟨false, hf.sel rfl, hO, hm⟩
 rintro a w ⟨t147, hf, hO, hm⟩
 rw [zba] at hm
 refine S.co tb ?_ hf hO hm
 refine br rfl (fun hc148 => ?_) fun hc148 => ?_
 refine rw_ rfl fun a w hf hO hm => ?_
 obtain ⟨x151, hx151, hm⟩ := ob hm
 obtain ⟨b152, o153, hix151, hSx151, hAx151⟩ := zdc (enc := zk) (sz := 1) (xs := r118) 31 Tryz.underlying31 zf4 (by decide) (fun _ => rfl) hO (i := 0) rfl hx151
 refine zcv (zS hix151 hf rfl rfl) rfl hf rfl rfl fun a hf => ?_
 refine S.op tb ?_ hf hO hm
 refine vl rfl rfl (fun a w hf hO => zd (o := 0) zep (hSx151 _ (hO.rowSees (i := 0) rfl)) rfl hf rfl) ?_
 refine rw_ rfl fun a w hf hO hm => ?_
 obtain ⟨r154, hr154, hm⟩ := ob hm
 have hch159 := (show Dk.Own w0 [] _ ([.blk b90 [int i123, int i124, .slice p125 l127.length c126, int i128, .bool t129, int i130, .bool t131, int i132, str s133, str s134, int i135, str s136, int i137, .slice p138 l140.length c139] 61, .row (.slice p125 l127.length c126) 5 1 l127.length (cells zb l127), .row (.slice p138 l140.length c139) 69 2 l140.length (cells za l140)] ++ [.row (.slice p119 r118.length c120) 9 1 r118.length (cells zk r118), .shr x_a2_p0 (cells zb x_a2)]) from hO.choose [1, 2, 3, 0, 4] rfl)
 have hfar159 := Dk.Own.far hch159 rfl hF hG.size
 have hlend159 := hch159.lend (S := []) rfl trivial
 have hcl159 := zaN ((⟨i123, i124, l127, i128, t129, i130, t131, (⟨i132, s133, s134, i135, s136, i137, l140⟩ : api_Head)⟩ : accum_Accum)) x151 r154 _ (hG.own hF hO) hfar159 hlend159 hr154
 refine zi (zj zi2 hf (vs := [ptr b90 0, str x151]) rfl) rfl hf rfl rfl (hcl159) ?_
 rintro e w' ⟨p155, c156, p157, c158, he, hO'⟩
 refine ⟨_, he, fun a hf => ?_⟩
 have hO := hch159.back rfl hO' rfl
 refine S.op tb ?_ hf hO hm
 refine bi rfl fun i161 hi161 => ?_
 refine bi rfl fun i163 hi163 => ?_
 exact en rfl fun a w hf hO hm => ⟨_, Nat.lt_succ_self _, r154.2.2.2.f_kind, r154.2.2.2.f_limit, p155, c156, r154.2.2.2.f_buf, r154.2.2.2.f_from, r154.2.2.2.f_took, r154.2.2.2.f_bad, r154.2.2.2.f_whole, r154.2.2.2.f_got.Kind, r154.2.2.2.f_got.Method, r154.2.2.2.f_got.Target, r154.2.2.2.f_got.Code, r154.2.2.2.f_got.Reason, r154.2.2.2.f_got.Minor, p157, c158, r154.2.2.2.f_got.Fields, i161, r154.2.1, r154.2.2.1, i163, hf.sel rfl, (hO.choose [3, 0, 1, 2, 4] rfl), hm⟩
 exact en rfl fun a w hf hO hm => ⟨i141, t142, i143, i123, i124, p125, c126, l127, i128, t129, i130, t131, i132, s133, s134, i135, s136, i137, p138, c139, l140, hf.sel rfl, hO, hm⟩
 rintro a w ⟨i164, t165, i166, i167, i168, p169, c170, l171, i172, t173, i174, t175, i176, s177, s178, i179, s180, i181, p182, c183, l184, hf, hO, hm⟩
 rw [zcD] at hm
 refine S.co tb ?_ hf hO hm
 refine rw_ rfl fun a w hf hO hm => ?_
 obtain ⟨r185, hr185, hm⟩ := ob hm
 refine zi (zj zjW hf (vs := [.pointer none]) rfl) rfl hf rfl rfl (zbD r185 _ (hG.own hF hO).1 hr185) ?_
 rintro e w' ⟨p186, c187, he, hO'⟩
 refine ⟨_, he, fun a hf => ?_⟩
 have hO := hO.call hO' (by simp [Res.shared])
 refine S.op tb ?_ hf hO hm
 refine rw_ rfl fun a w hf hO hm => ?_
 refine zn zcs hf rfl hO fun a b188 w hf hO => ?_
 have hO := hO.nilRow 69 2
 refine S.op tb ?_ hf hO hm
 refine rw_ rfl fun a w hf hO hm => ?_
 refine ze (i := 1) (n := 7) zo rfl rfl rfl (by simp [Value.oneCell']) hf rfl rfl hO fun w hO => ?_
 refine S.op tb ?_ hf hO hm
 refine rw_ rfl fun a w hf hO hm => ?_
 obtain ⟨r190, hr190, hm⟩ := ob hm
 refine zi (zj zjW hf (vs := [ptr b90 0]) rfl) rfl hf rfl rfl (zbr ((⟨i167, i168, l171, i172, t173, i174, t175, (⟨i176, s177, s178, i179, s180, i181, l184⟩ : api_Head)⟩ : accum_Accum)) r190 _ (hG.own hF hO).1 (hO.blkSees (i := 4) rfl) (hO.rowSees (i := 5) rfl) (hO.rowCap (i := 5) rfl) (hO.rowSees (i := 6) rfl) (hO.rowCap (i := 6) rfl) hr190) ?_
 rintro e w' ⟨p191, c192, he, hO'⟩
 refine ⟨_, he, fun a hf => ?_⟩
 have hO := hO.call hO' (by simp [Res.shared])
 refine S.op tb ?_ hf hO hm
 refine rw_ rfl fun a w hf hO hm => ?_
 refine zn zcs hf rfl hO fun a b193 w hf hO => ?_
 have hO := hO.nilRow 69 2
 refine S.op tb ?_ hf hO hm
 refine rw_ rfl fun a w hf hO hm => ?_
 refine ze (i := 1) (n := 7) zo rfl rfl rfl (by simp [Value.oneCell']) hf rfl rfl hO fun w hO => ?_
 refine S.op tb ?_ hf hO hm
 refine jn 1 (fun a w => ∃ (t202 : Bool), Fits 149 [(0, int x_a0), (1, str s7), (11, int r115.1), (12, .bool r115.2.1), (20, ptr b188 0), (129, .bool t202)] a ∧ Dk.Own w0 [] w [.row (.slice none 0 0) 69 2 0 (cells za []), .blk b193 [int r190.1.Kind, str r190.1.Method, str r190.1.Target, int r190.1.Code, str r190.1.Reason, int r190.1.Minor, .slice p191 r190.1.Fields.length c192] 35, .row (.slice p191 r190.1.Fields.length c192) 69 2 r190.1.Fields.length (cells za r190.1.Fields), .row (.slice none 0 0) 69 2 0 (cells za []), .blk b188 [int r185.1.Kind, str r185.1.Method, str r185.1.Target, int r185.1.Code, str r185.1.Reason, int r185.1.Minor, .slice p186 r185.1.Fields.length c187] 35, .row (.slice p186 r185.1.Fields.length c187) 69 2 r185.1.Fields.length (cells za r185.1.Fields), .row (.slice p119 r118.length c120) 9 1 r118.length (cells zk r118), .blk b90 [int i167, int i168, .slice p169 l171.length c170, int i172, .bool t173, int i174, .bool t175, int i176, str s177, str s178, int i179, str s180, int i181, .slice p182 l184.length c183] 61, .row (.slice p169 l171.length c170) 5 1 l171.length (cells zb l171), .row (.slice p182 l184.length c183) 69 2 l184.length (cells za l184), .shr x_a2_p0 (cells zb x_a2)] ∧ zL x_a0 s7 r115 r185 t202 = some R) rfl ?_ ?_
 refine br rfl (fun hc195 => ?_) fun hc195 => ?_
 exact en rfl fun a w hf hO hm => ⟨true, hf.sel rfl, hO, hm⟩
 refine vl rfl rfl (fun a w hf hO => zdu Tryz.underlying4 hf rfl rfl) ?_
 refine br rfl (fun hc196 => ?_) fun hc196 => ?_
 exact en rfl fun a w hf hO hm => ⟨true, hf.sel rfl, hO, hm⟩
 refine br rfl (fun hc197 => ?_) fun hc197 => ?_
 exact en rfl fun a w hf hO hm => ⟨true, hf.sel rfl, hO, hm⟩
 refine vl rfl rfl (fun a w hf hO => zdu Tryz.underlying4 hf rfl rfl) ?_
 refine br rfl (fun hc198 => ?_) fun hc198 => ?_
 exact en rfl fun a w hf hO hm => ⟨true, hf.sel rfl, hO, hm⟩
 refine vl rfl rfl (fun a w hf hO => zm (o := 0) (vs := [int r185.1.Kind, str r185.1.Method, str r185.1.Target, int r185.1.Code, str r185.1.Reason, int r185.1.Minor, .slice p186 r185.1.Fields.length c187]) zak zo (hO.blkSees (i := 4) rfl) rfl rfl hf rfl) ?_
 refine vl rfl rfl (fun a w hf hO => zm (o := 0) (vs := [int r190.1.Kind, str r190.1.Method, str r190.1.Target, int r190.1.Code, str r190.1.Reason, int r190.1.Minor, .slice p191 r190.1.Fields.length c192]) zak zo (hO.blkSees (i := 1) rfl) rfl rfl hf rfl) ?_
 refine cl zkw rfl (fun r199 w hr199 hO => zbH r185.1 r190.1 r199 _ (hG.own hF hO).1 (hO.rowSees (i := 5) rfl) (hO.rowCap (i := 5) rfl) (hO.rowSees (i := 2) rfl) (hO.rowCap (i := 2) rfl) hr199) fun r199 hr199 => ?_
 refine br rfl (fun hc200 => ?_) fun hc200 => ?_
 exact en rfl fun a w hf hO hm => ⟨true, hf.sel rfl, hO, hm⟩
 refine br rfl (fun hc201 => ?_) fun hc201 => ?_
 exact en rfl fun a w hf hO hm => ⟨!(r115.2.2 == 0), hf.sel rfl, hO, hm⟩
 exact en rfl fun a w hf hO hm => ⟨false, hf.sel rfl, hO, hm⟩
 rintro a w ⟨t202, hf, hO, hm⟩
 rw [zL] at hm
 refine S.co tb ?_ hf hO hm
 refine br rfl (fun hc203 => ?_) fun hc203 => ?_
 exact rt Tryz.results3 rfl
 refine bi rfl fun s206 hs206 => ?_
 refine rw_ rfl fun a w hf hO hm => ?_
 obtain ⟨r207, hr207, hm⟩ := ob hm
 refine zi (zj c_14 hf (vs := [int x_a0, str s206, int 2000]) rfl) rfl hf rfl rfl (zdq x_a0 s206 2000 r207 _ (hG.own hF hO) hr207) ?_
 rintro e w' ⟨p208, c209, he, hO'⟩
 refine ⟨_, he, fun a hf => ?_⟩
 have hO := hO.call hO' (by simp [Res.shared])
 refine S.op tb ?_ hf hO hm
 refine rw_ rfl fun a w hf hO hm => ?_
 refine zn zcs hf rfl hO fun a b210 w hf hO => ?_
 have hO := hO.nilRow 69 2
 refine S.op tb ?_ hf hO hm
 refine rw_ rfl fun a w hf hO hm => ?_
 refine ze (i := 1) (n := 7) zo rfl rfl rfl (by simp [Value.oneCell']) hf rfl rfl hO fun w hO => ?_
 refine S.op tb ?_ hf hO hm
 refine jn 0 (fun a w => ∃ (t215 : Bool), Fits 149 [(6, .bool t215)] a ∧ Dk.Own w0 [] w [.row (.slice none 0 0) 69 2 0 (cells za []), .blk b210 [int r207.1.Kind, str r207.1.Method, str r207.1.Target, int r207.1.Code, str r207.1.Reason, int r207.1.Minor, .slice p208 r207.1.Fields.length c209] 35, .row (.slice p208 r207.1.Fields.length c209) 69 2 r207.1.Fields.length (cells za r207.1.Fields), .row (.slice none 0 0) 69 2 0 (cells za []), .blk b193 [int r190.1.Kind, str r190.1.Method, str r190.1.Target, int r190.1.Code, str r190.1.Reason, int r190.1.Minor, .slice p191 r190.1.Fields.length c192] 35, .row (.slice p191 r190.1.Fields.length c192) 69 2 r190.1.Fields.length (cells za r190.1.Fields), .row (.slice none 0 0) 69 2 0 (cells za []), .blk b188 [int r185.1.Kind, str r185.1.Method, str r185.1.Target, int r185.1.Code, str r185.1.Reason, int r185.1.Minor, .slice p186 r185.1.Fields.length c187] 35, .row (.slice p186 r185.1.Fields.length c187) 69 2 r185.1.Fields.length (cells za r185.1.Fields), .row (.slice p119 r118.length c120) 9 1 r118.length (cells zk r118), .blk b90 [int i167, int i168, .slice p169 l171.length c170, int i172, .bool t173, int i174, .bool t175, int i176, str s177, str s178, int i179, str s180, int i181, .slice p182 l184.length c183] 61, .row (.slice p169 l171.length c170) 5 1 l171.length (cells zb l171), .row (.slice p182 l184.length c183) 69 2 l184.length (cells za l184), .shr x_a2_p0 (cells zb x_a2)] ∧ za9 t215 = some R) rfl ?_ ?_
 refine br rfl (fun hc212 => ?_) fun hc212 => ?_
 exact en rfl fun a w hf hO hm => ⟨true, hf.sel rfl, hO, hm⟩
 refine br rfl (fun hc213 => ?_) fun hc213 => ?_
 refine vl rfl rfl (fun a w hf hO => zm (o := 0) (vs := [int r207.1.Kind, str r207.1.Method, str r207.1.Target, int r207.1.Code, str r207.1.Reason, int r207.1.Minor, .slice p208 r207.1.Fields.length c209]) zak zo (hO.blkSees (i := 1) rfl) rfl rfl hf rfl) ?_
 refine vl rfl rfl (fun a w hf hO => zm (o := 0) (vs := [int r185.1.Kind, str r185.1.Method, str r185.1.Target, int r185.1.Code, str r185.1.Reason, int r185.1.Minor, .slice p186 r185.1.Fields.length c187]) zak zo (hO.blkSees (i := 7) rfl) rfl rfl hf rfl) ?_
 refine cl zkw rfl (fun r214 w hr214 hO => zbH r207.1 r185.1 r214 _ (hG.own hF hO).1 (hO.rowSees (i := 2) rfl) (hO.rowCap (i := 2) rfl) (hO.rowSees (i := 8) rfl) (hO.rowCap (i := 8) rfl) hr214) fun r214 hr214 => ?_
 exact en rfl fun a w hf hO hm => ⟨r214, hf.sel rfl, hO, hm⟩
 exact en rfl fun a w hf hO hm => ⟨false, hf.sel rfl, hO, hm⟩
 rintro a w ⟨t215, hf, hO, hm⟩
 rw [za9] at hm
 refine S.co tb ?_ hf hO hm
 exact rt Tryz.results3 rfl
 rw [zbg] at hm
 refine S.co tb ?_ hf hO hm
 refine jn 0 (fun a w => (∃ (i244 : Int), Fits 149 [(0, int x_a0), (1, str s7), (2, .slice x_a2_p0 x_a2.length x_a2_c0), (7, ptr b216 0), (8, int i217), (9, .pointer none), (10, int i244)] a ∧ Dk.Own w0 [] w [.blk b216 [int i218, int i219, .slice p220 l222.length c221, int i223, .bool t224, int i225, .bool t226, int i227, str s228, str s229, int i230, str s231, int i232, .slice p233 l235.length c234] 61, .row (.slice p220 l222.length c221) 5 1 l222.length (cells zb l222), .row (.slice p233 l235.length c234) 69 2 l235.length (cells za l235), .shr x_a2_p0 (cells zb x_a2)] ∧ zcE x_a0 x_a2 s7 i217 i218 i219 l222 i223 t224 i225 t226 i227 s228 s229 i230 s231 i232 l235 i244 = some R) ∨ (∃ (b313 : Nat) (i314 : Int) (i315 : Int) (i316 : Int) (p317 : Option Addr) (c318 : Nat) (l319 : List UInt8) (i320 : Int) (t321 : Bool) (i322 : Int) (t323 : Bool) (i324 : Int) (s325 : Str) (s326 : Str) (i327 : Int) (s328 : Str) (i329 : Int) (p330 : Option Addr) (c331 : Nat) (l332 : List api_Field), Fits 149 [(0, int x_a0), (1, str s7), (2, .slice x_a2_p0 x_a2.length x_a2_c0), (7, ptr b216 0), (8, int i217), (9, ptr b313 0), (10, int i314)] a ∧ Dk.Own w0 [] w [.blk b313 [int i315, int i316, .slice p317 l319.length c318, int i320, .bool t321, int i322, .bool t323, int i324, str s325, str s326, int i327, str s328, int i329, .slice p330 l332.length c331] 61, .row (.slice p317 l319.length c318) 5 1 l319.length (cells zb l319), .row (.slice p330 l332.length c331) 69 2 l332.length (cells za l332), .blk b216 [int i218, int i219, .slice p220 l222.length c221, int i223, .bool t224, int i225, .bool t226, int i227, str s228, str s229, int i230, str s231, int i232, .slice p233 l235.length c234] 61, .row (.slice p220 l222.length c221) 5 1 l222.length (cells zb l222), .row (.slice p233 l235.length c234) 69 2 l235.length (cells za l235), .shr x_a2_p0 (cells zb x_a2)] ∧ zbf x_a0 x_a2 s7 i217 i218 i219 l222 i223 t224 i225 t226 i227 s228 s229 i230 s231 i232 l235 i314 i315 i316 l319 i320 t321 i322 t323 i324 s325 s326 i327 s328 i329 l332 = some R)) rfl ?_ ?_
 refine rw_ rfl fun a w hf hO hm => ?_
 obtain ⟨r236, hr236, hm⟩ := ob hm
 refine zi (zj c_9 hf (vs := [int x_a0, int 2000]) rfl) rfl hf rfl rfl (zeI x_a0 2000 r236 _ (hG.own hF hO).1 hr236) ?_
 rintro e w' hpost237
 rcases hopt237 : r236.1 with _ | x238
 have hm := zjO hopt237 hm
 obtain ⟨he, hb⟩ := zhH hopt237 hpost237
 refine ⟨_, he, fun a hf => ?_⟩
 have hO := hO.grow hb
 refine S.op tb ?_ hf hO hm
 refine en rfl fun a w hf hO hm => ?_
 exact Or.inl ⟨r236.2, hf.sel rfl, hO, hm⟩
 have hm := zjP hopt237 hm
 obtain ⟨b239, p240, c241, p242, c243, he, hO'⟩ := zhI hopt237 hpost237
 refine ⟨_, he, fun a hf => ?_⟩
 have hO := hO.call hO' (by simp [Res.shared])
 refine S.op tb ?_ hf hO hm
 refine en rfl fun a w hf hO hm => ?_
 exact Or.inr (⟨b239, r236.2, x238.f_kind, x238.f_limit, p240, c241, x238.f_buf, x238.f_from, x238.f_took, x238.f_bad, x238.f_whole, x238.f_got.Kind, x238.f_got.Method, x238.f_got.Target, x238.f_got.Code, x238.f_got.Reason, x238.f_got.Minor, p242, c243, x238.f_got.Fields, hf.sel rfl, hO, hm⟩)
 rintro a w (⟨i244, hf, hO, hm⟩ | ⟨b313, i314, i315, i316, p317, c318, l319, i320, t321, i322, t323, i324, s325, s326, i327, s328, i329, p330, c331, l332, hf, hO, hm⟩)
 rw [zcE] at hm
 refine S.co tb ?_ hf hO hm
 refine jn 1 (fun a w => ∃ (t246 : Bool), Fits 149 [(0, int x_a0), (1, str s7), (2, .slice x_a2_p0 x_a2.length x_a2_c0), (7, ptr b216 0), (8, int i217), (9, .pointer none), (10, int i244), (48, .bool t246)] a ∧ Dk.Own w0 [] w [.blk b216 [int i218, int i219, .slice p220 l222.length c221, int i223, .bool t224, int i225, .bool t226, int i227, str s228, str s229, int i230, str s231, int i232, .slice p233 l235.length c234] 61, .row (.slice p220 l222.length c221) 5 1 l222.length (cells zb l222), .row (.slice p233 l235.length c234) 69 2 l235.length (cells za l235), .shr x_a2_p0 (cells zb x_a2)] ∧ zbT x_a0 x_a2 s7 i217 i218 i219 l222 i223 t224 i225 t226 i227 s228 s229 i230 s231 i232 l235 i244 t246 = some R) rfl ?_ ?_
 refine br rfl (fun hc245 => ?_) fun hc245 => ?_
 exact en rfl fun a w hf hO hm => ⟨true, hf.sel rfl, hO, hm⟩
 exact en rfl fun a w hf hO hm => ⟨!(i244 == 0), hf.sel rfl, hO, hm⟩
 rintro a w ⟨t246, hf, hO, hm⟩
 rw [zbT] at hm
 refine S.co tb ?_ hf hO hm
 refine br rfl (fun hc247 => ?_) fun hc247 => ?_
 exact rt Tryz.results3 rfl
 refine rw_ rfl fun a w hf hO hm => ?_
 obtain ⟨r250, hr250, hm⟩ := ob hm
 have hch255 := (show Dk.Own w0 [] _ ([.blk b216 [int i218, int i219, .slice p220 l222.length c221, int i223, .bool t224, int i225, .bool t226, int i227, str s228, str s229, int i230, str s231, int i232, .slice p233 l235.length c234] 61, .row (.slice p220 l222.length c221) 5 1 l222.length (cells zb l222), .row (.slice p233 l235.length c234) 69 2 l235.length (cells za l235)] ++ [.shr x_a2_p0 (cells zb x_a2)]) from hO)
 have hfar255 := Dk.Own.far hch255 rfl hF hG.size
 have hlend255 := hch255.lend (S := []) rfl trivial
 have hcl255 := zaN ((⟨i218, i219, l222, i223, t224, i225, t226, (⟨i227, s228, s229, i230, s231, i232, l235⟩ : api_Head)⟩ : accum_Accum)) s7 r250 _ (hG.own hF hO) hfar255 hlend255 hr250
 refine zi (zj zi2 hf (vs := [ptr b216 0, str s7]) rfl) rfl hf rfl rfl (hcl255) ?_
 rintro e w' ⟨p251, c252, p253, c254, he, hO'⟩
 refine ⟨_, he, fun a hf => ?_⟩
 have hO := hch255.back rfl hO' rfl
 refine S.op tb ?_ hf hO hm
 refine rw_ rfl fun a w hf hO hm => ?_
 obtain ⟨r258, hr258, hm⟩ := ob hm
 refine zi (zj c_11 hf (vs := [str s7, .slice x_a2_p0 x_a2.length x_a2_c0]) rfl) rfl hf rfl rfl (zew s7 x_a2 r258 _ (hG.own hF hO).1 (hO.sees (i := 3) rfl) hc0 hr258) ?_
 rintro e w' ⟨p259, c260, he, hO'⟩
 refine ⟨_, he, fun a hf => ?_⟩
 have hO := hO.call hO' (by simp [Res.shared])
 refine S.op tb ?_ hf hO hm
 refine lp (fun k a w => ∃ (i263 : Int) (t264 : Bool) (i265 : Int) (i266 : Int), Fits 149 [(0, int x_a0), (1, str s7), (7, ptr b216 0), (9, .pointer none), (11, int r250.1), (12, .bool r250.2.1), (13, int r250.2.2.1), (14, int i263), (15, .bool t264), (16, int i265), (17, .slice p259 r258.length c260), (18, int i266)] a ∧ Dk.Own w0 [] w [.row (.slice p259 r258.length c260) 9 1 r258.length (cells zk r258), .blk b216 [int r250.2.2.2.f_kind, int r250.2.2.2.f_limit, .slice p251 r250.2.2.2.f_buf.length c252, int r250.2.2.2.f_from, .bool r250.2.2.2.f_took, int r250.2.2.2.f_bad, .bool r250.2.2.2.f_whole, int r250.2.2.2.f_got.Kind, str r250.2.2.2.f_got.Method, str r250.2.2.2.f_got.Target, int r250.2.2.2.f_got.Code, str r250.2.2.2.f_got.Reason, int r250.2.2.2.f_got.Minor, .slice p253 r250.2.2.2.f_got.Fields.length c254] 61, .row (.slice p251 r250.2.2.2.f_buf.length c252) 5 1 r250.2.2.2.f_buf.length (cells zb r250.2.2.2.f_buf), .row (.slice p253 r250.2.2.2.f_got.Fields.length c254) 69 2 r250.2.2.2.f_got.Fields.length (cells za r250.2.2.2.f_got.Fields), .shr x_a2_p0 (cells zb x_a2)] ∧ z6 x_a0 s7 r250 r258 k i263 t264 i265 i266 = some R) rfl (fun a w hf hO hm => ⟨0, false, 0, 0, hf.sel rfl, hO, hm⟩) ?_
 rintro n18 a w ⟨i263, t264, i265, i266, hf, hO, hm⟩
 obtain _ | n18 := n18
 rw [z6] at hm
 cases hm
 rw [z6] at hm
 refine S.co tb ?_ hf hO hm
 refine jn 4 (fun a w => ∃ (t269 : Bool), Fits 149 [(0, int x_a0), (1, str s7), (7, ptr b216 0), (9, .pointer none), (11, int r250.1), (12, .bool r250.2.1), (13, int r250.2.2.1), (14, int i263), (15, .bool t264), (16, int i265), (17, .slice p259 r258.length c260), (18, int i266), (73, .bool t269)] a ∧ Dk.Own w0 [] w [.row (.slice p259 r258.length c260) 9 1 r258.length (cells zk r258), .blk b216 [int r250.2.2.2.f_kind, int r250.2.2.2.f_limit, .slice p251 r250.2.2.2.f_buf.length c252, int r250.2.2.2.f_from, .bool r250.2.2.2.f_took, int r250.2.2.2.f_bad, .bool r250.2.2.2.f_whole, int r250.2.2.2.f_got.Kind, str r250.2.2.2.f_got.Method, str r250.2.2.2.f_got.Target, int r250.2.2.2.f_got.Code, str r250.2.2.2.f_got.Reason, int r250.2.2.2.f_got.Minor, .slice p253 r250.2.2.2.f_got.Fields.length c254] 61, .row (.slice p251 r250.2.2.2.f_buf.length c252) 5 1 r250.2.2.2.f_buf.length (cells zb r250.2.2.2.f_buf), .row (.slice p253 r250.2.2.2.f_got.Fields.length c254) 69 2 r250.2.2.2.f_got.Fields.length (cells za r250.2.2.2.f_got.Fields), .shr x_a2_p0 (cells zb x_a2)] ∧ zbc (z6 x_a0 s7 r250 r258 n18) x_a0 s7 r250 r258 i263 t264 i265 i266 t269 = some R) rfl ?_ ?_
 refine br rfl (fun hc267 => ?_) fun hc267 => ?_
 refine br rfl (fun hc268 => ?_) fun hc268 => ?_
 exact en rfl fun a w hf hO hm => ⟨i265 == 0, hf.sel rfl, hO, hm⟩
 exact en rfl fun a w hf hO hm => ⟨false, hf.sel rfl, hO, hm⟩
 exact en rfl fun a w hf hO hm => ⟨false, hf.sel rfl, hO, hm⟩
 rintro a w ⟨t269, hf, hO, hm⟩
 rw [zbc] at hm
 refine S.co tb ?_ hf hO hm
 refine br rfl (fun hc270 => ?_) fun hc270 => ?_
 refine rw_ rfl fun a w hf hO hm => ?_
 obtain ⟨x273, hx273, hm⟩ := ob hm
 obtain ⟨b274, o275, hix273, hSx273, hAx273⟩ := zdc (enc := zk) (sz := 1) (xs := r258) 31 Tryz.underlying31 zf4 (by decide) (fun _ => rfl) hO (i := 0) rfl hx273
 refine zcv (zS hix273 hf rfl rfl) rfl hf rfl rfl fun a hf => ?_
 refine S.op tb ?_ hf hO hm
 refine vl rfl rfl (fun a w hf hO => zd (o := 0) zep (hSx273 _ (hO.rowSees (i := 0) rfl)) rfl hf rfl) ?_
 refine cl zi2 rfl (fun r276 w hr276 hO => zbC x273 r276 _ (hG.own hF hO) hr276) fun r276 hr276 => ?_
 refine bi rfl fun i278 hi278 => ?_
 refine bi rfl fun i280 hi280 => ?_
 exact en rfl fun a w hf hO hm => ⟨_, Nat.lt_succ_self _, i278, r276.2.1, r276.2.2, i280, hf.sel rfl, hO, hm⟩
 refine rw_ rfl fun a w hf hO hm => ?_
 obtain ⟨r282, hr282, hm⟩ := ob hm
 refine zi (zj zjW hf (vs := [ptr b216 0]) rfl) rfl hf rfl rfl (zbr r250.2.2.2 r282 _ (hG.own hF hO).1 (hO.blkSees (i := 1) rfl) (hO.rowSees (i := 2) rfl) (hO.rowCap (i := 2) rfl) (hO.rowSees (i := 3) rfl) (hO.rowCap (i := 3) rfl) hr282) ?_
 rintro e w' ⟨p283, c284, he, hO'⟩
 refine ⟨_, he, fun a hf => ?_⟩
 have hO := hO.call hO' (by simp [Res.shared])
 refine S.op tb ?_ hf hO hm
 refine rw_ rfl fun a w hf hO hm => ?_
 refine zn zcs hf rfl hO fun a b285 w hf hO => ?_
 have hO := hO.nilRow 69 2
 refine S.op tb ?_ hf hO hm
 refine rw_ rfl fun a w hf hO hm => ?_
 refine ze (i := 1) (n := 7) zo rfl rfl rfl (by simp [Value.oneCell']) hf rfl rfl hO fun w hO => ?_
 refine S.op tb ?_ hf hO hm
 refine rw_ rfl fun a w hf hO hm => ?_
 obtain ⟨r287, hr287, hm⟩ := ob hm
 refine zi (zj zjW hf (vs := [.pointer none]) rfl) rfl hf rfl rfl (zbD r287 _ (hG.own hF hO).1 hr287) ?_
 rintro e w' ⟨p288, c289, he, hO'⟩
 refine ⟨_, he, fun a hf => ?_⟩
 have hO := hO.call hO' (by simp [Res.shared])
 refine S.op tb ?_ hf hO hm
 refine rw_ rfl fun a w hf hO hm => ?_
 refine zn zcs hf rfl hO fun a b290 w hf hO => ?_
 have hO := hO.nilRow 69 2
 refine S.op tb ?_ hf hO hm
 refine rw_ rfl fun a w hf hO hm => ?_
 refine ze (i := 1) (n := 7) zo rfl rfl rfl (by simp [Value.oneCell']) hf rfl rfl hO fun w hO => ?_
 refine S.op tb ?_ hf hO hm
 refine jn 1 (fun a w => ∃ (t299 : Bool), Fits 149 [(0, int x_a0), (1, str s7), (11, int r250.1), (12, .bool r250.2.1), (20, ptr b285 0), (129, .bool t299)] a ∧ Dk.Own w0 [] w [.row (.slice none 0 0) 69 2 0 (cells za []), .blk b290 [int r287.1.Kind, str r287.1.Method, str r287.1.Target, int r287.1.Code, str r287.1.Reason, int r287.1.Minor, .slice p288 r287.1.Fields.length c289] 35, .row (.slice p288 r287.1.Fields.length c289) 69 2 r287.1.Fields.length (cells za r287.1.Fields), .row (.slice none 0 0) 69 2 0 (cells za []), .blk b285 [int r282.1.Kind, str r282.1.Method, str r282.1.Target, int r282.1.Code, str r282.1.Reason, int r282.1.Minor, .slice p283 r282.1.Fields.length c284] 35, .row (.slice p283 r282.1.Fields.length c284) 69 2 r282.1.Fields.length (cells za r282.1.Fields), .row (.slice p259 r258.length c260) 9 1 r258.length (cells zk r258), .blk b216 [int r250.2.2.2.f_kind, int r250.2.2.2.f_limit, .slice p251 r250.2.2.2.f_buf.length c252, int r250.2.2.2.f_from, .bool r250.2.2.2.f_took, int r250.2.2.2.f_bad, .bool r250.2.2.2.f_whole, int r250.2.2.2.f_got.Kind, str r250.2.2.2.f_got.Method, str r250.2.2.2.f_got.Target, int r250.2.2.2.f_got.Code, str r250.2.2.2.f_got.Reason, int r250.2.2.2.f_got.Minor, .slice p253 r250.2.2.2.f_got.Fields.length c254] 61, .row (.slice p251 r250.2.2.2.f_buf.length c252) 5 1 r250.2.2.2.f_buf.length (cells zb r250.2.2.2.f_buf), .row (.slice p253 r250.2.2.2.f_got.Fields.length c254) 69 2 r250.2.2.2.f_got.Fields.length (cells za r250.2.2.2.f_got.Fields), .shr x_a2_p0 (cells zb x_a2)] ∧ zM x_a0 s7 r250 r282 t299 = some R) rfl ?_ ?_
 refine br rfl (fun hc292 => ?_) fun hc292 => ?_
 exact en rfl fun a w hf hO hm => ⟨true, hf.sel rfl, hO, hm⟩
 refine vl rfl rfl (fun a w hf hO => zdu Tryz.underlying4 hf rfl rfl) ?_
 refine br rfl (fun hc293 => ?_) fun hc293 => ?_
 exact en rfl fun a w hf hO hm => ⟨true, hf.sel rfl, hO, hm⟩
 refine br rfl (fun hc294 => ?_) fun hc294 => ?_
 exact en rfl fun a w hf hO hm => ⟨true, hf.sel rfl, hO, hm⟩
 refine vl rfl rfl (fun a w hf hO => zdu Tryz.underlying4 hf rfl rfl) ?_
 refine br rfl (fun hc295 => ?_) fun hc295 => ?_
 exact en rfl fun a w hf hO hm => ⟨true, hf.sel rfl, hO, hm⟩
 refine vl rfl rfl (fun a w hf hO => zm (o := 0) (vs := [int r282.1.Kind, str r282.1.Method, str r282.1.Target, int r282.1.Code, str r282.1.Reason, int r282.1.Minor, .slice p283 r282.1.Fields.length c284]) zak zo (hO.blkSees (i := 4) rfl) rfl rfl hf rfl) ?_
 refine vl rfl rfl (fun a w hf hO => zm (o := 0) (vs := [int r287.1.Kind, str r287.1.Method, str r287.1.Target, int r287.1.Code, str r287.1.Reason, int r287.1.Minor, .slice p288 r287.1.Fields.length c289]) zak zo (hO.blkSees (i := 1) rfl) rfl rfl hf rfl) ?_
 refine cl zkw rfl (fun r296 w hr296 hO => zbH r282.1 r287.1 r296 _ (hG.own hF hO).1 (hO.rowSees (i := 5) rfl) (hO.rowCap (i := 5) rfl) (hO.rowSees (i := 2) rfl) (hO.rowCap (i := 2) rfl) hr296) fun r296 hr296 => ?_
 refine br rfl (fun hc297 => ?_) fun hc297 => ?_
 exact en rfl fun a w hf hO hm => ⟨true, hf.sel rfl, hO, hm⟩
 refine br rfl (fun hc298 => ?_) fun hc298 => ?_
 exact en rfl fun a w hf hO hm => ⟨!(r250.2.2.1 == 0), hf.sel rfl, hO, hm⟩
 exact en rfl fun a w hf hO hm => ⟨false, hf.sel rfl, hO, hm⟩
 rintro a w ⟨t299, hf, hO, hm⟩
 rw [zM] at hm
 refine S.co tb ?_ hf hO hm
 refine br rfl (fun hc300 => ?_) fun hc300 => ?_
 exact rt Tryz.results3 rfl
 refine bi rfl fun s303 hs303 => ?_
 refine rw_ rfl fun a w hf hO hm => ?_
 obtain ⟨r304, hr304, hm⟩ := ob hm
 refine zi (zj c_14 hf (vs := [int x_a0, str s303, int 2000]) rfl) rfl hf rfl rfl (zdq x_a0 s303 2000 r304 _ (hG.own hF hO) hr304) ?_
 rintro e w' ⟨p305, c306, he, hO'⟩
 refine ⟨_, he, fun a hf => ?_⟩
 have hO := hO.call hO' (by simp [Res.shared])
 refine S.op tb ?_ hf hO hm
 refine rw_ rfl fun a w hf hO hm => ?_
 refine zn zcs hf rfl hO fun a b307 w hf hO => ?_
 have hO := hO.nilRow 69 2
 refine S.op tb ?_ hf hO hm
 refine rw_ rfl fun a w hf hO hm => ?_
 refine ze (i := 1) (n := 7) zo rfl rfl rfl (by simp [Value.oneCell']) hf rfl rfl hO fun w hO => ?_
 refine S.op tb ?_ hf hO hm
 refine jn 0 (fun a w => ∃ (t312 : Bool), Fits 149 [(6, .bool t312)] a ∧ Dk.Own w0 [] w [.row (.slice none 0 0) 69 2 0 (cells za []), .blk b307 [int r304.1.Kind, str r304.1.Method, str r304.1.Target, int r304.1.Code, str r304.1.Reason, int r304.1.Minor, .slice p305 r304.1.Fields.length c306] 35, .row (.slice p305 r304.1.Fields.length c306) 69 2 r304.1.Fields.length (cells za r304.1.Fields), .row (.slice none 0 0) 69 2 0 (cells za []), .blk b290 [int r287.1.Kind, str r287.1.Method, str r287.1.Target, int r287.1.Code, str r287.1.Reason, int r287.1.Minor, .slice p288 r287.1.Fields.length c289] 35, .row (.slice p288 r287.1.Fields.length c289) 69 2 r287.1.Fields.length (cells za r287.1.Fields), .row (.slice none 0 0) 69 2 0 (cells za []), .blk b285 [int r282.1.Kind, str r282.1.Method, str r282.1.Target, int r282.1.Code, str r282.1.Reason, int r282.1.Minor, .slice p283 r282.1.Fields.length c284] 35, .row (.slice p283 r282.1.Fields.length c284) 69 2 r282.1.Fields.length (cells za r282.1.Fields), .row (.slice p259 r258.length c260) 9 1 r258.length (cells zk r258), .blk b216 [int r250.2.2.2.f_kind, int r250.2.2.2.f_limit, .slice p251 r250.2.2.2.f_buf.length c252, int r250.2.2.2.f_from, .bool r250.2.2.2.f_took, int r250.2.2.2.f_bad, .bool r250.2.2.2.f_whole, int r250.2.2.2.f_got.Kind, str r250.2.2.2.f_got.Method, str r250.2.2.2.f_got.Target, int r250.2.2.2.f_got.Code, str r250.2.2.2.f_got.Reason, int r250.2.2.2.f_got.Minor, .slice p253 r250.2.2.2.f_got.Fields.length c254] 61, .row (.slice p251 r250.2.2.2.f_buf.length c252) 5 1 r250.2.2.2.f_buf.length (cells zb r250.2.2.2.f_buf), .row (.slice p253 r250.2.2.2.f_got.Fields.length c254) 69 2 r250.2.2.2.f_got.Fields.length (cells za r250.2.2.2.f_got.Fields), .shr x_a2_p0 (cells zb x_a2)] ∧ zbb t312 = some R) rfl ?_ ?_
 refine br rfl (fun hc309 => ?_) fun hc309 => ?_
 exact en rfl fun a w hf hO hm => ⟨true, hf.sel rfl, hO, hm⟩
 refine br rfl (fun hc310 => ?_) fun hc310 => ?_
 refine vl rfl rfl (fun a w hf hO => zm (o := 0) (vs := [int r304.1.Kind, str r304.1.Method, str r304.1.Target, int r304.1.Code, str r304.1.Reason, int r304.1.Minor, .slice p305 r304.1.Fields.length c306]) zak zo (hO.blkSees (i := 1) rfl) rfl rfl hf rfl) ?_
 refine vl rfl rfl (fun a w hf hO => zm (o := 0) (vs := [int r282.1.Kind, str r282.1.Method, str r282.1.Target, int r282.1.Code, str r282.1.Reason, int r282.1.Minor, .slice p283 r282.1.Fields.length c284]) zak zo (hO.blkSees (i := 7) rfl) rfl rfl hf rfl) ?_
 refine cl zkw rfl (fun r311 w hr311 hO => zbH r304.1 r282.1 r311 _ (hG.own hF hO).1 (hO.rowSees (i := 2) rfl) (hO.rowCap (i := 2) rfl) (hO.rowSees (i := 8) rfl) (hO.rowCap (i := 8) rfl) hr311) fun r311 hr311 => ?_
 exact en rfl fun a w hf hO hm => ⟨r311, hf.sel rfl, hO, hm⟩
 exact en rfl fun a w hf hO hm => ⟨false, hf.sel rfl, hO, hm⟩
 rintro a w ⟨t312, hf, hO, hm⟩
 rw [zbb] at hm
 refine S.co tb ?_ hf hO hm
 exact rt Tryz.results3 rfl
 rw [zbf] at hm
 refine S.co tb ?_ hf hO hm
 refine jn 1 (fun a w => ∃ (t334 : Bool), Fits 149 [(0, int x_a0), (1, str s7), (2, .slice x_a2_p0 x_a2.length x_a2_c0), (7, ptr b216 0), (8, int i217), (9, ptr b313 0), (10, int i314), (48, .bool t334)] a ∧ Dk.Own w0 [] w [.blk b313 [int i315, int i316, .slice p317 l319.length c318, int i320, .bool t321, int i322, .bool t323, int i324, str s325, str s326, int i327, str s328, int i329, .slice p330 l332.length c331] 61, .row (.slice p317 l319.length c318) 5 1 l319.length (cells zb l319), .row (.slice p330 l332.length c331) 69 2 l332.length (cells za l332), .blk b216 [int i218, int i219, .slice p220 l222.length c221, int i223, .bool t224, int i225, .bool t226, int i227, str s228, str s229, int i230, str s231, int i232, .slice p233 l235.length c234] 61, .row (.slice p220 l222.length c221) 5 1 l222.length (cells zb l222), .row (.slice p233 l235.length c234) 69 2 l235.length (cells za l235), .shr x_a2_p0 (cells zb x_a2)] ∧ zbe x_a0 x_a2 s7 i217 i218 i219 l222 i223 t224 i225 t226 i227 s228 s229 i230 s231 i232 l235 i314 i315 i316 l319 i320 t321 i322 t323 i324 s325 s326 i327 s328 i329 l332 t334 = some R) rfl ?_ ?_
 refine br rfl (fun hc333 => ?_) fun hc333 => ?_
 exact en rfl fun a w hf hO hm => ⟨true, hf.sel rfl, hO, hm⟩
 exact en rfl fun a w hf hO hm => ⟨!(i314 == 0), hf.sel rfl, hO, hm⟩
 rintro a w ⟨t334, hf, hO, hm⟩
 rw [zbe] at hm
 refine S.co tb ?_ hf hO hm
 refine br rfl (fun hc335 => ?_) fun hc335 => ?_
 exact rt Tryz.results3 rfl
 refine rw_ rfl fun a w hf hO hm => ?_
 obtain ⟨r338, hr338, hm⟩ := ob hm
 have hch343 := (show Dk.Own w0 [] _ ([.blk b216 [int i218, int i219, .slice p220 l222.length c221, int i223, .bool t224, int i225, .bool t226, int i227, str s228, str s229, int i230, str s231, int i232, .slice p233 l235.length c234] 61, .row (.slice p220 l222.length c221) 5 1 l222.length (cells zb l222), .row (.slice p233 l235.length c234) 69 2 l235.length (cells za l235)] ++ [.blk b313 [int i315, int i316, .slice p317 l319.length c318, int i320, .bool t321, int i322, .bool t323, int i324, str s325, str s326, int i327, str s328, int i329, .slice p330 l332.length c331] 61, .row (.slice p317 l319.length c318) 5 1 l319.length (cells zb l319), .row (.slice p330 l332.length c331) 69 2 l332.length (cells za l332), .shr x_a2_p0 (cells zb x_a2)]) from hO.choose [3, 4, 5, 0, 1, 2, 6] rfl)
 have hfar343 := Dk.Own.far hch343 rfl hF hG.size
 have hlend343 := hch343.lend (S := []) rfl trivial
 have hcl343 := zaN ((⟨i218, i219, l222, i223, t224, i225, t226, (⟨i227, s228, s229, i230, s231, i232, l235⟩ : api_Head)⟩ : accum_Accum)) s7 r338 _ (hG.own hF hO) hfar343 hlend343 hr338
 refine zi (zj zi2 hf (vs := [ptr b216 0, str s7]) rfl) rfl hf rfl rfl (hcl343) ?_
 rintro e w' ⟨p339, c340, p341, c342, he, hO'⟩
 refine ⟨_, he, fun a hf => ?_⟩
 have hO := hch343.back rfl hO' rfl
 refine S.op tb ?_ hf hO hm
 refine rw_ rfl fun a w hf hO hm => ?_
 obtain ⟨r346, hr346, hm⟩ := ob hm
 refine zi (zj c_11 hf (vs := [str s7, .slice x_a2_p0 x_a2.length x_a2_c0]) rfl) rfl hf rfl rfl (zew s7 x_a2 r346 _ (hG.own hF hO).1 (hO.sees (i := 6) rfl) hc0 hr346) ?_
 rintro e w' ⟨p347, c348, he, hO'⟩
 refine ⟨_, he, fun a hf => ?_⟩
 have hO := hO.call hO' (by simp [Res.shared])
 refine S.op tb ?_ hf hO hm
 refine jn 0 (fun a w => ∃ (i392 : Int) (t393 : Bool) (i394 : Int) (i395 : Int) (i396 : Int) (p397 : Option Addr) (c398 : Nat) (l399 : List UInt8) (i400 : Int) (t401 : Bool) (i402 : Int) (t403 : Bool) (i404 : Int) (s405 : Str) (s406 : Str) (i407 : Int) (s408 : Str) (i409 : Int) (p410 : Option Addr) (c411 : Nat) (l412 : List api_Field), Fits 149 [(0, int x_a0), (1, str s7), (7, ptr b216 0), (9, ptr b313 0), (11, int r338.1), (12, .bool r338.2.1), (13, int r338.2.2.1), (14, int i392), (15, .bool t393), (16, int i394)] a ∧ Dk.Own w0 [] w [.row (.slice p347 r346.length c348) 9 1 r346.length (cells zk r346), .blk b216 [int r338.2.2.2.f_kind, int r338.2.2.2.f_limit, .slice p339 r338.2.2.2.f_buf.length c340, int r338.2.2.2.f_from, .bool r338.2.2.2.f_took, int r338.2.2.2.f_bad, .bool r338.2.2.2.f_whole, int r338.2.2.2.f_got.Kind, str r338.2.2.2.f_got.Method, str r338.2.2.2.f_got.Target, int r338.2.2.2.f_got.Code, str r338.2.2.2.f_got.Reason, int r338.2.2.2.f_got.Minor, .slice p341 r338.2.2.2.f_got.Fields.length c342] 61, .row (.slice p339 r338.2.2.2.f_buf.length c340) 5 1 r338.2.2.2.f_buf.length (cells zb r338.2.2.2.f_buf), .row (.slice p341 r338.2.2.2.f_got.Fields.length c342) 69 2 r338.2.2.2.f_got.Fields.length (cells za r338.2.2.2.f_got.Fields), .blk b313 [int i395, int i396, .slice p397 l399.length c398, int i400, .bool t401, int i402, .bool t403, int i404, str s405, str s406, int i407, str s408, int i409, .slice p410 l412.length c411] 61, .row (.slice p397 l399.length c398) 5 1 l399.length (cells zb l399), .row (.slice p410 l412.length c411) 69 2 l412.length (cells za l412), .shr x_a2_p0 (cells zb x_a2)] ∧ zbd x_a0 s7 r338 i392 t393 i394 i395 i396 l399 i400 t401 i402 t403 i404 s405 s406 i407 s408 i409 l412 = some R) rfl ?_ ?_
 refine lp (fun k a w => ∃ (i351 : Int) (i352 : Int) (p353 : Option Addr) (c354 : Nat) (l355 : List UInt8) (i356 : Int) (t357 : Bool) (i358 : Int) (t359 : Bool) (i360 : Int) (s361 : Str) (s362 : Str) (i363 : Int) (s364 : Str) (i365 : Int) (p366 : Option Addr) (c367 : Nat) (l368 : List api_Field) (i369 : Int) (t370 : Bool) (i371 : Int) (i372 : Int), Fits 149 [(0, int x_a0), (1, str s7), (7, ptr b216 0), (9, ptr b313 0), (11, int r338.1), (12, .bool r338.2.1), (13, int r338.2.2.1), (14, int i369), (15, .bool t370), (16, int i371), (17, .slice p347 r346.length c348), (18, int i372)] a ∧ Dk.Own w0 [] w [.row (.slice p347 r346.length c348) 9 1 r346.length (cells zk r346), .blk b216 [int r338.2.2.2.f_kind, int r338.2.2.2.f_limit, .slice p339 r338.2.2.2.f_buf.length c340, int r338.2.2.2.f_from, .bool r338.2.2.2.f_took, int r338.2.2.2.f_bad, .bool r338.2.2.2.f_whole, int r338.2.2.2.f_got.Kind, str r338.2.2.2.f_got.Method, str r338.2.2.2.f_got.Target, int r338.2.2.2.f_got.Code, str r338.2.2.2.f_got.Reason, int r338.2.2.2.f_got.Minor, .slice p341 r338.2.2.2.f_got.Fields.length c342] 61, .row (.slice p339 r338.2.2.2.f_buf.length c340) 5 1 r338.2.2.2.f_buf.length (cells zb r338.2.2.2.f_buf), .row (.slice p341 r338.2.2.2.f_got.Fields.length c342) 69 2 r338.2.2.2.f_got.Fields.length (cells za r338.2.2.2.f_got.Fields), .blk b313 [int i351, int i352, .slice p353 l355.length c354, int i356, .bool t357, int i358, .bool t359, int i360, str s361, str s362, int i363, str s364, int i365, .slice p366 l368.length c367] 61, .row (.slice p353 l355.length c354) 5 1 l355.length (cells zb l355), .row (.slice p366 l368.length c367) 69 2 l368.length (cells za l368), .shr x_a2_p0 (cells zb x_a2)] ∧ zr x_a0 s7 r338 r346 k i351 i352 l355 i356 t357 i358 t359 i360 s361 s362 i363 s364 i365 l368 i369 t370 i371 i372 = some R) rfl (fun a w hf hO hm => ⟨i315, i316, p317, c318, l319, i320, t321, i322, t323, i324, s325, s326, i327, s328, i329, p330, c331, l332, 0, false, 0, 0, hf.sel rfl, hO, hm⟩) ?_
 rintro n24 a w ⟨i351, i352, p353, c354, l355, i356, t357, i358, t359, i360, s361, s362, i363, s364, i365, p366, c367, l368, i369, t370, i371, i372, hf, hO, hm⟩
 obtain _ | n24 := n24
 rw [zr] at hm
 cases hm
 rw [zr] at hm
 refine S.co tb ?_ hf hO hm
 refine jn 4 (fun a w => ∃ (t375 : Bool), Fits 149 [(0, int x_a0), (1, str s7), (7, ptr b216 0), (9, ptr b313 0), (11, int r338.1), (12, .bool r338.2.1), (13, int r338.2.2.1), (14, int i369), (15, .bool t370), (16, int i371), (17, .slice p347 r346.length c348), (18, int i372), (73, .bool t375)] a ∧ Dk.Own w0 [] w [.row (.slice p347 r346.length c348) 9 1 r346.length (cells zk r346), .blk b216 [int r338.2.2.2.f_kind, int r338.2.2.2.f_limit, .slice p339 r338.2.2.2.f_buf.length c340, int r338.2.2.2.f_from, .bool r338.2.2.2.f_took, int r338.2.2.2.f_bad, .bool r338.2.2.2.f_whole, int r338.2.2.2.f_got.Kind, str r338.2.2.2.f_got.Method, str r338.2.2.2.f_got.Target, int r338.2.2.2.f_got.Code, str r338.2.2.2.f_got.Reason, int r338.2.2.2.f_got.Minor, .slice p341 r338.2.2.2.f_got.Fields.length c342] 61, .row (.slice p339 r338.2.2.2.f_buf.length c340) 5 1 r338.2.2.2.f_buf.length (cells zb r338.2.2.2.f_buf), .row (.slice p341 r338.2.2.2.f_got.Fields.length c342) 69 2 r338.2.2.2.f_got.Fields.length (cells za r338.2.2.2.f_got.Fields), .blk b313 [int i351, int i352, .slice p353 l355.length c354, int i356, .bool t357, int i358, .bool t359, int i360, str s361, str s362, int i363, str s364, int i365, .slice p366 l368.length c367] 61, .row (.slice p353 l355.length c354) 5 1 l355.length (cells zb l355), .row (.slice p366 l368.length c367) 69 2 l368.length (cells za l368), .shr x_a2_p0 (cells zb x_a2)] ∧ z7 (zr x_a0 s7 r338 r346 n24) x_a0 s7 r338 r346 i351 i352 l355 i356 t357 i358 t359 i360 s361 s362 i363 s364 i365 l368 i369 t370 i371 i372 t375 = some R) rfl ?_ ?_
 refine br rfl (fun hc373 => ?_) fun hc373 => ?_
 refine br rfl (fun hc374 => ?_) fun hc374 => ?_
 exact en rfl fun a w hf hO hm => ⟨i371 == 0, hf.sel rfl, hO, hm⟩
 exact en rfl fun a w hf hO hm => ⟨false, hf.sel rfl, hO, hm⟩
 exact en rfl fun a w hf hO hm => ⟨false, hf.sel rfl, hO, hm⟩
 rintro a w ⟨t375, hf, hO, hm⟩
 rw [z7] at hm
 refine S.co tb ?_ hf hO hm
 refine br rfl (fun hc376 => ?_) fun hc376 => ?_
 refine rw_ rfl fun a w hf hO hm => ?_
 obtain ⟨x379, hx379, hm⟩ := ob hm
 obtain ⟨b380, o381, hix379, hSx379, hAx379⟩ := zdc (enc := zk) (sz := 1) (xs := r346) 31 Tryz.underlying31 zf4 (by decide) (fun _ => rfl) hO (i := 0) rfl hx379
 refine zcv (zS hix379 hf rfl rfl) rfl hf rfl rfl fun a hf => ?_
 refine S.op tb ?_ hf hO hm
 refine vl rfl rfl (fun a w hf hO => zd (o := 0) zep (hSx379 _ (hO.rowSees (i := 0) rfl)) rfl hf rfl) ?_
 refine rw_ rfl fun a w hf hO hm => ?_
 obtain ⟨r382, hr382, hm⟩ := ob hm
 have hch387 := (show Dk.Own w0 [] _ ([.blk b313 [int i351, int i352, .slice p353 l355.length c354, int i356, .bool t357, int i358, .bool t359, int i360, str s361, str s362, int i363, str s364, int i365, .slice p366 l368.length c367] 61, .row (.slice p353 l355.length c354) 5 1 l355.length (cells zb l355), .row (.slice p366 l368.length c367) 69 2 l368.length (cells za l368)] ++ [.row (.slice p347 r346.length c348) 9 1 r346.length (cells zk r346), .blk b216 [int r338.2.2.2.f_kind, int r338.2.2.2.f_limit, .slice p339 r338.2.2.2.f_buf.length c340, int r338.2.2.2.f_from, .bool r338.2.2.2.f_took, int r338.2.2.2.f_bad, .bool r338.2.2.2.f_whole, int r338.2.2.2.f_got.Kind, str r338.2.2.2.f_got.Method, str r338.2.2.2.f_got.Target, int r338.2.2.2.f_got.Code, str r338.2.2.2.f_got.Reason, int r338.2.2.2.f_got.Minor, .slice p341 r338.2.2.2.f_got.Fields.length c342] 61, .row (.slice p339 r338.2.2.2.f_buf.length c340) 5 1 r338.2.2.2.f_buf.length (cells zb r338.2.2.2.f_buf), .row (.slice p341 r338.2.2.2.f_got.Fields.length c342) 69 2 r338.2.2.2.f_got.Fields.length (cells za r338.2.2.2.f_got.Fields), .shr x_a2_p0 (cells zb x_a2)]) from hO.choose [4, 5, 6, 0, 1, 2, 3, 7] rfl)
 have hfar387 := Dk.Own.far hch387 rfl hF hG.size
 have hlend387 := hch387.lend (S := []) rfl trivial
 have hcl387 := zaN ((⟨i351, i352, l355, i356, t357, i358, t359, (⟨i360, s361, s362, i363, s364, i365, l368⟩ : api_Head)⟩ : accum_Accum)) x379 r382 _ (hG.own hF hO) hfar387 hlend387 hr382
 refine zi (zj zi2 hf (vs := [ptr b313 0, str x379]) rfl) rfl hf rfl rfl (hcl387) ?_
 rintro e w' ⟨p383, c384, p385, c386, he, hO'⟩
 refine ⟨_, he, fun a hf => ?_⟩
 have hO := hch387.back rfl hO' rfl
 refine S.op tb ?_ hf hO hm
 refine bi rfl fun i389 hi389 => ?_
 refine bi rfl fun i391 hi391 => ?_
 exact en rfl fun a w hf hO hm => ⟨_, Nat.lt_succ_self _, r382.2.2.2.f_kind, r382.2.2.2.f_limit, p383, c384, r382.2.2.2.f_buf, r382.2.2.2.f_from, r382.2.2.2.f_took, r382.2.2.2.f_bad, r382.2.2.2.f_whole, r382.2.2.2.f_got.Kind, r382.2.2.2.f_got.Method, r382.2.2.2.f_got.Target, r382.2.2.2.f_got.Code, r382.2.2.2.f_got.Reason, r382.2.2.2.f_got.Minor, p385, c386, r382.2.2.2.f_got.Fields, i389, r382.2.1, r382.2.2.1, i391, hf.sel rfl, (hO.choose [3, 4, 5, 6, 0, 1, 2, 7] rfl), hm⟩
 exact en rfl fun a w hf hO hm => ⟨i369, t370, i371, i351, i352, p353, c354, l355, i356, t357, i358, t359, i360, s361, s362, i363, s364, i365, p366, c367, l368, hf.sel rfl, hO, hm⟩
 rintro a w ⟨i392, t393, i394, i395, i396, p397, c398, l399, i400, t401, i402, t403, i404, s405, s406, i407, s408, i409, p410, c411, l412, hf, hO, hm⟩
 rw [zbd] at hm
 refine S.co tb ?_ hf hO hm
 refine rw_ rfl fun a w hf hO hm => ?_
 obtain ⟨r413, hr413, hm⟩ := ob hm
 refine zi (zj zjW hf (vs := [ptr b216 0]) rfl) rfl hf rfl rfl (zbr r338.2.2.2 r413 _ (hG.own hF hO).1 (hO.blkSees (i := 1) rfl) (hO.rowSees (i := 2) rfl) (hO.rowCap (i := 2) rfl) (hO.rowSees (i := 3) rfl) (hO.rowCap (i := 3) rfl) hr413) ?_
 rintro e w' ⟨p414, c415, he, hO'⟩
 refine ⟨_, he, fun a hf => ?_⟩
 have hO := hO.call hO' (by simp [Res.shared])
 refine S.op tb ?_ hf hO hm
 refine rw_ rfl fun a w hf hO hm => ?_
 refine zn zcs hf rfl hO fun a b416 w hf hO => ?_
 have hO := hO.nilRow 69 2
 refine S.op tb ?_ hf hO hm
 refine rw_ rfl fun a w hf hO hm => ?_
 refine ze (i := 1) (n := 7) zo rfl rfl rfl (by simp [Value.oneCell']) hf rfl rfl hO fun w hO => ?_
 refine S.op tb ?_ hf hO hm
 refine rw_ rfl fun a w hf hO hm => ?_
 obtain ⟨r418, hr418, hm⟩ := ob hm
 refine zi (zj zjW hf (vs := [ptr b313 0]) rfl) rfl hf rfl rfl (zbr ((⟨i395, i396, l399, i400, t401, i402, t403, (⟨i404, s405, s406, i407, s408, i409, l412⟩ : api_Head)⟩ : accum_Accum)) r418 _ (hG.own hF hO).1 (hO.blkSees (i := 7) rfl) (hO.rowSees (i := 8) rfl) (hO.rowCap (i := 8) rfl) (hO.rowSees (i := 9) rfl) (hO.rowCap (i := 9) rfl) hr418) ?_
 rintro e w' ⟨p419, c420, he, hO'⟩
 refine ⟨_, he, fun a hf => ?_⟩
 have hO := hO.call hO' (by simp [Res.shared])
 refine S.op tb ?_ hf hO hm
 refine rw_ rfl fun a w hf hO hm => ?_
 refine zn zcs hf rfl hO fun a b421 w hf hO => ?_
 have hO := hO.nilRow 69 2
 refine S.op tb ?_ hf hO hm
 refine rw_ rfl fun a w hf hO hm => ?_
 refine ze (i := 1) (n := 7) zo rfl rfl rfl (by simp [Value.oneCell']) hf rfl rfl hO fun w hO => ?_
 refine S.op tb ?_ hf hO hm
 refine jn 1 (fun a w => ∃ (t430 : Bool), Fits 149 [(0, int x_a0), (1, str s7), (11, int r338.1), (12, .bool r338.2.1), (20, ptr b416 0), (129, .bool t430)] a ∧ Dk.Own w0 [] w [.row (.slice none 0 0) 69 2 0 (cells za []), .blk b421 [int r418.1.Kind, str r418.1.Method, str r418.1.Target, int r418.1.Code, str r418.1.Reason, int r418.1.Minor, .slice p419 r418.1.Fields.length c420] 35, .row (.slice p419 r418.1.Fields.length c420) 69 2 r418.1.Fields.length (cells za r418.1.Fields), .row (.slice none 0 0) 69 2 0 (cells za []), .blk b416 [int r413.1.Kind, str r413.1.Method, str r413.1.Target, int r413.1.Code, str r413.1.Reason, int r413.1.Minor, .slice p414 r413.1.Fields.length c415] 35, .row (.slice p414 r413.1.Fields.length c415) 69 2 r413.1.Fields.length (cells za r413.1.Fields), .row (.slice p347 r346.length c348) 9 1 r346.length (cells zk r346), .blk b216 [int r338.2.2.2.f_kind, int r338.2.2.2.f_limit, .slice p339 r338.2.2.2.f_buf.length c340, int r338.2.2.2.f_from, .bool r338.2.2.2.f_took, int r338.2.2.2.f_bad, .bool r338.2.2.2.f_whole, int r338.2.2.2.f_got.Kind, str r338.2.2.2.f_got.Method, str r338.2.2.2.f_got.Target, int r338.2.2.2.f_got.Code, str r338.2.2.2.f_got.Reason, int r338.2.2.2.f_got.Minor, .slice p341 r338.2.2.2.f_got.Fields.length c342] 61, .row (.slice p339 r338.2.2.2.f_buf.length c340) 5 1 r338.2.2.2.f_buf.length (cells zb r338.2.2.2.f_buf), .row (.slice p341 r338.2.2.2.f_got.Fields.length c342) 69 2 r338.2.2.2.f_got.Fields.length (cells za r338.2.2.2.f_got.Fields), .blk b313 [int i395, int i396, .slice p397 l399.length c398, int i400, .bool t401, int i402, .bool t403, int i404, str s405, str s406, int i407, str s408, int i409, .slice p410 l412.length c411] 61, .row (.slice p397 l399.length c398) 5 1 l399.length (cells zb l399), .row (.slice p410 l412.length c411) 69 2 l412.length (cells za l412), .shr x_a2_p0 (cells zb x_a2)] ∧ zD x_a0 s7 r338 r413 t430 = some R) rfl ?_ ?_
 refine br rfl (fun hc423 => ?_) fun hc423 => ?_
 exact en rfl fun a w hf hO hm => ⟨true, hf.sel rfl, hO, hm⟩
 refine vl rfl rfl (fun a w hf hO => zdu Tryz.underlying4 hf rfl rfl) ?_
 refine br rfl (fun hc424 => ?_) fun hc424 => ?_
 exact en rfl fun a w hf hO hm => ⟨true, hf.sel rfl, hO, hm⟩
 refine br rfl (fun hc425 => ?_) fun hc425 => ?_
 exact en rfl fun a w hf hO hm => ⟨true, hf.sel rfl, hO, hm⟩
 refine vl rfl rfl (fun a w hf hO => zdu Tryz.underlying4 hf rfl rfl) ?_
 refine br rfl (fun hc426 => ?_) fun hc426 => ?_
 exact en rfl fun a w hf hO hm => ⟨true, hf.sel rfl, hO, hm⟩
 refine vl rfl rfl (fun a w hf hO => zm (o := 0) (vs := [int r413.1.Kind, str r413.1.Method, str r413.1.Target, int r413.1.Code, str r413.1.Reason, int r413.1.Minor, .slice p414 r413.1.Fields.length c415]) zak zo (hO.blkSees (i := 4) rfl) rfl rfl hf rfl) ?_
 refine vl rfl rfl (fun a w hf hO => zm (o := 0) (vs := [int r418.1.Kind, str r418.1.Method, str r418.1.Target, int r418.1.Code, str r418.1.Reason, int r418.1.Minor, .slice p419 r418.1.Fields.length c420]) zak zo (hO.blkSees (i := 1) rfl) rfl rfl hf rfl) ?_
 refine cl zkw rfl (fun r427 w hr427 hO => zbH r413.1 r418.1 r427 _ (hG.own hF hO).1 (hO.rowSees (i := 5) rfl) (hO.rowCap (i := 5) rfl) (hO.rowSees (i := 2) rfl) (hO.rowCap (i := 2) rfl) hr427) fun r427 hr427 => ?_
 refine br rfl (fun hc428 => ?_) fun hc428 => ?_
 exact en rfl fun a w hf hO hm => ⟨true, hf.sel rfl, hO, hm⟩
 refine br rfl (fun hc429 => ?_) fun hc429 => ?_
 exact en rfl fun a w hf hO hm => ⟨!(r338.2.2.1 == 0), hf.sel rfl, hO, hm⟩
 exact en rfl fun a w hf hO hm => ⟨false, hf.sel rfl, hO, hm⟩
 rintro a w ⟨t430, hf, hO, hm⟩
 rw [zD] at hm
 refine S.co tb ?_ hf hO hm
 refine br rfl (fun hc431 => ?_) fun hc431 => ?_
 exact rt Tryz.results3 rfl
 refine bi rfl fun s434 hs434 => ?_
 refine rw_ rfl fun a w hf hO hm => ?_
 obtain ⟨r435, hr435, hm⟩ := ob hm
 refine zi (zj c_14 hf (vs := [int x_a0, str s434, int 2000]) rfl) rfl hf rfl rfl (zdq x_a0 s434 2000 r435 _ (hG.own hF hO) hr435) ?_
 rintro e w' ⟨p436, c437, he, hO'⟩
 refine ⟨_, he, fun a hf => ?_⟩
 have hO := hO.call hO' (by simp [Res.shared])
 refine S.op tb ?_ hf hO hm
 refine rw_ rfl fun a w hf hO hm => ?_
 refine zn zcs hf rfl hO fun a b438 w hf hO => ?_
 have hO := hO.nilRow 69 2
 refine S.op tb ?_ hf hO hm
 refine rw_ rfl fun a w hf hO hm => ?_
 refine ze (i := 1) (n := 7) zo rfl rfl rfl (by simp [Value.oneCell']) hf rfl rfl hO fun w hO => ?_
 refine S.op tb ?_ hf hO hm
 refine jn 0 (fun a w => ∃ (t443 : Bool), Fits 149 [(6, .bool t443)] a ∧ Dk.Own w0 [] w [.row (.slice none 0 0) 69 2 0 (cells za []), .blk b438 [int r435.1.Kind, str r435.1.Method, str r435.1.Target, int r435.1.Code, str r435.1.Reason, int r435.1.Minor, .slice p436 r435.1.Fields.length c437] 35, .row (.slice p436 r435.1.Fields.length c437) 69 2 r435.1.Fields.length (cells za r435.1.Fields), .row (.slice none 0 0) 69 2 0 (cells za []), .blk b421 [int r418.1.Kind, str r418.1.Method, str r418.1.Target, int r418.1.Code, str r418.1.Reason, int r418.1.Minor, .slice p419 r418.1.Fields.length c420] 35, .row (.slice p419 r418.1.Fields.length c420) 69 2 r418.1.Fields.length (cells za r418.1.Fields), .row (.slice none 0 0) 69 2 0 (cells za []), .blk b416 [int r413.1.Kind, str r413.1.Method, str r413.1.Target, int r413.1.Code, str r413.1.Reason, int r413.1.Minor, .slice p414 r413.1.Fields.length c415] 35, .row (.slice p414 r413.1.Fields.length c415) 69 2 r413.1.Fields.length (cells za r413.1.Fields), .row (.slice p347 r346.length c348) 9 1 r346.length (cells zk r346), .blk b216 [int r338.2.2.2.f_kind, int r338.2.2.2.f_limit, .slice p339 r338.2.2.2.f_buf.length c340, int r338.2.2.2.f_from, .bool r338.2.2.2.f_took, int r338.2.2.2.f_bad, .bool r338.2.2.2.f_whole, int r338.2.2.2.f_got.Kind, str r338.2.2.2.f_got.Method, str r338.2.2.2.f_got.Target, int r338.2.2.2.f_got.Code, str r338.2.2.2.f_got.Reason, int r338.2.2.2.f_got.Minor, .slice p341 r338.2.2.2.f_got.Fields.length c342] 61, .row (.slice p339 r338.2.2.2.f_buf.length c340) 5 1 r338.2.2.2.f_buf.length (cells zb r338.2.2.2.f_buf), .row (.slice p341 r338.2.2.2.f_got.Fields.length c342) 69 2 r338.2.2.2.f_got.Fields.length (cells za r338.2.2.2.f_got.Fields), .blk b313 [int i395, int i396, .slice p397 l399.length c398, int i400, .bool t401, int i402, .bool t403, int i404, str s405, str s406, int i407, str s408, int i409, .slice p410 l412.length c411] 61, .row (.slice p397 l399.length c398) 5 1 l399.length (cells zb l399), .row (.slice p410 l412.length c411) 69 2 l412.length (cells za l412), .shr x_a2_p0 (cells zb x_a2)] ∧ zaD t443 = some R) rfl ?_ ?_
 refine br rfl (fun hc440 => ?_) fun hc440 => ?_
 exact en rfl fun a w hf hO hm => ⟨true, hf.sel rfl, hO, hm⟩
 refine br rfl (fun hc441 => ?_) fun hc441 => ?_
 refine vl rfl rfl (fun a w hf hO => zm (o := 0) (vs := [int r435.1.Kind, str r435.1.Method, str r435.1.Target, int r435.1.Code, str r435.1.Reason, int r435.1.Minor, .slice p436 r435.1.Fields.length c437]) zak zo (hO.blkSees (i := 1) rfl) rfl rfl hf rfl) ?_
 refine vl rfl rfl (fun a w hf hO => zm (o := 0) (vs := [int r413.1.Kind, str r413.1.Method, str r413.1.Target, int r413.1.Code, str r413.1.Reason, int r413.1.Minor, .slice p414 r413.1.Fields.length c415]) zak zo (hO.blkSees (i := 7) rfl) rfl rfl hf rfl) ?_
 refine cl zkw rfl (fun r442 w hr442 hO => zbH r435.1 r413.1 r442 _ (hG.own hF hO).1 (hO.rowSees (i := 2) rfl) (hO.rowCap (i := 2) rfl) (hO.rowSees (i := 8) rfl) (hO.rowCap (i := 8) rfl) hr442) fun r442 hr442 => ?_
 exact en rfl fun a w hf hO hm => ⟨r442, hf.sel rfl, hO, hm⟩
 exact en rfl fun a w hf hO hm => ⟨false, hf.sel rfl, hO, hm⟩
 rintro a w ⟨t443, hf, hO, hm⟩
 rw [zaD] at hm
 refine S.co tb ?_ hf hO hm
 exact rt Tryz.results3 rfl

end Go.Proofs
