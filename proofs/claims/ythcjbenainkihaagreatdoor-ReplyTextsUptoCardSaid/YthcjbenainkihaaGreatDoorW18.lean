/-
  Walks, written by a program (wip/gen): what its model says, the function returns; what was there before is as it was.
  Walks, written by a program (wip/gen): what its model says, the function returns; what was there before is as it was.
-/
import Derived.Test.YthcjbenainkihaaGreatDoorLib
import Derived.Test.YthcjbenainkihaaGreatDoorW9
import Derived.Test.YthcjbenainkihaaGreatDoorW12
import Derived.Test.YthcjbenainkihaaGreatDoorW5
section
set_option linter.unusedVariables false
set_option linter.unusedSimpArgs false
set_option maxRecDepth 100000
namespace Go.Proofs
open Go.Dk Go.Dm Go.RowKit

set_option maxHeartbeats 1000000 in
theorem zgZ (x_a0 : Int) (x_a1 : Str) (x_a2 : Str) (x_a3 : Int) (x_a4 : Bool) (R : api_Message × Int × Int) (w0 : World) (hG : zH w0) (hm : zI x_a0 x_a1 x_a2 x_a3 x_a4 = some R) :
    Calls Tryz.prog 21 #[int x_a0, str x_a1, str x_a2, int x_a3, .bool x_a4] w0 fun e w' => ∃ (p0 : Option Addr) (c0 : Nat) (p1 : Option Addr) (c1 : Nat), e = .returned (.tuple #[.agg #[int R.1.Head.Kind, str R.1.Head.Method, str R.1.Head.Target, int R.1.Head.Code, str R.1.Head.Reason, int R.1.Head.Minor, .slice p0 R.1.Head.Fields.length c0, int R.1.Frame.Kind, int R.1.Frame.N, str R.1.Body, .slice p1 R.1.Trailers.length c1], int R.2.1, int R.2.2]) ∧ Dk.Own w0 [] w' [.row (.slice p0 R.1.Head.Fields.length c0) 107 2 R.1.Head.Fields.length (cells za R.1.Head.Fields), .row (.slice p1 R.1.Trailers.length c1) 107 2 R.1.Trailers.length (cells za R.1.Trailers)] := by
 rw [zI] at hm
 have hF : zo [] := zf
 have hO : Dk.Own w0 [] w0 [] := Dk.Own.refl w0
 refine S.enter tb Tryz.func21 rfl Tryz.ntmps21 rfl ?_ hO hm
 refine al zkD rfl fun b1 => ?_
 refine nl 107 2 ?_
 refine nl 107 2 ?_
 refine jn 0 (fun a w => (∃ (i11 : Int), Fits 97 [(1, str x_a1), (2, str x_a2), (3, int x_a3), (4, .bool x_a4), (10, ptr b1 0), (13, .pointer none), (14, int i11)] a ∧ Dk.Own w0 [] w [.row (.slice none 0 0) 107 2 0 (cells za []), .row (.slice none 0 0) 107 2 0 (cells za []), .blk b1 [int 0, str [], str [], int 0, str [], int 0, .slice none 0 0, int 0, int 0, str [], .slice none 0 0] 36] ∧ zeR x_a1 x_a2 x_a3 x_a4 i11 = some R) ∨ (∃ (b119 : Nat) (i120 : Int) (i121 : Int) (i122 : Int) (p123 : Option Addr) (c124 : Nat) (l125 : List UInt8) (i126 : Int) (t127 : Bool) (i128 : Int) (t129 : Bool) (i130 : Int) (s131 : Str) (s132 : Str) (i133 : Int) (s134 : Str) (i135 : Int) (p136 : Option Addr) (c137 : Nat) (l138 : List api_Field), Fits 97 [(1, str x_a1), (2, str x_a2), (3, int x_a3), (4, .bool x_a4), (10, ptr b1 0), (13, ptr b119 0), (14, int i120)] a ∧ Dk.Own w0 [] w [.blk b119 [int i121, int i122, .slice p123 l125.length c124, int i126, .bool t127, int i128, .bool t129, int i130, str s131, str s132, int i133, str s134, int i135, .slice p136 l138.length c137] 143, .row (.slice p123 l125.length c124) 5 1 l125.length (cells zc l125), .row (.slice p136 l138.length c137) 107 2 l138.length (cells za l138), .row (.slice none 0 0) 107 2 0 (cells za []), .row (.slice none 0 0) 107 2 0 (cells za []), .blk b1 [int 0, str [], str [], int 0, str [], int 0, .slice none 0 0, int 0, int 0, str [], .slice none 0 0] 36] ∧ za5 x_a1 x_a2 x_a3 x_a4 i120 i121 i122 l125 i126 t127 i128 t129 i130 s131 s132 i133 s134 i135 l138 = some R)) rfl ?_ ?_
 refine rw_ rfl fun a w hf hO hm => ?_
 obtain ⟨r3, hr3, hm⟩ := ob hm
 refine zg (zi c_45 hf (vs := [int x_a0, int x_a3]) rfl) rfl hf rfl rfl (zlG x_a0 x_a3 r3 _ (hG.own hF hO).1 hr3) ?_
 rintro e w' hpost4
 rcases hopt4 : r3.1 with _ | x5
 have hm := zkn hopt4 hm
 obtain ⟨he, hb⟩ := zi0 hopt4 hpost4
 refine ⟨_, he, fun a hf => ?_⟩
 have hO := hO.grow hb
 refine S.op tb ?_ hf hO hm
 refine eo rfl fun a w hf hO hm => ?_
 exact Or.inl ⟨r3.2, hf.sel rfl, hO, hm⟩
 have hm := zko hopt4 hm
 obtain ⟨b6, p7, c8, p9, c10, he, hO'⟩ := zi1 hopt4 hpost4
 refine ⟨_, he, fun a hf => ?_⟩
 have hO := hO.call hO' (by simp [Res.shared])
 refine S.op tb ?_ hf hO hm
 refine eo rfl fun a w hf hO hm => ?_
 exact Or.inr (⟨b6, r3.2, x5.f_kind, x5.f_limit, p7, c8, x5.f_buf, x5.f_from, x5.f_took, x5.f_bad, x5.f_whole, x5.f_got.Kind, x5.f_got.Method, x5.f_got.Target, x5.f_got.Code, x5.f_got.Reason, x5.f_got.Minor, p9, c10, x5.f_got.Fields, hf.sel rfl, hO, hm⟩)
 rintro a w (⟨i11, hf, hO, hm⟩ | ⟨b119, i120, i121, i122, p123, c124, l125, i126, t127, i128, t129, i130, s131, s132, i133, s134, i135, p136, c137, l138, hf, hO, hm⟩)
 rw [zeR] at hm
 refine S.co tb ?_ hf hO hm
 refine br rfl (fun hc13 => ?_) fun hc13 => ?_
 refine vl rfl rfl (fun a w hf hO => zl (vs := []) (v := .agg #[int 0, str [], str [], int 0, str [], int 0, .slice none 0 0, int 0, int 0, str [], .slice none 0 0]) hf rfl (by kernel_rfl)) ?_
 refine st 2 rfl rfl ?_
 refine nl 107 2 ?_
 refine nl 107 2 ?_
 refine re_ rfl fun a w hf hO hm => ?_
 obtain rfl := Option.some.inj hm
 exact zb Tryz.results21 hf (.cell rfl (ze (n := 11) (vs := [int 0, str [], str [], int 0, str [], int 0, .slice none 0 0, int 0, int 0, str [], .slice none 0 0]) zcL zcN rfl ((hO.blkSees (i := 4) rfl).cells (o := 0) (n := 11) rfl)) (.tmp rfl (.tmp rfl .nil))) ⟨none, 0, none, 0, rfl, (hO.choose [1, 0] rfl)⟩
 refine cl c_46 rfl (fun r16 w hr16 hO => zg4 x_a2 r16 _ (hG.own hF hO) hr16) fun r16 hr16 => ?_
 refine br rfl (fun hc19 => ?_) fun hc19 => ?_
 refine vl rfl rfl (fun a w hf hO => zl (vs := []) (v := .agg #[int 0, str [], str [], int 0, str [], int 0, .slice none 0 0, int 0, int 0, str [], .slice none 0 0]) hf rfl (by kernel_rfl)) ?_
 refine st 2 rfl rfl ?_
 refine nl 107 2 ?_
 refine nl 107 2 ?_
 refine re_ rfl fun a w hf hO hm => ?_
 obtain rfl := Option.some.inj hm
 exact zb Tryz.results21 hf (.cell rfl (ze (n := 11) (vs := [int 0, str [], str [], int 0, str [], int 0, .slice none 0 0, int 0, int 0, str [], .slice none 0 0]) zcL zcN rfl ((hO.blkSees (i := 4) rfl).cells (o := 0) (n := 11) rfl)) (.tmp rfl (.tmp rfl .nil))) ⟨none, 0, none, 0, rfl, (hO.choose [1, 0] rfl)⟩
 refine br rfl (fun hc22 => ?_) fun hc22 => ?_
 refine vl rfl rfl (fun a w hf hO => zl (vs := []) (v := .agg #[int 0, str [], str [], int 0, str [], int 0, .slice none 0 0, int 0, int 0, str [], .slice none 0 0]) hf rfl (by kernel_rfl)) ?_
 refine st 2 rfl rfl ?_
 refine nl 107 2 ?_
 refine nl 107 2 ?_
 refine re_ rfl fun a w hf hO hm => ?_
 obtain rfl := Option.some.inj hm
 exact zb Tryz.results21 hf (.cell rfl (ze (n := 11) (vs := [int 0, str [], str [], int 0, str [], int 0, .slice none 0 0, int 0, int 0, str [], .slice none 0 0]) zcL zcN rfl ((hO.blkSees (i := 4) rfl).cells (o := 0) (n := 11) rfl)) (.tmp rfl (.tmp rfl .nil))) ⟨none, 0, none, 0, rfl, (hO.choose [1, 0] rfl)⟩
 refine rw_ rfl fun a w hf hO hm => ?_
 obtain ⟨r25, hr25, hm⟩ := ob hm
 refine zg (zi c_47 hf (vs := [.pointer none]) rfl) rfl hf rfl rfl (zg5 r25 _ (hG.own hF hO).1 hr25) ?_
 rintro e w' ⟨p26, c27, he, hO'⟩
 refine ⟨_, he, fun a hf => ?_⟩
 have hO := hO.call hO' (by simp [Res.shared])
 refine S.op tb ?_ hf hO hm
 refine al zfR rfl fun b28 => ?_
 refine nl 107 2 ?_
 refine st 1 rfl rfl ?_
 refine ld 1 rfl rfl ?_
 refine cl c_39 rfl (fun r30 w hr30 hO => zfd x_a1 r25.1 r30 _ (hG.own hF hO).1 (hO.rowSees (i := 2) rfl) (hO.rowCap (i := 2) rfl) hr30) fun r30 hr30 => ?_
 refine al ziy rfl fun b31 => ?_
 refine st 0 rfl rfl ?_
 refine br rfl (fun hc34 => ?_) fun hc34 => ?_
 refine vl rfl rfl (fun a w hf hO => zl (vs := []) (v := .agg #[int 0, str [], str [], int 0, str [], int 0, .slice none 0 0, int 0, int 0, str [], .slice none 0 0]) hf rfl (by kernel_rfl)) ?_
 refine st 6 rfl rfl ?_
 refine nl 107 2 ?_
 refine nl 107 2 ?_
 refine re_ rfl fun a w hf hO hm => ?_
 obtain rfl := Option.some.inj hm
 exact zb Tryz.results21 hf (.cell rfl (ze (n := 11) (vs := [int 0, str [], str [], int 0, str [], int 0, .slice none 0 0, int 0, int 0, str [], .slice none 0 0]) zcL zcN rfl ((hO.blkSees (i := 8) rfl).cells (o := 0) (n := 11) rfl)) (.tmp rfl (.tmp rfl .nil))) ⟨none, 0, none, 0, rfl, (hO.choose [1, 0] rfl)⟩
 refine ld 2 rfl rfl ?_
 refine ld 0 rfl rfl ?_
 refine vl rfl rfl (fun a w hf hO => zl (vs := [(0, .agg #[int r25.1.Kind, str r25.1.Method, str r25.1.Target, int r25.1.Code, str r25.1.Reason, int r25.1.Minor, .slice p26 r25.1.Fields.length c27]), (1, .agg #[int r30.1.Kind, int r30.1.N])]) (v := .agg #[int r25.1.Kind, str r25.1.Method, str r25.1.Target, int r25.1.Code, str r25.1.Reason, int r25.1.Minor, .slice p26 r25.1.Fields.length c27, int r30.1.Kind, int r30.1.N, str [], .slice none 0 0]) hf rfl (by kernel_rfl)) ?_
 refine vl rfl rfl (fun a w hf hO => zl (vs := [(1, .agg #[int r25.1.Kind, str r25.1.Method, str r25.1.Target, int r25.1.Code, str r25.1.Reason, int r25.1.Minor, .slice p26 r25.1.Fields.length c27, int r30.1.Kind, int r30.1.N, str [], .slice none 0 0])]) (v := .agg #[.pointer none, int r25.1.Kind, str r25.1.Method, str r25.1.Target, int r25.1.Code, str r25.1.Reason, int r25.1.Minor, .slice p26 r25.1.Fields.length c27, int r30.1.Kind, int r30.1.N, str [], .slice none 0 0]) hf rfl (by kernel_rfl)) ?_
 refine bo rfl fun b37 => ?_
 refine nl 107 2 ?_
 refine jn 0 (fun a w => (Fits 97 [(2, str x_a2), (4, .bool x_a4), (10, ptr b1 0), (15, int r16.1), (20, ptr b37 0)] a ∧ Dk.Own w0 [] w [.row (.slice none 0 0) 107 2 0 (cells za []), .blk b37 [.pointer none, int r25.1.Kind, str r25.1.Method, str r25.1.Target, int r25.1.Code, str r25.1.Reason, int r25.1.Minor, .slice p26 r25.1.Fields.length c27, int r30.1.Kind, int r30.1.N, str [], .slice none 0 0] 96, .blk b31 [int r30.1.Kind, int r30.1.N] 34, .row (.slice none 0 0) 107 2 0 (cells za []), .blk b28 [int r25.1.Kind, str r25.1.Method, str r25.1.Target, int r25.1.Code, str r25.1.Reason, int r25.1.Minor, .slice p26 r25.1.Fields.length c27] 31, .row (.slice p26 r25.1.Fields.length c27) 107 2 r25.1.Fields.length (cells za r25.1.Fields), .row (.slice none 0 0) 107 2 0 (cells za []), .row (.slice none 0 0) 107 2 0 (cells za []), .blk b1 [int 0, str [], str [], int 0, str [], int 0, .slice none 0 0, int 0, int 0, str [], .slice none 0 0] 36] ∧ zeO x_a2 x_a4 r16 r25 r30 = some R) ∨ (∃ (b63 : Nat) (i64 : Int) (i65 : Int) (i66 : Int) (t67 : Bool) (t68 : Bool) (i69 : Int) (i70 : Int) (p71 : Option Addr) (c72 : Nat) (l73 : List UInt8) (i74 : Int) (i75 : Int) (i76 : Int) (p77 : Option Addr) (c78 : Nat) (l79 : List api_Field) (b80 : Nat), Fits 97 [(2, str x_a2), (4, .bool x_a4), (10, ptr b1 0), (15, int r16.1), (20, ptr b37 0)] a ∧ Dk.Own w0 [] w [.blk b80 [ptr b63 0, int i64, int i65, int i66, .bool t67, .bool t68] 150, .blk b63 [int i69, int i70, .slice p71 l73.length c72, int i74, int i75, int i76, .slice p77 l79.length c78] 194, .row (.slice p71 l73.length c72) 5 1 l73.length (cells zc l73), .row (.slice p77 l79.length c78) 107 2 l79.length (cells za l79), .row (.slice none 0 0) 107 2 0 (cells za []), .blk b37 [ptr b80 0, int r25.1.Kind, str r25.1.Method, str r25.1.Target, int r25.1.Code, str r25.1.Reason, int r25.1.Minor, .slice p26 r25.1.Fields.length c27, int r30.1.Kind, int r30.1.N, str [], .slice none 0 0] 96, .blk b31 [int r30.1.Kind, int r30.1.N] 34, .row (.slice none 0 0) 107 2 0 (cells za []), .blk b28 [int r25.1.Kind, str r25.1.Method, str r25.1.Target, int r25.1.Code, str r25.1.Reason, int r25.1.Minor, .slice p26 r25.1.Fields.length c27] 31, .row (.slice p26 r25.1.Fields.length c27) 107 2 r25.1.Fields.length (cells za r25.1.Fields), .row (.slice none 0 0) 107 2 0 (cells za []), .row (.slice none 0 0) 107 2 0 (cells za []), .blk b1 [int 0, str [], str [], int 0, str [], int 0, .slice none 0 0, int 0, int 0, str [], .slice none 0 0] 36] ∧ zeP x_a2 x_a4 r16 r25 r30 i64 i65 i66 t67 t68 i69 i70 l73 i74 i75 i76 l79 = some R) ∨ (∃ (i99 : Int) (i100 : Int) (i101 : Int) (t102 : Bool) (t103 : Bool) (b104 : Nat), Fits 97 [(2, str x_a2), (4, .bool x_a4), (10, ptr b1 0), (15, int r16.1), (20, ptr b37 0)] a ∧ Dk.Own w0 [] w [.blk b104 [.pointer none, int i99, int i100, int i101, .bool t102, .bool t103] 150, .row (.slice none 0 0) 107 2 0 (cells za []), .blk b37 [ptr b104 0, int r25.1.Kind, str r25.1.Method, str r25.1.Target, int r25.1.Code, str r25.1.Reason, int r25.1.Minor, .slice p26 r25.1.Fields.length c27, int r30.1.Kind, int r30.1.N, str [], .slice none 0 0] 96, .blk b31 [int r30.1.Kind, int r30.1.N] 34, .row (.slice none 0 0) 107 2 0 (cells za []), .blk b28 [int r25.1.Kind, str r25.1.Method, str r25.1.Target, int r25.1.Code, str r25.1.Reason, int r25.1.Minor, .slice p26 r25.1.Fields.length c27] 31, .row (.slice p26 r25.1.Fields.length c27) 107 2 r25.1.Fields.length (cells za r25.1.Fields), .row (.slice none 0 0) 107 2 0 (cells za []), .row (.slice none 0 0) 107 2 0 (cells za []), .blk b1 [int 0, str [], str [], int 0, str [], int 0, .slice none 0 0, int 0, int 0, str [], .slice none 0 0] 36] ∧ zeQ x_a2 x_a4 r16 r25 r30 i99 i100 i101 t102 t103 = some R)) rfl ?_ ?_
 refine ld 2 rfl rfl ?_
 refine rw_ rfl fun a w hf hO hm => ?_
 obtain ⟨r39, hr39, hm⟩ := ob hm
 refine zg (zi c_48 hf (vs := [.agg #[int r30.1.Kind, int r30.1.N], int x_a3]) rfl) rfl hf rfl rfl (zjO r30.1 x_a3 r39 _ (hG.own hF hO).1 hr39) ?_
 rintro e w' hpost40
 rcases hopt40 : r39.1 with _ | x41
 have hm := zkn hopt40 hm
 obtain ⟨he, hb⟩ := zi0 hopt40 hpost40
 refine ⟨_, he, fun a hf => ?_⟩
 have hO := hO.grow hb
 refine S.op tb ?_ hf hO hm
 refine st 1 rfl rfl ?_
 refine eo rfl fun a w hf hO hm => ?_
 exact Or.inl ⟨hf.sel rfl, hO, hm⟩
 have hm := zko hopt40 hm
 have hpost40 := zi1 hopt40 hpost40
 rcases hbe40 : x41.1 with _ | _
 have hm := bE_f hbe40 hm
 obtain ⟨b48, he, hO'⟩ := bE_pf hbe40 hpost40
 refine ⟨_, he, fun a hf => ?_⟩
 have hO := hO.call hO' (by simp [Res.shared])
 refine S.op tb ?_ hf hO hm
 refine st 2 rfl rfl ?_
 refine eo rfl fun a w hf hO hm => ?_
 exact Or.inr (Or.inr (⟨x41.2.f_frame.Kind, x41.2.f_frame.N, x41.2.f_left, x41.2.f_done, x41.2.f_bad, b48, hf.sel rfl, hO, hm⟩))
 have hm := bE_t hbe40 hm
 obtain ⟨b42, b43, p44, c45, p46, c47, he, hO'⟩ := bE_pt hbe40 hpost40
 refine ⟨_, he, fun a hf => ?_⟩
 have hO := hO.call hO' (by simp [Res.shared])
 refine S.op tb ?_ hf hO hm
 refine st 5 rfl rfl ?_
 refine eo rfl fun a w hf hO hm => ?_
 exact Or.inr (Or.inl ⟨b43, x41.2.f_frame.Kind, x41.2.f_frame.N, x41.2.f_left, x41.2.f_done, x41.2.f_bad, x41.2.Decoder.f_limit, x41.2.Decoder.f_at, p44, c45, x41.2.Decoder.f_line, x41.2.Decoder.f_left, x41.2.Decoder.f_sum, x41.2.Decoder.f_spent, p46, c47, x41.2.Decoder.f_trailers, b42, hf.sel rfl, hO, hm⟩)
 rintro a w (⟨hf, hO, hm⟩ | ⟨b63, i64, i65, i66, t67, t68, i69, i70, p71, c72, l73, i74, i75, i76, p77, c78, l79, b80, hf, hO, hm⟩ | ⟨i99, i100, i101, t102, t103, b104, hf, hO, hm⟩)
 rw [zeO] at hm
 refine S.co tb ?_ hf hO hm
 refine bi rfl fun s49 hs49 => ?_
 refine rw_ rfl fun a w hf hO hm => ?_
 obtain ⟨r50, hr50, hm⟩ := ob hm
 have hch55 := (show Dk.Own w0 [] _ ([.blk b37 [.pointer none, int r25.1.Kind, str r25.1.Method, str r25.1.Target, int r25.1.Code, str r25.1.Reason, int r25.1.Minor, .slice p26 r25.1.Fields.length c27, int r30.1.Kind, int r30.1.N, str [], .slice none 0 0] 96, .row (.slice p26 r25.1.Fields.length c27) 107 2 r25.1.Fields.length (cells za r25.1.Fields), .row (.slice none 0 0) 107 2 0 (cells za [])] ++ [.blk b31 [int r30.1.Kind, int r30.1.N] 34, .row (.slice none 0 0) 107 2 0 (cells za []), .blk b28 [int r25.1.Kind, str r25.1.Method, str r25.1.Target, int r25.1.Code, str r25.1.Reason, int r25.1.Minor, .slice p26 r25.1.Fields.length c27] 31, .row (.slice none 0 0) 107 2 0 (cells za []), .row (.slice none 0 0) 107 2 0 (cells za []), .blk b1 [int 0, str [], str [], int 0, str [], int 0, .slice none 0 0, int 0, int 0, str [], .slice none 0 0] 36]) from hO.choose [1, 5, 0, 2, 3, 4, 6, 7, 8] rfl)
 have hfar55 := Dk.Own.far hch55 rfl hF hG.size
 have hlend55 := hch55.lend (S := []) rfl trivial
 have hcl55 := zcQ ((⟨default, (⟨r25.1, r30.1, [], []⟩ : api_Message)⟩ : message_reader)) s49 x_a4 r50 _ (hG.own hF hO).1 hfar55 hlend55 hr50
 refine zg (zi c_49 hf (vs := [ptr b37 0, str s49, .bool x_a4]) rfl) rfl hf rfl rfl (hcl55) ?_
 rintro e w' ⟨p51, c52, p53, c54, he, hO'⟩
 refine ⟨_, he, fun a hf => ?_⟩
 have hO := hch55.back rfl hO' rfl
 refine S.op tb ?_ hf hO hm
 refine br rfl (fun hc58 => ?_) fun hc58 => ?_
 refine vl rfl rfl (fun a w hf hO => zl (vs := []) (v := .agg #[int 0, str [], str [], int 0, str [], int 0, .slice none 0 0, int 0, int 0, str [], .slice none 0 0]) hf rfl (by kernel_rfl)) ?_
 refine st 8 rfl rfl ?_
 refine nl 107 2 ?_
 refine nl 107 2 ?_
 refine re_ rfl fun a w hf hO hm => ?_
 obtain rfl := Option.some.inj hm
 exact zb Tryz.results21 hf (.cell rfl (ze (n := 11) (vs := [int 0, str [], str [], int 0, str [], int 0, .slice none 0 0, int 0, int 0, str [], .slice none 0 0]) zcL zcN rfl ((hO.blkSees (i := 10) rfl).cells (o := 0) (n := 11) rfl)) (.tmp rfl (.tmp rfl .nil))) ⟨none, 0, none, 0, rfl, (hO.choose [1, 0] rfl)⟩
 refine ld 0 rfl rfl ?_
 refine bi rfl fun i61 hi61 => ?_
 refine st 8 rfl rfl ?_
 refine re_ rfl fun a w hf hO hm => ?_
 obtain rfl := Option.some.inj hm
 exact zb Tryz.results21 hf (.cell rfl (ze (n := 11) (vs := [int r50.2.2.f_m.Head.Kind, str r50.2.2.f_m.Head.Method, str r50.2.2.f_m.Head.Target, int r50.2.2.f_m.Head.Code, str r50.2.2.f_m.Head.Reason, int r50.2.2.f_m.Head.Minor, .slice p51 r50.2.2.f_m.Head.Fields.length c52, int r50.2.2.f_m.Frame.Kind, int r50.2.2.f_m.Frame.N, str r50.2.2.f_m.Body, .slice p53 r50.2.2.f_m.Trailers.length c54]) zcL zcN rfl ((hO.blkSees (i := 8) rfl).cells (o := 0) (n := 11) rfl)) (.tmp rfl (.tmp rfl .nil))) ⟨p51, c52, p53, c54, rfl, (hO.sub (.cons _ (.cons_cons _ (.cons_cons _ (.cons _ (.cons _ (.cons _ (.cons _ (.cons _ (.cons _ .slnil))))))))))⟩
 rw [zeP] at hm
 refine S.co tb ?_ hf hO hm
 refine bi rfl fun s81 hs81 => ?_
 refine rw_ rfl fun a w hf hO hm => ?_
 obtain ⟨r82, hr82, hm⟩ := ob hm
 have hch91 := (show Dk.Own w0 [] _ ([.blk b37 [ptr b80 0, int r25.1.Kind, str r25.1.Method, str r25.1.Target, int r25.1.Code, str r25.1.Reason, int r25.1.Minor, .slice p26 r25.1.Fields.length c27, int r30.1.Kind, int r30.1.N, str [], .slice none 0 0] 96, .blk b80 [ptr b63 0, int i64, int i65, int i66, .bool t67, .bool t68] 150, .blk b63 [int i69, int i70, .slice p71 l73.length c72, int i74, int i75, int i76, .slice p77 l79.length c78] 194, .row (.slice p71 l73.length c72) 5 1 l73.length (cells zc l73), .row (.slice p77 l79.length c78) 107 2 l79.length (cells za l79), .row (.slice p26 r25.1.Fields.length c27) 107 2 r25.1.Fields.length (cells za r25.1.Fields), .row (.slice none 0 0) 107 2 0 (cells za [])] ++ [.blk b31 [int r30.1.Kind, int r30.1.N] 34, .row (.slice none 0 0) 107 2 0 (cells za []), .blk b28 [int r25.1.Kind, str r25.1.Method, str r25.1.Target, int r25.1.Code, str r25.1.Reason, int r25.1.Minor, .slice p26 r25.1.Fields.length c27] 31, .row (.slice none 0 0) 107 2 0 (cells za []), .row (.slice none 0 0) 107 2 0 (cells za []), .blk b1 [int 0, str [], str [], int 0, str [], int 0, .slice none 0 0, int 0, int 0, str [], .slice none 0 0] 36]) from hO.choose [5, 0, 1, 2, 3, 9, 4, 6, 7, 8, 10, 11, 12] rfl)
 have hfar91 := Dk.Own.far hch91 rfl hF hG.size
 have hlend91 := hch91.lend (S := []) rfl trivial
 have hcl91 := zeu ((⟨(⟨(⟨i69, i70, l73, i74, i75, i76, l79⟩ : dechunk_Decoder), (⟨i64, i65⟩ : api_Frame), i66, t67, t68⟩ : body_Body), (⟨r25.1, r30.1, [], []⟩ : api_Message)⟩ : message_reader)) s81 x_a4 r82 _ (hG.own hF hO).1 hfar91 hlend91 hr82
 refine zg (zi c_49 hf (vs := [ptr b37 0, str s81, .bool x_a4]) rfl) rfl hf rfl rfl (hcl91) ?_
 rintro e w' ⟨p83, c84, p85, c86, p87, c88, p89, c90, he, hO'⟩
 refine ⟨_, he, fun a hf => ?_⟩
 have hO := hch91.back rfl hO' rfl
 refine S.op tb ?_ hf hO hm
 refine br rfl (fun hc94 => ?_) fun hc94 => ?_
 refine vl rfl rfl (fun a w hf hO => zl (vs := []) (v := .agg #[int 0, str [], str [], int 0, str [], int 0, .slice none 0 0, int 0, int 0, str [], .slice none 0 0]) hf rfl (by kernel_rfl)) ?_
 refine st 12 rfl rfl ?_
 refine nl 107 2 ?_
 refine nl 107 2 ?_
 refine re_ rfl fun a w hf hO hm => ?_
 obtain rfl := Option.some.inj hm
 exact zb Tryz.results21 hf (.cell rfl (ze (n := 11) (vs := [int 0, str [], str [], int 0, str [], int 0, .slice none 0 0, int 0, int 0, str [], .slice none 0 0]) zcL zcN rfl ((hO.blkSees (i := 14) rfl).cells (o := 0) (n := 11) rfl)) (.tmp rfl (.tmp rfl .nil))) ⟨none, 0, none, 0, rfl, (hO.choose [1, 0] rfl)⟩
 refine ld 0 rfl rfl ?_
 refine bi rfl fun i97 hi97 => ?_
 refine st 12 rfl rfl ?_
 refine re_ rfl fun a w hf hO hm => ?_
 obtain rfl := Option.some.inj hm
 exact zb Tryz.results21 hf (.cell rfl (ze (n := 11) (vs := [int r82.2.2.f_m.Head.Kind, str r82.2.2.f_m.Head.Method, str r82.2.2.f_m.Head.Target, int r82.2.2.f_m.Head.Code, str r82.2.2.f_m.Head.Reason, int r82.2.2.f_m.Head.Minor, .slice p87 r82.2.2.f_m.Head.Fields.length c88, int r82.2.2.f_m.Frame.Kind, int r82.2.2.f_m.Frame.N, str r82.2.2.f_m.Body, .slice p89 r82.2.2.f_m.Trailers.length c90]) zcL zcN rfl ((hO.blkSees (i := 12) rfl).cells (o := 0) (n := 11) rfl)) (.tmp rfl (.tmp rfl .nil))) ⟨p87, c88, p89, c90, rfl, (hO.sub (.cons _ (.cons _ (.cons _ (.cons _ (.cons _ (.cons_cons _ (.cons_cons _ (.cons _ (.cons _ (.cons _ (.cons _ (.cons _ (.cons _ .slnil))))))))))))))⟩
 rw [zeQ] at hm
 refine S.co tb ?_ hf hO hm
 refine bi rfl fun s105 hs105 => ?_
 refine rw_ rfl fun a w hf hO hm => ?_
 obtain ⟨r106, hr106, hm⟩ := ob hm
 have hch111 := (show Dk.Own w0 [] _ ([.blk b37 [ptr b104 0, int r25.1.Kind, str r25.1.Method, str r25.1.Target, int r25.1.Code, str r25.1.Reason, int r25.1.Minor, .slice p26 r25.1.Fields.length c27, int r30.1.Kind, int r30.1.N, str [], .slice none 0 0] 96, .blk b104 [.pointer none, int i99, int i100, int i101, .bool t102, .bool t103] 150, .row (.slice p26 r25.1.Fields.length c27) 107 2 r25.1.Fields.length (cells za r25.1.Fields), .row (.slice none 0 0) 107 2 0 (cells za [])] ++ [.blk b31 [int r30.1.Kind, int r30.1.N] 34, .row (.slice none 0 0) 107 2 0 (cells za []), .blk b28 [int r25.1.Kind, str r25.1.Method, str r25.1.Target, int r25.1.Code, str r25.1.Reason, int r25.1.Minor, .slice p26 r25.1.Fields.length c27] 31, .row (.slice none 0 0) 107 2 0 (cells za []), .row (.slice none 0 0) 107 2 0 (cells za []), .blk b1 [int 0, str [], str [], int 0, str [], int 0, .slice none 0 0, int 0, int 0, str [], .slice none 0 0] 36]) from hO.choose [2, 0, 6, 1, 3, 4, 5, 7, 8, 9] rfl)
 have hfar111 := Dk.Own.far hch111 rfl hF hG.size
 have hlend111 := hch111.lend (S := []) rfl trivial
 have hcl111 := zcg ((⟨(⟨default, (⟨i99, i100⟩ : api_Frame), i101, t102, t103⟩ : body_Body), (⟨r25.1, r30.1, [], []⟩ : api_Message)⟩ : message_reader)) s105 x_a4 r106 _ (hG.own hF hO).1 hfar111 hlend111 hr106
 refine zg (zi c_49 hf (vs := [ptr b37 0, str s105, .bool x_a4]) rfl) rfl hf rfl rfl (hcl111) ?_
 rintro e w' ⟨p107, c108, p109, c110, he, hO'⟩
 refine ⟨_, he, fun a hf => ?_⟩
 have hO := hch111.back rfl hO' rfl
 refine S.op tb ?_ hf hO hm
 refine br rfl (fun hc114 => ?_) fun hc114 => ?_
 refine vl rfl rfl (fun a w hf hO => zl (vs := []) (v := .agg #[int 0, str [], str [], int 0, str [], int 0, .slice none 0 0, int 0, int 0, str [], .slice none 0 0]) hf rfl (by kernel_rfl)) ?_
 refine st 9 rfl rfl ?_
 refine nl 107 2 ?_
 refine nl 107 2 ?_
 refine re_ rfl fun a w hf hO hm => ?_
 obtain rfl := Option.some.inj hm
 exact zb Tryz.results21 hf (.cell rfl (ze (n := 11) (vs := [int 0, str [], str [], int 0, str [], int 0, .slice none 0 0, int 0, int 0, str [], .slice none 0 0]) zcL zcN rfl ((hO.blkSees (i := 11) rfl).cells (o := 0) (n := 11) rfl)) (.tmp rfl (.tmp rfl .nil))) ⟨none, 0, none, 0, rfl, (hO.choose [1, 0] rfl)⟩
 refine ld 0 rfl rfl ?_
 refine bi rfl fun i117 hi117 => ?_
 refine st 9 rfl rfl ?_
 refine re_ rfl fun a w hf hO hm => ?_
 obtain rfl := Option.some.inj hm
 exact zb Tryz.results21 hf (.cell rfl (ze (n := 11) (vs := [int r106.2.2.f_m.Head.Kind, str r106.2.2.f_m.Head.Method, str r106.2.2.f_m.Head.Target, int r106.2.2.f_m.Head.Code, str r106.2.2.f_m.Head.Reason, int r106.2.2.f_m.Head.Minor, .slice p107 r106.2.2.f_m.Head.Fields.length c108, int r106.2.2.f_m.Frame.Kind, int r106.2.2.f_m.Frame.N, str r106.2.2.f_m.Body, .slice p109 r106.2.2.f_m.Trailers.length c110]) zcL zcN rfl ((hO.blkSees (i := 9) rfl).cells (o := 0) (n := 11) rfl)) (.tmp rfl (.tmp rfl .nil))) ⟨p107, c108, p109, c110, rfl, (hO.sub (.cons _ (.cons _ (.cons_cons _ (.cons_cons _ (.cons _ (.cons _ (.cons _ (.cons _ (.cons _ (.cons _ .slnil)))))))))))⟩
 rw [za5] at hm
 refine S.co tb ?_ hf hO hm
 refine br rfl (fun hc140 => ?_) fun hc140 => ?_
 refine vl rfl rfl (fun a w hf hO => zl (vs := []) (v := .agg #[int 0, str [], str [], int 0, str [], int 0, .slice none 0 0, int 0, int 0, str [], .slice none 0 0]) hf rfl (by kernel_rfl)) ?_
 refine st 5 rfl rfl ?_
 refine nl 107 2 ?_
 refine nl 107 2 ?_
 refine re_ rfl fun a w hf hO hm => ?_
 obtain rfl := Option.some.inj hm
 exact zb Tryz.results21 hf (.cell rfl (ze (n := 11) (vs := [int 0, str [], str [], int 0, str [], int 0, .slice none 0 0, int 0, int 0, str [], .slice none 0 0]) zcL zcN rfl ((hO.blkSees (i := 7) rfl).cells (o := 0) (n := 11) rfl)) (.tmp rfl (.tmp rfl .nil))) ⟨none, 0, none, 0, rfl, (hO.choose [1, 0] rfl)⟩
 refine rw_ rfl fun a w hf hO hm => ?_
 obtain ⟨r143, hr143, hm⟩ := ob hm
 have hch148 := (show Dk.Own w0 [] _ ([.blk b119 [int i121, int i122, .slice p123 l125.length c124, int i126, .bool t127, int i128, .bool t129, int i130, str s131, str s132, int i133, str s134, int i135, .slice p136 l138.length c137] 143, .row (.slice p123 l125.length c124) 5 1 l125.length (cells zc l125), .row (.slice p136 l138.length c137) 107 2 l138.length (cells za l138)] ++ [.row (.slice none 0 0) 107 2 0 (cells za []), .row (.slice none 0 0) 107 2 0 (cells za []), .blk b1 [int 0, str [], str [], int 0, str [], int 0, .slice none 0 0, int 0, int 0, str [], .slice none 0 0] 36]) from hO)
 have hfar148 := Dk.Own.far hch148 rfl hF hG.size
 have hlend148 := hch148.lend (S := []) rfl trivial
 have hcl148 := zh6 ((⟨i121, i122, l125, i126, t127, i128, t129, (⟨i130, s131, s132, i133, s134, i135, l138⟩ : api_Head)⟩ : accum_Accum)) x_a2 r143 _ (hG.own hF hO) hfar148 hlend148 hr143
 refine zg (zi c_46 hf (vs := [ptr b119 0, str x_a2]) rfl) rfl hf rfl rfl (hcl148) ?_
 rintro e w' ⟨p144, c145, p146, c147, he, hO'⟩
 refine ⟨_, he, fun a hf => ?_⟩
 have hO := hch148.back rfl hO' rfl
 refine S.op tb ?_ hf hO hm
 refine br rfl (fun hc151 => ?_) fun hc151 => ?_
 refine vl rfl rfl (fun a w hf hO => zl (vs := []) (v := .agg #[int 0, str [], str [], int 0, str [], int 0, .slice none 0 0, int 0, int 0, str [], .slice none 0 0]) hf rfl (by kernel_rfl)) ?_
 refine st 5 rfl rfl ?_
 refine nl 107 2 ?_
 refine nl 107 2 ?_
 refine re_ rfl fun a w hf hO hm => ?_
 obtain rfl := Option.some.inj hm
 exact zb Tryz.results21 hf (.cell rfl (ze (n := 11) (vs := [int 0, str [], str [], int 0, str [], int 0, .slice none 0 0, int 0, int 0, str [], .slice none 0 0]) zcL zcN rfl ((hO.blkSees (i := 7) rfl).cells (o := 0) (n := 11) rfl)) (.tmp rfl (.tmp rfl .nil))) ⟨none, 0, none, 0, rfl, (hO.choose [1, 0] rfl)⟩
 refine br rfl (fun hc154 => ?_) fun hc154 => ?_
 refine vl rfl rfl (fun a w hf hO => zl (vs := []) (v := .agg #[int 0, str [], str [], int 0, str [], int 0, .slice none 0 0, int 0, int 0, str [], .slice none 0 0]) hf rfl (by kernel_rfl)) ?_
 refine st 5 rfl rfl ?_
 refine nl 107 2 ?_
 refine nl 107 2 ?_
 refine re_ rfl fun a w hf hO hm => ?_
 obtain rfl := Option.some.inj hm
 exact zb Tryz.results21 hf (.cell rfl (ze (n := 11) (vs := [int 0, str [], str [], int 0, str [], int 0, .slice none 0 0, int 0, int 0, str [], .slice none 0 0]) zcL zcN rfl ((hO.blkSees (i := 7) rfl).cells (o := 0) (n := 11) rfl)) (.tmp rfl (.tmp rfl .nil))) ⟨none, 0, none, 0, rfl, (hO.choose [1, 0] rfl)⟩
 refine rw_ rfl fun a w hf hO hm => ?_
 obtain ⟨r157, hr157, hm⟩ := ob hm
 refine zg (zi c_47 hf (vs := [ptr b119 0]) rfl) rfl hf rfl rfl (zh7 r143.2.2.2 r157 _ (hG.own hF hO).1 (hO.blkSees (i := 0) rfl) (hO.rowSees (i := 1) rfl) (hO.rowCap (i := 1) rfl) (hO.rowSees (i := 2) rfl) (hO.rowCap (i := 2) rfl) hr157) ?_
 rintro e w' ⟨p158, c159, he, hO'⟩
 refine ⟨_, he, fun a hf => ?_⟩
 have hO := hO.call hO' (by simp [Res.shared])
 refine S.op tb ?_ hf hO hm
 refine al zfR rfl fun b160 => ?_
 refine nl 107 2 ?_
 refine st 1 rfl rfl ?_
 refine ld 1 rfl rfl ?_
 refine cl c_39 rfl (fun r162 w hr162 hO => zfd x_a1 r157.1 r162 _ (hG.own hF hO).1 (hO.rowSees (i := 2) rfl) (hO.rowCap (i := 2) rfl) hr162) fun r162 hr162 => ?_
 refine al ziy rfl fun b163 => ?_
 refine st 0 rfl rfl ?_
 refine br rfl (fun hc166 => ?_) fun hc166 => ?_
 refine vl rfl rfl (fun a w hf hO => zl (vs := []) (v := .agg #[int 0, str [], str [], int 0, str [], int 0, .slice none 0 0, int 0, int 0, str [], .slice none 0 0]) hf rfl (by kernel_rfl)) ?_
 refine st 9 rfl rfl ?_
 refine nl 107 2 ?_
 refine nl 107 2 ?_
 refine re_ rfl fun a w hf hO hm => ?_
 obtain rfl := Option.some.inj hm
 exact zb Tryz.results21 hf (.cell rfl (ze (n := 11) (vs := [int 0, str [], str [], int 0, str [], int 0, .slice none 0 0, int 0, int 0, str [], .slice none 0 0]) zcL zcN rfl ((hO.blkSees (i := 11) rfl).cells (o := 0) (n := 11) rfl)) (.tmp rfl (.tmp rfl .nil))) ⟨none, 0, none, 0, rfl, (hO.choose [1, 0] rfl)⟩
 refine ld 2 rfl rfl ?_
 refine ld 0 rfl rfl ?_
 refine vl rfl rfl (fun a w hf hO => zl (vs := [(0, .agg #[int r157.1.Kind, str r157.1.Method, str r157.1.Target, int r157.1.Code, str r157.1.Reason, int r157.1.Minor, .slice p158 r157.1.Fields.length c159]), (1, .agg #[int r162.1.Kind, int r162.1.N])]) (v := .agg #[int r157.1.Kind, str r157.1.Method, str r157.1.Target, int r157.1.Code, str r157.1.Reason, int r157.1.Minor, .slice p158 r157.1.Fields.length c159, int r162.1.Kind, int r162.1.N, str [], .slice none 0 0]) hf rfl (by kernel_rfl)) ?_
 refine vl rfl rfl (fun a w hf hO => zl (vs := [(1, .agg #[int r157.1.Kind, str r157.1.Method, str r157.1.Target, int r157.1.Code, str r157.1.Reason, int r157.1.Minor, .slice p158 r157.1.Fields.length c159, int r162.1.Kind, int r162.1.N, str [], .slice none 0 0])]) (v := .agg #[.pointer none, int r157.1.Kind, str r157.1.Method, str r157.1.Target, int r157.1.Code, str r157.1.Reason, int r157.1.Minor, .slice p158 r157.1.Fields.length c159, int r162.1.Kind, int r162.1.N, str [], .slice none 0 0]) hf rfl (by kernel_rfl)) ?_
 refine bo rfl fun b169 => ?_
 refine nl 107 2 ?_
 refine jn 0 (fun a w => (Fits 97 [(2, str x_a2), (4, .bool x_a4), (10, ptr b1 0), (15, int r143.1), (20, ptr b169 0)] a ∧ Dk.Own w0 [] w [.row (.slice none 0 0) 107 2 0 (cells za []), .blk b169 [.pointer none, int r157.1.Kind, str r157.1.Method, str r157.1.Target, int r157.1.Code, str r157.1.Reason, int r157.1.Minor, .slice p158 r157.1.Fields.length c159, int r162.1.Kind, int r162.1.N, str [], .slice none 0 0] 96, .blk b163 [int r162.1.Kind, int r162.1.N] 34, .row (.slice none 0 0) 107 2 0 (cells za []), .blk b160 [int r157.1.Kind, str r157.1.Method, str r157.1.Target, int r157.1.Code, str r157.1.Reason, int r157.1.Minor, .slice p158 r157.1.Fields.length c159] 31, .row (.slice p158 r157.1.Fields.length c159) 107 2 r157.1.Fields.length (cells za r157.1.Fields), .blk b119 [int r143.2.2.2.f_kind, int r143.2.2.2.f_limit, .slice p144 r143.2.2.2.f_buf.length c145, int r143.2.2.2.f_from, .bool r143.2.2.2.f_took, int r143.2.2.2.f_bad, .bool r143.2.2.2.f_whole, int r143.2.2.2.f_got.Kind, str r143.2.2.2.f_got.Method, str r143.2.2.2.f_got.Target, int r143.2.2.2.f_got.Code, str r143.2.2.2.f_got.Reason, int r143.2.2.2.f_got.Minor, .slice p146 r143.2.2.2.f_got.Fields.length c147] 143, .row (.slice p144 r143.2.2.2.f_buf.length c145) 5 1 r143.2.2.2.f_buf.length (cells zc r143.2.2.2.f_buf), .row (.slice p146 r143.2.2.2.f_got.Fields.length c147) 107 2 r143.2.2.2.f_got.Fields.length (cells za r143.2.2.2.f_got.Fields), .row (.slice none 0 0) 107 2 0 (cells za []), .row (.slice none 0 0) 107 2 0 (cells za []), .blk b1 [int 0, str [], str [], int 0, str [], int 0, .slice none 0 0, int 0, int 0, str [], .slice none 0 0] 36] ∧ zeS x_a2 x_a4 r143 r157 r162 = some R) ∨ (∃ (b195 : Nat) (i196 : Int) (i197 : Int) (i198 : Int) (t199 : Bool) (t200 : Bool) (i201 : Int) (i202 : Int) (p203 : Option Addr) (c204 : Nat) (l205 : List UInt8) (i206 : Int) (i207 : Int) (i208 : Int) (p209 : Option Addr) (c210 : Nat) (l211 : List api_Field) (b212 : Nat), Fits 97 [(2, str x_a2), (4, .bool x_a4), (10, ptr b1 0), (15, int r143.1), (20, ptr b169 0)] a ∧ Dk.Own w0 [] w [.blk b212 [ptr b195 0, int i196, int i197, int i198, .bool t199, .bool t200] 150, .blk b195 [int i201, int i202, .slice p203 l205.length c204, int i206, int i207, int i208, .slice p209 l211.length c210] 194, .row (.slice p203 l205.length c204) 5 1 l205.length (cells zc l205), .row (.slice p209 l211.length c210) 107 2 l211.length (cells za l211), .row (.slice none 0 0) 107 2 0 (cells za []), .blk b169 [ptr b212 0, int r157.1.Kind, str r157.1.Method, str r157.1.Target, int r157.1.Code, str r157.1.Reason, int r157.1.Minor, .slice p158 r157.1.Fields.length c159, int r162.1.Kind, int r162.1.N, str [], .slice none 0 0] 96, .blk b163 [int r162.1.Kind, int r162.1.N] 34, .row (.slice none 0 0) 107 2 0 (cells za []), .blk b160 [int r157.1.Kind, str r157.1.Method, str r157.1.Target, int r157.1.Code, str r157.1.Reason, int r157.1.Minor, .slice p158 r157.1.Fields.length c159] 31, .row (.slice p158 r157.1.Fields.length c159) 107 2 r157.1.Fields.length (cells za r157.1.Fields), .blk b119 [int r143.2.2.2.f_kind, int r143.2.2.2.f_limit, .slice p144 r143.2.2.2.f_buf.length c145, int r143.2.2.2.f_from, .bool r143.2.2.2.f_took, int r143.2.2.2.f_bad, .bool r143.2.2.2.f_whole, int r143.2.2.2.f_got.Kind, str r143.2.2.2.f_got.Method, str r143.2.2.2.f_got.Target, int r143.2.2.2.f_got.Code, str r143.2.2.2.f_got.Reason, int r143.2.2.2.f_got.Minor, .slice p146 r143.2.2.2.f_got.Fields.length c147] 143, .row (.slice p144 r143.2.2.2.f_buf.length c145) 5 1 r143.2.2.2.f_buf.length (cells zc r143.2.2.2.f_buf), .row (.slice p146 r143.2.2.2.f_got.Fields.length c147) 107 2 r143.2.2.2.f_got.Fields.length (cells za r143.2.2.2.f_got.Fields), .row (.slice none 0 0) 107 2 0 (cells za []), .row (.slice none 0 0) 107 2 0 (cells za []), .blk b1 [int 0, str [], str [], int 0, str [], int 0, .slice none 0 0, int 0, int 0, str [], .slice none 0 0] 36] ∧ zeT x_a2 x_a4 r143 r157 r162 i196 i197 i198 t199 t200 i201 i202 l205 i206 i207 i208 l211 = some R) ∨ (∃ (i231 : Int) (i232 : Int) (i233 : Int) (t234 : Bool) (t235 : Bool) (b236 : Nat), Fits 97 [(2, str x_a2), (4, .bool x_a4), (10, ptr b1 0), (15, int r143.1), (20, ptr b169 0)] a ∧ Dk.Own w0 [] w [.blk b236 [.pointer none, int i231, int i232, int i233, .bool t234, .bool t235] 150, .row (.slice none 0 0) 107 2 0 (cells za []), .blk b169 [ptr b236 0, int r157.1.Kind, str r157.1.Method, str r157.1.Target, int r157.1.Code, str r157.1.Reason, int r157.1.Minor, .slice p158 r157.1.Fields.length c159, int r162.1.Kind, int r162.1.N, str [], .slice none 0 0] 96, .blk b163 [int r162.1.Kind, int r162.1.N] 34, .row (.slice none 0 0) 107 2 0 (cells za []), .blk b160 [int r157.1.Kind, str r157.1.Method, str r157.1.Target, int r157.1.Code, str r157.1.Reason, int r157.1.Minor, .slice p158 r157.1.Fields.length c159] 31, .row (.slice p158 r157.1.Fields.length c159) 107 2 r157.1.Fields.length (cells za r157.1.Fields), .blk b119 [int r143.2.2.2.f_kind, int r143.2.2.2.f_limit, .slice p144 r143.2.2.2.f_buf.length c145, int r143.2.2.2.f_from, .bool r143.2.2.2.f_took, int r143.2.2.2.f_bad, .bool r143.2.2.2.f_whole, int r143.2.2.2.f_got.Kind, str r143.2.2.2.f_got.Method, str r143.2.2.2.f_got.Target, int r143.2.2.2.f_got.Code, str r143.2.2.2.f_got.Reason, int r143.2.2.2.f_got.Minor, .slice p146 r143.2.2.2.f_got.Fields.length c147] 143, .row (.slice p144 r143.2.2.2.f_buf.length c145) 5 1 r143.2.2.2.f_buf.length (cells zc r143.2.2.2.f_buf), .row (.slice p146 r143.2.2.2.f_got.Fields.length c147) 107 2 r143.2.2.2.f_got.Fields.length (cells za r143.2.2.2.f_got.Fields), .row (.slice none 0 0) 107 2 0 (cells za []), .row (.slice none 0 0) 107 2 0 (cells za []), .blk b1 [int 0, str [], str [], int 0, str [], int 0, .slice none 0 0, int 0, int 0, str [], .slice none 0 0] 36] ∧ zeU x_a2 x_a4 r143 r157 r162 i231 i232 i233 t234 t235 = some R)) rfl ?_ ?_
 refine ld 2 rfl rfl ?_
 refine rw_ rfl fun a w hf hO hm => ?_
 obtain ⟨r171, hr171, hm⟩ := ob hm
 refine zg (zi c_48 hf (vs := [.agg #[int r162.1.Kind, int r162.1.N], int x_a3]) rfl) rfl hf rfl rfl (zjO r162.1 x_a3 r171 _ (hG.own hF hO).1 hr171) ?_
 rintro e w' hpost172
 rcases hopt172 : r171.1 with _ | x173
 have hm := zkn hopt172 hm
 obtain ⟨he, hb⟩ := zi0 hopt172 hpost172
 refine ⟨_, he, fun a hf => ?_⟩
 have hO := hO.grow hb
 refine S.op tb ?_ hf hO hm
 refine st 1 rfl rfl ?_
 refine eo rfl fun a w hf hO hm => ?_
 exact Or.inl ⟨hf.sel rfl, hO, hm⟩
 have hm := zko hopt172 hm
 have hpost172 := zi1 hopt172 hpost172
 rcases hbe172 : x173.1 with _ | _
 have hm := bE_f hbe172 hm
 obtain ⟨b180, he, hO'⟩ := bE_pf hbe172 hpost172
 refine ⟨_, he, fun a hf => ?_⟩
 have hO := hO.call hO' (by simp [Res.shared])
 refine S.op tb ?_ hf hO hm
 refine st 2 rfl rfl ?_
 refine eo rfl fun a w hf hO hm => ?_
 exact Or.inr (Or.inr (⟨x173.2.f_frame.Kind, x173.2.f_frame.N, x173.2.f_left, x173.2.f_done, x173.2.f_bad, b180, hf.sel rfl, hO, hm⟩))
 have hm := bE_t hbe172 hm
 obtain ⟨b174, b175, p176, c177, p178, c179, he, hO'⟩ := bE_pt hbe172 hpost172
 refine ⟨_, he, fun a hf => ?_⟩
 have hO := hO.call hO' (by simp [Res.shared])
 refine S.op tb ?_ hf hO hm
 refine st 5 rfl rfl ?_
 refine eo rfl fun a w hf hO hm => ?_
 exact Or.inr (Or.inl ⟨b175, x173.2.f_frame.Kind, x173.2.f_frame.N, x173.2.f_left, x173.2.f_done, x173.2.f_bad, x173.2.Decoder.f_limit, x173.2.Decoder.f_at, p176, c177, x173.2.Decoder.f_line, x173.2.Decoder.f_left, x173.2.Decoder.f_sum, x173.2.Decoder.f_spent, p178, c179, x173.2.Decoder.f_trailers, b174, hf.sel rfl, hO, hm⟩)
 rintro a w (⟨hf, hO, hm⟩ | ⟨b195, i196, i197, i198, t199, t200, i201, i202, p203, c204, l205, i206, i207, i208, p209, c210, l211, b212, hf, hO, hm⟩ | ⟨i231, i232, i233, t234, t235, b236, hf, hO, hm⟩)
 rw [zeS] at hm
 refine S.co tb ?_ hf hO hm
 refine bi rfl fun s181 hs181 => ?_
 refine rw_ rfl fun a w hf hO hm => ?_
 obtain ⟨r182, hr182, hm⟩ := ob hm
 have hch187 := (show Dk.Own w0 [] _ ([.blk b169 [.pointer none, int r157.1.Kind, str r157.1.Method, str r157.1.Target, int r157.1.Code, str r157.1.Reason, int r157.1.Minor, .slice p158 r157.1.Fields.length c159, int r162.1.Kind, int r162.1.N, str [], .slice none 0 0] 96, .row (.slice p158 r157.1.Fields.length c159) 107 2 r157.1.Fields.length (cells za r157.1.Fields), .row (.slice none 0 0) 107 2 0 (cells za [])] ++ [.blk b163 [int r162.1.Kind, int r162.1.N] 34, .row (.slice none 0 0) 107 2 0 (cells za []), .blk b160 [int r157.1.Kind, str r157.1.Method, str r157.1.Target, int r157.1.Code, str r157.1.Reason, int r157.1.Minor, .slice p158 r157.1.Fields.length c159] 31, .blk b119 [int r143.2.2.2.f_kind, int r143.2.2.2.f_limit, .slice p144 r143.2.2.2.f_buf.length c145, int r143.2.2.2.f_from, .bool r143.2.2.2.f_took, int r143.2.2.2.f_bad, .bool r143.2.2.2.f_whole, int r143.2.2.2.f_got.Kind, str r143.2.2.2.f_got.Method, str r143.2.2.2.f_got.Target, int r143.2.2.2.f_got.Code, str r143.2.2.2.f_got.Reason, int r143.2.2.2.f_got.Minor, .slice p146 r143.2.2.2.f_got.Fields.length c147] 143, .row (.slice p144 r143.2.2.2.f_buf.length c145) 5 1 r143.2.2.2.f_buf.length (cells zc r143.2.2.2.f_buf), .row (.slice p146 r143.2.2.2.f_got.Fields.length c147) 107 2 r143.2.2.2.f_got.Fields.length (cells za r143.2.2.2.f_got.Fields), .row (.slice none 0 0) 107 2 0 (cells za []), .row (.slice none 0 0) 107 2 0 (cells za []), .blk b1 [int 0, str [], str [], int 0, str [], int 0, .slice none 0 0, int 0, int 0, str [], .slice none 0 0] 36]) from hO.choose [1, 5, 0, 2, 3, 4, 6, 7, 8, 9, 10, 11] rfl)
 have hfar187 := Dk.Own.far hch187 rfl hF hG.size
 have hlend187 := hch187.lend (S := []) rfl trivial
 have hcl187 := zcQ ((⟨default, (⟨r157.1, r162.1, [], []⟩ : api_Message)⟩ : message_reader)) s181 x_a4 r182 _ (hG.own hF hO).1 hfar187 hlend187 hr182
 refine zg (zi c_49 hf (vs := [ptr b169 0, str s181, .bool x_a4]) rfl) rfl hf rfl rfl (hcl187) ?_
 rintro e w' ⟨p183, c184, p185, c186, he, hO'⟩
 refine ⟨_, he, fun a hf => ?_⟩
 have hO := hch187.back rfl hO' rfl
 refine S.op tb ?_ hf hO hm
 refine br rfl (fun hc190 => ?_) fun hc190 => ?_
 refine vl rfl rfl (fun a w hf hO => zl (vs := []) (v := .agg #[int 0, str [], str [], int 0, str [], int 0, .slice none 0 0, int 0, int 0, str [], .slice none 0 0]) hf rfl (by kernel_rfl)) ?_
 refine st 11 rfl rfl ?_
 refine nl 107 2 ?_
 refine nl 107 2 ?_
 refine re_ rfl fun a w hf hO hm => ?_
 obtain rfl := Option.some.inj hm
 exact zb Tryz.results21 hf (.cell rfl (ze (n := 11) (vs := [int 0, str [], str [], int 0, str [], int 0, .slice none 0 0, int 0, int 0, str [], .slice none 0 0]) zcL zcN rfl ((hO.blkSees (i := 13) rfl).cells (o := 0) (n := 11) rfl)) (.tmp rfl (.tmp rfl .nil))) ⟨none, 0, none, 0, rfl, (hO.choose [1, 0] rfl)⟩
 refine ld 0 rfl rfl ?_
 refine bi rfl fun i193 hi193 => ?_
 refine st 11 rfl rfl ?_
 refine re_ rfl fun a w hf hO hm => ?_
 obtain rfl := Option.some.inj hm
 exact zb Tryz.results21 hf (.cell rfl (ze (n := 11) (vs := [int r182.2.2.f_m.Head.Kind, str r182.2.2.f_m.Head.Method, str r182.2.2.f_m.Head.Target, int r182.2.2.f_m.Head.Code, str r182.2.2.f_m.Head.Reason, int r182.2.2.f_m.Head.Minor, .slice p183 r182.2.2.f_m.Head.Fields.length c184, int r182.2.2.f_m.Frame.Kind, int r182.2.2.f_m.Frame.N, str r182.2.2.f_m.Body, .slice p185 r182.2.2.f_m.Trailers.length c186]) zcL zcN rfl ((hO.blkSees (i := 11) rfl).cells (o := 0) (n := 11) rfl)) (.tmp rfl (.tmp rfl .nil))) ⟨p183, c184, p185, c186, rfl, (hO.sub (.cons _ (.cons_cons _ (.cons_cons _ (.cons _ (.cons _ (.cons _ (.cons _ (.cons _ (.cons _ (.cons _ (.cons _ (.cons _ .slnil)))))))))))))⟩
 rw [zeT] at hm
 refine S.co tb ?_ hf hO hm
 refine bi rfl fun s213 hs213 => ?_
 refine rw_ rfl fun a w hf hO hm => ?_
 obtain ⟨r214, hr214, hm⟩ := ob hm
 have hch223 := (show Dk.Own w0 [] _ ([.blk b169 [ptr b212 0, int r157.1.Kind, str r157.1.Method, str r157.1.Target, int r157.1.Code, str r157.1.Reason, int r157.1.Minor, .slice p158 r157.1.Fields.length c159, int r162.1.Kind, int r162.1.N, str [], .slice none 0 0] 96, .blk b212 [ptr b195 0, int i196, int i197, int i198, .bool t199, .bool t200] 150, .blk b195 [int i201, int i202, .slice p203 l205.length c204, int i206, int i207, int i208, .slice p209 l211.length c210] 194, .row (.slice p203 l205.length c204) 5 1 l205.length (cells zc l205), .row (.slice p209 l211.length c210) 107 2 l211.length (cells za l211), .row (.slice p158 r157.1.Fields.length c159) 107 2 r157.1.Fields.length (cells za r157.1.Fields), .row (.slice none 0 0) 107 2 0 (cells za [])] ++ [.blk b163 [int r162.1.Kind, int r162.1.N] 34, .row (.slice none 0 0) 107 2 0 (cells za []), .blk b160 [int r157.1.Kind, str r157.1.Method, str r157.1.Target, int r157.1.Code, str r157.1.Reason, int r157.1.Minor, .slice p158 r157.1.Fields.length c159] 31, .blk b119 [int r143.2.2.2.f_kind, int r143.2.2.2.f_limit, .slice p144 r143.2.2.2.f_buf.length c145, int r143.2.2.2.f_from, .bool r143.2.2.2.f_took, int r143.2.2.2.f_bad, .bool r143.2.2.2.f_whole, int r143.2.2.2.f_got.Kind, str r143.2.2.2.f_got.Method, str r143.2.2.2.f_got.Target, int r143.2.2.2.f_got.Code, str r143.2.2.2.f_got.Reason, int r143.2.2.2.f_got.Minor, .slice p146 r143.2.2.2.f_got.Fields.length c147] 143, .row (.slice p144 r143.2.2.2.f_buf.length c145) 5 1 r143.2.2.2.f_buf.length (cells zc r143.2.2.2.f_buf), .row (.slice p146 r143.2.2.2.f_got.Fields.length c147) 107 2 r143.2.2.2.f_got.Fields.length (cells za r143.2.2.2.f_got.Fields), .row (.slice none 0 0) 107 2 0 (cells za []), .row (.slice none 0 0) 107 2 0 (cells za []), .blk b1 [int 0, str [], str [], int 0, str [], int 0, .slice none 0 0, int 0, int 0, str [], .slice none 0 0] 36]) from hO.choose [5, 0, 1, 2, 3, 9, 4, 6, 7, 8, 10, 11, 12, 13, 14, 15] rfl)
 have hfar223 := Dk.Own.far hch223 rfl hF hG.size
 have hlend223 := hch223.lend (S := []) rfl trivial
 have hcl223 := zeu ((⟨(⟨(⟨i201, i202, l205, i206, i207, i208, l211⟩ : dechunk_Decoder), (⟨i196, i197⟩ : api_Frame), i198, t199, t200⟩ : body_Body), (⟨r157.1, r162.1, [], []⟩ : api_Message)⟩ : message_reader)) s213 x_a4 r214 _ (hG.own hF hO).1 hfar223 hlend223 hr214
 refine zg (zi c_49 hf (vs := [ptr b169 0, str s213, .bool x_a4]) rfl) rfl hf rfl rfl (hcl223) ?_
 rintro e w' ⟨p215, c216, p217, c218, p219, c220, p221, c222, he, hO'⟩
 refine ⟨_, he, fun a hf => ?_⟩
 have hO := hch223.back rfl hO' rfl
 refine S.op tb ?_ hf hO hm
 refine br rfl (fun hc226 => ?_) fun hc226 => ?_
 refine vl rfl rfl (fun a w hf hO => zl (vs := []) (v := .agg #[int 0, str [], str [], int 0, str [], int 0, .slice none 0 0, int 0, int 0, str [], .slice none 0 0]) hf rfl (by kernel_rfl)) ?_
 refine st 15 rfl rfl ?_
 refine nl 107 2 ?_
 refine nl 107 2 ?_
 refine re_ rfl fun a w hf hO hm => ?_
 obtain rfl := Option.some.inj hm
 exact zb Tryz.results21 hf (.cell rfl (ze (n := 11) (vs := [int 0, str [], str [], int 0, str [], int 0, .slice none 0 0, int 0, int 0, str [], .slice none 0 0]) zcL zcN rfl ((hO.blkSees (i := 17) rfl).cells (o := 0) (n := 11) rfl)) (.tmp rfl (.tmp rfl .nil))) ⟨none, 0, none, 0, rfl, (hO.choose [1, 0] rfl)⟩
 refine ld 0 rfl rfl ?_
 refine bi rfl fun i229 hi229 => ?_
 refine st 15 rfl rfl ?_
 refine re_ rfl fun a w hf hO hm => ?_
 obtain rfl := Option.some.inj hm
 exact zb Tryz.results21 hf (.cell rfl (ze (n := 11) (vs := [int r214.2.2.f_m.Head.Kind, str r214.2.2.f_m.Head.Method, str r214.2.2.f_m.Head.Target, int r214.2.2.f_m.Head.Code, str r214.2.2.f_m.Head.Reason, int r214.2.2.f_m.Head.Minor, .slice p219 r214.2.2.f_m.Head.Fields.length c220, int r214.2.2.f_m.Frame.Kind, int r214.2.2.f_m.Frame.N, str r214.2.2.f_m.Body, .slice p221 r214.2.2.f_m.Trailers.length c222]) zcL zcN rfl ((hO.blkSees (i := 15) rfl).cells (o := 0) (n := 11) rfl)) (.tmp rfl (.tmp rfl .nil))) ⟨p219, c220, p221, c222, rfl, (hO.sub (.cons _ (.cons _ (.cons _ (.cons _ (.cons _ (.cons_cons _ (.cons_cons _ (.cons _ (.cons _ (.cons _ (.cons _ (.cons _ (.cons _ (.cons _ (.cons _ (.cons _ .slnil)))))))))))))))))⟩
 rw [zeU] at hm
 refine S.co tb ?_ hf hO hm
 refine bi rfl fun s237 hs237 => ?_
 refine rw_ rfl fun a w hf hO hm => ?_
 obtain ⟨r238, hr238, hm⟩ := ob hm
 have hch243 := (show Dk.Own w0 [] _ ([.blk b169 [ptr b236 0, int r157.1.Kind, str r157.1.Method, str r157.1.Target, int r157.1.Code, str r157.1.Reason, int r157.1.Minor, .slice p158 r157.1.Fields.length c159, int r162.1.Kind, int r162.1.N, str [], .slice none 0 0] 96, .blk b236 [.pointer none, int i231, int i232, int i233, .bool t234, .bool t235] 150, .row (.slice p158 r157.1.Fields.length c159) 107 2 r157.1.Fields.length (cells za r157.1.Fields), .row (.slice none 0 0) 107 2 0 (cells za [])] ++ [.blk b163 [int r162.1.Kind, int r162.1.N] 34, .row (.slice none 0 0) 107 2 0 (cells za []), .blk b160 [int r157.1.Kind, str r157.1.Method, str r157.1.Target, int r157.1.Code, str r157.1.Reason, int r157.1.Minor, .slice p158 r157.1.Fields.length c159] 31, .blk b119 [int r143.2.2.2.f_kind, int r143.2.2.2.f_limit, .slice p144 r143.2.2.2.f_buf.length c145, int r143.2.2.2.f_from, .bool r143.2.2.2.f_took, int r143.2.2.2.f_bad, .bool r143.2.2.2.f_whole, int r143.2.2.2.f_got.Kind, str r143.2.2.2.f_got.Method, str r143.2.2.2.f_got.Target, int r143.2.2.2.f_got.Code, str r143.2.2.2.f_got.Reason, int r143.2.2.2.f_got.Minor, .slice p146 r143.2.2.2.f_got.Fields.length c147] 143, .row (.slice p144 r143.2.2.2.f_buf.length c145) 5 1 r143.2.2.2.f_buf.length (cells zc r143.2.2.2.f_buf), .row (.slice p146 r143.2.2.2.f_got.Fields.length c147) 107 2 r143.2.2.2.f_got.Fields.length (cells za r143.2.2.2.f_got.Fields), .row (.slice none 0 0) 107 2 0 (cells za []), .row (.slice none 0 0) 107 2 0 (cells za []), .blk b1 [int 0, str [], str [], int 0, str [], int 0, .slice none 0 0, int 0, int 0, str [], .slice none 0 0] 36]) from hO.choose [2, 0, 6, 1, 3, 4, 5, 7, 8, 9, 10, 11, 12] rfl)
 have hfar243 := Dk.Own.far hch243 rfl hF hG.size
 have hlend243 := hch243.lend (S := []) rfl trivial
 have hcl243 := zcg ((⟨(⟨default, (⟨i231, i232⟩ : api_Frame), i233, t234, t235⟩ : body_Body), (⟨r157.1, r162.1, [], []⟩ : api_Message)⟩ : message_reader)) s237 x_a4 r238 _ (hG.own hF hO).1 hfar243 hlend243 hr238
 refine zg (zi c_49 hf (vs := [ptr b169 0, str s237, .bool x_a4]) rfl) rfl hf rfl rfl (hcl243) ?_
 rintro e w' ⟨p239, c240, p241, c242, he, hO'⟩
 refine ⟨_, he, fun a hf => ?_⟩
 have hO := hch243.back rfl hO' rfl
 refine S.op tb ?_ hf hO hm
 refine br rfl (fun hc246 => ?_) fun hc246 => ?_
 refine vl rfl rfl (fun a w hf hO => zl (vs := []) (v := .agg #[int 0, str [], str [], int 0, str [], int 0, .slice none 0 0, int 0, int 0, str [], .slice none 0 0]) hf rfl (by kernel_rfl)) ?_
 refine st 12 rfl rfl ?_
 refine nl 107 2 ?_
 refine nl 107 2 ?_
 refine re_ rfl fun a w hf hO hm => ?_
 obtain rfl := Option.some.inj hm
 exact zb Tryz.results21 hf (.cell rfl (ze (n := 11) (vs := [int 0, str [], str [], int 0, str [], int 0, .slice none 0 0, int 0, int 0, str [], .slice none 0 0]) zcL zcN rfl ((hO.blkSees (i := 14) rfl).cells (o := 0) (n := 11) rfl)) (.tmp rfl (.tmp rfl .nil))) ⟨none, 0, none, 0, rfl, (hO.choose [1, 0] rfl)⟩
 refine ld 0 rfl rfl ?_
 refine bi rfl fun i249 hi249 => ?_
 refine st 12 rfl rfl ?_
 refine re_ rfl fun a w hf hO hm => ?_
 obtain rfl := Option.some.inj hm
 exact zb Tryz.results21 hf (.cell rfl (ze (n := 11) (vs := [int r238.2.2.f_m.Head.Kind, str r238.2.2.f_m.Head.Method, str r238.2.2.f_m.Head.Target, int r238.2.2.f_m.Head.Code, str r238.2.2.f_m.Head.Reason, int r238.2.2.f_m.Head.Minor, .slice p239 r238.2.2.f_m.Head.Fields.length c240, int r238.2.2.f_m.Frame.Kind, int r238.2.2.f_m.Frame.N, str r238.2.2.f_m.Body, .slice p241 r238.2.2.f_m.Trailers.length c242]) zcL zcN rfl ((hO.blkSees (i := 12) rfl).cells (o := 0) (n := 11) rfl)) (.tmp rfl (.tmp rfl .nil))) ⟨p239, c240, p241, c242, rfl, (hO.sub (.cons _ (.cons _ (.cons_cons _ (.cons_cons _ (.cons _ (.cons _ (.cons _ (.cons _ (.cons _ (.cons _ (.cons _ (.cons _ (.cons _ .slnil))))))))))))))⟩

end Go.Proofs
end
section
set_option linter.unusedVariables false
set_option maxHeartbeats 1000000
set_option linter.unusedSimpArgs false
set_option maxRecDepth 100000
namespace Go.Proofs
open Go.Dk Go.Dm Go.RowKit

theorem zk2 (x_a : api_Head) (x_b : api_Head) (R : Bool) (w0 : World) (hG : zt w0) {x_a_p0 : Option Addr} {x_a_c0 : Nat} (hs0 : zw w0 x_a_p0 (cells za x_a.Fields)) (hc0 : x_a.Fields.length ≤ x_a_c0) {x_b_p1 : Option Addr} {x_b_c1 : Nat} (hs1 : zw w0 x_b_p1 (cells za x_b.Fields)) (hc1 : x_b.Fields.length ≤ x_b_c1) (hm : zit x_a x_b = some R) :
    Calls Tryz.prog 84 #[.agg #[int x_a.Kind, str x_a.Method, str x_a.Target, int x_a.Code, str x_a.Reason, int x_a.Minor, .slice x_a_p0 x_a.Fields.length x_a_c0], .agg #[int x_b.Kind, str x_b.Method, str x_b.Target, int x_b.Code, str x_b.Reason, int x_b.Minor, .slice x_b_p1 x_b.Fields.length x_b_c1]] w0 (Ret w0 (fun R => .bool R) R) := by
 rw [zit] at hm
 have hF : zo [] := zf
 have hO : Dk.Own w0 [] w0 [] := Dk.Own.refl w0
 have hO := hO.addShr hs0 (by simp [Res.shared])
 have hO := hO.addShr hs1 (by simp [Res.shared])
 refine S.enter tb Tryz.func84 rfl Tryz.ntmps84 rfl ?_ hO hm
 refine bo rfl fun b1 => ?_
 refine bo rfl fun b2 => ?_
 refine jv 0 [] [0, 1, 2, 3] (fun J E L => ∃ (t9 : Bool), J ((4, .bool t9) :: E) (L) (za3 t9)) rfl ?_ ?_
 refine ld 1 rfl rfl ?_
 refine ld 0 rfl rfl ?_
 refine br rfl (fun hc4 => ?_) fun hc4 => ?_
 refine ld 1 rfl rfl ?_
 refine ld 0 rfl rfl ?_
 refine br rfl (fun hc5 => ?_) fun hc5 => ?_
 refine ld 1 rfl rfl ?_
 refine ld 0 rfl rfl ?_
 refine br rfl (fun hc6 => ?_) fun hc6 => ?_
 refine ld 1 rfl rfl ?_
 refine ld 0 rfl rfl ?_
 refine br rfl (fun hc7 => ?_) fun hc7 => ?_
 refine ld 1 rfl rfl ?_
 refine ld 0 rfl rfl ?_
 refine br rfl (fun hc8 => ?_) fun hc8 => ?_
 refine ld 1 rfl rfl ?_
 refine ld 0 rfl rfl ?_
 exact en rfl fun _ _ j => ⟨x_a.Reason == x_b.Reason, j rfl⟩
 exact en rfl fun _ _ j => ⟨false, j rfl⟩
 exact en rfl fun _ _ j => ⟨false, j rfl⟩
 exact en rfl fun _ _ j => ⟨false, j rfl⟩
 exact en rfl fun _ _ j => ⟨false, j rfl⟩
 exact en rfl fun _ _ j => ⟨false, j rfl⟩
 rintro a w ⟨t9, hf, hO, hm⟩
 rw [za3] at hm
 refine S.co tb ?_ hf hO hm
 exact rt Tryz.results84 rfl

theorem ziM (x_a : List api_Field) (x_b : List api_Field) (R : Bool) (w0 : World) (hG : zt w0) {x_a_p0 : Option Addr} {x_a_c0 : Nat} (hs0 : zw w0 x_a_p0 (cells za x_a)) (hc0 : x_a.length ≤ x_a_c0) {x_b_p1 : Option Addr} {x_b_c1 : Nat} (hs1 : zw w0 x_b_p1 (cells za x_b)) (hc1 : x_b.length ≤ x_b_c1) (hm : zgU x_a x_b = some R) :
    Calls Tryz.prog 51 #[.slice x_a_p0 x_a.length x_a_c0, .slice x_b_p1 x_b.length x_b_c1] w0 (Ret w0 (fun R => .bool R) R) := by
 rw [zgU] at hm
 have hF : zo [] := zf
 have hO : Dk.Own w0 [] w0 [] := Dk.Own.refl w0
 have hO := hO.addShr hs0 (by simp [Res.shared])
 have hO := hO.addShr hs1 (by simp [Res.shared])
 refine S.enter tb Tryz.func51 rfl Tryz.ntmps51 rfl ?_ hO hm
 refine br rfl (fun hc3 => ?_) fun hc3 => ?_
 exact rt Tryz.results51 rfl
 refine lv [0, 1] [0, 1] (fun J E L k => ∃ (i7 : Int), J ((5, int i7) :: E) (L) (zdB x_a x_b k i7)) rfl (fun _ _ j => ⟨0, j rfl⟩) ?_
 rintro n1 a w ⟨i7, hf, hO, hm⟩
 obtain _ | n1 := n1
 rw [zdB] at hm
 cases hm
 rw [zdB] at hm
 refine S.co tb ?_ hf hO hm
 refine br rfl (fun hc9 => ?_) fun hc9 => ?_
 refine rc_ rfl fun a w hf hO hm => ?_
 refine zbM (by kernel_rfl) (by kernel_rfl) hO ?_
 refine zm (fun w hO => zn hf rfl) rfl hf rfl rfl fun a hf => ?_
 refine zm (fun w hO => zn hf rfl) rfl hf rfl rfl fun a hf => ?_
 obtain ⟨x11, hx11, hm⟩ := ob hm
 obtain ⟨b12, o13, hix11, hSx11⟩ := zd3 (enc := za) (sz := 2) (xs := x_a) 29 Tryz.underlying29 za7 (by decide) (fun _ => rfl) (hO.sees (i := 1) rfl) hx11
 refine zm (fun w hO => zy hix11 hf rfl rfl) rfl hf rfl rfl fun a hf => ?_
 refine zm (fun w hO => zaO (o := 0) (vs := [str x11.Name, str x11.Value]) zcK za7 (hSx11 _ (hO.sees (i := 1) rfl)) rfl rfl hf rfl) rfl hf rfl rfl fun a hf => ?_
 refine zm (fun w hO => zn hf rfl) rfl hf rfl rfl fun a hf => ?_
 refine zm (fun w hO => zn hf rfl) rfl hf rfl rfl fun a hf => ?_
 obtain ⟨x14, hx14, hm⟩ := ob hm
 obtain ⟨b15, o16, hix14, hSx14⟩ := zd3 (enc := za) (sz := 2) (xs := x_b) 29 Tryz.underlying29 za7 (by decide) (fun _ => rfl) (hO.sees (i := 0) rfl) hx14
 refine zm (fun w hO => zy hix14 hf rfl rfl) rfl hf rfl rfl fun a hf => ?_
 refine zm (fun w hO => zaO (o := 0) (vs := [str x14.Name, str x14.Value]) zcK za7 (hSx14 _ (hO.sees (i := 0) rfl)) rfl rfl hf rfl) rfl hf rfl rfl fun a hf => ?_
 refine zm (fun w hO => zlM (by kernel_rfl) (eq_107 x11 x14) hf rfl rfl) rfl hf rfl rfl fun a hf => ?_
 refine wpQuiet_nil ?_
 intro w hO
 refine S.no tb ?_ hf hO hm
 refine br rfl (fun hc18 => ?_) fun hc18 => ?_
 exact rt Tryz.results51 rfl
 refine bi rfl fun i21 hi21 => ?_
 exact en rfl fun _ _ j => ⟨_, Nat.lt_succ_self _, i21, j rfl⟩
 exact rt Tryz.results51 rfl

theorem zk3 (x_a : api_Head) (x_b : api_Head) (R : Bool) (w0 : World) (hG : zt w0) {x_a_p0 : Option Addr} {x_a_c0 : Nat} (hs0 : zw w0 x_a_p0 (cells za x_a.Fields)) (hc0 : x_a.Fields.length ≤ x_a_c0) {x_b_p1 : Option Addr} {x_b_c1 : Nat} (hs1 : zw w0 x_b_p1 (cells za x_b.Fields)) (hc1 : x_b.Fields.length ≤ x_b_c1) (hm : ziu x_a x_b = some R) :
    Calls Tryz.prog 50 #[.agg #[int x_a.Kind, str x_a.Method, str x_a.Target, int x_a.Code, str x_a.Reason, int x_a.Minor, .slice x_a_p0 x_a.Fields.length x_a_c0], .agg #[int x_b.Kind, str x_b.Method, str x_b.Target, int x_b.Code, str x_b.Reason, int x_b.Minor, .slice x_b_p1 x_b.Fields.length x_b_c1]] w0 (Ret w0 (fun R => .bool R) R) := by
 rw [ziu] at hm
 have hF : zo [] := zf
 have hO : Dk.Own w0 [] w0 [] := Dk.Own.refl w0
 have hO := hO.addShr hs0 (by simp [Res.shared])
 have hO := hO.addShr hs1 (by simp [Res.shared])
 refine S.enter tb Tryz.func50 rfl Tryz.ntmps50 rfl ?_ hO hm
 refine bo rfl fun b1 => ?_
 refine bo rfl fun b2 => ?_
 refine jv 0 [] [0, 1, 2, 3] (fun J E L => ∃ (t7 : Bool), J ((4, .bool t7) :: E) (L) (ze3 t7)) rfl ?_ ?_
 refine ld 1 rfl rfl ?_
 refine ld 0 rfl rfl ?_
 refine cl c_84 rfl (fun r4 w hr4 hO => zk2 x_a x_b r4 _ (hG.own hF hO) (hO.sees (i := 3) rfl) hc0 (hO.sees (i := 2) rfl) hc1 hr4) fun r4 hr4 => ?_
 refine br rfl (fun hc5 => ?_) fun hc5 => ?_
 refine ld 1 rfl rfl ?_
 refine ld 0 rfl rfl ?_
 refine cl c_51 rfl (fun r6 w hr6 hO => ziM x_a.Fields x_b.Fields r6 _ (hG.own hF hO) (hO.sees (i := 3) rfl) hc0 (hO.sees (i := 2) rfl) hc1 hr6) fun r6 hr6 => ?_
 exact en rfl fun _ _ j => ⟨r6, j rfl⟩
 exact en rfl fun _ _ j => ⟨false, j rfl⟩
 rintro a w ⟨t7, hf, hO, hm⟩
 rw [ze3] at hm
 refine S.co tb ?_ hf hO hm
 exact rt Tryz.results50 rfl

theorem ziN (x_a : api_Message) (x_b : api_Message) (R : Bool) (w0 : World) (hG : zt w0) {x_a_p0 : Option Addr} {x_a_c0 : Nat} (hs0 : zw w0 x_a_p0 (cells za x_a.Head.Fields)) (hc0 : x_a.Head.Fields.length ≤ x_a_c0) {x_a_p1 : Option Addr} {x_a_c1 : Nat} (hs1 : zw w0 x_a_p1 (cells za x_a.Trailers)) (hc1 : x_a.Trailers.length ≤ x_a_c1) {x_b_p2 : Option Addr} {x_b_c2 : Nat} (hs2 : zw w0 x_b_p2 (cells za x_b.Head.Fields)) (hc2 : x_b.Head.Fields.length ≤ x_b_c2) {x_b_p3 : Option Addr} {x_b_c3 : Nat} (hs3 : zw w0 x_b_p3 (cells za x_b.Trailers)) (hc3 : x_b.Trailers.length ≤ x_b_c3) (hm : zc5 x_a x_b = some R) :
    Calls Tryz.prog 22 #[.agg #[int x_a.Head.Kind, str x_a.Head.Method, str x_a.Head.Target, int x_a.Head.Code, str x_a.Head.Reason, int x_a.Head.Minor, .slice x_a_p0 x_a.Head.Fields.length x_a_c0, int x_a.Frame.Kind, int x_a.Frame.N, str x_a.Body, .slice x_a_p1 x_a.Trailers.length x_a_c1], .agg #[int x_b.Head.Kind, str x_b.Head.Method, str x_b.Head.Target, int x_b.Head.Code, str x_b.Head.Reason, int x_b.Head.Minor, .slice x_b_p2 x_b.Head.Fields.length x_b_c2, int x_b.Frame.Kind, int x_b.Frame.N, str x_b.Body, .slice x_b_p3 x_b.Trailers.length x_b_c3]] w0 (Ret w0 (fun R => .bool R) R) := by
 rw [zc5] at hm
 have hF : zo [] := zf
 have hO : Dk.Own w0 [] w0 [] := Dk.Own.refl w0
 have hO := hO.addShr hs0 (by simp [Res.shared])
 have hO := hO.addShr hs1 (by simp [Res.shared])
 have hO := hO.addShr hs2 (by simp [Res.shared])
 have hO := hO.addShr hs3 (by simp [Res.shared])
 refine S.enter tb Tryz.func22 rfl Tryz.ntmps22 rfl ?_ hO hm
 refine bo rfl fun b1 => ?_
 refine bo rfl fun b2 => ?_
 refine jv 0 [] [0, 1, 2, 3, 4, 5] (fun J E L => ∃ (t9 : Bool), J ((4, .bool t9) :: E) (L) (zct t9)) rfl ?_ ?_
 refine ld 1 rfl rfl ?_
 refine ld 0 rfl rfl ?_
 refine cl c_50 rfl (fun r4 w hr4 hO => zk3 x_a.Head x_b.Head r4 _ (hG.own hF hO) (hO.sees (i := 5) rfl) hc0 (hO.sees (i := 3) rfl) hc2 hr4) fun r4 hr4 => ?_
 refine br rfl (fun hc5 => ?_) fun hc5 => ?_
 refine ld 1 rfl rfl ?_
 refine ld 0 rfl rfl ?_
 refine vl rfl rfl (fun a w hf hO => zn6 (by kernel_rfl) (eq_34 x_a.Frame x_b.Frame) hf rfl rfl) ?_
 refine br rfl (fun hc6 => ?_) fun hc6 => ?_
 refine ld 1 rfl rfl ?_
 refine ld 0 rfl rfl ?_
 refine br rfl (fun hc7 => ?_) fun hc7 => ?_
 refine ld 1 rfl rfl ?_
 refine ld 0 rfl rfl ?_
 refine cl c_51 rfl (fun r8 w hr8 hO => ziM x_a.Trailers x_b.Trailers r8 _ (hG.own hF hO) (hO.sees (i := 4) rfl) hc1 (hO.sees (i := 2) rfl) hc3 hr8) fun r8 hr8 => ?_
 exact en rfl fun _ _ j => ⟨r8, j rfl⟩
 exact en rfl fun _ _ j => ⟨false, j rfl⟩
 exact en rfl fun _ _ j => ⟨false, j rfl⟩
 exact en rfl fun _ _ j => ⟨false, j rfl⟩
 rintro a w ⟨t9, hf, hO, hm⟩
 rw [zct] at hm
 refine S.co tb ?_ hf hO hm
 exact rt Tryz.results22 rfl

theorem zk4 (x_code : Int) (R : Str) (w0 : World) (hG : zt w0) (hm : zeV x_code = some R) :
    Calls Tryz.prog 24 #[int x_code] w0 (Ret w0 (fun R => str R) R) := by
 rw [zeV] at hm
 have hF : zo [] := zf
 have hO : Dk.Own w0 [] w0 [] := Dk.Own.refl w0
 refine S.enter tb Tryz.func24 rfl Tryz.ntmps24 rfl ?_ hO hm
 refine jv 0 [] [] (fun J E L => ∃ (s11 : Str), J ((3, str s11) :: E) (L) (zdC s11)) rfl ?_ ?_
 refine br rfl (fun hc5 => ?_) fun hc5 => ?_
 exact en rfl fun _ _ j => ⟨[52, 48, 48, 32, 66, 97, 100, 32, 82, 101, 113, 117, 101, 115, 116], j rfl⟩
 refine br rfl (fun hc7 => ?_) fun hc7 => ?_
 exact en rfl fun _ _ j => ⟨[52, 51, 49, 32, 82, 101, 113, 117, 101, 115, 116, 32, 72, 101, 97, 100, 101, 114, 32, 70, 105, 101, 108, 100, 115, 32, 84, 111, 111, 32, 76, 97, 114, 103, 101], j rfl⟩
 refine br rfl (fun hc9 => ?_) fun hc9 => ?_
 exact en rfl fun _ _ j => ⟨[53, 48, 50, 32, 66, 97, 100, 32, 71, 97, 116, 101, 119, 97, 121], j rfl⟩
 exact rt Tryz.results24 rfl
 rintro a w ⟨s11, hf, hO, hm⟩
 rw [zdC] at hm
 refine S.co tb ?_ hf hO hm
 refine bi rfl fun s12 hs12 => ?_
 refine bi rfl fun s13 hs13 => ?_
 exact rt Tryz.results24 rfl

theorem zii (x_a0 : Int) (x_a1 : Str) (R : Bool) (w0 : World) (hG : zH w0) (hm : za6 x_a0 x_a1 = some R) :
    Calls Tryz.prog 7 #[int x_a0, str x_a1] w0 (Ret w0 (fun R => .bool R) R) := by
 rw [za6] at hm
 have hF : zo [] := zf
 have hO : Dk.Own w0 [] w0 [] := Dk.Own.refl w0
 refine S.enter tb Tryz.func7 rfl Tryz.ntmps7 rfl ?_ hO hm
 refine cl c_11 rfl (fun r2 w hr2 hO => zky r2 _ (hG.own hF hO) hr2) fun r2 hr2 => ?_
 refine br rfl (fun hc4 => ?_) fun hc4 => ?_
 exact rt Tryz.results7 rfl
 refine rw_ rfl fun a w hf hO hm => ?_
 obtain ⟨r7, hr7, hm⟩ := ob hm
 refine zg (zi c_23 hf (vs := [int x_a0]) rfl) rfl hf rfl rfl (ziF x_a0 r7 _ (hG.own hF hO).1 hr7) ?_
 rintro e w' ⟨p8, c9, p10, c11, he, hO'⟩
 refine ⟨_, he, fun a hf => ?_⟩
 have hO := hO.call hO' (by simp [Res.shared])
 refine S.op tb ?_ hf hO hm
 refine al zkD rfl fun b12 => ?_
 refine nl 107 2 ?_
 refine nl 107 2 ?_
 refine st 2 rfl rfl ?_
 refine cl c_14 rfl (fun r14 w hr14 hO => ziI x_a0 r14 _ (hG.own hF hO) hr14) fun r14 hr14 => ?_
 refine jv 1 [0, 1, 5, 6, 7] [0, 1, 2, 3, 4] (fun J E L => ∃ (t18 : Bool), J ((32, .bool t18) :: E) (L) (zU x_a0 x_a1 r7 r14 t18)) rfl ?_ ?_
 refine cl c_24 rfl (fun r16 w hr16 hO => zk4 x_a0 r16 _ (hG.own hF hO).1 hr16) fun r16 hr16 => ?_
 refine br rfl (fun hc17 => ?_) fun hc17 => ?_
 exact en rfl fun _ _ j => ⟨true, j rfl⟩
 refine vl rfl rfl (fun a w hf hO => zkb Tryz.underlying4 hf rfl rfl) ?_
 exact en rfl fun _ _ j => ⟨!(r7.2 == (!(r14 == []))), j rfl⟩
 rintro a w ⟨t18, hf, hO, hm⟩
 rw [zU] at hm
 refine S.co tb ?_ hf hO hm
 refine br rfl (fun hc19 => ?_) fun hc19 => ?_
 exact rt Tryz.results7 rfl
 refine br rfl (fun hc23 => ?_) fun hc23 => ?_
 refine ld 2 rfl rfl ?_
 refine vl rfl rfl (fun a w hf hO => zl (vs := []) (v := .agg #[int 0, str [], str [], int 0, str [], int 0, .slice none 0 0, int 0, int 0, str [], .slice none 0 0]) hf rfl (by kernel_rfl)) ?_
 refine cl c_22 rfl (fun r24 w hr24 hO => ziN r7.1 ((⟨(⟨0, [], [], 0, [], 0, []⟩ : api_Head), (⟨0, 0⟩ : api_Frame), [], []⟩ : api_Message)) r24 _ (hG.own hF hO).1 (hO.rowSees (i := 3) rfl) (hO.rowCap (i := 3) rfl) (hO.rowSees (i := 4) rfl) (hO.rowCap (i := 4) rfl) (zw.nil _) (Nat.zero_le _) (zw.nil _) (Nat.zero_le _) hr24) fun r24 hr24 => ?_
 exact rt Tryz.results7 rfl
 refine rw_ rfl fun a w hf hO hm => ?_
 obtain ⟨r27, hr27, hm⟩ := ob hm
 refine zg (zi c_21 hf (vs := [int 2, str [71, 69, 84], str r14, int 200, .bool false]) rfl) rfl hf rfl rfl (zgZ 2 [71, 69, 84] r14 200 false r27 _ (hG.own hF hO) hr27) ?_
 rintro e w' ⟨p28, c29, p30, c31, he, hO'⟩
 refine ⟨_, he, fun a hf => ?_⟩
 have hO := hO.call hO' (by simp [Res.shared])
 refine S.op tb ?_ hf hO hm
 refine al zkD rfl fun b32 => ?_
 refine nl 107 2 ?_
 refine nl 107 2 ?_
 refine st 2 rfl rfl ?_
 refine rw_ rfl fun a w hf hO hm => ?_
 obtain ⟨r34, hr34, hm⟩ := ob hm
 refine zg (zi c_21 hf (vs := [int 2, str x_a1, str r14, int 200, .bool false]) rfl) rfl hf rfl rfl (zgZ 2 x_a1 r14 200 false r34 _ (hG.own hF hO) hr34) ?_
 rintro e w' ⟨p35, c36, p37, c38, he, hO'⟩
 refine ⟨_, he, fun a hf => ?_⟩
 have hO := hO.call hO' (by simp [Res.shared])
 refine S.op tb ?_ hf hO hm
 refine al zkD rfl fun b39 => ?_
 refine nl 107 2 ?_
 refine nl 107 2 ?_
 refine st 2 rfl rfl ?_
 refine jv 0 [] [0, 1, 2, 3, 4, 5, 6, 7, 8, 9, 10, 11, 12, 13, 14] (fun J E L => ∃ (t47 : Bool), J ((4, .bool t47) :: E) (L) (zN t47)) rfl ?_ ?_
 refine br rfl (fun hc41 => ?_) fun hc41 => ?_
 refine br rfl (fun hc42 => ?_) fun hc42 => ?_
 refine ld 7 rfl rfl ?_
 refine ld 12 rfl rfl ?_
 refine cl c_22 rfl (fun r43 w hr43 hO => ziN r27.1 r7.1 r43 _ (hG.own hF hO).1 (hO.rowSees (i := 8) rfl) (hO.rowCap (i := 8) rfl) (hO.rowSees (i := 9) rfl) (hO.rowCap (i := 9) rfl) (hO.rowSees (i := 13) rfl) (hO.rowCap (i := 13) rfl) (hO.rowSees (i := 14) rfl) (hO.rowCap (i := 14) rfl) hr43) fun r43 hr43 => ?_
 refine br rfl (fun hc44 => ?_) fun hc44 => ?_
 refine br rfl (fun hc45 => ?_) fun hc45 => ?_
 refine br rfl (fun hc46 => ?_) fun hc46 => ?_
 refine ld 12 rfl rfl ?_
 exact en rfl fun _ _ j => ⟨r7.1.Head.Code == x_a0, j rfl⟩
 exact en rfl fun _ _ j => ⟨false, j rfl⟩
 exact en rfl fun _ _ j => ⟨false, j rfl⟩
 exact en rfl fun _ _ j => ⟨false, j rfl⟩
 exact en rfl fun _ _ j => ⟨false, j rfl⟩
 exact en rfl fun _ _ j => ⟨false, j rfl⟩
 rintro a w ⟨t47, hf, hO, hm⟩
 rw [zN] at hm
 refine S.co tb ?_ hf hO hm
 exact rt Tryz.results7 rfl

end Go.Proofs
end
