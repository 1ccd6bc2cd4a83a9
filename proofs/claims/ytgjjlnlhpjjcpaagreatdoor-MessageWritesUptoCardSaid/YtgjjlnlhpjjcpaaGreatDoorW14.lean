/-
  Walks, written by a program (wip/gen): what its model says, the function returns; what was there before is as it was.
  Walks, written by a program (wip/gen): what its model says, the function returns; what was there before is as it was.
  Walks, written by a program (wip/gen): what its model says, the function returns; what was there before is as it was.
  Walks, written by a program (wip/gen): what its model says, the function returns; what was there before is as it was.
  Walks, written by a program (wip/gen): what its model says, the function returns; what was there before is as it was.
-/
import Derived.Test.YtgjjlnlhpjjcpaaGreatDoorLib
import Derived.Test.YtgjjlnlhpjjcpaaGreatDoorW5
import Derived.Test.YtgjjlnlhpjjcpaaGreatDoorW9
section
set_option linter.unusedVariables false
set_option maxHeartbeats 1000000
set_option linter.unusedSimpArgs false
set_option maxRecDepth 100000
namespace Go.Proofs
open Go.Dk Go.Dm Go.RowKit

theorem zi0 (x_a0 : message_reader) (x_a1 : Str) (x_a2 : Bool) (R : Int × Int × message_reader) (w0 : World) (hG : zr w0) {x_a0_b0 : Nat} {x_a0_b1 : Nat} {x_a0_p2 : Option Addr} {x_a0_c2 : Nat} {x_a0_p3 : Option Addr} {x_a0_c3 : Nat} {F : List Nat} (hF : zq F) (hO : Dk.Own w0 F w0 [.blk x_a0_b0 [ptr x_a0_b1 0, int x_a0.f_m.Head.Kind, str x_a0.f_m.Head.Method, str x_a0.f_m.Head.Target, int x_a0.f_m.Head.Code, str x_a0.f_m.Head.Reason, int x_a0.f_m.Head.Minor, .slice x_a0_p2 x_a0.f_m.Head.Fields.length x_a0_c2, int x_a0.f_m.Frame.Kind, int x_a0.f_m.Frame.N, str x_a0.f_m.Body, .slice x_a0_p3 x_a0.f_m.Trailers.length x_a0_c3] 103, .blk x_a0_b1 [.pointer none, int x_a0.Body.f_frame.Kind, int x_a0.Body.f_frame.N, int x_a0.Body.f_left, .bool x_a0.Body.f_done, .bool x_a0.Body.f_bad] 150, .row (.slice x_a0_p2 x_a0.f_m.Head.Fields.length x_a0_c2) 110 2 x_a0.f_m.Head.Fields.length (cells za x_a0.f_m.Head.Fields), .row (.slice x_a0_p3 x_a0.f_m.Trailers.length x_a0_c3) 110 2 x_a0.f_m.Trailers.length (cells za x_a0.f_m.Trailers)]) (hm : zcW x_a0 x_a1 x_a2 = some R) :
    Calls Tryz.prog 45 #[ptr x_a0_b0 0, str x_a1, .bool x_a2] w0 fun e w' => ∃ (p0 : Option Addr) (c0 : Nat) (p1 : Option Addr) (c1 : Nat), e = .returned (.tuple #[int R.1, int R.2.1]) ∧ Dk.Own w0 F w' [.blk x_a0_b0 [ptr x_a0_b1 0, int R.2.2.f_m.Head.Kind, str R.2.2.f_m.Head.Method, str R.2.2.f_m.Head.Target, int R.2.2.f_m.Head.Code, str R.2.2.f_m.Head.Reason, int R.2.2.f_m.Head.Minor, .slice p0 R.2.2.f_m.Head.Fields.length c0, int R.2.2.f_m.Frame.Kind, int R.2.2.f_m.Frame.N, str R.2.2.f_m.Body, .slice p1 R.2.2.f_m.Trailers.length c1] 103, .blk x_a0_b1 [.pointer none, int R.2.2.Body.f_frame.Kind, int R.2.2.Body.f_frame.N, int R.2.2.Body.f_left, .bool R.2.2.Body.f_done, .bool R.2.2.Body.f_bad] 150, .row (.slice p0 R.2.2.f_m.Head.Fields.length c0) 110 2 R.2.2.f_m.Head.Fields.length (cells za R.2.2.f_m.Head.Fields), .row (.slice p1 R.2.2.f_m.Trailers.length c1) 110 2 R.2.2.f_m.Trailers.length (cells za R.2.2.f_m.Trailers)] := by
 rw [zcW] at hm
 refine S.enter tb Tryz.func45 rfl Tryz.ntmps45 rfl ?_ hO hm
 refine jv 0 [0, 2] [2, 3] (fun J E L => ∃ (i13 : Int) (i14 : Int) (i15 : Int) (i16 : Int) (t17 : Bool) (t18 : Bool) (s19 : Str), J ((8, int i13) :: E) (.blk x_a0_b1 [.pointer none, int i14, int i15, int i16, .bool t17, .bool t18] 150 :: .blk x_a0_b0 [ptr x_a0_b1 0, int x_a0.f_m.Head.Kind, str x_a0.f_m.Head.Method, str x_a0.f_m.Head.Target, int x_a0.f_m.Head.Code, str x_a0.f_m.Head.Reason, int x_a0.f_m.Head.Minor, .slice x_a0_p2 x_a0.f_m.Head.Fields.length x_a0_c2, int x_a0.f_m.Frame.Kind, int x_a0.f_m.Frame.N, str s19, .slice x_a0_p3 x_a0.f_m.Trailers.length x_a0_c3] 103 :: L) (zaR x_a0 x_a2 i13 i14 i15 i16 t17 t18 s19)) rfl ?_ ?_
 refine ld 0 rfl rfl ?_
 refine cl c_75 rfl (fun r3 w hr3 hO => zhR (⟨default, x_a0.Body.f_frame, x_a0.Body.f_left, x_a0.Body.f_done, x_a0.Body.f_bad⟩ : body_Body) r3 _ (hG.own hF hO) (hO.blkSees (i := 1) rfl) hr3) fun r3 hr3 => ?_
 refine br rfl (fun hc5 => ?_) fun hc5 => ?_
 refine ld 0 rfl rfl ?_
 refine cw0 c_76 [1, 0, 2, 3] 1 [] rfl (fun r6 w hr6 hO hfar7 hlend7 => zme (⟨default, x_a0.Body.f_frame, x_a0.Body.f_left, x_a0.Body.f_done, x_a0.Body.f_bad⟩ : body_Body) x_a1 r6 _ (hG.own hF hO) hfar7 hlend7 hr6) (fun _ _ => trivial) hF hG.size fun r6 hr6 => ?_
 refine br rfl (fun hc10 => ?_) fun hc10 => ?_
 refine re_ rfl fun a w hf hO hm => ?_
 obtain rfl := Option.some.inj hm
 exact zc Tryz.results45 hf (.tmp rfl (.tmp rfl .nil)) ⟨x_a0_p2, x_a0_c2, x_a0_p3, x_a0_c3, rfl, (hO.choose [1, 0, 2, 3] rfl)⟩
 refine st 1 rfl rfl ?_
 exact en rfl fun _ _ j => ⟨r6.1, r6.2.2.2.2.f_frame.Kind, r6.2.2.2.2.f_frame.N, r6.2.2.2.2.f_left, r6.2.2.2.2.f_done, r6.2.2.2.2.f_bad, r6.2.1, j rfl⟩
 exact ec [1, 0, 2, 3] rfl rfl rfl fun _ _ j => ⟨0, x_a0.Body.f_frame.Kind, x_a0.Body.f_frame.N, x_a0.Body.f_left, x_a0.Body.f_done, x_a0.Body.f_bad, x_a0.f_m.Body, j rfl⟩
 rintro a w ⟨i13, i14, i15, i16, t17, t18, s19, hf, hO, hm⟩
 rw [zaR] at hm
 refine S.co tb ?_ hf hO hm
 refine jv 0 [0, 8] [1, 2, 3] (fun J E L => ∃ (i25 : Int) (i26 : Int) (i27 : Int) (t28 : Bool) (t29 : Bool), J (E) (.blk x_a0_b1 [.pointer none, int i25, int i26, int i27, .bool t28, .bool t29] 150 :: L) (zaP x_a0 i13 s19 i25 i26 i27 t28 t29)) rfl ?_ ?_
 refine jv 1 [0, 8] [0, 1, 2, 3] (fun J E L => ∃ (t21 : Bool), J ((48, .bool t21) :: E) (L) (zaQ x_a0 i13 i14 i15 i16 t17 t18 s19 t21)) rfl ?_ ?_
 refine ld 1 rfl rfl ?_
 refine br rfl (fun hc20 => ?_) fun hc20 => ?_
 exact en rfl fun _ _ j => ⟨x_a2, j rfl⟩
 exact en rfl fun _ _ j => ⟨false, j rfl⟩
 rintro a w ⟨t21, hf, hO, hm⟩
 rw [zaQ] at hm
 refine S.co tb ?_ hf hO hm
 refine br rfl (fun hc22 => ?_) fun hc22 => ?_
 refine ld 1 rfl rfl ?_
 refine cw0 c_77 [0, 1, 2, 3] 1 [] rfl (fun r23 w hr23 hO hfar24 hlend24 => zm1 ((⟨default, (⟨i14, i15⟩ : api_Frame), i16, t17, t18⟩ : body_Body)) r23 _ (hG.own hF hO) hfar24 hlend24 hr23) (fun _ _ => trivial) hF hG.size fun r23 hr23 => ?_
 exact en rfl fun _ _ j => ⟨r23.2.2.f_frame.Kind, r23.2.2.f_frame.N, r23.2.2.f_left, r23.2.2.f_done, r23.2.2.f_bad, j rfl⟩
 exact en rfl fun _ _ j => ⟨i14, i15, i16, t17, t18, j rfl⟩
 rintro a w ⟨i25, i26, i27, t28, t29, hf, hO, hm⟩
 rw [zaP] at hm
 refine S.co tb ?_ hf hO hm
 refine ld 1 rfl rfl ?_
 refine cl c_75 rfl (fun r30 w hr30 hO => zhR ((⟨default, (⟨i25, i26⟩ : api_Frame), i27, t28, t29⟩ : body_Body)) r30 _ (hG.own hF hO) (hO.blkSees (i := 0) rfl) hr30) fun r30 hr30 => ?_
 refine br rfl (fun hc32 => ?_) fun hc32 => ?_
 refine re_ rfl fun a w hf hO hm => ?_
 obtain rfl := Option.some.inj hm
 exact zc Tryz.results45 hf (.tmp rfl (.tmp rfl .nil)) ⟨x_a0_p2, x_a0_c2, x_a0_p3, x_a0_c3, rfl, (hO.choose [1, 0, 2, 3] rfl)⟩
 refine ld 1 rfl rfl ?_
 refine cm2 c_78 rfl (fun r35 w hr35 hO => zj2 ((⟨default, (⟨i25, i26⟩ : api_Frame), i27, t28, t29⟩ : body_Body)) r35 _ (hG.own hF hO) (hO.blkSees (i := 0) rfl) hr35) fun r35 hr35 p36 c37 => ?_
 refine st 2 rfl rfl ?_
 refine re_ rfl fun a w hf hO hm => ?_
 obtain rfl := Option.some.inj hm
 exact zc Tryz.results45 hf (.tmp rfl (.tmp rfl .nil)) ⟨x_a0_p2, x_a0_c2, p36, c37, rfl, (hO.choose [2, 1, 3, 0] rfl)⟩

theorem zqs (x_a0 : Int) (x_a1 : Str) (x_a2 : Str) (x_a3 : Int) (x_a4 : Bool) (R : api_Message × Int × Int) (w0 : World) (hG : zaq w0) (hm : zkK x_a0 x_a1 x_a2 x_a3 x_a4 = some R) :
    Calls Tryz.prog 23 #[int x_a0, str x_a1, str x_a2, int x_a3, .bool x_a4] w0 fun e w' => ∃ (p0 : Option Addr) (c0 : Nat) (p1 : Option Addr) (c1 : Nat), e = .returned (.tuple #[.agg #[int R.1.Head.Kind, str R.1.Head.Method, str R.1.Head.Target, int R.1.Head.Code, str R.1.Head.Reason, int R.1.Head.Minor, .slice p0 R.1.Head.Fields.length c0, int R.1.Frame.Kind, int R.1.Frame.N, str R.1.Body, .slice p1 R.1.Trailers.length c1], int R.2.1, int R.2.2]) ∧ Dk.Own w0 [] w' [.row (.slice p0 R.1.Head.Fields.length c0) 110 2 R.1.Head.Fields.length (cells za R.1.Head.Fields), .row (.slice p1 R.1.Trailers.length c1) 110 2 R.1.Trailers.length (cells za R.1.Trailers)] := by
 rw [zkK] at hm
 have hF : zq [] := ze
 have hO : Dk.Own w0 [] w0 [] := Dk.Own.refl w0
 refine S.enter tb Tryz.func23 rfl Tryz.ntmps23 rfl ?_ hO hm
 refine al zyd rfl fun b1 => ?_
 refine nl 110 2 ?_
 refine nl 110 2 ?_
 refine jn 0 (fun a w => (∃ (i11 : Int), Fits 97 [(1, str x_a1), (2, str x_a2), (3, int x_a3), (4, .bool x_a4), (10, ptr b1 0), (13, .pointer none), (14, int i11)] a ∧ Dk.Own w0 [] w [.row (.slice none 0 0) 110 2 0 (cells za []), .row (.slice none 0 0) 110 2 0 (cells za []), .blk b1 [int 0, str [], str [], int 0, str [], int 0, .slice none 0 0, int 0, int 0, str [], .slice none 0 0] 40] ∧ zh9 i11 = some R) ∨ (∃ (b16 : Nat) (i17 : Int) (i18 : Int) (i19 : Int) (p20 : Option Addr) (c21 : Nat) (l22 : List UInt8) (i23 : Int) (t24 : Bool) (i25 : Int) (t26 : Bool) (i27 : Int) (s28 : Str) (s29 : Str) (i30 : Int) (s31 : Str) (i32 : Int) (p33 : Option Addr) (c34 : Nat) (l35 : List api_Field), Fits 97 [(1, str x_a1), (2, str x_a2), (3, int x_a3), (4, .bool x_a4), (10, ptr b1 0), (13, ptr b16 0), (14, int i17)] a ∧ Dk.Own w0 [] w [.blk b16 [int i18, int i19, .slice p20 l22.length c21, int i23, .bool t24, int i25, .bool t26, int i27, str s28, str s29, int i30, str s31, int i32, .slice p33 l35.length c34] 143, .row (.slice p20 l22.length c21) 5 1 l22.length (cells zp l22), .row (.slice p33 l35.length c34) 110 2 l35.length (cells za l35), .row (.slice none 0 0) 110 2 0 (cells za []), .row (.slice none 0 0) 110 2 0 (cells za []), .blk b1 [int 0, str [], str [], int 0, str [], int 0, .slice none 0 0, int 0, int 0, str [], .slice none 0 0] 40] ∧ zid x_a1 x_a2 x_a3 x_a4 i17 i18 i19 l22 i23 t24 i25 t26 i27 s28 s29 i30 s31 i32 l35 = some R)) rfl ?_ ?_
 refine rw_ rfl fun a w hf hO hm => ?_
 obtain ⟨r3, hr3, hm⟩ := ob hm
 refine zmo (zak c_41 hf (vs := [int x_a0, int x_a3]) rfl) rfl hf rfl rfl (zvu x_a0 x_a3 r3 _ (hG.own hF hO).1 hr3) ?_
 rintro e w' hpost4
 rcases hopt4 : r3.1 with _ | x5
 have hm := zt2 hopt4 hm
 obtain ⟨he, hb⟩ := zqG hopt4 hpost4
 refine ⟨_, he, fun a hf => ?_⟩
 have hO := hO.grow hb
 refine S.op tb ?_ hf hO hm
 refine eo rfl fun a w hf hO hm => ?_
 exact Or.inl ⟨r3.2, hf.sel rfl, hO, hm⟩
 have hm := zt3 hopt4 hm
 obtain ⟨b6, p7, c8, p9, c10, he, hO'⟩ := zqH hopt4 hpost4
 refine ⟨_, he, fun a hf => ?_⟩
 have hO := hO.call hO' (by simp [Res.shared])
 refine S.op tb ?_ hf hO hm
 refine eo rfl fun a w hf hO hm => ?_
 exact Or.inr (⟨b6, r3.2, x5.f_kind, x5.f_limit, p7, c8, x5.f_buf, x5.f_from, x5.f_took, x5.f_bad, x5.f_whole, x5.f_got.Kind, x5.f_got.Method, x5.f_got.Target, x5.f_got.Code, x5.f_got.Reason, x5.f_got.Minor, p9, c10, x5.f_got.Fields, hf.sel rfl, hO, hm⟩)
 rintro a w (⟨i11, hf, hO, hm⟩ | ⟨b16, i17, i18, i19, p20, c21, l22, i23, t24, i25, t26, i27, s28, s29, i30, s31, i32, p33, c34, l35, hf, hO, hm⟩)
 rw [zh9] at hm
 refine S.co tb ?_ hf hO hm
 refine br rfl (fun hc13 => ?_) fun hc13 => ?_
 refine vl rfl rfl (fun a w hf hO => zg (vs := []) (v := .agg #[int 0, str [], str [], int 0, str [], int 0, .slice none 0 0, int 0, int 0, str [], .slice none 0 0]) hf rfl (by kernel_rfl)) ?_
 refine st 2 rfl rfl ?_
 refine nl 110 2 ?_
 refine nl 110 2 ?_
 refine re_ rfl fun a w hf hO hm => ?_
 obtain rfl := Option.some.inj hm
 exact zc Tryz.results23 hf (.cell rfl (zd (n := 11) (vs := [int 0, str [], str [], int 0, str [], int 0, .slice none 0 0, int 0, int 0, str [], .slice none 0 0]) zmp zmq rfl ((hO.blkSees (i := 4) rfl).cells (o := 0) (n := 11) rfl)) (.tmp rfl (.tmp rfl .nil))) ⟨none, 0, none, 0, rfl, (hO.choose [1, 0] rfl)⟩
 refine rw_ rfl fun a w hf hO hm => ?_
 cases hm
 rw [zid] at hm
 refine S.co tb ?_ hf hO hm
 refine br rfl (fun hc37 => ?_) fun hc37 => ?_
 refine vl rfl rfl (fun a w hf hO => zg (vs := []) (v := .agg #[int 0, str [], str [], int 0, str [], int 0, .slice none 0 0, int 0, int 0, str [], .slice none 0 0]) hf rfl (by kernel_rfl)) ?_
 refine st 5 rfl rfl ?_
 refine nl 110 2 ?_
 refine nl 110 2 ?_
 refine re_ rfl fun a w hf hO hm => ?_
 obtain rfl := Option.some.inj hm
 exact zc Tryz.results23 hf (.cell rfl (zd (n := 11) (vs := [int 0, str [], str [], int 0, str [], int 0, .slice none 0 0, int 0, int 0, str [], .slice none 0 0]) zmp zmq rfl ((hO.blkSees (i := 7) rfl).cells (o := 0) (n := 11) rfl)) (.tmp rfl (.tmp rfl .nil))) ⟨none, 0, none, 0, rfl, (hO.choose [1, 0] rfl)⟩
 refine cw4 c_42 [0, 1, 2, 3, 4, 5] 3 [] rfl (fun r40 w hr40 hO hfar45 hlend45 => zof ((⟨i18, i19, l22, i23, t24, i25, t26, (⟨i27, s28, s29, i30, s31, i32, l35⟩ : api_Head)⟩ : accum_Accum)) x_a2 r40 _ (hG.own hF hO) hfar45 hlend45 hr40) (fun _ _ => trivial) hF hG.size fun r40 hr40 p41 c42 p43 c44 => ?_
 refine br rfl (fun hc48 => ?_) fun hc48 => ?_
 refine vl rfl rfl (fun a w hf hO => zg (vs := []) (v := .agg #[int 0, str [], str [], int 0, str [], int 0, .slice none 0 0, int 0, int 0, str [], .slice none 0 0]) hf rfl (by kernel_rfl)) ?_
 refine st 5 rfl rfl ?_
 refine nl 110 2 ?_
 refine nl 110 2 ?_
 refine re_ rfl fun a w hf hO hm => ?_
 obtain rfl := Option.some.inj hm
 exact zc Tryz.results23 hf (.cell rfl (zd (n := 11) (vs := [int 0, str [], str [], int 0, str [], int 0, .slice none 0 0, int 0, int 0, str [], .slice none 0 0]) zmp zmq rfl ((hO.blkSees (i := 7) rfl).cells (o := 0) (n := 11) rfl)) (.tmp rfl (.tmp rfl .nil))) ⟨none, 0, none, 0, rfl, (hO.choose [1, 0] rfl)⟩
 refine br rfl (fun hc51 => ?_) fun hc51 => ?_
 refine vl rfl rfl (fun a w hf hO => zg (vs := []) (v := .agg #[int 0, str [], str [], int 0, str [], int 0, .slice none 0 0, int 0, int 0, str [], .slice none 0 0]) hf rfl (by kernel_rfl)) ?_
 refine st 5 rfl rfl ?_
 refine nl 110 2 ?_
 refine nl 110 2 ?_
 refine re_ rfl fun a w hf hO hm => ?_
 obtain rfl := Option.some.inj hm
 exact zc Tryz.results23 hf (.cell rfl (zd (n := 11) (vs := [int 0, str [], str [], int 0, str [], int 0, .slice none 0 0, int 0, int 0, str [], .slice none 0 0]) zmp zmq rfl ((hO.blkSees (i := 7) rfl).cells (o := 0) (n := 11) rfl)) (.tmp rfl (.tmp rfl .nil))) ⟨none, 0, none, 0, rfl, (hO.choose [1, 0] rfl)⟩
 refine cm2 c_43 rfl (fun r54 w hr54 hO => zn4 r40.2.2.2 r54 _ (hG.own hF hO).1 (hO.blkSees (i := 0) rfl) (hO.rowSees (i := 1) rfl) (hO.rowCap (i := 1) rfl) (hO.rowSees (i := 2) rfl) (hO.rowCap (i := 2) rfl) hr54) fun r54 hr54 p55 c56 => ?_
 refine al zj7 rfl fun b57 => ?_
 refine nl 110 2 ?_
 refine st 1 rfl rfl ?_
 refine ld 1 rfl rfl ?_
 refine cl c_31 rfl (fun r59 w hr59 hO => zlZ x_a1 r54.1 r59 _ (hG.own hF hO).1 (hO.rowSees (i := 2) rfl) (hO.rowCap (i := 2) rfl) hr59) fun r59 hr59 => ?_
 refine al zlQ rfl fun b60 => ?_
 refine st 0 rfl rfl ?_
 refine br rfl (fun hc63 => ?_) fun hc63 => ?_
 refine vl rfl rfl (fun a w hf hO => zg (vs := []) (v := .agg #[int 0, str [], str [], int 0, str [], int 0, .slice none 0 0, int 0, int 0, str [], .slice none 0 0]) hf rfl (by kernel_rfl)) ?_
 refine st 9 rfl rfl ?_
 refine nl 110 2 ?_
 refine nl 110 2 ?_
 refine re_ rfl fun a w hf hO hm => ?_
 obtain rfl := Option.some.inj hm
 exact zc Tryz.results23 hf (.cell rfl (zd (n := 11) (vs := [int 0, str [], str [], int 0, str [], int 0, .slice none 0 0, int 0, int 0, str [], .slice none 0 0]) zmp zmq rfl ((hO.blkSees (i := 11) rfl).cells (o := 0) (n := 11) rfl)) (.tmp rfl (.tmp rfl .nil))) ⟨none, 0, none, 0, rfl, (hO.choose [1, 0] rfl)⟩
 refine ld 2 rfl rfl ?_
 refine ld 0 rfl rfl ?_
 refine vl rfl rfl (fun a w hf hO => zg (vs := [(0, .agg #[int r54.1.Kind, str r54.1.Method, str r54.1.Target, int r54.1.Code, str r54.1.Reason, int r54.1.Minor, .slice p55 r54.1.Fields.length c56]), (1, .agg #[int r59.1.Kind, int r59.1.N])]) (v := .agg #[int r54.1.Kind, str r54.1.Method, str r54.1.Target, int r54.1.Code, str r54.1.Reason, int r54.1.Minor, .slice p55 r54.1.Fields.length c56, int r59.1.Kind, int r59.1.N, str [], .slice none 0 0]) hf rfl (by kernel_rfl)) ?_
 refine vl rfl rfl (fun a w hf hO => zg (vs := [(1, .agg #[int r54.1.Kind, str r54.1.Method, str r54.1.Target, int r54.1.Code, str r54.1.Reason, int r54.1.Minor, .slice p55 r54.1.Fields.length c56, int r59.1.Kind, int r59.1.N, str [], .slice none 0 0])]) (v := .agg #[.pointer none, int r54.1.Kind, str r54.1.Method, str r54.1.Target, int r54.1.Code, str r54.1.Reason, int r54.1.Minor, .slice p55 r54.1.Fields.length c56, int r59.1.Kind, int r59.1.N, str [], .slice none 0 0]) hf rfl (by kernel_rfl)) ?_
 refine bo rfl fun b66 => ?_
 refine nl 110 2 ?_
 refine jn 0 (fun a w => (Fits 97 [(2, str x_a2), (4, .bool x_a4), (10, ptr b1 0), (15, int r40.1), (20, ptr b66 0)] a ∧ Dk.Own w0 [] w [.row (.slice none 0 0) 110 2 0 (cells za []), .blk b66 [.pointer none, int r54.1.Kind, str r54.1.Method, str r54.1.Target, int r54.1.Code, str r54.1.Reason, int r54.1.Minor, .slice p55 r54.1.Fields.length c56, int r59.1.Kind, int r59.1.N, str [], .slice none 0 0] 103, .blk b60 [int r59.1.Kind, int r59.1.N] 38, .row (.slice none 0 0) 110 2 0 (cells za []), .blk b57 [int r54.1.Kind, str r54.1.Method, str r54.1.Target, int r54.1.Code, str r54.1.Reason, int r54.1.Minor, .slice p55 r54.1.Fields.length c56] 35, .row (.slice p55 r54.1.Fields.length c56) 110 2 r54.1.Fields.length (cells za r54.1.Fields), .blk b16 [int r40.2.2.2.f_kind, int r40.2.2.2.f_limit, .slice p41 r40.2.2.2.f_buf.length c42, int r40.2.2.2.f_from, .bool r40.2.2.2.f_took, int r40.2.2.2.f_bad, .bool r40.2.2.2.f_whole, int r40.2.2.2.f_got.Kind, str r40.2.2.2.f_got.Method, str r40.2.2.2.f_got.Target, int r40.2.2.2.f_got.Code, str r40.2.2.2.f_got.Reason, int r40.2.2.2.f_got.Minor, .slice p43 r40.2.2.2.f_got.Fields.length c44] 143, .row (.slice p41 r40.2.2.2.f_buf.length c42) 5 1 r40.2.2.2.f_buf.length (cells zp r40.2.2.2.f_buf), .row (.slice p43 r40.2.2.2.f_got.Fields.length c44) 110 2 r40.2.2.2.f_got.Fields.length (cells za r40.2.2.2.f_got.Fields), .row (.slice none 0 0) 110 2 0 (cells za []), .row (.slice none 0 0) 110 2 0 (cells za []), .blk b1 [int 0, str [], str [], int 0, str [], int 0, .slice none 0 0, int 0, int 0, str [], .slice none 0 0] 40] ∧ zia x_a2 r40 = some R) ∨ (∃ (b79 : Nat) (i80 : Int) (i81 : Int) (i82 : Int) (t83 : Bool) (t84 : Bool) (i85 : Int) (i86 : Int) (p87 : Option Addr) (c88 : Nat) (l89 : List UInt8) (i90 : Int) (i91 : Int) (i92 : Int) (p93 : Option Addr) (c94 : Nat) (l95 : List api_Field) (b96 : Nat), Fits 97 [(2, str x_a2), (4, .bool x_a4), (10, ptr b1 0), (15, int r40.1), (20, ptr b66 0)] a ∧ Dk.Own w0 [] w [.blk b96 [ptr b79 0, int i80, int i81, int i82, .bool t83, .bool t84] 150, .blk b79 [int i85, int i86, .slice p87 l89.length c88, int i90, int i91, int i92, .slice p93 l95.length c94] 201, .row (.slice p87 l89.length c88) 5 1 l89.length (cells zp l89), .row (.slice p93 l95.length c94) 110 2 l95.length (cells za l95), .row (.slice none 0 0) 110 2 0 (cells za []), .blk b66 [ptr b96 0, int r54.1.Kind, str r54.1.Method, str r54.1.Target, int r54.1.Code, str r54.1.Reason, int r54.1.Minor, .slice p55 r54.1.Fields.length c56, int r59.1.Kind, int r59.1.N, str [], .slice none 0 0] 103, .blk b60 [int r59.1.Kind, int r59.1.N] 38, .row (.slice none 0 0) 110 2 0 (cells za []), .blk b57 [int r54.1.Kind, str r54.1.Method, str r54.1.Target, int r54.1.Code, str r54.1.Reason, int r54.1.Minor, .slice p55 r54.1.Fields.length c56] 35, .row (.slice p55 r54.1.Fields.length c56) 110 2 r54.1.Fields.length (cells za r54.1.Fields), .blk b16 [int r40.2.2.2.f_kind, int r40.2.2.2.f_limit, .slice p41 r40.2.2.2.f_buf.length c42, int r40.2.2.2.f_from, .bool r40.2.2.2.f_took, int r40.2.2.2.f_bad, .bool r40.2.2.2.f_whole, int r40.2.2.2.f_got.Kind, str r40.2.2.2.f_got.Method, str r40.2.2.2.f_got.Target, int r40.2.2.2.f_got.Code, str r40.2.2.2.f_got.Reason, int r40.2.2.2.f_got.Minor, .slice p43 r40.2.2.2.f_got.Fields.length c44] 143, .row (.slice p41 r40.2.2.2.f_buf.length c42) 5 1 r40.2.2.2.f_buf.length (cells zp r40.2.2.2.f_buf), .row (.slice p43 r40.2.2.2.f_got.Fields.length c44) 110 2 r40.2.2.2.f_got.Fields.length (cells za r40.2.2.2.f_got.Fields), .row (.slice none 0 0) 110 2 0 (cells za []), .row (.slice none 0 0) 110 2 0 (cells za []), .blk b1 [int 0, str [], str [], int 0, str [], int 0, .slice none 0 0, int 0, int 0, str [], .slice none 0 0] 40] ∧ zib x_a2 r40 i80 i81 i82 t83 t84 i85 i86 l89 i90 i91 i92 l95 = some R) ∨ (∃ (i98 : Int) (i99 : Int) (i100 : Int) (t101 : Bool) (t102 : Bool) (b103 : Nat), Fits 97 [(2, str x_a2), (4, .bool x_a4), (10, ptr b1 0), (15, int r40.1), (20, ptr b66 0)] a ∧ Dk.Own w0 [] w [.blk b103 [.pointer none, int i98, int i99, int i100, .bool t101, .bool t102] 150, .row (.slice none 0 0) 110 2 0 (cells za []), .blk b66 [ptr b103 0, int r54.1.Kind, str r54.1.Method, str r54.1.Target, int r54.1.Code, str r54.1.Reason, int r54.1.Minor, .slice p55 r54.1.Fields.length c56, int r59.1.Kind, int r59.1.N, str [], .slice none 0 0] 103, .blk b60 [int r59.1.Kind, int r59.1.N] 38, .row (.slice none 0 0) 110 2 0 (cells za []), .blk b57 [int r54.1.Kind, str r54.1.Method, str r54.1.Target, int r54.1.Code, str r54.1.Reason, int r54.1.Minor, .slice p55 r54.1.Fields.length c56] 35, .row (.slice p55 r54.1.Fields.length c56) 110 2 r54.1.Fields.length (cells za r54.1.Fields), .blk b16 [int r40.2.2.2.f_kind, int r40.2.2.2.f_limit, .slice p41 r40.2.2.2.f_buf.length c42, int r40.2.2.2.f_from, .bool r40.2.2.2.f_took, int r40.2.2.2.f_bad, .bool r40.2.2.2.f_whole, int r40.2.2.2.f_got.Kind, str r40.2.2.2.f_got.Method, str r40.2.2.2.f_got.Target, int r40.2.2.2.f_got.Code, str r40.2.2.2.f_got.Reason, int r40.2.2.2.f_got.Minor, .slice p43 r40.2.2.2.f_got.Fields.length c44] 143, .row (.slice p41 r40.2.2.2.f_buf.length c42) 5 1 r40.2.2.2.f_buf.length (cells zp r40.2.2.2.f_buf), .row (.slice p43 r40.2.2.2.f_got.Fields.length c44) 110 2 r40.2.2.2.f_got.Fields.length (cells za r40.2.2.2.f_got.Fields), .row (.slice none 0 0) 110 2 0 (cells za []), .row (.slice none 0 0) 110 2 0 (cells za []), .blk b1 [int 0, str [], str [], int 0, str [], int 0, .slice none 0 0, int 0, int 0, str [], .slice none 0 0] 40] ∧ zic x_a2 x_a4 r40 r54 r59 i98 i99 i100 t101 t102 = some R)) rfl ?_ ?_
 refine ld 2 rfl rfl ?_
 refine rw_ rfl fun a w hf hO hm => ?_
 obtain ⟨r68, hr68, hm⟩ := ob hm
 refine zmo (zak c_44 hf (vs := [.agg #[int r59.1.Kind, int r59.1.N], int x_a3]) rfl) rfl hf rfl rfl (zwm r59.1 x_a3 r68 _ (hG.own hF hO).1 hr68) ?_
 rintro e w' hpost69
 rcases hopt69 : r68.1 with _ | x70
 have hm := zt2 hopt69 hm
 obtain ⟨he, hb⟩ := zqG hopt69 hpost69
 refine ⟨_, he, fun a hf => ?_⟩
 have hO := hO.grow hb
 refine S.op tb ?_ hf hO hm
 refine st 1 rfl rfl ?_
 refine eo rfl fun a w hf hO hm => ?_
 exact Or.inl ⟨hf.sel rfl, hO, hm⟩
 have hm := zt3 hopt69 hm
 have hpost69 := zqH hopt69 hpost69
 rcases hbe69 : x70.1 with _ | _
 have hm := bE_f hbe69 hm
 obtain ⟨b77, he, hO'⟩ := bE_pf hbe69 hpost69
 refine ⟨_, he, fun a hf => ?_⟩
 have hO := hO.call hO' (by simp [Res.shared])
 refine S.op tb ?_ hf hO hm
 refine st 2 rfl rfl ?_
 refine eo rfl fun a w hf hO hm => ?_
 exact Or.inr (Or.inr (⟨x70.2.f_frame.Kind, x70.2.f_frame.N, x70.2.f_left, x70.2.f_done, x70.2.f_bad, b77, hf.sel rfl, hO, hm⟩))
 have hm := bE_t hbe69 hm
 obtain ⟨b71, b72, p73, c74, p75, c76, he, hO'⟩ := bE_pt hbe69 hpost69
 refine ⟨_, he, fun a hf => ?_⟩
 have hO := hO.call hO' (by simp [Res.shared])
 refine S.op tb ?_ hf hO hm
 refine st 5 rfl rfl ?_
 refine eo rfl fun a w hf hO hm => ?_
 exact Or.inr (Or.inl ⟨b72, x70.2.f_frame.Kind, x70.2.f_frame.N, x70.2.f_left, x70.2.f_done, x70.2.f_bad, x70.2.Decoder.f_limit, x70.2.Decoder.f_at, p73, c74, x70.2.Decoder.f_line, x70.2.Decoder.f_left, x70.2.Decoder.f_sum, x70.2.Decoder.f_spent, p75, c76, x70.2.Decoder.f_trailers, b71, hf.sel rfl, hO, hm⟩)
 rintro a w (⟨hf, hO, hm⟩ | ⟨b79, i80, i81, i82, t83, t84, i85, i86, p87, c88, l89, i90, i91, i92, p93, c94, l95, b96, hf, hO, hm⟩ | ⟨i98, i99, i100, t101, t102, b103, hf, hO, hm⟩)
 rw [zia] at hm
 refine S.co tb ?_ hf hO hm
 refine bi rfl fun s78 hs78 => ?_
 refine rw_ rfl fun a w hf hO hm => ?_
 cases hm
 rw [zib] at hm
 refine S.co tb ?_ hf hO hm
 refine bi rfl fun s97 hs97 => ?_
 refine rw_ rfl fun a w hf hO hm => ?_
 cases hm
 rw [zic] at hm
 refine S.co tb ?_ hf hO hm
 refine bi rfl fun s104 hs104 => ?_
 refine cw4 c_45 [2, 0, 6, 1, 3, 4, 5, 7, 8, 9, 10, 11, 12] 4 [] rfl (fun r105 w hr105 hO hfar110 hlend110 => zi0 ((⟨(⟨default, (⟨i98, i99⟩ : api_Frame), i100, t101, t102⟩ : body_Body), (⟨r54.1, r59.1, [], []⟩ : api_Message)⟩ : message_reader)) s104 x_a4 r105 _ (hG.own hF hO).1 hfar110 hlend110 hr105) (fun _ _ => trivial) hF hG.size fun r105 hr105 p106 c107 p108 c109 => ?_
 refine br rfl (fun hc113 => ?_) fun hc113 => ?_
 refine vl rfl rfl (fun a w hf hO => zg (vs := []) (v := .agg #[int 0, str [], str [], int 0, str [], int 0, .slice none 0 0, int 0, int 0, str [], .slice none 0 0]) hf rfl (by kernel_rfl)) ?_
 refine st 12 rfl rfl ?_
 refine nl 110 2 ?_
 refine nl 110 2 ?_
 refine re_ rfl fun a w hf hO hm => ?_
 obtain rfl := Option.some.inj hm
 exact zc Tryz.results23 hf (.cell rfl (zd (n := 11) (vs := [int 0, str [], str [], int 0, str [], int 0, .slice none 0 0, int 0, int 0, str [], .slice none 0 0]) zmp zmq rfl ((hO.blkSees (i := 14) rfl).cells (o := 0) (n := 11) rfl)) (.tmp rfl (.tmp rfl .nil))) ⟨none, 0, none, 0, rfl, (hO.choose [1, 0] rfl)⟩
 refine ld 0 rfl rfl ?_
 refine bi rfl fun i116 hi116 => ?_
 refine st 12 rfl rfl ?_
 refine re_ rfl fun a w hf hO hm => ?_
 obtain rfl := Option.some.inj hm
 exact zc Tryz.results23 hf (.cell rfl (zd (n := 11) (vs := [int r105.2.2.f_m.Head.Kind, str r105.2.2.f_m.Head.Method, str r105.2.2.f_m.Head.Target, int r105.2.2.f_m.Head.Code, str r105.2.2.f_m.Head.Reason, int r105.2.2.f_m.Head.Minor, .slice p106 r105.2.2.f_m.Head.Fields.length c107, int r105.2.2.f_m.Frame.Kind, int r105.2.2.f_m.Frame.N, str r105.2.2.f_m.Body, .slice p108 r105.2.2.f_m.Trailers.length c109]) zmp zmq rfl ((hO.blkSees (i := 12) rfl).cells (o := 0) (n := 11) rfl)) (.tmp rfl (.tmp rfl .nil))) ⟨p106, c107, p108, c109, rfl, (hO.sub (.cons _ (.cons _ (.cons_cons _ (.cons_cons _ (.cons _ (.cons _ (.cons _ (.cons _ (.cons _ (.cons _ (.cons _ (.cons _ (.cons _ .slnil))))))))))))))⟩

theorem zkA (x_s : Str) (x_c : UInt8) (R : List Str) (w0 : World) (hG : zr w0) (hm : zfm x_s x_c = some R) :
    Calls Tryz.prog 102 #[str x_s, zai x_c] w0 fun e w' => ∃ (p0 : Option Addr) (c0 : Nat), e = .returned (.slice p0 R.length c0) ∧ Dk.Own w0 [] w' [.row (.slice p0 R.length c0) 9 1 R.length (cells zf R)] := by
 rw [zfm] at hm
 have hF : zq [] := ze
 have hO : Dk.Own w0 [] w0 [] := Dk.Own.refl w0
 refine S.enter tb Tryz.func102 rfl Tryz.ntmps102 rfl ?_ hO hm
 refine nl 9 1 ?_
 refine nl 9 1 ?_
 refine lv [0, 1] [1] (fun J E L k => ∃ (p5 : Option Addr) (c6 : Nat) (l7 : List Str) (i8 : Int) (i9 : Int), J ((5, .slice p5 l7.length c6) :: (6, int i8) :: (7, int i9) :: E) (.row (.slice p5 l7.length c6) 9 1 l7.length (cells zf l7) :: L) (zbq x_s x_c k l7 i8 i9)) rfl (fun _ _ j => ⟨none, 0, [], 0, 0, j rfl⟩) ?_
 rintro n1 a w ⟨p5, c6, l7, i8, i9, hf, hO, hm⟩
 obtain _ | n1 := n1
 rw [zbq] at hm
 cases hm
 rw [zbq] at hm
 refine S.co tb ?_ hf hO hm
 refine br rfl (fun hc11 => ?_) fun hc11 => ?_
 refine jv 3 [0, 1, 7] [1] (fun J E L => ∃ (p23 : Option Addr) (c24 : Nat) (l25 : List Str) (i26 : Int), J ((5, .slice p23 l25.length c24) :: (6, int i26) :: E) (.row (.slice p23 l25.length c24) 9 1 l25.length (cells zf l25) :: L) (zfl (zbq x_s x_c n1) i9 l25 i26)) rfl ?_ ?_
 refine bi rfl fun b13 hb13 => ?_
 refine vl rfl rfl (fun a w hf hO => zz (b := b13) (c := x_c) hf rfl rfl) ?_
 refine br rfl (fun hc15 => ?_) fun hc15 => ?_
 refine bi rfl fun s16 hs16 => ?_
 refine rw_ rfl fun a w hf hO hm => ?_
 refine zt (vs := [(0, str s16)]) (cs := [str s16]) (e := 9) (sz := 1) hf rfl rfl (fun w => by kernel_rfl) rfl rfl hO fun a b17 w hf hO => ?_
 refine S.op tb ?_ hf hO hm
 refine rw_ rfl fun a w hf hO hm => ?_
 obtain ⟨hg20, hm⟩ := og hm
 refine zaL zjy (enc := zf) (xs := l7) (ys := ([s16] : List Str)) (i := 1) (fun _ => rfl) rfl (hO.rowSees (i := 0) rfl) (by simp [cells, zf, Value.oneCell']) hg20 hf rfl rfl rfl hO fun a p18 c19 w hf hO => ?_
 refine S.op tb ?_ hf hO hm
 refine bi rfl fun i22 hi22 => ?_
 exact ec [1, 2] rfl rfl rfl fun _ _ j => ⟨p18, c19, l7 ++ ([s16] : List Str), i22, j rfl⟩
 exact en rfl fun _ _ j => ⟨p5, c6, l7, i8, j rfl⟩
 rintro a w ⟨p23, c24, l25, i26, hf, hO, hm⟩
 rw [zfl] at hm
 refine S.co tb ?_ hf hO hm
 refine bi rfl fun i27 hi27 => ?_
 exact en rfl fun _ _ j => ⟨_, Nat.lt_succ_self _, p23, c24, l25, i26, i27, j rfl⟩
 refine bi rfl fun s29 hs29 => ?_
 refine rw_ rfl fun a w hf hO hm => ?_
 refine zt (vs := [(0, str s29)]) (cs := [str s29]) (e := 9) (sz := 1) hf rfl rfl (fun w => by kernel_rfl) rfl rfl hO fun a b30 w hf hO => ?_
 refine S.op tb ?_ hf hO hm
 refine rw_ rfl fun a w hf hO hm => ?_
 obtain ⟨hg33, hm⟩ := og hm
 refine zaL zjy (enc := zf) (xs := l7) (ys := ([s29] : List Str)) (i := 1) (fun _ => rfl) rfl (hO.rowSees (i := 0) rfl) (by simp [cells, zf, Value.oneCell']) hg33 hf rfl rfl rfl hO fun a p31 c32 w hf hO => ?_
 refine S.op tb ?_ hf hO hm
 refine re_ rfl fun a w hf hO hm => ?_
 obtain rfl := Option.some.inj hm
 exact zc Tryz.results102 hf (.tmp rfl .nil) ⟨p31, c32, rfl, (hO.sub (.cons _ (.cons_cons _ (.cons _ .slnil))))⟩

theorem zhV (x_b : UInt8) (x_l : Str) (R : Bool) (w0 : World) (hG : zr w0) (hm : zgo x_b x_l = some R) :
    Calls Tryz.prog 189 #[zai x_b, str x_l] w0 (Ret w0 (fun R => .bool R) R) := by
 rw [zgo] at hm
 have hF : zq [] := ze
 have hO : Dk.Own w0 [] w0 [] := Dk.Own.refl w0
 refine S.enter tb Tryz.func189 rfl Tryz.ntmps189 rfl ?_ hO hm
 refine lv [0, 1] [] (fun J E L k => ∃ (i3 : Int), J ((5, int i3) :: E) (L) (zea x_b x_l k i3)) rfl (fun _ _ j => ⟨0, j rfl⟩) ?_
 rintro n1 a w ⟨i3, hf, hO, hm⟩
 obtain _ | n1 := n1
 rw [zea] at hm
 cases hm
 rw [zea] at hm
 refine S.co tb ?_ hf hO hm
 refine br rfl (fun hc5 => ?_) fun hc5 => ?_
 refine bi rfl fun b7 hb7 => ?_
 refine vl rfl rfl (fun a w hf hO => zz (b := b7) (c := x_b) hf rfl rfl) ?_
 refine br rfl (fun hc9 => ?_) fun hc9 => ?_
 exact rt Tryz.results189 rfl
 refine bi rfl fun i12 hi12 => ?_
 exact en rfl fun _ _ j => ⟨_, Nat.lt_succ_self _, i12, j rfl⟩
 exact rt Tryz.results189 rfl

theorem znB (x_b : UInt8) (R : Bool) (w0 : World) (hG : zr w0) (hm : zeb x_b = some R) :
    Calls Tryz.prog 148 #[zai x_b] w0 (Ret w0 (fun R => .bool R) R) := by
 rw [zeb] at hm
 have hF : zq [] := ze
 have hO : Dk.Own w0 [] w0 [] := Dk.Own.refl w0
 refine S.enter tb Tryz.func148 rfl Tryz.ntmps148 rfl ?_ hO hm
 refine cl zsT rfl (fun r2 w hr2 hO => zhV x_b [48, 49, 50, 51, 52, 53, 54, 55, 56, 57] r2 _ (hG.own hF hO) hr2) fun r2 hr2 => ?_
 exact rt Tryz.results148 rfl

theorem zlR (x_s : Str) (R : Int) (w0 : World) (hG : zr w0) (hm : zcH x_s = some R) :
    Calls Tryz.prog 103 #[str x_s] w0 (Ret w0 (fun R => int R) R) := by
 rw [zcH] at hm
 have hF : zq [] := ze
 have hO : Dk.Own w0 [] w0 [] := Dk.Own.refl w0
 refine S.enter tb Tryz.func103 rfl Tryz.ntmps103 rfl ?_ hO hm
 refine jv 1 [0] [] (fun J E L => ∃ (t12 : Bool), J ((27, .bool t12) :: E) (L) (zbg x_s t12)) rfl ?_ ?_
 refine br rfl (fun hc2 => ?_) fun hc2 => ?_
 exact en rfl fun _ _ j => ⟨true, j rfl⟩
 refine bi rfl fun s3 hs3 => ?_
 refine br rfl (fun hc4 => ?_) fun hc4 => ?_
 exact en rfl fun _ _ j => ⟨true, j rfl⟩
 refine bi rfl fun b5 hb5 => ?_
 refine cl c_148 rfl (fun r6 w hr6 hO => znB b5 r6 _ (hG.own hF hO) hr6) fun r6 hr6 => ?_
 refine br rfl (fun hc7 => ?_) fun hc7 => ?_
 exact en rfl fun _ _ j => ⟨true, j rfl⟩
 refine bi rfl fun b8 hb8 => ?_
 refine vl rfl rfl (fun a w hf hO => zez (b := b8) (c := 46) hf rfl rfl) ?_
 refine br rfl (fun hc9 => ?_) fun hc9 => ?_
 exact en rfl fun _ _ j => ⟨true, j rfl⟩
 refine bi rfl fun b10 hb10 => ?_
 refine cl c_148 rfl (fun r11 w hr11 hO => znB b10 r11 _ (hG.own hF hO) hr11) fun r11 hr11 => ?_
 exact en rfl fun _ _ j => ⟨!r11, j rfl⟩
 rintro a w ⟨t12, hf, hO, hm⟩
 rw [zbg] at hm
 refine S.co tb ?_ hf hO hm
 refine br rfl (fun hc13 => ?_) fun hc13 => ?_
 exact rt Tryz.results103 rfl
 refine bi rfl fun s16 hs16 => ?_
 refine br rfl (fun hc18 => ?_) fun hc18 => ?_
 exact rt Tryz.results103 rfl
 refine bi rfl fun s21 hs21 => ?_
 refine br rfl (fun hc23 => ?_) fun hc23 => ?_
 exact rt Tryz.results103 rfl
 exact rt Tryz.results103 rfl

theorem zuQ (x_b : UInt8) (R : Bool) (w0 : World) (hG : zr w0) (hm : zk8 x_b = some R) :
    Calls Tryz.prog 140 #[zai x_b] w0 (Ret w0 (fun R => .bool R) R) := by
 rw [zk8] at hm
 have hF : zq [] := ze
 have hO : Dk.Own w0 [] w0 [] := Dk.Own.refl w0
 refine S.enter tb Tryz.func140 rfl Tryz.ntmps140 rfl ?_ hO hm
 refine cl zsT rfl (fun r2 w hr2 hO => zhV x_b [97, 98, 99, 100, 101, 102, 103, 104, 105, 106, 107, 108, 109, 110, 111, 112, 113, 114, 115, 116, 117, 118, 119, 120, 121, 122, 65, 66, 67, 68, 69, 70, 71, 72, 73, 74, 75, 76, 77, 78, 79, 80, 81, 82, 83, 84, 85, 86, 87, 88, 89, 90, 48, 49, 50, 51, 52, 53, 54, 55, 56, 57, 33, 35, 36, 37, 38, 39, 42, 43, 45, 46, 94, 95, 96, 124, 126] r2 _ (hG.own hF hO) hr2) fun r2 hr2 => ?_
 exact rt Tryz.results140 rfl

theorem zkB (x_s : Str) (R : Bool) (w0 : World) (hG : zr w0) (hm : zec x_s = some R) :
    Calls Tryz.prog 93 #[str x_s] w0 (Ret w0 (fun R => .bool R) R) := by
 rw [zec] at hm
 have hF : zq [] := ze
 have hO : Dk.Own w0 [] w0 [] := Dk.Own.refl w0
 refine S.enter tb Tryz.func93 rfl Tryz.ntmps93 rfl ?_ hO hm
 refine lv [0] [] (fun J E L k => ∃ (i3 : Int), J ((3, int i3) :: E) (L) (zb5 x_s k i3)) rfl (fun _ _ j => ⟨0, j rfl⟩) ?_
 rintro n1 a w ⟨i3, hf, hO, hm⟩
 obtain _ | n1 := n1
 rw [zb5] at hm
 cases hm
 rw [zb5] at hm
 refine S.co tb ?_ hf hO hm
 refine br rfl (fun hc5 => ?_) fun hc5 => ?_
 refine bi rfl fun b7 hb7 => ?_
 refine cl c_140 rfl (fun r8 w hr8 hO => zuQ b7 r8 _ (hG.own hF hO) hr8) fun r8 hr8 => ?_
 refine br rfl (fun hc10 => ?_) fun hc10 => ?_
 exact rt Tryz.results93 rfl
 refine bi rfl fun i13 hi13 => ?_
 exact en rfl fun _ _ j => ⟨_, Nat.lt_succ_self _, i13, j rfl⟩
 exact rt Tryz.results93 rfl

theorem znC (x_b : UInt8) (x_base : Int) (R : Int) (w0 : World) (hG : zr w0) (hm : zdm x_b x_base = some R) :
    Calls Tryz.prog 147 #[zai x_b, int x_base] w0 (Ret w0 (fun R => int R) R) := by
 rw [zdm] at hm
 have hF : zq [] := ze
 have hO : Dk.Own w0 [] w0 [] := Dk.Own.refl w0
 refine S.enter tb Tryz.func147 rfl Tryz.ntmps147 rfl ?_ hO hm
 refine lv [0, 1, 5, 6] [] (fun J E L k => ∃ (i5 : Int), J ((7, int i5) :: E) (L) (zF x_b x_base k i5)) rfl (fun _ _ j => ⟨0, j rfl⟩) ?_
 rintro n1 a w ⟨i5, hf, hO, hm⟩
 obtain _ | n1 := n1
 rw [zF] at hm
 cases hm
 rw [zF] at hm
 refine S.co tb ?_ hf hO hm
 refine br rfl (fun hc7 => ?_) fun hc7 => ?_
 refine jv 5 [0, 1, 5, 6, 7] [] (fun J E L => ∃ (t12 : Bool), J ((24, .bool t12) :: E) (L) (zfn (zF x_b x_base n1) i5 t12)) rfl ?_ ?_
 refine bi rfl fun b9 hb9 => ?_
 refine vl rfl rfl (fun a w hf hO => zz (b := b9) (c := x_b) hf rfl rfl) ?_
 refine br rfl (fun hc10 => ?_) fun hc10 => ?_
 exact en rfl fun _ _ j => ⟨true, j rfl⟩
 refine bi rfl fun b11 hb11 => ?_
 refine vl rfl rfl (fun a w hf hO => zz (b := b11) (c := x_b) hf rfl rfl) ?_
 exact en rfl fun _ _ j => ⟨b11 == x_b, j rfl⟩
 rintro a w ⟨t12, hf, hO, hm⟩
 rw [zfn] at hm
 refine S.co tb ?_ hf hO hm
 refine br rfl (fun hc13 => ?_) fun hc13 => ?_
 exact rt Tryz.results147 rfl
 refine bi rfl fun i16 hi16 => ?_
 exact en rfl fun _ _ j => ⟨_, Nat.lt_succ_self _, i16, j rfl⟩
 exact rt Tryz.results147 rfl

theorem zpB (n0 : Nat) : ∀ (x_n : Int) (x_base : Int) (R : Str) (w0 : World) (hG : zr w0) (hm : zb6 n0 x_n x_base = some R),
    Calls Tryz.prog 121 #[int x_n, int x_base] w0 (Ret w0 (fun R => str R) R) := by
  induction n0 with
  | zero => intro x_n x_base R w0 hG  hm; rw [zb6] at hm; cases hm
  | succ n0 ih =>
    intro x_n x_base R w0 hG  hm
    rw [zb6] at hm
    have hF : zq [] := ze
    have hO : Dk.Own w0 [] w0 [] := Dk.Own.refl w0
    refine S.enter tb Tryz.func121 rfl Tryz.ntmps121 rfl ?_ hO hm
    refine br rfl (fun hc4 => ?_) fun hc4 => ?_
    · refine bi rfl fun i5 hi5 => ?_
      refine bi rfl fun s6 hs6 => ?_
      exact rt Tryz.results121 rfl
    · refine rc_ rfl fun a w hf hO hm => ?_
      refine zcO (by kernel_rfl) (by kernel_rfl) hO ?_
      refine zj (fun w hO => zA hf rfl) rfl hf rfl rfl fun a hf => ?_
      refine zj (fun w hO => zA hf rfl) rfl hf rfl rfl fun a hf => ?_
      obtain ⟨i9, hi9, hm⟩ := ob hm
      refine zj (fun w hO => zx0 hf rfl rfl hi9) rfl hf rfl rfl fun a hf => ?_
      refine zj (fun w hO => zA hf rfl) rfl hf rfl rfl fun a hf => ?_
      obtain ⟨r10, hr10, hm⟩ := ob hm
      refine zn6 (fun w hO => zak zwJ hf (vs := [int i9, int x_base]) rfl) rfl hf rfl rfl (fun w hO => (ih i9 x_base r10 _ (hG.own hF hO) hr10).mono fun e w' ⟨he, hb⟩ => ⟨he, hO.grow hb⟩) fun a hf => ?_
      refine zj (fun w hO => zA hf rfl) rfl hf rfl rfl fun a hf => ?_
      refine zj (fun w hO => zA hf rfl) rfl hf rfl rfl fun a hf => ?_
      refine zj (fun w hO => zA hf rfl) rfl hf rfl rfl fun a hf => ?_
      obtain ⟨i11, hi11, hm⟩ := ob hm
      refine zj (fun w hO => zvS hf rfl rfl hi11) rfl hf rfl rfl fun a hf => ?_
      refine zj (fun w hO => zA hf rfl) rfl hf rfl rfl fun a hf => ?_
      refine zj (fun w hO => zA hf rfl) rfl hf rfl rfl fun a hf => ?_
      obtain ⟨i12, hi12, hm⟩ := ob hm
      refine zj (fun w hO => zvS hf rfl rfl hi12) rfl hf rfl rfl fun a hf => ?_
      obtain ⟨i13, hi13, hm⟩ := ob hm
      refine zj (fun w hO => zvR hf rfl rfl hi13) rfl hf rfl rfl fun a hf => ?_
      obtain ⟨s14, hs14, hm⟩ := ob hm
      refine zj (fun w hO => zmn (l := [48, 49, 50, 51, 52, 53, 54, 55, 56, 57, 97, 98, 99, 100, 101, 102]) Tryz.underlying9 hf rfl rfl rfl hs14) rfl hf rfl rfl fun a hf => ?_
      obtain ⟨s15, hs15, hm⟩ := ob hm
      refine zj (fun w hO => zpx (l := r10) (m := s14) hf rfl rfl hs15) rfl hf rfl rfl fun a hf => ?_
      refine zj (fun w hO => zay hf rfl) rfl hf rfl rfl fun a hf => ?_
      refine wpQuiet_nil ?_
      intro w hO
      refine S.no tb ?_ hf hO hm
      exact rt Tryz.results121 rfl
theorem zjA (x_n : Int) (x_base : Int) (R : Str) (w0 : World) (hG : zr w0) (hm : zeq x_n x_base = some R) :
    Calls Tryz.prog 121 #[int x_n, int x_base] w0 (Ret w0 (fun R => str R) R) :=
  zpB fuel x_n x_base R w0 hG  hm

theorem zsj (x_s : Str) (x_base : Int) (R : Str × Bool) (w0 : World) (hG : zr w0) (hm : ziI x_s x_base = some R) :
    Calls Tryz.prog 145 #[str x_s, int x_base] w0 (Ret w0 (fun R => .tuple #[str R.1, .bool R.2]) R) := by
 rw [ziI] at hm
 have hF : zq [] := ze
 have hO : Dk.Own w0 [] w0 [] := Dk.Own.refl w0
 refine S.enter tb Tryz.func145 rfl Tryz.ntmps145 rfl ?_ hO hm
 refine lv [0, 1] [] (fun J E L k => ∃ (s4 : Str) (i5 : Int), J ((6, str s4) :: (7, int i5) :: E) (L) (zaW x_s x_base k s4 i5)) rfl (fun _ _ j => ⟨[], 0, j rfl⟩) ?_
 rintro n1 a w ⟨s4, i5, hf, hO, hm⟩
 obtain _ | n1 := n1
 rw [zaW] at hm
 cases hm
 rw [zaW] at hm
 refine S.co tb ?_ hf hO hm
 refine br rfl (fun hc7 => ?_) fun hc7 => ?_
 refine jv 3 [0, 1, 7] [] (fun J E L => ∃ (s21 : Str), J ((6, str s21) :: E) (L) (zfo (zaW x_s x_base n1) i5 s21)) rfl ?_ ?_
 refine bi rfl fun b9 hb9 => ?_
 refine cl c_147 rfl (fun r10 w hr10 hO => znC b9 x_base r10 _ (hG.own hF hO) hr10) fun r10 hr10 => ?_
 refine br rfl (fun hc13 => ?_) fun hc13 => ?_
 exact rt Tryz.results145 rfl
 refine jv 5 [0, 1, 6, 7, 8] [] (fun J E L => ∃ (t17 : Bool), J ((27, .bool t17) :: E) (L) (zfp (zaW x_s x_base n1) x_base s4 i5 r10 t17)) rfl ?_ ?_
 refine br rfl (fun hc16 => ?_) fun hc16 => ?_
 exact en rfl fun _ _ j => ⟨true, j rfl⟩
 exact en rfl fun _ _ j => ⟨decide (0 < r10), j rfl⟩
 rintro a w ⟨t17, hf, hO, hm⟩
 rw [zfp] at hm
 refine S.co tb ?_ hf hO hm
 refine br rfl (fun hc18 => ?_) fun hc18 => ?_
 refine cl zwJ rfl (fun r19 w hr19 hO => zjA r10 x_base r19 _ (hG.own hF hO) hr19) fun r19 hr19 => ?_
 refine bi rfl fun s20 hs20 => ?_
 exact en rfl fun _ _ j => ⟨s20, j rfl⟩
 exact en rfl fun _ _ j => ⟨s4, j rfl⟩
 rintro a w ⟨s21, hf, hO, hm⟩
 rw [zfo] at hm
 refine S.co tb ?_ hf hO hm
 refine bi rfl fun i22 hi22 => ?_
 exact en rfl fun _ _ j => ⟨_, Nat.lt_succ_self _, s21, i22, j rfl⟩
 refine jv 0 [0] [] (fun J E L => ∃ (s26 : Str), J ((6, str s26) :: E) (L) (zfq x_s s26)) rfl ?_ ?_
 refine br rfl (fun hc25 => ?_) fun hc25 => ?_
 exact en rfl fun _ _ j => ⟨[48], j rfl⟩
 exact en rfl fun _ _ j => ⟨s4, j rfl⟩
 rintro a w ⟨s26, hf, hO, hm⟩
 rw [zfq] at hm
 refine S.co tb ?_ hf hO hm
 exact rt Tryz.results145 rfl

end Go.Proofs
end
section
set_option linter.unusedVariables false
set_option maxHeartbeats 1000000
set_option linter.unusedSimpArgs false
set_option maxRecDepth 100000
namespace Go.Proofs
open Go.Dk Go.Dm Go.RowKit

theorem ztK (x_a : Str) (x_b : Str) (R : Bool) (w0 : World) (hG : zr w0) (hm : zjL x_a x_b = some R) :
    Calls Tryz.prog 146 #[str x_a, str x_b] w0 (Ret w0 (fun R => .bool R) R) := by
 rw [zjL] at hm
 have hF : zq [] := ze
 have hO : Dk.Own w0 [] w0 [] := Dk.Own.refl w0
 refine S.enter tb Tryz.func146 rfl Tryz.ntmps146 rfl ?_ hO hm
 refine jv 0 [] [] (fun J E L => ∃ (t4 : Bool), J ((4, .bool t4) :: E) (L) (zcI t4)) rfl ?_ ?_
 refine br rfl (fun hc2 => ?_) fun hc2 => ?_
 exact en rfl fun _ _ j => ⟨true, j rfl⟩
 refine br rfl (fun hc3 => ?_) fun hc3 => ?_
 refine vl rfl rfl (fun a w hf hO => zx6 (l := x_a) (m := x_b) hf rfl rfl) ?_
 exact en rfl fun _ _ j => ⟨zp0 x_a x_b, j rfl⟩
 exact en rfl fun _ _ j => ⟨false, j rfl⟩
 rintro a w ⟨t4, hf, hO, hm⟩
 rw [zcI] at hm
 refine S.co tb ?_ hf hO hm
 exact rt Tryz.results146 rfl

theorem zlA (x_s : Str) (x_base : Int) (x_most : Int) (R : Int × Int) (w0 : World) (hG : zr w0) (hm : zfr x_s x_base x_most = some R) :
    Calls Tryz.prog 101 #[str x_s, int x_base, int x_most] w0 (Ret w0 (fun R => .tuple #[int R.1, int R.2]) R) := by
 rw [zfr] at hm
 have hF : zq [] := ze
 have hO : Dk.Own w0 [] w0 [] := Dk.Own.refl w0
 refine S.enter tb Tryz.func101 rfl Tryz.ntmps101 rfl ?_ hO hm
 refine cl c_145 rfl (fun r2 w hr2 hO => zsj x_s x_base r2 _ (hG.own hF hO) hr2) fun r2 hr2 => ?_
 refine br rfl (fun hc5 => ?_) fun hc5 => ?_
 exact rt Tryz.results101 rfl
 refine jv 1 [1, 8] [] (fun J E L => ∃ (t11 : Bool), J ((28, .bool t11) :: E) (L) (zeQ x_base r2 t11)) rfl ?_ ?_
 refine br rfl (fun hc8 => ?_) fun hc8 => ?_
 exact en rfl fun _ _ j => ⟨true, j rfl⟩
 refine cl zwJ rfl (fun r9 w hr9 hO => zjA x_most x_base r9 _ (hG.own hF hO) hr9) fun r9 hr9 => ?_
 refine cl c_146 rfl (fun r10 w hr10 hO => ztK r9 r2.1 r10 _ (hG.own hF hO) hr10) fun r10 hr10 => ?_
 exact en rfl fun _ _ j => ⟨r10, j rfl⟩
 rintro a w ⟨t11, hf, hO, hm⟩
 rw [zeQ] at hm
 refine S.co tb ?_ hf hO hm
 refine br rfl (fun hc12 => ?_) fun hc12 => ?_
 exact rt Tryz.results101 rfl
 refine lv [1, 8] [] (fun J E L k => ∃ (i17 : Int) (i18 : Int), J ((10, int i17) :: (11, int i18) :: E) (L) (zcJ x_base r2 k i17 i18)) rfl (fun _ _ j => ⟨0, 0, j rfl⟩) ?_
 rintro n2 a w ⟨i17, i18, hf, hO, hm⟩
 obtain _ | n2 := n2
 rw [zcJ] at hm
 cases hm
 rw [zcJ] at hm
 refine S.co tb ?_ hf hO hm
 refine br rfl (fun hc20 => ?_) fun hc20 => ?_
 refine bi rfl fun i22 hi22 => ?_
 refine bi rfl fun b23 hb23 => ?_
 refine cl c_147 rfl (fun r24 w hr24 hO => znC b23 x_base r24 _ (hG.own hF hO) hr24) fun r24 hr24 => ?_
 refine bi rfl fun i25 hi25 => ?_
 refine bi rfl fun i27 hi27 => ?_
 exact en rfl fun _ _ j => ⟨_, Nat.lt_succ_self _, i25, i27, j rfl⟩
 exact rt Tryz.results101 rfl

theorem zje (x_n : Int) (x_base : Int) (R : Str) (w0 : World) (hG : zr w0) (hm : zer x_n x_base = some R) :
    Calls Tryz.prog 84 #[int x_n, int x_base] w0 (Ret w0 (fun R => str R) R) := by
 rw [zer] at hm
 have hF : zq [] := ze
 have hO : Dk.Own w0 [] w0 [] := Dk.Own.refl w0
 refine S.enter tb Tryz.func84 rfl Tryz.ntmps84 rfl ?_ hO hm
 refine br rfl (fun hc3 => ?_) fun hc3 => ?_
 exact rt Tryz.results84 rfl
 refine cl zwJ rfl (fun r6 w hr6 hO => zjA x_n x_base r6 _ (hG.own hF hO) hr6) fun r6 hr6 => ?_
 exact rt Tryz.results84 rfl

theorem znM (x_s : Str) (x_most : Int) (R : Int) (w0 : World) (hG : zr w0) (hm : zgW x_s x_most = some R) :
    Calls Tryz.prog 143 #[str x_s, int x_most] w0 (Ret w0 (fun R => int R) R) := by
 rw [zgW] at hm
 have hF : zq [] := ze
 have hO : Dk.Own w0 [] w0 [] := Dk.Own.refl w0
 refine S.enter tb Tryz.func143 rfl Tryz.ntmps143 rfl ?_ hO hm
 refine br rfl (fun hc3 => ?_) fun hc3 => ?_
 exact rt Tryz.results143 rfl
 refine cl zy0 rfl (fun r6 w hr6 hO => zlA x_s 10 x_most r6 _ (hG.own hF hO) hr6) fun r6 hr6 => ?_
 refine jv 1 [5] [] (fun J E L => ∃ (t10 : Bool), J ((23, .bool t10) :: E) (L) (zd0 r6 t10)) rfl ?_ ?_
 refine br rfl (fun hc8 => ?_) fun hc8 => ?_
 exact en rfl fun _ _ j => ⟨true, j rfl⟩
 refine cl c_84 rfl (fun r9 w hr9 hO => zje r6.1 10 r9 _ (hG.own hF hO) hr9) fun r9 hr9 => ?_
 exact en rfl fun _ _ j => ⟨!(r9 == x_s), j rfl⟩
 rintro a w ⟨t10, hf, hO, hm⟩
 rw [zd0] at hm
 refine S.co tb ?_ hf hO hm
 refine br rfl (fun hc11 => ?_) fun hc11 => ?_
 exact rt Tryz.results143 rfl
 exact rt Tryz.results143 rfl

theorem zoQ (x_s : Str) (R : Bool) (w0 : World) (hG : zr w0) (hm : zie x_s = some R) :
    Calls Tryz.prog 191 #[str x_s] w0 (Ret w0 (fun R => .bool R) R) := by
 rw [zie] at hm
 have hF : zq [] := ze
 have hO : Dk.Own w0 [] w0 [] := Dk.Own.refl w0
 refine S.enter tb Tryz.func191 rfl Tryz.ntmps191 rfl ?_ hO hm
 refine cm2 zy1 rfl (fun r2 w hr2 hO => zkA x_s 46 r2 _ (hG.own hF hO) hr2) fun r2 hr2 p3 c4 => ?_
 refine lv [3] [0] (fun J E L k => ∃ (i7 : Int), J ((4, int i7) :: E) (L) (zcK r2 k i7)) rfl (fun _ _ j => ⟨0, j rfl⟩) ?_
 rintro n1 a w ⟨i7, hf, hO, hm⟩
 obtain _ | n1 := n1
 rw [zcK] at hm
 cases hm
 rw [zcK] at hm
 refine S.co tb ?_ hf hO hm
 refine br rfl (fun hc9 => ?_) fun hc9 => ?_
 refine rw_ rfl fun a w hf hO hm => ?_
 obtain ⟨x11, hx11, hm⟩ := ob hm
 obtain ⟨b12, o13, hix11, hSx11, hAx11⟩ := zE (enc := zf) (sz := 1) (xs := r2) 30 Tryz.underlying30 zdD (by decide) (fun _ => rfl) hO (i := 0) rfl hx11
 refine zG (zh hix11 hf rfl rfl) rfl hf rfl rfl fun a hf => ?_
 refine S.op tb ?_ hf hO hm
 refine vl rfl rfl (fun a w hf hO => zk (o := 0) zbx (hSx11 _ (hO.rowSees (i := 0) rfl)) rfl hf rfl) ?_
 refine cl c_143 rfl (fun r14 w hr14 hO => znM x11 255 r14 _ (hG.own hF hO) hr14) fun r14 hr14 => ?_
 refine br rfl (fun hc16 => ?_) fun hc16 => ?_
 exact rt Tryz.results191 rfl
 refine bi rfl fun i19 hi19 => ?_
 exact en rfl fun _ _ j => ⟨_, Nat.lt_succ_self _, i19, j rfl⟩
 exact rt Tryz.results191 rfl

theorem ziA (x_b : UInt8) (R : Bool) (w0 : World) (hG : zr w0) (hm : zfW x_b = some R) :
    Calls Tryz.prog 151 #[zai x_b] w0 (Ret w0 (fun R => .bool R) R) := by
 rw [zfW] at hm
 have hF : zq [] := ze
 have hO : Dk.Own w0 [] w0 [] := Dk.Own.refl w0
 refine S.enter tb Tryz.func151 rfl Tryz.ntmps151 rfl ?_ hO hm
 refine cl zsT rfl (fun r2 w hr2 hO => zhV x_b [48, 49, 50, 51, 52, 53, 54, 55, 56, 57, 97, 98, 99, 100, 101, 102, 65, 66, 67, 68, 69, 70] r2 _ (hG.own hF hO) hr2) fun r2 hr2 => ?_
 exact rt Tryz.results151 rfl

theorem znN (x_s : Str) (R : Bool) (w0 : World) (hG : zr w0) (hm : zgX x_s = some R) :
    Calls Tryz.prog 225 #[str x_s] w0 (Ret w0 (fun R => .bool R) R) := by
 rw [zgX] at hm
 have hF : zq [] := ze
 have hO : Dk.Own w0 [] w0 [] := Dk.Own.refl w0
 refine S.enter tb Tryz.func225 rfl Tryz.ntmps225 rfl ?_ hO hm
 refine cm2 zy1 rfl (fun r2 w hr2 hO => zkA x_s 58 r2 _ (hG.own hF hO) hr2) fun r2 hr2 p3 c4 => ?_
 refine lv [3] [0] (fun J E L k => ∃ (i8 : Int) (i9 : Int), J ((4, int i8) :: (5, int i9) :: E) (L) (zaf r2 k i8 i9)) rfl (fun _ _ j => ⟨0, 0, j rfl⟩) ?_
 rintro n1 a w ⟨i8, i9, hf, hO, hm⟩
 obtain _ | n1 := n1
 rw [zaf] at hm
 cases hm
 rw [zaf] at hm
 refine S.co tb ?_ hf hO hm
 refine br rfl (fun hc11 => ?_) fun hc11 => ?_
 refine jv 3 [3, 5] [0] (fun J E L => ∃ (i55 : Int), J ((4, int i55) :: E) (L) (zd1 (zaf r2 n1) i9 i55)) rfl ?_ ?_
 refine jv 6 [3, 4, 5] [0] (fun J E L => ∃ (t19 : Bool), J ((26, .bool t19) :: E) (L) (zd2 (zaf r2 n1) r2 i8 i9 t19)) rfl ?_ ?_
 refine bi rfl fun i13 hi13 => ?_
 refine br rfl (fun hc14 => ?_) fun hc14 => ?_
 refine rw_ rfl fun a w hf hO hm => ?_
 obtain ⟨x15, hx15, hm⟩ := ob hm
 obtain ⟨b16, o17, hix15, hSx15, hAx15⟩ := zE (enc := zf) (sz := 1) (xs := r2) 30 Tryz.underlying30 zdD (by decide) (fun _ => rfl) hO (i := 0) rfl hx15
 refine zG (zh hix15 hf rfl rfl) rfl hf rfl rfl fun a hf => ?_
 refine S.op tb ?_ hf hO hm
 refine kn (b' := true) hc14 rfl ?_
 refine vl rfl rfl (fun a w hf hO => zk (o := 0) zbx (hSx15 _ (hO.rowSees (i := 0) rfl)) rfl hf rfl) ?_
 refine cl c_191 rfl (fun r18 w hr18 hO => zoQ x15 r18 _ (hG.own hF hO) hr18) fun r18 hr18 => ?_
 exact en rfl fun _ _ j => ⟨r18, j rfl⟩
 exact en rfl fun _ _ j => ⟨false, j rfl⟩
 rintro a w ⟨t19, hf, hO, hm⟩
 rw [zd2] at hm
 refine S.co tb ?_ hf hO hm
 refine br rfl (fun hc20 => ?_) fun hc20 => ?_
 refine bi rfl fun i21 hi21 => ?_
 exact en rfl fun _ _ j => ⟨i21, j rfl⟩
 refine lv [3, 4, 5] [0] (fun J E L k => ∃ (i25 : Int), J ((6, int i25) :: E) (L) (zb7 (zaf r2 n1) r2 i8 i9 k i25)) rfl (fun _ _ j => ⟨0, j rfl⟩) ?_
 rintro n3 a w ⟨i25, hf, hO, hm⟩
 obtain _ | n3 := n3
 rw [zb7] at hm
 cases hm
 rw [zb7] at hm
 refine S.co tb ?_ hf hO hm
 refine rw_ rfl fun a w hf hO hm => ?_
 obtain ⟨x26, hx26, hm⟩ := ob hm
 obtain ⟨b27, o28, hix26, hSx26, hAx26⟩ := zE (enc := zf) (sz := 1) (xs := r2) 30 Tryz.underlying30 zdD (by decide) (fun _ => rfl) hO (i := 0) rfl hx26
 refine zG (zh hix26 hf rfl rfl) rfl hf rfl rfl fun a hf => ?_
 refine S.op tb ?_ hf hO hm
 refine vl rfl rfl (fun a w hf hO => zk (o := 0) zbx (hSx26 _ (hO.rowSees (i := 0) rfl)) rfl hf rfl) ?_
 refine br rfl (fun hc30 => ?_) fun hc30 => ?_
 refine rw_ rfl fun a w hf hO hm => ?_
 obtain ⟨x32, hx32, hm⟩ := ob hm
 obtain ⟨b33, o34, hix32, hSx32, hAx32⟩ := zE (enc := zf) (sz := 1) (xs := r2) 30 Tryz.underlying30 zdD (by decide) (fun _ => rfl) hO (i := 0) rfl hx32
 refine zG (zh hix32 hf rfl rfl) rfl hf rfl rfl fun a hf => ?_
 refine S.op tb ?_ hf hO hm
 refine vl rfl rfl (fun a w hf hO => zk (o := 0) zbx (hSx32 _ (hO.rowSees (i := 0) rfl)) rfl hf rfl) ?_
 refine bi rfl fun b35 hb35 => ?_
 refine cl zuK rfl (fun r36 w hr36 hO => ziA b35 r36 _ (hG.own hF hO) hr36) fun r36 hr36 => ?_
 refine br rfl (fun hc38 => ?_) fun hc38 => ?_
 exact rt Tryz.results225 rfl
 refine bi rfl fun i41 hi41 => ?_
 exact en rfl fun _ _ j => ⟨_, Nat.lt_succ_self _, i41, j rfl⟩
 refine jv 6 [3, 4, 5] [0] (fun J E L => ∃ (t50 : Bool), J ((59, .bool t50) :: E) (L) (zfs (zaf r2 n1) i8 i9 t50)) rfl ?_ ?_
 refine rw_ rfl fun a w hf hO hm => ?_
 obtain ⟨x43, hx43, hm⟩ := ob hm
 obtain ⟨b44, o45, hix43, hSx43, hAx43⟩ := zE (enc := zf) (sz := 1) (xs := r2) 30 Tryz.underlying30 zdD (by decide) (fun _ => rfl) hO (i := 0) rfl hx43
 refine zG (zh hix43 hf rfl rfl) rfl hf rfl rfl fun a hf => ?_
 refine S.op tb ?_ hf hO hm
 refine vl rfl rfl (fun a w hf hO => zk (o := 0) zbx (hSx43 _ (hO.rowSees (i := 0) rfl)) rfl hf rfl) ?_
 refine br rfl (fun hc46 => ?_) fun hc46 => ?_
 exact en rfl fun _ _ j => ⟨true, j rfl⟩
 refine rw_ rfl fun a w hf hO hm => ?_
 obtain ⟨x47, hx47, hm⟩ := ob hm
 obtain ⟨b48, o49, hix47, hSx47, hAx47⟩ := zE (enc := zf) (sz := 1) (xs := r2) 30 Tryz.underlying30 zdD (by decide) (fun _ => rfl) hO (i := 0) rfl hx47
 refine zG (zh hix47 hf rfl rfl) rfl hf rfl rfl fun a hf => ?_
 refine S.op tb ?_ hf hO hm
 refine kn (b' := false) hc46 rfl ?_
 refine vl rfl rfl (fun a w hf hO => zk (o := 0) zbx (hSx47 _ (hO.rowSees (i := 0) rfl)) rfl hf rfl) ?_
 exact en rfl fun _ _ j => ⟨decide (4 < (x47.length : Int)), j rfl⟩
 rintro a w ⟨t50, hf, hO, hm⟩
 rw [zfs] at hm
 refine S.co tb ?_ hf hO hm
 refine br rfl (fun hc51 => ?_) fun hc51 => ?_
 exact rt Tryz.results225 rfl
 refine bi rfl fun i54 hi54 => ?_
 exact en rfl fun _ _ j => ⟨i54, j rfl⟩
 rintro a w ⟨i55, hf, hO, hm⟩
 rw [zd1] at hm
 refine S.co tb ?_ hf hO hm
 refine bi rfl fun i56 hi56 => ?_
 exact en rfl fun _ _ j => ⟨_, Nat.lt_succ_self _, i55, i56, j rfl⟩
 exact rt Tryz.results225 rfl

theorem zu2 (x_s : Str) (R : Bool) (w0 : World) (hG : zr w0) (hm : zjq x_s = some R) :
    Calls Tryz.prog 190 #[str x_s] w0 (Ret w0 (fun R => .bool R) R) := by
 rw [zjq] at hm
 have hF : zq [] := ze
 have hO : Dk.Own w0 [] w0 [] := Dk.Own.refl w0
 refine S.enter tb Tryz.func190 rfl Tryz.ntmps190 rfl ?_ hO hm
 refine lv [0] [] (fun J E L k => ∃ (i3 : Int), J ((3, int i3) :: E) (L) (zcy x_s k i3)) rfl (fun _ _ j => ⟨0, j rfl⟩) ?_
 rintro n1 a w ⟨i3, hf, hO, hm⟩
 obtain _ | n1 := n1
 rw [zcy] at hm
 cases hm
 rw [zcy] at hm
 refine S.co tb ?_ hf hO hm
 refine bi rfl fun i4 hi4 => ?_
 refine br rfl (fun hc6 => ?_) fun hc6 => ?_
 refine jv 6 [0, 3] [] (fun J E L => ∃ (t12 : Bool), J ((24, .bool t12) :: E) (L) (zhw (zcy x_s n1) x_s i3 t12)) rfl ?_ ?_
 refine bi rfl fun b8 hb8 => ?_
 refine vl rfl rfl (fun a w hf hO => zez (b := b8) (c := 58) hf rfl rfl) ?_
 refine br rfl (fun hc9 => ?_) fun hc9 => ?_
 exact en rfl fun _ _ j => ⟨true, j rfl⟩
 refine bi rfl fun i10 hi10 => ?_
 refine bi rfl fun b11 hb11 => ?_
 refine vl rfl rfl (fun a w hf hO => zez (b := b11) (c := 58) hf rfl rfl) ?_
 exact en rfl fun _ _ j => ⟨!(b11 == 58), j rfl⟩
 rintro a w ⟨t12, hf, hO, hm⟩
 rw [zhw] at hm
 refine S.co tb ?_ hf hO hm
 refine br rfl (fun hc13 => ?_) fun hc13 => ?_
 refine bi rfl fun i54 hi54 => ?_
 exact en rfl fun _ _ j => ⟨_, Nat.lt_succ_self _, i54, j rfl⟩
 refine lv [0, 3] [] (fun J E L k => ∃ (i16 : Int), J ((4, int i16) :: E) (L) (za2 x_s i3 k i16)) rfl (fun _ _ j => ⟨1, j rfl⟩) ?_
 rintro n3 a w ⟨i16, hf, hO, hm⟩
 obtain _ | n3 := n3
 rw [za2] at hm
 cases hm
 rw [za2] at hm
 refine S.co tb ?_ hf hO hm
 refine br rfl (fun hc18 => ?_) fun hc18 => ?_
 refine bi rfl fun s20 hs20 => ?_
 refine lv [0, 3, 4] [] (fun J E L k => ∃ (s23 : Str) (i24 : Int), J ((5, str s23) :: (6, int i24) :: E) (L) (zcx (za2 x_s i3 n3) x_s i3 i16 k s23 i24)) rfl (fun _ _ j => ⟨s20, 0, j rfl⟩) ?_
 rintro n4 a w ⟨s23, i24, hf, hO, hm⟩
 obtain _ | n4 := n4
 rw [zcx] at hm
 cases hm
 rw [zcx] at hm
 refine S.co tb ?_ hf hO hm
 refine br rfl (fun hc26 => ?_) fun hc26 => ?_
 refine jv 15 [0, 3, 4, 6] [] (fun J E L => ∃ (s31 : Str), J ((5, str s31) :: E) (L) (zhv (zcx (za2 x_s i3 n3) x_s i3 i16 n4) i24 s31)) rfl ?_ ?_
 refine br rfl (fun hc29 => ?_) fun hc29 => ?_
 refine bi rfl fun s30 hs30 => ?_
 exact en rfl fun _ _ j => ⟨s30, j rfl⟩
 exact en rfl fun _ _ j => ⟨s23, j rfl⟩
 rintro a w ⟨s31, hf, hO, hm⟩
 rw [zhv] at hm
 refine S.co tb ?_ hf hO hm
 refine bi rfl fun s32 hs32 => ?_
 refine bi rfl fun i34 hi34 => ?_
 exact en rfl fun _ _ j => ⟨_, Nat.lt_succ_self _, s32, i34, j rfl⟩
 refine jv 10 [0, 3, 4] [] (fun J E L => ∃ (s44 : Str), J ((5, str s44) :: E) (L) (zfX (za2 x_s i3 n3) i16 s44)) rfl ?_ ?_
 refine bi rfl fun i36 hi36 => ?_
 refine bi rfl fun s37 hs37 => ?_
 refine br rfl (fun hc39 => ?_) fun hc39 => ?_
 refine bi rfl fun s40 hs40 => ?_
 refine bi rfl fun i41 hi41 => ?_
 refine bi rfl fun s42 hs42 => ?_
 refine bi rfl fun s43 hs43 => ?_
 exact en rfl fun _ _ j => ⟨s43, j rfl⟩
 exact en rfl fun _ _ j => ⟨s23, j rfl⟩
 rintro a w ⟨s44, hf, hO, hm⟩
 rw [zfX] at hm
 refine S.co tb ?_ hf hO hm
 refine cl c_225 rfl (fun r45 w hr45 hO => znN s44 r45 _ (hG.own hF hO) hr45) fun r45 hr45 => ?_
 refine br rfl (fun hc47 => ?_) fun hc47 => ?_
 exact rt Tryz.results190 rfl
 refine bi rfl fun i50 hi50 => ?_
 exact en rfl fun _ _ j => ⟨_, Nat.lt_succ_self _, i50, j rfl⟩
 exact rt Tryz.results190 rfl
 refine cl c_225 rfl (fun r56 w hr56 hO => znN x_s r56 _ (hG.own hF hO) hr56) fun r56 hr56 => ?_
 exact rt Tryz.results190 rfl

theorem zjE (x_b : UInt8) (R : Bool) (w0 : World) (hG : zr w0) (hm : zcM x_b = some R) :
    Calls Tryz.prog 226 #[zai x_b] w0 (Ret w0 (fun R => .bool R) R) := by
 rw [zcM] at hm
 have hF : zq [] := ze
 have hO : Dk.Own w0 [] w0 [] := Dk.Own.refl w0
 refine S.enter tb Tryz.func226 rfl Tryz.ntmps226 rfl ?_ hO hm
 refine cl zsT rfl (fun r2 w hr2 hO => zhV x_b [97, 98, 99, 100, 101, 102, 103, 104, 105, 106, 107, 108, 109, 110, 111, 112, 113, 114, 115, 116, 117, 118, 119, 120, 121, 122, 65, 66, 67, 68, 69, 70, 71, 72, 73, 74, 75, 76, 77, 78, 79, 80, 81, 82, 83, 84, 85, 86, 87, 88, 89, 90, 48, 49, 50, 51, 52, 53, 54, 55, 56, 57, 45, 46, 95, 126] r2 _ (hG.own hF hO) hr2) fun r2 hr2 => ?_
 exact rt Tryz.results226 rfl

theorem zp6 (x_b : UInt8) (R : Bool) (w0 : World) (hG : zr w0) (hm : zjr x_b = some R) :
    Calls Tryz.prog 227 #[zai x_b] w0 (Ret w0 (fun R => .bool R) R) := by
 rw [zjr] at hm
 have hF : zq [] := ze
 have hO : Dk.Own w0 [] w0 [] := Dk.Own.refl w0
 refine S.enter tb Tryz.func227 rfl Tryz.ntmps227 rfl ?_ hO hm
 refine cl zsT rfl (fun r2 w hr2 hO => zhV x_b [33, 36, 38, 39, 40, 41, 42, 43, 44, 59, 61] r2 _ (hG.own hF hO) hr2) fun r2 hr2 => ?_
 exact rt Tryz.results227 rfl

theorem ztL (x_s : Str) (R : Bool) (w0 : World) (hG : zr w0) (hm : zjM x_s = some R) :
    Calls Tryz.prog 192 #[str x_s] w0 (Ret w0 (fun R => .bool R) R) := by
 rw [zjM] at hm
 have hF : zq [] := ze
 have hO : Dk.Own w0 [] w0 [] := Dk.Own.refl w0
 refine S.enter tb Tryz.func192 rfl Tryz.ntmps192 rfl ?_ hO hm
 refine lv [0] [] (fun J E L k => ∃ (i3 : Int), J ((3, int i3) :: E) (L) (z8 x_s k i3)) rfl (fun _ _ j => ⟨0, j rfl⟩) ?_
 rintro n1 a w ⟨i3, hf, hO, hm⟩
 obtain _ | n1 := n1
 rw [z8] at hm
 cases hm
 rw [z8] at hm
 refine S.co tb ?_ hf hO hm
 refine br rfl (fun hc5 => ?_) fun hc5 => ?_
 refine jv 3 [0] [] (fun J E L => ∃ (i34 : Int), J ((3, int i34) :: E) (L) (zeR (z8 x_s n1) i34)) rfl ?_ ?_
 refine bi rfl fun b7 hb7 => ?_
 refine vl rfl rfl (fun a w hf hO => zz (b := b7) (c := 37) hf rfl rfl) ?_
 refine br rfl (fun hc9 => ?_) fun hc9 => ?_
 refine jv 7 [0, 3] [] (fun J E L => ∃ (t19 : Bool), J ((34, .bool t19) :: E) (L) (zbW (z8 x_s n1) i3 t19)) rfl ?_ ?_
 refine bi rfl fun i10 hi10 => ?_
 refine br rfl (fun hc11 => ?_) fun hc11 => ?_
 exact en rfl fun _ _ j => ⟨true, j rfl⟩
 refine bi rfl fun i12 hi12 => ?_
 refine bi rfl fun b13 hb13 => ?_
 refine cl zuK rfl (fun r14 w hr14 hO => ziA b13 r14 _ (hG.own hF hO) hr14) fun r14 hr14 => ?_
 refine br rfl (fun hc15 => ?_) fun hc15 => ?_
 exact en rfl fun _ _ j => ⟨true, j rfl⟩
 refine bi rfl fun i16 hi16 => ?_
 refine bi rfl fun b17 hb17 => ?_
 refine cl zuK rfl (fun r18 w hr18 hO => ziA b17 r18 _ (hG.own hF hO) hr18) fun r18 hr18 => ?_
 exact en rfl fun _ _ j => ⟨!r18, j rfl⟩
 rintro a w ⟨t19, hf, hO, hm⟩
 rw [zbW] at hm
 refine S.co tb ?_ hf hO hm
 refine br rfl (fun hc20 => ?_) fun hc20 => ?_
 exact rt Tryz.results192 rfl
 refine bi rfl fun i23 hi23 => ?_
 exact en rfl fun _ _ j => ⟨i23, j rfl⟩
 refine jv 5 [0, 3] [] (fun J E L => ∃ (t31 : Bool), J ((48, .bool t31) :: E) (L) (zgp (z8 x_s n1) i3 t31)) rfl ?_ ?_
 refine bi rfl fun b26 hb26 => ?_
 refine cl c_226 rfl (fun r27 w hr27 hO => zjE b26 r27 _ (hG.own hF hO) hr27) fun r27 hr27 => ?_
 refine br rfl (fun hc28 => ?_) fun hc28 => ?_
 refine bi rfl fun b29 hb29 => ?_
 refine cl c_227 rfl (fun r30 w hr30 hO => zp6 b29 r30 _ (hG.own hF hO) hr30) fun r30 hr30 => ?_
 exact en rfl fun _ _ j => ⟨!r30, j rfl⟩
 exact en rfl fun _ _ j => ⟨false, j rfl⟩
 rintro a w ⟨t31, hf, hO, hm⟩
 rw [zgp] at hm
 refine S.co tb ?_ hf hO hm
 refine br rfl (fun hc32 => ?_) fun hc32 => ?_
 exact rt Tryz.results192 rfl
 exact en rfl fun _ _ j => ⟨i3, j rfl⟩
 rintro a w ⟨i34, hf, hO, hm⟩
 rw [zeR] at hm
 refine S.co tb ?_ hf hO hm
 refine bi rfl fun i35 hi35 => ?_
 exact en rfl fun _ _ j => ⟨_, Nat.lt_succ_self _, i35, j rfl⟩
 exact rt Tryz.results192 rfl

theorem zrv (x_s : Str) (R : api_Host) (w0 : World) (hG : zr w0) (hm : zk9 x_s = some R) :
    Calls Tryz.prog 142 #[str x_s] w0 (Ret w0 (fun R => .agg #[int R.Kind, str R.Name, int R.Port]) R) := by
 rw [zk9] at hm
 have hF : zq [] := ze
 have hO : Dk.Own w0 [] w0 [] := Dk.Own.refl w0
 refine S.enter tb Tryz.func142 rfl Tryz.ntmps142 rfl ?_ hO hm
 refine al zhg rfl fun b1 => ?_
 refine jv 1 [0, 2] [0] (fun J E L => ∃ (t12 : Bool), J ((26, .bool t12) :: E) (L) (zed x_s t12)) rfl ?_ ?_
 refine br rfl (fun hc3 => ?_) fun hc3 => ?_
 refine bi rfl fun b4 hb4 => ?_
 refine vl rfl rfl (fun a w hf hO => zz (b := b4) (c := 91) hf rfl rfl) ?_
 refine br rfl (fun hc5 => ?_) fun hc5 => ?_
 refine bi rfl fun i6 hi6 => ?_
 refine bi rfl fun b7 hb7 => ?_
 refine vl rfl rfl (fun a w hf hO => zz (b := b7) (c := 93) hf rfl rfl) ?_
 refine br rfl (fun hc8 => ?_) fun hc8 => ?_
 refine bi rfl fun i9 hi9 => ?_
 refine bi rfl fun s10 hs10 => ?_
 refine cl c_190 rfl (fun r11 w hr11 hO => zu2 s10 r11 _ (hG.own hF hO) hr11) fun r11 hr11 => ?_
 exact en rfl fun _ _ j => ⟨r11, j rfl⟩
 exact en rfl fun _ _ j => ⟨false, j rfl⟩
 exact en rfl fun _ _ j => ⟨false, j rfl⟩
 exact en rfl fun _ _ j => ⟨false, j rfl⟩
 rintro a w ⟨t12, hf, hO, hm⟩
 rw [zed] at hm
 refine S.co tb ?_ hf hO hm
 refine br rfl (fun hc13 => ?_) fun hc13 => ?_
 refine bi rfl fun i14 hi14 => ?_
 refine bi rfl fun s15 hs15 => ?_
 refine vl rfl rfl (fun a w hf hO => zg (vs := [(0, int 3), (1, str s15), (2, int (-1))]) (v := .agg #[int 3, str s15, int (-1)]) hf rfl (by kernel_rfl)) ?_
 refine st 0 rfl rfl ?_
 refine re_ rfl fun a w hf hO hm => ?_
 obtain rfl := Option.some.inj hm
 exact zc Tryz.results142 hf (.cell rfl (zd (n := 3) (vs := [int 3, str s15, int (-1)]) zhf zgF rfl ((hO.blkSees (i := 0) rfl).cells (o := 0) (n := 3) rfl)) .nil) ⟨rfl, hO.below⟩
 refine cl c_191 rfl (fun r18 w hr18 hO => zoQ x_s r18 _ (hG.own hF hO) hr18) fun r18 hr18 => ?_
 refine br rfl (fun hc20 => ?_) fun hc20 => ?_
 refine vl rfl rfl (fun a w hf hO => zg (vs := [(0, int 2), (1, str x_s), (2, int (-1))]) (v := .agg #[int 2, str x_s, int (-1)]) hf rfl (by kernel_rfl)) ?_
 refine st 0 rfl rfl ?_
 refine re_ rfl fun a w hf hO hm => ?_
 obtain rfl := Option.some.inj hm
 exact zc Tryz.results142 hf (.cell rfl (zd (n := 3) (vs := [int 2, str x_s, int (-1)]) zhf zgF rfl ((hO.blkSees (i := 0) rfl).cells (o := 0) (n := 3) rfl)) .nil) ⟨rfl, hO.below⟩
 refine cl c_192 rfl (fun r23 w hr23 hO => ztL x_s r23 _ (hG.own hF hO) hr23) fun r23 hr23 => ?_
 refine br rfl (fun hc25 => ?_) fun hc25 => ?_
 refine vl rfl rfl (fun a w hf hO => zg (vs := [(0, int 1), (1, str x_s), (2, int (-1))]) (v := .agg #[int 1, str x_s, int (-1)]) hf rfl (by kernel_rfl)) ?_
 refine st 0 rfl rfl ?_
 refine re_ rfl fun a w hf hO hm => ?_
 obtain rfl := Option.some.inj hm
 exact zc Tryz.results142 hf (.cell rfl (zd (n := 3) (vs := [int 1, str x_s, int (-1)]) zhf zgF rfl ((hO.blkSees (i := 0) rfl).cells (o := 0) (n := 3) rfl)) .nil) ⟨rfl, hO.below⟩
 refine vl rfl rfl (fun a w hf hO => zg (vs := []) (v := .agg #[int 0, str [], int 0]) hf rfl (by kernel_rfl)) ?_
 refine st 0 rfl rfl ?_
 refine re_ rfl fun a w hf hO hm => ?_
 obtain rfl := Option.some.inj hm
 exact zc Tryz.results142 hf (.cell rfl (zd (n := 3) (vs := [int 0, str [], int 0]) zhf zgF rfl ((hO.blkSees (i := 0) rfl).cells (o := 0) (n := 3) rfl)) .nil) ⟨rfl, hO.below⟩

end Go.Proofs
end
section
set_option linter.unusedVariables false
set_option maxHeartbeats 1000000
set_option linter.unusedSimpArgs false
set_option maxRecDepth 100000
namespace Go.Proofs
open Go.Dk Go.Dm Go.RowKit

theorem zkE (x_s : Str) (R : api_Host × Int) (w0 : World) (hG : zr w0) (hm : zee x_s = some R) :
    Calls Tryz.prog 97 #[str x_s] w0 (Ret w0 (fun R => .tuple #[.agg #[int R.1.Kind, str R.1.Name, int R.1.Port], int R.2]) R) := by
 rw [zee] at hm
 have hF : zq [] := ze
 have hO : Dk.Own w0 [] w0 [] := Dk.Own.refl w0
 refine S.enter tb Tryz.func97 rfl Tryz.ntmps97 rfl ?_ hO hm
 refine al zhg rfl fun b1 => ?_
 refine cl c_142 rfl (fun r3 w hr3 hO => zrv x_s r3 _ (hG.own hF hO) hr3) fun r3 hr3 => ?_
 refine al zhg rfl fun b4 => ?_
 refine st 0 rfl rfl ?_
 refine ld 0 rfl rfl ?_
 refine br rfl (fun hc7 => ?_) fun hc7 => ?_
 refine ld 0 rfl rfl ?_
 refine st 1 rfl rfl ?_
 refine re_ rfl fun a w hf hO hm => ?_
 obtain rfl := Option.some.inj hm
 exact zc Tryz.results97 hf (.cell rfl (zd (n := 3) (vs := [int r3.Kind, str r3.Name, int r3.Port]) zhf zgF rfl ((hO.blkSees (i := 1) rfl).cells (o := 0) (n := 3) rfl)) (.tmp rfl .nil)) ⟨rfl, hO.below⟩
 refine bi rfl fun i10 hi10 => ?_
 refine lv [0, 2, 4] [0, 1] (fun J E L k => ∃ (i12 : Int), J ((5, int i12) :: E) (L) (zcX x_s k i12)) rfl (fun _ _ j => ⟨i10, j rfl⟩) ?_
 rintro n1 a w ⟨i12, hf, hO, hm⟩
 obtain _ | n1 := n1
 rw [zcX] at hm
 cases hm
 rw [zcX] at hm
 refine S.co tb ?_ hf hO hm
 refine br rfl (fun hc14 => ?_) fun hc14 => ?_
 refine bi rfl fun b16 hb16 => ?_
 refine vl rfl rfl (fun a w hf hO => zez (b := b16) (c := 58) hf rfl rfl) ?_
 refine br rfl (fun hc18 => ?_) fun hc18 => ?_
 refine bi rfl fun i35 hi35 => ?_
 exact en rfl fun _ _ j => ⟨_, Nat.lt_succ_self _, i35, j rfl⟩
 refine bi rfl fun s20 hs20 => ?_
 refine cl c_142 rfl (fun r21 w hr21 hO => zrv s20 r21 _ (hG.own hF hO) hr21) fun r21 hr21 => ?_
 refine st 0 rfl rfl ?_
 refine bi rfl fun i23 hi23 => ?_
 refine bi rfl fun s24 hs24 => ?_
 refine cl c_143 rfl (fun r25 w hr25 hO => znM s24 65535 r25 _ (hG.own hF hO) hr25) fun r25 hr25 => ?_
 refine jv 6 [2, 4, 6] [0, 1] (fun J E L => ∃ (t28 : Bool), J ((39, .bool t28) :: E) (L) (zft r21 r25 t28)) rfl ?_ ?_
 refine ld 0 rfl rfl ?_
 refine br rfl (fun hc27 => ?_) fun hc27 => ?_
 exact en rfl fun _ _ j => ⟨true, j rfl⟩
 exact en rfl fun _ _ j => ⟨decide (r25 < 0), j rfl⟩
 rintro a w ⟨t28, hf, hO, hm⟩
 rw [zft] at hm
 refine S.co tb ?_ hf hO hm
 refine br rfl (fun hc29 => ?_) fun hc29 => ?_
 refine vl rfl rfl (fun a w hf hO => zg (vs := []) (v := .agg #[int 0, str [], int 0]) hf rfl (by kernel_rfl)) ?_
 refine st 1 rfl rfl ?_
 refine re_ rfl fun a w hf hO hm => ?_
 obtain rfl := Option.some.inj hm
 exact zc Tryz.results97 hf (.cell rfl (zd (n := 3) (vs := [int 0, str [], int 0]) zhf zgF rfl ((hO.blkSees (i := 1) rfl).cells (o := 0) (n := 3) rfl)) (.tmp rfl .nil)) ⟨rfl, hO.below⟩
 refine st 0 rfl rfl ?_
 refine ld 0 rfl rfl ?_
 refine st 1 rfl rfl ?_
 refine re_ rfl fun a w hf hO hm => ?_
 obtain rfl := Option.some.inj hm
 exact zc Tryz.results97 hf (.cell rfl (zd (n := 3) (vs := [int r21.Kind, str r21.Name, int r25]) zhf zgF rfl ((hO.blkSees (i := 1) rfl).cells (o := 0) (n := 3) rfl)) (.tmp rfl .nil)) ⟨rfl, hO.below⟩
 refine vl rfl rfl (fun a w hf hO => zg (vs := []) (v := .agg #[int 0, str [], int 0]) hf rfl (by kernel_rfl)) ?_
 refine st 1 rfl rfl ?_
 refine re_ rfl fun a w hf hO hm => ?_
 obtain rfl := Option.some.inj hm
 exact zc Tryz.results97 hf (.cell rfl (zd (n := 3) (vs := [int 0, str [], int 0]) zhf zgF rfl ((hO.blkSees (i := 1) rfl).cells (o := 0) (n := 3) rfl)) (.tmp rfl .nil)) ⟨rfl, hO.below⟩

theorem ztH (x_s : Str) (R : Int) (w0 : World) (hG : zr w0) (hm : zjN x_s = some R) :
    Calls Tryz.prog 194 #[str x_s] w0 (Ret w0 (fun R => int R) R) := by
 rw [zjN] at hm
 have hF : zq [] := ze
 have hO : Dk.Own w0 [] w0 [] := Dk.Own.refl w0
 refine S.enter tb Tryz.func194 rfl Tryz.ntmps194 rfl ?_ hO hm
 refine lv [0] [] (fun J E L k => ∃ (i3 : Int), J ((3, int i3) :: E) (L) (zbX x_s k i3)) rfl (fun _ _ j => ⟨0, j rfl⟩) ?_
 rintro n1 a w ⟨i3, hf, hO, hm⟩
 obtain _ | n1 := n1
 rw [zbX] at hm
 cases hm
 rw [zbX] at hm
 refine S.co tb ?_ hf hO hm
 refine jv 4 [0, 3] [] (fun J E L => ∃ (t6 : Bool), J ((13, .bool t6) :: E) (L) (zgq (zbX x_s n1) i3 t6)) rfl ?_ ?_
 refine br rfl (fun hc4 => ?_) fun hc4 => ?_
 refine bi rfl fun b5 hb5 => ?_
 refine vl rfl rfl (fun a w hf hO => zez (b := b5) (c := 63) hf rfl rfl) ?_
 exact en rfl fun _ _ j => ⟨!(b5 == 63), j rfl⟩
 exact en rfl fun _ _ j => ⟨false, j rfl⟩
 rintro a w ⟨t6, hf, hO, hm⟩
 rw [zgq] at hm
 refine S.co tb ?_ hf hO hm
 refine br rfl (fun hc7 => ?_) fun hc7 => ?_
 refine bi rfl fun i9 hi9 => ?_
 exact en rfl fun _ _ j => ⟨_, Nat.lt_succ_self _, i9, j rfl⟩
 exact rt Tryz.results194 rfl

theorem ztI (x_b : UInt8) (R : Bool) (w0 : World) (hG : zr w0) (hm : zjO x_b = some R) :
    Calls Tryz.prog 228 #[zai x_b] w0 (Ret w0 (fun R => .bool R) R) := by
 rw [zjO] at hm
 have hF : zq [] := ze
 have hO : Dk.Own w0 [] w0 [] := Dk.Own.refl w0
 refine S.enter tb Tryz.func228 rfl Tryz.ntmps228 rfl ?_ hO hm
 refine jv 0 [] [] (fun J E L => ∃ (t7 : Bool), J ((2, .bool t7) :: E) (L) (zeS t7)) rfl ?_ ?_
 refine cl c_226 rfl (fun r2 w hr2 hO => zjE x_b r2 _ (hG.own hF hO) hr2) fun r2 hr2 => ?_
 refine br rfl (fun hc3 => ?_) fun hc3 => ?_
 exact en rfl fun _ _ j => ⟨true, j rfl⟩
 refine cl c_227 rfl (fun r4 w hr4 hO => zp6 x_b r4 _ (hG.own hF hO) hr4) fun r4 hr4 => ?_
 refine br rfl (fun hc5 => ?_) fun hc5 => ?_
 exact en rfl fun _ _ j => ⟨true, j rfl⟩
 refine vl rfl rfl (fun a w hf hO => zz (b := x_b) (c := 58) hf rfl rfl) ?_
 refine br rfl (fun hc6 => ?_) fun hc6 => ?_
 exact en rfl fun _ _ j => ⟨true, j rfl⟩
 refine vl rfl rfl (fun a w hf hO => zz (b := x_b) (c := 64) hf rfl rfl) ?_
 exact en rfl fun _ _ j => ⟨x_b == 64, j rfl⟩
 rintro a w ⟨t7, hf, hO, hm⟩
 rw [zeS] at hm
 refine S.co tb ?_ hf hO hm
 exact rt Tryz.results228 rfl

theorem ztJ (n0 : Nat) : ∀ (x_s : Str) (x_more : Str) (R : Bool) (w0 : World) (hG : zr w0) (hm : zes n0 x_s x_more = some R),
    Calls Tryz.prog 196 #[str x_s, str x_more] w0 (Ret w0 (fun R => .bool R) R) := by
  induction n0 with
  | zero => intro x_s x_more R w0 hG  hm; rw [zes] at hm; cases hm
  | succ n0 ih =>
    intro x_s x_more R w0 hG  hm
    rw [zes] at hm
    have hF : zq [] := ze
    have hO : Dk.Own w0 [] w0 [] := Dk.Own.refl w0
    refine S.enter tb Tryz.func196 rfl Tryz.ntmps196 rfl ?_ hO hm
    refine br rfl (fun hc3 => ?_) fun hc3 => ?_
    · exact rt Tryz.results196 rfl
    · refine bi rfl fun b6 hb6 => ?_
      refine vl rfl rfl (fun a w hf hO => zz (b := b6) (c := 37) hf rfl rfl) ?_
      refine br rfl (fun hc8 => ?_) fun hc8 => ?_
      · refine jv 1 [] [] (fun J E L => ∃ (t18 : Bool), J ((4, .bool t18) :: E) (L) (zdn t18)) rfl ?_ ?_
        · refine br rfl (fun hc9 => ?_) fun hc9 => ?_
          · refine bi rfl fun b10 hb10 => ?_
            refine cl zuK rfl (fun r11 w hr11 hO => ziA b10 r11 _ (hG.own hF hO) hr11) fun r11 hr11 => ?_
            refine br rfl (fun hc12 => ?_) fun hc12 => ?_
            · refine bi rfl fun b13 hb13 => ?_
              refine cl zuK rfl (fun r14 w hr14 hO => ziA b13 r14 _ (hG.own hF hO) hr14) fun r14 hr14 => ?_
              refine br rfl (fun hc15 => ?_) fun hc15 => ?_
              · refine bi rfl fun s16 hs16 => ?_
                refine cl zuM rfl (fun r17 w hr17 hO => ih s16 x_more r17 _ (hG.own hF hO) hr17) fun r17 hr17 => ?_
                exact en rfl fun _ _ j => ⟨r17, j rfl⟩
              · exact en rfl fun _ _ j => ⟨false, j rfl⟩
            · exact en rfl fun _ _ j => ⟨false, j rfl⟩
          · exact en rfl fun _ _ j => ⟨false, j rfl⟩
        · rintro a w ⟨t18, hf, hO, hm⟩
          rw [zdn] at hm
          refine S.co tb ?_ hf hO hm
          exact rt Tryz.results196 rfl
      · refine jv 0 [] [] (fun J E L => ∃ (t30 : Bool), J ((4, .bool t30) :: E) (L) (zgY t30)) rfl ?_ ?_
        · refine bi rfl fun b20 hb20 => ?_
          refine cl c_228 rfl (fun r21 w hr21 hO => ztI b20 r21 _ (hG.own hF hO) hr21) fun r21 hr21 => ?_
          refine br rfl (fun hc22 => ?_) fun hc22 => ?_
          · refine bi rfl fun s23 hs23 => ?_
            refine cl zuM rfl (fun r24 w hr24 hO => ih s23 x_more r24 _ (hG.own hF hO) hr24) fun r24 hr24 => ?_
            exact en rfl fun _ _ j => ⟨r24, j rfl⟩
          · refine bi rfl fun b25 hb25 => ?_
            refine cl zsT rfl (fun r26 w hr26 hO => zhV b25 x_more r26 _ (hG.own hF hO) hr26) fun r26 hr26 => ?_
            refine br rfl (fun hc27 => ?_) fun hc27 => ?_
            · refine bi rfl fun s28 hs28 => ?_
              refine cl zuM rfl (fun r29 w hr29 hO => ih s28 x_more r29 _ (hG.own hF hO) hr29) fun r29 hr29 => ?_
              exact en rfl fun _ _ j => ⟨r29, j rfl⟩
            · exact en rfl fun _ _ j => ⟨false, j rfl⟩
        · rintro a w ⟨t30, hf, hO, hm⟩
          rw [zgY] at hm
          refine S.co tb ?_ hf hO hm
          exact rt Tryz.results196 rfl
theorem zru (x_s : Str) (x_more : Str) (R : Bool) (w0 : World) (hG : zr w0) (hm : zmV x_s x_more = some R) :
    Calls Tryz.prog 196 #[str x_s, str x_more] w0 (Ret w0 (fun R => .bool R) R) :=
  ztJ fuel x_s x_more R w0 hG  hm

theorem zoP (x_s : Str) (R : Bool) (w0 : World) (hG : zr w0) (hm : zjP x_s = some R) :
    Calls Tryz.prog 195 #[str x_s] w0 (Ret w0 (fun R => .bool R) R) := by
 rw [zjP] at hm
 have hF : zq [] := ze
 have hO : Dk.Own w0 [] w0 [] := Dk.Own.refl w0
 refine S.enter tb Tryz.func195 rfl Tryz.ntmps195 rfl ?_ hO hm
 refine jv 0 [] [] (fun J E L => ∃ (t6 : Bool), J ((2, .bool t6) :: E) (L) (zeT t6)) rfl ?_ ?_
 refine br rfl (fun hc2 => ?_) fun hc2 => ?_
 refine bi rfl fun b3 hb3 => ?_
 refine vl rfl rfl (fun a w hf hO => zz (b := b3) (c := 47) hf rfl rfl) ?_
 refine br rfl (fun hc4 => ?_) fun hc4 => ?_
 refine cl zuM rfl (fun r5 w hr5 hO => zru x_s [47] r5 _ (hG.own hF hO) hr5) fun r5 hr5 => ?_
 exact en rfl fun _ _ j => ⟨r5, j rfl⟩
 exact en rfl fun _ _ j => ⟨false, j rfl⟩
 exact en rfl fun _ _ j => ⟨false, j rfl⟩
 rintro a w ⟨t6, hf, hO, hm⟩
 rw [zeT] at hm
 refine S.co tb ?_ hf hO hm
 exact rt Tryz.results195 rfl

theorem znJ (x_s : Str) (R : Bool) (w0 : World) (hG : zr w0) (hm : zgZ x_s = some R) :
    Calls Tryz.prog 150 #[str x_s] w0 (Ret w0 (fun R => .bool R) R) := by
 rw [zgZ] at hm
 have hF : zq [] := ze
 have hO : Dk.Own w0 [] w0 [] := Dk.Own.refl w0
 refine S.enter tb Tryz.func150 rfl Tryz.ntmps150 rfl ?_ hO hm
 refine cl zuM rfl (fun r2 w hr2 hO => zru x_s [47, 63] r2 _ (hG.own hF hO) hr2) fun r2 hr2 => ?_
 exact rt Tryz.results150 rfl

theorem zmv (x_t : api_Target) (x_s : Str) (R : api_Target × Bool) (w0 : World) (hG : zr w0) (hm : zfY x_t x_s = some R) :
    Calls Tryz.prog 149 #[.agg #[int x_t.Kind, str x_t.Scheme, int x_t.Host.Kind, str x_t.Host.Name, int x_t.Host.Port, str x_t.Path, str x_t.Query, .bool x_t.HasQuery], str x_s] w0 (Ret w0 (fun R => .tuple #[.agg #[int R.1.Kind, str R.1.Scheme, int R.1.Host.Kind, str R.1.Host.Name, int R.1.Host.Port, str R.1.Path, str R.1.Query, .bool R.1.HasQuery], .bool R.2]) R) := by
 rw [zfY] at hm
 have hF : zq [] := ze
 have hO : Dk.Own w0 [] w0 [] := Dk.Own.refl w0
 refine S.enter tb Tryz.func149 rfl Tryz.ntmps149 rfl ?_ hO hm
 refine bo rfl fun b1 => ?_
 refine al zhU rfl fun b2 => ?_
 refine cl c_194 rfl (fun r4 w hr4 hO => ztH x_s r4 _ (hG.own hF hO) hr4) fun r4 hr4 => ?_
 refine bi rfl fun s6 hs6 => ?_
 refine st 1 rfl rfl ?_
 refine st 1 rfl rfl ?_
 refine jv 0 [2, 4] [0] (fun J E L => ∃ (s13 : Str), J (E) (.blk b1 [int x_t.Kind, str x_t.Scheme, int x_t.Host.Kind, str x_t.Host.Name, int x_t.Host.Port, str s6, str s13, .bool (decide (r4 < (x_s.length : Int)))] 188 :: L) (zc8 x_t x_s r4 s6 s13)) rfl ?_ ?_
 refine ld 1 rfl rfl ?_
 refine br rfl (fun hc10 => ?_) fun hc10 => ?_
 refine bi rfl fun i11 hi11 => ?_
 refine bi rfl fun s12 hs12 => ?_
 refine st 1 rfl rfl ?_
 exact ec [1, 0] rfl rfl rfl fun _ _ j => ⟨s12, j rfl⟩
 exact ec [1, 0] rfl rfl rfl fun _ _ j => ⟨x_t.Query, j rfl⟩
 rintro a w ⟨s13, hf, hO, hm⟩
 rw [zc8] at hm
 refine S.co tb ?_ hf hO hm
 refine jv 0 [4] [0] (fun J E L => ∃ (t17 : Bool), J ((5, .bool t17) :: E) (.blk b2 [int x_t.Kind, str x_t.Scheme, int x_t.Host.Kind, str x_t.Host.Name, int x_t.Host.Port, str s6, str s13, .bool (decide (r4 < (x_s.length : Int)))] 188 :: L) (zeF x_t x_s r4 s6 s13 t17)) rfl ?_ ?_
 refine rc_ rfl fun a w hf hO hm => ?_
 obtain ⟨r14, hr14, hm⟩ := ob hm
 rcases zcD (r14) with hc15 | hc15
 have hm := it hc15 hm
 obtain ⟨r16, hr16, hm⟩ := ob hm
 refine dG (S := Unit) [(2, ptr b1 0), (4, ptr b2 0)] (fun _ => (fun (q0 q1 : Res) => [[q0, q1], [q0, q1], [q0, q1], [q0, .blk b2 [int x_t.Kind, str x_t.Scheme, int x_t.Host.Kind, str x_t.Host.Name, int x_t.Host.Port, str s6, str s13, .bool (decide (r4 < (x_s.length : Int)))] 188]]) (.blk b1 [int x_t.Kind, str x_t.Scheme, int x_t.Host.Kind, str x_t.Host.Name, int x_t.Host.Port, str s6, str s13, .bool (decide (r4 < (x_s.length : Int)))] 188) (.blk b2 [int 0, str [], int 0, str [], int 0, str [], str [], .bool false] 188)) (fun σ => [⟨[(2, ptr b1 0)], some (25, .agg #[int x_t.Kind, str x_t.Scheme, int x_t.Host.Kind, str x_t.Host.Name, int x_t.Host.Port, str s6, str s13, .bool (decide (r4 < (x_s.length : Int)))])⟩, ⟨[(2, ptr b1 0)], some (26, ptr b1 5)⟩, ⟨[(26, ptr b1 5)], some (27, str s6)⟩, ⟨[(27, str s6)], some (28, .bool r14)⟩, ⟨[(28, .bool r14)], some (29, .bool r14)⟩, ⟨[(2, ptr b1 0), (29, .bool r14)], some (30, ptr b1 6)⟩, ⟨[(30, ptr b1 6), (29, .bool r14)], some (31, str s13)⟩, ⟨[(31, str s13), (29, .bool r14)], some (32, .bool r16)⟩, ⟨[(29, .bool r14), (32, .bool r16)], some (33, .bool r16)⟩, ⟨[(4, ptr b2 0), (25, .agg #[int x_t.Kind, str x_t.Scheme, int x_t.Host.Kind, str x_t.Host.Name, int x_t.Host.Port, str s6, str s13, .bool (decide (r4 < (x_s.length : Int)))])], none⟩, ⟨[(33, .bool r16)], some (5, .bool r16)⟩]) () [3, 7, 9] [] hO hf ⟨gN, gN, gN, gN, gN, gS hc15, gS hc15, gS hc15, gN, gN, gN, trivial⟩ ⟨nP (sD tb 0 [0, 0, 0]), nP (sE tb), nP (sD tb 0 [0]), nP (sC 0 (fun hf => zak c_195 hf (vs := [str s6]) rfl) (@fun σ w hO => (zoP s6 r14 _ (hG.own hF hO) hr14).mono fun e w' ⟨he, hb⟩ => cR (σ := σ) () he (hO.grow hb))), nP (sE tb), nP (sE tb), nP (sD tb 1 [0]), nP (sC 1 (fun hf => zak c_150 hf (vs := [str s13]) rfl) (@fun σ w hO => (znJ s13 r16 _ (hG.own hF hO) hr16).mono fun e w' ⟨he, hb⟩ => cR (σ := σ) () he (hO.grow hb))), nP (sP (fun hf => zkR hf rfl hc15 rfl)), nP (sK 2 (@fun σ w hO => match zg5 (x := (.tmp 4)) (y := (.tmp 25)) (E := [(4, ptr b2 0), (25, .agg #[int x_t.Kind, str x_t.Scheme, int x_t.Host.Kind, str x_t.Host.Name, int x_t.Host.Port, str s6, str s13, .bool (decide (r4 < (x_s.length : Int)))])]) (i := 1) (n := 8) (vs := [int x_t.Kind, str x_t.Scheme, int x_t.Host.Kind, str x_t.Host.Name, int x_t.Host.Port, str s6, str s13, .bool (decide (r4 < (x_s.length : Int)))]) zbG rfl rfl rfl (by simp [Value.oneCell']) hO rfl rfl with | ⟨w', hO', hr⟩ => vR (σ := σ) () hO' hr)), nP (sE tb), trivial⟩ ?_
 rintro _ a w hf hO
 have hO : Dk.Own w0 [] w _ := hO
 have hf : Fits 34 [(4, ptr b2 0), (5, .bool r16)] a := (hf.cons rfl (hf.cons rfl hf.nil))
 refine S.no tb ?_ hf hO hm
 exact ec [1, 0] rfl rfl rfl fun _ _ j => ⟨r16, j rfl⟩
 have hm := ie hc15 hm
 refine dG (S := Unit) [(2, ptr b1 0), (4, ptr b2 0)] (fun _ => (fun (q0 q1 : Res) => [[q0, q1], [q0, q1], [q0, .blk b2 [int x_t.Kind, str x_t.Scheme, int x_t.Host.Kind, str x_t.Host.Name, int x_t.Host.Port, str s6, str s13, .bool (decide (r4 < (x_s.length : Int)))] 188]]) (.blk b1 [int x_t.Kind, str x_t.Scheme, int x_t.Host.Kind, str x_t.Host.Name, int x_t.Host.Port, str s6, str s13, .bool (decide (r4 < (x_s.length : Int)))] 188) (.blk b2 [int 0, str [], int 0, str [], int 0, str [], str [], .bool false] 188)) (fun σ => [⟨[(2, ptr b1 0)], some (25, .agg #[int x_t.Kind, str x_t.Scheme, int x_t.Host.Kind, str x_t.Host.Name, int x_t.Host.Port, str s6, str s13, .bool (decide (r4 < (x_s.length : Int)))])⟩, ⟨[(2, ptr b1 0)], some (26, ptr b1 5)⟩, ⟨[(26, ptr b1 5)], some (27, str s6)⟩, ⟨[(27, str s6)], some (28, .bool r14)⟩, ⟨[(28, .bool r14)], some (29, .bool r14)⟩, ⟨[(29, .bool r14)], some (30, undef)⟩, ⟨[(29, .bool r14)], some (31, undef)⟩, ⟨[(29, .bool r14)], some (32, undef)⟩, ⟨[(29, .bool r14), (32, undef)], some (33, .bool false)⟩, ⟨[(4, ptr b2 0), (25, .agg #[int x_t.Kind, str x_t.Scheme, int x_t.Host.Kind, str x_t.Host.Name, int x_t.Host.Port, str s6, str s13, .bool (decide (r4 < (x_s.length : Int)))])], none⟩, ⟨[(33, .bool false)], some (5, .bool false)⟩]) () [3, 9] [5, 6, 7] hO hf ⟨gN, gN, gN, gN, gN, gS hc15, gS hc15, gS hc15, gN, gN, gN, trivial⟩ ⟨nP (sD tb 0 [0, 0]), nP (sE tb), nP (sD tb 0 [0]), nP (sC 0 (fun hf => zak c_195 hf (vs := [str s6]) rfl) (@fun σ w hO => (zoP s6 r14 _ (hG.own hF hO) hr14).mono fun e w' ⟨he, hb⟩ => cR (σ := σ) () he (hO.grow hb))), nP (sE tb), .inl rfl, .inl rfl, .inl rfl, nP (sP (fun hf => zjm hf rfl hc15 rfl)), nP (sK 1 (@fun σ w hO => match zg5 (x := (.tmp 4)) (y := (.tmp 25)) (E := [(4, ptr b2 0), (25, .agg #[int x_t.Kind, str x_t.Scheme, int x_t.Host.Kind, str x_t.Host.Name, int x_t.Host.Port, str s6, str s13, .bool (decide (r4 < (x_s.length : Int)))])]) (i := 1) (n := 8) (vs := [int x_t.Kind, str x_t.Scheme, int x_t.Host.Kind, str x_t.Host.Name, int x_t.Host.Port, str s6, str s13, .bool (decide (r4 < (x_s.length : Int)))]) zbG rfl rfl rfl (by simp [Value.oneCell']) hO rfl rfl with | ⟨w', hO', hr⟩ => vR (σ := σ) () hO' hr)), nP (sE tb), trivial⟩ ?_
 rintro _ a w hf hO
 have hO : Dk.Own w0 [] w _ := hO
 have hf : Fits 34 [(4, ptr b2 0), (5, .bool false)] a := (hf.cons rfl (hf.cons rfl hf.nil))
 refine S.no tb ?_ hf hO hm
 exact ec [1, 0] rfl rfl rfl fun _ _ j => ⟨false, j rfl⟩
 rintro a w ⟨t17, hf, hO, hm⟩
 rw [zeF] at hm
 refine S.co tb ?_ hf hO hm
 refine re_ rfl fun a w hf hO hm => ?_
 obtain rfl := Option.some.inj hm
 exact zc Tryz.results149 hf (.cell rfl (zd (n := 8) (vs := [int x_t.Kind, str x_t.Scheme, int x_t.Host.Kind, str x_t.Host.Name, int x_t.Host.Port, str s6, str s13, .bool (decide (r4 < (x_s.length : Int)))]) zcN zbG rfl ((hO.blkSees (i := 0) rfl).cells (o := 0) (n := 8) rfl)) (.tmp rfl .nil)) ⟨rfl, hO.below⟩

theorem zjd (x_s : Str) (R : Str) (w0 : World) (hG : zr w0) (hm : zet x_s = some R) :
    Calls Tryz.prog 99 #[str x_s] w0 (Ret w0 (fun R => str R) R) := by
 rw [zet] at hm
 have hF : zq [] := ze
 have hO : Dk.Own w0 [] w0 [] := Dk.Own.refl w0
 refine S.enter tb Tryz.func99 rfl Tryz.ntmps99 rfl ?_ hO hm
 refine lv [0] [] (fun J E L k => ∃ (s4 : Str) (i5 : Int), J ((3, str s4) :: (4, int i5) :: E) (L) (zbl x_s k s4 i5)) rfl (fun _ _ j => ⟨[], 0, j rfl⟩) ?_
 rintro n1 a w ⟨s4, i5, hf, hO, hm⟩
 obtain _ | n1 := n1
 rw [zbl] at hm
 cases hm
 rw [zbl] at hm
 refine S.co tb ?_ hf hO hm
 refine br rfl (fun hc7 => ?_) fun hc7 => ?_
 refine bi rfl fun i9 hi9 => ?_
 refine bi rfl fun s10 hs10 => ?_
 refine lv [0, 3, 4] [] (fun J E L k => ∃ (s13 : Str) (i14 : Int), J ((5, str s13) :: (6, int i14) :: E) (L) (zbk (zbl x_s n1) x_s s4 i5 k s13 i14)) rfl (fun _ _ j => ⟨s10, 0, j rfl⟩) ?_
 rintro n2 a w ⟨s13, i14, hf, hO, hm⟩
 obtain _ | n2 := n2
 rw [zbk] at hm
 cases hm
 rw [zbk] at hm
 refine S.co tb ?_ hf hO hm
 refine br rfl (fun hc16 => ?_) fun hc16 => ?_
 refine jv 8 [0, 3, 4, 6] [] (fun J E L => ∃ (s24 : Str), J ((5, str s24) :: E) (L) (zgr (zbk (zbl x_s n1) x_s s4 i5 n2) i14 s24)) rfl ?_ ?_
 refine rc_ rfl fun a w hf hO hm => ?_
 refine zcO (by kernel_rfl) (by kernel_rfl) hO ?_
 refine zj (fun w hO => zA hf rfl) rfl hf rfl rfl fun a hf => ?_
 obtain ⟨b18, hb18, hm⟩ := ob hm
 refine zj (fun w hO => zoA (l := [65, 66, 67, 68, 69, 70, 71, 72, 73, 74, 75, 76, 77, 78, 79, 80, 81, 82, 83, 84, 85, 86, 87, 88, 89, 90]) Tryz.underlying9 hf rfl rfl hb18) rfl hf rfl rfl fun a hf => ?_
 refine zj (fun w hO => zA hf rfl) rfl hf rfl rfl fun a hf => ?_
 refine zj (fun w hO => zA hf rfl) rfl hf rfl rfl fun a hf => ?_
 obtain ⟨b19, hb19, hm⟩ := ob hm
 refine zj (fun w hO => zoA (l := x_s) Tryz.underlying9 hf rfl rfl hb19) rfl hf rfl rfl fun a hf => ?_
 refine zj (fun w hO => zz (b := b18) (c := b19) hf rfl rfl) rfl hf rfl rfl fun a hf => ?_
 refine wpQuiet_nil ?_
 intro w hO
 refine S.no tb ?_ hf hO hm
 refine br rfl (fun hc21 => ?_) fun hc21 => ?_
 refine bi rfl fun i22 hi22 => ?_
 refine bi rfl fun s23 hs23 => ?_
 exact en rfl fun _ _ j => ⟨s23, j rfl⟩
 exact en rfl fun _ _ j => ⟨s13, j rfl⟩
 rintro a w ⟨s24, hf, hO, hm⟩
 rw [zgr] at hm
 refine S.co tb ?_ hf hO hm
 refine bi rfl fun i25 hi25 => ?_
 exact en rfl fun _ _ j => ⟨_, Nat.lt_succ_self _, s24, i25, j rfl⟩
 refine bi rfl fun s27 hs27 => ?_
 refine bi rfl fun i29 hi29 => ?_
 exact en rfl fun _ _ j => ⟨_, Nat.lt_succ_self _, s27, i29, j rfl⟩
 exact rt Tryz.results99 rfl

theorem znK (x_a0 : Str) (x_a1 : Str) (R : api_Target × Int) (w0 : World) (hG : zr w0) (hm : ziJ x_a0 x_a1 = some R) :
    Calls Tryz.prog 104 #[str x_a0, str x_a1] w0 (Ret w0 (fun R => .tuple #[.agg #[int R.1.Kind, str R.1.Scheme, int R.1.Host.Kind, str R.1.Host.Name, int R.1.Host.Port, str R.1.Path, str R.1.Query, .bool R.1.HasQuery], int R.2]) R) := by
 rw [ziJ] at hm
 have hF : zq [] := ze
 have hO : Dk.Own w0 [] w0 [] := Dk.Own.refl w0
 refine S.enter tb Tryz.func104 rfl Tryz.ntmps104 rfl ?_ hO hm
 refine al zhU rfl fun b1 => ?_
 refine br rfl (fun hc4 => ?_) fun hc4 => ?_
 refine cl c_97 rfl (fun r5 w hr5 hO => zkE x_a1 r5 _ (hG.own hF hO) hr5) fun r5 hr5 => ?_
 refine al zhg rfl fun b6 => ?_
 refine st 0 rfl rfl ?_
 refine jv 2 [4, 6] [0, 1] (fun J E L => ∃ (t9 : Bool), J ((30, .bool t9) :: E) (L) (zfu r5 t9)) rfl ?_ ?_
 refine br rfl (fun hc8 => ?_) fun hc8 => ?_
 exact en rfl fun _ _ j => ⟨true, j rfl⟩
 refine ld 0 rfl rfl ?_
 exact en rfl fun _ _ j => ⟨decide (r5.1.Port < 0), j rfl⟩
 rintro a w ⟨t9, hf, hO, hm⟩
 rw [zfu] at hm
 refine S.co tb ?_ hf hO hm
 refine br rfl (fun hc10 => ?_) fun hc10 => ?_
 refine vl rfl rfl (fun a w hf hO => zg (vs := []) (v := .agg #[int 0, str [], int 0, str [], int 0, str [], str [], .bool false]) hf rfl (by kernel_rfl)) ?_
 refine st 1 rfl rfl ?_
 refine re_ rfl fun a w hf hO hm => ?_
 obtain rfl := Option.some.inj hm
 exact zc Tryz.results104 hf (.cell rfl (zd (n := 8) (vs := [int 0, str [], int 0, str [], int 0, str [], str [], .bool false]) zcN zbG rfl ((hO.blkSees (i := 1) rfl).cells (o := 0) (n := 8) rfl)) (.tmp rfl .nil)) ⟨rfl, hO.below⟩
 refine ld 0 rfl rfl ?_
 refine vl rfl rfl (fun a w hf hO => zg (vs := [(0, int 3), (2, .agg #[int r5.1.Kind, str r5.1.Name, int r5.1.Port])]) (v := .agg #[int 3, str [], int r5.1.Kind, str r5.1.Name, int r5.1.Port, str [], str [], .bool false]) hf rfl (by kernel_rfl)) ?_
 refine st 1 rfl rfl ?_
 refine re_ rfl fun a w hf hO hm => ?_
 obtain rfl := Option.some.inj hm
 exact zc Tryz.results104 hf (.cell rfl (zd (n := 8) (vs := [int 3, str [], int r5.1.Kind, str r5.1.Name, int r5.1.Port, str [], str [], .bool false]) zcN zbG rfl ((hO.blkSees (i := 1) rfl).cells (o := 0) (n := 8) rfl)) (.tmp rfl .nil)) ⟨rfl, hO.below⟩
 refine jv 1 [1, 4] [0] (fun J E L => ∃ (t16 : Bool), J ((39, .bool t16) :: E) (L) (zb9 x_a1 t16)) rfl ?_ ?_
 refine br rfl (fun hc15 => ?_) fun hc15 => ?_
 exact en rfl fun _ _ j => ⟨x_a0 == [79, 80, 84, 73, 79, 78, 83], j rfl⟩
 exact en rfl fun _ _ j => ⟨false, j rfl⟩
 rintro a w ⟨t16, hf, hO, hm⟩
 rw [zb9] at hm
 refine S.co tb ?_ hf hO hm
 refine br rfl (fun hc17 => ?_) fun hc17 => ?_
 refine vl rfl rfl (fun a w hf hO => zg (vs := [(0, int 4)]) (v := .agg #[int 4, str [], int 0, str [], int 0, str [], str [], .bool false]) hf rfl (by kernel_rfl)) ?_
 refine st 0 rfl rfl ?_
 refine re_ rfl fun a w hf hO hm => ?_
 obtain rfl := Option.some.inj hm
 exact zc Tryz.results104 hf (.cell rfl (zd (n := 8) (vs := [int 4, str [], int 0, str [], int 0, str [], str [], .bool false]) zcN zbG rfl ((hO.blkSees (i := 0) rfl).cells (o := 0) (n := 8) rfl)) (.tmp rfl .nil)) ⟨rfl, hO.below⟩
 refine vl rfl rfl (fun a w hf hO => zg (vs := [(0, int 1)]) (v := .agg #[int 1, str [], int 0, str [], int 0, str [], str [], .bool false]) hf rfl (by kernel_rfl)) ?_
 refine cl c_149 rfl (fun r20 w hr20 hO => zmv ((⟨1, [], (⟨0, [], 0⟩ : api_Host), [], [], false⟩ : api_Target)) x_a1 r20 _ (hG.own hF hO) hr20) fun r20 hr20 => ?_
 refine al zhU rfl fun b21 => ?_
 refine st 0 rfl rfl ?_
 refine br rfl (fun hc24 => ?_) fun hc24 => ?_
 refine ld 0 rfl rfl ?_
 refine st 1 rfl rfl ?_
 refine re_ rfl fun a w hf hO hm => ?_
 obtain rfl := Option.some.inj hm
 exact zc Tryz.results104 hf (.cell rfl (zd (n := 8) (vs := [int r20.1.Kind, str r20.1.Scheme, int r20.1.Host.Kind, str r20.1.Host.Name, int r20.1.Host.Port, str r20.1.Path, str r20.1.Query, .bool r20.1.HasQuery]) zcN zbG rfl ((hO.blkSees (i := 1) rfl).cells (o := 0) (n := 8) rfl)) (.tmp rfl .nil)) ⟨rfl, hO.below⟩
 refine rw_ rfl fun a w hf hO hm => ?_
 refine zt (vs := [(0, str [104, 116, 116, 112]), (1, str [104, 116, 116, 112, 115])]) (cs := [str [104, 116, 116, 112], str [104, 116, 116, 112, 115]]) (e := 9) (sz := 1) hf rfl rfl (fun w => by kernel_rfl) rfl rfl hO fun a b27 w hf hO => ?_
 refine S.op tb ?_ hf hO hm
 refine lv [4, 49, 50] [0, 1, 2] (fun J E L k => ∃ (s29 : Str) (i30 : Int), J ((1, str s29) :: (51, int i30) :: E) (L) (zag k s29 i30)) rfl (fun _ _ j => ⟨x_a1, 0, j rfl⟩) ?_
 rintro n3 a w ⟨s29, i30, hf, hO, hm⟩
 obtain _ | n3 := n3
 rw [zag] at hm
 cases hm
 rw [zag] at hm
 refine S.co tb ?_ hf hO hm
 refine br rfl (fun hc32 => ?_) fun hc32 => ?_
 refine rw_ rfl fun a w hf hO hm => ?_
 obtain ⟨x34, hx34, hm⟩ := ob hm
 obtain ⟨b35, o36, hix34, hSx34, hAx34⟩ := zE (enc := zf) (sz := 1) (xs := ([[104, 116, 116, 112], [104, 116, 116, 112, 115]] : List Str)) 30 Tryz.underlying30 zdD (by decide) (fun _ => rfl) hO (i := 0) rfl hx34
 refine zG (zh hix34 hf rfl rfl) rfl hf rfl rfl fun a hf => ?_
 refine S.op tb ?_ hf hO hm
 refine vl rfl rfl (fun a w hf hO => zk (o := 0) zbx (hSx34 _ (hO.rowSees (i := 0) rfl)) rfl hf rfl) ?_
 refine bi rfl fun i38 hi38 => ?_
 refine jv 6 [1, 4, 11, 12, 49, 50, 51] [0, 1, 2] (fun J E L => ∃ (t44 : Bool), J ((70, .bool t44) :: E) (L) (zfw (zag n3) s29 i30 x34 i38 t44)) rfl ?_ ?_
 refine br rfl (fun hc40 => ?_) fun hc40 => ?_
 exact en rfl fun _ _ j => ⟨true, j rfl⟩
 refine bi rfl fun s41 hs41 => ?_
 refine cl c_99 rfl (fun r42 w hr42 hO => zjd s41 r42 _ (hG.own hF hO) hr42) fun r42 hr42 => ?_
 refine bi rfl fun s43 hs43 => ?_
 exact en rfl fun _ _ j => ⟨!(r42 == s43), j rfl⟩
 rintro a w ⟨t44, hf, hO, hm⟩
 rw [zfw] at hm
 refine S.co tb ?_ hf hO hm
 refine br rfl (fun hc45 => ?_) fun hc45 => ?_
 refine bi rfl fun i99 hi99 => ?_
 exact en rfl fun _ _ j => ⟨_, Nat.lt_succ_self _, s29, i99, j rfl⟩
 refine bi rfl fun s47 hs47 => ?_
 refine lv [1, 4, 11] [0, 1, 2] (fun J E L k => ∃ (i50 : Int), J ((13, int i50) :: E) (L) (zaA x34 s47 k i50)) rfl (fun _ _ j => ⟨0, j rfl⟩) ?_
 rintro n5 a w ⟨i50, hf, hO, hm⟩
 obtain _ | n5 := n5
 rw [zaA] at hm
 cases hm
 rw [zaA] at hm
 refine S.co tb ?_ hf hO hm
 refine jv 9 [1, 4, 11, 13] [0, 1, 2] (fun J E L => ∃ (t55 : Bool), J ((89, .bool t55) :: E) (L) (zb8 (zaA x34 s47 n5) x34 s47 i50 t55)) rfl ?_ ?_
 refine br rfl (fun hc51 => ?_) fun hc51 => ?_
 refine bi rfl fun b52 hb52 => ?_
 refine vl rfl rfl (fun a w hf hO => zez (b := b52) (c := 47) hf rfl rfl) ?_
 refine br rfl (fun hc53 => ?_) fun hc53 => ?_
 refine bi rfl fun b54 hb54 => ?_
 refine vl rfl rfl (fun a w hf hO => zez (b := b54) (c := 63) hf rfl rfl) ?_
 exact en rfl fun _ _ j => ⟨!(b54 == 63), j rfl⟩
 exact en rfl fun _ _ j => ⟨false, j rfl⟩
 exact en rfl fun _ _ j => ⟨false, j rfl⟩
 rintro a w ⟨t55, hf, hO, hm⟩
 rw [zb8] at hm
 refine S.co tb ?_ hf hO hm
 refine br rfl (fun hc56 => ?_) fun hc56 => ?_
 refine bi rfl fun i58 hi58 => ?_
 exact en rfl fun _ _ j => ⟨_, Nat.lt_succ_self _, i58, j rfl⟩
 refine bi rfl fun s60 hs60 => ?_
 refine cl c_97 rfl (fun r61 w hr61 hO => zkE s60 r61 _ (hG.own hF hO) hr61) fun r61 hr61 => ?_
 refine al zhg rfl fun b62 => ?_
 refine st 0 rfl rfl ?_
 refine br rfl (fun hc65 => ?_) fun hc65 => ?_
 refine vl rfl rfl (fun a w hf hO => zg (vs := []) (v := .agg #[int 0, str [], int 0, str [], int 0, str [], str [], .bool false]) hf rfl (by kernel_rfl)) ?_
 refine st 3 rfl rfl ?_
 refine re_ rfl fun a w hf hO hm => ?_
 obtain rfl := Option.some.inj hm
 exact zc Tryz.results104 hf (.cell rfl (zd (n := 8) (vs := [int 0, str [], int 0, str [], int 0, str [], str [], .bool false]) zcN zbG rfl ((hO.blkSees (i := 3) rfl).cells (o := 0) (n := 8) rfl)) (.tmp rfl .nil)) ⟨rfl, hO.below⟩
 refine ld 0 rfl rfl ?_
 refine vl rfl rfl (fun a w hf hO => zg (vs := [(0, int 2), (1, str x34), (2, .agg #[int r61.1.Kind, str r61.1.Name, int r61.1.Port])]) (v := .agg #[int 2, str x34, int r61.1.Kind, str r61.1.Name, int r61.1.Port, str [], str [], .bool false]) hf rfl (by kernel_rfl)) ?_
 refine al zhU rfl fun b68 => ?_
 refine st 0 rfl rfl ?_
 refine br rfl (fun hc71 => ?_) fun hc71 => ?_
 refine ld 0 rfl rfl ?_
 refine st 4 rfl rfl ?_
 refine re_ rfl fun a w hf hO hm => ?_
 obtain rfl := Option.some.inj hm
 exact zc Tryz.results104 hf (.cell rfl (zd (n := 8) (vs := [int 2, str x34, int r61.1.Kind, str r61.1.Name, int r61.1.Port, str [], str [], .bool false]) zcN zbG rfl ((hO.blkSees (i := 4) rfl).cells (o := 0) (n := 8) rfl)) (.tmp rfl .nil)) ⟨rfl, hO.below⟩
 refine jv 5 [4, 16] [1, 2, 3, 4] (fun J E L => ∃ (t84 : Bool) (i85 : Int) (s86 : Str) (i87 : Int) (s88 : Str) (i89 : Int) (s90 : Str) (s91 : Str) (t92 : Bool), J ((9, .bool t84) :: E) (.blk b68 [int i85, str s86, int i87, str s88, int i89, str s90, str s91, .bool t92] 188 :: L) (zfv t84 i85 s86 i87 s88 i89 s90 s91 t92)) rfl ?_ ?_
 refine bi rfl fun b74 hb74 => ?_
 refine vl rfl rfl (fun a w hf hO => zz (b := b74) (c := 63) hf rfl rfl) ?_
 refine br rfl (fun hc76 => ?_) fun hc76 => ?_
 refine st 0 rfl rfl ?_
 refine bi rfl fun i78 hi78 => ?_
 refine bi rfl fun s79 hs79 => ?_
 refine st 0 rfl rfl ?_
 refine ld 0 rfl rfl ?_
 refine cl c_150 rfl (fun r81 w hr81 hO => znJ s79 r81 _ (hG.own hF hO) hr81) fun r81 hr81 => ?_
 exact en rfl fun _ _ j => ⟨r81, 2, x34, r61.1.Kind, r61.1.Name, r61.1.Port, [], s79, true, j rfl⟩
 refine rc_ rfl fun a w hf hO hm => ?_
 obtain ⟨s82, hs82, hm⟩ := ob hm
 obtain ⟨r83, hr83, hm⟩ := ob hm
 refine dS (S := Unit) [(1, str s47), (4, ptr b1 0), (13, int i50), (16, ptr b68 0)] (fun _ => (fun (q0 q1 q2 q3 q4 : Res) => [[q0, q1, q2, q3, q4], [q0, q1, q2, q3, q4], [.blk b68 [int r83.1.Kind, str r83.1.Scheme, int r83.1.Host.Kind, str r83.1.Host.Name, int r83.1.Host.Port, str r83.1.Path, str r83.1.Query, .bool r83.1.HasQuery] 188, q1, q2, q3, q4]]) (.blk b68 [int 2, str x34, int r61.1.Kind, str r61.1.Name, int r61.1.Port, str [], str [], .bool false] 188) (.blk b62 [int r61.1.Kind, str r61.1.Name, int r61.1.Port] 175) (.row (.slice (some ⟨b27, 0, none⟩) (([[104, 116, 116, 112], [104, 116, 116, 112, 115]] : List Str).length) 2) 9 1 (([[104, 116, 116, 112], [104, 116, 116, 112, 115]] : List Str).length) (cells zf ([[104, 116, 116, 112], [104, 116, 116, 112, 115]] : List Str))) (.blk b21 [int r20.1.Kind, str r20.1.Scheme, int r20.1.Host.Kind, str r20.1.Host.Name, int r20.1.Host.Port, str r20.1.Path, str r20.1.Query, .bool r20.1.HasQuery] 188) (.blk b1 [int 0, str [], int 0, str [], int 0, str [], str [], .bool false] 188)) (fun σ => [⟨[(16, ptr b68 0)], some (124, .agg #[int 2, str x34, int r61.1.Kind, str r61.1.Name, int r61.1.Port, str [], str [], .bool false])⟩, ⟨[(1, str s47)], some (125, str s47)⟩, ⟨[(13, int i50)], some (126, int i50)⟩, ⟨[(125, str s47), (126, int i50)], some (127, str s82)⟩, ⟨[(124, .agg #[int 2, str x34, int r61.1.Kind, str r61.1.Name, int r61.1.Port, str [], str [], .bool false]), (127, str s82)], some (128, .tuple #[.agg #[int r83.1.Kind, str r83.1.Scheme, int r83.1.Host.Kind, str r83.1.Host.Name, int r83.1.Host.Port, str r83.1.Path, str r83.1.Query, .bool r83.1.HasQuery], .bool r83.2])⟩, ⟨[(128, .tuple #[.agg #[int r83.1.Kind, str r83.1.Scheme, int r83.1.Host.Kind, str r83.1.Host.Name, int r83.1.Host.Port, str r83.1.Path, str r83.1.Query, .bool r83.1.HasQuery], .bool r83.2])], some (123, .tuple #[.agg #[int r83.1.Kind, str r83.1.Scheme, int r83.1.Host.Kind, str r83.1.Host.Name, int r83.1.Host.Port, str r83.1.Path, str r83.1.Query, .bool r83.1.HasQuery], .bool r83.2])⟩, ⟨[(123, .tuple #[.agg #[int r83.1.Kind, str r83.1.Scheme, int r83.1.Host.Kind, str r83.1.Host.Name, int r83.1.Host.Port, str r83.1.Path, str r83.1.Query, .bool r83.1.HasQuery], .bool r83.2])], some (129, .agg #[int r83.1.Kind, str r83.1.Scheme, int r83.1.Host.Kind, str r83.1.Host.Name, int r83.1.Host.Port, str r83.1.Path, str r83.1.Query, .bool r83.1.HasQuery])⟩, ⟨[(123, .tuple #[.agg #[int r83.1.Kind, str r83.1.Scheme, int r83.1.Host.Kind, str r83.1.Host.Name, int r83.1.Host.Port, str r83.1.Path, str r83.1.Query, .bool r83.1.HasQuery], .bool r83.2])], some (130, .bool r83.2)⟩, ⟨[(16, ptr b68 0), (129, .agg #[int r83.1.Kind, str r83.1.Scheme, int r83.1.Host.Kind, str r83.1.Host.Name, int r83.1.Host.Port, str r83.1.Path, str r83.1.Query, .bool r83.1.HasQuery])], none⟩, ⟨[(130, .bool r83.2)], some (9, .bool r83.2)⟩]) () [4, 8] hO hf ⟨sD tb 0 [0], sE tb, sE tb, sP (fun hf => zkS (l := s47) Tryz.underlying9 hf rfl rfl hs82), sC 0 (fun hf => zak c_149 hf (vs := [.agg #[int 2, str x34, int r61.1.Kind, str r61.1.Name, int r61.1.Port, str [], str [], .bool false], str s82]) rfl) (@fun σ w hO => (zmv (⟨2, x34, r61.1, [], [], false⟩ : api_Target) s82 r83 _ (hG.own hF hO) hr83).mono fun e w' ⟨he, hb⟩ => cR (σ := σ) () he (hO.grow hb)), sE tb, sE tb, sE tb, sK 1 (@fun σ w hO => match zg5 (x := (.tmp 16)) (y := (.tmp 129)) (E := [(16, ptr b68 0), (129, .agg #[int r83.1.Kind, str r83.1.Scheme, int r83.1.Host.Kind, str r83.1.Host.Name, int r83.1.Host.Port, str r83.1.Path, str r83.1.Query, .bool r83.1.HasQuery])]) (i := 0) (n := 8) (vs := [int r83.1.Kind, str r83.1.Scheme, int r83.1.Host.Kind, str r83.1.Host.Name, int r83.1.Host.Port, str r83.1.Path, str r83.1.Query, .bool r83.1.HasQuery]) zbG rfl rfl rfl (by simp [Value.oneCell']) hO rfl rfl with | ⟨w', hO', hr⟩ => vR (σ := σ) () hO' hr), sE tb, trivial⟩ ?_
 rintro _ a w hf hO
 have hO : Dk.Own w0 [] w _ := hO
 have hf : Fits 137 [(4, ptr b1 0), (9, .bool r83.2), (16, ptr b68 0)] a := (hf.cons rfl (hf.cons rfl (hf.cons rfl hf.nil)))
 refine S.no tb ?_ hf hO hm
 exact en rfl fun _ _ j => ⟨r83.2, r83.1.Kind, r83.1.Scheme, r83.1.Host.Kind, r83.1.Host.Name, r83.1.Host.Port, r83.1.Path, r83.1.Query, r83.1.HasQuery, j rfl⟩
 rintro a w ⟨t84, i85, s86, i87, s88, i89, s90, s91, t92, hf, hO, hm⟩
 rw [zfv] at hm
 refine S.co tb ?_ hf hO hm
 refine br rfl (fun hc94 => ?_) fun hc94 => ?_
 refine vl rfl rfl (fun a w hf hO => zg (vs := []) (v := .agg #[int 0, str [], int 0, str [], int 0, str [], str [], .bool false]) hf rfl (by kernel_rfl)) ?_
 refine st 4 rfl rfl ?_
 refine re_ rfl fun a w hf hO hm => ?_
 obtain rfl := Option.some.inj hm
 exact zc Tryz.results104 hf (.cell rfl (zd (n := 8) (vs := [int 0, str [], int 0, str [], int 0, str [], str [], .bool false]) zcN zbG rfl ((hO.blkSees (i := 4) rfl).cells (o := 0) (n := 8) rfl)) (.tmp rfl .nil)) ⟨rfl, hO.below⟩
 refine ld 0 rfl rfl ?_
 refine st 4 rfl rfl ?_
 refine re_ rfl fun a w hf hO hm => ?_
 obtain rfl := Option.some.inj hm
 exact zc Tryz.results104 hf (.cell rfl (zd (n := 8) (vs := [int i85, str s86, int i87, str s88, int i89, str s90, str s91, .bool t92]) zcN zbG rfl ((hO.blkSees (i := 4) rfl).cells (o := 0) (n := 8) rfl)) (.tmp rfl .nil)) ⟨rfl, hO.below⟩
 refine vl rfl rfl (fun a w hf hO => zg (vs := []) (v := .agg #[int 0, str [], int 0, str [], int 0, str [], str [], .bool false]) hf rfl (by kernel_rfl)) ?_
 refine st 2 rfl rfl ?_
 refine re_ rfl fun a w hf hO hm => ?_
 obtain rfl := Option.some.inj hm
 exact zc Tryz.results104 hf (.cell rfl (zd (n := 8) (vs := [int 0, str [], int 0, str [], int 0, str [], str [], .bool false]) zcN zbG rfl ((hO.blkSees (i := 2) rfl).cells (o := 0) (n := 8) rfl)) (.tmp rfl .nil)) ⟨rfl, hO.below⟩

theorem zkF (x_b : UInt8) (R : Bool) (w0 : World) (hG : zr w0) (hm : zfy x_b = some R) :
    Calls Tryz.prog 105 #[zai x_b] w0 (Ret w0 (fun R => .bool R) R) := by
 rw [zfy] at hm
 have hF : zq [] := ze
 have hO : Dk.Own w0 [] w0 [] := Dk.Own.refl w0
 refine S.enter tb Tryz.func105 rfl Tryz.ntmps105 rfl ?_ hO hm
 refine jv 0 [] [] (fun J E L => ∃ (t4 : Bool), J ((2, .bool t4) :: E) (L) (zfx t4)) rfl ?_ ?_
 refine vl rfl rfl (fun a w hf hO => zml (b := x_b) (c := 32) hf rfl rfl) ?_
 refine br rfl (fun hc2 => ?_) fun hc2 => ?_
 refine vl rfl rfl (fun a w hf hO => zez (b := x_b) (c := 127) hf rfl rfl) ?_
 refine br rfl (fun hc3 => ?_) fun hc3 => ?_
 exact en rfl fun _ _ j => ⟨true, j rfl⟩
 refine vl rfl rfl (fun a w hf hO => zz (b := x_b) (c := 9) hf rfl rfl) ?_
 exact en rfl fun _ _ j => ⟨x_b == 9, j rfl⟩
 refine vl rfl rfl (fun a w hf hO => zz (b := x_b) (c := 9) hf rfl rfl) ?_
 exact en rfl fun _ _ j => ⟨x_b == 9, j rfl⟩
 rintro a w ⟨t4, hf, hO, hm⟩
 rw [zfx] at hm
 refine S.co tb ?_ hf hO hm
 exact rt Tryz.results105 rfl

theorem zsw (x_a0 : Int) (x_a1 : Str) (R : api_Head × Int) (w0 : World) (hG : zr w0) (hm : ziK x_a0 x_a1 = some R) :
    Calls Tryz.prog 68 #[int x_a0, str x_a1] w0 fun e w' => ∃ (p0 : Option Addr) (c0 : Nat), e = .returned (.tuple #[.agg #[int R.1.Kind, str R.1.Method, str R.1.Target, int R.1.Code, str R.1.Reason, int R.1.Minor, .slice p0 R.1.Fields.length c0], int R.2]) ∧ Dk.Own w0 [] w' [.row (.slice p0 R.1.Fields.length c0) 110 2 R.1.Fields.length (cells za R.1.Fields)] := by
 rw [ziK] at hm
 have hF : zq [] := ze
 have hO : Dk.Own w0 [] w0 [] := Dk.Own.refl w0
 refine S.enter tb Tryz.func68 rfl Tryz.ntmps68 rfl ?_ hO hm
 refine al zj7 rfl fun b1 => ?_
 refine nl 110 2 ?_
 refine jv 1 [0, 1, 4] [0, 1] (fun J E L => ∃ (t4 : Bool), J ((21, .bool t4) :: E) (L) (zfB x_a0 x_a1 t4)) rfl ?_ ?_
 refine br rfl (fun hc3 => ?_) fun hc3 => ?_
 exact en rfl fun _ _ j => ⟨!(x_a0 == 2), j rfl⟩
 exact en rfl fun _ _ j => ⟨false, j rfl⟩
 rintro a w ⟨t4, hf, hO, hm⟩
 rw [zfB] at hm
 refine S.co tb ?_ hf hO hm
 refine br rfl (fun hc5 => ?_) fun hc5 => ?_
 refine vl rfl rfl (fun a w hf hO => zg (vs := []) (v := .agg #[int 0, str [], str [], int 0, str [], int 0, .slice none 0 0]) hf rfl (by kernel_rfl)) ?_
 refine st 1 rfl rfl ?_
 refine nl 110 2 ?_
 refine re_ rfl fun a w hf hO hm => ?_
 obtain rfl := Option.some.inj hm
 exact zc Tryz.results68 hf (.cell rfl (zd (n := 7) (vs := [int 0, str [], str [], int 0, str [], int 0, .slice none 0 0]) zcE zce rfl ((hO.blkSees (i := 2) rfl).cells (o := 0) (n := 7) rfl)) (.tmp rfl .nil)) ⟨none, 0, rfl, (hO.sub (.cons_cons _ (.cons _ (.cons _ .slnil))))⟩
 refine lv [0, 1, 4] [0, 1] (fun J E L k => ∃ (i9 : Int), J ((6, int i9) :: E) (L) (zaX x_a0 x_a1 k i9)) rfl (fun _ _ j => ⟨0, j rfl⟩) ?_
 rintro n2 a w ⟨i9, hf, hO, hm⟩
 obtain _ | n2 := n2
 rw [zaX] at hm
 cases hm
 rw [zaX] at hm
 refine S.co tb ?_ hf hO hm
 refine br rfl (fun hc11 => ?_) fun hc11 => ?_
 refine jv 5 [0, 1, 4, 6] [0, 1] (fun J E L => ∃ (t16 : Bool), J ((38, .bool t16) :: E) (L) (zfz (zaX x_a0 x_a1 n2) i9 t16)) rfl ?_ ?_
 refine bi rfl fun b13 hb13 => ?_
 refine vl rfl rfl (fun a w hf hO => zz (b := b13) (c := 13) hf rfl rfl) ?_
 refine br rfl (fun hc14 => ?_) fun hc14 => ?_
 exact en rfl fun _ _ j => ⟨true, j rfl⟩
 refine bi rfl fun b15 hb15 => ?_
 refine vl rfl rfl (fun a w hf hO => zz (b := b15) (c := 10) hf rfl rfl) ?_
 exact en rfl fun _ _ j => ⟨b15 == 10, j rfl⟩
 rintro a w ⟨t16, hf, hO, hm⟩
 rw [zfz] at hm
 refine S.co tb ?_ hf hO hm
 refine br rfl (fun hc17 => ?_) fun hc17 => ?_
 refine vl rfl rfl (fun a w hf hO => zg (vs := []) (v := .agg #[int 0, str [], str [], int 0, str [], int 0, .slice none 0 0]) hf rfl (by kernel_rfl)) ?_
 refine st 1 rfl rfl ?_
 refine nl 110 2 ?_
 refine re_ rfl fun a w hf hO hm => ?_
 obtain rfl := Option.some.inj hm
 exact zc Tryz.results68 hf (.cell rfl (zd (n := 7) (vs := [int 0, str [], str [], int 0, str [], int 0, .slice none 0 0]) zcE zce rfl ((hO.blkSees (i := 2) rfl).cells (o := 0) (n := 7) rfl)) (.tmp rfl .nil)) ⟨none, 0, rfl, (hO.sub (.cons_cons _ (.cons _ (.cons _ .slnil))))⟩
 refine bi rfl fun i20 hi20 => ?_
 exact en rfl fun _ _ j => ⟨_, Nat.lt_succ_self _, i20, j rfl⟩
 refine cm2 zy1 rfl (fun r22 w hr22 hO => zkA x_a1 32 r22 _ (hG.own hF hO) hr22) fun r22 hr22 p23 c24 => ?_
 refine br rfl (fun hc27 => ?_) fun hc27 => ?_
 refine bi rfl fun i28 hi28 => ?_
 refine rw_ rfl fun a w hf hO hm => ?_
 obtain ⟨x29, hx29, hm⟩ := ob hm
 obtain ⟨b30, o31, hix29, hSx29, hAx29⟩ := zE (enc := zf) (sz := 1) (xs := r22) 30 Tryz.underlying30 zdD (by decide) (fun _ => rfl) hO (i := 0) rfl hx29
 refine zG (zh hix29 hf rfl rfl) rfl hf rfl rfl fun a hf => ?_
 refine S.op tb ?_ hf hO hm
 refine vl rfl rfl (fun a w hf hO => zk (o := 0) zbx (hSx29 _ (hO.rowSees (i := 0) rfl)) rfl hf rfl) ?_
 refine cl c_103 rfl (fun r32 w hr32 hO => zlR x29 r32 _ (hG.own hF hO) hr32) fun r32 hr32 => ?_
 refine br rfl (fun hc35 => ?_) fun hc35 => ?_
 refine vl rfl rfl (fun a w hf hO => zg (vs := []) (v := .agg #[int 0, str [], str [], int 0, str [], int 0, .slice none 0 0]) hf rfl (by kernel_rfl)) ?_
 refine st 2 rfl rfl ?_
 refine nl 110 2 ?_
 refine re_ rfl fun a w hf hO hm => ?_
 obtain rfl := Option.some.inj hm
 exact zc Tryz.results68 hf (.cell rfl (zd (n := 7) (vs := [int 0, str [], str [], int 0, str [], int 0, .slice none 0 0]) zcE zce rfl ((hO.blkSees (i := 3) rfl).cells (o := 0) (n := 7) rfl)) (.tmp rfl .nil)) ⟨none, 0, rfl, (hO.sub (.cons_cons _ (.cons _ (.cons _ (.cons _ .slnil)))))⟩
 refine jv 2 [4, 7, 8] [0, 1, 2] (fun J E L => ∃ (t44 : Bool), J ((67, .bool t44) :: E) (L) (zaB r22 r32 t44)) rfl ?_ ?_
 refine br rfl (fun hc38 => ?_) fun hc38 => ?_
 exact en rfl fun _ _ j => ⟨true, j rfl⟩
 refine br rfl (fun hc39 => ?_) fun hc39 => ?_
 exact en rfl fun _ _ j => ⟨true, j rfl⟩
 refine rw_ rfl fun a w hf hO hm => ?_
 obtain ⟨x40, hx40, hm⟩ := ob hm
 obtain ⟨b41, o42, hix40, hSx40, hAx40⟩ := zE (enc := zf) (sz := 1) (xs := r22) 30 Tryz.underlying30 zdD (by decide) (fun _ => rfl) hO (i := 0) rfl hx40
 refine zG (zh hix40 hf rfl rfl) rfl hf rfl rfl fun a hf => ?_
 refine S.op tb ?_ hf hO hm
 refine kn (b' := false) hc39 rfl ?_
 refine vl rfl rfl (fun a w hf hO => zk (o := 0) zbx (hSx40 _ (hO.rowSees (i := 0) rfl)) rfl hf rfl) ?_
 refine cl c_93 rfl (fun r43 w hr43 hO => zkB x40 r43 _ (hG.own hF hO) hr43) fun r43 hr43 => ?_
 exact en rfl fun _ _ j => ⟨!r43, j rfl⟩
 rintro a w ⟨t44, hf, hO, hm⟩
 rw [zaB] at hm
 refine S.co tb ?_ hf hO hm
 refine br rfl (fun hc45 => ?_) fun hc45 => ?_
 refine vl rfl rfl (fun a w hf hO => zg (vs := []) (v := .agg #[int 0, str [], str [], int 0, str [], int 0, .slice none 0 0]) hf rfl (by kernel_rfl)) ?_
 refine st 2 rfl rfl ?_
 refine nl 110 2 ?_
 refine re_ rfl fun a w hf hO hm => ?_
 obtain rfl := Option.some.inj hm
 exact zc Tryz.results68 hf (.cell rfl (zd (n := 7) (vs := [int 0, str [], str [], int 0, str [], int 0, .slice none 0 0]) zcE zce rfl ((hO.blkSees (i := 3) rfl).cells (o := 0) (n := 7) rfl)) (.tmp rfl .nil)) ⟨none, 0, rfl, (hO.sub (.cons_cons _ (.cons _ (.cons _ (.cons _ .slnil)))))⟩
 refine rc_ rfl fun a w hf hO hm => ?_
 obtain ⟨x48, hx48, hm⟩ := ob hm
 obtain ⟨b49, o50, hix48, hSx48, hAx48⟩ := zE (enc := zf) (sz := 1) (xs := r22) 30 Tryz.underlying30 zdD (by decide) (fun _ => rfl) hO (i := 0) rfl hx48
 obtain ⟨x51, hx51, hm⟩ := ob hm
 obtain ⟨b52, o53, hix51, hSx51, hAx51⟩ := zE (enc := zf) (sz := 1) (xs := r22) 30 Tryz.underlying30 zdD (by decide) (fun _ => rfl) hO (i := 0) rfl hx51
 obtain ⟨r54, hr54, hm⟩ := ob hm
 refine dS (S := Nat) [(4, ptr b1 0), (7, .slice p23 r22.length c24), (8, int r32)] (fun σ => (fun (q0 q1 q2 : Res) => [[q0, q1, q2], [.blk σ [int 0, str [], int 0, str [], int 0, str [], str [], .bool false] 188, q0, q1, q2], [.blk σ [int r54.1.Kind, str r54.1.Scheme, int r54.1.Host.Kind, str r54.1.Host.Name, int r54.1.Host.Port, str r54.1.Path, str r54.1.Query, .bool r54.1.HasQuery] 188, q0, q1, q2]]) (.row (.slice p23 r22.length c24) 9 1 r22.length (cells zf r22)) (.row (.slice none 0 0) 110 2 0 (cells za [])) (.blk b1 [int 0, str [], str [], int 0, str [], int 0, .slice none 0 0] 35)) (fun σ => [⟨[(7, .slice p23 r22.length c24)], some (70, .slice p23 r22.length c24)⟩, ⟨[(70, .slice p23 r22.length c24)], some (71, ptr b49 o50)⟩, ⟨[(71, ptr b49 o50)], some (72, str x48)⟩, ⟨[(7, .slice p23 r22.length c24)], some (73, .slice p23 r22.length c24)⟩, ⟨[(73, .slice p23 r22.length c24)], some (74, ptr b52 o53)⟩, ⟨[(74, ptr b52 o53)], some (75, str x51)⟩, ⟨[(72, str x48), (75, str x51)], some (76, .tuple #[.agg #[int r54.1.Kind, str r54.1.Scheme, int r54.1.Host.Kind, str r54.1.Host.Name, int r54.1.Host.Port, str r54.1.Path, str r54.1.Query, .bool r54.1.HasQuery], int r54.2])⟩, ⟨[(76, .tuple #[.agg #[int r54.1.Kind, str r54.1.Scheme, int r54.1.Host.Kind, str r54.1.Host.Name, int r54.1.Host.Port, str r54.1.Path, str r54.1.Query, .bool r54.1.HasQuery], int r54.2])], some (69, .tuple #[.agg #[int r54.1.Kind, str r54.1.Scheme, int r54.1.Host.Kind, str r54.1.Host.Name, int r54.1.Host.Port, str r54.1.Path, str r54.1.Query, .bool r54.1.HasQuery], int r54.2])⟩, ⟨[(69, .tuple #[.agg #[int r54.1.Kind, str r54.1.Scheme, int r54.1.Host.Kind, str r54.1.Host.Name, int r54.1.Host.Port, str r54.1.Path, str r54.1.Query, .bool r54.1.HasQuery], int r54.2])], some (77, .agg #[int r54.1.Kind, str r54.1.Scheme, int r54.1.Host.Kind, str r54.1.Host.Name, int r54.1.Host.Port, str r54.1.Path, str r54.1.Query, .bool r54.1.HasQuery])⟩, ⟨[(69, .tuple #[.agg #[int r54.1.Kind, str r54.1.Scheme, int r54.1.Host.Kind, str r54.1.Host.Name, int r54.1.Host.Port, str r54.1.Path, str r54.1.Query, .bool r54.1.HasQuery], int r54.2])], some (78, int r54.2)⟩, ⟨[], some (9, ptr σ 0)⟩, ⟨[(9, ptr σ 0), (77, .agg #[int r54.1.Kind, str r54.1.Scheme, int r54.1.Host.Kind, str r54.1.Host.Name, int r54.1.Host.Port, str r54.1.Path, str r54.1.Query, .bool r54.1.HasQuery])], none⟩, ⟨[(78, int r54.2)], some (10, int r54.2)⟩]) (0) [10, 11] hO hf ⟨sE tb, sP (fun hf => zh hix48 hf rfl rfl), sL 0 1 (fun hf => ⟨fun hO => zk (o := 0) zbx (hSx48 _ (hO.rowSees (i := 0) rfl)) rfl hf rfl, fun hO => zk (o := 0) zbx (hSx48 _ (hO.rowSees (i := 1) rfl)) rfl hf rfl⟩), sE tb, sP (fun hf => zh hix51 hf rfl rfl), sL 0 1 (fun hf => ⟨fun hO => zk (o := 0) zbx (hSx51 _ (hO.rowSees (i := 0) rfl)) rfl hf rfl, fun hO => zk (o := 0) zbx (hSx51 _ (hO.rowSees (i := 1) rfl)) rfl hf rfl⟩), sG 0 1 (fun hf => zak c_104 hf (vs := [str x48, str x51]) rfl) (⟨fun hO => znK x48 x51 r54 _ (hG.own hF hO) hr54, fun hO => znK x48 x51 r54 _ (hG.own hF hO) hr54⟩), sE tb, sE tb, sE tb, sV 0 (@fun σ w hO => match zrV (E := []) zhU hO with | ⟨b55, w', hO', hr⟩ => vR (σ := σ) (b55) hO' hr), sK 1 (@fun σ w hO => match zg5 (x := (.tmp 9)) (y := (.tmp 77)) (E := [(9, ptr σ 0), (77, .agg #[int r54.1.Kind, str r54.1.Scheme, int r54.1.Host.Kind, str r54.1.Host.Name, int r54.1.Host.Port, str r54.1.Path, str r54.1.Query, .bool r54.1.HasQuery])]) (i := 0) (n := 8) (vs := [int r54.1.Kind, str r54.1.Scheme, int r54.1.Host.Kind, str r54.1.Host.Name, int r54.1.Host.Port, str r54.1.Path, str r54.1.Query, .bool r54.1.HasQuery]) zbG rfl rfl rfl (by simp [Value.oneCell']) hO rfl rfl with | ⟨w', hO', hr⟩ => vR (σ := σ) (σ) hO' hr), sE tb, trivial⟩ ?_
 rintro b55 a w hf hO
 have hO : Dk.Own w0 [] w _ := hO
 have hf : Fits 144 [(4, ptr b1 0), (7, .slice p23 r22.length c24), (8, int r32), (10, int r54.2)] a := (hf.cons rfl (hf.cons rfl (hf.cons rfl (hf.cons rfl hf.nil))))
 refine S.no tb ?_ hf hO hm
 refine br rfl (fun hc58 => ?_) fun hc58 => ?_
 refine vl rfl rfl (fun a w hf hO => zg (vs := []) (v := .agg #[int 0, str [], str [], int 0, str [], int 0, .slice none 0 0]) hf rfl (by kernel_rfl)) ?_
 refine st 3 rfl rfl ?_
 refine nl 110 2 ?_
 refine re_ rfl fun a w hf hO hm => ?_
 obtain rfl := Option.some.inj hm
 exact zc Tryz.results68 hf (.cell rfl (zd (n := 7) (vs := [int 0, str [], str [], int 0, str [], int 0, .slice none 0 0]) zcE zce rfl ((hO.blkSees (i := 4) rfl).cells (o := 0) (n := 7) rfl)) (.tmp rfl .nil)) ⟨none, 0, rfl, (hO.sub (.cons_cons _ (.cons _ (.cons _ (.cons _ (.cons _ .slnil))))))⟩
 refine rc_ rfl fun a w hf hO hm => ?_
 obtain ⟨x61, hx61, hm⟩ := ob hm
 obtain ⟨b62, o63, hix61, hSx61, hAx61⟩ := zE (enc := zf) (sz := 1) (xs := r22) 30 Tryz.underlying30 zdD (by decide) (fun _ => rfl) hO (i := 1) rfl hx61
 obtain ⟨x64, hx64, hm⟩ := ob hm
 obtain ⟨b65, o66, hix64, hSx64, hAx64⟩ := zE (enc := zf) (sz := 1) (xs := r22) 30 Tryz.underlying30 zdD (by decide) (fun _ => rfl) hO (i := 1) rfl hx64
 refine dS (S := Unit) [(4, ptr b1 0), (7, .slice p23 r22.length c24), (8, int r32)] (fun _ => (fun (q0 q1 q2 : Res) => [[q0, q1, q2, .blk b1 [int 0, str [], str [], int 0, str [], int 0, .slice none 0 0] 35], [q0, q1, q2, .blk b1 [int 1, str x61, str x64, int 0, str [], int r32, .slice none 0 0] 35]]) (.blk b55 [int r54.1.Kind, str r54.1.Scheme, int r54.1.Host.Kind, str r54.1.Host.Name, int r54.1.Host.Port, str r54.1.Path, str r54.1.Query, .bool r54.1.HasQuery] 188) (.row (.slice p23 r22.length c24) 9 1 r22.length (cells zf r22)) (.row (.slice none 0 0) 110 2 0 (cells za []))) (fun σ => [⟨[(7, .slice p23 r22.length c24)], some (82, .slice p23 r22.length c24)⟩, ⟨[(82, .slice p23 r22.length c24)], some (83, ptr b62 o63)⟩, ⟨[(83, ptr b62 o63)], some (84, str x61)⟩, ⟨[(7, .slice p23 r22.length c24)], some (85, .slice p23 r22.length c24)⟩, ⟨[(85, .slice p23 r22.length c24)], some (86, ptr b65 o66)⟩, ⟨[(86, ptr b65 o66)], some (87, str x64)⟩, ⟨[(8, int r32)], some (88, int r32)⟩, ⟨[(84, str x61), (87, str x64), (88, int r32)], some (89, .agg #[int 1, str x61, str x64, int 0, str [], int r32, .slice none 0 0])⟩, ⟨[(4, ptr b1 0), (89, .agg #[int 1, str x61, str x64, int 0, str [], int r32, .slice none 0 0])], none⟩, ⟨[], some (5, int 0)⟩]) () [8] hO hf ⟨sE tb, sP (fun hf => zh hix61 hf rfl rfl), sL 0 0 (fun hf => fun hO => zk (o := 0) zbx (hSx61 _ (hO.rowSees (i := 1) rfl)) rfl hf rfl), sE tb, sP (fun hf => zh hix64 hf rfl rfl), sL 0 0 (fun hf => fun hO => zk (o := 0) zbx (hSx64 _ (hO.rowSees (i := 1) rfl)) rfl hf rfl), sE tb, sP (fun hf => zg (vs := [(0, int 1), (1, str x61), (2, str x64), (5, int r32)]) (v := .agg #[int 1, str x61, str x64, int 0, str [], int r32, .slice none 0 0]) hf rfl (by kernel_rfl)), sK 0 (@fun σ w hO => match zg5 (x := (.tmp 4)) (y := (.tmp 89)) (E := [(4, ptr b1 0), (89, .agg #[int 1, str x61, str x64, int 0, str [], int r32, .slice none 0 0])]) (i := 3) (n := 7) (vs := [int 1, str x61, str x64, int 0, str [], int r32, .slice none 0 0]) zce rfl rfl rfl (by simp [Value.oneCell']) hO rfl rfl with | ⟨w', hO', hr⟩ => vR (σ := σ) () hO' hr), sE tb, trivial⟩ ?_
 rintro _ a w hf hO
 have hO : Dk.Own w0 [] w _ := hO
 have hf : Fits 144 [(4, ptr b1 0), (5, int 0)] a := (hf.cons rfl (hf.cons rfl hf.nil))
 have hO := hO.nilRow 110 2
 refine S.no tb ?_ hf hO hm
 refine re_ rfl fun a w hf hO hm => ?_
 obtain rfl := Option.some.inj hm
 exact zc Tryz.results68 hf (.cell rfl (zd (n := 7) (vs := [int 1, str x61, str x64, int 0, str [], int r32, .slice none 0 0]) zcE zce rfl ((hO.blkSees (i := 4) rfl).cells (o := 0) (n := 7) rfl)) (.tmp rfl .nil)) ⟨none, 0, rfl, (hO.sub (.cons_cons _ (.cons _ (.cons _ (.cons _ (.cons _ .slnil))))))⟩
 refine rw_ rfl fun a w hf hO hm => ?_
 obtain ⟨x69, hx69, hm⟩ := ob hm
 obtain ⟨b70, o71, hix69, hSx69, hAx69⟩ := zE (enc := zf) (sz := 1) (xs := r22) 30 Tryz.underlying30 zdD (by decide) (fun _ => rfl) hO (i := 0) rfl hx69
 refine zG (zh hix69 hf rfl rfl) rfl hf rfl rfl fun a hf => ?_
 refine S.op tb ?_ hf hO hm
 refine vl rfl rfl (fun a w hf hO => zk (o := 0) zbx (hSx69 _ (hO.rowSees (i := 0) rfl)) rfl hf rfl) ?_
 refine cl c_103 rfl (fun r72 w hr72 hO => zlR x69 r72 _ (hG.own hF hO) hr72) fun r72 hr72 => ?_
 refine br rfl (fun hc75 => ?_) fun hc75 => ?_
 refine vl rfl rfl (fun a w hf hO => zg (vs := []) (v := .agg #[int 0, str [], str [], int 0, str [], int 0, .slice none 0 0]) hf rfl (by kernel_rfl)) ?_
 refine st 2 rfl rfl ?_
 refine nl 110 2 ?_
 refine re_ rfl fun a w hf hO hm => ?_
 obtain rfl := Option.some.inj hm
 exact zc Tryz.results68 hf (.cell rfl (zd (n := 7) (vs := [int 0, str [], str [], int 0, str [], int 0, .slice none 0 0]) zcE zce rfl ((hO.blkSees (i := 3) rfl).cells (o := 0) (n := 7) rfl)) (.tmp rfl .nil)) ⟨none, 0, rfl, (hO.sub (.cons_cons _ (.cons _ (.cons _ (.cons _ .slnil)))))⟩
 refine jv 1 [1, 4, 7, 11] [0, 1, 2] (fun J E L => ∃ (t83 : Bool), J ((110, .bool t83) :: E) (L) (zaC x_a1 r22 r72 t83)) rfl ?_ ?_
 refine br rfl (fun hc78 => ?_) fun hc78 => ?_
 exact en rfl fun _ _ j => ⟨true, j rfl⟩
 refine br rfl (fun hc79 => ?_) fun hc79 => ?_
 exact en rfl fun _ _ j => ⟨true, j rfl⟩
 refine rw_ rfl fun a w hf hO hm => ?_
 obtain ⟨x80, hx80, hm⟩ := ob hm
 obtain ⟨b81, o82, hix80, hSx80, hAx80⟩ := zE (enc := zf) (sz := 1) (xs := r22) 30 Tryz.underlying30 zdD (by decide) (fun _ => rfl) hO (i := 0) rfl hx80
 refine zG (zh hix80 hf rfl rfl) rfl hf rfl rfl fun a hf => ?_
 refine S.op tb ?_ hf hO hm
 refine kn (b' := false) hc79 rfl ?_
 refine vl rfl rfl (fun a w hf hO => zk (o := 0) zbx (hSx80 _ (hO.rowSees (i := 0) rfl)) rfl hf rfl) ?_
 exact en rfl fun _ _ j => ⟨!((x80.length : Int) == 3), j rfl⟩
 rintro a w ⟨t83, hf, hO, hm⟩
 rw [zaC] at hm
 refine S.co tb ?_ hf hO hm
 refine br rfl (fun hc84 => ?_) fun hc84 => ?_
 refine vl rfl rfl (fun a w hf hO => zg (vs := []) (v := .agg #[int 0, str [], str [], int 0, str [], int 0, .slice none 0 0]) hf rfl (by kernel_rfl)) ?_
 refine st 2 rfl rfl ?_
 refine nl 110 2 ?_
 refine re_ rfl fun a w hf hO hm => ?_
 obtain rfl := Option.some.inj hm
 exact zc Tryz.results68 hf (.cell rfl (zd (n := 7) (vs := [int 0, str [], str [], int 0, str [], int 0, .slice none 0 0]) zcE zce rfl ((hO.blkSees (i := 3) rfl).cells (o := 0) (n := 7) rfl)) (.tmp rfl .nil)) ⟨none, 0, rfl, (hO.sub (.cons_cons _ (.cons _ (.cons _ (.cons _ .slnil)))))⟩
 refine rw_ rfl fun a w hf hO hm => ?_
 obtain ⟨x87, hx87, hm⟩ := ob hm
 obtain ⟨b88, o89, hix87, hSx87, hAx87⟩ := zE (enc := zf) (sz := 1) (xs := r22) 30 Tryz.underlying30 zdD (by decide) (fun _ => rfl) hO (i := 0) rfl hx87
 refine zG (zh hix87 hf rfl rfl) rfl hf rfl rfl fun a hf => ?_
 refine S.op tb ?_ hf hO hm
 refine vl rfl rfl (fun a w hf hO => zk (o := 0) zbx (hSx87 _ (hO.rowSees (i := 0) rfl)) rfl hf rfl) ?_
 refine cl zy0 rfl (fun r90 w hr90 hO => zlA x87 10 599 r90 _ (hG.own hF hO) hr90) fun r90 hr90 => ?_
 refine bi rfl fun s92 hs92 => ?_
 refine lv [4, 11, 12, 13, 14] [0, 1, 2] (fun J E L k => ∃ (i95 : Int), J ((15, int i95) :: E) (L) (zca r72 r90 s92 k i95)) rfl (fun _ _ j => ⟨0, j rfl⟩) ?_
 rintro n6 a w ⟨i95, hf, hO, hm⟩
 obtain _ | n6 := n6
 rw [zca] at hm
 cases hm
 rw [zca] at hm
 refine S.co tb ?_ hf hO hm
 refine br rfl (fun hc97 => ?_) fun hc97 => ?_
 refine bi rfl fun b99 hb99 => ?_
 refine cl zy2 rfl (fun r100 w hr100 hO => zkF b99 r100 _ (hG.own hF hO) hr100) fun r100 hr100 => ?_
 refine br rfl (fun hc102 => ?_) fun hc102 => ?_
 refine vl rfl rfl (fun a w hf hO => zg (vs := []) (v := .agg #[int 0, str [], str [], int 0, str [], int 0, .slice none 0 0]) hf rfl (by kernel_rfl)) ?_
 refine st 2 rfl rfl ?_
 refine nl 110 2 ?_
 refine re_ rfl fun a w hf hO hm => ?_
 obtain rfl := Option.some.inj hm
 exact zc Tryz.results68 hf (.cell rfl (zd (n := 7) (vs := [int 0, str [], str [], int 0, str [], int 0, .slice none 0 0]) zcE zce rfl ((hO.blkSees (i := 3) rfl).cells (o := 0) (n := 7) rfl)) (.tmp rfl .nil)) ⟨none, 0, rfl, (hO.sub (.cons_cons _ (.cons _ (.cons _ (.cons _ .slnil)))))⟩
 refine bi rfl fun i105 hi105 => ?_
 exact en rfl fun _ _ j => ⟨_, Nat.lt_succ_self _, i105, j rfl⟩
 refine jv 1 [4, 11, 12, 14] [0, 1, 2] (fun J E L => ∃ (t108 : Bool), J ((138, .bool t108) :: E) (L) (zfA r72 r90 s92 t108)) rfl ?_ ?_
 refine br rfl (fun hc107 => ?_) fun hc107 => ?_
 exact en rfl fun _ _ j => ⟨true, j rfl⟩
 exact en rfl fun _ _ j => ⟨decide (r90.1 < 100), j rfl⟩
 rintro a w ⟨t108, hf, hO, hm⟩
 rw [zfA] at hm
 refine S.co tb ?_ hf hO hm
 refine br rfl (fun hc109 => ?_) fun hc109 => ?_
 refine vl rfl rfl (fun a w hf hO => zg (vs := []) (v := .agg #[int 0, str [], str [], int 0, str [], int 0, .slice none 0 0]) hf rfl (by kernel_rfl)) ?_
 refine st 2 rfl rfl ?_
 refine nl 110 2 ?_
 refine re_ rfl fun a w hf hO hm => ?_
 obtain rfl := Option.some.inj hm
 exact zc Tryz.results68 hf (.cell rfl (zd (n := 7) (vs := [int 0, str [], str [], int 0, str [], int 0, .slice none 0 0]) zcE zce rfl ((hO.blkSees (i := 3) rfl).cells (o := 0) (n := 7) rfl)) (.tmp rfl .nil)) ⟨none, 0, rfl, (hO.sub (.cons_cons _ (.cons _ (.cons _ (.cons _ .slnil)))))⟩
 refine vl rfl rfl (fun a w hf hO => zg (vs := [(0, int 2), (5, int r72), (3, int r90.1), (4, str s92)]) (v := .agg #[int 2, str [], str [], int r90.1, str s92, int r72, .slice none 0 0]) hf rfl (by kernel_rfl)) ?_
 refine st 2 rfl rfl ?_
 refine nl 110 2 ?_
 refine re_ rfl fun a w hf hO hm => ?_
 obtain rfl := Option.some.inj hm
 exact zc Tryz.results68 hf (.cell rfl (zd (n := 7) (vs := [int 2, str [], str [], int r90.1, str s92, int r72, .slice none 0 0]) zcE zce rfl ((hO.blkSees (i := 3) rfl).cells (o := 0) (n := 7) rfl)) (.tmp rfl .nil)) ⟨none, 0, rfl, (hO.sub (.cons_cons _ (.cons _ (.cons _ (.cons _ .slnil)))))⟩

theorem znL (x_b : UInt8) (R : Bool) (w0 : World) (hG : zr w0) (hm : zg0 x_b = some R) :
    Calls Tryz.prog 106 #[zai x_b] w0 (Ret w0 (fun R => .bool R) R) := by
 rw [zg0] at hm
 have hF : zq [] := ze
 have hO : Dk.Own w0 [] w0 [] := Dk.Own.refl w0
 refine S.enter tb Tryz.func106 rfl Tryz.ntmps106 rfl ?_ hO hm
 refine jv 0 [] [] (fun J E L => ∃ (t3 : Bool), J ((2, .bool t3) :: E) (L) (zhx t3)) rfl ?_ ?_
 refine vl rfl rfl (fun a w hf hO => zz (b := x_b) (c := 32) hf rfl rfl) ?_
 refine br rfl (fun hc2 => ?_) fun hc2 => ?_
 exact en rfl fun _ _ j => ⟨true, j rfl⟩
 refine vl rfl rfl (fun a w hf hO => zz (b := x_b) (c := 9) hf rfl rfl) ?_
 exact en rfl fun _ _ j => ⟨x_b == 9, j rfl⟩
 rintro a w ⟨t3, hf, hO, hm⟩
 rw [zhx] at hm
 refine S.co tb ?_ hf hO hm
 exact rt Tryz.results106 rfl

end Go.Proofs
end
section
set_option linter.unusedVariables false
set_option maxHeartbeats 1000000
set_option linter.unusedSimpArgs false
set_option maxRecDepth 100000
namespace Go.Proofs
open Go.Dk Go.Dm Go.RowKit

theorem zlv (x_s : Str) (R : Str) (w0 : World) (hG : zr w0) (hm : zgL x_s = some R) :
    Calls Tryz.prog 95 #[str x_s] w0 (Ret w0 (fun R => str R) R) := by
 rw [zgL] at hm
 have hF : zq [] := ze
 have hO : Dk.Own w0 [] w0 [] := Dk.Own.refl w0
 refine S.enter tb Tryz.func95 rfl Tryz.ntmps95 rfl ?_ hO hm
 refine lv [] [] (fun J E L k => ∃ (s2 : Str), J ((0, str s2) :: E) (L) (zbn k s2)) rfl (fun _ _ j => ⟨x_s, j rfl⟩) ?_
 rintro n1 a w ⟨s2, hf, hO, hm⟩
 obtain _ | n1 := n1
 rw [zbn] at hm
 cases hm
 rw [zbn] at hm
 refine S.co tb ?_ hf hO hm
 refine jv 4 [0] [] (fun J E L => ∃ (t6 : Bool), J ((10, .bool t6) :: E) (L) (zeV (zbn n1) s2 t6)) rfl ?_ ?_
 refine br rfl (fun hc3 => ?_) fun hc3 => ?_
 refine bi rfl fun b4 hb4 => ?_
 refine cl c_106 rfl (fun r5 w hr5 hO => znL b4 r5 _ (hG.own hF hO) hr5) fun r5 hr5 => ?_
 exact en rfl fun _ _ j => ⟨r5, j rfl⟩
 exact en rfl fun _ _ j => ⟨false, j rfl⟩
 rintro a w ⟨t6, hf, hO, hm⟩
 rw [zeV] at hm
 refine S.co tb ?_ hf hO hm
 refine br rfl (fun hc7 => ?_) fun hc7 => ?_
 refine bi rfl fun s9 hs9 => ?_
 exact en rfl fun _ _ j => ⟨_, Nat.lt_succ_self _, s9, j rfl⟩
 refine lv [] [] (fun J E L k => ∃ (s11 : Str), J ((0, str s11) :: E) (L) (zbm k s11)) rfl (fun _ _ j => ⟨s2, j rfl⟩) ?_
 rintro n3 a w ⟨s11, hf, hO, hm⟩
 obtain _ | n3 := n3
 rw [zbm] at hm
 cases hm
 rw [zbm] at hm
 refine S.co tb ?_ hf hO hm
 refine jv 4 [0] [] (fun J E L => ∃ (t16 : Bool), J ((23, .bool t16) :: E) (L) (zeU (zbm n3) s11 t16)) rfl ?_ ?_
 refine br rfl (fun hc12 => ?_) fun hc12 => ?_
 refine bi rfl fun i13 hi13 => ?_
 refine bi rfl fun b14 hb14 => ?_
 refine cl c_106 rfl (fun r15 w hr15 hO => znL b14 r15 _ (hG.own hF hO) hr15) fun r15 hr15 => ?_
 exact en rfl fun _ _ j => ⟨r15, j rfl⟩
 exact en rfl fun _ _ j => ⟨false, j rfl⟩
 rintro a w ⟨t16, hf, hO, hm⟩
 rw [zeU] at hm
 refine S.co tb ?_ hf hO hm
 refine br rfl (fun hc17 => ?_) fun hc17 => ?_
 refine bi rfl fun i19 hi19 => ?_
 refine bi rfl fun s20 hs20 => ?_
 exact en rfl fun _ _ j => ⟨_, Nat.lt_succ_self _, s20, j rfl⟩
 exact rt Tryz.results95 rfl

theorem zrn (x_s : Str) (R : Bool) (w0 : World) (hG : zr w0) (hm : zhy x_s = some R) :
    Calls Tryz.prog 94 #[str x_s] w0 (Ret w0 (fun R => .bool R) R) := by
 rw [zhy] at hm
 have hF : zq [] := ze
 have hO : Dk.Own w0 [] w0 [] := Dk.Own.refl w0
 refine S.enter tb Tryz.func94 rfl Tryz.ntmps94 rfl ?_ hO hm
 refine lv [0] [] (fun J E L k => ∃ (i3 : Int), J ((3, int i3) :: E) (L) (zcn x_s k i3)) rfl (fun _ _ j => ⟨0, j rfl⟩) ?_
 rintro n1 a w ⟨i3, hf, hO, hm⟩
 obtain _ | n1 := n1
 rw [zcn] at hm
 cases hm
 rw [zcn] at hm
 refine S.co tb ?_ hf hO hm
 refine br rfl (fun hc5 => ?_) fun hc5 => ?_
 refine bi rfl fun b7 hb7 => ?_
 refine cl zy2 rfl (fun r8 w hr8 hO => zkF b7 r8 _ (hG.own hF hO) hr8) fun r8 hr8 => ?_
 refine br rfl (fun hc10 => ?_) fun hc10 => ?_
 exact rt Tryz.results94 rfl
 refine bi rfl fun i13 hi13 => ?_
 exact en rfl fun _ _ j => ⟨_, Nat.lt_succ_self _, i13, j rfl⟩
 exact rt Tryz.results94 rfl

theorem zwb (x_f : api_Field) (x_name : Str) (R : Bool) (w0 : World) (hG : zr w0) (hm : zmW x_f x_name = some R) :
    Calls Tryz.prog 141 #[.agg #[str x_f.Name, str x_f.Value], str x_name] w0 (Ret w0 (fun R => .bool R) R) := by
 rw [zmW] at hm
 have hF : zq [] := ze
 have hO : Dk.Own w0 [] w0 [] := Dk.Own.refl w0
 refine S.enter tb Tryz.func141 rfl Tryz.ntmps141 rfl ?_ hO hm
 refine bo rfl fun b1 => ?_
 refine ld 0 rfl rfl ?_
 refine cl c_99 rfl (fun r3 w hr3 hO => zjd x_f.Name r3 _ (hG.own hF hO) hr3) fun r3 hr3 => ?_
 refine cl c_99 rfl (fun r4 w hr4 hO => zjd x_name r4 _ (hG.own hF hO) hr4) fun r4 hr4 => ?_
 exact rt Tryz.results141 rfl

theorem zjD (x_l : List api_Field) (x_name : Str) (R : List Str) (w0 : World) (hG : zr w0) {x_l_p0 : Option Addr} {x_l_c0 : Nat} (hs0 : zC w0 x_l_p0 (cells za x_l)) (hc0 : x_l.length ≤ x_l_c0) (hm : zdo x_l x_name = some R) :
    Calls Tryz.prog 96 #[.slice x_l_p0 x_l.length x_l_c0, str x_name] w0 fun e w' => ∃ (p0 : Option Addr) (c0 : Nat), e = .returned (.slice p0 R.length c0) ∧ Dk.Own w0 [] w' [.row (.slice p0 R.length c0) 9 1 R.length (cells zf R)] := by
 rw [zdo] at hm
 have hF : zq [] := ze
 have hO : Dk.Own w0 [] w0 [] := Dk.Own.refl w0
 have hO := hO.addShr hs0 (by simp [Res.shared])
 refine S.enter tb Tryz.func96 rfl Tryz.ntmps96 rfl ?_ hO hm
 refine nl 9 1 ?_
 refine nl 9 1 ?_
 refine lv [0, 1] [1, 2] (fun J E L k => ∃ (p4 : Option Addr) (c5 : Nat) (l6 : List Str) (i7 : Int), J ((5, .slice p4 l6.length c5) :: (6, int i7) :: E) (.row (.slice p4 l6.length c5) 9 1 l6.length (cells zf l6) :: L) (za3 x_l x_name k l6 i7)) rfl (fun _ _ j => ⟨none, 0, [], 0, j rfl⟩) ?_
 rintro n1 a w ⟨p4, c5, l6, i7, hf, hO, hm⟩
 obtain _ | n1 := n1
 rw [za3] at hm
 cases hm
 rw [za3] at hm
 refine S.co tb ?_ hf hO hm
 refine br rfl (fun hc9 => ?_) fun hc9 => ?_
 refine jv 3 [0, 1, 6] [1, 2] (fun J E L => ∃ (p24 : Option Addr) (c25 : Nat) (l26 : List Str), J ((5, .slice p24 l26.length c25) :: E) (.row (.slice p24 l26.length c25) 9 1 l26.length (cells zf l26) :: L) (zeG (za3 x_l x_name n1) i7 l26)) rfl ?_ ?_
 refine rw_ rfl fun a w hf hO hm => ?_
 obtain ⟨x11, hx11, hm⟩ := ob hm
 obtain ⟨b12, o13, hix11, hSx11⟩ := zbL (enc := za) (sz := 2) (xs := x_l) 33 Tryz.underlying33 zaV (by decide) (fun _ => rfl) (hO.sees (i := 2) rfl) hx11
 refine zG (zh hix11 hf rfl rfl) rfl hf rfl rfl fun a hf => ?_
 refine S.op tb ?_ hf hO hm
 refine vl rfl rfl (fun a w hf hO => zdR (o := 0) (vs := [str x11.Name, str x11.Value]) zf7 zaV (hSx11 _ (hO.sees (i := 2) rfl)) rfl rfl hf rfl) ?_
 refine cl c_141 rfl (fun r14 w hr14 hO => zwb x11 x_name r14 _ (hG.own hF hO) hr14) fun r14 hr14 => ?_
 refine br rfl (fun hc16 => ?_) fun hc16 => ?_
 refine rw_ rfl fun a w hf hO hm => ?_
 obtain ⟨x17, hx17, hm⟩ := ob hm
 obtain ⟨b18, o19, hix17, hSx17⟩ := zbL (enc := za) (sz := 2) (xs := x_l) 33 Tryz.underlying33 zaV (by decide) (fun _ => rfl) (hO.sees (i := 2) rfl) hx17
 refine zG (zh hix17 hf rfl rfl) rfl hf rfl rfl fun a hf => ?_
 refine S.op tb ?_ hf hO hm
 refine vl rfl rfl (fun a w hf hO => zk (o := 1) zbx (hSx17 _ (hO.sees (i := 2) rfl)) rfl hf rfl) ?_
 refine rw_ rfl fun a w hf hO hm => ?_
 refine zt (vs := [(0, str x17.Value)]) (cs := [str x17.Value]) (e := 9) (sz := 1) hf rfl rfl (fun w => by kernel_rfl) rfl rfl hO fun a b20 w hf hO => ?_
 refine S.op tb ?_ hf hO hm
 refine rw_ rfl fun a w hf hO hm => ?_
 obtain ⟨hg23, hm⟩ := og hm
 refine zaL zjy (enc := zf) (xs := l6) (ys := ([x17.Value] : List Str)) (i := 1) (fun _ => rfl) rfl (hO.rowSees (i := 0) rfl) (by simp [cells, zf, Value.oneCell']) hg23 hf rfl rfl rfl hO fun a p21 c22 w hf hO => ?_
 refine S.op tb ?_ hf hO hm
 exact ec [1, 2, 3] rfl rfl rfl fun _ _ j => ⟨p21, c22, l6 ++ ([x17.Value] : List Str), j rfl⟩
 exact en rfl fun _ _ j => ⟨p4, c5, l6, j rfl⟩
 rintro a w ⟨p24, c25, l26, hf, hO, hm⟩
 rw [zeG] at hm
 refine S.co tb ?_ hf hO hm
 refine bi rfl fun i27 hi27 => ?_
 exact en rfl fun _ _ j => ⟨_, Nat.lt_succ_self _, p24, c25, l26, i27, j rfl⟩
 refine re_ rfl fun a w hf hO hm => ?_
 obtain rfl := Option.some.inj hm
 exact zc Tryz.results96 hf (.tmp rfl .nil) ⟨p4, c5, rfl, (hO.sub (.cons_cons _ (.cons _ (.cons _ .slnil))))⟩

theorem zsr (x_h : api_Head) (R : Int) (w0 : World) (hG : zr w0) {x_h_p0 : Option Addr} {x_h_c0 : Nat} (hs0 : zC w0 x_h_p0 (cells za x_h.Fields)) (hc0 : x_h.Fields.length ≤ x_h_c0) (hm : ziL x_h = some R) :
    Calls Tryz.prog 65 #[.agg #[int x_h.Kind, str x_h.Method, str x_h.Target, int x_h.Code, str x_h.Reason, int x_h.Minor, .slice x_h_p0 x_h.Fields.length x_h_c0]] w0 (Ret w0 (fun R => int R) R) := by
 rw [ziL] at hm
 have hF : zq [] := ze
 have hO : Dk.Own w0 [] w0 [] := Dk.Own.refl w0
 have hO := hO.addShr hs0 (by simp [Res.shared])
 refine S.enter tb Tryz.func65 rfl Tryz.ntmps65 rfl ?_ hO hm
 refine bo rfl fun b1 => ?_
 refine ld 0 rfl rfl ?_
 refine br rfl (fun hc4 => ?_) fun hc4 => ?_
 exact rt Tryz.results65 rfl
 refine ld 0 rfl rfl ?_
 refine br rfl (fun hc8 => ?_) fun hc8 => ?_
 exact rt Tryz.results65 rfl
 refine ld 0 rfl rfl ?_
 refine cm2 c_96 rfl (fun r11 w hr11 hO => zjD x_h.Fields [104, 111, 115, 116] r11 _ (hG.own hF hO) (hO.sees (i := 1) rfl) hc0 hr11) fun r11 hr11 p12 c13 => ?_
 refine jv 1 [3] [0, 1, 2] (fun J E L => ∃ (t17 : Bool), J ((28, .bool t17) :: E) (L) (zar r11 t17)) rfl ?_ ?_
 refine br rfl (fun hc15 => ?_) fun hc15 => ?_
 exact en rfl fun _ _ j => ⟨true, j rfl⟩
 refine ld 1 rfl rfl ?_
 refine br rfl (fun hc16 => ?_) fun hc16 => ?_
 exact en rfl fun _ _ j => ⟨(r11.length : Int) == 0, j rfl⟩
 exact en rfl fun _ _ j => ⟨false, j rfl⟩
 rintro a w ⟨t17, hf, hO, hm⟩
 rw [zar] at hm
 refine S.co tb ?_ hf hO hm
 refine br rfl (fun hc18 => ?_) fun hc18 => ?_
 exact rt Tryz.results65 rfl
 refine jv 1 [3] [0, 1, 2] (fun J E L => ∃ (t25 : Bool), J ((37, .bool t25) :: E) (L) (zfC r11 t25)) rfl ?_ ?_
 refine br rfl (fun hc21 => ?_) fun hc21 => ?_
 refine rw_ rfl fun a w hf hO hm => ?_
 obtain ⟨x22, hx22, hm⟩ := ob hm
 obtain ⟨b23, o24, hix22, hSx22, hAx22⟩ := zE (enc := zf) (sz := 1) (xs := r11) 30 Tryz.underlying30 zdD (by decide) (fun _ => rfl) hO (i := 0) rfl hx22
 refine zG (zh hix22 hf rfl rfl) rfl hf rfl rfl fun a hf => ?_
 refine S.op tb ?_ hf hO hm
 refine kn (b' := true) hc21 rfl ?_
 refine vl rfl rfl (fun a w hf hO => zk (o := 0) zbx (hSx22 _ (hO.rowSees (i := 0) rfl)) rfl hf rfl) ?_
 exact en rfl fun _ _ j => ⟨!(x22 == []), j rfl⟩
 exact en rfl fun _ _ j => ⟨false, j rfl⟩
 rintro a w ⟨t25, hf, hO, hm⟩
 rw [zfC] at hm
 refine S.co tb ?_ hf hO hm
 refine br rfl (fun hc26 => ?_) fun hc26 => ?_
 refine rw_ rfl fun a w hf hO hm => ?_
 obtain ⟨x27, hx27, hm⟩ := ob hm
 obtain ⟨b28, o29, hix27, hSx27, hAx27⟩ := zE (enc := zf) (sz := 1) (xs := r11) 30 Tryz.underlying30 zdD (by decide) (fun _ => rfl) hO (i := 0) rfl hx27
 refine zG (zh hix27 hf rfl rfl) rfl hf rfl rfl fun a hf => ?_
 refine S.op tb ?_ hf hO hm
 refine vl rfl rfl (fun a w hf hO => zk (o := 0) zbx (hSx27 _ (hO.rowSees (i := 0) rfl)) rfl hf rfl) ?_
 refine cl c_97 rfl (fun r30 w hr30 hO => zkE x27 r30 _ (hG.own hF hO) hr30) fun r30 hr30 => ?_
 refine al zhg rfl fun b31 => ?_
 refine st 0 rfl rfl ?_
 exact rt Tryz.results65 rfl
 exact rt Tryz.results65 rfl

theorem zss (x_s : Str) (R : Str × Int) (w0 : World) (hG : zr w0) (hm : ziM x_s = some R) :
    Calls Tryz.prog 193 #[str x_s] w0 (Ret w0 (fun R => .tuple #[str R.1, int R.2]) R) := by
 rw [ziM] at hm
 have hF : zq [] := ze
 have hO : Dk.Own w0 [] w0 [] := Dk.Own.refl w0
 refine S.enter tb Tryz.func193 rfl Tryz.ntmps193 rfl ?_ hO hm
 refine jv 1 [0] [] (fun J E L => ∃ (t4 : Bool), J ((13, .bool t4) :: E) (L) (zfE x_s t4)) rfl ?_ ?_
 refine br rfl (fun hc2 => ?_) fun hc2 => ?_
 exact en rfl fun _ _ j => ⟨true, j rfl⟩
 refine bi rfl fun b3 hb3 => ?_
 refine vl rfl rfl (fun a w hf hO => zez (b := b3) (c := 34) hf rfl rfl) ?_
 exact en rfl fun _ _ j => ⟨!(b3 == 34), j rfl⟩
 rintro a w ⟨t4, hf, hO, hm⟩
 rw [zfE] at hm
 refine S.co tb ?_ hf hO hm
 refine br rfl (fun hc5 => ?_) fun hc5 => ?_
 exact rt Tryz.results193 rfl
 refine lv [0] [] (fun J E L k => ∃ (s10 : Str) (i11 : Int), J ((4, str s10) :: (5, int i11) :: E) (L) (zaD x_s k s10 i11)) rfl (fun _ _ j => ⟨[], 1, j rfl⟩) ?_
 rintro n2 a w ⟨s10, i11, hf, hO, hm⟩
 obtain _ | n2 := n2
 rw [zaD] at hm
 cases hm
 rw [zaD] at hm
 refine S.co tb ?_ hf hO hm
 refine br rfl (fun hc13 => ?_) fun hc13 => ?_
 refine bi rfl fun b15 hb15 => ?_
 refine vl rfl rfl (fun a w hf hO => zz (b := b15) (c := 34) hf rfl rfl) ?_
 refine br rfl (fun hc17 => ?_) fun hc17 => ?_
 refine bi rfl fun i18 hi18 => ?_
 exact rt Tryz.results193 rfl
 refine jv 5 [0, 4] [] (fun J E L => ∃ (i25 : Int), J ((5, int i25) :: E) (L) (zfD (zaD x_s n2) x_s s10 i25)) rfl ?_ ?_
 refine bi rfl fun b21 hb21 => ?_
 refine vl rfl rfl (fun a w hf hO => zz (b := b21) (c := 92) hf rfl rfl) ?_
 refine br rfl (fun hc23 => ?_) fun hc23 => ?_
 refine bi rfl fun i24 hi24 => ?_
 exact en rfl fun _ _ j => ⟨i24, j rfl⟩
 exact en rfl fun _ _ j => ⟨i11, j rfl⟩
 rintro a w ⟨i25, hf, hO, hm⟩
 rw [zfD] at hm
 refine S.co tb ?_ hf hO hm
 refine jv 6 [0, 4, 5] [] (fun J E L => ∃ (t29 : Bool), J ((43, .bool t29) :: E) (L) (zcY (zaD x_s n2) x_s s10 i25 t29)) rfl ?_ ?_
 refine br rfl (fun hc26 => ?_) fun hc26 => ?_
 exact en rfl fun _ _ j => ⟨true, j rfl⟩
 refine bi rfl fun b27 hb27 => ?_
 refine cl zy2 rfl (fun r28 w hr28 hO => zkF b27 r28 _ (hG.own hF hO) hr28) fun r28 hr28 => ?_
 exact en rfl fun _ _ j => ⟨!r28, j rfl⟩
 rintro a w ⟨t29, hf, hO, hm⟩
 rw [zcY] at hm
 refine S.co tb ?_ hf hO hm
 refine br rfl (fun hc30 => ?_) fun hc30 => ?_
 exact rt Tryz.results193 rfl
 refine bi rfl fun i33 hi33 => ?_
 refine bi rfl fun s34 hs34 => ?_
 refine bi rfl fun s35 hs35 => ?_
 refine bi rfl fun i37 hi37 => ?_
 exact en rfl fun _ _ j => ⟨_, Nat.lt_succ_self _, s35, i37, j rfl⟩
 exact rt Tryz.results193 rfl

theorem zst (x_s : Str) (R : Int) (w0 : World) (hG : zr w0) (hm : ziN x_s = some R) :
    Calls Tryz.prog 144 #[str x_s] w0 (Ret w0 (fun R => int R) R) := by
 rw [ziN] at hm
 have hF : zq [] := ze
 have hO : Dk.Own w0 [] w0 [] := Dk.Own.refl w0
 refine S.enter tb Tryz.func144 rfl Tryz.ntmps144 rfl ?_ hO hm
 refine bi rfl fun b2 hb2 => ?_
 refine vl rfl rfl (fun a w hf hO => zz (b := b2) (c := 34) hf rfl rfl) ?_
 refine br rfl (fun hc4 => ?_) fun hc4 => ?_
 refine cl c_193 rfl (fun r5 w hr5 hO => zss x_s r5 _ (hG.own hF hO) hr5) fun r5 hr5 => ?_
 exact rt Tryz.results144 rfl
 refine lv [0] [] (fun J E L k => ∃ (i11 : Int) (i12 : Int), J ((5, int i11) :: (6, int i12) :: E) (L) (zS x_s k i11 i12)) rfl (fun _ _ j => ⟨0, 0, j rfl⟩) ?_
 rintro n1 a w ⟨i11, i12, hf, hO, hm⟩
 obtain _ | n1 := n1
 rw [zS] at hm
 cases hm
 rw [zS] at hm
 refine S.co tb ?_ hf hO hm
 refine br rfl (fun hc14 => ?_) fun hc14 => ?_
 refine jv 5 [0] [] (fun J E L => ∃ (i27 : Int) (i28 : Int), J ((5, int i27) :: (6, int i28) :: E) (L) (zaY (zS x_s n1) i27 i28)) rfl ?_ ?_
 refine bi rfl fun b16 hb16 => ?_
 refine vl rfl rfl (fun a w hf hO => zz (b := b16) (c := 40) hf rfl rfl) ?_
 refine br rfl (fun hc19 => ?_) fun hc19 => ?_
 refine bi rfl fun i20 hi20 => ?_
 exact en rfl fun _ _ j => ⟨i20, i12, j rfl⟩
 refine vl rfl rfl (fun a w hf hO => zz (b := b16) (c := 41) hf rfl rfl) ?_
 refine br rfl (fun hc22 => ?_) fun hc22 => ?_
 refine bi rfl fun i23 hi23 => ?_
 exact en rfl fun _ _ j => ⟨i23, i12, j rfl⟩
 refine vl rfl rfl (fun a w hf hO => zz (b := b16) (c := 92) hf rfl rfl) ?_
 refine br rfl (fun hc25 => ?_) fun hc25 => ?_
 refine bi rfl fun i26 hi26 => ?_
 exact en rfl fun _ _ j => ⟨i11, i26, j rfl⟩
 exact en rfl fun _ _ j => ⟨i11, i12, j rfl⟩
 rintro a w ⟨i27, i28, hf, hO, hm⟩
 rw [zaY] at hm
 refine S.co tb ?_ hf hO hm
 refine br rfl (fun hc30 => ?_) fun hc30 => ?_
 refine bi rfl fun i31 hi31 => ?_
 exact rt Tryz.results144 rfl
 refine bi rfl fun i34 hi34 => ?_
 exact en rfl fun _ _ j => ⟨_, Nat.lt_succ_self _, i27, i34, j rfl⟩
 exact rt Tryz.results144 rfl

theorem znF (x_a0 : Str) (R : List Str × Int) (w0 : World) (hG : zr w0) (hm : zg1 x_a0 = some R) :
    Calls Tryz.prog 100 #[str x_a0] w0 fun e w' => ∃ (p0 : Option Addr) (c0 : Nat), e = .returned (.tuple #[.slice p0 R.1.length c0, int R.2]) ∧ Dk.Own w0 [] w' [.row (.slice p0 R.1.length c0) 9 1 R.1.length (cells zf R.1)] := by
 rw [zg1] at hm
 have hF : zq [] := ze
 have hO : Dk.Own w0 [] w0 [] := Dk.Own.refl w0
 refine S.enter tb Tryz.func100 rfl Tryz.ntmps100 rfl ?_ hO hm
 refine nl 9 1 ?_
 refine nl 9 1 ?_
 refine lv [0] [1] (fun J E L k => ∃ (p5 : Option Addr) (c6 : Nat) (l7 : List Str) (i8 : Int) (i9 : Int), J ((4, .slice p5 l7.length c6) :: (5, int i8) :: (6, int i9) :: E) (.row (.slice p5 l7.length c6) 9 1 l7.length (cells zf l7) :: L) (zah x_a0 k l7 i8 i9)) rfl (fun _ _ j => ⟨none, 0, [], 0, 0, j rfl⟩) ?_
 rintro n1 a w ⟨p5, c6, l7, i8, i9, hf, hO, hm⟩
 obtain _ | n1 := n1
 rw [zah] at hm
 cases hm
 rw [zah] at hm
 refine S.co tb ?_ hf hO hm
 refine br rfl (fun hc11 => ?_) fun hc11 => ?_
 refine jv 5 [0, 4, 5, 6] [0, 1] (fun J E L => ∃ (t16 : Bool), J ((23, .bool t16) :: E) (L) (zcb (zah x_a0 n1) x_a0 l7 i8 i9 t16)) rfl ?_ ?_
 refine bi rfl fun b13 hb13 => ?_
 refine vl rfl rfl (fun a w hf hO => zz (b := b13) (c := 34) hf rfl rfl) ?_
 refine br rfl (fun hc14 => ?_) fun hc14 => ?_
 exact en rfl fun _ _ j => ⟨true, j rfl⟩
 refine bi rfl fun b15 hb15 => ?_
 refine vl rfl rfl (fun a w hf hO => zz (b := b15) (c := 40) hf rfl rfl) ?_
 exact en rfl fun _ _ j => ⟨b15 == 40, j rfl⟩
 rintro a w ⟨t16, hf, hO, hm⟩
 rw [zcb] at hm
 refine S.co tb ?_ hf hO hm
 refine br rfl (fun hc17 => ?_) fun hc17 => ?_
 refine bi rfl fun s18 hs18 => ?_
 refine cl c_144 rfl (fun r19 w hr19 hO => zst s18 r19 _ (hG.own hF hO) hr19) fun r19 hr19 => ?_
 refine br rfl (fun hc22 => ?_) fun hc22 => ?_
 refine nl 9 1 ?_
 refine re_ rfl fun a w hf hO hm => ?_
 obtain rfl := Option.some.inj hm
 exact zc Tryz.results100 hf (.tmp rfl (.tmp rfl .nil)) ⟨none, 0, rfl, (hO.sub (.cons_cons _ (.cons _ (.cons _ .slnil))))⟩
 refine bi rfl fun i25 hi25 => ?_
 exact en rfl fun _ _ j => ⟨_, Nat.lt_succ_self _, p5, c6, l7, i8, i25, j rfl⟩
 refine jv 4 [0, 6] [1] (fun J E L => ∃ (p39 : Option Addr) (c40 : Nat) (l41 : List Str) (i42 : Int), J ((4, .slice p39 l41.length c40) :: (5, int i42) :: E) (.row (.slice p39 l41.length c40) 9 1 l41.length (cells zf l41) :: L) (zfF (zah x_a0 n1) i9 l41 i42)) rfl ?_ ?_
 refine bi rfl fun b28 hb28 => ?_
 refine vl rfl rfl (fun a w hf hO => zz (b := b28) (c := 44) hf rfl rfl) ?_
 refine br rfl (fun hc30 => ?_) fun hc30 => ?_
 refine bi rfl fun s31 hs31 => ?_
 refine cl c_95 rfl (fun r32 w hr32 hO => zlv s31 r32 _ (hG.own hF hO) hr32) fun r32 hr32 => ?_
 refine rw_ rfl fun a w hf hO hm => ?_
 refine zt (vs := [(0, str r32)]) (cs := [str r32]) (e := 9) (sz := 1) hf rfl rfl (fun w => by kernel_rfl) rfl rfl hO fun a b33 w hf hO => ?_
 refine S.op tb ?_ hf hO hm
 refine rw_ rfl fun a w hf hO hm => ?_
 obtain ⟨hg36, hm⟩ := og hm
 refine zaL zjy (enc := zf) (xs := l7) (ys := ([r32] : List Str)) (i := 1) (fun _ => rfl) rfl (hO.rowSees (i := 0) rfl) (by simp [cells, zf, Value.oneCell']) hg36 hf rfl rfl rfl hO fun a p34 c35 w hf hO => ?_
 refine S.op tb ?_ hf hO hm
 refine bi rfl fun i38 hi38 => ?_
 exact ec [1, 2] rfl rfl rfl fun _ _ j => ⟨p34, c35, l7 ++ ([r32] : List Str), i38, j rfl⟩
 exact en rfl fun _ _ j => ⟨p5, c6, l7, i8, j rfl⟩
 rintro a w ⟨p39, c40, l41, i42, hf, hO, hm⟩
 rw [zfF] at hm
 refine S.co tb ?_ hf hO hm
 refine bi rfl fun i43 hi43 => ?_
 exact en rfl fun _ _ j => ⟨_, Nat.lt_succ_self _, p39, c40, l41, i42, i43, j rfl⟩
 refine bi rfl fun s45 hs45 => ?_
 refine cl c_95 rfl (fun r46 w hr46 hO => zlv s45 r46 _ (hG.own hF hO) hr46) fun r46 hr46 => ?_
 refine rw_ rfl fun a w hf hO hm => ?_
 refine zt (vs := [(0, str r46)]) (cs := [str r46]) (e := 9) (sz := 1) hf rfl rfl (fun w => by kernel_rfl) rfl rfl hO fun a b47 w hf hO => ?_
 refine S.op tb ?_ hf hO hm
 refine rw_ rfl fun a w hf hO hm => ?_
 obtain ⟨hg50, hm⟩ := og hm
 refine zaL zjy (enc := zf) (xs := l7) (ys := ([r46] : List Str)) (i := 1) (fun _ => rfl) rfl (hO.rowSees (i := 0) rfl) (by simp [cells, zf, Value.oneCell']) hg50 hf rfl rfl rfl hO fun a p48 c49 w hf hO => ?_
 refine S.op tb ?_ hf hO hm
 refine nl 9 1 ?_
 refine lv [4] [1, 2, 3] (fun J E L k => ∃ (p54 : Option Addr) (c55 : Nat) (l56 : List Str) (i57 : Int), J ((8, .slice p54 l56.length c55) :: (9, int i57) :: E) (.row (.slice p54 l56.length c55) 9 1 l56.length (cells zf l56) :: L) (zaZ l7 r46 k l56 i57)) rfl (fun _ _ j => ⟨none, 0, [], 0, j rfl⟩) ?_
 rintro n4 a w ⟨p54, c55, l56, i57, hf, hO, hm⟩
 obtain _ | n4 := n4
 rw [zaZ] at hm
 cases hm
 rw [zaZ] at hm
 refine S.co tb ?_ hf hO hm
 refine br rfl (fun hc59 => ?_) fun hc59 => ?_
 refine jv 3 [4, 9] [1, 2, 3] (fun J E L => ∃ (p73 : Option Addr) (c74 : Nat) (l75 : List Str), J ((8, .slice p73 l75.length c74) :: E) (.row (.slice p73 l75.length c74) 9 1 l75.length (cells zf l75) :: L) (zfG (zaZ l7 r46 n4) i57 l75)) rfl ?_ ?_
 refine rw_ rfl fun a w hf hO hm => ?_
 obtain ⟨x61, hx61, hm⟩ := ob hm
 obtain ⟨b62, o63, hix61, hSx61, hAx61⟩ := zE (enc := zf) (sz := 1) (xs := l7 ++ ([r46] : List Str)) 30 Tryz.underlying30 zdD (by decide) (fun _ => rfl) hO (i := 2) rfl hx61
 refine zG (zh hix61 hf rfl rfl) rfl hf rfl rfl fun a hf => ?_
 refine S.op tb ?_ hf hO hm
 refine vl rfl rfl (fun a w hf hO => zk (o := 0) zbx (hSx61 _ (hO.rowSees (i := 2) rfl)) rfl hf rfl) ?_
 refine br rfl (fun hc65 => ?_) fun hc65 => ?_
 refine rw_ rfl fun a w hf hO hm => ?_
 obtain ⟨x66, hx66, hm⟩ := ob hm
 obtain ⟨b67, o68, hix66, hSx66, hAx66⟩ := zE (enc := zf) (sz := 1) (xs := l7 ++ ([r46] : List Str)) 30 Tryz.underlying30 zdD (by decide) (fun _ => rfl) hO (i := 2) rfl hx66
 refine zG (zh hix66 hf rfl rfl) rfl hf rfl rfl fun a hf => ?_
 refine S.op tb ?_ hf hO hm
 refine vl rfl rfl (fun a w hf hO => zk (o := 0) zbx (hSx66 _ (hO.rowSees (i := 2) rfl)) rfl hf rfl) ?_
 refine rw_ rfl fun a w hf hO hm => ?_
 refine zt (vs := [(0, str x66)]) (cs := [str x66]) (e := 9) (sz := 1) hf rfl rfl (fun w => by kernel_rfl) rfl rfl hO fun a b69 w hf hO => ?_
 refine S.op tb ?_ hf hO hm
 refine rw_ rfl fun a w hf hO hm => ?_
 obtain ⟨hg72, hm⟩ := og hm
 refine zaL zjy (enc := zf) (xs := l56) (ys := ([x66] : List Str)) (i := 1) (fun _ => rfl) rfl (hO.rowSees (i := 0) rfl) (by simp [cells, zf, Value.oneCell']) hg72 hf rfl rfl rfl hO fun a p70 c71 w hf hO => ?_
 refine S.op tb ?_ hf hO hm
 exact ec [1, 2, 3, 4] rfl rfl rfl fun _ _ j => ⟨p70, c71, l56 ++ ([x66] : List Str), j rfl⟩
 exact en rfl fun _ _ j => ⟨p54, c55, l56, j rfl⟩
 rintro a w ⟨p73, c74, l75, hf, hO, hm⟩
 rw [zfG] at hm
 refine S.co tb ?_ hf hO hm
 refine bi rfl fun i76 hi76 => ?_
 exact en rfl fun _ _ j => ⟨_, Nat.lt_succ_self _, p73, c74, l75, i76, j rfl⟩
 refine re_ rfl fun a w hf hO hm => ?_
 obtain rfl := Option.some.inj hm
 exact zc Tryz.results100 hf (.tmp rfl (.tmp rfl .nil)) ⟨p54, c55, rfl, (hO.sub (.cons_cons _ (.cons _ (.cons _ (.cons _ .slnil)))))⟩

end Go.Proofs
end
section
set_option linter.unusedVariables false
set_option maxHeartbeats 1000000
set_option linter.unusedSimpArgs false
set_option maxRecDepth 100000
namespace Go.Proofs
open Go.Dk Go.Dm Go.RowKit

theorem zr9 (x_l : List Str) (R : List Str × Int) (w0 : World) (hG : zr w0) {x_l_p0 : Option Addr} {x_l_c0 : Nat} (hs0 : zC w0 x_l_p0 (cells zf x_l)) (hc0 : x_l.length ≤ x_l_c0) (hm : zfZ x_l = some R) :
    Calls Tryz.prog 98 #[.slice x_l_p0 x_l.length x_l_c0] w0 fun e w' => ∃ (p0 : Option Addr) (c0 : Nat), e = .returned (.tuple #[.slice p0 R.1.length c0, int R.2]) ∧ Dk.Own w0 [] w' [.row (.slice p0 R.1.length c0) 9 1 R.1.length (cells zf R.1)] := by
 rw [zfZ] at hm
 have hF : zq [] := ze
 have hO : Dk.Own w0 [] w0 [] := Dk.Own.refl w0
 have hO := hO.addShr hs0 (by simp [Res.shared])
 refine S.enter tb Tryz.func98 rfl Tryz.ntmps98 rfl ?_ hO hm
 refine nl 9 1 ?_
 refine nl 9 1 ?_
 refine lv [0] [1, 2] (fun J E L k => ∃ (p4 : Option Addr) (c5 : Nat) (l6 : List Str) (i7 : Int), J ((4, .slice p4 l6.length c5) :: (5, int i7) :: E) (.row (.slice p4 l6.length c5) 9 1 l6.length (cells zf l6) :: L) (zbE x_l k l6 i7)) rfl (fun _ _ j => ⟨none, 0, [], 0, j rfl⟩) ?_
 rintro n1 a w ⟨p4, c5, l6, i7, hf, hO, hm⟩
 obtain _ | n1 := n1
 rw [zbE] at hm
 cases hm
 rw [zbE] at hm
 refine S.co tb ?_ hf hO hm
 refine br rfl (fun hc9 => ?_) fun hc9 => ?_
 refine rw_ rfl fun a w hf hO hm => ?_
 obtain ⟨x11, hx11, hm⟩ := ob hm
 obtain ⟨b12, o13, hix11, hSx11⟩ := zbL (enc := zf) (sz := 1) (xs := x_l) 30 Tryz.underlying30 zdD (by decide) (fun _ => rfl) (hO.sees (i := 2) rfl) hx11
 refine zG (zh hix11 hf rfl rfl) rfl hf rfl rfl fun a hf => ?_
 refine S.op tb ?_ hf hO hm
 refine vl rfl rfl (fun a w hf hO => zk (o := 0) zbx (hSx11 _ (hO.sees (i := 2) rfl)) rfl hf rfl) ?_
 refine cm2 c_100 rfl (fun r14 w hr14 hO => znF x11 r14 _ (hG.own hF hO) hr14) fun r14 hr14 p15 c16 => ?_
 refine br rfl (fun hc19 => ?_) fun hc19 => ?_
 refine nl 9 1 ?_
 refine re_ rfl fun a w hf hO hm => ?_
 obtain rfl := Option.some.inj hm
 exact zc Tryz.results98 hf (.tmp rfl (.tmp rfl .nil)) ⟨none, 0, rfl, (hO.sub (.cons_cons _ (.cons _ (.cons _ (.cons _ (.cons _ .slnil))))))⟩
 refine ch [1, 0, 2, 3] rfl rfl ?_
 refine lv [0, 5, 6] [1, 2, 3] (fun J E L k => ∃ (p23 : Option Addr) (c24 : Nat) (l25 : List Str) (i26 : Int), J ((4, .slice p23 l25.length c24) :: (8, int i26) :: E) (.row (.slice p23 l25.length c24) 9 1 l25.length (cells zf l25) :: L) (zbD (zbE x_l n1) i7 r14 k l25 i26)) rfl (fun _ _ j => ⟨p4, c5, l6, 0, j rfl⟩) ?_
 rintro n2 a w ⟨p23, c24, l25, i26, hf, hO, hm⟩
 obtain _ | n2 := n2
 rw [zbD] at hm
 cases hm
 rw [zbD] at hm
 refine S.co tb ?_ hf hO hm
 refine br rfl (fun hc28 => ?_) fun hc28 => ?_
 refine rw_ rfl fun a w hf hO hm => ?_
 obtain ⟨x30, hx30, hm⟩ := ob hm
 obtain ⟨b31, o32, hix30, hSx30, hAx30⟩ := zE (enc := zf) (sz := 1) (xs := r14.1) 30 Tryz.underlying30 zdD (by decide) (fun _ => rfl) hO (i := 1) rfl hx30
 refine zG (zh hix30 hf rfl rfl) rfl hf rfl rfl fun a hf => ?_
 refine S.op tb ?_ hf hO hm
 refine vl rfl rfl (fun a w hf hO => zk (o := 0) zbx (hSx30 _ (hO.rowSees (i := 1) rfl)) rfl hf rfl) ?_
 refine cl c_93 rfl (fun r33 w hr33 hO => zkB x30 r33 _ (hG.own hF hO) hr33) fun r33 hr33 => ?_
 refine br rfl (fun hc35 => ?_) fun hc35 => ?_
 refine nl 9 1 ?_
 refine re_ rfl fun a w hf hO hm => ?_
 obtain rfl := Option.some.inj hm
 exact zc Tryz.results98 hf (.tmp rfl (.tmp rfl .nil)) ⟨none, 0, rfl, (hO.sub (.cons_cons _ (.cons _ (.cons _ (.cons _ (.cons _ .slnil))))))⟩
 refine rw_ rfl fun a w hf hO hm => ?_
 obtain ⟨x38, hx38, hm⟩ := ob hm
 obtain ⟨b39, o40, hix38, hSx38, hAx38⟩ := zE (enc := zf) (sz := 1) (xs := r14.1) 30 Tryz.underlying30 zdD (by decide) (fun _ => rfl) hO (i := 1) rfl hx38
 refine zG (zh hix38 hf rfl rfl) rfl hf rfl rfl fun a hf => ?_
 refine S.op tb ?_ hf hO hm
 refine vl rfl rfl (fun a w hf hO => zk (o := 0) zbx (hSx38 _ (hO.rowSees (i := 1) rfl)) rfl hf rfl) ?_
 refine rw_ rfl fun a w hf hO hm => ?_
 refine zt (vs := [(0, str x38)]) (cs := [str x38]) (e := 9) (sz := 1) hf rfl rfl (fun w => by kernel_rfl) rfl rfl hO fun a b41 w hf hO => ?_
 refine S.op tb ?_ hf hO hm
 refine rw_ rfl fun a w hf hO hm => ?_
 obtain ⟨hg44, hm⟩ := og hm
 refine zaL zjy (enc := zf) (xs := l25) (ys := ([x38] : List Str)) (i := 1) (fun _ => rfl) rfl (hO.rowSees (i := 0) rfl) (by simp [cells, zf, Value.oneCell']) hg44 hf rfl rfl rfl hO fun a p42 c43 w hf hO => ?_
 refine S.op tb ?_ hf hO hm
 refine bi rfl fun i46 hi46 => ?_
 exact ec [1, 2, 3, 4] rfl rfl rfl fun _ _ j => ⟨_, Nat.lt_succ_self _, p42, c43, l25 ++ ([x38] : List Str), i46, j rfl⟩
 refine bi rfl fun i48 hi48 => ?_
 exact ec [0, 2, 3] rfl rfl rfl fun _ _ j => ⟨_, Nat.lt_succ_self _, p23, c24, l25, i48, j rfl⟩
 refine re_ rfl fun a w hf hO hm => ?_
 obtain rfl := Option.some.inj hm
 exact zc Tryz.results98 hf (.tmp rfl (.tmp rfl .nil)) ⟨p4, c5, rfl, (hO.sub (.cons_cons _ (.cons _ (.cons _ .slnil))))⟩

theorem zsa (x_a0 : api_Head) (x_a1 : Int) (R : api_Frame × Int) (w0 : World) (hG : zr w0) {x_a0_p0 : Option Addr} {x_a0_c0 : Nat} (hs0 : zC w0 x_a0_p0 (cells za x_a0.Fields)) (hc0 : x_a0.Fields.length ≤ x_a0_c0) (hm : zla x_a0 x_a1 = some R) :
    Calls Tryz.prog 66 #[.agg #[int x_a0.Kind, str x_a0.Method, str x_a0.Target, int x_a0.Code, str x_a0.Reason, int x_a0.Minor, .slice x_a0_p0 x_a0.Fields.length x_a0_c0], int x_a1] w0 (Ret w0 (fun R => .tuple #[.agg #[int R.1.Kind, int R.1.N], int R.2]) R) := by
 rw [zla] at hm
 have hF : zq [] := ze
 have hO : Dk.Own w0 [] w0 [] := Dk.Own.refl w0
 have hO := hO.addShr hs0 (by simp [Res.shared])
 refine S.enter tb Tryz.func66 rfl Tryz.ntmps66 rfl ?_ hO hm
 refine bo rfl fun b1 => ?_
 refine al zlQ rfl fun b2 => ?_
 refine ld 1 rfl rfl ?_
 refine cm2 c_96 rfl (fun r4 w hr4 hO => zjD x_a0.Fields [116, 114, 97, 110, 115, 102, 101, 114, 45, 101, 110, 99, 111, 100, 105, 110, 103] r4 _ (hG.own hF hO) (hO.sees (i := 2) rfl) hc0 hr4) fun r4 hr4 p5 c6 => ?_
 refine ld 2 rfl rfl ?_
 refine cm2 c_96 rfl (fun r8 w hr8 hO => zjD x_a0.Fields [99, 111, 110, 116, 101, 110, 116, 45, 108, 101, 110, 103, 116, 104] r8 _ (hG.own hF hO) (hO.sees (i := 3) rfl) hc0 hr8) fun r8 hr8 p9 c10 => ?_
 refine jv 1 [1, 2, 4, 6, 7] [0, 1, 2, 3, 4] (fun J E L => ∃ (t13 : Bool), J ((31, .bool t13) :: E) (L) (zfH x_a0 x_a1 r4 r8 t13)) rfl ?_ ?_
 refine br rfl (fun hc12 => ?_) fun hc12 => ?_
 exact en rfl fun _ _ j => ⟨decide (0 < (r8.length : Int)), j rfl⟩
 exact en rfl fun _ _ j => ⟨false, j rfl⟩
 rintro a w ⟨t13, hf, hO, hm⟩
 rw [zfH] at hm
 refine S.co tb ?_ hf hO hm
 refine br rfl (fun hc14 => ?_) fun hc14 => ?_
 refine vl rfl rfl (fun a w hf hO => zg (vs := []) (v := .agg #[int 0, int 0]) hf rfl (by kernel_rfl)) ?_
 refine st 2 rfl rfl ?_
 refine re_ rfl fun a w hf hO hm => ?_
 obtain rfl := Option.some.inj hm
 exact zc Tryz.results66 hf (.cell rfl (zd (n := 2) (vs := [int 0, int 0]) zdc zdd rfl ((hO.blkSees (i := 2) rfl).cells (o := 0) (n := 2) rfl)) (.tmp rfl .nil)) ⟨rfl, hO.below⟩
 refine br rfl (fun hc18 => ?_) fun hc18 => ?_
 refine cm2 c_98 rfl (fun r19 w hr19 hO => zr9 r4 r19 _ (hG.own hF hO) (hO.rowSees (i := 1) rfl) (hO.rowCap (i := 1) rfl) hr19) fun r19 hr19 p20 c21 => ?_
 refine jv 2 [4] [0, 1, 2, 3, 4, 5] (fun J E L => ∃ (t30 : Bool), J ((59, .bool t30) :: E) (L) (zcc t30)) rfl ?_ ?_
 refine br rfl (fun hc23 => ?_) fun hc23 => ?_
 exact en rfl fun _ _ j => ⟨true, j rfl⟩
 refine ld 4 rfl rfl ?_
 refine br rfl (fun hc24 => ?_) fun hc24 => ?_
 exact en rfl fun _ _ j => ⟨true, j rfl⟩
 refine br rfl (fun hc25 => ?_) fun hc25 => ?_
 exact en rfl fun _ _ j => ⟨true, j rfl⟩
 refine rw_ rfl fun a w hf hO hm => ?_
 obtain ⟨x26, hx26, hm⟩ := ob hm
 obtain ⟨b27, o28, hix26, hSx26, hAx26⟩ := zE (enc := zf) (sz := 1) (xs := r19.1) 30 Tryz.underlying30 zdD (by decide) (fun _ => rfl) hO (i := 0) rfl hx26
 refine zG (zh hix26 hf rfl rfl) rfl hf rfl rfl fun a hf => ?_
 refine S.op tb ?_ hf hO hm
 refine kn (b' := false) hc25 rfl ?_
 refine vl rfl rfl (fun a w hf hO => zk (o := 0) zbx (hSx26 _ (hO.rowSees (i := 0) rfl)) rfl hf rfl) ?_
 refine cl c_99 rfl (fun r29 w hr29 hO => zjd x26 r29 _ (hG.own hF hO) hr29) fun r29 hr29 => ?_
 exact en rfl fun _ _ j => ⟨!(r29 == [99, 104, 117, 110, 107, 101, 100]), j rfl⟩
 rintro a w ⟨t30, hf, hO, hm⟩
 rw [zcc] at hm
 refine S.co tb ?_ hf hO hm
 refine br rfl (fun hc31 => ?_) fun hc31 => ?_
 refine vl rfl rfl (fun a w hf hO => zg (vs := []) (v := .agg #[int 0, int 0]) hf rfl (by kernel_rfl)) ?_
 refine st 3 rfl rfl ?_
 refine re_ rfl fun a w hf hO hm => ?_
 obtain rfl := Option.some.inj hm
 exact zc Tryz.results66 hf (.cell rfl (zd (n := 2) (vs := [int 0, int 0]) zdc zdd rfl ((hO.blkSees (i := 3) rfl).cells (o := 0) (n := 2) rfl)) (.tmp rfl .nil)) ⟨rfl, hO.below⟩
 refine vl rfl rfl (fun a w hf hO => zg (vs := [(0, int 3)]) (v := .agg #[int 3, int 0]) hf rfl (by kernel_rfl)) ?_
 refine st 3 rfl rfl ?_
 refine re_ rfl fun a w hf hO hm => ?_
 obtain rfl := Option.some.inj hm
 exact zc Tryz.results66 hf (.cell rfl (zd (n := 2) (vs := [int 3, int 0]) zdc zdd rfl ((hO.blkSees (i := 3) rfl).cells (o := 0) (n := 2) rfl)) (.tmp rfl .nil)) ⟨rfl, hO.below⟩
 refine br rfl (fun hc37 => ?_) fun hc37 => ?_
 refine vl rfl rfl (fun a w hf hO => zg (vs := [(0, int x_a1)]) (v := .agg #[int x_a1, int 0]) hf rfl (by kernel_rfl)) ?_
 refine st 2 rfl rfl ?_
 refine re_ rfl fun a w hf hO hm => ?_
 obtain rfl := Option.some.inj hm
 exact zc Tryz.results66 hf (.cell rfl (zd (n := 2) (vs := [int x_a1, int 0]) zdc zdd rfl ((hO.blkSees (i := 2) rfl).cells (o := 0) (n := 2) rfl)) (.tmp rfl .nil)) ⟨rfl, hO.below⟩
 refine nl 3 1 ?_
 refine lv [4, 7] [1, 2, 3, 4, 5] (fun J E L k => ∃ (p42 : Option Addr) (c43 : Nat) (l44 : List Int) (i45 : Int), J ((10, .slice p42 l44.length c43) :: (11, int i45) :: E) (.row (.slice p42 l44.length c43) 3 1 l44.length (cells zlr l44) :: L) (zdp r8 k l44 i45)) rfl (fun _ _ j => ⟨none, 0, [], 0, j rfl⟩) ?_
 rintro n3 a w ⟨p42, c43, l44, i45, hf, hO, hm⟩
 obtain _ | n3 := n3
 rw [zdp] at hm
 cases hm
 rw [zdp] at hm
 refine S.co tb ?_ hf hO hm
 refine br rfl (fun hc47 => ?_) fun hc47 => ?_
 refine rw_ rfl fun a w hf hO hm => ?_
 obtain ⟨x49, hx49, hm⟩ := ob hm
 obtain ⟨b50, o51, hix49, hSx49, hAx49⟩ := zE (enc := zf) (sz := 1) (xs := r8) 30 Tryz.underlying30 zdD (by decide) (fun _ => rfl) hO (i := 1) rfl hx49
 refine zG (zh hix49 hf rfl rfl) rfl hf rfl rfl fun a hf => ?_
 refine S.op tb ?_ hf hO hm
 refine vl rfl rfl (fun a w hf hO => zk (o := 0) zbx (hSx49 _ (hO.rowSees (i := 1) rfl)) rfl hf rfl) ?_
 refine cm2 c_100 rfl (fun r52 w hr52 hO => znF x49 r52 _ (hG.own hF hO) hr52) fun r52 hr52 p53 c54 => ?_
 refine br rfl (fun hc57 => ?_) fun hc57 => ?_
 refine vl rfl rfl (fun a w hf hO => zg (vs := []) (v := .agg #[int 0, int 0]) hf rfl (by kernel_rfl)) ?_
 refine st 4 rfl rfl ?_
 refine re_ rfl fun a w hf hO hm => ?_
 obtain rfl := Option.some.inj hm
 exact zc Tryz.results66 hf (.cell rfl (zd (n := 2) (vs := [int 0, int 0]) zdc zdd rfl ((hO.blkSees (i := 4) rfl).cells (o := 0) (n := 2) rfl)) (.tmp rfl .nil)) ⟨rfl, hO.below⟩
 refine ch [1, 0, 2, 3, 4, 5, 6] rfl rfl ?_
 refine lv [4, 7, 11, 12] [1, 2, 3, 4, 5, 6] (fun J E L k => ∃ (p61 : Option Addr) (c62 : Nat) (l63 : List Int) (i64 : Int), J ((10, .slice p61 l63.length c62) :: (14, int i64) :: E) (.row (.slice p61 l63.length c62) 3 1 l63.length (cells zlr l63) :: L) (zef (zdp r8 n3) i45 r52 k l63 i64)) rfl (fun _ _ j => ⟨p42, c43, l44, 0, j rfl⟩) ?_
 rintro n4 a w ⟨p61, c62, l63, i64, hf, hO, hm⟩
 obtain _ | n4 := n4
 rw [zef] at hm
 cases hm
 rw [zef] at hm
 refine S.co tb ?_ hf hO hm
 refine br rfl (fun hc66 => ?_) fun hc66 => ?_
 refine rw_ rfl fun a w hf hO hm => ?_
 obtain ⟨x68, hx68, hm⟩ := ob hm
 obtain ⟨b69, o70, hix68, hSx68, hAx68⟩ := zE (enc := zf) (sz := 1) (xs := r52.1) 30 Tryz.underlying30 zdD (by decide) (fun _ => rfl) hO (i := 1) rfl hx68
 refine zG (zh hix68 hf rfl rfl) rfl hf rfl rfl fun a hf => ?_
 refine S.op tb ?_ hf hO hm
 refine vl rfl rfl (fun a w hf hO => zk (o := 0) zbx (hSx68 _ (hO.rowSees (i := 1) rfl)) rfl hf rfl) ?_
 refine cl zy0 rfl (fun r71 w hr71 hO => zlA x68 10 1099511627776 r71 _ (hG.own hF hO) hr71) fun r71 hr71 => ?_
 refine br rfl (fun hc74 => ?_) fun hc74 => ?_
 refine vl rfl rfl (fun a w hf hO => zg (vs := []) (v := .agg #[int 0, int 0]) hf rfl (by kernel_rfl)) ?_
 refine st 4 rfl rfl ?_
 refine re_ rfl fun a w hf hO hm => ?_
 obtain rfl := Option.some.inj hm
 exact zc Tryz.results66 hf (.cell rfl (zd (n := 2) (vs := [int 0, int 0]) zdc zdd rfl ((hO.blkSees (i := 4) rfl).cells (o := 0) (n := 2) rfl)) (.tmp rfl .nil)) ⟨rfl, hO.below⟩
 refine rw_ rfl fun a w hf hO hm => ?_
 refine zt (vs := [(0, int r71.1)]) (cs := [int r71.1]) (e := 3) (sz := 1) hf rfl rfl (fun w => by kernel_rfl) rfl rfl hO fun a b77 w hf hO => ?_
 refine S.op tb ?_ hf hO hm
 refine rw_ rfl fun a w hf hO hm => ?_
 obtain ⟨hg80, hm⟩ := og hm
 refine zaL el_180 (enc := zlr) (xs := l63) (ys := [r71.1]) (i := 1) (fun _ => rfl) rfl (hO.rowSees (i := 0) rfl) (by simp [cells, zlr, Value.oneCell']) hg80 hf rfl rfl rfl hO fun a p78 c79 w hf hO => ?_
 refine S.op tb ?_ hf hO hm
 refine bi rfl fun i82 hi82 => ?_
 exact ec [1, 2, 3, 4, 5, 6, 7] rfl rfl rfl fun _ _ j => ⟨_, Nat.lt_succ_self _, p78, c79, l63 ++ [r71.1], i82, j rfl⟩
 refine bi rfl fun i84 hi84 => ?_
 exact ec [0, 2, 3, 4, 5, 6] rfl rfl rfl fun _ _ j => ⟨_, Nat.lt_succ_self _, p61, c62, l63, i84, j rfl⟩
 refine lv [4, 10] [0, 1, 2, 3, 4, 5] (fun J E L k => ∃ (i87 : Int), J ((17, int i87) :: E) (L) (zeg l44 k i87)) rfl (fun _ _ j => ⟨0, j rfl⟩) ?_
 rintro n5 a w ⟨i87, hf, hO, hm⟩
 obtain _ | n5 := n5
 rw [zeg] at hm
 cases hm
 rw [zeg] at hm
 refine S.co tb ?_ hf hO hm
 refine br rfl (fun hc89 => ?_) fun hc89 => ?_
 refine rc_ rfl fun a w hf hO hm => ?_
 refine zcO (by kernel_rfl) (by kernel_rfl) hO ?_
 refine zj (fun w hO => zA hf rfl) rfl hf rfl rfl fun a hf => ?_
 refine zj (fun w hO => zA hf rfl) rfl hf rfl rfl fun a hf => ?_
 obtain ⟨x91, hx91, hm⟩ := ob hm
 obtain ⟨b92, o93, hix91, hSx91⟩ := zbL (enc := zlr) (sz := 1) (xs := l44) 180 Tryz.underlying180 sz_3 (by decide) (fun _ => rfl) (hO.rowSees (i := 0) rfl) hx91
 refine zj (fun w hO => zh hix91 hf rfl rfl) rfl hf rfl rfl fun a hf => ?_
 refine zj (fun w hO => zk (o := 0) znm (hSx91 _ (hO.rowSees (i := 0) rfl)) rfl hf rfl) rfl hf rfl rfl fun a hf => ?_
 refine zj (fun w hO => zA hf rfl) rfl hf rfl rfl fun a hf => ?_
 obtain ⟨x94, hx94, hm⟩ := ob hm
 obtain ⟨b95, o96, hix94, hSx94⟩ := zbL (enc := zlr) (sz := 1) (xs := l44) 180 Tryz.underlying180 sz_3 (by decide) (fun _ => rfl) (hO.rowSees (i := 0) rfl) hx94
 refine zj (fun w hO => zh hix94 hf rfl rfl) rfl hf rfl rfl fun a hf => ?_
 refine zj (fun w hO => zk (o := 0) znm (hSx94 _ (hO.rowSees (i := 0) rfl)) rfl hf rfl) rfl hf rfl rfl fun a hf => ?_
 refine zj (fun w hO => zx1 (m := x91) (n := x94) hf rfl rfl) rfl hf rfl rfl fun a hf => ?_
 refine wpQuiet_nil ?_
 intro w hO
 refine S.no tb ?_ hf hO hm
 refine br rfl (fun hc98 => ?_) fun hc98 => ?_
 refine vl rfl rfl (fun a w hf hO => zg (vs := []) (v := .agg #[int 0, int 0]) hf rfl (by kernel_rfl)) ?_
 refine st 3 rfl rfl ?_
 refine re_ rfl fun a w hf hO hm => ?_
 obtain rfl := Option.some.inj hm
 exact zc Tryz.results66 hf (.cell rfl (zd (n := 2) (vs := [int 0, int 0]) zdc zdd rfl ((hO.blkSees (i := 3) rfl).cells (o := 0) (n := 2) rfl)) (.tmp rfl .nil)) ⟨rfl, hO.below⟩
 refine bi rfl fun i101 hi101 => ?_
 exact en rfl fun _ _ j => ⟨_, Nat.lt_succ_self _, i101, j rfl⟩
 refine br rfl (fun hc104 => ?_) fun hc104 => ?_
 refine vl rfl rfl (fun a w hf hO => zg (vs := []) (v := .agg #[int 0, int 0]) hf rfl (by kernel_rfl)) ?_
 refine st 3 rfl rfl ?_
 refine re_ rfl fun a w hf hO hm => ?_
 obtain rfl := Option.some.inj hm
 exact zc Tryz.results66 hf (.cell rfl (zd (n := 2) (vs := [int 0, int 0]) zdc zdd rfl ((hO.blkSees (i := 3) rfl).cells (o := 0) (n := 2) rfl)) (.tmp rfl .nil)) ⟨rfl, hO.below⟩
 refine rw_ rfl fun a w hf hO hm => ?_
 obtain ⟨x107, hx107, hm⟩ := ob hm
 obtain ⟨b108, o109, hix107, hSx107, hAx107⟩ := zE (enc := zlr) (sz := 1) (xs := l44) 180 Tryz.underlying180 sz_3 (by decide) (fun _ => rfl) hO (i := 0) rfl hx107
 refine zG (zh hix107 hf rfl rfl) rfl hf rfl rfl fun a hf => ?_
 refine S.op tb ?_ hf hO hm
 refine vl rfl rfl (fun a w hf hO => zk (o := 0) znm (hSx107 _ (hO.rowSees (i := 0) rfl)) rfl hf rfl) ?_
 refine vl rfl rfl (fun a w hf hO => zg (vs := [(0, int 2), (1, int x107)]) (v := .agg #[int 2, int x107]) hf rfl (by kernel_rfl)) ?_
 refine st 3 rfl rfl ?_
 refine re_ rfl fun a w hf hO hm => ?_
 obtain rfl := Option.some.inj hm
 exact zc Tryz.results66 hf (.cell rfl (zd (n := 2) (vs := [int 2, int x107]) zdc zdd rfl ((hO.blkSees (i := 3) rfl).cells (o := 0) (n := 2) rfl)) (.tmp rfl .nil)) ⟨rfl, hO.below⟩

theorem zpY (x_method : Str) (x_h : api_Head) (R : api_Frame × Int) (w0 : World) (hG : zr w0) {x_h_p0 : Option Addr} {x_h_c0 : Nat} (hs0 : zC w0 x_h_p0 (cells za x_h.Fields)) (hc0 : x_h.Fields.length ≤ x_h_c0) (hm : zfI x_method x_h = some R) :
    Calls Tryz.prog 67 #[str x_method, .agg #[int x_h.Kind, str x_h.Method, str x_h.Target, int x_h.Code, str x_h.Reason, int x_h.Minor, .slice x_h_p0 x_h.Fields.length x_h_c0]] w0 (Ret w0 (fun R => .tuple #[.agg #[int R.1.Kind, int R.1.N], int R.2]) R) := by
 rw [zfI] at hm
 have hF : zq [] := ze
 have hO : Dk.Own w0 [] w0 [] := Dk.Own.refl w0
 have hO := hO.addShr hs0 (by simp [Res.shared])
 refine S.enter tb Tryz.func67 rfl Tryz.ntmps67 rfl ?_ hO hm
 refine bo rfl fun b1 => ?_
 refine al zlQ rfl fun b2 => ?_
 refine jv 0 [0, 3, 4] [0, 1, 2] (fun J E L => ∃ (t7 : Bool), J ((6, .bool t7) :: E) (L) (zbr x_method x_h t7)) rfl ?_ ?_
 refine br rfl (fun hc4 => ?_) fun hc4 => ?_
 exact en rfl fun _ _ j => ⟨true, j rfl⟩
 refine ld 1 rfl rfl ?_
 refine br rfl (fun hc5 => ?_) fun hc5 => ?_
 exact en rfl fun _ _ j => ⟨true, j rfl⟩
 refine ld 1 rfl rfl ?_
 refine br rfl (fun hc6 => ?_) fun hc6 => ?_
 exact en rfl fun _ _ j => ⟨true, j rfl⟩
 refine ld 1 rfl rfl ?_
 exact en rfl fun _ _ j => ⟨x_h.Code == 304, j rfl⟩
 rintro a w ⟨t7, hf, hO, hm⟩
 rw [zbr] at hm
 refine S.co tb ?_ hf hO hm
 refine jv 1 [3, 4] [0, 1, 2] (fun J E L => ∃ (t10 : Bool), J ((33, .bool t10) :: E) (L) (zcj x_h t10)) rfl ?_ ?_
 refine br rfl (fun hc8 => ?_) fun hc8 => ?_
 exact en rfl fun _ _ j => ⟨true, j rfl⟩
 refine br rfl (fun hc9 => ?_) fun hc9 => ?_
 refine ld 1 rfl rfl ?_
 exact en rfl fun _ _ j => ⟨decide (x_h.Code ≤ 299), j rfl⟩
 exact en rfl fun _ _ j => ⟨false, j rfl⟩
 rintro a w ⟨t10, hf, hO, hm⟩
 rw [zcj] at hm
 refine S.co tb ?_ hf hO hm
 refine br rfl (fun hc11 => ?_) fun hc11 => ?_
 refine vl rfl rfl (fun a w hf hO => zg (vs := [(0, int 1)]) (v := .agg #[int 1, int 0]) hf rfl (by kernel_rfl)) ?_
 refine st 0 rfl rfl ?_
 refine re_ rfl fun a w hf hO hm => ?_
 obtain rfl := Option.some.inj hm
 exact zc Tryz.results67 hf (.cell rfl (zd (n := 2) (vs := [int 1, int 0]) zdc zdd rfl ((hO.blkSees (i := 0) rfl).cells (o := 0) (n := 2) rfl)) (.tmp rfl .nil)) ⟨rfl, hO.below⟩
 refine ld 1 rfl rfl ?_
 refine cl c_66 rfl (fun r14 w hr14 hO => zsa x_h 4 r14 _ (hG.own hF hO) (hO.sees (i := 2) rfl) hc0 hr14) fun r14 hr14 => ?_
 refine st 0 rfl rfl ?_
 refine re_ rfl fun a w hf hO hm => ?_
 obtain rfl := Option.some.inj hm
 exact zc Tryz.results67 hf (.cell rfl (zd (n := 2) (vs := [int r14.1.Kind, int r14.1.N]) zdc zdd rfl ((hO.blkSees (i := 0) rfl).cells (o := 0) (n := 2) rfl)) (.tmp rfl .nil)) ⟨rfl, hO.below⟩

theorem zsH (x_method : Str) (x_h : api_Head) (R : api_Frame × Int) (w0 : World) (hG : zr w0) {x_h_p0 : Option Addr} {x_h_c0 : Nat} (hs0 : zC w0 x_h_p0 (cells za x_h.Fields)) (hc0 : x_h.Fields.length ≤ x_h_c0) (hm : ziO x_method x_h = some R) :
    Calls Tryz.prog 35 #[str x_method, .agg #[int x_h.Kind, str x_h.Method, str x_h.Target, int x_h.Code, str x_h.Reason, int x_h.Minor, .slice x_h_p0 x_h.Fields.length x_h_c0]] w0 (Ret w0 (fun R => .tuple #[.agg #[int R.1.Kind, int R.1.N], int R.2]) R) := by
 rw [ziO] at hm
 have hF : zq [] := ze
 have hO : Dk.Own w0 [] w0 [] := Dk.Own.refl w0
 have hO := hO.addShr hs0 (by simp [Res.shared])
 refine S.enter tb Tryz.func35 rfl Tryz.ntmps35 rfl ?_ hO hm
 refine bo rfl fun b1 => ?_
 refine al zlQ rfl fun b2 => ?_
 refine ld 1 rfl rfl ?_
 refine br rfl (fun hc5 => ?_) fun hc5 => ?_
 refine ld 1 rfl rfl ?_
 refine cl c_66 rfl (fun r6 w hr6 hO => zsa x_h 1 r6 _ (hG.own hF hO) (hO.sees (i := 2) rfl) hc0 hr6) fun r6 hr6 => ?_
 refine st 0 rfl rfl ?_
 refine re_ rfl fun a w hf hO hm => ?_
 obtain rfl := Option.some.inj hm
 exact zc Tryz.results35 hf (.cell rfl (zd (n := 2) (vs := [int r6.1.Kind, int r6.1.N]) zdc zdd rfl ((hO.blkSees (i := 0) rfl).cells (o := 0) (n := 2) rfl)) (.tmp rfl .nil)) ⟨rfl, hO.below⟩
 refine ld 1 rfl rfl ?_
 refine cl c_67 rfl (fun r9 w hr9 hO => zpY x_method x_h r9 _ (hG.own hF hO) (hO.sees (i := 2) rfl) hc0 hr9) fun r9 hr9 => ?_
 refine st 0 rfl rfl ?_
 refine re_ rfl fun a w hf hO hm => ?_
 obtain rfl := Option.some.inj hm
 exact zc Tryz.results35 hf (.cell rfl (zd (n := 2) (vs := [int r9.1.Kind, int r9.1.N]) zdc zdd rfl ((hO.blkSees (i := 0) rfl).cells (o := 0) (n := 2) rfl)) (.tmp rfl .nil)) ⟨rfl, hO.below⟩

theorem zsI (R : Bool) (w0 : World) (hG : zaq w0) (hm : zkk = some R) :
    Calls Tryz.prog 13 #[] w0 (Ret w0 (fun R => .bool R) R) := by
 rw [zkk] at hm
 have hF : zq [] := ze
 have hO : Dk.Own w0 [] w0 [] := Dk.Own.refl w0
 refine S.enter tb Tryz.func13 rfl Tryz.ntmps13 rfl ?_ hO hm
 refine bi rfl fun s3 hs3 => ?_
 refine cm4 c_23 rfl (fun r4 w hr4 hO => zqs 1 [] s3 99 false r4 _ (hG.own hF hO) hr4) fun r4 hr4 p5 c6 p7 c8 => ?_
 refine al zyd rfl fun b9 => ?_
 refine nl 110 2 ?_
 refine nl 110 2 ?_
 refine st 2 rfl rfl ?_
 refine jv 0 [] [0, 1, 2, 3, 4] (fun J E L => ∃ (t14 : Bool), J ((0, .bool t14) :: E) (L) (zd3 t14)) rfl ?_ ?_
 refine br rfl (fun hc11 => ?_) fun hc11 => ?_
 refine br rfl (fun hc12 => ?_) fun hc12 => ?_
 refine ld 2 rfl rfl ?_
 refine br rfl (fun hc13 => ?_) fun hc13 => ?_
 refine ld 2 rfl rfl ?_
 refine vl rfl rfl (fun a w hf hO => zg (vs := [(0, int 2), (1, int 2)]) (v := .agg #[int 2, int 2]) hf rfl (by kernel_rfl)) ?_
 refine vl rfl rfl (fun a w hf hO => zx5 (by kernel_rfl) (zyg r4.1.Frame (⟨2, 2⟩ : api_Frame)) hf rfl rfl) ?_
 exact en rfl fun _ _ j => ⟨r4.1.Frame == (⟨2, 2⟩ : api_Frame), j rfl⟩
 exact en rfl fun _ _ j => ⟨false, j rfl⟩
 exact en rfl fun _ _ j => ⟨false, j rfl⟩
 exact en rfl fun _ _ j => ⟨false, j rfl⟩
 rintro a w ⟨t14, hf, hO, hm⟩
 rw [zd3] at hm
 refine S.co tb ?_ hf hO hm
 exact rt Tryz.results13 rfl

end Go.Proofs
end
