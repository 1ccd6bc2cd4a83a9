/-
  Walks, written by a program (wip/gen): what its model says, the function returns; what was there before is as it was.
  Walks, written by a program (wip/gen): what its model says, the function returns; what was there before is as it was.
  Walks, written by a program (wip/gen): what its model says, the function returns; what was there before is as it was.
  Walks, written by a program (wip/gen): what its model says, the function returns; what was there before is as it was.
  Walks, written by a program (wip/gen): what its model says, the function returns; what was there before is as it was.
-/
import Derived.Test.YtgjjlnlhpjjcpaaGreatDoorLib
import Derived.Test.YtgjjlnlhpjjcpaaGreatDoorW5
section
set_option linter.unusedVariables false
set_option maxHeartbeats 1000000
set_option linter.unusedSimpArgs false
set_option maxRecDepth 100000
namespace Go.Proofs
open Go.Dk Go.Dm Go.RowKit

theorem zn4 (x_a : accum_Accum) (R : api_Head × Bool) (w0 : World) (hG : zr w0) {x_a_b0 : Nat} {x_a_p1 : Option Addr} {x_a_c1 : Nat} {x_a_p2 : Option Addr} {x_a_c2 : Nat} (hs0 : zC w0 (some ⟨x_a_b0, 0, none⟩) [int x_a.f_kind, int x_a.f_limit, .slice x_a_p1 x_a.f_buf.length x_a_c1, int x_a.f_from, .bool x_a.f_took, int x_a.f_bad, .bool x_a.f_whole, int x_a.f_got.Kind, str x_a.f_got.Method, str x_a.f_got.Target, int x_a.f_got.Code, str x_a.f_got.Reason, int x_a.f_got.Minor, .slice x_a_p2 x_a.f_got.Fields.length x_a_c2]) (hs1 : zC w0 x_a_p1 (cells zp x_a.f_buf)) (hc1 : x_a.f_buf.length ≤ x_a_c1) (hs2 : zC w0 x_a_p2 (cells za x_a.f_got.Fields)) (hc2 : x_a.f_got.Fields.length ≤ x_a_c2) (hm : zh8 x_a = some R) :
    Calls Tryz.prog 43 #[ptr x_a_b0 0] w0 fun e w' => ∃ (p0 : Option Addr) (c0 : Nat), e = .returned (.tuple #[.agg #[int R.1.Kind, str R.1.Method, str R.1.Target, int R.1.Code, str R.1.Reason, int R.1.Minor, .slice p0 R.1.Fields.length c0], .bool R.2]) ∧ Dk.Own w0 [] w' [.row (.slice p0 R.1.Fields.length c0) 110 2 R.1.Fields.length (cells za R.1.Fields)] := by
 rw [zh8] at hm
 have hF : zq [] := ze
 have hO : Dk.Own w0 [] w0 [] := Dk.Own.refl w0
 have hO := hO.addShr hs0 (by simp [Res.shared])
 have hO := hO.addShr hs1 (by simp [Res.shared])
 have hO := hO.addShr hs2 (by simp [Res.shared])
 refine S.enter tb Tryz.func43 rfl Tryz.ntmps43 rfl ?_ hO hm
 refine al zj7 rfl fun b1 => ?_
 refine nl 110 2 ?_
 refine vl rfl rfl (fun a w hf hO => zcL Tryz.underlying93 hf rfl rfl) ?_
 refine kn (b' := false) rfl rfl ?_
 refine ld 4 rfl rfl ?_
 refine br rfl (fun hc4 => ?_) fun hc4 => ?_
 refine vl rfl rfl (fun a w hf hO => zg (vs := []) (v := .agg #[int 0, str [], str [], int 0, str [], int 0, .slice none 0 0]) hf rfl (by kernel_rfl)) ?_
 refine st 1 rfl rfl ?_
 refine nl 110 2 ?_
 refine re_ rfl fun a w hf hO hm => ?_
 obtain rfl := Option.some.inj hm
 exact zc Tryz.results43 hf (.cell rfl (zd (n := 7) (vs := [int 0, str [], str [], int 0, str [], int 0, .slice none 0 0]) zcE zce rfl ((hO.blkSees (i := 2) rfl).cells (o := 0) (n := 7) rfl)) (.tmp rfl .nil)) ⟨none, 0, rfl, (hO.sub (.cons_cons _ (.cons _ (.cons _ (.cons _ (.cons _ (.cons _ .slnil)))))))⟩
 refine ld 4 rfl rfl ?_
 refine al zj7 rfl fun b7 => ?_
 refine nl 110 2 ?_
 refine st 1 rfl rfl ?_
 refine rw_ rfl fun a w hf hO hm => ?_
 refine zt (vs := []) (cs := []) (e := 110) (sz := 2) hf rfl rfl (fun w => by kernel_rfl) rfl rfl hO fun a b9 w hf hO => ?_
 refine S.op tb ?_ hf hO hm
 refine ld 2 rfl rfl ?_
 refine rw_ rfl fun a w hf hO hm => ?_
 obtain ⟨hg12, hm⟩ := og hm
 refine zlu zuy (enc := za) (xs := []) (ys := x_a.f_got.Fields) (i := 0) (fun _ => rfl) rfl (hO.sees (i := 5) rfl) (by simp [za, Value.oneCell']) hg12 hf rfl rfl rfl hO fun a p10 c11 w hf hO => ?_
 refine S.op tb ?_ hf hO hm
 refine st 2 rfl rfl ?_
 refine ld 2 rfl rfl ?_
 refine st 4 rfl rfl ?_
 refine re_ rfl fun a w hf hO hm => ?_
 obtain rfl := Option.some.inj hm
 exact zc Tryz.results43 hf (.cell rfl (zd (n := 7) (vs := [int x_a.f_got.Kind, str x_a.f_got.Method, str x_a.f_got.Target, int x_a.f_got.Code, str x_a.f_got.Reason, int x_a.f_got.Minor, .slice p10 x_a.f_got.Fields.length c11]) zcE zce rfl ((hO.blkSees (i := 4) rfl).cells (o := 0) (n := 7) rfl)) (.tmp rfl .nil)) ⟨p10, c11, rfl, (hO.sub (.cons_cons _ (.cons _ (.cons _ (.cons _ (.cons _ (.cons _ (.cons _ (.cons _ .slnil)))))))))⟩

theorem zhL (x_p : commas_splitter) (x_at : Int) (R : commas_splitter) (w0 : World) (hG : zr w0) {x_p_b0 : Nat} {x_p_b1 : Nat} {x_p_p2 : Option Addr} {x_p_c2 : Nat} {F : List Nat} (hF : zq F) (hO : Dk.Own w0 F w0 [.blk x_p_b0 [ptr x_p_b1 0, .slice x_p_p2 x_p.f_out.length x_p_c2, int x_p.f_from, str x_p.f_s] 285, .blk x_p_b1 [str x_p.Scanner.f_s, int x_p.Scanner.f_at] 277, .row (.slice x_p_p2 x_p.f_out.length x_p_c2) 9 1 x_p.f_out.length (cells zf x_p.f_out)]) (hm : zbv x_p x_at = some R) :
    Calls Tryz.prog 222 #[ptr x_p_b0 0, int x_at] w0 fun e w' => ∃ (p0 : Option Addr) (c0 : Nat), e = .returned (.tuple #[]) ∧ Dk.Own w0 F w' [.blk x_p_b0 [ptr x_p_b1 0, .slice p0 R.f_out.length c0, int R.f_from, str R.f_s] 285, .blk x_p_b1 [str R.Scanner.f_s, int R.Scanner.f_at] 277, .row (.slice p0 R.f_out.length c0) 9 1 R.f_out.length (cells zf R.f_out)] := by
 rw [zbv] at hm
 refine S.enter tb Tryz.func222 rfl Tryz.ntmps222 rfl ?_ hO hm
 refine jv 0 [0] [1] (fun J E L => ∃ (p10 : Option Addr) (c11 : Nat) (l12 : List Str), J (E) (.blk x_p_b0 [ptr x_p_b1 0, .slice p10 l12.length c11, int x_p.f_from, str x_p.f_s] 285 :: .row (.slice p10 l12.length c11) 9 1 l12.length (cells zf l12) :: L) (zbp x_p l12)) rfl ?_ ?_
 refine rc_ rfl fun a w hf hO hm => ?_
 refine zcO (by kernel_rfl) (by kernel_rfl) hO ?_
 refine zj (fun w hO => zA hf rfl) rfl hf rfl rfl fun a hf => ?_
 refine zj (fun w hO => zac hf rfl) rfl hf rfl rfl fun a hf => ?_
 refine zj (fun w hO => zX zuJ hf rfl) rfl hf rfl rfl fun a hf => ?_
 refine zj (fun w hO => zk (o := 3) zbx (hO.blkSees (i := 0) rfl) rfl hf rfl) rfl hf rfl rfl fun a hf => ?_
 refine zj (fun w hO => zA hf rfl) rfl hf rfl rfl fun a hf => ?_
 refine zj (fun w hO => zac hf rfl) rfl hf rfl rfl fun a hf => ?_
 refine zj (fun w hO => zX zuI hf rfl) rfl hf rfl rfl fun a hf => ?_
 refine zj (fun w hO => zk (o := 2) znm (hO.blkSees (i := 0) rfl) rfl hf rfl) rfl hf rfl rfl fun a hf => ?_
 refine zj (fun w hO => zA hf rfl) rfl hf rfl rfl fun a hf => ?_
 obtain ⟨s1, hs1, hm⟩ := ob hm
 refine zj (fun w hO => zmn (l := x_p.f_s) Tryz.underlying9 hf rfl rfl rfl hs1) rfl hf rfl rfl fun a hf => ?_
 obtain ⟨r2, hr2, hm⟩ := ob hm
 refine zn6 (fun w hO => zak c_88 hf (vs := [str s1, str [32, 9]]) rfl) rfl hf rfl rfl (fun w hO => (zju s1 [32, 9] r2 _ (hG.own hF hO) hr2).mono fun e w' ⟨he, hb⟩ => ⟨he, hO.grow hb⟩) fun a hf => ?_
 refine zj (fun w hO => zay hf rfl) rfl hf rfl rfl fun a hf => ?_
 refine wpQuiet_nil ?_
 intro w hO
 refine S.no tb ?_ hf hO hm
 refine br rfl (fun hc5 => ?_) fun hc5 => ?_
 refine ld 0 rfl rfl ?_
 refine rw_ rfl fun a w hf hO hm => ?_
 refine zt (vs := [(0, str r2)]) (cs := [str r2]) (e := 9) (sz := 1) hf rfl rfl (fun w => by kernel_rfl) rfl rfl hO fun a b6 w hf hO => ?_
 refine S.op tb ?_ hf hO hm
 refine rw_ rfl fun a w hf hO hm => ?_
 obtain ⟨hg9, hm⟩ := og hm
 refine zaL zjy (enc := zf) (xs := x_p.f_out) (ys := ([r2] : List Str)) (i := 3) (fun _ => rfl) rfl (hO.rowSees (i := 0) rfl) (by simp [cells, zf, Value.oneCell']) hg9 hf rfl rfl rfl hO fun a p7 c8 w hf hO => ?_
 refine S.op tb ?_ hf hO hm
 refine st 1 rfl rfl ?_
 exact ec [1, 3, 2] rfl rfl rfl fun _ _ j => ⟨p7, c8, x_p.f_out ++ ([r2] : List Str), j rfl⟩
 exact ec [0, 2, 1] rfl rfl rfl fun _ _ j => ⟨x_p_p2, x_p_c2, x_p.f_out, j rfl⟩
 rintro a w ⟨p10, c11, l12, hf, hO, hm⟩
 rw [zbp] at hm
 refine S.co tb ?_ hf hO hm
 refine ld 0 rfl rfl ?_
 refine cl zuN rfl (fun r13 w hr13 hO => zdr x_p.Scanner r13 _ (hG.own hF hO) (hO.blkSees (i := 2) rfl) hr13) fun r13 hr13 => ?_
 refine st 0 rfl rfl ?_
 refine rn_ rfl fun a w hf hO hm => ?_
 obtain rfl := Option.some.inj hm
 exact zoC Tryz.results222 hf .nil ⟨p10, c11, rfl, (hO.choose [0, 2, 1] rfl)⟩

theorem zjZ (x_p : commas_splitter) (R : Bool × commas_splitter) (w0 : World) (hG : zr w0) {x_p_b0 : Nat} {x_p_b1 : Nat} {x_p_p2 : Option Addr} {x_p_c2 : Nat} {F : List Nat} (hF : zq F) (hO : Dk.Own w0 F w0 [.blk x_p_b0 [ptr x_p_b1 0, .slice x_p_p2 x_p.f_out.length x_p_c2, int x_p.f_from, str x_p.f_s] 285, .blk x_p_b1 [str x_p.Scanner.f_s, int x_p.Scanner.f_at] 277, .row (.slice x_p_p2 x_p.f_out.length x_p_c2) 9 1 x_p.f_out.length (cells zf x_p.f_out)]) (hm : zbd x_p = some R) :
    Calls Tryz.prog 252 #[ptr x_p_b0 0] w0 fun e w' => ∃ (p0 : Option Addr) (c0 : Nat), e = .returned (.bool R.1) ∧ Dk.Own w0 F w' [.blk x_p_b0 [ptr x_p_b1 0, .slice p0 R.2.f_out.length c0, int R.2.f_from, str R.2.f_s] 285, .blk x_p_b1 [str R.2.Scanner.f_s, int R.2.Scanner.f_at] 277, .row (.slice p0 R.2.f_out.length c0) 9 1 R.2.f_out.length (cells zf R.2.f_out)] := by
 rw [zbd] at hm
 refine S.enter tb Tryz.func252 rfl Tryz.ntmps252 rfl ?_ hO hm
 refine jv 0 [] [0, 2] (fun J E L => ∃ (s33 : Str) (i34 : Int), J (E) (.blk x_p_b1 [str s33, int i34] 277 :: L) (zcV x_p s33 i34)) rfl ?_ ?_
 refine ch [1, 0, 2] rfl rfl ?_
 refine lv [0] [1, 2] (fun J E L k => ∃ (s3 : Str) (i4 : Int) (i5 : Int), J ((3, int i5) :: E) (.blk x_p_b1 [str s3, int i4] 277 :: L) (zs x_p k s3 i4 i5)) rfl (fun _ _ j => ⟨x_p.Scanner.f_s, x_p.Scanner.f_at, 1, j rfl⟩) ?_
 rintro n1 a w ⟨s3, i4, i5, hf, hO, hm⟩
 obtain _ | n1 := n1
 rw [zs] at hm
 cases hm
 rw [zs] at hm
 refine S.co tb ?_ hf hO hm
 refine br rfl (fun hc7 => ?_) fun hc7 => ?_
 refine ld 1 rfl rfl ?_
 refine cl zq5 rfl (fun r9 w hr9 hO => zaN (⟨s3, i4⟩ : scan_Scanner) r9 _ (hG.own hF hO) (hO.blkSees (i := 0) rfl) hr9) fun r9 hr9 => ?_
 refine br rfl (fun hc12 => ?_) fun hc12 => ?_
 refine re_ rfl fun a w hf hO hm => ?_
 obtain rfl := Option.some.inj hm
 exact zc Tryz.results252 hf (.tmp rfl .nil) ⟨x_p_p2, x_p_c2, rfl, (hO.choose [1, 0, 2] rfl)⟩
 refine ld 1 rfl rfl ?_
 refine cw0 zi9 [0, 1, 2] 1 [] rfl (fun r15 w hr15 hO hfar16 hlend16 => zv (⟨s3, i4⟩ : scan_Scanner) r9.1 r15 _ (hG.own hF hO) hfar16 hlend16 hr15) (fun _ _ => trivial) hF hG.size fun r15 hr15 => ?_
 refine vl rfl rfl (fun a w hf hO => zz (b := r9.1) (c := 40) hf rfl rfl) ?_
 refine br rfl (fun hc20 => ?_) fun hc20 => ?_
 refine bi rfl fun i21 hi21 => ?_
 exact en rfl fun _ _ j => ⟨_, Nat.lt_succ_self _, r15.2.f_s, r15.2.f_at, i21, j rfl⟩
 refine vl rfl rfl (fun a w hf hO => zz (b := r9.1) (c := 41) hf rfl rfl) ?_
 refine br rfl (fun hc23 => ?_) fun hc23 => ?_
 refine bi rfl fun i24 hi24 => ?_
 exact en rfl fun _ _ j => ⟨_, Nat.lt_succ_self _, r15.2.f_s, r15.2.f_at, i24, j rfl⟩
 refine vl rfl rfl (fun a w hf hO => zz (b := r9.1) (c := 92) hf rfl rfl) ?_
 refine br rfl (fun hc26 => ?_) fun hc26 => ?_
 refine ld 1 rfl rfl ?_
 refine cl zq5 rfl (fun r27 w hr27 hO => zaN r15.2 r27 _ (hG.own hF hO) (hO.blkSees (i := 0) rfl) hr27) fun r27 hr27 => ?_
 refine br rfl (fun hc30 => ?_) fun hc30 => ?_
 refine ld 1 rfl rfl ?_
 refine cw0 zi9 [0, 1, 2] 1 [] rfl (fun r31 w hr31 hO hfar32 hlend32 => zv r15.2 r27.1 r31 _ (hG.own hF hO) hfar32 hlend32 hr31) (fun _ _ => trivial) hF hG.size fun r31 hr31 => ?_
 exact en rfl fun _ _ j => ⟨_, Nat.lt_succ_self _, r31.2.f_s, r31.2.f_at, i5, j rfl⟩
 exact en rfl fun _ _ j => ⟨_, Nat.lt_succ_self _, r15.2.f_s, r15.2.f_at, i5, j rfl⟩
 exact en rfl fun _ _ j => ⟨_, Nat.lt_succ_self _, r15.2.f_s, r15.2.f_at, i5, j rfl⟩
 exact en rfl fun _ _ j => ⟨s3, i4, j rfl⟩
 rintro a w ⟨s33, i34, hf, hO, hm⟩
 rw [zcV] at hm
 refine S.co tb ?_ hf hO hm
 refine re_ rfl fun a w hf hO hm => ?_
 obtain rfl := Option.some.inj hm
 exact zc Tryz.results252 hf (.tmp rfl .nil) ⟨x_p_p2, x_p_c2, rfl, (hO.choose [1, 0, 2] rfl)⟩

theorem zmi (x_r : quoted_reader) (R : Bool × quoted_reader) (w0 : World) (hG : zr w0) {x_r_b0 : Nat} {x_r_b1 : Nat} {x_r_p2 : Option Addr} {x_r_c2 : Nat} {F : List Nat} (hF : zq F) (hO : Dk.Own w0 F w0 [.blk x_r_b0 [ptr x_r_b1 0, .slice x_r_p2 x_r.f_out.length x_r_c2] 324, .blk x_r_b1 [str x_r.Scanner.f_s, int x_r.Scanner.f_at] 277, .row (.slice x_r_p2 x_r.f_out.length x_r_c2) 5 1 x_r.f_out.length (cells zp x_r.f_out)]) (hm : zbQ x_r = some R) :
    Calls Tryz.prog 268 #[ptr x_r_b0 0] w0 fun e w' => ∃ (p0 : Option Addr) (c0 : Nat), e = .returned (.bool R.1) ∧ Dk.Own w0 F w' [.blk x_r_b0 [ptr x_r_b1 0, .slice p0 R.2.f_out.length c0] 324, .blk x_r_b1 [str R.2.Scanner.f_s, int R.2.Scanner.f_at] 277, .row (.slice p0 R.2.f_out.length c0) 5 1 R.2.f_out.length (cells zp R.2.f_out)] := by
 rw [zbQ] at hm
 refine S.enter tb Tryz.func268 rfl Tryz.ntmps268 rfl ?_ hO hm
 refine ld 0 rfl rfl ?_
 refine cw0 zi9 [1, 0, 2] 1 [] rfl (fun r2 w hr2 hO hfar3 hlend3 => zv x_r.Scanner 92 r2 _ (hG.own hF hO) hfar3 hlend3 hr2) (fun _ _ => trivial) hF hG.size fun r2 hr2 => ?_
 refine ld 1 rfl rfl ?_
 refine cl zq5 rfl (fun r5 w hr5 hO => zaN r2.2 r5 _ (hG.own hF hO) (hO.blkSees (i := 0) rfl) hr5) fun r5 hr5 => ?_
 refine jv 1 [0, 3] [0, 1, 2] (fun J E L => ∃ (t9 : Bool), J ((24, .bool t9) :: E) (L) (zbJ x_r r2 r5 t9)) rfl ?_ ?_
 refine br rfl (fun hc7 => ?_) fun hc7 => ?_
 exact en rfl fun _ _ j => ⟨true, j rfl⟩
 refine cl c_87 rfl (fun r8 w hr8 hO => zeA r5.1 r8 _ (hG.own hF hO) hr8) fun r8 hr8 => ?_
 exact en rfl fun _ _ j => ⟨!r8, j rfl⟩
 rintro a w ⟨t9, hf, hO, hm⟩
 rw [zbJ] at hm
 refine S.co tb ?_ hf hO hm
 refine br rfl (fun hc10 => ?_) fun hc10 => ?_
 refine re_ rfl fun a w hf hO hm => ?_
 obtain rfl := Option.some.inj hm
 exact zc Tryz.results268 hf (.tmp rfl .nil) ⟨x_r_p2, x_r_c2, rfl, (hO.choose [1, 0, 2] rfl)⟩
 refine ld 1 rfl rfl ?_
 refine rw_ rfl fun a w hf hO hm => ?_
 refine zt (vs := [(0, zai r5.1)]) (cs := [zai r5.1]) (e := 5) (sz := 1) hf rfl rfl (fun w => by kernel_rfl) rfl rfl hO fun a b13 w hf hO => ?_
 refine S.op tb ?_ hf hO hm
 refine rw_ rfl fun a w hf hO hm => ?_
 obtain ⟨hg16, hm⟩ := og hm
 refine zaL zyf (enc := zp) (xs := x_r.f_out) (ys := [r5.1]) (i := 3) (fun _ => rfl) rfl (hO.rowSees (i := 0) rfl) (by simp [cells, zp, Value.oneCell']) hg16 hf rfl rfl rfl hO fun a p14 c15 w hf hO => ?_
 refine S.op tb ?_ hf hO hm
 refine st 2 rfl rfl ?_
 refine ld 2 rfl rfl ?_
 refine cw0 zi9 [1, 0, 2, 3] 1 [] rfl (fun r18 w hr18 hO hfar19 hlend19 => zv r2.2 r5.1 r18 _ (hG.own hF hO) hfar19 hlend19 hr18) (fun _ _ => trivial) hF hG.size fun r18 hr18 => ?_
 refine re_ rfl fun a w hf hO hm => ?_
 obtain rfl := Option.some.inj hm
 exact zc Tryz.results268 hf (.tmp rfl .nil) ⟨p14, c15, rfl, (hO.choose [2, 0, 3] rfl)⟩

theorem znl (x_c : scan_Scanner) (x_at : Int) (R : Bool × scan_Scanner) (w0 : World) (hG : zr w0) {x_c_b0 : Nat} {F : List Nat} (hF : zq F) (hO : Dk.Own w0 F w0 [.blk x_c_b0 [str x_c.f_s, int x_c.f_at] 277]) (hm : zdl x_c x_at = some R) :
    Calls Tryz.prog 269 #[ptr x_c_b0 0, int x_at] w0 fun e w' => e = .returned (.bool R.1) ∧ Dk.Own w0 F w' [.blk x_c_b0 [str R.2.f_s, int R.2.f_at] 277] := by
 rw [zdl] at hm
 refine S.enter tb Tryz.func269 rfl Tryz.ntmps269 rfl ?_ hO hm
 refine jv 1 [0, 1] [0] (fun J E L => ∃ (t4 : Bool), J ((12, .bool t4) :: E) (L) (zb3 x_c x_at t4)) rfl ?_ ?_
 refine br rfl (fun hc2 => ?_) fun hc2 => ?_
 exact en rfl fun _ _ j => ⟨true, j rfl⟩
 refine cl zuN rfl (fun r3 w hr3 hO => zdr x_c r3 _ (hG.own hF hO) (hO.blkSees (i := 0) rfl) hr3) fun r3 hr3 => ?_
 exact en rfl fun _ _ j => ⟨decide (r3 < x_at), j rfl⟩
 rintro a w ⟨t4, hf, hO, hm⟩
 rw [zb3] at hm
 refine S.co tb ?_ hf hO hm
 refine br rfl (fun hc5 => ?_) fun hc5 => ?_
 refine re_ rfl fun a w hf hO hm => ?_
 obtain rfl := Option.some.inj hm
 exact zc Tryz.results269 hf (.tmp rfl .nil) ⟨rfl, hO⟩
 refine vl rfl rfl (fun a w hf hO => zpv Tryz.underlying244 hf rfl rfl) ?_
 refine kn (b' := true) rfl rfl ?_
 refine st 0 rfl rfl ?_
 refine re_ rfl fun a w hf hO hm => ?_
 obtain rfl := Option.some.inj hm
 exact zc Tryz.results269 hf (.tmp rfl .nil) ⟨rfl, hO⟩

theorem zse (x_c : scan_Scanner) (R : Str × Bool × scan_Scanner) (w0 : World) (hG : zr w0) {x_c_b0 : Nat} {F : List Nat} (hF : zq F) (hO : Dk.Own w0 F w0 [.blk x_c_b0 [str x_c.f_s, int x_c.f_at] 277]) (hm : ziF x_c = some R) :
    Calls Tryz.prog 253 #[ptr x_c_b0 0] w0 fun e w' => e = .returned (.tuple #[str R.1, .bool R.2.1]) ∧ Dk.Own w0 F w' [.blk x_c_b0 [str R.2.2.f_s, int R.2.2.f_at] 277] := by
 rw [ziF] at hm
 refine S.enter tb Tryz.func253 rfl Tryz.ntmps253 rfl ?_ hO hm
 refine cl zuN rfl (fun r2 w hr2 hO => zdr x_c r2 _ (hG.own hF hO) (hO.blkSees (i := 0) rfl) hr2) fun r2 hr2 => ?_
 refine vl rfl rfl (fun a w hf hO => zg (vs := [(0, ptr x_c_b0 0)]) (v := .agg #[ptr x_c_b0 0, .slice none 0 0]) hf rfl (by kernel_rfl)) ?_
 refine bo rfl fun b4 => ?_
 refine nl 5 1 ?_
 refine ld 1 rfl rfl ?_
 refine cw0 zi9 [2, 0, 1] 1 [] rfl (fun r6 w hr6 hO hfar7 hlend7 => zv x_c 34 r6 _ (hG.own hF hO) hfar7 hlend7 hr6) (fun _ _ => trivial) hF hG.size fun r6 hr6 => ?_
 refine jv 0 [4, 5] [] (fun J E L => ∃ (t27 : Bool) (s28 : Str) (i29 : Int) (p30 : Option Addr) (c31 : Nat) (l32 : List UInt8), J ((6, .bool t27) :: E) (.blk x_c_b0 [str s28, int i29] 277 :: .row (.slice p30 l32.length c31) 5 1 l32.length (cells zp l32) :: .blk b4 [ptr x_c_b0 0, .slice p30 l32.length c31] 324 :: L) (zfh r2 t27 s28 i29 l32)) rfl ?_ ?_
 refine lv [4, 5] [] (fun J E L k => ∃ (s9 : Str) (i10 : Int) (p11 : Option Addr) (c12 : Nat) (l13 : List UInt8) (t14 : Bool), J ((6, .bool t14) :: E) (.blk x_c_b0 [str s9, int i10] 277 :: .row (.slice p11 l13.length c12) 5 1 l13.length (cells zp l13) :: .blk b4 [ptr x_c_b0 0, .slice p11 l13.length c12] 324 :: L) (zaz r2 k s9 i10 l13 t14)) rfl (fun _ _ j => ⟨r6.2.f_s, r6.2.f_at, none, 0, [], r6.1, j rfl⟩) ?_
 rintro n1 a w ⟨s9, i10, p11, c12, l13, t14, hf, hO, hm⟩
 obtain _ | n1 := n1
 rw [zaz] at hm
 cases hm
 rw [zaz] at hm
 refine S.co tb ?_ hf hO hm
 refine jv 4 [4, 5, 6] [1, 2] (fun J E L => ∃ (t18 : Bool) (s19 : Str) (i20 : Int), J ((25, .bool t18) :: E) (.blk x_c_b0 [str s19, int i20] 277 :: L) (zdX (zaz r2 n1) r2 l13 t14 t18 s19 i20)) rfl ?_ ?_
 refine br rfl (fun hc15 => ?_) fun hc15 => ?_
 refine ld 2 rfl rfl ?_
 refine cw0 zi9 [0, 1, 2] 1 [] rfl (fun r16 w hr16 hO hfar17 hlend17 => zv (⟨s9, i10⟩ : scan_Scanner) 34 r16 _ (hG.own hF hO) hfar17 hlend17 hr16) (fun _ _ => trivial) hF hG.size fun r16 hr16 => ?_
 refine kn (b' := true) hc15 rfl ?_
 exact en rfl fun _ _ j => ⟨!r16.1, r16.2.f_s, r16.2.f_at, j rfl⟩
 exact en rfl fun _ _ j => ⟨false, s9, i10, j rfl⟩
 rintro a w ⟨t18, s19, i20, hf, hO, hm⟩
 rw [zdX] at hm
 refine S.co tb ?_ hf hO hm
 refine br rfl (fun hc21 => ?_) fun hc21 => ?_
 refine cw2 c_268 [2, 0, 1] 3 [] rfl (fun r23 w hr23 hO hfar26 hlend26 => zmi ((⟨(⟨s19, i20⟩ : scan_Scanner), l13⟩ : quoted_reader)) r23 _ (hG.own hF hO) hfar26 hlend26 hr23) (fun _ _ => trivial) hF hG.size fun r23 hr23 p24 c25 => ?_
 exact ec [1, 2, 0] rfl rfl rfl fun _ _ j => ⟨_, Nat.lt_succ_self _, r23.2.Scanner.f_s, r23.2.Scanner.f_at, p24, c25, r23.2.f_out, r23.1, j rfl⟩
 exact en rfl fun _ _ j => ⟨t14, s19, i20, p11, c12, l13, j rfl⟩
 rintro a w ⟨t27, s28, i29, p30, c31, l32, hf, hO, hm⟩
 rw [zfh] at hm
 refine S.co tb ?_ hf hO hm
 refine br rfl (fun hc34 => ?_) fun hc34 => ?_
 refine ld 2 rfl rfl ?_
 refine cw0 c_269 [0, 1, 2] 1 [] rfl (fun r35 w hr35 hO hfar36 hlend36 => znl (⟨s28, i29⟩ : scan_Scanner) r2 r35 _ (hG.own hF hO) hfar36 hlend36 hr35) (fun _ _ => trivial) hF hG.size fun r35 hr35 => ?_
 refine re_ rfl fun a w hf hO hm => ?_
 obtain rfl := Option.some.inj hm
 exact zc Tryz.results253 hf (.tmp rfl (.tmp rfl .nil)) ⟨rfl, (hO.sub (.cons_cons _ (.cons _ (.cons _ .slnil))))⟩
 refine ld 2 rfl rfl ?_
 refine vl rfl rfl (fun a w hf hO => zln (en := zp) (l := l32) (fun _ => rfl) Tryz.underlying9 Tryz.underlying141 Tryz.underlying5 (hO.rowSees (i := 1) rfl) hf rfl) ?_
 refine re_ rfl fun a w hf hO hm => ?_
 obtain rfl := Option.some.inj hm
 exact zc Tryz.results253 hf (.tmp rfl (.tmp rfl .nil)) ⟨rfl, (hO.sub (.cons_cons _ (.cons _ (.cons _ .slnil))))⟩

theorem zll (x_p : commas_splitter) (R : Bool × commas_splitter) (w0 : World) (hG : zr w0) {x_p_b0 : Nat} {x_p_b1 : Nat} {x_p_p2 : Option Addr} {x_p_c2 : Nat} {F : List Nat} (hF : zq F) (hO : Dk.Own w0 F w0 [.blk x_p_b0 [ptr x_p_b1 0, .slice x_p_p2 x_p.f_out.length x_p_c2, int x_p.f_from, str x_p.f_s] 285, .blk x_p_b1 [str x_p.Scanner.f_s, int x_p.Scanner.f_at] 277, .row (.slice x_p_p2 x_p.f_out.length x_p_c2) 9 1 x_p.f_out.length (cells zf x_p.f_out)]) (hm : zaj x_p = some R) :
    Calls Tryz.prog 221 #[ptr x_p_b0 0] w0 fun e w' => ∃ (p0 : Option Addr) (c0 : Nat), e = .returned (.bool R.1) ∧ Dk.Own w0 F w' [.blk x_p_b0 [ptr x_p_b1 0, .slice p0 R.2.f_out.length c0, int R.2.f_from, str R.2.f_s] 285, .blk x_p_b1 [str R.2.Scanner.f_s, int R.2.Scanner.f_at] 277, .row (.slice p0 R.2.f_out.length c0) 9 1 R.2.f_out.length (cells zf R.2.f_out)] := by
 rw [zaj] at hm
 refine S.enter tb Tryz.func221 rfl Tryz.ntmps221 rfl ?_ hO hm
 refine ld 0 rfl rfl ?_
 refine cl zuN rfl (fun r2 w hr2 hO => zdr x_p.Scanner r2 _ (hG.own hF hO) (hO.blkSees (i := 1) rfl) hr2) fun r2 hr2 => ?_
 refine jv 0 [] [] (fun J E L => ∃ (p32 : Option Addr) (c33 : Nat) (l34 : List Str) (i35 : Int) (s36 : Str) (s37 : Str) (i38 : Int), J (E) (.blk x_p_b0 [ptr x_p_b1 0, .slice p32 l34.length c33, int i35, str s36] 285 :: .blk x_p_b1 [str s37, int i38] 277 :: .row (.slice p32 l34.length c33) 9 1 l34.length (cells zf l34) :: L) (zci l34 i35 s36 s37 i38)) rfl ?_ ?_
 refine ld 0 rfl rfl ?_
 refine cw0 zi9 [1, 0, 2] 1 [] rfl (fun r4 w hr4 hO hfar5 hlend5 => zv x_p.Scanner 44 r4 _ (hG.own hF hO) hfar5 hlend5 hr4) (fun _ _ => trivial) hF hG.size fun r4 hr4 => ?_
 refine br rfl (fun hc7 => ?_) fun hc7 => ?_
 refine cw2 c_222 [1, 0, 2] 3 [] rfl (fun r8 w hr8 hO hfar11 hlend11 => zhL (⟨r4.2, x_p.f_out, x_p.f_from, x_p.f_s⟩ : commas_splitter) r2 r8 _ (hG.own hF hO) hfar11 hlend11 hr8) (fun _ _ => trivial) hF hG.size fun r8 hr8 p9 c10 => ?_
 exact en rfl fun _ _ j => ⟨p9, c10, r8.f_out, r8.f_from, r8.f_s, r8.Scanner.f_s, r8.Scanner.f_at, j rfl⟩
 refine ld 1 rfl rfl ?_
 refine cw0 zi9 [0, 1, 2] 1 [] rfl (fun r12 w hr12 hO hfar13 hlend13 => zv r4.2 40 r12 _ (hG.own hF hO) hfar13 hlend13 hr12) (fun _ _ => trivial) hF hG.size fun r12 hr12 => ?_
 refine br rfl (fun hc15 => ?_) fun hc15 => ?_
 refine cw2 c_252 [1, 0, 2] 3 [] rfl (fun r16 w hr16 hO hfar19 hlend19 => zjZ (⟨r12.2, x_p.f_out, x_p.f_from, x_p.f_s⟩ : commas_splitter) r16 _ (hG.own hF hO) hfar19 hlend19 hr16) (fun _ _ => trivial) hF hG.size fun r16 hr16 p17 c18 => ?_
 refine re_ rfl fun a w hf hO hm => ?_
 obtain rfl := Option.some.inj hm
 exact zc Tryz.results221 hf (.tmp rfl .nil) ⟨p17, c18, rfl, hO⟩
 refine ld 1 rfl rfl ?_
 refine cl zq5 rfl (fun r21 w hr21 hO => zaN r12.2 r21 _ (hG.own hF hO) (hO.blkSees (i := 0) rfl) hr21) fun r21 hr21 => ?_
 refine vl rfl rfl (fun a w hf hO => zz (b := r21.1) (c := 34) hf rfl rfl) ?_
 refine br rfl (fun hc24 => ?_) fun hc24 => ?_
 refine ld 1 rfl rfl ?_
 refine cw0 c_253 [0, 1, 2] 1 [] rfl (fun r25 w hr25 hO hfar26 hlend26 => zse r12.2 r25 _ (hG.own hF hO) hfar26 hlend26 hr25) (fun _ _ => trivial) hF hG.size fun r25 hr25 => ?_
 refine re_ rfl fun a w hf hO hm => ?_
 obtain rfl := Option.some.inj hm
 exact zc Tryz.results221 hf (.tmp rfl .nil) ⟨x_p_p2, x_p_c2, rfl, (hO.choose [1, 0, 2] rfl)⟩
 refine ld 1 rfl rfl ?_
 refine cw0 zi9 [0, 1, 2] 1 [] rfl (fun r30 w hr30 hO hfar31 hlend31 => zv r12.2 r21.1 r30 _ (hG.own hF hO) hfar31 hlend31 hr30) (fun _ _ => trivial) hF hG.size fun r30 hr30 => ?_
 exact ec [1, 0, 2] rfl rfl rfl fun _ _ j => ⟨x_p_p2, x_p_c2, x_p.f_out, x_p.f_from, x_p.f_s, r30.2.f_s, r30.2.f_at, j rfl⟩
 rintro a w ⟨p32, c33, l34, i35, s36, s37, i38, hf, hO, hm⟩
 rw [zci] at hm
 refine S.co tb ?_ hf hO hm
 refine re_ rfl fun a w hf hO hm => ?_
 obtain rfl := Option.some.inj hm
 exact zc Tryz.results221 hf (.tmp rfl .nil) ⟨p32, c33, rfl, hO⟩

theorem zmj (x_s : Str) (R : List Str × Int) (w0 : World) (hG : zr w0) (hm : zfV x_s = some R) :
    Calls Tryz.prog 186 #[str x_s] w0 fun e w' => ∃ (p0 : Option Addr) (c0 : Nat), e = .returned (.tuple #[.slice p0 R.1.length c0, int R.2]) ∧ Dk.Own w0 [] w' [.row (.slice p0 R.1.length c0) 9 1 R.1.length (cells zf R.1)] := by
 rw [zfV] at hm
 have hF : zq [] := ze
 have hO : Dk.Own w0 [] w0 [] := Dk.Own.refl w0
 refine S.enter tb Tryz.func186 rfl Tryz.ntmps186 rfl ?_ hO hm
 refine nl 9 1 ?_
 refine cm1 zuL rfl (fun r2 w hr2 hO => zjS x_s r2 _ (hG.own hF hO) hr2) fun r2 hr2 b3 => ?_
 refine vl rfl rfl (fun a w hf hO => zg (vs := [(0, ptr b3 0), (3, str x_s)]) (v := .agg #[ptr b3 0, .slice none 0 0, int 0, str x_s]) hf rfl (by kernel_rfl)) ?_
 refine bo rfl fun b4 => ?_
 refine nl 9 1 ?_
 refine jv 0 [0, 4] [3] (fun J E L => ∃ (p24 : Option Addr) (c25 : Nat) (l26 : List Str) (i27 : Int) (s28 : Str) (s29 : Str) (i30 : Int), J (E) (.row (.slice p24 l26.length c25) 9 1 l26.length (cells zf l26) :: .blk b4 [ptr b3 0, .slice p24 l26.length c25, int i27, str s28] 285 :: .blk b3 [str s29, int i30] 277 :: L) (zgy x_s l26 i27 s28 s29 i30)) rfl ?_ ?_
 refine lv [0, 4] [3] (fun J E L k => ∃ (p6 : Option Addr) (c7 : Nat) (l8 : List Str) (i9 : Int) (s10 : Str) (s11 : Str) (i12 : Int), J (E) (.row (.slice p6 l8.length c7) 9 1 l8.length (cells zf l8) :: .blk b4 [ptr b3 0, .slice p6 l8.length c7, int i9, str s10] 285 :: .blk b3 [str s11, int i12] 277 :: L) (zbC x_s k l8 i9 s10 s11 i12)) rfl (fun _ _ j => ⟨none, 0, [], 0, x_s, r2.f_s, r2.f_at, j rfl⟩) ?_
 rintro n1 a w ⟨p6, c7, l8, i9, s10, s11, i12, hf, hO, hm⟩
 obtain _ | n1 := n1
 rw [zbC] at hm
 cases hm
 rw [zbC] at hm
 refine S.co tb ?_ hf hO hm
 refine ld 1 rfl rfl ?_
 refine cl zwL rfl (fun r13 w hr13 hO => zey (⟨s11, i12⟩ : scan_Scanner) r13 _ (hG.own hF hO) (hO.blkSees (i := 2) rfl) hr13) fun r13 hr13 => ?_
 refine br rfl (fun hc15 => ?_) fun hc15 => ?_
 refine cw2 c_221 [1, 2, 0, 3] 3 [] rfl (fun r17 w hr17 hO hfar20 hlend20 => zll ((⟨(⟨s11, i12⟩ : scan_Scanner), l8, i9, s10⟩ : commas_splitter)) r17 _ (hG.own hF hO) hfar20 hlend20 hr17) (fun _ _ => trivial) hF hG.size fun r17 hr17 p18 c19 => ?_
 refine br rfl (fun hc22 => ?_) fun hc22 => ?_
 refine nl 9 1 ?_
 refine re_ rfl fun a w hf hO hm => ?_
 obtain rfl := Option.some.inj hm
 exact zc Tryz.results186 hf (.tmp rfl (.tmp rfl .nil)) ⟨none, 0, rfl, (hO.sub (.cons_cons _ (.cons _ (.cons _ (.cons _ (.cons _ .slnil))))))⟩
 exact ec [2, 0, 1, 3] rfl rfl rfl fun _ _ j => ⟨_, Nat.lt_succ_self _, p18, c19, r17.2.f_out, r17.2.f_from, r17.2.f_s, r17.2.Scanner.f_s, r17.2.Scanner.f_at, j rfl⟩
 exact en rfl fun _ _ j => ⟨p6, c7, l8, i9, s10, s11, i12, j rfl⟩
 rintro a w ⟨p24, c25, l26, i27, s28, s29, i30, hf, hO, hm⟩
 rw [zgy] at hm
 refine S.co tb ?_ hf hO hm
 refine cw2 c_222 [1, 2, 0, 3] 3 [] rfl (fun r31 w hr31 hO hfar34 hlend34 => zhL ((⟨(⟨s29, i30⟩ : scan_Scanner), l26, i27, s28⟩ : commas_splitter)) (x_s.length : Int) r31 _ (hG.own hF hO) hfar34 hlend34 hr31) (fun _ _ => trivial) hF hG.size fun r31 hr31 p32 c33 => ?_
 refine ld 0 rfl rfl ?_
 refine re_ rfl fun a w hf hO hm => ?_
 obtain rfl := Option.some.inj hm
 exact zc Tryz.results186 hf (.tmp rfl (.tmp rfl .nil)) ⟨p32, c33, rfl, (hO.sub (.cons _ (.cons _ (.cons_cons _ (.cons _ .slnil)))))⟩

theorem znx (x_s : Str) (R : Bool) (w0 : World) (hG : zr w0) (hm : zgV x_s = some R) :
    Calls Tryz.prog 85 #[str x_s] w0 (Ret w0 (fun R => .bool R) R) := by
 rw [zgV] at hm
 have hF : zq [] := ze
 have hO : Dk.Own w0 [] w0 [] := Dk.Own.refl w0
 refine S.enter tb Tryz.func85 rfl Tryz.ntmps85 rfl ?_ hO hm
 refine jv 0 [] [] (fun J E L => ∃ (t5 : Bool), J ((2, .bool t5) :: E) (L) (zfi t5)) rfl ?_ ?_
 refine br rfl (fun hc2 => ?_) fun hc2 => ?_
 refine rw_ rfl fun a w hf hO hm => ?_
 refine zt (vs := [(0, str x_s)]) (cs := [str x_s]) (e := 9) (sz := 1) hf rfl rfl (fun w => by kernel_rfl) rfl rfl hO fun a b3 w hf hO => ?_
 refine S.op tb ?_ hf hO hm
 refine kn (b' := true) hc2 rfl ?_
 refine cl ztu rfl (fun r4 w hr4 hO => zdt zcF ([x_s] : List Str) r4 _ (hG.own hF hO) c_122 (fun y0 r w hG h => zhT (zl1 y0 r w hG h)) (hO.rowSees (i := 0) rfl) (hO.rowCap (i := 0) rfl) hr4) fun r4 hr4 => ?_
 exact ec [] rfl rfl rfl fun _ _ j => ⟨r4, j rfl⟩
 exact en rfl fun _ _ j => ⟨false, j rfl⟩
 rintro a w ⟨t5, hf, hO, hm⟩
 rw [zfi] at hm
 refine S.co tb ?_ hf hO hm
 exact rt Tryz.results85 rfl

theorem zqq (x_l : List Str) (R : List Str × Int) (w0 : World) (hG : zr w0) {x_l_p0 : Option Addr} {x_l_c0 : Nat} (hs0 : zC w0 x_l_p0 (cells zf x_l)) (hc0 : x_l.length ≤ x_l_c0) (hm : zgn x_l = some R) :
    Calls Tryz.prog 185 #[.slice x_l_p0 x_l.length x_l_c0] w0 fun e w' => ∃ (p0 : Option Addr) (c0 : Nat), e = .returned (.tuple #[.slice p0 R.1.length c0, int R.2]) ∧ Dk.Own w0 [] w' [.row (.slice p0 R.1.length c0) 9 1 R.1.length (cells zf R.1)] := by
 rw [zgn] at hm
 have hF : zq [] := ze
 have hO : Dk.Own w0 [] w0 [] := Dk.Own.refl w0
 have hO := hO.addShr hs0 (by simp [Res.shared])
 refine S.enter tb Tryz.func185 rfl Tryz.ntmps185 rfl ?_ hO hm
 refine nl 9 1 ?_
 refine nl 9 1 ?_
 refine lv [11, 12] [1, 2] (fun J E L k => ∃ (p4 : Option Addr) (c5 : Nat) (l6 : List Str) (i7 : Int), J ((4, .slice p4 l6.length c5) :: (13, int i7) :: E) (.row (.slice p4 l6.length c5) 9 1 l6.length (cells zf l6) :: L) (zbf x_l k l6 i7)) rfl (fun _ _ j => ⟨none, 0, [], 0, j rfl⟩) ?_
 rintro n1 a w ⟨p4, c5, l6, i7, hf, hO, hm⟩
 obtain _ | n1 := n1
 rw [zbf] at hm
 cases hm
 rw [zbf] at hm
 refine S.co tb ?_ hf hO hm
 refine br rfl (fun hc9 => ?_) fun hc9 => ?_
 refine rw_ rfl fun a w hf hO hm => ?_
 obtain ⟨x11, hx11, hm⟩ := ob hm
 obtain ⟨b12, o13, hix11, hSx11⟩ := zbL (enc := zf) (sz := 1) (xs := x_l) 30 Tryz.underlying30 zdD (by decide) (fun _ => rfl) (hO.sees (i := 2) rfl) hx11
 refine zG (zh hix11 hf rfl rfl) rfl hf rfl rfl fun a hf => ?_
 refine S.op tb ?_ hf hO hm
 refine vl rfl rfl (fun a w hf hO => zk (o := 0) zbx (hSx11 _ (hO.sees (i := 2) rfl)) rfl hf rfl) ?_
 refine cm2 c_186 rfl (fun r15 w hr15 hO => zmj x11 r15 _ (hG.own hF hO) hr15) fun r15 hr15 p16 c17 => ?_
 refine br rfl (fun hc20 => ?_) fun hc20 => ?_
 refine nl 9 1 ?_
 refine re_ rfl fun a w hf hO hm => ?_
 obtain rfl := Option.some.inj hm
 exact zc Tryz.results185 hf (.tmp rfl (.tmp rfl .nil)) ⟨none, 0, rfl, (hO.sub (.cons_cons _ (.cons _ (.cons _ (.cons _ (.cons _ .slnil))))))⟩
 refine lv [4, 7, 11, 12, 13, 25, 26] [0, 1, 2, 3] (fun J E L k => ∃ (i24 : Int), J ((27, int i24) :: E) (L) (zbe (zbf x_l n1) l6 i7 r15 k i24)) rfl (fun _ _ j => ⟨0, j rfl⟩) ?_
 rintro n2 a w ⟨i24, hf, hO, hm⟩
 obtain _ | n2 := n2
 rw [zbe] at hm
 cases hm
 rw [zbe] at hm
 refine S.co tb ?_ hf hO hm
 refine br rfl (fun hc26 => ?_) fun hc26 => ?_
 refine rw_ rfl fun a w hf hO hm => ?_
 obtain ⟨x28, hx28, hm⟩ := ob hm
 obtain ⟨b29, o30, hix28, hSx28, hAx28⟩ := zE (enc := zf) (sz := 1) (xs := r15.1) 30 Tryz.underlying30 zdD (by decide) (fun _ => rfl) hO (i := 0) rfl hx28
 refine zG (zh hix28 hf rfl rfl) rfl hf rfl rfl fun a hf => ?_
 refine S.op tb ?_ hf hO hm
 refine vl rfl rfl (fun a w hf hO => zk (o := 0) zbx (hSx28 _ (hO.rowSees (i := 0) rfl)) rfl hf rfl) ?_
 refine cl c_85 rfl (fun r32 w hr32 hO => znx x28 r32 _ (hG.own hF hO) hr32) fun r32 hr32 => ?_
 refine br rfl (fun hc34 => ?_) fun hc34 => ?_
 refine nl 9 1 ?_
 refine re_ rfl fun a w hf hO hm => ?_
 obtain rfl := Option.some.inj hm
 exact zc Tryz.results185 hf (.tmp rfl (.tmp rfl .nil)) ⟨none, 0, rfl, (hO.sub (.cons_cons _ (.cons _ (.cons _ (.cons _ (.cons _ .slnil))))))⟩
 refine bi rfl fun i37 hi37 => ?_
 exact en rfl fun _ _ j => ⟨_, Nat.lt_succ_self _, i37, j rfl⟩
 refine rw_ rfl fun a w hf hO hm => ?_
 obtain ⟨hg41, hm⟩ := og hm
 refine zlu zjy (enc := zf) (xs := l6) (ys := r15.1) (i := 1) (fun _ => rfl) rfl (hO.rowSees (i := 0) rfl) (by simp [zf, Value.oneCell']) hg41 hf rfl rfl rfl hO fun a p39 c40 w hf hO => ?_
 refine S.op tb ?_ hf hO hm
 refine bi rfl fun i43 hi43 => ?_
 exact ec [1, 2, 3] rfl rfl rfl fun _ _ j => ⟨_, Nat.lt_succ_self _, p39, c40, l6 ++ r15.1, i43, j rfl⟩
 refine re_ rfl fun a w hf hO hm => ?_
 obtain rfl := Option.some.inj hm
 exact zc Tryz.results185 hf (.tmp rfl (.tmp rfl .nil)) ⟨p4, c5, rfl, (hO.sub (.cons_cons _ (.cons _ (.cons _ .slnil))))⟩

theorem zlm (x_r : length_reader) (x_l : List Str) (R : api_Frame × Int) (w0 : World) (hG : zr w0) {x_r_b0 : Nat} {x_r_p1 : Option Addr} {x_r_c1 : Nat} (hs0 : zC w0 (some ⟨x_r_b0, 0, none⟩) [.slice x_r_p1 x_r.Bag.f_l.length x_r_c1]) (hs1 : zC w0 x_r_p1 (cells za x_r.Bag.f_l)) (hc1 : x_r.Bag.f_l.length ≤ x_r_c1) {x_l_p2 : Option Addr} {x_l_c2 : Nat} (hs2 : zC w0 x_l_p2 (cells zf x_l)) (hc2 : x_l.length ≤ x_l_c2) (hm : zb4 x_r x_l = some R) :
    Calls Tryz.prog 135 #[.agg #[ptr x_r_b0 0, int x_r.f_minor], .slice x_l_p2 x_l.length x_l_c2] w0 (Ret w0 (fun R => .tuple #[.agg #[int R.1.Kind, int R.1.N], int R.2]) R) := by
 rw [zb4] at hm
 have hF : zq [] := ze
 have hO : Dk.Own w0 [] w0 [] := Dk.Own.refl w0
 have hO := hO.addShr hs0 (by simp [Res.shared])
 have hO := hO.addShr hs1 (by simp [Res.shared])
 have hO := hO.addShr hs2 (by simp [Res.shared])
 refine S.enter tb Tryz.func135 rfl Tryz.ntmps135 rfl ?_ hO hm
 refine bo rfl fun b1 => ?_
 refine al zlQ rfl fun b2 => ?_
 refine cm2 c_185 rfl (fun r4 w hr4 hO => zqq x_l r4 _ (hG.own hF hO) (hO.sees (i := 2) rfl) hc2 hr4) fun r4 hr4 p5 c6 => ?_
 refine jv 1 [4] [0, 1, 2, 3, 4, 5] (fun J E L => ∃ (t15 : Bool), J ((31, .bool t15) :: E) (L) (zae t15)) rfl ?_ ?_
 refine br rfl (fun hc8 => ?_) fun hc8 => ?_
 exact en rfl fun _ _ j => ⟨true, j rfl⟩
 refine ld 2 rfl rfl ?_
 refine br rfl (fun hc9 => ?_) fun hc9 => ?_
 exact en rfl fun _ _ j => ⟨true, j rfl⟩
 refine br rfl (fun hc10 => ?_) fun hc10 => ?_
 exact en rfl fun _ _ j => ⟨true, j rfl⟩
 refine rw_ rfl fun a w hf hO hm => ?_
 obtain ⟨x11, hx11, hm⟩ := ob hm
 obtain ⟨b12, o13, hix11, hSx11, hAx11⟩ := zE (enc := zf) (sz := 1) (xs := r4.1) 30 Tryz.underlying30 zdD (by decide) (fun _ => rfl) hO (i := 0) rfl hx11
 refine zG (zh hix11 hf rfl rfl) rfl hf rfl rfl fun a hf => ?_
 refine S.op tb ?_ hf hO hm
 refine kn (b' := false) hc10 rfl ?_
 refine vl rfl rfl (fun a w hf hO => zk (o := 0) zbx (hSx11 _ (hO.rowSees (i := 0) rfl)) rfl hf rfl) ?_
 refine cl c_182 rfl (fun r14 w hr14 hO => zoV x11 [99, 104, 117, 110, 107, 101, 100] r14 _ (hG.own hF hO) hr14) fun r14 hr14 => ?_
 exact en rfl fun _ _ j => ⟨!r14, j rfl⟩
 rintro a w ⟨t15, hf, hO, hm⟩
 rw [zae] at hm
 refine S.co tb ?_ hf hO hm
 refine br rfl (fun hc16 => ?_) fun hc16 => ?_
 refine vl rfl rfl (fun a w hf hO => zg (vs := []) (v := .agg #[int 0, int 0]) hf rfl (by kernel_rfl)) ?_
 refine st 1 rfl rfl ?_
 refine re_ rfl fun a w hf hO hm => ?_
 obtain rfl := Option.some.inj hm
 exact zc Tryz.results135 hf (.cell rfl (zd (n := 2) (vs := [int 0, int 0]) zdc zdd rfl ((hO.blkSees (i := 1) rfl).cells (o := 0) (n := 2) rfl)) (.tmp rfl .nil)) ⟨rfl, hO.below⟩
 refine vl rfl rfl (fun a w hf hO => zg (vs := [(0, int 3)]) (v := .agg #[int 3, int 0]) hf rfl (by kernel_rfl)) ?_
 refine st 1 rfl rfl ?_
 refine re_ rfl fun a w hf hO hm => ?_
 obtain rfl := Option.some.inj hm
 exact zc Tryz.results135 hf (.cell rfl (zd (n := 2) (vs := [int 3, int 0]) zdc zdd rfl ((hO.blkSees (i := 1) rfl).cells (o := 0) (n := 2) rfl)) (.tmp rfl .nil)) ⟨rfl, hO.below⟩

theorem zkQ (x_r : length_reader) (x_l : List Str) (R : api_Frame × Int) (w0 : World) (hG : zr w0) {x_r_b0 : Nat} {x_r_p1 : Option Addr} {x_r_c1 : Nat} (hs0 : zC w0 (some ⟨x_r_b0, 0, none⟩) [.slice x_r_p1 x_r.Bag.f_l.length x_r_c1]) (hs1 : zC w0 x_r_p1 (cells za x_r.Bag.f_l)) (hc1 : x_r.Bag.f_l.length ≤ x_r_c1) {x_l_p2 : Option Addr} {x_l_c2 : Nat} (hs2 : zC w0 x_l_p2 (cells zf x_l)) (hc2 : x_l.length ≤ x_l_c2) (hm : zbK x_r x_l = some R) :
    Calls Tryz.prog 136 #[.agg #[ptr x_r_b0 0, int x_r.f_minor], .slice x_l_p2 x_l.length x_l_c2] w0 (Ret w0 (fun R => .tuple #[.agg #[int R.1.Kind, int R.1.N], int R.2]) R) := by
 rw [zbK] at hm
 have hF : zq [] := ze
 have hO : Dk.Own w0 [] w0 [] := Dk.Own.refl w0
 have hO := hO.addShr hs0 (by simp [Res.shared])
 have hO := hO.addShr hs1 (by simp [Res.shared])
 have hO := hO.addShr hs2 (by simp [Res.shared])
 refine S.enter tb Tryz.func136 rfl Tryz.ntmps136 rfl ?_ hO hm
 refine bo rfl fun b1 => ?_
 refine al zlQ rfl fun b2 => ?_
 refine lv [4, 15, 16] [0, 1, 2, 3, 4] (fun J E L k => ∃ (i6 : Int) (i7 : Int), J ((6, int i6) :: (17, int i7) :: E) (L) (zK x_l k i6 i7)) rfl (fun _ _ j => ⟨(-1), 0, j rfl⟩) ?_
 rintro n1 a w ⟨i6, i7, hf, hO, hm⟩
 obtain _ | n1 := n1
 rw [zK] at hm
 cases hm
 rw [zK] at hm
 refine S.co tb ?_ hf hO hm
 refine br rfl (fun hc9 => ?_) fun hc9 => ?_
 refine rw_ rfl fun a w hf hO hm => ?_
 obtain ⟨x11, hx11, hm⟩ := ob hm
 obtain ⟨b12, o13, hix11, hSx11⟩ := zbL (enc := zf) (sz := 1) (xs := x_l) 30 Tryz.underlying30 zdD (by decide) (fun _ => rfl) (hO.sees (i := 2) rfl) hx11
 refine zG (zh hix11 hf rfl rfl) rfl hf rfl rfl fun a hf => ?_
 refine S.op tb ?_ hf hO hm
 refine vl rfl rfl (fun a w hf hO => zk (o := 0) zbx (hSx11 _ (hO.sees (i := 2) rfl)) rfl hf rfl) ?_
 refine cm2 c_186 rfl (fun r15 w hr15 hO => zmj x11 r15 _ (hG.own hF hO) hr15) fun r15 hr15 p16 c17 => ?_
 refine br rfl (fun hc20 => ?_) fun hc20 => ?_
 refine vl rfl rfl (fun a w hf hO => zg (vs := []) (v := .agg #[int 0, int 0]) hf rfl (by kernel_rfl)) ?_
 refine st 1 rfl rfl ?_
 refine re_ rfl fun a w hf hO hm => ?_
 obtain rfl := Option.some.inj hm
 exact zc Tryz.results136 hf (.cell rfl (zd (n := 2) (vs := [int 0, int 0]) zdc zdd rfl ((hO.blkSees (i := 1) rfl).cells (o := 0) (n := 2) rfl)) (.tmp rfl .nil)) ⟨rfl, hO.below⟩
 refine lv [4, 15, 16, 17, 29, 30] [0, 1, 2, 3, 4, 5] (fun J E L k => ∃ (i24 : Int) (i25 : Int), J ((6, int i24) :: (31, int i25) :: E) (L) (zw (zK x_l n1) i7 r15 k i24 i25)) rfl (fun _ _ j => ⟨i6, 0, j rfl⟩) ?_
 rintro n2 a w ⟨i24, i25, hf, hO, hm⟩
 obtain _ | n2 := n2
 rw [zw] at hm
 cases hm
 rw [zw] at hm
 refine S.co tb ?_ hf hO hm
 refine br rfl (fun hc27 => ?_) fun hc27 => ?_
 refine rw_ rfl fun a w hf hO hm => ?_
 obtain ⟨x29, hx29, hm⟩ := ob hm
 obtain ⟨b30, o31, hix29, hSx29, hAx29⟩ := zE (enc := zf) (sz := 1) (xs := r15.1) 30 Tryz.underlying30 zdD (by decide) (fun _ => rfl) hO (i := 0) rfl hx29
 refine zG (zh hix29 hf rfl rfl) rfl hf rfl rfl fun a hf => ?_
 refine S.op tb ?_ hf hO hm
 refine vl rfl rfl (fun a w hf hO => zk (o := 0) zbx (hSx29 _ (hO.rowSees (i := 0) rfl)) rfl hf rfl) ?_
 refine cl zwN rfl (fun r33 w hr33 hO => ze6 x29 1099511627776 r33 _ (hG.own hF hO) hr33) fun r33 hr33 => ?_
 refine jv 10 [4, 13, 15, 16, 17, 29, 30, 31] [0, 1, 2, 3, 4, 5] (fun J E L => ∃ (t37 : Bool), J ((50, .bool t37) :: E) (L) (z7 (zw (zK x_l n1) i7 r15 n2) i25 r33 t37)) rfl ?_ ?_
 refine br rfl (fun hc35 => ?_) fun hc35 => ?_
 exact en rfl fun _ _ j => ⟨true, j rfl⟩
 refine br rfl (fun hc36 => ?_) fun hc36 => ?_
 exact en rfl fun _ _ j => ⟨!(r33.1 == i24), j rfl⟩
 exact en rfl fun _ _ j => ⟨false, j rfl⟩
 rintro a w ⟨t37, hf, hO, hm⟩
 rw [z7] at hm
 refine S.co tb ?_ hf hO hm
 refine br rfl (fun hc38 => ?_) fun hc38 => ?_
 refine vl rfl rfl (fun a w hf hO => zg (vs := []) (v := .agg #[int 0, int 0]) hf rfl (by kernel_rfl)) ?_
 refine st 1 rfl rfl ?_
 refine re_ rfl fun a w hf hO hm => ?_
 obtain rfl := Option.some.inj hm
 exact zc Tryz.results136 hf (.cell rfl (zd (n := 2) (vs := [int 0, int 0]) zdc zdd rfl ((hO.blkSees (i := 1) rfl).cells (o := 0) (n := 2) rfl)) (.tmp rfl .nil)) ⟨rfl, hO.below⟩
 refine bi rfl fun i42 hi42 => ?_
 exact en rfl fun _ _ j => ⟨_, Nat.lt_succ_self _, r33.1, i42, j rfl⟩
 refine bi rfl fun i44 hi44 => ?_
 exact ec [1, 2, 3, 4, 5] rfl rfl rfl fun _ _ j => ⟨_, Nat.lt_succ_self _, i24, i44, j rfl⟩
 refine br rfl (fun hc47 => ?_) fun hc47 => ?_
 refine vl rfl rfl (fun a w hf hO => zg (vs := []) (v := .agg #[int 0, int 0]) hf rfl (by kernel_rfl)) ?_
 refine st 0 rfl rfl ?_
 refine re_ rfl fun a w hf hO hm => ?_
 obtain rfl := Option.some.inj hm
 exact zc Tryz.results136 hf (.cell rfl (zd (n := 2) (vs := [int 0, int 0]) zdc zdd rfl ((hO.blkSees (i := 0) rfl).cells (o := 0) (n := 2) rfl)) (.tmp rfl .nil)) ⟨rfl, hO.below⟩
 refine vl rfl rfl (fun a w hf hO => zg (vs := [(0, int 2), (1, int i6)]) (v := .agg #[int 2, int i6]) hf rfl (by kernel_rfl)) ?_
 refine st 0 rfl rfl ?_
 refine re_ rfl fun a w hf hO hm => ?_
 obtain rfl := Option.some.inj hm
 exact zc Tryz.results136 hf (.cell rfl (zd (n := 2) (vs := [int 2, int i6]) zdc zdd rfl ((hO.blkSees (i := 0) rfl).cells (o := 0) (n := 2) rfl)) (.tmp rfl .nil)) ⟨rfl, hO.below⟩

end Go.Proofs
end
section
set_option linter.unusedVariables false
set_option maxHeartbeats 1000000
set_option linter.unusedSimpArgs false
set_option maxRecDepth 100000
namespace Go.Proofs
open Go.Dk Go.Dm Go.RowKit

theorem zqg (x_h : api_Head) (x_none : Int) (R : api_Frame × Int) (w0 : World) (hG : zr w0) {x_h_p0 : Option Addr} {x_h_c0 : Nat} (hs0 : zC w0 x_h_p0 (cells za x_h.Fields)) (hc0 : x_h.Fields.length ≤ x_h_c0) (hm : zjp x_h x_none = some R) :
    Calls Tryz.prog 90 #[.agg #[int x_h.Kind, str x_h.Method, str x_h.Target, int x_h.Code, str x_h.Reason, int x_h.Minor, .slice x_h_p0 x_h.Fields.length x_h_c0], int x_none] w0 (Ret w0 (fun R => .tuple #[.agg #[int R.1.Kind, int R.1.N], int R.2]) R) := by
 rw [zjp] at hm
 have hF : zq [] := ze
 have hO : Dk.Own w0 [] w0 [] := Dk.Own.refl w0
 have hO := hO.addShr hs0 (by simp [Res.shared])
 refine S.enter tb Tryz.func90 rfl Tryz.ntmps90 rfl ?_ hO hm
 refine bo rfl fun b1 => ?_
 refine al zlQ rfl fun b2 => ?_
 refine rc_ rfl fun a w hf hO hm => ?_
 obtain ⟨r4, hr4, hm⟩ := ob hm
 refine zw5 (S := Nat × Option Addr × Nat × Nat) (E0 := [(1, int x_none), (2, ptr b1 0), (4, ptr b2 0)]) (by kernel_rfl) (fun bs σ w => match bs with | [false, false, false] => Dk.Own w0 [] w [.blk b2 [int 0, int 0] 38, .blk b1 [int x_h.Kind, str x_h.Method, str x_h.Target, int x_h.Code, str x_h.Reason, int x_h.Minor, .slice x_h_p0 x_h.Fields.length x_h_c0] 35, .shr x_h_p0 (cells za x_h.Fields)] | [true, false, false] => Dk.Own w0 [] w [.blk (σ.1) [.slice (σ.2.1) r4.f_l.length (σ.2.2.1)] 263, .row (.slice (σ.2.1) r4.f_l.length (σ.2.2.1)) 110 2 r4.f_l.length (cells za r4.f_l), .blk b2 [int 0, int 0] 38, .blk b1 [int x_h.Kind, str x_h.Method, str x_h.Target, int x_h.Code, str x_h.Reason, int x_h.Minor, .slice x_h_p0 x_h.Fields.length x_h_c0] 35, .shr x_h_p0 (cells za x_h.Fields)] | [false, true, false] => Dk.Own w0 [] w [.blk (σ.2.2.2) [.pointer none, int 0] 217, .blk b2 [int 0, int 0] 38, .blk b1 [int x_h.Kind, str x_h.Method, str x_h.Target, int x_h.Code, str x_h.Reason, int x_h.Minor, .slice x_h_p0 x_h.Fields.length x_h_c0] 35, .shr x_h_p0 (cells za x_h.Fields)] | [true, true, false] => Dk.Own w0 [] w [.blk (σ.2.2.2) [.pointer none, int 0] 217, .blk (σ.1) [.slice (σ.2.1) r4.f_l.length (σ.2.2.1)] 263, .row (.slice (σ.2.1) r4.f_l.length (σ.2.2.1)) 110 2 r4.f_l.length (cells za r4.f_l), .blk b2 [int 0, int 0] 38, .blk b1 [int x_h.Kind, str x_h.Method, str x_h.Target, int x_h.Code, str x_h.Reason, int x_h.Minor, .slice x_h_p0 x_h.Fields.length x_h_c0] 35, .shr x_h_p0 (cells za x_h.Fields)] | [true, true, true] => Dk.Own w0 [] w [.blk (σ.2.2.2) [ptr (σ.1) 0, int x_h.Minor] 217, .blk (σ.1) [.slice (σ.2.1) r4.f_l.length (σ.2.2.1)] 263, .row (.slice (σ.2.1) r4.f_l.length (σ.2.2.1)) 110 2 r4.f_l.length (cells za r4.f_l), .blk b2 [int 0, int 0] 38, .blk b1 [int x_h.Kind, str x_h.Method, str x_h.Target, int x_h.Code, str x_h.Reason, int x_h.Minor, .slice x_h_p0 x_h.Fields.length x_h_c0] 35, .shr x_h_p0 (cells za x_h.Fields)] | _ => False) (fun σ => [⟨[(2, ptr b1 0)], some (9, ptr b1 6)⟩, ⟨[(9, ptr b1 6)], some (10, .slice x_h_p0 x_h.Fields.length x_h_c0)⟩, ⟨[(10, .slice x_h_p0 x_h.Fields.length x_h_c0)], some (11, ptr (σ.1) 0)⟩, ⟨[(2, ptr b1 0)], some (12, ptr b1 5)⟩, ⟨[(12, ptr b1 5)], some (13, int x_h.Minor)⟩, ⟨[(11, ptr (σ.1) 0), (13, int x_h.Minor)], some (14, .agg #[ptr (σ.1) 0, int x_h.Minor])⟩, ⟨[], some (6, ptr (σ.2.2.2) 0)⟩, ⟨[(6, ptr (σ.2.2.2) 0), (14, .agg #[ptr (σ.1) 0, int x_h.Minor])], none⟩]) (0, none, 0, 0) [2, 6, 7] rfl (fun _ => rfl) (fun _ => rfl) (fun _ => rfl) rfl (by decide) rfl hO.drew (hf.cons rfl (hf.cons rfl (hf.cons rfl hf.nil))) (fun σ => ⟨⟨rfl, trivial⟩, ⟨rfl, trivial⟩, ⟨rfl, trivial⟩, ⟨rfl, trivial⟩, ⟨rfl, trivial⟩, ⟨rfl, rfl, trivial⟩, trivial, ⟨rfl, rfl, trivial⟩, trivial⟩) ⟨zoq rfl (fun σ => rfl) (fun σ => rfl) (fun σ a w bs hlen hok hst hf => match bs, hlen, hok, hst with | [false, false, false], _, hok, hst => zX ztt hf rfl | [true, false, false], _, hok, hst => absurd hok (by rw [show okI _ _ _ _ = false from by kernel_rfl]; decide) | [false, true, false], _, hok, hst => zX ztt hf rfl | [true, true, false], _, hok, hst => absurd hok (by rw [show okI _ _ _ _ = false from by kernel_rfl]; decide) | [true, true, true], _, hok, hst => absurd hok (by rw [show okI _ _ _ _ = false from by kernel_rfl]; decide) | [false, false, true], _, _, hst => (show False from hst).elim | [true, false, true], _, _, hst => (show False from hst).elim | [false, true, true], _, _, hst => (show False from hst).elim | [], hlen, _, _ => absurd hlen (by simp) | [_], hlen, _, _ => absurd hlen (by simp) | [_, _], hlen, _, _ => absurd hlen (by simp) | _ :: _ :: _ :: _ :: _, hlen, _, _ => absurd hlen (by simp) ), zoq rfl (fun σ => rfl) (fun σ => rfl) (fun σ a w bs hlen hok hst hf => match bs, hlen, hok, hst with | [false, false, false], _, hok, hst => have hO : Dk.Own w0 [] w _ := hst; zk (o := 6) zyb (hO.blkSees (i := 1) rfl) rfl hf rfl | [true, false, false], _, hok, hst => absurd hok (by rw [show okI _ _ _ _ = false from by kernel_rfl]; decide) | [false, true, false], _, hok, hst => have hO : Dk.Own w0 [] w _ := hst; zk (o := 6) zyb (hO.blkSees (i := 2) rfl) rfl hf rfl | [true, true, false], _, hok, hst => absurd hok (by rw [show okI _ _ _ _ = false from by kernel_rfl]; decide) | [true, true, true], _, hok, hst => absurd hok (by rw [show okI _ _ _ _ = false from by kernel_rfl]; decide) | [false, false, true], _, _, hst => (show False from hst).elim | [true, false, true], _, _, hst => (show False from hst).elim | [false, true, true], _, _, hst => (show False from hst).elim | [], hlen, _, _ => absurd hlen (by simp) | [_], hlen, _, _ => absurd hlen (by simp) | [_, _], hlen, _, _ => absurd hlen (by simp) | _ :: _ :: _ :: _ :: _, hlen, _, _ => absurd hlen (by simp) ), zzQ rfl (fun σ => rfl) (fun σ => rfl) rfl (fun σ a w hf => zak c_132 hf (vs := [.slice x_h_p0 x_h.Fields.length x_h_c0]) rfl) (fun σ w bs hlen hok hst => match bs, hlen, hok, hst with | [false, false, false], _, hok, hst => have hO : Dk.Own w0 [] w _ := hst; (zpD x_h.Fields r4 _ (hG.own hF hO) (hO.sees (i := 2) rfl) hc0 hr4).mono fun e w' h => by obtain ⟨b5, p6, c7, he, hO'⟩ := h; exact ⟨(b5, p6, c7, (σ.2.2.2)), he, hO.call hO' (by simp [Res.shared]), .inr rfl, .inr rfl, .inl rfl, .inr rfl, .inr rfl, .inl rfl, .inr rfl, .inl rfl, trivial⟩ | [true, false, false], _, hok, hst => absurd hok (by rw [show okI _ _ _ _ = false from by kernel_rfl]; decide) | [false, true, false], _, hok, hst => have hO : Dk.Own w0 [] w _ := hst; (zpD x_h.Fields r4 _ (hG.own hF hO) (hO.sees (i := 3) rfl) hc0 hr4).mono fun e w' h => by obtain ⟨b5, p6, c7, he, hO'⟩ := h; exact ⟨(b5, p6, c7, (σ.2.2.2)), he, (hO.call hO' (by simp [Res.shared])).choose [2, 0, 1, 3, 4, 5] rfl, .inr rfl, .inr rfl, .inl rfl, .inr rfl, .inr rfl, .inl rfl, .inr rfl, .inl rfl, trivial⟩ | [true, true, false], _, hok, hst => absurd hok (by rw [show okI _ _ _ _ = false from by kernel_rfl]; decide) | [true, true, true], _, hok, hst => absurd hok (by rw [show okI _ _ _ _ = false from by kernel_rfl]; decide) | [false, false, true], _, _, hst => (show False from hst).elim | [true, false, true], _, _, hst => (show False from hst).elim | [false, true, true], _, _, hst => (show False from hst).elim | [], hlen, _, _ => absurd hlen (by simp) | [_], hlen, _, _ => absurd hlen (by simp) | [_, _], hlen, _, _ => absurd hlen (by simp) | _ :: _ :: _ :: _ :: _, hlen, _, _ => absurd hlen (by simp) ), zoq rfl (fun σ => rfl) (fun σ => rfl) (fun σ a w bs hlen hok hst hf => match bs, hlen, hok, hst with | [false, false, false], _, hok, hst => zX zoG hf rfl | [true, false, false], _, hok, hst => zX zoG hf rfl | [false, true, false], _, hok, hst => zX zoG hf rfl | [true, true, false], _, hok, hst => zX zoG hf rfl | [true, true, true], _, hok, hst => absurd hok (by rw [show okI _ _ _ _ = false from by kernel_rfl]; decide) | [false, false, true], _, _, hst => (show False from hst).elim | [true, false, true], _, _, hst => (show False from hst).elim | [false, true, true], _, _, hst => (show False from hst).elim | [], hlen, _, _ => absurd hlen (by simp) | [_], hlen, _, _ => absurd hlen (by simp) | [_, _], hlen, _, _ => absurd hlen (by simp) | _ :: _ :: _ :: _ :: _, hlen, _, _ => absurd hlen (by simp) ), zoq rfl (fun σ => rfl) (fun σ => rfl) (fun σ a w bs hlen hok hst hf => match bs, hlen, hok, hst with | [false, false, false], _, hok, hst => have hO : Dk.Own w0 [] w _ := hst; zk (o := 5) znm (hO.blkSees (i := 1) rfl) rfl hf rfl | [true, false, false], _, hok, hst => have hO : Dk.Own w0 [] w _ := hst; zk (o := 5) znm (hO.blkSees (i := 3) rfl) rfl hf rfl | [false, true, false], _, hok, hst => have hO : Dk.Own w0 [] w _ := hst; zk (o := 5) znm (hO.blkSees (i := 2) rfl) rfl hf rfl | [true, true, false], _, hok, hst => have hO : Dk.Own w0 [] w _ := hst; zk (o := 5) znm (hO.blkSees (i := 4) rfl) rfl hf rfl | [true, true, true], _, hok, hst => absurd hok (by rw [show okI _ _ _ _ = false from by kernel_rfl]; decide) | [false, false, true], _, _, hst => (show False from hst).elim | [true, false, true], _, _, hst => (show False from hst).elim | [false, true, true], _, _, hst => (show False from hst).elim | [], hlen, _, _ => absurd hlen (by simp) | [_], hlen, _, _ => absurd hlen (by simp) | [_, _], hlen, _, _ => absurd hlen (by simp) | _ :: _ :: _ :: _ :: _, hlen, _, _ => absurd hlen (by simp) ), zoq rfl (fun σ => rfl) (fun σ => rfl) (fun σ a w bs hlen hok hst hf => match bs, hlen, hok, hst with | [false, false, false], _, hok, hst => absurd hok (by rw [show okI _ _ _ _ = false from by kernel_rfl]; decide) | [true, false, false], _, hok, hst => zg (vs := [(0, ptr (σ.1) 0), (1, int x_h.Minor)]) (v := .agg #[ptr (σ.1) 0, int x_h.Minor]) hf rfl (by kernel_rfl) | [false, true, false], _, hok, hst => absurd hok (by rw [show okI _ _ _ _ = false from by kernel_rfl]; decide) | [true, true, false], _, hok, hst => zg (vs := [(0, ptr (σ.1) 0), (1, int x_h.Minor)]) (v := .agg #[ptr (σ.1) 0, int x_h.Minor]) hf rfl (by kernel_rfl) | [true, true, true], _, hok, hst => absurd hok (by rw [show okI _ _ _ _ = false from by kernel_rfl]; decide) | [false, false, true], _, _, hst => (show False from hst).elim | [true, false, true], _, _, hst => (show False from hst).elim | [false, true, true], _, _, hst => (show False from hst).elim | [], hlen, _, _ => absurd hlen (by simp) | [_], hlen, _, _ => absurd hlen (by simp) | [_, _], hlen, _, _ => absurd hlen (by simp) | _ :: _ :: _ :: _ :: _, hlen, _, _ => absurd hlen (by simp) ), sU_val rfl (fun σ => rfl) (fun σ => rfl) rfl (fun σ w bs hlen hok hst => match bs, hlen, hok, hst with | [false, false, false], _, hok, hst => have hO : Dk.Own w0 [] w _ := hst; by obtain ⟨b8, w', hO', hr⟩ := zrV (E := []) zyc hO; exact ⟨((σ.1), (σ.2.1), (σ.2.2.1), b8), w', hO', ⟨.inr rfl, .inr rfl, .inr rfl, .inr rfl, .inr rfl, .inr rfl, .inl rfl, .inl rfl, trivial⟩, hr⟩ | [true, false, false], _, hok, hst => have hO : Dk.Own w0 [] w _ := hst; by obtain ⟨b8, w', hO', hr⟩ := zrV (E := []) zyc hO; exact ⟨((σ.1), (σ.2.1), (σ.2.2.1), b8), w', hO', ⟨.inr rfl, .inr rfl, .inr rfl, .inr rfl, .inr rfl, .inr rfl, .inl rfl, .inl rfl, trivial⟩, hr⟩ | [false, true, false], _, hok, hst => absurd hok (by rw [show okI _ _ _ _ = false from by kernel_rfl]; decide) | [true, true, false], _, hok, hst => absurd hok (by rw [show okI _ _ _ _ = false from by kernel_rfl]; decide) | [true, true, true], _, hok, hst => absurd hok (by rw [show okI _ _ _ _ = false from by kernel_rfl]; decide) | [false, false, true], _, _, hst => (show False from hst).elim | [true, false, true], _, _, hst => (show False from hst).elim | [false, true, true], _, _, hst => (show False from hst).elim | [], hlen, _, _ => absurd hlen (by simp) | [_], hlen, _, _ => absurd hlen (by simp) | [_, _], hlen, _, _ => absurd hlen (by simp) | _ :: _ :: _ :: _ :: _, hlen, _, _ => absurd hlen (by simp) ), zzR rfl (fun σ => rfl) (fun σ => rfl) rfl (fun σ w bs hlen hok hst => match bs, hlen, hok, hst with | [false, false, false], _, hok, hst => absurd hok (by rw [show okI _ _ _ _ = false from by kernel_rfl]; decide) | [true, false, false], _, hok, hst => absurd hok (by rw [show okI _ _ _ _ = false from by kernel_rfl]; decide) | [false, true, false], _, hok, hst => absurd hok (by rw [show okI _ _ _ _ = false from by kernel_rfl]; decide) | [true, true, false], _, hok, hst => have hO : Dk.Own w0 [] w _ := hst; by obtain ⟨w', hO', hr⟩ := zg5 (x := (.tmp 6)) (y := (.tmp 14)) (E := [(6, ptr (σ.2.2.2) 0), (14, .agg #[ptr (σ.1) 0, int x_h.Minor])]) (i := 0) (n := 2) (vs := [ptr (σ.1) 0, int x_h.Minor]) zyW rfl rfl rfl (by simp [Value.oneCell']) hO rfl rfl; exact ⟨((σ.1), (σ.2.1), (σ.2.2.1), (σ.2.2.2)), w', hO', ⟨.inr rfl, .inr rfl, .inr rfl, .inr rfl, .inr rfl, .inr rfl, .inr rfl, .inr rfl, trivial⟩, hr⟩ | [true, true, true], _, hok, hst => absurd hok (by rw [show okI _ _ _ _ = false from by kernel_rfl]; decide) | [false, false, true], _, _, hst => (show False from hst).elim | [true, false, true], _, _, hst => (show False from hst).elim | [false, true, true], _, _, hst => (show False from hst).elim | [], hlen, _, _ => absurd hlen (by simp) | [_], hlen, _, _ => absurd hlen (by simp) | [_, _], hlen, _, _ => absurd hlen (by simp) | _ :: _ :: _ :: _ :: _, hlen, _, _ => absurd hlen (by simp) ), trivial⟩ ?_
 rintro ⟨b5, p6, c7, b8⟩ a w hf hO
 have hO : Dk.Own w0 [] w _ := hO
 have hf : Fits 51 [(1, int x_none), (4, ptr b2 0), (6, ptr b8 0)] a := (hf.cons rfl (hf.cons rfl (hf.cons rfl hf.nil)))
 refine S.no tb ?_ hf hO hm
 refine rc_ rfl fun a w hf hO hm => ?_
 obtain ⟨r10, hr10, hm⟩ := ob hm
 obtain ⟨r13, hr13, hm⟩ := ob hm
 refine dS (S := Option Addr × Nat × Option Addr × Nat) [(1, int x_none), (4, ptr b2 0), (6, ptr b8 0)] (fun σ => (fun (q0 q1 q2 q3 q4 q5 q6 : Res) => [[q0, q1, q2, q3, q4, q5], [q6, q0, q1, q2, q3, q4, q5], [.row (.slice (σ.2.2.1) r13.length (σ.2.2.2)) 9 1 r13.length (cells zf r13), q6, q0, q1, q2, q3, q4, q5]]) (.blk b8 [ptr b5 0, int x_h.Minor] 217) (.blk b5 [.slice p6 r4.f_l.length c7] 263) (.row (.slice p6 r4.f_l.length c7) 110 2 r4.f_l.length (cells za r4.f_l)) (.blk b2 [int 0, int 0] 38) (.blk b1 [int x_h.Kind, str x_h.Method, str x_h.Target, int x_h.Code, str x_h.Reason, int x_h.Minor, .slice x_h_p0 x_h.Fields.length x_h_c0] 35) (.shr x_h_p0 (cells za x_h.Fields)) (.row (.slice (σ.1) r10.length (σ.2.1)) 9 1 r10.length (cells zf r10))) (fun σ => [⟨[(6, ptr b8 0)], some (15, ptr b8 0)⟩, ⟨[(15, ptr b8 0)], some (16, ptr b5 0)⟩, ⟨[(16, ptr b5 0)], some (17, .slice (σ.1) r10.length (σ.2.1))⟩, ⟨[(6, ptr b8 0)], some (18, ptr b8 0)⟩, ⟨[(18, ptr b8 0)], some (19, ptr b5 0)⟩, ⟨[(19, ptr b5 0)], some (20, .slice (σ.2.2.1) r13.length (σ.2.2.2))⟩, ⟨[(17, .slice (σ.1) r10.length (σ.2.1))], some (7, .slice (σ.1) r10.length (σ.2.1))⟩, ⟨[(20, .slice (σ.2.2.1) r13.length (σ.2.2.2))], some (8, .slice (σ.2.2.1) r13.length (σ.2.2.2))⟩]) (none, 0, none, 0) [2, 5] hO hf ⟨sE tb, sD tb 0 [0], sC 0 (fun hf => zak zy3 hf (vs := [ptr b5 0, str [84, 114, 97, 110, 115, 102, 101, 114, 45, 69, 110, 99, 111, 100, 105, 110, 103]]) rfl) (@fun σ w hO => (zh1 r4 [84, 114, 97, 110, 115, 102, 101, 114, 45, 69, 110, 99, 111, 100, 105, 110, 103] r10 _ (hG.own hF hO) (hO.blkSees (i := 1) rfl) (hO.rowSees (i := 2) rfl) (hO.rowCap (i := 2) rfl) hr10).mono fun e w' ⟨p11, c12, he, hO'⟩ => cR (σ := σ) (p11, c12, (σ.2.2.1), (σ.2.2.2)) he (hO.call hO' (by simp [Res.shared]))), sE tb, sD tb 0 [0, 1], sC 1 (fun hf => zak zy3 hf (vs := [ptr b5 0, str [67, 111, 110, 116, 101, 110, 116, 45, 76, 101, 110, 103, 116, 104]]) rfl) (@fun σ w hO => (zh1 r4 [67, 111, 110, 116, 101, 110, 116, 45, 76, 101, 110, 103, 116, 104] r13 _ (hG.own hF hO) (hO.blkSees (i := 2) rfl) (hO.rowSees (i := 3) rfl) (hO.rowCap (i := 3) rfl) hr13).mono fun e w' ⟨p14, c15, he, hO'⟩ => cR (σ := σ) ((σ.1), (σ.2.1), p14, c15) he (hO.call hO' (by simp [Res.shared]))), sE tb, sE tb, trivial⟩ ?_
 rintro ⟨p11, c12, p14, c15⟩ a w hf hO
 have hO : Dk.Own w0 [] w _ := hO
 have hf : Fits 51 [(1, int x_none), (4, ptr b2 0), (6, ptr b8 0), (7, .slice p11 r10.length c12), (8, .slice p14 r13.length c15)] a := (hf.cons rfl (hf.cons rfl (hf.cons rfl (hf.cons rfl (hf.cons rfl hf.nil)))))
 refine S.no tb ?_ hf hO hm
 refine jv 2 [1, 4, 6, 7, 8] [0, 1, 2, 3, 4, 5, 6, 7] (fun J E L => ∃ (t18 : Bool), J ((21, .bool t18) :: E) (L) (zep x_h x_none r4 r10 r13 t18)) rfl ?_ ?_
 refine br rfl (fun hc17 => ?_) fun hc17 => ?_
 exact en rfl fun _ _ j => ⟨decide (0 < (r13.length : Int)), j rfl⟩
 exact en rfl fun _ _ j => ⟨false, j rfl⟩
 rintro a w ⟨t18, hf, hO, hm⟩
 rw [zep] at hm
 refine S.co tb ?_ hf hO hm
 refine br rfl (fun hc19 => ?_) fun hc19 => ?_
 refine vl rfl rfl (fun a w hf hO => zg (vs := []) (v := .agg #[int 0, int 0]) hf rfl (by kernel_rfl)) ?_
 refine st 5 rfl rfl ?_
 refine re_ rfl fun a w hf hO hm => ?_
 obtain rfl := Option.some.inj hm
 exact zc Tryz.results90 hf (.cell rfl (zd (n := 2) (vs := [int 0, int 0]) zdc zdd rfl ((hO.blkSees (i := 5) rfl).cells (o := 0) (n := 2) rfl)) (.tmp rfl .nil)) ⟨rfl, hO.below⟩
 refine br rfl (fun hc22 => ?_) fun hc22 => ?_
 refine ld 2 rfl rfl ?_
 refine cl c_135 rfl (fun r23 w hr23 hO => zlm (⟨r4, x_h.Minor⟩ : length_reader) r10 r23 _ (hG.own hF hO) (hO.blkSees (i := 3) rfl) (hO.rowSees (i := 4) rfl) (hO.rowCap (i := 4) rfl) (hO.rowSees (i := 1) rfl) (hO.rowCap (i := 1) rfl) hr23) fun r23 hr23 => ?_
 refine st 5 rfl rfl ?_
 refine re_ rfl fun a w hf hO hm => ?_
 obtain rfl := Option.some.inj hm
 exact zc Tryz.results90 hf (.cell rfl (zd (n := 2) (vs := [int r23.1.Kind, int r23.1.N]) zdc zdd rfl ((hO.blkSees (i := 5) rfl).cells (o := 0) (n := 2) rfl)) (.tmp rfl .nil)) ⟨rfl, hO.below⟩
 refine br rfl (fun hc26 => ?_) fun hc26 => ?_
 refine ld 2 rfl rfl ?_
 refine cl c_136 rfl (fun r27 w hr27 hO => zkQ (⟨r4, x_h.Minor⟩ : length_reader) r13 r27 _ (hG.own hF hO) (hO.blkSees (i := 3) rfl) (hO.rowSees (i := 4) rfl) (hO.rowCap (i := 4) rfl) (hO.rowSees (i := 0) rfl) (hO.rowCap (i := 0) rfl) hr27) fun r27 hr27 => ?_
 refine st 5 rfl rfl ?_
 refine re_ rfl fun a w hf hO hm => ?_
 obtain rfl := Option.some.inj hm
 exact zc Tryz.results90 hf (.cell rfl (zd (n := 2) (vs := [int r27.1.Kind, int r27.1.N]) zdc zdd rfl ((hO.blkSees (i := 5) rfl).cells (o := 0) (n := 2) rfl)) (.tmp rfl .nil)) ⟨rfl, hO.below⟩
 refine vl rfl rfl (fun a w hf hO => zg (vs := [(0, int x_none)]) (v := .agg #[int x_none, int 0]) hf rfl (by kernel_rfl)) ?_
 refine st 5 rfl rfl ?_
 refine re_ rfl fun a w hf hO hm => ?_
 obtain rfl := Option.some.inj hm
 exact zc Tryz.results90 hf (.cell rfl (zd (n := 2) (vs := [int x_none, int 0]) zdc zdd rfl ((hO.blkSees (i := 5) rfl).cells (o := 0) (n := 2) rfl)) (.tmp rfl .nil)) ⟨rfl, hO.below⟩

theorem zpN (x_h : api_Head) (R : api_Frame × Int) (w0 : World) (hG : zr w0) {x_h_p0 : Option Addr} {x_h_c0 : Nat} (hs0 : zC w0 x_h_p0 (cells za x_h.Fields)) (hc0 : x_h.Fields.length ≤ x_h_c0) (hm : zhs x_h = some R) :
    Calls Tryz.prog 61 #[.agg #[int x_h.Kind, str x_h.Method, str x_h.Target, int x_h.Code, str x_h.Reason, int x_h.Minor, .slice x_h_p0 x_h.Fields.length x_h_c0]] w0 (Ret w0 (fun R => .tuple #[.agg #[int R.1.Kind, int R.1.N], int R.2]) R) := by
 rw [zhs] at hm
 have hF : zq [] := ze
 have hO : Dk.Own w0 [] w0 [] := Dk.Own.refl w0
 have hO := hO.addShr hs0 (by simp [Res.shared])
 refine S.enter tb Tryz.func61 rfl Tryz.ntmps61 rfl ?_ hO hm
 refine bo rfl fun b1 => ?_
 refine al zlQ rfl fun b2 => ?_
 refine ld 1 rfl rfl ?_
 refine cl c_90 rfl (fun r4 w hr4 hO => zqg x_h 1 r4 _ (hG.own hF hO) (hO.sees (i := 2) rfl) hc0 hr4) fun r4 hr4 => ?_
 refine st 0 rfl rfl ?_
 refine re_ rfl fun a w hf hO hm => ?_
 obtain rfl := Option.some.inj hm
 exact zc Tryz.results61 hf (.cell rfl (zd (n := 2) (vs := [int r4.1.Kind, int r4.1.N]) zdc zdd rfl ((hO.blkSees (i := 0) rfl).cells (o := 0) (n := 2) rfl)) (.tmp rfl .nil)) ⟨rfl, hO.below⟩

theorem zo1 (x_method : Str) (x_code : Int) (R : Bool) (w0 : World) (hG : zr w0) (hm : zeE x_method x_code = some R) :
    Calls Tryz.prog 91 #[str x_method, int x_code] w0 (Ret w0 (fun R => .bool R) R) := by
 rw [zeE] at hm
 have hF : zq [] := ze
 have hO : Dk.Own w0 [] w0 [] := Dk.Own.refl w0
 refine S.enter tb Tryz.func91 rfl Tryz.ntmps91 rfl ?_ hO hm
 refine jv 0 [] [] (fun J E L => ∃ (t7 : Bool), J ((4, .bool t7) :: E) (L) (zan t7)) rfl ?_ ?_
 refine br rfl (fun hc2 => ?_) fun hc2 => ?_
 exact en rfl fun _ _ j => ⟨true, j rfl⟩
 refine br rfl (fun hc3 => ?_) fun hc3 => ?_
 exact en rfl fun _ _ j => ⟨true, j rfl⟩
 refine br rfl (fun hc4 => ?_) fun hc4 => ?_
 exact en rfl fun _ _ j => ⟨true, j rfl⟩
 refine br rfl (fun hc5 => ?_) fun hc5 => ?_
 exact en rfl fun _ _ j => ⟨true, j rfl⟩
 refine br rfl (fun hc6 => ?_) fun hc6 => ?_
 exact en rfl fun _ _ j => ⟨decide (x_code < 300), j rfl⟩
 exact en rfl fun _ _ j => ⟨false, j rfl⟩
 rintro a w ⟨t7, hf, hO, hm⟩
 rw [zan] at hm
 refine S.co tb ?_ hf hO hm
 exact rt Tryz.results91 rfl

theorem zo2 (x_method : Str) (x_h : api_Head) (R : api_Frame × Int) (w0 : World) (hG : zr w0) {x_h_p0 : Option Addr} {x_h_c0 : Nat} (hs0 : zC w0 x_h_p0 (cells za x_h.Fields)) (hc0 : x_h.Fields.length ≤ x_h_c0) (hm : zgz x_method x_h = some R) :
    Calls Tryz.prog 62 #[str x_method, .agg #[int x_h.Kind, str x_h.Method, str x_h.Target, int x_h.Code, str x_h.Reason, int x_h.Minor, .slice x_h_p0 x_h.Fields.length x_h_c0]] w0 (Ret w0 (fun R => .tuple #[.agg #[int R.1.Kind, int R.1.N], int R.2]) R) := by
 rw [zgz] at hm
 have hF : zq [] := ze
 have hO : Dk.Own w0 [] w0 [] := Dk.Own.refl w0
 have hO := hO.addShr hs0 (by simp [Res.shared])
 refine S.enter tb Tryz.func62 rfl Tryz.ntmps62 rfl ?_ hO hm
 refine bo rfl fun b1 => ?_
 refine al zlQ rfl fun b2 => ?_
 refine ld 1 rfl rfl ?_
 refine cl c_91 rfl (fun r4 w hr4 hO => zo1 x_method x_h.Code r4 _ (hG.own hF hO) hr4) fun r4 hr4 => ?_
 refine br rfl (fun hc6 => ?_) fun hc6 => ?_
 refine vl rfl rfl (fun a w hf hO => zg (vs := [(0, int 1)]) (v := .agg #[int 1, int 0]) hf rfl (by kernel_rfl)) ?_
 refine st 0 rfl rfl ?_
 refine re_ rfl fun a w hf hO hm => ?_
 obtain rfl := Option.some.inj hm
 exact zc Tryz.results62 hf (.cell rfl (zd (n := 2) (vs := [int 1, int 0]) zdc zdd rfl ((hO.blkSees (i := 0) rfl).cells (o := 0) (n := 2) rfl)) (.tmp rfl .nil)) ⟨rfl, hO.below⟩
 refine ld 1 rfl rfl ?_
 refine cl c_90 rfl (fun r9 w hr9 hO => zqg x_h 4 r9 _ (hG.own hF hO) (hO.sees (i := 2) rfl) hc0 hr9) fun r9 hr9 => ?_
 refine st 0 rfl rfl ?_
 refine re_ rfl fun a w hf hO hm => ?_
 obtain rfl := Option.some.inj hm
 exact zc Tryz.results62 hf (.cell rfl (zd (n := 2) (vs := [int r9.1.Kind, int r9.1.N]) zdc zdd rfl ((hO.blkSees (i := 0) rfl).cells (o := 0) (n := 2) rfl)) (.tmp rfl .nil)) ⟨rfl, hO.below⟩

theorem zlZ (x_method : Str) (x_h : api_Head) (R : api_Frame × Int) (w0 : World) (hG : zr w0) {x_h_p0 : Option Addr} {x_h_c0 : Nat} (hs0 : zC w0 x_h_p0 (cells za x_h.Fields)) (hc0 : x_h.Fields.length ≤ x_h_c0) (hm : zeP x_method x_h = some R) :
    Calls Tryz.prog 31 #[str x_method, .agg #[int x_h.Kind, str x_h.Method, str x_h.Target, int x_h.Code, str x_h.Reason, int x_h.Minor, .slice x_h_p0 x_h.Fields.length x_h_c0]] w0 (Ret w0 (fun R => .tuple #[.agg #[int R.1.Kind, int R.1.N], int R.2]) R) := by
 rw [zeP] at hm
 have hF : zq [] := ze
 have hO : Dk.Own w0 [] w0 [] := Dk.Own.refl w0
 have hO := hO.addShr hs0 (by simp [Res.shared])
 refine S.enter tb Tryz.func31 rfl Tryz.ntmps31 rfl ?_ hO hm
 refine bo rfl fun b1 => ?_
 refine al zlQ rfl fun b2 => ?_
 refine ld 1 rfl rfl ?_
 refine br rfl (fun hc5 => ?_) fun hc5 => ?_
 refine ld 1 rfl rfl ?_
 refine cl c_61 rfl (fun r6 w hr6 hO => zpN x_h r6 _ (hG.own hF hO) (hO.sees (i := 2) rfl) hc0 hr6) fun r6 hr6 => ?_
 refine st 0 rfl rfl ?_
 refine re_ rfl fun a w hf hO hm => ?_
 obtain rfl := Option.some.inj hm
 exact zc Tryz.results31 hf (.cell rfl (zd (n := 2) (vs := [int r6.1.Kind, int r6.1.N]) zdc zdd rfl ((hO.blkSees (i := 0) rfl).cells (o := 0) (n := 2) rfl)) (.tmp rfl .nil)) ⟨rfl, hO.below⟩
 refine ld 1 rfl rfl ?_
 refine cl c_62 rfl (fun r9 w hr9 hO => zo2 x_method x_h r9 _ (hG.own hF hO) (hO.sees (i := 2) rfl) hc0 hr9) fun r9 hr9 => ?_
 refine st 0 rfl rfl ?_
 refine re_ rfl fun a w hf hO hm => ?_
 obtain rfl := Option.some.inj hm
 exact zc Tryz.results31 hf (.cell rfl (zd (n := 2) (vs := [int r9.1.Kind, int r9.1.N]) zdc zdd rfl ((hO.blkSees (i := 0) rfl).cells (o := 0) (n := 2) rfl)) (.tmp rfl .nil)) ⟨rfl, hO.below⟩

theorem zsD (x_limit : Int) (R : Option dechunk_Decoder × Int) (w0 : World) (hG : zr w0) (hm : zmQ x_limit = some R) :
    Calls Tryz.prog 74 #[int x_limit] w0 fun e w' => zpI R.1 (e = .returned (.tuple #[.pointer none, int R.2]) ∧ Below w0.heap.size w0 w') (fun x => ∃ (b0 : Nat) (p1 : Option Addr) (c1 : Nat) (p2 : Option Addr) (c2 : Nat), e = .returned (.tuple #[ptr b0 0, int R.2]) ∧ Dk.Own w0 [] w' [.blk b0 [int x.f_limit, int x.f_at, .slice p1 x.f_line.length c1, int x.f_left, int x.f_sum, int x.f_spent, .slice p2 x.f_trailers.length c2] 201, .row (.slice p1 x.f_line.length c1) 5 1 x.f_line.length (cells zp x.f_line), .row (.slice p2 x.f_trailers.length c2) 110 2 x.f_trailers.length (cells za x.f_trailers)]) := by
 rw [zmQ] at hm
 have hF : zq [] := ze
 have hO : Dk.Own w0 [] w0 [] := Dk.Own.refl w0
 refine S.enter tb Tryz.func74 rfl Tryz.ntmps74 rfl ?_ hO hm
 refine jv 1 [0] [] (fun J E L => ∃ (t3 : Bool), J ((9, .bool t3) :: E) (L) (zht x_limit t3)) rfl ?_ ?_
 refine br rfl (fun hc2 => ?_) fun hc2 => ?_
 exact en rfl fun _ _ j => ⟨true, j rfl⟩
 exact en rfl fun _ _ j => ⟨decide (65536 < x_limit), j rfl⟩
 rintro a w ⟨t3, hf, hO, hm⟩
 rw [zht] at hm
 refine S.co tb ?_ hf hO hm
 refine br rfl (fun hc4 => ?_) fun hc4 => ?_
 refine re_ rfl fun a w hf hO hm => ?_
 obtain rfl := Option.some.inj hm
 exact zc Tryz.results74 hf (.tmp rfl (.tmp rfl .nil)) ⟨rfl, hO.below⟩
 refine vl rfl rfl (fun a w hf hO => zg (vs := [(0, int x_limit)]) (v := .agg #[int x_limit, int 0, .slice none 0 0, int 0, int 0, int 0, .slice none 0 0]) hf rfl (by kernel_rfl)) ?_
 refine bo rfl fun b7 => ?_
 refine nl 5 1 ?_
 refine nl 110 2 ?_
 refine re_ rfl fun a w hf hO hm => ?_
 obtain rfl := Option.some.inj hm
 exact zc Tryz.results74 hf (.tmp rfl (.tmp rfl .nil)) ⟨b7, none, 0, none, 0, rfl, (hO.choose [2, 1, 0] rfl)⟩

theorem zwm (x_a0 : api_Frame) (x_a1 : Int) (R : Option (Bool × body_Body) × Int) (w0 : World) (hG : zr w0) (hm : zrS x_a0 x_a1 = some R) :
    Calls Tryz.prog 44 #[.agg #[int x_a0.Kind, int x_a0.N], int x_a1] w0 fun e w' => zpI R.1 (e = .returned (.tuple #[.pointer none, int R.2]) ∧ Below w0.heap.size w0 w') (fun x => bE x.1 (∃ (b0 : Nat) (b1 : Nat) (p2 : Option Addr) (c2 : Nat) (p3 : Option Addr) (c3 : Nat), e = .returned (.tuple #[ptr b0 0, int R.2]) ∧ Dk.Own w0 [] w' [.blk b0 [ptr b1 0, int x.2.f_frame.Kind, int x.2.f_frame.N, int x.2.f_left, .bool x.2.f_done, .bool x.2.f_bad] 150, .blk b1 [int x.2.Decoder.f_limit, int x.2.Decoder.f_at, .slice p2 x.2.Decoder.f_line.length c2, int x.2.Decoder.f_left, int x.2.Decoder.f_sum, int x.2.Decoder.f_spent, .slice p3 x.2.Decoder.f_trailers.length c3] 201, .row (.slice p2 x.2.Decoder.f_line.length c2) 5 1 x.2.Decoder.f_line.length (cells zp x.2.Decoder.f_line), .row (.slice p3 x.2.Decoder.f_trailers.length c3) 110 2 x.2.Decoder.f_trailers.length (cells za x.2.Decoder.f_trailers)]) (∃ (b0 : Nat), e = .returned (.tuple #[ptr b0 0, int R.2]) ∧ Dk.Own w0 [] w' [.blk b0 [.pointer none, int x.2.f_frame.Kind, int x.2.f_frame.N, int x.2.f_left, .bool x.2.f_done, .bool x.2.f_bad] 150])) := by
 rw [zrS] at hm
 have hF : zq [] := ze
 have hO : Dk.Own w0 [] w0 [] := Dk.Own.refl w0
 refine S.enter tb Tryz.func44 rfl Tryz.ntmps44 rfl ?_ hO hm
 refine bo rfl fun b1 => ?_
 refine jn 0 (fun a w => (∃ (i11 : Int), Fits 65 [(2, ptr b1 0), (6, .pointer none), (7, int i11)] a ∧ Dk.Own w0 [] w [.blk b1 [int x_a0.Kind, int x_a0.N] 38] ∧ zmR x_a0 i11 = some R) ∨ (∃ (b28 : Nat) (i29 : Int) (i30 : Int) (i31 : Int) (p32 : Option Addr) (c33 : Nat) (l34 : List UInt8) (i35 : Int) (i36 : Int) (i37 : Int) (p38 : Option Addr) (c39 : Nat) (l40 : List api_Field), Fits 65 [(2, ptr b1 0), (6, ptr b28 0), (7, int i29)] a ∧ Dk.Own w0 [] w [.blk b28 [int i30, int i31, .slice p32 l34.length c33, int i35, int i36, int i37, .slice p38 l40.length c39] 201, .row (.slice p32 l34.length c33) 5 1 l34.length (cells zp l34), .row (.slice p38 l40.length c39) 110 2 l40.length (cells za l40), .blk b1 [int x_a0.Kind, int x_a0.N] 38] ∧ zmU x_a0 i29 i30 i31 l34 i35 i36 i37 l40 = some R)) rfl ?_ ?_
 refine rw_ rfl fun a w hf hO hm => ?_
 obtain ⟨r3, hr3, hm⟩ := ob hm
 refine zmo (zak c_74 hf (vs := [int x_a1]) rfl) rfl hf rfl rfl (zsD x_a1 r3 _ (hG.own hF hO) hr3) ?_
 rintro e w' hpost4
 rcases hopt4 : r3.1 with _ | x5
 have hm := zt2 hopt4 hm
 obtain ⟨he, hb⟩ := zqG hopt4 hpost4
 refine ⟨_, he, fun a hf => ?_⟩
 have hO := hO.grow hb
 refine S.op tb ?_ hf hO hm
 refine eo rfl fun a w hf hO hm => ?_
 exact Or.inl ⟨r3.2, hf.sel rfl, hO, hm⟩
 have hm := zt3 hopt4 hm
 obtain ⟨b6, p7, c8, p9, c10, he, hO'⟩ := zqH hopt4 hpost4
 refine ⟨_, he, fun a hf => ?_⟩
 have hO := hO.call hO' (by simp [Res.shared])
 refine S.op tb ?_ hf hO hm
 refine eo rfl fun a w hf hO hm => ?_
 exact Or.inr (⟨b6, r3.2, x5.f_limit, x5.f_at, p7, c8, x5.f_line, x5.f_left, x5.f_sum, x5.f_spent, p9, c10, x5.f_trailers, hf.sel rfl, hO, hm⟩)
 rintro a w (⟨i11, hf, hO, hm⟩ | ⟨b28, i29, i30, i31, p32, c33, l34, i35, i36, i37, p38, c39, l40, hf, hO, hm⟩)
 rw [zmR] at hm
 refine S.co tb ?_ hf hO hm
 refine jv 1 [2, 6] [0] (fun J E L => ∃ (t16 : Bool), J ((35, .bool t16) :: E) (L) (zfj x_a0 t16)) rfl ?_ ?_
 refine br rfl (fun hc12 => ?_) fun hc12 => ?_
 exact en rfl fun _ _ j => ⟨true, j rfl⟩
 refine ld 0 rfl rfl ?_
 refine br rfl (fun hc13 => ?_) fun hc13 => ?_
 exact en rfl fun _ _ j => ⟨true, j rfl⟩
 refine ld 0 rfl rfl ?_
 refine br rfl (fun hc14 => ?_) fun hc14 => ?_
 exact en rfl fun _ _ j => ⟨true, j rfl⟩
 refine ld 0 rfl rfl ?_
 refine br rfl (fun hc15 => ?_) fun hc15 => ?_
 exact en rfl fun _ _ j => ⟨true, j rfl⟩
 refine ld 0 rfl rfl ?_
 exact en rfl fun _ _ j => ⟨decide (1099511627776 < x_a0.N), j rfl⟩
 rintro a w ⟨t16, hf, hO, hm⟩
 rw [zfj] at hm
 refine S.co tb ?_ hf hO hm
 refine br rfl (fun hc17 => ?_) fun hc17 => ?_
 refine re_ rfl fun a w hf hO hm => ?_
 obtain rfl := Option.some.inj hm
 exact zc Tryz.results44 hf (.tmp rfl (.tmp rfl .nil)) ⟨rfl, hO.below⟩
 refine ld 0 rfl rfl ?_
 refine ld 0 rfl rfl ?_
 refine vl rfl rfl (fun a w hf hO => zg (vs := [(1, .agg #[int x_a0.Kind, int x_a0.N]), (2, int x_a0.N)]) (v := .agg #[.pointer none, int x_a0.Kind, int x_a0.N, int x_a0.N, .bool false, .bool false]) hf rfl (by kernel_rfl)) ?_
 refine bo rfl fun b20 => ?_
 refine jv 0 [2, 8] [0, 1] (fun J E L => J (E) (L) (zkj x_a0)) rfl ?_ ?_
 refine ld 1 rfl rfl ?_
 refine br rfl (fun hc23 => ?_) fun hc23 => ?_
 refine st 0 rfl rfl ?_
 exact en rfl fun _ _ j => j rfl
 exact en rfl fun _ _ j => j rfl
 rintro a w ⟨hf, hO, hm⟩
 rw [zkj] at hm
 refine S.co tb ?_ hf hO hm
 refine jv 0 [8] [1] (fun J E L => ∃ (t26 : Bool), J (E) (.blk b20 [.pointer none, int x_a0.Kind, int x_a0.N, int x_a0.N, .bool t26, .bool false] 150 :: L) (ziG x_a0 t26)) rfl ?_ ?_
 refine ld 1 rfl rfl ?_
 refine br rfl (fun hc24 => ?_) fun hc24 => ?_
 refine st 0 rfl rfl ?_
 exact en rfl fun _ _ j => ⟨true, j rfl⟩
 refine ld 1 rfl rfl ?_
 refine br rfl (fun hc25 => ?_) fun hc25 => ?_
 refine ld 1 rfl rfl ?_
 refine st 0 rfl rfl ?_
 exact en rfl fun _ _ j => ⟨x_a0.N == 0, j rfl⟩
 refine st 0 rfl rfl ?_
 exact en rfl fun _ _ j => ⟨false, j rfl⟩
 rintro a w ⟨t26, hf, hO, hm⟩
 rw [ziG] at hm
 refine S.co tb ?_ hf hO hm
 refine re_ rfl fun a w hf hO hm => ?_
 obtain rfl := Option.some.inj hm
 exact zc Tryz.results44 hf (.tmp rfl (.tmp rfl .nil)) ⟨b20, rfl, (hO.sub (.cons_cons _ (.cons _ .slnil)))⟩
 rw [zmU] at hm
 refine S.co tb ?_ hf hO hm
 refine jv 1 [2, 6] [0, 1, 2, 3] (fun J E L => ∃ (t45 : Bool), J ((35, .bool t45) :: E) (L) (zfk x_a0 i30 i31 l34 i35 i36 i37 l40 t45)) rfl ?_ ?_
 refine br rfl (fun hc41 => ?_) fun hc41 => ?_
 exact en rfl fun _ _ j => ⟨true, j rfl⟩
 refine ld 3 rfl rfl ?_
 refine br rfl (fun hc42 => ?_) fun hc42 => ?_
 exact en rfl fun _ _ j => ⟨true, j rfl⟩
 refine ld 3 rfl rfl ?_
 refine br rfl (fun hc43 => ?_) fun hc43 => ?_
 exact en rfl fun _ _ j => ⟨true, j rfl⟩
 refine ld 3 rfl rfl ?_
 refine br rfl (fun hc44 => ?_) fun hc44 => ?_
 exact en rfl fun _ _ j => ⟨true, j rfl⟩
 refine ld 3 rfl rfl ?_
 exact en rfl fun _ _ j => ⟨decide (1099511627776 < x_a0.N), j rfl⟩
 rintro a w ⟨t45, hf, hO, hm⟩
 rw [zfk] at hm
 refine S.co tb ?_ hf hO hm
 refine br rfl (fun hc46 => ?_) fun hc46 => ?_
 refine re_ rfl fun a w hf hO hm => ?_
 obtain rfl := Option.some.inj hm
 exact zc Tryz.results44 hf (.tmp rfl (.tmp rfl .nil)) ⟨rfl, hO.below⟩
 refine ld 3 rfl rfl ?_
 refine ld 3 rfl rfl ?_
 refine vl rfl rfl (fun a w hf hO => zg (vs := [(1, .agg #[int x_a0.Kind, int x_a0.N]), (2, int x_a0.N)]) (v := .agg #[.pointer none, int x_a0.Kind, int x_a0.N, int x_a0.N, .bool false, .bool false]) hf rfl (by kernel_rfl)) ?_
 refine bo rfl fun b49 => ?_
 refine jn 0 (fun a w => (Fits 65 [(2, ptr b1 0), (8, ptr b49 0)] a ∧ Dk.Own w0 [] w [.blk b49 [ptr b28 0, int x_a0.Kind, int x_a0.N, int x_a0.N, .bool false, .bool false] 150, .blk b28 [int i30, int i31, .slice p32 l34.length c33, int i35, int i36, int i37, .slice p38 l40.length c39] 201, .row (.slice p32 l34.length c33) 5 1 l34.length (cells zp l34), .row (.slice p38 l40.length c39) 110 2 l40.length (cells za l40), .blk b1 [int x_a0.Kind, int x_a0.N] 38] ∧ zmS x_a0 i30 i31 l34 i35 i36 i37 l40 = some R) ∨ (Fits 65 [(2, ptr b1 0), (8, ptr b49 0)] a ∧ Dk.Own w0 [] w [.blk b49 [.pointer none, int x_a0.Kind, int x_a0.N, int x_a0.N, .bool false, .bool false] 150, .blk b28 [int i30, int i31, .slice p32 l34.length c33, int i35, int i36, int i37, .slice p38 l40.length c39] 201, .row (.slice p32 l34.length c33) 5 1 l34.length (cells zp l34), .row (.slice p38 l40.length c39) 110 2 l40.length (cells za l40), .blk b1 [int x_a0.Kind, int x_a0.N] 38] ∧ zmT x_a0 = some R)) rfl ?_ ?_
 refine ld 4 rfl rfl ?_
 refine br rfl (fun hc52 => ?_) fun hc52 => ?_
 refine st 0 rfl rfl ?_
 refine eo rfl fun a w hf hO hm => ?_
 exact Or.inl ⟨hf.sel rfl, hO, hm⟩
 refine eo rfl fun a w hf hO hm => ?_
 exact Or.inr (⟨hf.sel rfl, hO, hm⟩)
 rintro a w (⟨hf, hO, hm⟩ | ⟨hf, hO, hm⟩)
 rw [zmS] at hm
 refine S.co tb ?_ hf hO hm
 refine jv 0 [8] [1, 2, 3, 4] (fun J E L => ∃ (t55 : Bool), J (E) (.blk b49 [ptr b28 0, int x_a0.Kind, int x_a0.N, int x_a0.N, .bool t55, .bool false] 150 :: L) (ziH x_a0 i30 i31 l34 i35 i36 i37 l40 t55)) rfl ?_ ?_
 refine ld 4 rfl rfl ?_
 refine br rfl (fun hc53 => ?_) fun hc53 => ?_
 refine st 0 rfl rfl ?_
 exact en rfl fun _ _ j => ⟨true, j rfl⟩
 refine ld 4 rfl rfl ?_
 refine br rfl (fun hc54 => ?_) fun hc54 => ?_
 refine ld 4 rfl rfl ?_
 refine st 0 rfl rfl ?_
 exact en rfl fun _ _ j => ⟨x_a0.N == 0, j rfl⟩
 refine st 0 rfl rfl ?_
 exact en rfl fun _ _ j => ⟨false, j rfl⟩
 rintro a w ⟨t55, hf, hO, hm⟩
 rw [ziH] at hm
 refine S.co tb ?_ hf hO hm
 refine re_ rfl fun a w hf hO hm => ?_
 obtain rfl := Option.some.inj hm
 exact zc Tryz.results44 hf (.tmp rfl (.tmp rfl .nil)) ⟨b49, b28, p32, c33, p38, c39, rfl, (hO.sub (.cons_cons _ (.cons_cons _ (.cons_cons _ (.cons_cons _ (.cons _ .slnil))))))⟩
 rw [zmT] at hm
 refine S.co tb ?_ hf hO hm
 refine jv 0 [8] [1, 2, 3, 4] (fun J E L => ∃ (t59 : Bool), J (E) (.blk b49 [.pointer none, int x_a0.Kind, int x_a0.N, int x_a0.N, .bool t59, .bool false] 150 :: L) (zhu x_a0 t59)) rfl ?_ ?_
 refine ld 4 rfl rfl ?_
 refine br rfl (fun hc57 => ?_) fun hc57 => ?_
 refine st 0 rfl rfl ?_
 exact en rfl fun _ _ j => ⟨true, j rfl⟩
 refine ld 4 rfl rfl ?_
 refine br rfl (fun hc58 => ?_) fun hc58 => ?_
 refine ld 4 rfl rfl ?_
 refine st 0 rfl rfl ?_
 exact en rfl fun _ _ j => ⟨x_a0.N == 0, j rfl⟩
 refine st 0 rfl rfl ?_
 exact en rfl fun _ _ j => ⟨false, j rfl⟩
 rintro a w ⟨t59, hf, hO, hm⟩
 rw [zhu] at hm
 refine S.co tb ?_ hf hO hm
 refine re_ rfl fun a w hf hO hm => ?_
 obtain rfl := Option.some.inj hm
 exact zc Tryz.results44 hf (.tmp rfl (.tmp rfl .nil)) ⟨b49, rfl, (hO.sub (.cons_cons _ (.cons _ (.cons _ (.cons _ (.cons _ .slnil))))))⟩

end Go.Proofs
end
section
set_option linter.unusedVariables false
set_option maxHeartbeats 1000000
set_option linter.unusedSimpArgs false
set_option maxRecDepth 100000
namespace Go.Proofs
open Go.Dk Go.Dm Go.RowKit

theorem ziB (x_s : Str) (R : Str) (w0 : World) (hG : zr w0) (hm : zf0 x_s = some R) :
    Calls Tryz.prog 46 #[str x_s] w0 (Ret w0 (fun R => str R) R) := by
 rw [zf0] at hm
 have hF : zq [] := ze
 have hO : Dk.Own w0 [] w0 [] := Dk.Own.refl w0
 refine S.enter tb Tryz.func46 rfl Tryz.ntmps46 rfl ?_ hO hm
 refine vl rfl rfl (fun a w hf hO => zq2 (m := (x_s.length : Int)) (n := 400) hf rfl rfl) ?_
 refine bi rfl fun s2 hs2 => ?_
 exact rt Tryz.results46 rfl

theorem zve (x_h : api_Head) (R : api_Head) (w0 : World) (hG : zr w0) {x_h_p0 : Option Addr} {x_h_c0 : Nat} (hs0 : zC w0 x_h_p0 (cells za x_h.Fields)) (hc0 : x_h.Fields.length ≤ x_h_c0) (hm : zlb x_h = some R) :
    Calls Tryz.prog 24 #[.agg #[int x_h.Kind, str x_h.Method, str x_h.Target, int x_h.Code, str x_h.Reason, int x_h.Minor, .slice x_h_p0 x_h.Fields.length x_h_c0]] w0 fun e w' => ∃ (p0 : Option Addr) (c0 : Nat), e = .returned (.agg #[int R.Kind, str R.Method, str R.Target, int R.Code, str R.Reason, int R.Minor, .slice p0 R.Fields.length c0]) ∧ Dk.Own w0 [] w' [.row (.slice p0 R.Fields.length c0) 110 2 R.Fields.length (cells za R.Fields)] := by
 rw [zlb] at hm
 have hF : zq [] := ze
 have hO : Dk.Own w0 [] w0 [] := Dk.Own.refl w0
 have hO := hO.addShr hs0 (by simp [Res.shared])
 refine S.enter tb Tryz.func24 rfl Tryz.ntmps24 rfl ?_ hO hm
 refine bo rfl fun b1 => ?_
 refine al zj7 rfl fun b2 => ?_
 refine nl 110 2 ?_
 refine ld 2 rfl rfl ?_
 refine cl c_46 rfl (fun r4 w hr4 hO => ziB x_h.Method r4 _ (hG.own hF hO) hr4) fun r4 hr4 => ?_
 refine st 2 rfl rfl ?_
 refine ld 2 rfl rfl ?_
 refine cl c_46 rfl (fun r6 w hr6 hO => ziB x_h.Target r6 _ (hG.own hF hO) hr6) fun r6 hr6 => ?_
 refine st 2 rfl rfl ?_
 refine ld 2 rfl rfl ?_
 refine cl c_46 rfl (fun r8 w hr8 hO => ziB x_h.Reason r8 _ (hG.own hF hO) hr8) fun r8 hr8 => ?_
 refine st 2 rfl rfl ?_
 refine nl 110 2 ?_
 refine lv [1, 2] [1, 2, 3, 4] (fun J E L k => ∃ (p12 : Option Addr) (c13 : Nat) (l14 : List api_Field) (i15 : Int), J ((3, .slice p12 l14.length c13) :: (4, int i15) :: E) (.row (.slice p12 l14.length c13) 110 2 l14.length (cells za l14) :: L) (zcz x_h r4 r6 r8 k l14 i15)) rfl (fun _ _ j => ⟨none, 0, [], 0, j rfl⟩) ?_
 rintro n1 a w ⟨p12, c13, l14, i15, hf, hO, hm⟩
 obtain _ | n1 := n1
 rw [zcz] at hm
 cases hm
 rw [zcz] at hm
 refine S.co tb ?_ hf hO hm
 refine jv 4 [1, 2, 3, 4] [0, 1, 2, 3, 4] (fun J E L => ∃ (t17 : Bool), J ((25, .bool t17) :: E) (L) (zhz (zcz x_h r4 r6 r8 n1) x_h r4 r6 r8 l14 i15 t17)) rfl ?_ ?_
 refine ld 3 rfl rfl ?_
 refine br rfl (fun hc16 => ?_) fun hc16 => ?_
 exact en rfl fun _ _ j => ⟨decide (i15 < 120), j rfl⟩
 exact en rfl fun _ _ j => ⟨false, j rfl⟩
 rintro a w ⟨t17, hf, hO, hm⟩
 rw [zhz] at hm
 refine S.co tb ?_ hf hO hm
 refine br rfl (fun hc18 => ?_) fun hc18 => ?_
 refine rc_ rfl fun a w hf hO hm => ?_
 obtain ⟨x20, hx20, hm⟩ := ob hm
 obtain ⟨b21, o22, hix20, hSx20⟩ := zbL (enc := za) (sz := 2) (xs := x_h.Fields) 33 Tryz.underlying33 zaV (by decide) (fun _ => rfl) (hO.sees (i := 4) rfl) hx20
 obtain ⟨r23, hr23, hm⟩ := ob hm
 obtain ⟨x24, hx24, hm⟩ := ob hm
 obtain ⟨b25, o26, hix24, hSx24⟩ := zbL (enc := za) (sz := 2) (xs := x_h.Fields) 33 Tryz.underlying33 zaV (by decide) (fun _ => rfl) (hO.sees (i := 4) rfl) hx24
 obtain ⟨r27, hr27, hm⟩ := ob hm
 obtain ⟨hg31, hm⟩ := og hm
 refine dS (S := Nat × Option Addr × Nat) [(1, ptr b1 0), (2, ptr b2 0), (3, .slice p12 l14.length c13), (4, int i15)] (fun σ => (fun (q0 q1 q2 q3 q4 q5 : Res) => [[q0, q1, q2, q3, q4], [q0, q1, q2, q3, q4], [q0, q1, q2, q3, q4], [q5, q0, q1, q2, q3, q4], [q5, .row (.slice (σ.2.1) ((l14 ++ [(⟨r23, r27⟩ : api_Field)]).length) (σ.2.2)) 110 2 ((l14 ++ [(⟨r23, r27⟩ : api_Field)]).length) (cells za (l14 ++ [(⟨r23, r27⟩ : api_Field)])), q1, q2, q3, q4]]) (.row (.slice p12 l14.length c13) 110 2 l14.length (cells za l14)) (.row (.slice none 0 0) 110 2 0 (cells za [])) (.blk b2 [int 0, str [], str [], int 0, str [], int 0, .slice none 0 0] 35) (.blk b1 [int x_h.Kind, str r4, str r6, int x_h.Code, str r8, int x_h.Minor, .slice x_h_p0 x_h.Fields.length x_h_c0] 35) (.shr x_h_p0 (cells za x_h.Fields)) (.row (.slice (some ⟨(σ.1), 0, none⟩) (([(⟨r23, r27⟩ : api_Field)]).length) 1) 110 2 (([(⟨r23, r27⟩ : api_Field)]).length) (cells za ([(⟨r23, r27⟩ : api_Field)])))) (fun σ => [⟨[(3, .slice p12 l14.length c13)], some (28, .slice p12 l14.length c13)⟩, ⟨[(1, ptr b1 0)], some (29, ptr b1 6)⟩, ⟨[(29, ptr b1 6)], some (30, .slice x_h_p0 x_h.Fields.length x_h_c0)⟩, ⟨[(4, int i15)], some (31, int i15)⟩, ⟨[(30, .slice x_h_p0 x_h.Fields.length x_h_c0), (31, int i15)], some (32, ptr b21 o22)⟩, ⟨[(32, ptr b21 o22)], some (33, ptr b21 o22)⟩, ⟨[(33, ptr b21 o22)], some (34, str x20.Name)⟩, ⟨[(34, str x20.Name)], some (35, str r23)⟩, ⟨[(1, ptr b1 0)], some (36, ptr b1 6)⟩, ⟨[(36, ptr b1 6)], some (37, .slice x_h_p0 x_h.Fields.length x_h_c0)⟩, ⟨[(4, int i15)], some (38, int i15)⟩, ⟨[(37, .slice x_h_p0 x_h.Fields.length x_h_c0), (38, int i15)], some (39, ptr b25 o26)⟩, ⟨[(39, ptr b25 o26)], some (40, ptr b25 (o26 + 1))⟩, ⟨[(40, ptr b25 (o26 + 1))], some (41, str x24.Value)⟩, ⟨[(41, str x24.Value)], some (42, str r27)⟩, ⟨[(35, str r23), (42, str r27)], some (43, .agg #[str r23, str r27])⟩, ⟨[(43, .agg #[str r23, str r27])], some (44, .slice (some ⟨(σ.1), 0, none⟩) (([(⟨r23, r27⟩ : api_Field)]).length) 1)⟩, ⟨[(28, .slice p12 l14.length c13), (44, .slice (some ⟨(σ.1), 0, none⟩) (([(⟨r23, r27⟩ : api_Field)]).length) 1)], some (45, .slice (σ.2.1) ((l14 ++ [(⟨r23, r27⟩ : api_Field)]).length) (σ.2.2))⟩, ⟨[(45, .slice (σ.2.1) ((l14 ++ [(⟨r23, r27⟩ : api_Field)]).length) (σ.2.2))], some (3, .slice (σ.2.1) ((l14 ++ [(⟨r23, r27⟩ : api_Field)]).length) (σ.2.2))⟩]) (0, none, 0) [7, 14, 16, 17] hO hf ⟨sE tb, sE tb, sD tb 0 [3], sE tb, sP (fun hf => zh hix20 hf rfl rfl), sE tb, sL 0 0 (fun hf => fun hO => zk (o := 0) zbx (hSx20 _ (hO.sees (i := 4) rfl)) rfl hf rfl), sC 0 (fun hf => zak c_46 hf (vs := [str x20.Name]) rfl) (@fun σ w hO => (ziB x20.Name r23 _ (hG.own hF hO) hr23).mono fun e w' ⟨he, hb⟩ => cR (σ := σ) ((σ.1), (σ.2.1), (σ.2.2)) he (hO.grow hb)), sE tb, sD tb 0 [3, 3], sE tb, sP (fun hf => zh hix24 hf rfl rfl), sE tb, sL 0 1 (fun hf => ⟨fun hO => zk (o := 1) zbx (hSx24 _ (hO.sees (i := 4) rfl)) rfl hf rfl, fun hO => zk (o := 1) zbx (hSx24 _ (hO.sees (i := 4) rfl)) rfl hf rfl⟩), sC 1 (fun hf => zak c_46 hf (vs := [str x24.Value]) rfl) (@fun σ w hO => (ziB x24.Value r27 _ (hG.own hF hO) hr27).mono fun e w' ⟨he, hb⟩ => cR (σ := σ) ((σ.1), (σ.2.1), (σ.2.2)) he (hO.grow hb)), sP (fun hf => zg (vs := [(0, str r23), (1, str r27)]) (v := .agg #[str r23, str r27]) hf rfl (by kernel_rfl)), sV 2 (@fun σ w hO => match zeY (E := [(43, .agg #[str r23, str r27])]) (parts := #[(0, (.tmp 43))]) (t' := 33) (n := 1) (vs := [(0, .agg #[str r23, str r27])]) (cs := [str r23, str r27]) (e := 110) (sz := 2) (fun w => by kernel_rfl) rfl rfl hO rfl with | ⟨b28, w', hO', hr⟩ => vR (σ := σ) (b28, (σ.2.1), (σ.2.2)) hO' hr), sV 3 (@fun σ w hO => match zpM (E := [(28, .slice p12 l14.length c13), (44, .slice (some ⟨(σ.1), 0, none⟩) (([(⟨r23, r27⟩ : api_Field)]).length) 1)]) (x := (.tmp 28)) (y := (.tmp 44)) zuy (enc := za) (xs := l14) (ys := [(⟨r23, r27⟩ : api_Field)]) (i := 1) (fun _ => rfl) rfl (hO.rowSees (i := 0) rfl) (by simp [cells, za, Value.oneCell']) hg31 hO rfl rfl with | ⟨p29, c30, w', hO', hr⟩ => vR (σ := σ) ((σ.1), p29, c30) hO' hr), sE tb, trivial⟩ ?_
 rintro ⟨b28, p29, c30⟩ a w hf hO
 have hO : Dk.Own w0 [] w _ := hO
 have hf : Fits 49 [(1, ptr b1 0), (2, ptr b2 0), (3, .slice p29 ((l14 ++ [(⟨r23, r27⟩ : api_Field)]).length) c30), (4, int i15)] a := (hf.cons rfl (hf.cons rfl (hf.cons rfl (hf.cons rfl hf.nil))))
 refine S.no tb ?_ hf hO hm
 refine bi rfl fun i33 hi33 => ?_
 exact ec [1, 2, 3, 4, 5] rfl rfl rfl fun _ _ j => ⟨_, Nat.lt_succ_self _, p29, c30, l14 ++ [(⟨r23, r27⟩ : api_Field)], i33, j rfl⟩
 refine st 3 rfl rfl ?_
 refine ld 3 rfl rfl ?_
 refine st 2 rfl rfl ?_
 refine re_ rfl fun a w hf hO hm => ?_
 obtain rfl := Option.some.inj hm
 exact zc Tryz.results24 hf (.cell rfl (zd (n := 7) (vs := [int x_h.Kind, str r4, str r6, int x_h.Code, str r8, int x_h.Minor, .slice p12 l14.length c13]) zcE zce rfl ((hO.blkSees (i := 2) rfl).cells (o := 0) (n := 7) rfl)) .nil) ⟨p12, c13, rfl, (hO.sub (.cons_cons _ (.cons _ (.cons _ (.cons _ (.cons _ .slnil))))))⟩

theorem zvf (x_l : List api_Field) (R : List api_Field) (w0 : World) (hG : zr w0) {x_l_p0 : Option Addr} {x_l_c0 : Nat} (hs0 : zC w0 x_l_p0 (cells za x_l)) (hc0 : x_l.length ≤ x_l_c0) (hm : zlc x_l = some R) :
    Calls Tryz.prog 25 #[.slice x_l_p0 x_l.length x_l_c0] w0 fun e w' => ∃ (p0 : Option Addr) (c0 : Nat), e = .returned (.slice p0 R.length c0) ∧ Dk.Own w0 [] w' [.row (.slice p0 R.length c0) 110 2 R.length (cells za R)] := by
 rw [zlc] at hm
 have hF : zq [] := ze
 have hO : Dk.Own w0 [] w0 [] := Dk.Own.refl w0
 have hO := hO.addShr hs0 (by simp [Res.shared])
 refine S.enter tb Tryz.func25 rfl Tryz.ntmps25 rfl ?_ hO hm
 refine nl 110 2 ?_
 refine nl 110 2 ?_
 refine lv [0] [1, 2] (fun J E L k => ∃ (p4 : Option Addr) (c5 : Nat) (l6 : List api_Field) (i7 : Int), J ((3, .slice p4 l6.length c5) :: (4, int i7) :: E) (.row (.slice p4 l6.length c5) 110 2 l6.length (cells za l6) :: L) (zcA x_l k l6 i7)) rfl (fun _ _ j => ⟨none, 0, [], 0, j rfl⟩) ?_
 rintro n1 a w ⟨p4, c5, l6, i7, hf, hO, hm⟩
 obtain _ | n1 := n1
 rw [zcA] at hm
 cases hm
 rw [zcA] at hm
 refine S.co tb ?_ hf hO hm
 refine jv 4 [0, 3, 4] [0, 1, 2] (fun J E L => ∃ (t9 : Bool), J ((12, .bool t9) :: E) (L) (zhA (zcA x_l n1) x_l l6 i7 t9)) rfl ?_ ?_
 refine br rfl (fun hc8 => ?_) fun hc8 => ?_
 exact en rfl fun _ _ j => ⟨decide (i7 < 105), j rfl⟩
 exact en rfl fun _ _ j => ⟨false, j rfl⟩
 rintro a w ⟨t9, hf, hO, hm⟩
 rw [zhA] at hm
 refine S.co tb ?_ hf hO hm
 refine br rfl (fun hc10 => ?_) fun hc10 => ?_
 refine rc_ rfl fun a w hf hO hm => ?_
 obtain ⟨x12, hx12, hm⟩ := ob hm
 obtain ⟨b13, o14, hix12, hSx12⟩ := zbL (enc := za) (sz := 2) (xs := x_l) 33 Tryz.underlying33 zaV (by decide) (fun _ => rfl) (hO.sees (i := 2) rfl) hx12
 obtain ⟨x15, hx15, hm⟩ := ob hm
 obtain ⟨b16, o17, hix15, hSx15⟩ := zbL (enc := za) (sz := 2) (xs := x_l) 33 Tryz.underlying33 zaV (by decide) (fun _ => rfl) (hO.sees (i := 2) rfl) hx15
 obtain ⟨s18, hs18, hm⟩ := ob hm
 obtain ⟨x19, hx19, hm⟩ := ob hm
 obtain ⟨b20, o21, hix19, hSx19⟩ := zbL (enc := za) (sz := 2) (xs := x_l) 33 Tryz.underlying33 zaV (by decide) (fun _ => rfl) (hO.sees (i := 2) rfl) hx19
 obtain ⟨x22, hx22, hm⟩ := ob hm
 obtain ⟨b23, o24, hix22, hSx22⟩ := zbL (enc := za) (sz := 2) (xs := x_l) 33 Tryz.underlying33 zaV (by decide) (fun _ => rfl) (hO.sees (i := 2) rfl) hx22
 obtain ⟨s25, hs25, hm⟩ := ob hm
 obtain ⟨hg29, hm⟩ := og hm
 refine dS (S := Nat × Option Addr × Nat) [(0, .slice x_l_p0 x_l.length x_l_c0), (3, .slice p4 l6.length c5), (4, int i7)] (fun σ => (fun (q0 q1 q2 q3 : Res) => [[q0, q1, q2], [q3, q0, q1, q2], [q3, .row (.slice (σ.2.1) ((l6 ++ [(⟨s18, s25⟩ : api_Field)]).length) (σ.2.2)) 110 2 ((l6 ++ [(⟨s18, s25⟩ : api_Field)]).length) (cells za (l6 ++ [(⟨s18, s25⟩ : api_Field)])), q1, q2]]) (.row (.slice p4 l6.length c5) 110 2 l6.length (cells za l6)) (.row (.slice none 0 0) 110 2 0 (cells za [])) (.shr x_l_p0 (cells za x_l)) (.row (.slice (some ⟨(σ.1), 0, none⟩) (([(⟨s18, s25⟩ : api_Field)]).length) 1) 110 2 (([(⟨s18, s25⟩ : api_Field)]).length) (cells za ([(⟨s18, s25⟩ : api_Field)])))) (fun σ => ⟨[(3, .slice p4 l6.length c5)], some (15, .slice p4 l6.length c5)⟩ :: ⟨[(0, .slice x_l_p0 x_l.length x_l_c0)], some (16, .slice x_l_p0 x_l.length x_l_c0)⟩ :: ⟨[(4, int i7)], some (17, int i7)⟩ :: ⟨[(16, .slice x_l_p0 x_l.length x_l_c0), (17, int i7)], some (18, ptr b13 o14)⟩ :: ⟨[(18, ptr b13 o14)], some (19, ptr b13 o14)⟩ :: ⟨[(19, ptr b13 o14)], some (20, str x12.Name)⟩ :: ⟨[(0, .slice x_l_p0 x_l.length x_l_c0)], some (21, .slice x_l_p0 x_l.length x_l_c0)⟩ :: ⟨[(4, int i7)], some (22, int i7)⟩ :: ⟨[(21, .slice x_l_p0 x_l.length x_l_c0), (22, int i7)], some (23, ptr b16 o17)⟩ :: ⟨[(23, ptr b16 o17)], some (24, ptr b16 o17)⟩ :: ⟨[(24, ptr b16 o17)], some (25, str x15.Name)⟩ :: ⟨[(25, str x15.Name)], some (26, int (x15.Name.length : Int))⟩ :: ⟨[(26, int (x15.Name.length : Int))], some (27, int (min (x15.Name.length : Int) 50))⟩ :: ⟨[(20, str x12.Name), (27, int (min (x15.Name.length : Int) 50))], some (28, str s18)⟩ :: ⟨[(0, .slice x_l_p0 x_l.length x_l_c0)], some (29, .slice x_l_p0 x_l.length x_l_c0)⟩ :: ⟨[(4, int i7)], some (30, int i7)⟩ :: ⟨[(29, .slice x_l_p0 x_l.length x_l_c0), (30, int i7)], some (31, ptr b20 o21)⟩ :: ⟨[(31, ptr b20 o21)], some (32, ptr b20 (o21 + 1))⟩ :: ⟨[(32, ptr b20 (o21 + 1))], some (33, str x19.Value)⟩ :: ⟨[(0, .slice x_l_p0 x_l.length x_l_c0)], some (34, .slice x_l_p0 x_l.length x_l_c0)⟩ :: ⟨[(4, int i7)], some (35, int i7)⟩ :: ⟨[(34, .slice x_l_p0 x_l.length x_l_c0), (35, int i7)], some (36, ptr b23 o24)⟩ :: ⟨[(36, ptr b23 o24)], some (37, ptr b23 (o24 + 1))⟩ :: ⟨[(37, ptr b23 (o24 + 1))], some (38, str x22.Value)⟩ :: ⟨[(38, str x22.Value)], some (39, int (x22.Value.length : Int))⟩ :: ⟨[(39, int (x22.Value.length : Int))], some (40, int (min (x22.Value.length : Int) 200))⟩ :: ⟨[(33, str x19.Value), (40, int (min (x22.Value.length : Int) 200))], some (41, str s25)⟩ :: ⟨[(28, str s18), (41, str s25)], some (42, .agg #[str s18, str s25])⟩ :: ⟨[(42, .agg #[str s18, str s25])], some (43, .slice (some ⟨(σ.1), 0, none⟩) (([(⟨s18, s25⟩ : api_Field)]).length) 1)⟩ :: ⟨[(15, .slice p4 l6.length c5), (43, .slice (some ⟨(σ.1), 0, none⟩) (([(⟨s18, s25⟩ : api_Field)]).length) 1)], some (44, .slice (σ.2.1) ((l6 ++ [(⟨s18, s25⟩ : api_Field)]).length) (σ.2.2))⟩ :: ⟨[(44, .slice (σ.2.1) ((l6 ++ [(⟨s18, s25⟩ : api_Field)]).length) (σ.2.2))], some (3, .slice (σ.2.1) ((l6 ++ [(⟨s18, s25⟩ : api_Field)]).length) (σ.2.2))⟩ :: []) (0, none, 0) [28, 29] hO hf ⟨sE tb, sE tb, sE tb, sP (fun hf => zh hix12 hf rfl rfl), sE tb, sL 0 0 (fun hf => fun hO => zk (o := 0) zbx (hSx12 _ (hO.sees (i := 2) rfl)) rfl hf rfl), sE tb, sE tb, sP (fun hf => zh hix15 hf rfl rfl), sE tb, sL 0 0 (fun hf => fun hO => zk (o := 0) zbx (hSx15 _ (hO.sees (i := 2) rfl)) rfl hf rfl), sE tb, sP (fun hf => zq2 (m := (x15.Name.length : Int)) (n := 50) hf rfl rfl), sP (fun hf => zoB (l := x12.Name) Tryz.underlying9 hf rfl rfl hs18), sE tb, sE tb, sP (fun hf => zh hix19 hf rfl rfl), sE tb, sL 0 0 (fun hf => fun hO => zk (o := 1) zbx (hSx19 _ (hO.sees (i := 2) rfl)) rfl hf rfl), sE tb, sE tb, sP (fun hf => zh hix22 hf rfl rfl), sE tb, sL 0 0 (fun hf => fun hO => zk (o := 1) zbx (hSx22 _ (hO.sees (i := 2) rfl)) rfl hf rfl), sE tb, sP (fun hf => zq2 (m := (x22.Value.length : Int)) (n := 200) hf rfl rfl), sP (fun hf => zoB (l := x19.Value) Tryz.underlying9 hf rfl rfl hs25), sP (fun hf => zg (vs := [(0, str s18), (1, str s25)]) (v := .agg #[str s18, str s25]) hf rfl (by kernel_rfl)), sV 0 (@fun σ w hO => match zeY (E := [(42, .agg #[str s18, str s25])]) (parts := #[(0, (.tmp 42))]) (t' := 33) (n := 1) (vs := [(0, .agg #[str s18, str s25])]) (cs := [str s18, str s25]) (e := 110) (sz := 2) (fun w => by kernel_rfl) rfl rfl hO rfl with | ⟨b26, w', hO', hr⟩ => vR (σ := σ) (b26, (σ.2.1), (σ.2.2)) hO' hr), sV 1 (@fun σ w hO => match zpM (E := [(15, .slice p4 l6.length c5), (43, .slice (some ⟨(σ.1), 0, none⟩) (([(⟨s18, s25⟩ : api_Field)]).length) 1)]) (x := (.tmp 15)) (y := (.tmp 43)) zuy (enc := za) (xs := l6) (ys := [(⟨s18, s25⟩ : api_Field)]) (i := 1) (fun _ => rfl) rfl (hO.rowSees (i := 0) rfl) (by simp [cells, za, Value.oneCell']) hg29 hO rfl rfl with | ⟨p27, c28, w', hO', hr⟩ => vR (σ := σ) ((σ.1), p27, c28) hO' hr), sE tb, trivial⟩ ?_
 rintro ⟨b26, p27, c28⟩ a w hf hO
 have hO : Dk.Own w0 [] w _ := hO
 have hf : Fits 46 [(0, .slice x_l_p0 x_l.length x_l_c0), (3, .slice p27 ((l6 ++ [(⟨s18, s25⟩ : api_Field)]).length) c28), (4, int i7)] a := (hf.cons rfl (hf.cons rfl (hf.cons rfl hf.nil)))
 refine S.no tb ?_ hf hO hm
 refine bi rfl fun i31 hi31 => ?_
 exact ec [1, 2, 3] rfl rfl rfl fun _ _ j => ⟨_, Nat.lt_succ_self _, p27, c28, l6 ++ [(⟨s18, s25⟩ : api_Field)], i31, j rfl⟩
 refine re_ rfl fun a w hf hO hm => ?_
 obtain rfl := Option.some.inj hm
 exact zc Tryz.results25 hf (.tmp rfl .nil) ⟨p4, c5, rfl, (hO.sub (.cons_cons _ (.cons _ (.cons _ .slnil))))⟩

theorem zvg (x_m : api_Message) (R : api_Message) (w0 : World) (hG : zr w0) {x_m_p0 : Option Addr} {x_m_c0 : Nat} (hs0 : zC w0 x_m_p0 (cells za x_m.Head.Fields)) (hc0 : x_m.Head.Fields.length ≤ x_m_c0) {x_m_p1 : Option Addr} {x_m_c1 : Nat} (hs1 : zC w0 x_m_p1 (cells za x_m.Trailers)) (hc1 : x_m.Trailers.length ≤ x_m_c1) (hm : zld x_m = some R) :
    Calls Tryz.prog 14 #[.agg #[int x_m.Head.Kind, str x_m.Head.Method, str x_m.Head.Target, int x_m.Head.Code, str x_m.Head.Reason, int x_m.Head.Minor, .slice x_m_p0 x_m.Head.Fields.length x_m_c0, int x_m.Frame.Kind, int x_m.Frame.N, str x_m.Body, .slice x_m_p1 x_m.Trailers.length x_m_c1]] w0 fun e w' => ∃ (p0 : Option Addr) (c0 : Nat) (p1 : Option Addr) (c1 : Nat), e = .returned (.agg #[int R.Head.Kind, str R.Head.Method, str R.Head.Target, int R.Head.Code, str R.Head.Reason, int R.Head.Minor, .slice p0 R.Head.Fields.length c0, int R.Frame.Kind, int R.Frame.N, str R.Body, .slice p1 R.Trailers.length c1]) ∧ Dk.Own w0 [] w' [.row (.slice p0 R.Head.Fields.length c0) 110 2 R.Head.Fields.length (cells za R.Head.Fields), .row (.slice p1 R.Trailers.length c1) 110 2 R.Trailers.length (cells za R.Trailers)] := by
 rw [zld] at hm
 have hF : zq [] := ze
 have hO : Dk.Own w0 [] w0 [] := Dk.Own.refl w0
 have hO := hO.addShr hs0 (by simp [Res.shared])
 have hO := hO.addShr hs1 (by simp [Res.shared])
 refine S.enter tb Tryz.func14 rfl Tryz.ntmps14 rfl ?_ hO hm
 refine bo rfl fun b1 => ?_
 refine al zyd rfl fun b2 => ?_
 refine nl 110 2 ?_
 refine nl 110 2 ?_
 refine ld 3 rfl rfl ?_
 refine cm2 c_24 rfl (fun r4 w hr4 hO => zve x_m.Head r4 _ (hG.own hF hO) (hO.sees (i := 5) rfl) hc0 hr4) fun r4 hr4 p5 c6 => ?_
 refine st 4 rfl rfl ?_
 refine ld 4 rfl rfl ?_
 refine ld 4 rfl rfl ?_
 refine vl rfl rfl (fun a w hf hO => zq2 (m := (x_m.Body.length : Int)) (n := 500) hf rfl rfl) ?_
 refine bi rfl fun s8 hs8 => ?_
 refine st 4 rfl rfl ?_
 refine ld 4 rfl rfl ?_
 refine cm2 c_25 rfl (fun r10 w hr10 hO => zvf x_m.Trailers r10 _ (hG.own hF hO) (hO.sees (i := 5) rfl) hc1 hr10) fun r10 hr10 p11 c12 => ?_
 refine st 5 rfl rfl ?_
 refine ld 5 rfl rfl ?_
 refine st 4 rfl rfl ?_
 refine re_ rfl fun a w hf hO hm => ?_
 obtain rfl := Option.some.inj hm
 exact zc Tryz.results14 hf (.cell rfl (zd (n := 11) (vs := [int r4.Kind, str r4.Method, str r4.Target, int r4.Code, str r4.Reason, int r4.Minor, .slice p5 r4.Fields.length c6, int x_m.Frame.Kind, int x_m.Frame.N, str s8, .slice p11 r10.length c12]) zmp zmq rfl ((hO.blkSees (i := 4) rfl).cells (o := 0) (n := 11) rfl)) .nil) ⟨p5, c6, p11, c12, rfl, (hO.choose [1, 0] rfl)⟩

theorem zhm (x_sep : Str) (x_l : List Str) (R : Str) (w0 : World) (hG : zr w0) {x_l_p0 : Option Addr} {x_l_c0 : Nat} (hs0 : zC w0 x_l_p0 (cells zf x_l)) (hc0 : x_l.length ≤ x_l_c0) (hm : zbR x_sep x_l = some R) :
    Calls Tryz.prog 63 #[str x_sep, .slice x_l_p0 x_l.length x_l_c0] w0 (Ret w0 (fun R => str R) R) := by
 rw [zbR] at hm
 have hF : zq [] := ze
 have hO : Dk.Own w0 [] w0 [] := Dk.Own.refl w0
 have hO := hO.addShr hs0 (by simp [Res.shared])
 refine S.enter tb Tryz.func63 rfl Tryz.ntmps63 rfl ?_ hO hm
 refine cl c_92 rfl (fun r2 w hr2 hO => zqL x_l x_sep r2 _ (hG.own hF hO) (hO.sees (i := 0) rfl) hc0 hr2) fun r2 hr2 => ?_
 exact rt Tryz.results63 rfl

theorem zkZ (x_a0 : api_Head) (R : Str × Int) (w0 : World) (hG : zaq w0) {x_a0_p0 : Option Addr} {x_a0_c0 : Nat} (hs0 : zC w0 x_a0_p0 (cells za x_a0.Fields)) (hc0 : x_a0.Fields.length ≤ x_a0_c0) (hm : zd4 x_a0 = some R) :
    Calls Tryz.prog 48 #[.agg #[int x_a0.Kind, str x_a0.Method, str x_a0.Target, int x_a0.Code, str x_a0.Reason, int x_a0.Minor, .slice x_a0_p0 x_a0.Fields.length x_a0_c0]] w0 (Ret w0 (fun R => .tuple #[str R.1, int R.2]) R) := by
 rw [zd4] at hm
 have hF : zq [] := ze
 have hO : Dk.Own w0 [] w0 [] := Dk.Own.refl w0
 have hO := hO.addShr hs0 (by simp [Res.shared])
 refine S.enter tb Tryz.func48 rfl Tryz.ntmps48 rfl ?_ hO hm
 refine bo rfl fun b1 => ?_
 refine ld 0 rfl rfl ?_
 refine cl c_79 rfl (fun r3 w hr3 hO => zjU x_a0.Minor r3 _ (hG.own hF hO) hr3) fun r3 hr3 => ?_
 refine bi rfl fun s4 hs4 => ?_
 refine ld 0 rfl rfl ?_
 refine ld 0 rfl rfl ?_
 refine rw_ rfl fun a w hf hO hm => ?_
 refine zt (vs := [(0, str x_a0.Method), (1, str x_a0.Target), (2, str s4)]) (cs := [str x_a0.Method, str x_a0.Target, str s4]) (e := 9) (sz := 1) hf rfl rfl (fun w => by kernel_rfl) rfl rfl hO fun a b6 w hf hO => ?_
 refine S.op tb ?_ hf hO hm
 refine cl c_63 rfl (fun r7 w hr7 hO => zhm [32] ([x_a0.Method, x_a0.Target, s4] : List Str) r7 _ (hG.own hF hO).1 (hO.rowSees (i := 0) rfl) (hO.rowCap (i := 0) rfl) hr7) fun r7 hr7 => ?_
 refine jv 0 [1] [0, 1, 2] (fun J E L => ∃ (s14 : Str), J ((5, str s14) :: E) (L) (zck x_a0 s14)) rfl ?_ ?_
 refine ld 1 rfl rfl ?_
 refine br rfl (fun hc10 => ?_) fun hc10 => ?_
 refine rc_ rfl fun a w hf hO hm => ?_
 obtain ⟨r11, hr11, hm⟩ := ob hm
 obtain ⟨r13, hr13, hm⟩ := ob hm
 refine dS (S := Nat) [(1, ptr b1 0), (4, str s4), (5, str r7)] (fun σ => (fun (q0 q1 q2 q3 : Res) => [[q0, q1, q2], [q0, q1, q2], [q3, q0, q1, q2], [q3, q0, q1, q2]]) (.row (.slice (some ⟨b6, 0, none⟩) (([x_a0.Method, x_a0.Target, s4] : List Str).length) 3) 9 1 (([x_a0.Method, x_a0.Target, s4] : List Str).length) (cells zf ([x_a0.Method, x_a0.Target, s4] : List Str))) (.blk b1 [int x_a0.Kind, str x_a0.Method, str x_a0.Target, int x_a0.Code, str x_a0.Reason, int x_a0.Minor, .slice x_a0_p0 x_a0.Fields.length x_a0_c0] 35) (.shr x_a0_p0 (cells za x_a0.Fields)) (.row (.slice (some ⟨σ, 0, none⟩) (([s4, r11, x_a0.Reason] : List Str).length) 3) 9 1 (([s4, r11, x_a0.Reason] : List Str).length) (cells zf ([s4, r11, x_a0.Reason] : List Str)))) (fun σ => [⟨[(4, str s4)], some (23, str s4)⟩, ⟨[(1, ptr b1 0)], some (24, ptr b1 3)⟩, ⟨[(24, ptr b1 3)], some (25, int x_a0.Code)⟩, ⟨[(25, int x_a0.Code)], some (26, str r11)⟩, ⟨[(1, ptr b1 0)], some (27, ptr b1 4)⟩, ⟨[(27, ptr b1 4)], some (28, str x_a0.Reason)⟩, ⟨[(23, str s4), (26, str r11), (28, str x_a0.Reason)], some (29, .slice (some ⟨σ, 0, none⟩) (([s4, r11, x_a0.Reason] : List Str).length) 3)⟩, ⟨[(29, .slice (some ⟨σ, 0, none⟩) (([s4, r11, x_a0.Reason] : List Str).length) 3)], some (30, str r13)⟩, ⟨[(30, str r13)], some (5, str r13)⟩]) (0) [3, 6, 7] hO hf ⟨sE tb, sE tb, sD tb 0 [1], sC 0 (fun hf => zak c_79 hf (vs := [int x_a0.Code]) rfl) (@fun σ w hO => (zjU x_a0.Code r11 _ (hG.own hF hO) hr11).mono fun e w' ⟨he, hb⟩ => cR (σ := σ) (σ) he (hO.grow hb)), sE tb, sD tb 0 [1, 1], sV 1 (@fun σ w hO => match zeY (E := [(23, str s4), (26, str r11), (28, str x_a0.Reason)]) (parts := #[(0, (.tmp 23)), (1, (.tmp 26)), (2, (.tmp 28))]) (t' := 30) (n := 3) (vs := [(0, str s4), (1, str r11), (2, str x_a0.Reason)]) (cs := [str s4, str r11, str x_a0.Reason]) (e := 9) (sz := 1) (fun w => by kernel_rfl) rfl rfl hO rfl with | ⟨b12, w', hO', hr⟩ => vR (σ := σ) (b12) hO' hr), sC 2 (@fun σ a w hf => zak c_63 hf (vs := [str [32], .slice (some ⟨σ, 0, none⟩) (([s4, r11, x_a0.Reason] : List Str).length) 3]) rfl) (@fun σ w hO => (zhm [32] ([s4, r11, x_a0.Reason] : List Str) r13 _ (hG.own hF hO).1 (hO.rowSees (i := 0) rfl) (hO.rowCap (i := 0) rfl) hr13).mono fun e w' ⟨he, hb⟩ => cR (σ := σ) (σ) he (hO.grow hb)), sE tb, trivial⟩ ?_
 rintro b12 a w hf hO
 have hO : Dk.Own w0 [] w _ := hO
 have hf : Fits 81 [(1, ptr b1 0), (5, str r13)] a := (hf.cons rfl (hf.cons rfl hf.nil))
 refine S.no tb ?_ hf hO hm
 exact ec [1, 2, 3] rfl rfl rfl fun _ _ j => ⟨r13, j rfl⟩
 exact en rfl fun _ _ j => ⟨r7, j rfl⟩
 rintro a w ⟨s14, hf, hO, hm⟩
 rw [zck] at hm
 refine S.co tb ?_ hf hO hm
 refine ld 1 rfl rfl ?_
 refine cm2 c_80 rfl (fun r15 w hr15 hO => ze2 x_a0.Kind s14 r15 _ (hG.own hF hO) hr15) fun r15 hr15 p16 c17 => ?_
 refine al zj7 rfl fun b18 => ?_
 refine nl 110 2 ?_
 refine st 1 rfl rfl ?_
 refine br rfl (fun hc21 => ?_) fun hc21 => ?_
 exact rt Tryz.results48 rfl
 refine jv 0 [5, 7] [0, 1, 2, 3, 4, 5] (fun J E L => ∃ (t28 : Bool), J ((8, .bool t28) :: E) (L) (zaS s14 r15 t28)) rfl ?_ ?_
 refine ld 1 rfl rfl ?_
 refine ld 4 rfl rfl ?_
 refine br rfl (fun hc24 => ?_) fun hc24 => ?_
 refine ld 1 rfl rfl ?_
 refine ld 4 rfl rfl ?_
 refine br rfl (fun hc25 => ?_) fun hc25 => ?_
 refine ld 1 rfl rfl ?_
 refine ld 4 rfl rfl ?_
 refine br rfl (fun hc26 => ?_) fun hc26 => ?_
 refine ld 1 rfl rfl ?_
 refine ld 4 rfl rfl ?_
 refine br rfl (fun hc27 => ?_) fun hc27 => ?_
 refine ld 1 rfl rfl ?_
 refine ld 4 rfl rfl ?_
 exact en rfl fun _ _ j => ⟨r15.1.Reason == x_a0.Reason, j rfl⟩
 exact en rfl fun _ _ j => ⟨false, j rfl⟩
 exact en rfl fun _ _ j => ⟨false, j rfl⟩
 exact en rfl fun _ _ j => ⟨false, j rfl⟩
 exact en rfl fun _ _ j => ⟨false, j rfl⟩
 rintro a w ⟨t28, hf, hO, hm⟩
 rw [zaS] at hm
 refine S.co tb ?_ hf hO hm
 refine jv 1 [5] [0, 1, 2, 3, 4, 5] (fun J E L => ∃ (t30 : Bool), J ((79, .bool t30) :: E) (L) (zdq s14 t30)) rfl ?_ ?_
 refine br rfl (fun hc29 => ?_) fun hc29 => ?_
 exact en rfl fun _ _ j => ⟨true, j rfl⟩
 exact en rfl fun _ _ j => ⟨!t28, j rfl⟩
 rintro a w ⟨t30, hf, hO, hm⟩
 rw [zdq] at hm
 refine S.co tb ?_ hf hO hm
 refine br rfl (fun hc31 => ?_) fun hc31 => ?_
 exact rt Tryz.results48 rfl
 exact rt Tryz.results48 rfl

theorem zkf (x_f : api_Field) (R : Int) (w0 : World) (hG : zr w0) (hm : zc9 x_f = some R) :
    Calls Tryz.prog 59 #[.agg #[str x_f.Name, str x_f.Value]] w0 (Ret w0 (fun R => int R) R) := by
 rw [zc9] at hm
 have hF : zq [] := ze
 have hO : Dk.Own w0 [] w0 [] := Dk.Own.refl w0
 refine S.enter tb Tryz.func59 rfl Tryz.ntmps59 rfl ?_ hO hm
 refine bo rfl fun b1 => ?_
 refine ld 0 rfl rfl ?_
 refine cl c_85 rfl (fun r3 w hr3 hO => znx x_f.Name r3 _ (hG.own hF hO) hr3) fun r3 hr3 => ?_
 refine br rfl (fun hc5 => ?_) fun hc5 => ?_
 exact rt Tryz.results59 rfl
 refine jv 2 [] [0] (fun J E L => ∃ (t11 : Bool), J ((8, .bool t11) :: E) (L) (zeu t11)) rfl ?_ ?_
 refine rc_ rfl fun a w hf hO hm => ?_
 obtain ⟨r8, hr8, hm⟩ := ob hm
 rcases zcD (!r8) with hc9 | hc9
 have hm := it hc9 hm
 refine dG (S := Nat) [(1, ptr b1 0)] (fun σ => (fun (q0 q1 : Res) => [[q0], [q1, q0], [q1, q0]]) (.blk b1 [str x_f.Name, str x_f.Value] 110) (.row (.slice (some ⟨σ, 0, none⟩) (([x_f.Value] : List Str).length) 1) 9 1 (([x_f.Value] : List Str).length) (cells zf ([x_f.Value] : List Str)))) (fun σ => [⟨[(1, ptr b1 0)], some (9, ptr b1 1)⟩, ⟨[(9, ptr b1 1)], some (10, str x_f.Value)⟩, ⟨[(10, str x_f.Value)], some (11, .slice (some ⟨σ, 0, none⟩) (([x_f.Value] : List Str).length) 1)⟩, ⟨[(11, .slice (some ⟨σ, 0, none⟩) (([x_f.Value] : List Str).length) 1)], some (12, .bool r8)⟩, ⟨[(12, .bool r8)], some (13, .bool (!r8))⟩, ⟨[(13, .bool (!r8))], some (14, .bool (!r8))⟩, ⟨[(14, .bool (!r8))], some (15, undef)⟩, ⟨[(14, .bool (!r8))], some (16, undef)⟩, ⟨[(14, .bool (!r8))], some (17, undef)⟩, ⟨[(14, .bool (!r8))], some (18, undef)⟩, ⟨[(14, .bool (!r8))], some (19, undef)⟩, ⟨[(14, .bool (!r8))], some (20, undef)⟩, ⟨[(14, .bool (!r8)), (20, undef)], some (21, .bool true)⟩, ⟨[(21, .bool true)], some (8, .bool true)⟩]) (0) [2, 3] [6, 7, 8, 9, 10, 11] hO hf ⟨gN, gN, gN, gN, gN, gN, gS hc9, gS hc9, gS hc9, gS hc9, gS hc9, gS hc9, gN, gN, trivial⟩ ⟨nP (sE tb), nP (sD tb 0 [0]), nP (sV 0 (@fun σ w hO => match zeY (E := [(10, str x_f.Value)]) (parts := #[(0, (.tmp 10))]) (t' := 30) (n := 1) (vs := [(0, str x_f.Value)]) (cs := [str x_f.Value]) (e := 9) (sz := 1) (fun w => by kernel_rfl) rfl rfl hO rfl with | ⟨b7, w', hO', hr⟩ => vR (σ := σ) (b7) hO' hr)), nP (sC 1 (@fun σ a w hf => zak ztu hf (vs := [.func (.func 87) #[] #[], .slice (some ⟨σ, 0, none⟩) (([x_f.Value] : List Str).length) 1]) rfl) (@fun σ w hO => (zdt zaG ([x_f.Value] : List Str) r8 _ (hG.own hF hO) c_87 (fun y0 r w hG h => zhT (zeA y0 r w hG h)) (hO.rowSees (i := 0) rfl) (hO.rowCap (i := 0) rfl) hr8).mono fun e w' ⟨he, hb⟩ => cR (σ := σ) (σ) he (hO.grow hb))), nP (sE tb), nP (sE tb), .inl rfl, .inl rfl, .inl rfl, .inl rfl, .inl rfl, .inl rfl, nP (sP (fun hf => zkR hf rfl hc9 rfl)), nP (sE tb), trivial⟩ ?_
 rintro b7 a w hf hO
 have hO : Dk.Own w0 [] w _ := hO
 have hf : Fits 22 [(8, .bool true)] a := (hf.cons rfl hf.nil)
 refine S.no tb ?_ hf hO hm
 exact ec [1] rfl rfl rfl fun _ _ j => ⟨true, j rfl⟩
 have hm := ie hc9 hm
 obtain ⟨r10, hr10, hm⟩ := ob hm
 refine dG (S := Nat) [(1, ptr b1 0)] (fun σ => (fun (q0 q1 : Res) => [[q0], [q1, q0], [q1, q0], [q1, q0]]) (.blk b1 [str x_f.Name, str x_f.Value] 110) (.row (.slice (some ⟨σ, 0, none⟩) (([x_f.Value] : List Str).length) 1) 9 1 (([x_f.Value] : List Str).length) (cells zf ([x_f.Value] : List Str)))) (fun σ => [⟨[(1, ptr b1 0)], some (9, ptr b1 1)⟩, ⟨[(9, ptr b1 1)], some (10, str x_f.Value)⟩, ⟨[(10, str x_f.Value)], some (11, .slice (some ⟨σ, 0, none⟩) (([x_f.Value] : List Str).length) 1)⟩, ⟨[(11, .slice (some ⟨σ, 0, none⟩) (([x_f.Value] : List Str).length) 1)], some (12, .bool r8)⟩, ⟨[(12, .bool r8)], some (13, .bool (!r8))⟩, ⟨[(13, .bool (!r8))], some (14, .bool (!r8))⟩, ⟨[(1, ptr b1 0), (14, .bool (!r8))], some (15, ptr b1 1)⟩, ⟨[(15, ptr b1 1), (14, .bool (!r8))], some (16, str x_f.Value)⟩, ⟨[(16, str x_f.Value), (14, .bool (!r8))], some (17, str r10)⟩, ⟨[(1, ptr b1 0), (14, .bool (!r8))], some (18, ptr b1 1)⟩, ⟨[(18, ptr b1 1), (14, .bool (!r8))], some (19, str x_f.Value)⟩, ⟨[(17, str r10), (19, str x_f.Value), (14, .bool (!r8))], some (20, .bool (!(r10 == x_f.Value)))⟩, ⟨[(14, .bool (!r8)), (20, .bool (!(r10 == x_f.Value)))], some (21, .bool (!(r10 == x_f.Value)))⟩, ⟨[(21, .bool (!(r10 == x_f.Value)))], some (8, .bool (!(r10 == x_f.Value)))⟩]) (0) [2, 3, 8] [] hO hf ⟨gN, gN, gN, gN, gN, gN, gS hc9, gS hc9, gS hc9, gS hc9, gS hc9, gS hc9, gN, gN, trivial⟩ ⟨nP (sE tb), nP (sD tb 0 [0]), nP (sV 0 (@fun σ w hO => match zeY (E := [(10, str x_f.Value)]) (parts := #[(0, (.tmp 10))]) (t' := 30) (n := 1) (vs := [(0, str x_f.Value)]) (cs := [str x_f.Value]) (e := 9) (sz := 1) (fun w => by kernel_rfl) rfl rfl hO rfl with | ⟨b7, w', hO', hr⟩ => vR (σ := σ) (b7) hO' hr)), nP (sC 1 (@fun σ a w hf => zak ztu hf (vs := [.func (.func 87) #[] #[], .slice (some ⟨σ, 0, none⟩) (([x_f.Value] : List Str).length) 1]) rfl) (@fun σ w hO => (zdt zaG ([x_f.Value] : List Str) r8 _ (hG.own hF hO) c_87 (fun y0 r w hG h => zhT (zeA y0 r w hG h)) (hO.rowSees (i := 0) rfl) (hO.rowCap (i := 0) rfl) hr8).mono fun e w' ⟨he, hb⟩ => cR (σ := σ) (σ) he (hO.grow hb))), nP (sE tb), nP (sE tb), nP (sE tb), nP (sD tb 2 [1]), nP (sC 2 (fun hf => zak c_88 hf (vs := [str x_f.Value, str [32, 9]]) rfl) (@fun σ w hO => (zju x_f.Value [32, 9] r10 _ (hG.own hF hO) hr10).mono fun e w' ⟨he, hb⟩ => cR (σ := σ) (σ) he (hO.grow hb))), nP (sE tb), nP (sD tb 2 [1, 1]), nP (sE tb), nP (sP (fun hf => zjm hf rfl hc9 rfl)), nP (sE tb), trivial⟩ ?_
 rintro b7 a w hf hO
 have hO : Dk.Own w0 [] w _ := hO
 have hf : Fits 22 [(8, .bool (!(r10 == x_f.Value)))] a := (hf.cons rfl hf.nil)
 refine S.no tb ?_ hf hO hm
 exact ec [1] rfl rfl rfl fun _ _ j => ⟨!(r10 == x_f.Value), j rfl⟩
 rintro a w ⟨t11, hf, hO, hm⟩
 rw [zeu] at hm
 refine S.co tb ?_ hf hO hm
 refine br rfl (fun hc12 => ?_) fun hc12 => ?_
 exact rt Tryz.results59 rfl
 exact rt Tryz.results59 rfl

theorem zoU (x_h : api_Head) (R : Int) (w0 : World) (hG : zaq w0) {x_h_p0 : Option Addr} {x_h_c0 : Nat} (hs0 : zC w0 x_h_p0 (cells za x_h.Fields)) (hc0 : x_h.Fields.length ≤ x_h_c0) (hm : zif x_h = some R) :
    Calls Tryz.prog 30 #[.agg #[int x_h.Kind, str x_h.Method, str x_h.Target, int x_h.Code, str x_h.Reason, int x_h.Minor, .slice x_h_p0 x_h.Fields.length x_h_c0]] w0 (Ret w0 (fun R => int R) R) := by
 rw [zif] at hm
 have hF : zq [] := ze
 have hO : Dk.Own w0 [] w0 [] := Dk.Own.refl w0
 have hO := hO.addShr hs0 (by simp [Res.shared])
 refine S.enter tb Tryz.func30 rfl Tryz.ntmps30 rfl ?_ hO hm
 refine bo rfl fun b1 => ?_
 refine ld 0 rfl rfl ?_
 refine cl c_48 rfl (fun r3 w hr3 hO => zkZ x_h r3 _ (hG.own hF hO) (hO.sees (i := 1) rfl) hc0 hr3) fun r3 hr3 => ?_
 refine br rfl (fun hc6 => ?_) fun hc6 => ?_
 exact rt Tryz.results30 rfl
 refine ld 0 rfl rfl ?_
 refine lv [1, 17, 18] [0, 1] (fun J E L k => ∃ (i10 : Int), J ((19, int i10) :: E) (L) (zdw x_h k i10)) rfl (fun _ _ j => ⟨0, j rfl⟩) ?_
 rintro n1 a w ⟨i10, hf, hO, hm⟩
 obtain _ | n1 := n1
 rw [zdw] at hm
 cases hm
 rw [zdw] at hm
 refine S.co tb ?_ hf hO hm
 refine br rfl (fun hc12 => ?_) fun hc12 => ?_
 refine rw_ rfl fun a w hf hO hm => ?_
 obtain ⟨x14, hx14, hm⟩ := ob hm
 obtain ⟨b15, o16, hix14, hSx14⟩ := zbL (enc := za) (sz := 2) (xs := x_h.Fields) 33 Tryz.underlying33 zaV (by decide) (fun _ => rfl) (hO.sees (i := 1) rfl) hx14
 refine zG (zh hix14 hf rfl rfl) rfl hf rfl rfl fun a hf => ?_
 refine S.op tb ?_ hf hO hm
 refine vl rfl rfl (fun a w hf hO => zdR (o := 0) (vs := [str x14.Name, str x14.Value]) zf7 zaV (hSx14 _ (hO.sees (i := 1) rfl)) rfl rfl hf rfl) ?_
 refine al zpA rfl fun b17 => ?_
 refine st 0 rfl rfl ?_
 refine ld 0 rfl rfl ?_
 refine cl c_59 rfl (fun r19 w hr19 hO => zkf x14 r19 _ (hG.own hF hO).1 hr19) fun r19 hr19 => ?_
 refine br rfl (fun hc22 => ?_) fun hc22 => ?_
 exact rt Tryz.results30 rfl
 refine bi rfl fun i25 hi25 => ?_
 exact ec [1, 2] rfl rfl rfl fun _ _ j => ⟨_, Nat.lt_succ_self _, i25, j rfl⟩
 refine ld 0 rfl rfl ?_
 refine cl c_60 rfl (fun r27 w hr27 hO => zoW x_h r27 _ (hG.own hF hO) (hO.sees (i := 1) rfl) hc0 hr27) fun r27 hr27 => ?_
 exact rt Tryz.results30 rfl

theorem zrD (x_m : api_Message) (R : Bool) (w0 : World) (hG : zr w0) {x_m_p0 : Option Addr} {x_m_c0 : Nat} (hs0 : zC w0 x_m_p0 (cells za x_m.Head.Fields)) (hc0 : x_m.Head.Fields.length ≤ x_m_c0) {x_m_p1 : Option Addr} {x_m_c1 : Nat} (hs1 : zC w0 x_m_p1 (cells za x_m.Trailers)) (hc1 : x_m.Trailers.length ≤ x_m_c1) (hm : zhB x_m = some R) :
    Calls Tryz.prog 32 #[.agg #[int x_m.Head.Kind, str x_m.Head.Method, str x_m.Head.Target, int x_m.Head.Code, str x_m.Head.Reason, int x_m.Head.Minor, .slice x_m_p0 x_m.Head.Fields.length x_m_c0, int x_m.Frame.Kind, int x_m.Frame.N, str x_m.Body, .slice x_m_p1 x_m.Trailers.length x_m_c1]] w0 (Ret w0 (fun R => .bool R) R) := by
 rw [zhB] at hm
 have hF : zq [] := ze
 have hO : Dk.Own w0 [] w0 [] := Dk.Own.refl w0
 have hO := hO.addShr hs0 (by simp [Res.shared])
 have hO := hO.addShr hs1 (by simp [Res.shared])
 refine S.enter tb Tryz.func32 rfl Tryz.ntmps32 rfl ?_ hO hm
 refine bo rfl fun b1 => ?_
 refine ld 0 rfl rfl ?_
 refine br rfl (fun hc5 => ?_) fun hc5 => ?_
 refine jv 2 [] [0, 1, 2] (fun J E L => ∃ (t7 : Bool), J ((2, .bool t7) :: E) (L) (zeH t7)) rfl ?_ ?_
 refine ld 0 rfl rfl ?_
 refine br rfl (fun hc6 => ?_) fun hc6 => ?_
 refine ld 0 rfl rfl ?_
 exact en rfl fun _ _ j => ⟨(x_m.Trailers.length : Int) == 0, j rfl⟩
 exact en rfl fun _ _ j => ⟨false, j rfl⟩
 rintro a w ⟨t7, hf, hO, hm⟩
 rw [zeH] at hm
 refine S.co tb ?_ hf hO hm
 exact rt Tryz.results32 rfl
 refine br rfl (fun hc9 => ?_) fun hc9 => ?_
 refine jv 2 [] [0, 1, 2] (fun J E L => ∃ (t11 : Bool), J ((2, .bool t11) :: E) (L) (zeI t11)) rfl ?_ ?_
 refine ld 0 rfl rfl ?_
 refine ld 0 rfl rfl ?_
 refine br rfl (fun hc10 => ?_) fun hc10 => ?_
 refine ld 0 rfl rfl ?_
 exact en rfl fun _ _ j => ⟨(x_m.Trailers.length : Int) == 0, j rfl⟩
 exact en rfl fun _ _ j => ⟨false, j rfl⟩
 rintro a w ⟨t11, hf, hO, hm⟩
 rw [zeI] at hm
 refine S.co tb ?_ hf hO hm
 exact rt Tryz.results32 rfl
 refine br rfl (fun hc13 => ?_) fun hc13 => ?_
 refine ld 0 rfl rfl ?_
 exact rt Tryz.results32 rfl
 exact rt Tryz.results32 rfl

theorem zk0 (x_f : api_Field) (R : Str × Int) (w0 : World) (hG : zr w0) (hm : zcd x_f = some R) :
    Calls Tryz.prog 50 #[.agg #[str x_f.Name, str x_f.Value]] w0 (Ret w0 (fun R => .tuple #[str R.1, int R.2]) R) := by
 rw [zcd] at hm
 have hF : zq [] := ze
 have hO : Dk.Own w0 [] w0 [] := Dk.Own.refl w0
 refine S.enter tb Tryz.func50 rfl Tryz.ntmps50 rfl ?_ hO hm
 refine bo rfl fun b1 => ?_
 refine ld 0 rfl rfl ?_
 refine cl c_59 rfl (fun r3 w hr3 hO => zkf x_f r3 _ (hG.own hF hO) hr3) fun r3 hr3 => ?_
 refine br rfl (fun hc6 => ?_) fun hc6 => ?_
 exact rt Tryz.results50 rfl
 refine ld 0 rfl rfl ?_
 refine br rfl (fun hc10 => ?_) fun hc10 => ?_
 refine ld 0 rfl rfl ?_
 refine bi rfl fun s11 hs11 => ?_
 exact rt Tryz.results50 rfl
 refine ld 0 rfl rfl ?_
 refine bi rfl fun s14 hs14 => ?_
 refine ld 0 rfl rfl ?_
 refine bi rfl fun s15 hs15 => ?_
 exact rt Tryz.results50 rfl

theorem zh0 (x_trailers : List api_Field) (R : Str × Int) (w0 : World) (hG : zr w0) {x_trailers_p0 : Option Addr} {x_trailers_c0 : Nat} (hs0 : zC w0 x_trailers_p0 (cells za x_trailers)) (hc0 : x_trailers.length ≤ x_trailers_c0) (hm : zcZ x_trailers = some R) :
    Calls Tryz.prog 33 #[.slice x_trailers_p0 x_trailers.length x_trailers_c0] w0 (Ret w0 (fun R => .tuple #[str R.1, int R.2]) R) := by
 rw [zcZ] at hm
 have hF : zq [] := ze
 have hO : Dk.Own w0 [] w0 [] := Dk.Own.refl w0
 have hO := hO.addShr hs0 (by simp [Res.shared])
 refine S.enter tb Tryz.func33 rfl Tryz.ntmps33 rfl ?_ hO hm
 refine rw_ rfl fun a w hf hO hm => ?_
 refine zt (vs := [(0, str [48])]) (cs := [str [48]]) (e := 9) (sz := 1) hf rfl rfl (fun w => by kernel_rfl) rfl rfl hO fun a b2 w hf hO => ?_
 refine S.op tb ?_ hf hO hm
 refine lv [0, 10, 11] [1] (fun J E L k => ∃ (p5 : Option Addr) (c6 : Nat) (l7 : List Str) (i8 : Int), J ((4, .slice p5 l7.length c6) :: (12, int i8) :: E) (.row (.slice p5 l7.length c6) 9 1 l7.length (cells zf l7) :: L) (zbs x_trailers k l7 i8)) rfl (fun _ _ j => ⟨some ⟨b2, 0, none⟩, 1, ([[48]] : List Str), 0, j rfl⟩) ?_
 rintro n1 a w ⟨p5, c6, l7, i8, hf, hO, hm⟩
 obtain _ | n1 := n1
 rw [zbs] at hm
 cases hm
 rw [zbs] at hm
 refine S.co tb ?_ hf hO hm
 refine br rfl (fun hc10 => ?_) fun hc10 => ?_
 refine rw_ rfl fun a w hf hO hm => ?_
 obtain ⟨x12, hx12, hm⟩ := ob hm
 obtain ⟨b13, o14, hix12, hSx12⟩ := zbL (enc := za) (sz := 2) (xs := x_trailers) 33 Tryz.underlying33 zaV (by decide) (fun _ => rfl) (hO.sees (i := 1) rfl) hx12
 refine zG (zh hix12 hf rfl rfl) rfl hf rfl rfl fun a hf => ?_
 refine S.op tb ?_ hf hO hm
 refine vl rfl rfl (fun a w hf hO => zdR (o := 0) (vs := [str x12.Name, str x12.Value]) zf7 zaV (hSx12 _ (hO.sees (i := 1) rfl)) rfl rfl hf rfl) ?_
 refine al zpA rfl fun b15 => ?_
 refine st 0 rfl rfl ?_
 refine ld 0 rfl rfl ?_
 refine cl c_50 rfl (fun r17 w hr17 hO => zk0 x12 r17 _ (hG.own hF hO) hr17) fun r17 hr17 => ?_
 refine br rfl (fun hc20 => ?_) fun hc20 => ?_
 exact rt Tryz.results33 rfl
 refine rw_ rfl fun a w hf hO hm => ?_
 refine zt (vs := [(0, str r17.1)]) (cs := [str r17.1]) (e := 9) (sz := 1) hf rfl rfl (fun w => by kernel_rfl) rfl rfl hO fun a b23 w hf hO => ?_
 refine S.op tb ?_ hf hO hm
 refine rw_ rfl fun a w hf hO hm => ?_
 obtain ⟨hg26, hm⟩ := og hm
 refine zaL zjy (enc := zf) (xs := l7) (ys := ([r17.1] : List Str)) (i := 2) (fun _ => rfl) rfl (hO.rowSees (i := 0) rfl) (by simp [cells, zf, Value.oneCell']) hg26 hf rfl rfl rfl hO fun a p24 c25 w hf hO => ?_
 refine S.op tb ?_ hf hO hm
 refine bi rfl fun i28 hi28 => ?_
 exact ec [2, 3] rfl rfl rfl fun _ _ j => ⟨_, Nat.lt_succ_self _, p24, c25, l7 ++ ([r17.1] : List Str), i28, j rfl⟩
 refine br rfl (fun hc31 => ?_) fun hc31 => ?_
 exact rt Tryz.results33 rfl
 refine rw_ rfl fun a w hf hO hm => ?_
 refine zt (vs := [(0, str []), (1, str [])]) (cs := [str [], str []]) (e := 9) (sz := 1) hf rfl rfl (fun w => by kernel_rfl) rfl rfl hO fun a b34 w hf hO => ?_
 refine S.op tb ?_ hf hO hm
 refine rw_ rfl fun a w hf hO hm => ?_
 obtain ⟨hg37, hm⟩ := og hm
 refine zaL zjy (enc := zf) (xs := l7) (ys := ([[], []] : List Str)) (i := 1) (fun _ => rfl) rfl (hO.rowSees (i := 0) rfl) (by simp [cells, zf, Value.oneCell']) hg37 hf rfl rfl rfl hO fun a p35 c36 w hf hO => ?_
 refine S.op tb ?_ hf hO hm
 refine cl c_63 rfl (fun r38 w hr38 hO => zhm [13, 10] (l7 ++ ([[], []] : List Str)) r38 _ (hG.own hF hO) (hO.rowSees (i := 1) rfl) (hO.rowCap (i := 1) rfl) hr38) fun r38 hr38 => ?_
 exact rt Tryz.results33 rfl

theorem zlX (x_method : Str) (x_m : api_Message) (R : Int) (w0 : World) (hG : zaq w0) {x_m_p0 : Option Addr} {x_m_c0 : Nat} (hs0 : zC w0 x_m_p0 (cells za x_m.Head.Fields)) (hc0 : x_m.Head.Fields.length ≤ x_m_c0) {x_m_p1 : Option Addr} {x_m_c1 : Nat} (hs1 : zC w0 x_m_p1 (cells za x_m.Trailers)) (hc1 : x_m.Trailers.length ≤ x_m_c1) (hm : zeW x_method x_m = some R) :
    Calls Tryz.prog 17 #[str x_method, .agg #[int x_m.Head.Kind, str x_m.Head.Method, str x_m.Head.Target, int x_m.Head.Code, str x_m.Head.Reason, int x_m.Head.Minor, .slice x_m_p0 x_m.Head.Fields.length x_m_c0, int x_m.Frame.Kind, int x_m.Frame.N, str x_m.Body, .slice x_m_p1 x_m.Trailers.length x_m_c1]] w0 (Ret w0 (fun R => int R) R) := by
 rw [zeW] at hm
 have hF : zq [] := ze
 have hO : Dk.Own w0 [] w0 [] := Dk.Own.refl w0
 have hO := hO.addShr hs0 (by simp [Res.shared])
 have hO := hO.addShr hs1 (by simp [Res.shared])
 refine S.enter tb Tryz.func17 rfl Tryz.ntmps17 rfl ?_ hO hm
 refine bo rfl fun b1 => ?_
 refine ld 0 rfl rfl ?_
 refine cl c_30 rfl (fun r3 w hr3 hO => zoU x_m.Head r3 _ (hG.own hF hO) (hO.sees (i := 2) rfl) hc0 hr3) fun r3 hr3 => ?_
 refine br rfl (fun hc6 => ?_) fun hc6 => ?_
 exact rt Tryz.results17 rfl
 refine ld 0 rfl rfl ?_
 refine cl c_31 rfl (fun r9 w hr9 hO => zlZ x_method x_m.Head r9 _ (hG.own hF hO).1 (hO.sees (i := 2) rfl) hc0 hr9) fun r9 hr9 => ?_
 refine al zlQ rfl fun b10 => ?_
 refine st 0 rfl rfl ?_
 refine br rfl (fun hc13 => ?_) fun hc13 => ?_
 exact rt Tryz.results17 rfl
 refine jv 2 [3] [0, 1, 2, 3] (fun J E L => ∃ (t17 : Bool), J ((25, .bool t17) :: E) (L) (zd5 x_m t17)) rfl ?_ ?_
 refine ld 0 rfl rfl ?_
 refine ld 1 rfl rfl ?_
 refine vl rfl rfl (fun a w hf hO => zuu (by kernel_rfl) (zyg r9.1 x_m.Frame) hf rfl rfl) ?_
 refine br rfl (fun hc15 => ?_) fun hc15 => ?_
 exact en rfl fun _ _ j => ⟨true, j rfl⟩
 refine ld 1 rfl rfl ?_
 refine cl c_32 rfl (fun r16 w hr16 hO => zrD x_m r16 _ (hG.own hF hO).1 (hO.sees (i := 3) rfl) hc0 (hO.sees (i := 2) rfl) hc1 hr16) fun r16 hr16 => ?_
 exact en rfl fun _ _ j => ⟨!r16, j rfl⟩
 rintro a w ⟨t17, hf, hO, hm⟩
 rw [zd5] at hm
 refine S.co tb ?_ hf hO hm
 refine br rfl (fun hc18 => ?_) fun hc18 => ?_
 exact rt Tryz.results17 rfl
 refine ld 1 rfl rfl ?_
 refine cl c_33 rfl (fun r21 w hr21 hO => zh0 x_m.Trailers r21 _ (hG.own hF hO).1 (hO.sees (i := 2) rfl) hc1 hr21) fun r21 hr21 => ?_
 exact rt Tryz.results17 rfl

end Go.Proofs
end
section
set_option linter.unusedVariables false
set_option maxHeartbeats 1000000
set_option linter.unusedSimpArgs false
set_option maxRecDepth 100000
namespace Go.Proofs
open Go.Dk Go.Dm Go.RowKit

theorem zuk (x_most : Int) (R : quill_Quill) (w0 : World) (hG : zr w0) (hm : znh x_most = some R) :
    Calls Tryz.prog 47 #[int x_most] w0 fun e w' => ∃ (b0 : Nat) (p1 : Option Addr) (c1 : Nat), e = .returned (ptr b0 0) ∧ Dk.Own w0 [] w' [.blk b0 [.slice p1 R.f_b.length c1, int R.f_most] 156, .row (.slice p1 R.f_b.length c1) 5 1 R.f_b.length (cells zp R.f_b)] := by
 rw [znh] at hm
 have hF : zq [] := ze
 have hO : Dk.Own w0 [] w0 [] := Dk.Own.refl w0
 refine S.enter tb Tryz.func47 rfl Tryz.ntmps47 rfl ?_ hO hm
 refine vl rfl rfl (fun a w hf hO => ex_max (m := x_most) (n := 0) hf rfl rfl) ?_
 refine vl rfl rfl (fun a w hf hO => zg (vs := [(1, int (max x_most 0))]) (v := .agg #[.slice none 0 0, int (max x_most 0)]) hf rfl (by kernel_rfl)) ?_
 refine bo rfl fun b2 => ?_
 refine nl 5 1 ?_
 refine re_ rfl fun a w hf hO hm => ?_
 obtain rfl := Option.some.inj hm
 exact zc Tryz.results47 hf (.tmp rfl .nil) ⟨b2, none, 0, rfl, (hO.choose [1, 0] rfl)⟩

theorem znZ (x_q : quill_Quill) (R : Int) (w0 : World) (hG : zr w0) {x_q_b0 : Nat} {x_q_p1 : Option Addr} {x_q_c1 : Nat} (hs0 : zC w0 (some ⟨x_q_b0, 0, none⟩) [.slice x_q_p1 x_q.f_b.length x_q_c1, int x_q.f_most]) (hs1 : zC w0 x_q_p1 (cells zp x_q.f_b)) (hc1 : x_q.f_b.length ≤ x_q_c1) (hm : zf1 x_q = some R) :
    Calls Tryz.prog 172 #[ptr x_q_b0 0] w0 (Ret w0 (fun R => int R) R) := by
 rw [zf1] at hm
 have hF : zq [] := ze
 have hO : Dk.Own w0 [] w0 [] := Dk.Own.refl w0
 have hO := hO.addShr hs0 (by simp [Res.shared])
 have hO := hO.addShr hs1 (by simp [Res.shared])
 refine S.enter tb Tryz.func172 rfl Tryz.ntmps172 rfl ?_ hO hm
 refine vl rfl rfl (fun a w hf hO => zcL Tryz.underlying112 hf rfl rfl) ?_
 refine kn (b' := false) rfl rfl ?_
 refine rc_ rfl fun a w hf hO hm => ?_
 refine zcO (by kernel_rfl) (by kernel_rfl) hO ?_
 refine zj (fun w hO => zA hf rfl) rfl hf rfl rfl fun a hf => ?_
 refine zj (fun w hO => zac hf rfl) rfl hf rfl rfl fun a hf => ?_
 refine zj (fun w hO => zX zuF hf rfl) rfl hf rfl rfl fun a hf => ?_
 refine zj (fun w hO => zk (o := 1) znm (hO.sees (i := 1) rfl) rfl hf rfl) rfl hf rfl rfl fun a hf => ?_
 refine zj (fun w hO => zA hf rfl) rfl hf rfl rfl fun a hf => ?_
 refine zj (fun w hO => zac hf rfl) rfl hf rfl rfl fun a hf => ?_
 refine zj (fun w hO => zX zuE hf rfl) rfl hf rfl rfl fun a hf => ?_
 refine zj (fun w hO => zk (o := 0) zv1 (hO.sees (i := 1) rfl) rfl hf rfl) rfl hf rfl rfl fun a hf => ?_
 refine zj (fun w hO => zq1 Tryz.underlying141 hf rfl) rfl hf rfl rfl fun a hf => ?_
 obtain ⟨i4, hi4, hm⟩ := ob hm
 refine zj (fun w hO => ztq hf rfl rfl hi4) rfl hf rfl rfl fun a hf => ?_
 refine zj (fun w hO => zay hf rfl) rfl hf rfl rfl fun a hf => ?_
 refine wpQuiet_nil ?_
 intro w hO
 refine S.no tb ?_ hf hO hm
 exact rt Tryz.results172 rfl

theorem zou (x_q : quill_Quill) (x_l : List Str) (R : Int × quill_Quill) (w0 : World) (hG : zr w0) {x_q_b0 : Nat} {x_q_p1 : Option Addr} {x_q_c1 : Nat} {x_l_p2 : Option Addr} {x_l_c2 : Nat} {F : List Nat} (hF : zq F) (hO : Dk.Own w0 F w0 [.blk x_q_b0 [.slice x_q_p1 x_q.f_b.length x_q_c1, int x_q.f_most] 156, .row (.slice x_q_p1 x_q.f_b.length x_q_c1) 5 1 x_q.f_b.length (cells zp x_q.f_b), .shr x_l_p2 (cells zf x_l)]) (hcw0 : x_l.length ≤ x_l_c2) (hm : zgA x_q x_l = some R) :
    Calls Tryz.prog 119 #[ptr x_q_b0 0, .slice x_l_p2 x_l.length x_l_c2] w0 fun e w' => ∃ (p0 : Option Addr) (c0 : Nat), e = .returned (int R.1) ∧ Dk.Own w0 F w' [.blk x_q_b0 [.slice p0 R.2.f_b.length c0, int R.2.f_most] 156, .row (.slice p0 R.2.f_b.length c0) 5 1 R.2.f_b.length (cells zp R.2.f_b)] := by
 rw [zgA] at hm
 refine S.enter tb Tryz.func119 rfl Tryz.ntmps119 rfl ?_ hO hm
 refine vl rfl rfl (fun a w hf hO => zcL Tryz.underlying112 hf rfl rfl) ?_
 refine kn (b' := false) rfl rfl ?_
 refine cl c_172 rfl (fun r4 w hr4 hO => znZ x_q r4 _ (hG.own hF hO) (hO.blkSees (i := 0) rfl) (hO.rowSees (i := 1) rfl) (hO.rowCap (i := 1) rfl) hr4) fun r4 hr4 => ?_
 refine lv [0, 1, 14, 15] [0, 1, 2] (fun J E L k => ∃ (i7 : Int) (i8 : Int), J ((5, int i7) :: (16, int i8) :: E) (L) (zao x_q x_l k i7 i8)) rfl (fun _ _ j => ⟨r4, 0, j rfl⟩) ?_
 rintro n1 a w ⟨i7, i8, hf, hO, hm⟩
 obtain _ | n1 := n1
 rw [zao] at hm
 cases hm
 rw [zao] at hm
 refine S.co tb ?_ hf hO hm
 refine br rfl (fun hc10 => ?_) fun hc10 => ?_
 refine rw_ rfl fun a w hf hO hm => ?_
 obtain ⟨x12, hx12, hm⟩ := ob hm
 obtain ⟨b13, o14, hix12, hSx12⟩ := zbL (enc := zf) (sz := 1) (xs := x_l) 30 Tryz.underlying30 zdD (by decide) (fun _ => rfl) (hO.sees (i := 2) rfl) hx12
 refine zG (zh hix12 hf rfl rfl) rfl hf rfl rfl fun a hf => ?_
 refine S.op tb ?_ hf hO hm
 refine vl rfl rfl (fun a w hf hO => zk (o := 0) zbx (hSx12 _ (hO.sees (i := 2) rfl)) rfl hf rfl) ?_
 refine br rfl (fun hc17 => ?_) fun hc17 => ?_
 refine re_ rfl fun a w hf hO hm => ?_
 obtain rfl := Option.some.inj hm
 exact zc Tryz.results119 hf (.tmp rfl .nil) ⟨x_q_p1, x_q_c1, rfl, (hO.sub (.cons_cons _ (.cons_cons _ (.cons _ .slnil))))⟩
 refine bi rfl fun i20 hi20 => ?_
 refine bi rfl fun i22 hi22 => ?_
 exact en rfl fun _ _ j => ⟨_, Nat.lt_succ_self _, i20, i22, j rfl⟩
 refine jv 0 [] [2] (fun J E L => ∃ (p42 : Option Addr) (c43 : Nat) (l44 : List UInt8) (i45 : Int), J (E) (.blk x_q_b0 [.slice p42 l44.length c43, int i45] 156 :: .row (.slice p42 l44.length c43) 5 1 l44.length (cells zp l44) :: L) (zgM l44 i45)) rfl ?_ ?_
 refine lv [0, 29, 30] [2] (fun J E L k => ∃ (p25 : Option Addr) (c26 : Nat) (l27 : List UInt8) (i28 : Int) (i29 : Int), J ((31, int i29) :: E) (.blk x_q_b0 [.slice p25 l27.length c26, int i28] 156 :: .row (.slice p25 l27.length c26) 5 1 l27.length (cells zp l27) :: L) (zaa x_l k l27 i28 i29)) rfl (fun _ _ j => ⟨x_q_p1, x_q_c1, x_q.f_b, x_q.f_most, 0, j rfl⟩) ?_
 rintro n2 a w ⟨p25, c26, l27, i28, i29, hf, hO, hm⟩
 obtain _ | n2 := n2
 rw [zaa] at hm
 cases hm
 rw [zaa] at hm
 refine S.co tb ?_ hf hO hm
 refine br rfl (fun hc31 => ?_) fun hc31 => ?_
 refine rw_ rfl fun a w hf hO hm => ?_
 obtain ⟨x33, hx33, hm⟩ := ob hm
 obtain ⟨b34, o35, hix33, hSx33⟩ := zbL (enc := zf) (sz := 1) (xs := x_l) 30 Tryz.underlying30 zdD (by decide) (fun _ => rfl) (hO.sees (i := 2) rfl) hx33
 refine zG (zh hix33 hf rfl rfl) rfl hf rfl rfl fun a hf => ?_
 refine S.op tb ?_ hf hO hm
 refine vl rfl rfl (fun a w hf hO => zk (o := 0) zbx (hSx33 _ (hO.sees (i := 2) rfl)) rfl hf rfl) ?_
 refine ld 0 rfl rfl ?_
 refine rw_ rfl fun a w hf hO hm => ?_
 obtain ⟨hg39, hm⟩ := og hm
 refine zvP (en := zp) (xs := l27) (s := x33) (i := 1) (fun _ => rfl) zye rfl hg39 hf rfl rfl rfl hO fun a p37 c38 w hf hO => ?_
 refine S.op tb ?_ hf hO hm
 refine st 0 rfl rfl ?_
 refine bi rfl fun i41 hi41 => ?_
 exact en rfl fun _ _ j => ⟨_, Nat.lt_succ_self _, p37, c38, l27 ++ x33, i28, i41, j rfl⟩
 exact en rfl fun _ _ j => ⟨p25, c26, l27, i28, j rfl⟩
 rintro a w ⟨p42, c43, l44, i45, hf, hO, hm⟩
 rw [zgM] at hm
 refine S.co tb ?_ hf hO hm
 refine re_ rfl fun a w hf hO hm => ?_
 obtain rfl := Option.some.inj hm
 exact zc Tryz.results119 hf (.tmp rfl .nil) ⟨p42, c43, rfl, (hO.sub (.cons_cons _ (.cons_cons _ (.cons _ .slnil))))⟩

theorem zn0 (x_q : quill_Quill) (x_l : List Str) (R : Int × quill_Quill) (w0 : World) (hG : zr w0) {x_q_b0 : Nat} {x_q_p1 : Option Addr} {x_q_c1 : Nat} {x_l_p2 : Option Addr} {x_l_c2 : Nat} {F : List Nat} (hF : zq F) (hO : Dk.Own w0 F w0 [.blk x_q_b0 [.slice x_q_p1 x_q.f_b.length x_q_c1, int x_q.f_most] 156, .row (.slice x_q_p1 x_q.f_b.length x_q_c1) 5 1 x_q.f_b.length (cells zp x_q.f_b), .shr x_l_p2 (cells zf x_l)]) (hcw0 : x_l.length ≤ x_l_c2) (hm : zf2 x_q x_l = some R) :
    Calls Tryz.prog 81 #[ptr x_q_b0 0, .slice x_l_p2 x_l.length x_l_c2] w0 fun e w' => ∃ (p0 : Option Addr) (c0 : Nat), e = .returned (int R.1) ∧ Dk.Own w0 F w' [.blk x_q_b0 [.slice p0 R.2.f_b.length c0, int R.2.f_most] 156, .row (.slice p0 R.2.f_b.length c0) 5 1 R.2.f_b.length (cells zp R.2.f_b)] := by
 rw [zf2] at hm
 refine S.enter tb Tryz.func81 rfl Tryz.ntmps81 rfl ?_ hO hm
 refine rw_ rfl fun a w hf hO hm => ?_
 refine zt (vs := []) (cs := []) (e := 9) (sz := 1) hf rfl rfl (fun w => by kernel_rfl) rfl rfl hO fun a b2 w hf hO => ?_
 refine S.op tb ?_ hf hO hm
 refine rw_ rfl fun a w hf hO hm => ?_
 obtain ⟨hg5, hm⟩ := og hm
 refine zlu zjy (enc := zf) (xs := []) (ys := x_l) (i := 0) (fun _ => rfl) rfl (hO.sees (i := 3) rfl) (by simp [zf, Value.oneCell']) hg5 hf rfl rfl rfl hO fun a p3 c4 w hf hO => ?_
 refine S.op tb ?_ hf hO hm
 refine rw_ rfl fun a w hf hO hm => ?_
 refine zt (vs := [(0, str [13, 10])]) (cs := [str [13, 10]]) (e := 9) (sz := 1) hf rfl rfl (fun w => by kernel_rfl) rfl rfl hO fun a b6 w hf hO => ?_
 refine S.op tb ?_ hf hO hm
 refine rw_ rfl fun a w hf hO hm => ?_
 obtain ⟨hg9, hm⟩ := og hm
 refine zaL zjy (enc := zf) (xs := x_l) (ys := ([[13, 10]] : List Str)) (i := 1) (fun _ => rfl) rfl (hO.rowSees (i := 0) rfl) (by simp [cells, zf, Value.oneCell']) hg9 hf rfl rfl rfl hO fun a p7 c8 w hf hO => ?_
 refine S.op tb ?_ hf hO hm
 refine cw2 c_119 [2, 3, 0, 1, 4] 2 [.shr p7 (cells zf (x_l ++ ([[13, 10]] : List Str)))] rfl (fun r10 w hr10 hO hfar13 hlend13 => zou x_q (x_l ++ ([[13, 10]] : List Str)) r10 _ (hG.own hF hO) hfar13 hlend13 (hO.rowCap (i := 1) rfl) hr10) (fun w hO => ⟨zun (hO.rowSees (i := 1) rfl) (List.mem_of_getElem? (i := 1) rfl), trivial⟩) hF hG.size fun r10 hr10 p11 c12 => ?_
 refine re_ rfl fun a w hf hO hm => ?_
 obtain rfl := Option.some.inj hm
 exact zc Tryz.results81 hf (.tmp rfl .nil) ⟨p11, c12, rfl, (hO.sub (.cons_cons _ (.cons_cons _ (.cons _ (.cons _ (.cons _ .slnil))))))⟩

theorem zf6 (x_p : head_printer) (x_s : Str) (R : head_printer) (w0 : World) (hG : zr w0) {x_p_b0 : Nat} {x_p_b1 : Nat} {x_p_p2 : Option Addr} {x_p_c2 : Nat} {F : List Nat} (hF : zq F) (hO : Dk.Own w0 F w0 [.blk x_p_b0 [ptr x_p_b1 0, .bool x_p.f_full] 115, .blk x_p_b1 [.slice x_p_p2 x_p.Quill.f_b.length x_p_c2, int x_p.Quill.f_most] 156, .row (.slice x_p_p2 x_p.Quill.f_b.length x_p_c2) 5 1 x_p.Quill.f_b.length (cells zp x_p.Quill.f_b)]) (hm : zbt x_p x_s = some R) :
    Calls Tryz.prog 49 #[ptr x_p_b0 0, str x_s] w0 fun e w' => ∃ (p0 : Option Addr) (c0 : Nat), e = .returned (.tuple #[]) ∧ Dk.Own w0 F w' [.blk x_p_b0 [ptr x_p_b1 0, .bool R.f_full] 115, .blk x_p_b1 [.slice p0 R.Quill.f_b.length c0, int R.Quill.f_most] 156, .row (.slice p0 R.Quill.f_b.length c0) 5 1 R.Quill.f_b.length (cells zp R.Quill.f_b)] := by
 rw [zbt] at hm
 refine S.enter tb Tryz.func49 rfl Tryz.ntmps49 rfl ?_ hO hm
 refine ld 0 rfl rfl ?_
 refine rw_ rfl fun a w hf hO hm => ?_
 refine zt (vs := [(0, str x_s)]) (cs := [str x_s]) (e := 9) (sz := 1) hf rfl rfl (fun w => by kernel_rfl) rfl rfl hO fun a b1 w hf hO => ?_
 refine S.op tb ?_ hf hO hm
 refine cw2 c_81 [2, 3, 0, 1] 2 [.shr (some ⟨b1, 0, none⟩) (cells zf ([x_s] : List Str))] rfl (fun r2 w hr2 hO hfar5 hlend5 => zn0 x_p.Quill ([x_s] : List Str) r2 _ (hG.own hF hO) hfar5 hlend5 (hO.rowCap (i := 0) rfl) hr2) (fun w hO => ⟨zun (hO.rowSees (i := 0) rfl) (List.mem_of_getElem? (i := 0) rfl), trivial⟩) hF hG.size fun r2 hr2 p3 c4 => ?_
 refine br rfl (fun hc6 => ?_) fun hc6 => ?_
 refine st 3 rfl rfl ?_
 refine rn_ rfl fun a w hf hO hm => ?_
 obtain rfl := Option.some.inj hm
 exact zoC Tryz.results49 hf .nil ⟨p3, c4, rfl, (hO.choose [3, 0, 1] rfl)⟩
 refine ld 3 rfl rfl ?_
 refine st 3 rfl rfl ?_
 refine rn_ rfl fun a w hf hO hm => ?_
 obtain rfl := Option.some.inj hm
 exact zoC Tryz.results49 hf .nil ⟨p3, c4, rfl, (hO.choose [3, 0, 1] rfl)⟩

theorem zn1 (x_q : quill_Quill) (R : Str) (w0 : World) (hG : zr w0) {x_q_b0 : Nat} {x_q_p1 : Option Addr} {x_q_c1 : Nat} (hs0 : zC w0 (some ⟨x_q_b0, 0, none⟩) [.slice x_q_p1 x_q.f_b.length x_q_c1, int x_q.f_most]) (hs1 : zC w0 x_q_p1 (cells zp x_q.f_b)) (hc1 : x_q.f_b.length ≤ x_q_c1) (hm : zig x_q = some R) :
    Calls Tryz.prog 51 #[ptr x_q_b0 0] w0 (Ret w0 (fun R => str R) R) := by
 rw [zig] at hm
 have hF : zq [] := ze
 have hO : Dk.Own w0 [] w0 [] := Dk.Own.refl w0
 have hO := hO.addShr hs0 (by simp [Res.shared])
 have hO := hO.addShr hs1 (by simp [Res.shared])
 refine S.enter tb Tryz.func51 rfl Tryz.ntmps51 rfl ?_ hO hm
 refine vl rfl rfl (fun a w hf hO => zcL Tryz.underlying112 hf rfl rfl) ?_
 refine kn (b' := false) rfl rfl ?_
 refine ld 1 rfl rfl ?_
 refine vl rfl rfl (fun a w hf hO => zln (en := zp) (l := x_q.f_b) (fun _ => rfl) Tryz.underlying9 Tryz.underlying141 Tryz.underlying5 (hO.sees (i := 0) rfl) hf rfl) ?_
 exact rt Tryz.results51 rfl

theorem ztj (x_h : api_Head) (x_limit : Int) (R : Str × Int) (w0 : World) (hG : zaq w0) {x_h_p0 : Option Addr} {x_h_c0 : Nat} (hs0 : zC w0 x_h_p0 (cells za x_h.Fields)) (hc0 : x_h.Fields.length ≤ x_h_c0) (hm : zjQ x_h x_limit = some R) :
    Calls Tryz.prog 26 #[.agg #[int x_h.Kind, str x_h.Method, str x_h.Target, int x_h.Code, str x_h.Reason, int x_h.Minor, .slice x_h_p0 x_h.Fields.length x_h_c0], int x_limit] w0 (Ret w0 (fun R => .tuple #[str R.1, int R.2]) R) := by
 rw [zjQ] at hm
 have hF : zq [] := ze
 have hO : Dk.Own w0 [] w0 [] := Dk.Own.refl w0
 have hO := hO.addShr hs0 (by simp [Res.shared])
 refine S.enter tb Tryz.func26 rfl Tryz.ntmps26 rfl ?_ hO hm
 refine bo rfl fun b1 => ?_
 refine ld 0 rfl rfl ?_
 refine cl c_30 rfl (fun r3 w hr3 hO => zoU x_h r3 _ (hG.own hF hO) (hO.sees (i := 1) rfl) hc0 hr3) fun r3 hr3 => ?_
 refine br rfl (fun hc6 => ?_) fun hc6 => ?_
 exact rt Tryz.results26 rfl
 refine cm3 c_47 rfl (fun r9 w hr9 hO => zuk x_limit r9 _ (hG.own hF hO).1 hr9) fun r9 hr9 b10 p11 c12 => ?_
 refine vl rfl rfl (fun a w hf hO => zg (vs := [(0, ptr b10 0)]) (v := .agg #[ptr b10 0, .bool false]) hf rfl (by kernel_rfl)) ?_
 refine bo rfl fun b13 => ?_
 refine ld 3 rfl rfl ?_
 refine cl c_48 rfl (fun r15 w hr15 hO => zkZ x_h r15 _ (hG.own hF hO) (hO.sees (i := 4) rfl) hc0 hr15) fun r15 hr15 => ?_
 refine cw2 c_49 [0, 1, 2, 3, 4] 3 [] rfl (fun r17 w hr17 hO hfar20 hlend20 => zf6 (⟨r9, false⟩ : head_printer) r15.1 r17 _ (hG.own hF hO).1 hfar20 hlend20 hr17) (fun _ _ => trivial) hF hG.size fun r17 hr17 p18 c19 => ?_
 refine jv 0 [7] [3, 4] (fun J E L => ∃ (t45 : Bool) (p46 : Option Addr) (c47 : Nat) (l48 : List UInt8) (i49 : Int), J (E) (.blk b13 [ptr b10 0, .bool t45] 115 :: .blk b10 [.slice p46 l48.length c47, int i49] 156 :: .row (.slice p46 l48.length c47) 5 1 l48.length (cells zp l48) :: L) (zgs t45 l48 i49)) rfl ?_ ?_
 refine ld 3 rfl rfl ?_
 refine lv [7, 32, 33] [3, 4] (fun J E L k => ∃ (t23 : Bool) (p24 : Option Addr) (c25 : Nat) (l26 : List UInt8) (i27 : Int) (i28 : Int), J ((34, int i28) :: E) (.blk b13 [ptr b10 0, .bool t23] 115 :: .blk b10 [.slice p24 l26.length c25, int i27] 156 :: .row (.slice p24 l26.length c25) 5 1 l26.length (cells zp l26) :: L) (zdx x_h k t23 l26 i27 i28)) rfl (fun _ _ j => ⟨r17.f_full, p18, c19, r17.Quill.f_b, r17.Quill.f_most, 0, j rfl⟩) ?_
 rintro n1 a w ⟨t23, p24, c25, l26, i27, i28, hf, hO, hm⟩
 obtain _ | n1 := n1
 rw [zdx] at hm
 cases hm
 rw [zdx] at hm
 refine S.co tb ?_ hf hO hm
 refine br rfl (fun hc30 => ?_) fun hc30 => ?_
 refine rw_ rfl fun a w hf hO hm => ?_
 obtain ⟨x32, hx32, hm⟩ := ob hm
 obtain ⟨b33, o34, hix32, hSx32⟩ := zbL (enc := za) (sz := 2) (xs := x_h.Fields) 33 Tryz.underlying33 zaV (by decide) (fun _ => rfl) (hO.sees (i := 4) rfl) hx32
 refine zG (zh hix32 hf rfl rfl) rfl hf rfl rfl fun a hf => ?_
 refine S.op tb ?_ hf hO hm
 refine vl rfl rfl (fun a w hf hO => zdR (o := 0) (vs := [str x32.Name, str x32.Value]) zf7 zaV (hSx32 _ (hO.sees (i := 4) rfl)) rfl rfl hf rfl) ?_
 refine al zpA rfl fun b35 => ?_
 refine st 0 rfl rfl ?_
 refine ld 0 rfl rfl ?_
 refine cl c_50 rfl (fun r37 w hr37 hO => zk0 x32 r37 _ (hG.own hF hO).1 hr37) fun r37 hr37 => ?_
 refine cw2 c_49 [1, 2, 3, 0, 4, 5] 3 [] rfl (fun r39 w hr39 hO hfar42 hlend42 => zf6 ((⟨(⟨l26, i27⟩ : quill_Quill), t23⟩ : head_printer)) r37.1 r39 _ (hG.own hF hO).1 hfar42 hlend42 hr39) (fun _ _ => trivial) hF hG.size fun r39 hr39 p40 c41 => ?_
 refine bi rfl fun i44 hi44 => ?_
 exact ec [0, 1, 2, 4, 5] rfl rfl rfl fun _ _ j => ⟨_, Nat.lt_succ_self _, r39.f_full, p40, c41, r39.Quill.f_b, r39.Quill.f_most, i44, j rfl⟩
 exact en rfl fun _ _ j => ⟨t23, p24, c25, l26, i27, j rfl⟩
 rintro a w ⟨t45, p46, c47, l48, i49, hf, hO, hm⟩
 rw [zgs] at hm
 refine S.co tb ?_ hf hO hm
 refine cw2 c_49 [0, 1, 2, 3, 4] 3 [] rfl (fun r50 w hr50 hO hfar53 hlend53 => zf6 ((⟨(⟨l48, i49⟩ : quill_Quill), t45⟩ : head_printer)) [] r50 _ (hG.own hF hO).1 hfar53 hlend53 hr50) (fun _ _ => trivial) hF hG.size fun r50 hr50 p51 c52 => ?_
 refine ld 0 rfl rfl ?_
 refine br rfl (fun hc56 => ?_) fun hc56 => ?_
 exact rt Tryz.results26 rfl
 refine ld 0 rfl rfl ?_
 refine cl c_51 rfl (fun r59 w hr59 hO => zn1 r50.Quill r59 _ (hG.own hF hO).1 (hO.blkSees (i := 1) rfl) (hO.rowSees (i := 2) rfl) (hO.rowCap (i := 2) rfl) hr59) fun r59 hr59 => ?_
 exact rt Tryz.results26 rfl

theorem zsd (x_size : Int) (R : Option enchunk_Encoder × Int) (w0 : World) (hG : zr w0) (hm : zkl x_size = some R) :
    Calls Tryz.prog 52 #[int x_size] w0 fun e w' => zpI R.1 (e = .returned (.tuple #[.pointer none, int R.2]) ∧ Below w0.heap.size w0 w') (fun x => ∃ (b0 : Nat), e = .returned (.tuple #[ptr b0 0, int R.2]) ∧ Dk.Own w0 [] w' [.blk b0 [int x.f_size, str x.f_buf, .bool x.f_done] 162]) := by
 rw [zkl] at hm
 have hF : zq [] := ze
 have hO : Dk.Own w0 [] w0 [] := Dk.Own.refl w0
 refine S.enter tb Tryz.func52 rfl Tryz.ntmps52 rfl ?_ hO hm
 refine jv 1 [0] [] (fun J E L => ∃ (t3 : Bool), J ((9, .bool t3) :: E) (L) (zfJ x_size t3)) rfl ?_ ?_
 refine br rfl (fun hc2 => ?_) fun hc2 => ?_
 exact en rfl fun _ _ j => ⟨true, j rfl⟩
 exact en rfl fun _ _ j => ⟨decide (65536 < x_size), j rfl⟩
 rintro a w ⟨t3, hf, hO, hm⟩
 rw [zfJ] at hm
 refine S.co tb ?_ hf hO hm
 refine br rfl (fun hc4 => ?_) fun hc4 => ?_
 refine re_ rfl fun a w hf hO hm => ?_
 obtain rfl := Option.some.inj hm
 exact zc Tryz.results52 hf (.tmp rfl (.tmp rfl .nil)) ⟨rfl, hO.below⟩
 refine vl rfl rfl (fun a w hf hO => zg (vs := [(0, int x_size)]) (v := .agg #[int x_size, str [], .bool false]) hf rfl (by kernel_rfl)) ?_
 refine bo rfl fun b7 => ?_
 refine re_ rfl fun a w hf hO hm => ?_
 obtain rfl := Option.some.inj hm
 exact zc Tryz.results52 hf (.tmp rfl (.tmp rfl .nil)) ⟨b7, rfl, hO⟩

theorem zgQ (x_c : enchunk_Encoder) (R : Int) (w0 : World) (hG : zr w0) {x_c_b0 : Nat} (hs0 : zC w0 (some ⟨x_c_b0, 0, none⟩) [int x_c.f_size, str x_c.f_buf, .bool x_c.f_done]) (hm : zaU x_c = some R) :
    Calls Tryz.prog 82 #[ptr x_c_b0 0] w0 (Ret w0 (fun R => int R) R) := by
 rw [zaU] at hm
 have hF : zq [] := ze
 have hO : Dk.Own w0 [] w0 [] := Dk.Own.refl w0
 have hO := hO.addShr hs0 (by simp [Res.shared])
 refine S.enter tb Tryz.func82 rfl Tryz.ntmps82 rfl ?_ hO hm
 refine vl rfl rfl (fun a w hf hO => zcL Tryz.underlying120 hf rfl rfl) ?_
 refine kn (b' := false) rfl rfl ?_
 refine ld 0 rfl rfl ?_
 refine br rfl (fun hc4 => ?_) fun hc4 => ?_
 exact rt Tryz.results82 rfl
 exact rt Tryz.results82 rfl

theorem zov (x_n : Int) (R : Str) (w0 : World) (hG : zaq w0) (hm : zgB x_n = some R) :
    Calls Tryz.prog 173 #[int x_n] w0 (Ret w0 (fun R => str R) R) := by
 rw [zgB] at hm
 have hF : zq [] := ze
 have hO : Dk.Own w0 [] w0 [] := Dk.Own.refl w0
 refine S.enter tb Tryz.func173 rfl Tryz.ntmps173 rfl ?_ hO hm
 refine cl c_115 rfl (fun r2 w hr2 hO => zm0 x_n 16 r2 _ (hG.own hF hO) hr2) fun r2 hr2 => ?_
 exact rt Tryz.results173 rfl

theorem zpr (x_n : Int) (R : Str) (w0 : World) (hG : zaq w0) (hm : zfK x_n = some R) :
    Calls Tryz.prog 120 #[int x_n] w0 (Ret w0 (fun R => str R) R) := by
 rw [zfK] at hm
 have hF : zq [] := ze
 have hO : Dk.Own w0 [] w0 [] := Dk.Own.refl w0
 refine S.enter tb Tryz.func120 rfl Tryz.ntmps120 rfl ?_ hO hm
 refine cl c_173 rfl (fun r2 w hr2 hO => zov x_n r2 _ (hG.own hF hO) hr2) fun r2 hr2 => ?_
 exact rt Tryz.results120 rfl

theorem zj5 (x_data : Str) (R : Str) (w0 : World) (hG : zaq w0) (hm : zda x_data = some R) :
    Calls Tryz.prog 83 #[str x_data] w0 (Ret w0 (fun R => str R) R) := by
 rw [zda] at hm
 have hF : zq [] := ze
 have hO : Dk.Own w0 [] w0 [] := Dk.Own.refl w0
 refine S.enter tb Tryz.func83 rfl Tryz.ntmps83 rfl ?_ hO hm
 refine br rfl (fun hc3 => ?_) fun hc3 => ?_
 exact rt Tryz.results83 rfl
 refine cl c_120 rfl (fun r6 w hr6 hO => zpr (x_data.length : Int) r6 _ (hG.own hF hO) hr6) fun r6 hr6 => ?_
 refine rw_ rfl fun a w hf hO hm => ?_
 refine zt (vs := [(0, str r6), (1, str x_data), (2, str [])]) (cs := [str r6, str x_data, str []]) (e := 9) (sz := 1) hf rfl rfl (fun w => by kernel_rfl) rfl rfl hO fun a b7 w hf hO => ?_
 refine S.op tb ?_ hf hO hm
 refine cl c_63 rfl (fun r8 w hr8 hO => zhm [13, 10] ([r6, x_data, []] : List Str) r8 _ (hG.own hF hO).1 (hO.rowSees (i := 0) rfl) (hO.rowCap (i := 0) rfl) hr8) fun r8 hr8 => ?_
 exact rt Tryz.results83 rfl

end Go.Proofs
end
section
set_option linter.unusedVariables false
set_option maxHeartbeats 1000000
set_option linter.unusedSimpArgs false
set_option maxRecDepth 100000
namespace Go.Proofs
open Go.Dk Go.Dm Go.RowKit

theorem zhR (x_b : body_Body) (R : Bool) (w0 : World) (hG : zr w0) {x_b_b0 : Nat} (hs0 : zC w0 (some ⟨x_b_b0, 0, none⟩) [.pointer none, int x_b.f_frame.Kind, int x_b.f_frame.N, int x_b.f_left, .bool x_b.f_done, .bool x_b.f_bad]) (hm : zdL x_b = some R) :
    Calls Tryz.prog 75 #[ptr x_b_b0 0] w0 (Ret w0 (fun R => .bool R) R) := by
 rw [zdL] at hm
 have hF : zq [] := ze
 have hO : Dk.Own w0 [] w0 [] := Dk.Own.refl w0
 have hO := hO.addShr hs0 (by simp [Res.shared])
 refine S.enter tb Tryz.func75 rfl Tryz.ntmps75 rfl ?_ hO hm
 refine vl rfl rfl (fun a w hf hO => zpv Tryz.underlying101 hf rfl rfl) ?_
 refine kn (b' := true) rfl rfl ?_
 refine ld 0 rfl rfl ?_
 exact rt Tryz.results75 rfl

theorem zj1 (x_s : Str) (R : Int × Str × Bool × Int) (w0 : World) (hG : zr w0) (hm : zdY x_s = some R) :
    Calls Tryz.prog 113 #[.pointer none, str x_s] w0 (Ret w0 (fun R => .tuple #[int R.1, str R.2.1, .bool R.2.2.1, int R.2.2.2]) R) := by
 rw [zdY] at hm
 have hF : zq [] := ze
 have hO : Dk.Own w0 [] w0 [] := Dk.Own.refl w0
 refine S.enter tb Tryz.func113 rfl Tryz.ntmps113 rfl ?_ hO hm
 refine vl rfl rfl (fun a w hf hO => zpw Tryz.underlying146 hf rfl rfl) ?_
 refine kn (b' := true) rfl rfl ?_
 exact rt Tryz.results113 rfl

theorem zme (x_a0 : body_Body) (x_a1 : Str) (R : Int × Str × Bool × Int × body_Body) (w0 : World) (hG : zr w0) {x_a0_b0 : Nat} {F : List Nat} (hF : zq F) (hO : Dk.Own w0 F w0 [.blk x_a0_b0 [.pointer none, int x_a0.f_frame.Kind, int x_a0.f_frame.N, int x_a0.f_left, .bool x_a0.f_done, .bool x_a0.f_bad] 150]) (hm : zf9 x_a0 x_a1 = some R) :
    Calls Tryz.prog 76 #[ptr x_a0_b0 0, str x_a1] w0 fun e w' => e = .returned (.tuple #[int R.1, str R.2.1, .bool R.2.2.1, int R.2.2.2.1]) ∧ Dk.Own w0 F w' [.blk x_a0_b0 [.pointer none, int R.2.2.2.2.f_frame.Kind, int R.2.2.2.2.f_frame.N, int R.2.2.2.2.f_left, .bool R.2.2.2.2.f_done, .bool R.2.2.2.2.f_bad] 150] := by
 rw [zf9] at hm
 refine S.enter tb Tryz.func76 rfl Tryz.ntmps76 rfl ?_ hO hm
 refine vl rfl rfl (fun a w hf hO => zcL Tryz.underlying101 hf rfl rfl) ?_
 refine kn (b' := false) rfl rfl ?_
 refine jv 2 [0, 1] [0] (fun J E L => ∃ (t4 : Bool), J ((11, .bool t4) :: E) (L) (zcv x_a0 x_a1 t4)) rfl ?_ ?_
 refine ld 0 rfl rfl ?_
 refine br rfl (fun hc3 => ?_) fun hc3 => ?_
 exact en rfl fun _ _ j => ⟨true, j rfl⟩
 refine ld 0 rfl rfl ?_
 exact en rfl fun _ _ j => ⟨x_a0.f_bad, j rfl⟩
 rintro a w ⟨t4, hf, hO, hm⟩
 rw [zcv] at hm
 refine S.co tb ?_ hf hO hm
 refine br rfl (fun hc5 => ?_) fun hc5 => ?_
 refine re_ rfl fun a w hf hO hm => ?_
 obtain rfl := Option.some.inj hm
 exact zc Tryz.results76 hf (.tmp rfl (.tmp rfl (.tmp rfl (.tmp rfl .nil)))) ⟨rfl, hO⟩
 refine jv 0 [0, 1] [] (fun J E L => ∃ (i21 : Int) (i22 : Int) (t23 : Bool), J ((4, int i21) :: E) (.blk x_a0_b0 [.pointer none, int x_a0.f_frame.Kind, int x_a0.f_frame.N, int i22, .bool t23, .bool x_a0.f_bad] 150 :: L) (zcu x_a0 x_a1 i21 i22 t23)) rfl ?_ ?_
 refine ld 0 rfl rfl ?_
 refine br rfl (fun hc11 => ?_) fun hc11 => ?_
 refine ld 0 rfl rfl ?_
 refine cl c_113 rfl (fun r12 w hr12 hO => zj1 x_a1 r12 _ (hG.own hF hO) hr12) fun r12 hr12 => ?_
 refine st 0 rfl rfl ?_
 refine st 0 rfl rfl ?_
 refine re_ rfl fun a w hf hO hm => ?_
 obtain rfl := Option.some.inj hm
 exact zc Tryz.results76 hf (.tmp rfl (.tmp rfl (.tmp rfl (.tmp rfl .nil)))) ⟨rfl, hO⟩
 refine br rfl (fun hc17 => ?_) fun hc17 => ?_
 refine ld 0 rfl rfl ?_
 refine vl rfl rfl (fun a w hf hO => zq2 (m := (x_a1.length : Int)) (n := x_a0.f_left) hf rfl rfl) ?_
 refine ld 0 rfl rfl ?_
 refine bi rfl fun i19 hi19 => ?_
 refine st 0 rfl rfl ?_
 refine ld 0 rfl rfl ?_
 refine st 0 rfl rfl ?_
 exact en rfl fun _ _ j => ⟨min (x_a1.length : Int) x_a0.f_left, i19, i19 == 0, j rfl⟩
 exact en rfl fun _ _ j => ⟨(x_a1.length : Int), x_a0.f_left, x_a0.f_done, j rfl⟩
 rintro a w ⟨i21, i22, t23, hf, hO, hm⟩
 rw [zcu] at hm
 refine S.co tb ?_ hf hO hm
 refine rc_ rfl fun a w hf hO hm => ?_
 refine zcO (by kernel_rfl) (by kernel_rfl) hO ?_
 refine zj (fun w hO => zA hf rfl) rfl hf rfl rfl fun a hf => ?_
 refine zj (fun w hO => zA hf rfl) rfl hf rfl rfl fun a hf => ?_
 refine zj (fun w hO => zA hf rfl) rfl hf rfl rfl fun a hf => ?_
 obtain ⟨s24, hs24, hm⟩ := ob hm
 refine zj (fun w hO => zoB (l := x_a1) Tryz.underlying9 hf rfl rfl hs24) rfl hf rfl rfl fun a hf => ?_
 refine zj (fun w hO => zA hf rfl) rfl hf rfl rfl fun a hf => ?_
 refine zj (fun w hO => zac hf rfl) rfl hf rfl rfl fun a hf => ?_
 refine zj (fun w hO => zX zuD hf rfl) rfl hf rfl rfl fun a hf => ?_
 refine zj (fun w hO => zk (o := 4) ag_4 (hO.blkSees (i := 0) rfl) rfl hf rfl) rfl hf rfl rfl fun a hf => ?_
 refine zj (fun w hO => zay hf rfl) rfl hf rfl rfl fun a hf => ?_
 refine zj (fun w hO => zay hf rfl) rfl hf rfl rfl fun a hf => ?_
 refine zj (fun w hO => zay hf rfl) rfl hf rfl rfl fun a hf => ?_
 refine zj (fun w hO => zay hf rfl) rfl hf rfl rfl fun a hf => ?_
 refine wpQuiet_nil ?_
 intro w hO
 refine S.no tb ?_ hf hO hm
 refine re_ rfl fun a w hf hO hm => ?_
 obtain rfl := Option.some.inj hm
 exact zc Tryz.results76 hf (.tmp rfl (.tmp rfl (.tmp rfl (.tmp rfl .nil)))) ⟨rfl, hO⟩

theorem zm1 (x_b : body_Body) (R : Bool × Int × body_Body) (w0 : World) (hG : zr w0) {x_b_b0 : Nat} {F : List Nat} (hF : zq F) (hO : Dk.Own w0 F w0 [.blk x_b_b0 [.pointer none, int x_b.f_frame.Kind, int x_b.f_frame.N, int x_b.f_left, .bool x_b.f_done, .bool x_b.f_bad] 150]) (hm : zgK x_b = some R) :
    Calls Tryz.prog 77 #[ptr x_b_b0 0] w0 fun e w' => e = .returned (.tuple #[.bool R.1, int R.2.1]) ∧ Dk.Own w0 F w' [.blk x_b_b0 [.pointer none, int R.2.2.f_frame.Kind, int R.2.2.f_frame.N, int R.2.2.f_left, .bool R.2.2.f_done, .bool R.2.2.f_bad] 150] := by
 rw [zgK] at hm
 refine S.enter tb Tryz.func77 rfl Tryz.ntmps77 rfl ?_ hO hm
 refine jv 0 [] [] (fun J E L => ∃ (t8 : Bool), J (E) (.blk x_b_b0 [.pointer none, int x_b.f_frame.Kind, int x_b.f_frame.N, int x_b.f_left, .bool t8, .bool x_b.f_bad] 150 :: L) (zc2 x_b t8)) rfl ?_ ?_
 refine vl rfl rfl (fun a w hf hO => zcL Tryz.underlying101 hf rfl rfl) ?_
 refine kn (b' := false) rfl rfl ?_
 refine ld 0 rfl rfl ?_
 refine br rfl (fun hc4 => ?_) fun hc4 => ?_
 refine st 0 rfl rfl ?_
 exact en rfl fun _ _ j => ⟨true, j rfl⟩
 refine ld 0 rfl rfl ?_
 refine br rfl (fun hc6 => ?_) fun hc6 => ?_
 refine re_ rfl fun a w hf hO hm => ?_
 obtain rfl := Option.some.inj hm
 exact zc Tryz.results77 hf (.tmp rfl (.tmp rfl .nil)) ⟨rfl, hO⟩
 exact en rfl fun _ _ j => ⟨x_b.f_done, j rfl⟩
 rintro a w ⟨t8, hf, hO, hm⟩
 rw [zc2] at hm
 refine S.co tb ?_ hf hO hm
 refine re_ rfl fun a w hf hO hm => ?_
 obtain rfl := Option.some.inj hm
 exact zc Tryz.results77 hf (.tmp rfl (.tmp rfl .nil)) ⟨rfl, hO⟩

theorem ziU (R : List api_Field) (w0 : World) (hG : zr w0) (hm : zcw = some R) :
    Calls Tryz.prog 114 #[.pointer none] w0 fun e w' => ∃ (p0 : Option Addr) (c0 : Nat), e = .returned (.slice p0 R.length c0) ∧ Dk.Own w0 [] w' [.row (.slice p0 R.length c0) 110 2 R.length (cells za R)] := by
 rw [zcw] at hm
 have hF : zq [] := ze
 have hO : Dk.Own w0 [] w0 [] := Dk.Own.refl w0
 refine S.enter tb Tryz.func114 rfl Tryz.ntmps114 rfl ?_ hO hm
 refine nl 110 2 ?_
 refine vl rfl rfl (fun a w hf hO => zpw Tryz.underlying146 hf rfl rfl) ?_
 refine kn (b' := true) rfl rfl ?_
 refine nl 110 2 ?_
 refine re_ rfl fun a w hf hO hm => ?_
 obtain rfl := Option.some.inj hm
 exact zc Tryz.results114 hf (.tmp rfl .nil) ⟨none, 0, rfl, (hO.sub (.cons_cons _ (.cons _ .slnil)))⟩

theorem zj2 (x_b : body_Body) (R : List api_Field) (w0 : World) (hG : zr w0) {x_b_b0 : Nat} (hs0 : zC w0 (some ⟨x_b_b0, 0, none⟩) [.pointer none, int x_b.f_frame.Kind, int x_b.f_frame.N, int x_b.f_left, .bool x_b.f_done, .bool x_b.f_bad]) (hm : zdZ x_b = some R) :
    Calls Tryz.prog 78 #[ptr x_b_b0 0] w0 fun e w' => ∃ (p0 : Option Addr) (c0 : Nat), e = .returned (.slice p0 R.length c0) ∧ Dk.Own w0 [] w' [.row (.slice p0 R.length c0) 110 2 R.length (cells za R)] := by
 rw [zdZ] at hm
 have hF : zq [] := ze
 have hO : Dk.Own w0 [] w0 [] := Dk.Own.refl w0
 have hO := hO.addShr hs0 (by simp [Res.shared])
 refine S.enter tb Tryz.func78 rfl Tryz.ntmps78 rfl ?_ hO hm
 refine nl 110 2 ?_
 refine vl rfl rfl (fun a w hf hO => zcL Tryz.underlying101 hf rfl rfl) ?_
 refine kn (b' := false) rfl rfl ?_
 refine ld 1 rfl rfl ?_
 refine cm2 c_114 rfl (fun r4 w hr4 hO => ziU r4 _ (hG.own hF hO) hr4) fun r4 hr4 p5 c6 => ?_
 refine re_ rfl fun a w hf hO hm => ?_
 obtain rfl := Option.some.inj hm
 exact zc Tryz.results78 hf (.tmp rfl .nil) ⟨p5, c6, rfl, (hO.sub (.cons_cons _ (.cons _ (.cons _ .slnil))))⟩

end Go.Proofs
end
