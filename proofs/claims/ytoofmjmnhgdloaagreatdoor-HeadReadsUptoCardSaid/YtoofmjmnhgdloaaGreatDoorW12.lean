/-
  Walks, written by a program (wip/gen): what its model says, the function returns; what was there before is as it was.
-/
import Derived.Test.YtoofmjmnhgdloaaGreatDoorLib
import Derived.Test.YtoofmjmnhgdloaaGreatDoorW8
import Derived.Test.YtoofmjmnhgdloaaGreatDoorW11
set_option linter.unusedVariables false
set_option maxHeartbeats 1000000
set_option linter.unusedSimpArgs false
set_option maxRecDepth 100000
namespace Go.Proofs
open Go.Dk Go.Dm Go.RowKit

theorem zei (x_s1 : List api_Field) (x_s2 : List api_Field) (R : Bool) (w0 : World) (hG : zx w0) {x_s1_p0 : Option Addr} {x_s1_c0 : Nat} (hs0 : zas w0 x_s1_p0 (cells za x_s1)) (hc0 : x_s1.length ≤ x_s1_c0) {x_s2_p1 : Option Addr} {x_s2_c1 : Nat} (hs1 : zas w0 x_s2_p1 (cells za x_s2)) (hc1 : x_s2.length ≤ x_s2_c1) (hm : zS x_s1 x_s2 = some R) :
    Calls Tryz.prog 49 #[.slice x_s1_p0 x_s1.length x_s1_c0, .slice x_s2_p1 x_s2.length x_s2_c1] w0 (Ret w0 (fun R => .bool R) R) := by
 rw [zS] at hm
 have hF : zz [] := zf
 have hO : Dk.Own w0 [] w0 [] := Dk.Own.refl w0
 have hO := hO.addShr hs0 (by simp [Res.shared])
 have hO := hO.addShr hs1 (by simp [Res.shared])
 refine S.enter tb Tryz.func49 rfl Tryz.ntmps49 rfl ?_ hO hm
 refine br rfl (fun hc3 => ?_) fun hc3 => ?_
 exact rt Tryz.results49 rfl
 refine lp (fun k a w => ∃ (i7 : Int), Fits 26 [(0, .slice x_s1_p0 x_s1.length x_s1_c0), (1, .slice x_s2_p1 x_s2.length x_s2_c1), (12, int (x_s1.length : Int)), (13, int i7)] a ∧ Dk.Own w0 [] w [.shr x_s2_p1 (cells za x_s2), .shr x_s1_p0 (cells za x_s1)] ∧ zs x_s1 x_s2 k i7 = some R) rfl (fun a w hf hO hm => ⟨0, hf.sel rfl, hO, hm⟩) ?_
 rintro n1 a w ⟨i7, hf, hO, hm⟩
 obtain _ | n1 := n1
 rw [zs] at hm
 cases hm
 rw [zs] at hm
 refine S.co tb ?_ hf hO hm
 refine br rfl (fun hc9 => ?_) fun hc9 => ?_
 refine rc_ rfl fun a w hf hO hm => ?_
 refine zgi (by kernel_rfl) (by kernel_rfl) hO ?_
 refine zA (fun w hO => zB hf rfl) rfl hf rfl rfl fun a hf => ?_
 refine zA (fun w hO => zB hf rfl) rfl hf rfl rfl fun a hf => ?_
 obtain ⟨x12, hx12, hm⟩ := ob hm
 obtain ⟨b13, o14, hix12, hSx12⟩ := zfM (enc := za) (sz := 2) (xs := x_s1) 33 Tryz.underlying33 zal (by decide) (fun _ => rfl) (hO.sees (i := 1) rfl) hx12
 refine zA (fun w hO => zo hix12 hf rfl rfl) rfl hf rfl rfl fun a hf => ?_
 refine zA (fun w hO => zn (o := 0) (vs := [str x12.Name, str x12.Value]) zdc zal (hSx12 _ (hO.sees (i := 1) rfl)) rfl rfl hf rfl) rfl hf rfl rfl fun a hf => ?_
 refine zA (fun w hO => zB hf rfl) rfl hf rfl rfl fun a hf => ?_
 refine zA (fun w hO => zB hf rfl) rfl hf rfl rfl fun a hf => ?_
 obtain ⟨x15, hx15, hm⟩ := ob hm
 obtain ⟨b16, o17, hix15, hSx15⟩ := zfM (enc := za) (sz := 2) (xs := x_s2) 33 Tryz.underlying33 zal (by decide) (fun _ => rfl) (hO.sees (i := 0) rfl) hx15
 refine zA (fun w hO => zo hix15 hf rfl rfl) rfl hf rfl rfl fun a hf => ?_
 refine zA (fun w hO => zn (o := 0) (vs := [str x15.Name, str x15.Value]) zdc zal (hSx15 _ (hO.sees (i := 0) rfl)) rfl rfl hf rfl) rfl hf rfl rfl fun a hf => ?_
 refine zA (fun w hO => zp2 (by kernel_rfl) (eq_69 x12 x15) hf rfl rfl) rfl hf rfl rfl fun a hf => ?_
 refine wpQuiet_nil ?_
 intro w hO
 refine S.no tb ?_ hf hO hm
 refine br rfl (fun hc19 => ?_) fun hc19 => ?_
 exact rt Tryz.results49 rfl
 refine bi rfl fun i22 hi22 => ?_
 exact en rfl fun a w hf hO hm => ⟨_, Nat.lt_succ_self _, i22, hf.sel rfl, hO, hm⟩
 exact rt Tryz.results49 rfl

theorem zpB (x_a : api_Head) (x_b : api_Head) (R : Bool) (w0 : World) (hG : zx w0) {x_a_p0 : Option Addr} {x_a_c0 : Nat} (hs0 : zas w0 x_a_p0 (cells za x_a.Fields)) (hc0 : x_a.Fields.length ≤ x_a_c0) {x_b_p1 : Option Addr} {x_b_c1 : Nat} (hs1 : zas w0 x_b_p1 (cells za x_b.Fields)) (hc1 : x_b.Fields.length ≤ x_b_c1) (hm : zhN x_a x_b = some R) :
    Calls Tryz.prog 26 #[.agg #[int x_a.Kind, str x_a.Method, str x_a.Target, int x_a.Code, str x_a.Reason, int x_a.Minor, .slice x_a_p0 x_a.Fields.length x_a_c0], .agg #[int x_b.Kind, str x_b.Method, str x_b.Target, int x_b.Code, str x_b.Reason, int x_b.Minor, .slice x_b_p1 x_b.Fields.length x_b_c1]] w0 (Ret w0 (fun R => .bool R) R) := by
 rw [zhN] at hm
 have hF : zz [] := zf
 have hO : Dk.Own w0 [] w0 [] := Dk.Own.refl w0
 have hO := hO.addShr hs0 (by simp [Res.shared])
 have hO := hO.addShr hs1 (by simp [Res.shared])
 refine S.enter tb Tryz.func26 rfl Tryz.ntmps26 rfl ?_ hO hm
 refine rw_ rfl fun a w hf hO hm => ?_
 refine zbU (v := .agg #[int x_a.Kind, str x_a.Method, str x_a.Target, int x_a.Code, str x_a.Reason, int x_a.Minor, .slice x_a_p0 x_a.Fields.length x_a_c0]) (cs := [int x_a.Kind, str x_a.Method, str x_a.Target, int x_a.Code, str x_a.Reason, int x_a.Minor, .slice x_a_p0 x_a.Fields.length x_a_c0]) rfl hf rfl rfl hO fun a b1 w hf hO => ?_
 refine S.op tb ?_ hf hO hm
 refine rw_ rfl fun a w hf hO hm => ?_
 refine zbU (v := .agg #[int x_b.Kind, str x_b.Method, str x_b.Target, int x_b.Code, str x_b.Reason, int x_b.Minor, .slice x_b_p1 x_b.Fields.length x_b_c1]) (cs := [int x_b.Kind, str x_b.Method, str x_b.Target, int x_b.Code, str x_b.Reason, int x_b.Minor, .slice x_b_p1 x_b.Fields.length x_b_c1]) rfl hf rfl rfl hO fun a b2 w hf hO => ?_
 refine S.op tb ?_ hf hO hm
 refine jn 0 (fun a w => ∃ (t11 : Bool), Fits 52 [(4, .bool t11)] a ∧ Dk.Own w0 [] w [.blk b2 [int x_b.Kind, str x_b.Method, str x_b.Target, int x_b.Code, str x_b.Reason, int x_b.Minor, .slice x_b_p1 x_b.Fields.length x_b_c1] 35, .blk b1 [int x_a.Kind, str x_a.Method, str x_a.Target, int x_a.Code, str x_a.Reason, int x_a.Minor, .slice x_a_p0 x_a.Fields.length x_a_c0] 35, .shr x_b_p1 (cells za x_b.Fields), .shr x_a_p0 (cells za x_a.Fields)] ∧ zbw t11 = some R) rfl ?_ ?_
 refine vl rfl rfl (fun a w hf hO => zb (o := 0) zlv (hO.blkSees (i := 1) rfl) rfl hf rfl) ?_
 refine vl rfl rfl (fun a w hf hO => zb (o := 0) zlv (hO.blkSees (i := 0) rfl) rfl hf rfl) ?_
 refine br rfl (fun hc4 => ?_) fun hc4 => ?_
 refine vl rfl rfl (fun a w hf hO => zb (o := 1) zR (hO.blkSees (i := 1) rfl) rfl hf rfl) ?_
 refine vl rfl rfl (fun a w hf hO => zb (o := 1) zR (hO.blkSees (i := 0) rfl) rfl hf rfl) ?_
 refine br rfl (fun hc5 => ?_) fun hc5 => ?_
 refine vl rfl rfl (fun a w hf hO => zb (o := 2) zR (hO.blkSees (i := 1) rfl) rfl hf rfl) ?_
 refine vl rfl rfl (fun a w hf hO => zb (o := 2) zR (hO.blkSees (i := 0) rfl) rfl hf rfl) ?_
 refine br rfl (fun hc6 => ?_) fun hc6 => ?_
 refine vl rfl rfl (fun a w hf hO => zb (o := 5) zfl (hO.blkSees (i := 1) rfl) rfl hf rfl) ?_
 refine vl rfl rfl (fun a w hf hO => zb (o := 5) zfl (hO.blkSees (i := 0) rfl) rfl hf rfl) ?_
 refine br rfl (fun hc7 => ?_) fun hc7 => ?_
 refine vl rfl rfl (fun a w hf hO => zb (o := 3) zfl (hO.blkSees (i := 1) rfl) rfl hf rfl) ?_
 refine vl rfl rfl (fun a w hf hO => zb (o := 3) zfl (hO.blkSees (i := 0) rfl) rfl hf rfl) ?_
 refine br rfl (fun hc8 => ?_) fun hc8 => ?_
 refine vl rfl rfl (fun a w hf hO => zb (o := 4) zR (hO.blkSees (i := 1) rfl) rfl hf rfl) ?_
 refine vl rfl rfl (fun a w hf hO => zb (o := 4) zR (hO.blkSees (i := 0) rfl) rfl hf rfl) ?_
 refine br rfl (fun hc9 => ?_) fun hc9 => ?_
 refine vl rfl rfl (fun a w hf hO => zb (o := 6) zhT (hO.blkSees (i := 1) rfl) rfl hf rfl) ?_
 refine vl rfl rfl (fun a w hf hO => zb (o := 6) zhT (hO.blkSees (i := 0) rfl) rfl hf rfl) ?_
 refine cl c_49 rfl (fun r10 w hr10 hO => zei x_a.Fields x_b.Fields r10 _ (hG.own hF hO) (hO.sees (i := 3) rfl) hc0 (hO.sees (i := 2) rfl) hc1 hr10) fun r10 hr10 => ?_
 exact en rfl fun a w hf hO hm => ⟨r10, hf.sel rfl, hO, hm⟩
 exact en rfl fun a w hf hO hm => ⟨false, hf.sel rfl, hO, hm⟩
 exact en rfl fun a w hf hO hm => ⟨false, hf.sel rfl, hO, hm⟩
 exact en rfl fun a w hf hO hm => ⟨false, hf.sel rfl, hO, hm⟩
 exact en rfl fun a w hf hO hm => ⟨false, hf.sel rfl, hO, hm⟩
 exact en rfl fun a w hf hO hm => ⟨false, hf.sel rfl, hO, hm⟩
 exact en rfl fun a w hf hO hm => ⟨false, hf.sel rfl, hO, hm⟩
 rintro a w ⟨t11, hf, hO, hm⟩
 rw [zbw] at hm
 refine S.co tb ?_ hf hO hm
 exact rt Tryz.results26 rfl

theorem zkn (x_kind : Int) (x_s : Str) (x_limit : Int) (R : Bool) (w0 : World) (hG : zbh w0) (hm : zeI x_kind x_s x_limit = some R) :
    Calls Tryz.prog 7 #[int x_kind, str x_s, int x_limit] w0 (Ret w0 (fun R => .bool R) R) := by
 rw [zeI] at hm
 have hF : zz [] := zf
 have hO : Dk.Own w0 [] w0 [] := Dk.Own.refl w0
 refine S.enter tb Tryz.func7 rfl Tryz.ntmps7 rfl ?_ hO hm
 refine cl c_19 rfl (fun r2 w hr2 hO => znu r2 _ (hG.own hF hO) hr2) fun r2 hr2 => ?_
 refine br rfl (fun hc4 => ?_) fun hc4 => ?_
 exact rt Tryz.results7 rfl
 refine vl rfl rfl (fun a w hf hO => ex_min (m := (x_s.length : Int)) (n := 3000) hf rfl rfl) ?_
 refine bi rfl fun s7 hs7 => ?_
 refine rw_ rfl fun a w hf hO hm => ?_
 obtain ⟨r9, hr9, hm⟩ := ob hm
 refine zr (zp c_14 hf (vs := [int x_kind, str s7, int x_limit]) rfl) rfl hf rfl rfl (zkt x_kind s7 x_limit r9 _ (hG.own hF hO) hr9) ?_
 rintro e w' ⟨p10, c11, he, hO'⟩
 refine ⟨_, he, fun a hf => ?_⟩
 have hO := hO.call hO' (by simp [Res.shared])
 refine S.op tb ?_ hf hO hm
 refine rw_ rfl fun a w hf hO hm => ?_
 refine zt zg5 hf rfl hO fun a b12 w hf hO => ?_
 have hO := hO.nilRow 69 2
 refine S.op tb ?_ hf hO hm
 refine rw_ rfl fun a w hf hO hm => ?_
 refine ze (i := 1) (n := 7) zv rfl rfl rfl (by simp [Value.oneCell']) hf rfl rfl hO fun w hO => ?_
 refine S.op tb ?_ hf hO hm
 refine rw_ rfl fun a w hf hO hm => ?_
 obtain ⟨r14, hr14, hm⟩ := ob hm
 refine zr (zp c_25 hf (vs := [int x_kind, str s7, int x_limit]) rfl) rfl hf rfl rfl (znw x_kind s7 x_limit r14 _ (hG.own hF hO).1 hr14) ?_
 rintro e w' ⟨p15, c16, he, hO'⟩
 refine ⟨_, he, fun a hf => ?_⟩
 have hO := hO.call hO' (by simp [Res.shared])
 refine S.op tb ?_ hf hO hm
 refine rw_ rfl fun a w hf hO hm => ?_
 refine zt zg5 hf rfl hO fun a b17 w hf hO => ?_
 have hO := hO.nilRow 69 2
 refine S.op tb ?_ hf hO hm
 refine rw_ rfl fun a w hf hO hm => ?_
 refine ze (i := 1) (n := 7) zv rfl rfl rfl (by simp [Value.oneCell']) hf rfl rfl hO fun w hO => ?_
 refine S.op tb ?_ hf hO hm
 refine jn 0 (fun a w => ∃ (t23 : Bool), Fits 45 [(6, .bool t23)] a ∧ Dk.Own w0 [] w [.row (.slice none 0 0) 69 2 0 (cells za []), .blk b17 [int r14.1.Kind, str r14.1.Method, str r14.1.Target, int r14.1.Code, str r14.1.Reason, int r14.1.Minor, .slice p15 r14.1.Fields.length c16] 35, .row (.slice p15 r14.1.Fields.length c16) 69 2 r14.1.Fields.length (cells za r14.1.Fields), .row (.slice none 0 0) 69 2 0 (cells za []), .blk b12 [int r9.1.Kind, str r9.1.Method, str r9.1.Target, int r9.1.Code, str r9.1.Reason, int r9.1.Minor, .slice p10 r9.1.Fields.length c11] 35, .row (.slice p10 r9.1.Fields.length c11) 69 2 r9.1.Fields.length (cells za r9.1.Fields)] ∧ zch t23 = some R) rfl ?_ ?_
 refine vl rfl rfl (fun a w hf hO => zn (o := 0) (vs := [int r9.1.Kind, str r9.1.Method, str r9.1.Target, int r9.1.Code, str r9.1.Reason, int r9.1.Minor, .slice p10 r9.1.Fields.length c11]) zae zv (hO.blkSees (i := 4) rfl) rfl rfl hf rfl) ?_
 refine vl rfl rfl (fun a w hf hO => zn (o := 0) (vs := [int r14.1.Kind, str r14.1.Method, str r14.1.Target, int r14.1.Code, str r14.1.Reason, int r14.1.Minor, .slice p15 r14.1.Fields.length c16]) zae zv (hO.blkSees (i := 1) rfl) rfl rfl hf rfl) ?_
 refine cl c_13 rfl (fun r19 w hr19 hO => zog r9.1 r14.1 r19 _ (hG.own hF hO).1 (hO.rowSees (i := 5) rfl) (hO.rowCap (i := 5) rfl) (hO.rowSees (i := 2) rfl) (hO.rowCap (i := 2) rfl) hr19) fun r19 hr19 => ?_
 refine br rfl (fun hc20 => ?_) fun hc20 => ?_
 refine br rfl (fun hc21 => ?_) fun hc21 => ?_
 refine vl rfl rfl (fun a w hf hO => zn (o := 0) (vs := [int r9.1.Kind, str r9.1.Method, str r9.1.Target, int r9.1.Code, str r9.1.Reason, int r9.1.Minor, .slice p10 r9.1.Fields.length c11]) zae zv (hO.blkSees (i := 4) rfl) rfl rfl hf rfl) ?_
 refine vl rfl rfl (fun a w hf hO => zn (o := 0) (vs := [int r14.1.Kind, str r14.1.Method, str r14.1.Target, int r14.1.Code, str r14.1.Reason, int r14.1.Minor, .slice p15 r14.1.Fields.length c16]) zae zv (hO.blkSees (i := 1) rfl) rfl rfl hf rfl) ?_
 refine cl c_26 rfl (fun r22 w hr22 hO => zpB r9.1 r14.1 r22 _ (hG.own hF hO).1 (hO.rowSees (i := 5) rfl) (hO.rowCap (i := 5) rfl) (hO.rowSees (i := 2) rfl) (hO.rowCap (i := 2) rfl) hr22) fun r22 hr22 => ?_
 exact en rfl fun a w hf hO hm => ⟨r22, hf.sel rfl, hO, hm⟩
 exact en rfl fun a w hf hO hm => ⟨false, hf.sel rfl, hO, hm⟩
 exact en rfl fun a w hf hO hm => ⟨false, hf.sel rfl, hO, hm⟩
 rintro a w ⟨t23, hf, hO, hm⟩
 rw [zch] at hm
 refine S.co tb ?_ hf hO hm
 exact rt Tryz.results7 rfl

end Go.Proofs
