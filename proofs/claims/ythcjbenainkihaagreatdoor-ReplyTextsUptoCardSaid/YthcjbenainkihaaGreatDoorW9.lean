/-
  Walks, written by a program (wip/gen): what its model says, the function returns; what was there before is as it was.
  Walks, written by a program (wip/gen): what its model says, the function returns; what was there before is as it was.
  Walks, written by a program (wip/gen): what its model says, the function returns; what was there before is as it was.
  Walks, written by a program (wip/gen): what its model says, the function returns; what was there before is as it was.
-/
import Derived.Test.YthcjbenainkihaaGreatDoorLib
import Derived.Test.YthcjbenainkihaaGreatDoorW5
section
set_option linter.unusedVariables false
set_option maxHeartbeats 1000000
set_option linter.unusedSimpArgs false
set_option maxRecDepth 100000
namespace Go.Proofs
open Go.Dk Go.Dm Go.RowKit

theorem zfO (x_p : commas_splitter) (R : Bool × commas_splitter) (w0 : World) (hG : zt w0) {x_p_b0 : Nat} {x_p_b1 : Nat} {x_p_p2 : Option Addr} {x_p_c2 : Nat} {F : List Nat} (hF : zo F) (hO : Dk.Own w0 F w0 [.blk x_p_b0 [ptr x_p_b1 0, .slice x_p_p2 x_p.f_out.length x_p_c2, int x_p.f_from, str x_p.f_s] 297, .blk x_p_b1 [str x_p.Scanner.f_s, int x_p.Scanner.f_at] 289, .row (.slice x_p_p2 x_p.f_out.length x_p_c2) 9 1 x_p.f_out.length (cells zh x_p.f_out)]) (hm : zbR x_p = some R) :
    Calls Tryz.prog 264 #[ptr x_p_b0 0] w0 fun e w' => ∃ (p0 : Option Addr) (c0 : Nat), e = .returned (.bool R.1) ∧ Dk.Own w0 F w' [.blk x_p_b0 [ptr x_p_b1 0, .slice p0 R.2.f_out.length c0, int R.2.f_from, str R.2.f_s] 297, .blk x_p_b1 [str R.2.Scanner.f_s, int R.2.Scanner.f_at] 289, .row (.slice p0 R.2.f_out.length c0) 9 1 R.2.f_out.length (cells zh R.2.f_out)] := by
 rw [zbR] at hm
 refine S.enter tb Tryz.func264 rfl Tryz.ntmps264 rfl ?_ hO hm
 refine jv 0 [] [0, 2] (fun J E L => ∃ (s33 : Str) (i34 : Int), J (E) (.blk x_p_b1 [str s33, int i34] 289 :: L) (zbc x_p s33 i34)) rfl ?_ ?_
 refine ch [1, 0, 2] rfl rfl ?_
 refine lv [0] [1, 2] (fun J E L k => ∃ (s3 : Str) (i4 : Int) (i5 : Int), J ((3, int i5) :: E) (.blk x_p_b1 [str s3, int i4] 289 :: L) (zx x_p k s3 i4 i5)) rfl (fun _ _ j => ⟨x_p.Scanner.f_s, x_p.Scanner.f_at, 1, j rfl⟩) ?_
 rintro n1 a w ⟨s3, i4, i5, hf, hO, hm⟩
 obtain _ | n1 := n1
 rw [zx] at hm
 cases hm
 rw [zx] at hm
 refine S.co tb ?_ hf hO hm
 refine br rfl (fun hc7 => ?_) fun hc7 => ?_
 refine ld 1 rfl rfl ?_
 refine cl zjZ rfl (fun r9 w hr9 hO => zS (⟨s3, i4⟩ : scan_Scanner) r9 _ (hG.own hF hO) (hO.blkSees (i := 0) rfl) hr9) fun r9 hr9 => ?_
 refine br rfl (fun hc12 => ?_) fun hc12 => ?_
 refine re_ rfl fun a w hf hO hm => ?_
 obtain rfl := Option.some.inj hm
 exact zb Tryz.results264 hf (.tmp rfl .nil) ⟨x_p_p2, x_p_c2, rfl, (hO.choose [1, 0, 2] rfl)⟩
 refine ld 1 rfl rfl ?_
 refine rw_ rfl fun a w hf hO hm => ?_
 obtain ⟨r15, hr15, hm⟩ := ob hm
 have hch16 := (show Dk.Own w0 F _ ([.blk x_p_b1 [str s3, int i4] 289] ++ [.blk x_p_b0 [ptr x_p_b1 0, .slice x_p_p2 x_p.f_out.length x_p_c2, int x_p.f_from, str x_p.f_s] 297, .row (.slice x_p_p2 x_p.f_out.length x_p_c2) 9 1 x_p.f_out.length (cells zh x_p.f_out)]) from hO)
 have hfar16 := Dk.Own.far hch16 rfl hF hG.size
 have hlend16 := hch16.lend (S := []) rfl trivial
 have hcl16 := zq (⟨s3, i4⟩ : scan_Scanner) r9.1 r15 _ (hG.own hF hO) hfar16 hlend16 hr15
 refine zg (zi zet hf (vs := [ptr x_p_b1 0, zB r9.1]) rfl) rfl hf rfl rfl (hcl16) ?_
 rintro e w' ⟨he, hO'⟩
 refine ⟨_, he, fun a hf => ?_⟩
 have hO := hch16.back rfl hO' rfl
 refine S.op tb ?_ hf hO hm
 refine vl rfl rfl (fun a w hf hO => zaQ (b := r9.1) (c := 40) hf rfl rfl) ?_
 refine br rfl (fun hc20 => ?_) fun hc20 => ?_
 refine bi rfl fun i21 hi21 => ?_
 exact en rfl fun _ _ j => ⟨_, Nat.lt_succ_self _, r15.2.f_s, r15.2.f_at, i21, j rfl⟩
 refine vl rfl rfl (fun a w hf hO => zaQ (b := r9.1) (c := 41) hf rfl rfl) ?_
 refine br rfl (fun hc23 => ?_) fun hc23 => ?_
 refine bi rfl fun i24 hi24 => ?_
 exact en rfl fun _ _ j => ⟨_, Nat.lt_succ_self _, r15.2.f_s, r15.2.f_at, i24, j rfl⟩
 refine vl rfl rfl (fun a w hf hO => zaQ (b := r9.1) (c := 92) hf rfl rfl) ?_
 refine br rfl (fun hc26 => ?_) fun hc26 => ?_
 refine ld 1 rfl rfl ?_
 refine cl zjZ rfl (fun r27 w hr27 hO => zS r15.2 r27 _ (hG.own hF hO) (hO.blkSees (i := 0) rfl) hr27) fun r27 hr27 => ?_
 refine br rfl (fun hc30 => ?_) fun hc30 => ?_
 refine ld 1 rfl rfl ?_
 refine rw_ rfl fun a w hf hO hm => ?_
 obtain ⟨r31, hr31, hm⟩ := ob hm
 have hch32 := (show Dk.Own w0 F _ ([.blk x_p_b1 [str r15.2.f_s, int r15.2.f_at] 289] ++ [.blk x_p_b0 [ptr x_p_b1 0, .slice x_p_p2 x_p.f_out.length x_p_c2, int x_p.f_from, str x_p.f_s] 297, .row (.slice x_p_p2 x_p.f_out.length x_p_c2) 9 1 x_p.f_out.length (cells zh x_p.f_out)]) from hO)
 have hfar32 := Dk.Own.far hch32 rfl hF hG.size
 have hlend32 := hch32.lend (S := []) rfl trivial
 have hcl32 := zq r15.2 r27.1 r31 _ (hG.own hF hO) hfar32 hlend32 hr31
 refine zg (zi zet hf (vs := [ptr x_p_b1 0, zB r27.1]) rfl) rfl hf rfl rfl (hcl32) ?_
 rintro e w' ⟨he, hO'⟩
 refine ⟨_, he, fun a hf => ?_⟩
 have hO := hch32.back rfl hO' rfl
 refine S.op tb ?_ hf hO hm
 exact en rfl fun _ _ j => ⟨_, Nat.lt_succ_self _, r31.2.f_s, r31.2.f_at, i5, j rfl⟩
 exact en rfl fun _ _ j => ⟨_, Nat.lt_succ_self _, r15.2.f_s, r15.2.f_at, i5, j rfl⟩
 exact en rfl fun _ _ j => ⟨_, Nat.lt_succ_self _, r15.2.f_s, r15.2.f_at, i5, j rfl⟩
 exact en rfl fun _ _ j => ⟨s3, i4, j rfl⟩
 rintro a w ⟨s33, i34, hf, hO, hm⟩
 rw [zbc] at hm
 refine S.co tb ?_ hf hO hm
 refine re_ rfl fun a w hf hO hm => ?_
 obtain rfl := Option.some.inj hm
 exact zb Tryz.results264 hf (.tmp rfl .nil) ⟨x_p_p2, x_p_c2, rfl, (hO.choose [1, 0, 2] rfl)⟩

theorem zhh (x_r : quoted_reader) (R : Bool × quoted_reader) (w0 : World) (hG : zt w0) {x_r_b0 : Nat} {x_r_b1 : Nat} {x_r_p2 : Option Addr} {x_r_c2 : Nat} {F : List Nat} (hF : zo F) (hO : Dk.Own w0 F w0 [.blk x_r_b0 [ptr x_r_b1 0, .slice x_r_p2 x_r.f_out.length x_r_c2] 335, .blk x_r_b1 [str x_r.Scanner.f_s, int x_r.Scanner.f_at] 289, .row (.slice x_r_p2 x_r.f_out.length x_r_c2) 5 1 x_r.f_out.length (cells zc x_r.f_out)]) (hm : zdQ x_r = some R) :
    Calls Tryz.prog 280 #[ptr x_r_b0 0] w0 fun e w' => ∃ (p0 : Option Addr) (c0 : Nat), e = .returned (.bool R.1) ∧ Dk.Own w0 F w' [.blk x_r_b0 [ptr x_r_b1 0, .slice p0 R.2.f_out.length c0] 335, .blk x_r_b1 [str R.2.Scanner.f_s, int R.2.Scanner.f_at] 289, .row (.slice p0 R.2.f_out.length c0) 5 1 R.2.f_out.length (cells zc R.2.f_out)] := by
 rw [zdQ] at hm
 refine S.enter tb Tryz.func280 rfl Tryz.ntmps280 rfl ?_ hO hm
 refine ld 0 rfl rfl ?_
 refine rw_ rfl fun a w hf hO hm => ?_
 obtain ⟨r2, hr2, hm⟩ := ob hm
 have hch3 := (show Dk.Own w0 F _ ([.blk x_r_b1 [str x_r.Scanner.f_s, int x_r.Scanner.f_at] 289] ++ [.blk x_r_b0 [ptr x_r_b1 0, .slice x_r_p2 x_r.f_out.length x_r_c2] 335, .row (.slice x_r_p2 x_r.f_out.length x_r_c2) 5 1 x_r.f_out.length (cells zc x_r.f_out)]) from hO.choose [1, 0, 2] rfl)
 have hfar3 := Dk.Own.far hch3 rfl hF hG.size
 have hlend3 := hch3.lend (S := []) rfl trivial
 have hcl3 := zq x_r.Scanner 92 r2 _ (hG.own hF hO) hfar3 hlend3 hr2
 refine zg (zi zet hf (vs := [ptr x_r_b1 0, zB 92]) rfl) rfl hf rfl rfl (hcl3) ?_
 rintro e w' ⟨he, hO'⟩
 refine ⟨_, he, fun a hf => ?_⟩
 have hO := hch3.back rfl hO' rfl
 refine S.op tb ?_ hf hO hm
 refine ld 1 rfl rfl ?_
 refine cl zjZ rfl (fun r5 w hr5 hO => zS r2.2 r5 _ (hG.own hF hO) (hO.blkSees (i := 0) rfl) hr5) fun r5 hr5 => ?_
 refine jv 1 [0, 3] [0, 1, 2] (fun J E L => ∃ (t9 : Bool), J ((24, .bool t9) :: E) (L) (zbj x_r r2 r5 t9)) rfl ?_ ?_
 refine br rfl (fun hc7 => ?_) fun hc7 => ?_
 exact en rfl fun _ _ j => ⟨true, j rfl⟩
 refine cl c_96 rfl (fun r8 w hr8 hO => zce r5.1 r8 _ (hG.own hF hO) hr8) fun r8 hr8 => ?_
 exact en rfl fun _ _ j => ⟨!r8, j rfl⟩
 rintro a w ⟨t9, hf, hO, hm⟩
 rw [zbj] at hm
 refine S.co tb ?_ hf hO hm
 refine br rfl (fun hc10 => ?_) fun hc10 => ?_
 refine re_ rfl fun a w hf hO hm => ?_
 obtain rfl := Option.some.inj hm
 exact zb Tryz.results280 hf (.tmp rfl .nil) ⟨x_r_p2, x_r_c2, rfl, (hO.choose [1, 0, 2] rfl)⟩
 refine ld 1 rfl rfl ?_
 refine rw_ rfl fun a w hf hO hm => ?_
 refine zu (vs := [(0, zB r5.1)]) (cs := [zB r5.1]) (e := 5) (sz := 1) hf rfl rfl (fun w => by kernel_rfl) rfl rfl hO fun a b13 w hf hO => ?_
 refine S.op tb ?_ hf hO hm
 refine rw_ rfl fun a w hf hO hm => ?_
 obtain ⟨hg16, hm⟩ := og hm
 refine zbz zl4 (enc := zc) (xs := x_r.f_out) (ys := [r5.1]) (i := 3) (fun _ => rfl) rfl (hO.rowSees (i := 0) rfl) (by simp [cells, zc, Value.oneCell']) hg16 hf rfl rfl rfl hO fun a p14 c15 w hf hO => ?_
 refine S.op tb ?_ hf hO hm
 refine st 2 rfl rfl ?_
 refine ld 2 rfl rfl ?_
 refine rw_ rfl fun a w hf hO hm => ?_
 obtain ⟨r18, hr18, hm⟩ := ob hm
 have hch19 := (show Dk.Own w0 F _ ([.blk x_r_b1 [str r2.2.f_s, int r2.2.f_at] 289] ++ [.row (.slice (some ⟨b13, 0, none⟩) ([r5.1].length) 1) 5 1 ([r5.1].length) (cells zc [r5.1]), .blk x_r_b0 [ptr x_r_b1 0, .slice p14 ((x_r.f_out ++ [r5.1]).length) c15] 335, .row (.slice p14 ((x_r.f_out ++ [r5.1]).length) c15) 5 1 ((x_r.f_out ++ [r5.1]).length) (cells zc (x_r.f_out ++ [r5.1]))]) from hO.choose [1, 0, 2, 3] rfl)
 have hfar19 := Dk.Own.far hch19 rfl hF hG.size
 have hlend19 := hch19.lend (S := []) rfl trivial
 have hcl19 := zq r2.2 r5.1 r18 _ (hG.own hF hO) hfar19 hlend19 hr18
 refine zg (zi zet hf (vs := [ptr x_r_b1 0, zB r5.1]) rfl) rfl hf rfl rfl (hcl19) ?_
 rintro e w' ⟨he, hO'⟩
 refine ⟨_, he, fun a hf => ?_⟩
 have hO := hch19.back rfl hO' rfl
 refine S.op tb ?_ hf hO hm
 refine re_ rfl fun a w hf hO hm => ?_
 obtain rfl := Option.some.inj hm
 exact zb Tryz.results280 hf (.tmp rfl .nil) ⟨p14, c15, rfl, (hO.choose [2, 0, 3] rfl)⟩

theorem zhT (x_c : scan_Scanner) (x_at : Int) (R : Bool × scan_Scanner) (w0 : World) (hG : zt w0) {x_c_b0 : Nat} {F : List Nat} (hF : zo F) (hO : Dk.Own w0 F w0 [.blk x_c_b0 [str x_c.f_s, int x_c.f_at] 289]) (hm : zel x_c x_at = some R) :
    Calls Tryz.prog 281 #[ptr x_c_b0 0, int x_at] w0 fun e w' => e = .returned (.bool R.1) ∧ Dk.Own w0 F w' [.blk x_c_b0 [str R.2.f_s, int R.2.f_at] 289] := by
 rw [zel] at hm
 refine S.enter tb Tryz.func281 rfl Tryz.ntmps281 rfl ?_ hO hm
 refine jv 1 [0, 1] [0] (fun J E L => ∃ (t4 : Bool), J ((12, .bool t4) :: E) (L) (zbw x_c x_at t4)) rfl ?_ ?_
 refine br rfl (fun hc2 => ?_) fun hc2 => ?_
 exact en rfl fun _ _ j => ⟨true, j rfl⟩
 refine cl zlz rfl (fun r3 w hr3 hO => zbr x_c r3 _ (hG.own hF hO) (hO.blkSees (i := 0) rfl) hr3) fun r3 hr3 => ?_
 exact en rfl fun _ _ j => ⟨decide (r3 < x_at), j rfl⟩
 rintro a w ⟨t4, hf, hO, hm⟩
 rw [zbw] at hm
 refine S.co tb ?_ hf hO hm
 refine br rfl (fun hc5 => ?_) fun hc5 => ?_
 refine re_ rfl fun a w hf hO hm => ?_
 obtain rfl := Option.some.inj hm
 exact zb Tryz.results281 hf (.tmp rfl .nil) ⟨rfl, hO⟩
 refine vl rfl rfl (fun a w hf hO => zhM Tryz.underlying251 hf rfl rfl) ?_
 refine kn (b' := true) rfl rfl ?_
 refine st 0 rfl rfl ?_
 refine re_ rfl fun a w hf hO hm => ?_
 obtain rfl := Option.some.inj hm
 exact zb Tryz.results281 hf (.tmp rfl .nil) ⟨rfl, hO⟩

theorem zh0 (x_c : scan_Scanner) (R : Str × Bool × scan_Scanner) (w0 : World) (hG : zt w0) {x_c_b0 : Nat} {F : List Nat} (hF : zo F) (hO : Dk.Own w0 F w0 [.blk x_c_b0 [str x_c.f_s, int x_c.f_at] 289]) (hm : zf4 x_c = some R) :
    Calls Tryz.prog 265 #[ptr x_c_b0 0] w0 fun e w' => e = .returned (.tuple #[str R.1, .bool R.2.1]) ∧ Dk.Own w0 F w' [.blk x_c_b0 [str R.2.2.f_s, int R.2.2.f_at] 289] := by
 rw [zf4] at hm
 refine S.enter tb Tryz.func265 rfl Tryz.ntmps265 rfl ?_ hO hm
 refine cl zlz rfl (fun r2 w hr2 hO => zbr x_c r2 _ (hG.own hF hO) (hO.blkSees (i := 0) rfl) hr2) fun r2 hr2 => ?_
 refine vl rfl rfl (fun a w hf hO => zl (vs := [(0, ptr x_c_b0 0)]) (v := .agg #[ptr x_c_b0 0, .slice none 0 0]) hf rfl (by kernel_rfl)) ?_
 refine bo rfl fun b4 => ?_
 refine nl 5 1 ?_
 refine ld 1 rfl rfl ?_
 refine rw_ rfl fun a w hf hO hm => ?_
 obtain ⟨r6, hr6, hm⟩ := ob hm
 have hch7 := (show Dk.Own w0 F _ ([.blk x_c_b0 [str x_c.f_s, int x_c.f_at] 289] ++ [.row (.slice none 0 0) 5 1 0 (cells zc []), .blk b4 [ptr x_c_b0 0, .slice none 0 0] 335]) from hO.choose [2, 0, 1] rfl)
 have hfar7 := Dk.Own.far hch7 rfl hF hG.size
 have hlend7 := hch7.lend (S := []) rfl trivial
 have hcl7 := zq x_c 34 r6 _ (hG.own hF hO) hfar7 hlend7 hr6
 refine zg (zi zet hf (vs := [ptr x_c_b0 0, zB 34]) rfl) rfl hf rfl rfl (hcl7) ?_
 rintro e w' ⟨he, hO'⟩
 refine ⟨_, he, fun a hf => ?_⟩
 have hO := hch7.back rfl hO' rfl
 refine S.op tb ?_ hf hO hm
 refine jv 0 [4, 5] [] (fun J E L => ∃ (t27 : Bool) (s28 : Str) (i29 : Int) (p30 : Option Addr) (c31 : Nat) (l32 : List UInt8), J ((6, .bool t27) :: E) (.blk x_c_b0 [str s28, int i29] 289 :: .row (.slice p30 l32.length c31) 5 1 l32.length (cells zc l32) :: .blk b4 [ptr x_c_b0 0, .slice p30 l32.length c31] 335 :: L) (zfH r2 t27 s28 i29 l32)) rfl ?_ ?_
 refine lv [4, 5] [] (fun J E L k => ∃ (s9 : Str) (i10 : Int) (p11 : Option Addr) (c12 : Nat) (l13 : List UInt8) (t14 : Bool), J ((6, .bool t14) :: E) (.blk x_c_b0 [str s9, int i10] 289 :: .row (.slice p11 l13.length c12) 5 1 l13.length (cells zc l13) :: .blk b4 [ptr x_c_b0 0, .slice p11 l13.length c12] 335 :: L) (zbd r2 k s9 i10 l13 t14)) rfl (fun _ _ j => ⟨r6.2.f_s, r6.2.f_at, none, 0, [], r6.1, j rfl⟩) ?_
 rintro n1 a w ⟨s9, i10, p11, c12, l13, t14, hf, hO, hm⟩
 obtain _ | n1 := n1
 rw [zbd] at hm
 cases hm
 rw [zbd] at hm
 refine S.co tb ?_ hf hO hm
 refine jv 4 [4, 5, 6] [1, 2] (fun J E L => ∃ (t18 : Bool) (s19 : Str) (i20 : Int), J ((25, .bool t18) :: E) (.blk x_c_b0 [str s19, int i20] 289 :: L) (zem (zbd r2 n1) r2 l13 t14 t18 s19 i20)) rfl ?_ ?_
 refine br rfl (fun hc15 => ?_) fun hc15 => ?_
 refine ld 2 rfl rfl ?_
 refine rw_ rfl fun a w hf hO hm => ?_
 obtain ⟨r16, hr16, hm⟩ := ob hm
 have hch17 := (show Dk.Own w0 F _ ([.blk x_c_b0 [str s9, int i10] 289] ++ [.row (.slice p11 l13.length c12) 5 1 l13.length (cells zc l13), .blk b4 [ptr x_c_b0 0, .slice p11 l13.length c12] 335]) from hO)
 have hfar17 := Dk.Own.far hch17 rfl hF hG.size
 have hlend17 := hch17.lend (S := []) rfl trivial
 have hcl17 := zq (⟨s9, i10⟩ : scan_Scanner) 34 r16 _ (hG.own hF hO) hfar17 hlend17 hr16
 refine zg (zi zet hf (vs := [ptr x_c_b0 0, zB 34]) rfl) rfl hf rfl rfl (hcl17) ?_
 rintro e w' ⟨he, hO'⟩
 refine ⟨_, he, fun a hf => ?_⟩
 have hO := hch17.back rfl hO' rfl
 refine S.op tb ?_ hf hO hm
 refine kn (b' := true) hc15 rfl ?_
 exact en rfl fun _ _ j => ⟨!r16.1, r16.2.f_s, r16.2.f_at, j rfl⟩
 exact en rfl fun _ _ j => ⟨false, s9, i10, j rfl⟩
 rintro a w ⟨t18, s19, i20, hf, hO, hm⟩
 rw [zem] at hm
 refine S.co tb ?_ hf hO hm
 refine br rfl (fun hc21 => ?_) fun hc21 => ?_
 refine rw_ rfl fun a w hf hO hm => ?_
 obtain ⟨r23, hr23, hm⟩ := ob hm
 have hch26 := (show Dk.Own w0 F _ ([.blk b4 [ptr x_c_b0 0, .slice p11 l13.length c12] 335, .blk x_c_b0 [str s19, int i20] 289, .row (.slice p11 l13.length c12) 5 1 l13.length (cells zc l13)] ++ []) from hO.choose [2, 0, 1] rfl)
 have hfar26 := Dk.Own.far hch26 rfl hF hG.size
 have hlend26 := hch26.lend (S := []) rfl trivial
 have hcl26 := zhh ((⟨(⟨s19, i20⟩ : scan_Scanner), l13⟩ : quoted_reader)) r23 _ (hG.own hF hO) hfar26 hlend26 hr23
 refine zg (zi c_280 hf (vs := [ptr b4 0]) rfl) rfl hf rfl rfl (hcl26) ?_
 rintro e w' ⟨p24, c25, he, hO'⟩
 refine ⟨_, he, fun a hf => ?_⟩
 have hO := hch26.back rfl hO' rfl
 refine S.op tb ?_ hf hO hm
 exact ec [1, 2, 0] rfl rfl rfl fun _ _ j => ⟨_, Nat.lt_succ_self _, r23.2.Scanner.f_s, r23.2.Scanner.f_at, p24, c25, r23.2.f_out, r23.1, j rfl⟩
 exact en rfl fun _ _ j => ⟨t14, s19, i20, p11, c12, l13, j rfl⟩
 rintro a w ⟨t27, s28, i29, p30, c31, l32, hf, hO, hm⟩
 rw [zfH] at hm
 refine S.co tb ?_ hf hO hm
 refine br rfl (fun hc34 => ?_) fun hc34 => ?_
 refine ld 2 rfl rfl ?_
 refine rw_ rfl fun a w hf hO hm => ?_
 obtain ⟨r35, hr35, hm⟩ := ob hm
 have hch36 := (show Dk.Own w0 F _ ([.blk x_c_b0 [str s28, int i29] 289] ++ [.row (.slice p30 l32.length c31) 5 1 l32.length (cells zc l32), .blk b4 [ptr x_c_b0 0, .slice p30 l32.length c31] 335]) from hO)
 have hfar36 := Dk.Own.far hch36 rfl hF hG.size
 have hlend36 := hch36.lend (S := []) rfl trivial
 have hcl36 := zhT (⟨s28, i29⟩ : scan_Scanner) r2 r35 _ (hG.own hF hO) hfar36 hlend36 hr35
 refine zg (zi c_281 hf (vs := [ptr x_c_b0 0, int r2]) rfl) rfl hf rfl rfl (hcl36) ?_
 rintro e w' ⟨he, hO'⟩
 refine ⟨_, he, fun a hf => ?_⟩
 have hO := hch36.back rfl hO' rfl
 refine S.op tb ?_ hf hO hm
 refine re_ rfl fun a w hf hO hm => ?_
 obtain rfl := Option.some.inj hm
 exact zb Tryz.results265 hf (.tmp rfl (.tmp rfl .nil)) ⟨rfl, (hO.sub (.cons_cons _ (.cons _ (.cons _ .slnil))))⟩
 refine ld 2 rfl rfl ?_
 refine vl rfl rfl (fun a w hf hO => zcP (en := zc) (l := l32) (fun _ => rfl) Tryz.underlying9 Tryz.underlying141 Tryz.underlying5 (hO.rowSees (i := 1) rfl) hf rfl) ?_
 refine re_ rfl fun a w hf hO hm => ?_
 obtain rfl := Option.some.inj hm
 exact zb Tryz.results265 hf (.tmp rfl (.tmp rfl .nil)) ⟨rfl, (hO.sub (.cons_cons _ (.cons _ (.cons _ .slnil))))⟩

theorem zgD (x_p : commas_splitter) (R : Bool × commas_splitter) (w0 : World) (hG : zt w0) {x_p_b0 : Nat} {x_p_b1 : Nat} {x_p_p2 : Option Addr} {x_p_c2 : Nat} {F : List Nat} (hF : zo F) (hO : Dk.Own w0 F w0 [.blk x_p_b0 [ptr x_p_b1 0, .slice x_p_p2 x_p.f_out.length x_p_c2, int x_p.f_from, str x_p.f_s] 297, .blk x_p_b1 [str x_p.Scanner.f_s, int x_p.Scanner.f_at] 289, .row (.slice x_p_p2 x_p.f_out.length x_p_c2) 9 1 x_p.f_out.length (cells zh x_p.f_out)]) (hm : zcV x_p = some R) :
    Calls Tryz.prog 233 #[ptr x_p_b0 0] w0 fun e w' => ∃ (p0 : Option Addr) (c0 : Nat), e = .returned (.bool R.1) ∧ Dk.Own w0 F w' [.blk x_p_b0 [ptr x_p_b1 0, .slice p0 R.2.f_out.length c0, int R.2.f_from, str R.2.f_s] 297, .blk x_p_b1 [str R.2.Scanner.f_s, int R.2.Scanner.f_at] 289, .row (.slice p0 R.2.f_out.length c0) 9 1 R.2.f_out.length (cells zh R.2.f_out)] := by
 rw [zcV] at hm
 refine S.enter tb Tryz.func233 rfl Tryz.ntmps233 rfl ?_ hO hm
 refine ld 0 rfl rfl ?_
 refine cl zlz rfl (fun r2 w hr2 hO => zbr x_p.Scanner r2 _ (hG.own hF hO) (hO.blkSees (i := 1) rfl) hr2) fun r2 hr2 => ?_
 refine jv 0 [] [] (fun J E L => ∃ (p32 : Option Addr) (c33 : Nat) (l34 : List Str) (i35 : Int) (s36 : Str) (s37 : Str) (i38 : Int), J (E) (.blk x_p_b0 [ptr x_p_b1 0, .slice p32 l34.length c33, int i35, str s36] 297 :: .blk x_p_b1 [str s37, int i38] 289 :: .row (.slice p32 l34.length c33) 9 1 l34.length (cells zh l34) :: L) (zaF l34 i35 s36 s37 i38)) rfl ?_ ?_
 refine ld 0 rfl rfl ?_
 refine rw_ rfl fun a w hf hO hm => ?_
 obtain ⟨r4, hr4, hm⟩ := ob hm
 have hch5 := (show Dk.Own w0 F _ ([.blk x_p_b1 [str x_p.Scanner.f_s, int x_p.Scanner.f_at] 289] ++ [.blk x_p_b0 [ptr x_p_b1 0, .slice x_p_p2 x_p.f_out.length x_p_c2, int x_p.f_from, str x_p.f_s] 297, .row (.slice x_p_p2 x_p.f_out.length x_p_c2) 9 1 x_p.f_out.length (cells zh x_p.f_out)]) from hO.choose [1, 0, 2] rfl)
 have hfar5 := Dk.Own.far hch5 rfl hF hG.size
 have hlend5 := hch5.lend (S := []) rfl trivial
 have hcl5 := zq x_p.Scanner 44 r4 _ (hG.own hF hO) hfar5 hlend5 hr4
 refine zg (zi zet hf (vs := [ptr x_p_b1 0, zB 44]) rfl) rfl hf rfl rfl (hcl5) ?_
 rintro e w' ⟨he, hO'⟩
 refine ⟨_, he, fun a hf => ?_⟩
 have hO := hch5.back rfl hO' rfl
 refine S.op tb ?_ hf hO hm
 refine br rfl (fun hc7 => ?_) fun hc7 => ?_
 refine rw_ rfl fun a w hf hO hm => ?_
 obtain ⟨r8, hr8, hm⟩ := ob hm
 have hch11 := (show Dk.Own w0 F _ ([.blk x_p_b0 [ptr x_p_b1 0, .slice x_p_p2 x_p.f_out.length x_p_c2, int x_p.f_from, str x_p.f_s] 297, .blk x_p_b1 [str r4.2.f_s, int r4.2.f_at] 289, .row (.slice x_p_p2 x_p.f_out.length x_p_c2) 9 1 x_p.f_out.length (cells zh x_p.f_out)] ++ []) from hO.choose [1, 0, 2] rfl)
 have hfar11 := Dk.Own.far hch11 rfl hF hG.size
 have hlend11 := hch11.lend (S := []) rfl trivial
 have hcl11 := zey (⟨r4.2, x_p.f_out, x_p.f_from, x_p.f_s⟩ : commas_splitter) r2 r8 _ (hG.own hF hO) hfar11 hlend11 hr8
 refine zg (zi c_234 hf (vs := [ptr x_p_b0 0, int r2]) rfl) rfl hf rfl rfl (hcl11) ?_
 rintro e w' ⟨p9, c10, he, hO'⟩
 refine ⟨_, he, fun a hf => ?_⟩
 have hO := hch11.back rfl hO' rfl
 refine S.op tb ?_ hf hO hm
 exact en rfl fun _ _ j => ⟨p9, c10, r8.f_out, r8.f_from, r8.f_s, r8.Scanner.f_s, r8.Scanner.f_at, j rfl⟩
 refine ld 1 rfl rfl ?_
 refine rw_ rfl fun a w hf hO hm => ?_
 obtain ⟨r12, hr12, hm⟩ := ob hm
 have hch13 := (show Dk.Own w0 F _ ([.blk x_p_b1 [str r4.2.f_s, int r4.2.f_at] 289] ++ [.blk x_p_b0 [ptr x_p_b1 0, .slice x_p_p2 x_p.f_out.length x_p_c2, int x_p.f_from, str x_p.f_s] 297, .row (.slice x_p_p2 x_p.f_out.length x_p_c2) 9 1 x_p.f_out.length (cells zh x_p.f_out)]) from hO)
 have hfar13 := Dk.Own.far hch13 rfl hF hG.size
 have hlend13 := hch13.lend (S := []) rfl trivial
 have hcl13 := zq r4.2 40 r12 _ (hG.own hF hO) hfar13 hlend13 hr12
 refine zg (zi zet hf (vs := [ptr x_p_b1 0, zB 40]) rfl) rfl hf rfl rfl (hcl13) ?_
 rintro e w' ⟨he, hO'⟩
 refine ⟨_, he, fun a hf => ?_⟩
 have hO := hch13.back rfl hO' rfl
 refine S.op tb ?_ hf hO hm
 refine br rfl (fun hc15 => ?_) fun hc15 => ?_
 refine rw_ rfl fun a w hf hO hm => ?_
 obtain ⟨r16, hr16, hm⟩ := ob hm
 have hch19 := (show Dk.Own w0 F _ ([.blk x_p_b0 [ptr x_p_b1 0, .slice x_p_p2 x_p.f_out.length x_p_c2, int x_p.f_from, str x_p.f_s] 297, .blk x_p_b1 [str r12.2.f_s, int r12.2.f_at] 289, .row (.slice x_p_p2 x_p.f_out.length x_p_c2) 9 1 x_p.f_out.length (cells zh x_p.f_out)] ++ []) from hO.choose [1, 0, 2] rfl)
 have hfar19 := Dk.Own.far hch19 rfl hF hG.size
 have hlend19 := hch19.lend (S := []) rfl trivial
 have hcl19 := zfO (⟨r12.2, x_p.f_out, x_p.f_from, x_p.f_s⟩ : commas_splitter) r16 _ (hG.own hF hO) hfar19 hlend19 hr16
 refine zg (zi c_264 hf (vs := [ptr x_p_b0 0]) rfl) rfl hf rfl rfl (hcl19) ?_
 rintro e w' ⟨p17, c18, he, hO'⟩
 refine ⟨_, he, fun a hf => ?_⟩
 have hO := hch19.back rfl hO' rfl
 refine S.op tb ?_ hf hO hm
 refine re_ rfl fun a w hf hO hm => ?_
 obtain rfl := Option.some.inj hm
 exact zb Tryz.results233 hf (.tmp rfl .nil) ⟨p17, c18, rfl, hO⟩
 refine ld 1 rfl rfl ?_
 refine cl zjZ rfl (fun r21 w hr21 hO => zS r12.2 r21 _ (hG.own hF hO) (hO.blkSees (i := 0) rfl) hr21) fun r21 hr21 => ?_
 refine vl rfl rfl (fun a w hf hO => zaQ (b := r21.1) (c := 34) hf rfl rfl) ?_
 refine br rfl (fun hc24 => ?_) fun hc24 => ?_
 refine ld 1 rfl rfl ?_
 refine rw_ rfl fun a w hf hO hm => ?_
 obtain ⟨r25, hr25, hm⟩ := ob hm
 have hch26 := (show Dk.Own w0 F _ ([.blk x_p_b1 [str r12.2.f_s, int r12.2.f_at] 289] ++ [.blk x_p_b0 [ptr x_p_b1 0, .slice x_p_p2 x_p.f_out.length x_p_c2, int x_p.f_from, str x_p.f_s] 297, .row (.slice x_p_p2 x_p.f_out.length x_p_c2) 9 1 x_p.f_out.length (cells zh x_p.f_out)]) from hO)
 have hfar26 := Dk.Own.far hch26 rfl hF hG.size
 have hlend26 := hch26.lend (S := []) rfl trivial
 have hcl26 := zh0 r12.2 r25 _ (hG.own hF hO) hfar26 hlend26 hr25
 refine zg (zi c_265 hf (vs := [ptr x_p_b1 0]) rfl) rfl hf rfl rfl (hcl26) ?_
 rintro e w' ⟨he, hO'⟩
 refine ⟨_, he, fun a hf => ?_⟩
 have hO := hch26.back rfl hO' rfl
 refine S.op tb ?_ hf hO hm
 refine re_ rfl fun a w hf hO hm => ?_
 obtain rfl := Option.some.inj hm
 exact zb Tryz.results233 hf (.tmp rfl .nil) ⟨x_p_p2, x_p_c2, rfl, (hO.choose [1, 0, 2] rfl)⟩
 refine ld 1 rfl rfl ?_
 refine rw_ rfl fun a w hf hO hm => ?_
 obtain ⟨r30, hr30, hm⟩ := ob hm
 have hch31 := (show Dk.Own w0 F _ ([.blk x_p_b1 [str r12.2.f_s, int r12.2.f_at] 289] ++ [.blk x_p_b0 [ptr x_p_b1 0, .slice x_p_p2 x_p.f_out.length x_p_c2, int x_p.f_from, str x_p.f_s] 297, .row (.slice x_p_p2 x_p.f_out.length x_p_c2) 9 1 x_p.f_out.length (cells zh x_p.f_out)]) from hO)
 have hfar31 := Dk.Own.far hch31 rfl hF hG.size
 have hlend31 := hch31.lend (S := []) rfl trivial
 have hcl31 := zq r12.2 r21.1 r30 _ (hG.own hF hO) hfar31 hlend31 hr30
 refine zg (zi zet hf (vs := [ptr x_p_b1 0, zB r21.1]) rfl) rfl hf rfl rfl (hcl31) ?_
 rintro e w' ⟨he, hO'⟩
 refine ⟨_, he, fun a hf => ?_⟩
 have hO := hch31.back rfl hO' rfl
 refine S.op tb ?_ hf hO hm
 exact ec [1, 0, 2] rfl rfl rfl fun _ _ j => ⟨x_p_p2, x_p_c2, x_p.f_out, x_p.f_from, x_p.f_s, r30.2.f_s, r30.2.f_at, j rfl⟩
 rintro a w ⟨p32, c33, l34, i35, s36, s37, i38, hf, hO, hm⟩
 rw [zaF] at hm
 refine S.co tb ?_ hf hO hm
 refine re_ rfl fun a w hf hO hm => ?_
 obtain rfl := Option.some.inj hm
 exact zb Tryz.results233 hf (.tmp rfl .nil) ⟨p32, c33, rfl, hO⟩

theorem zhi (x_s : Str) (R : List Str × Int) (w0 : World) (hG : zt w0) (hm : zfw x_s = some R) :
    Calls Tryz.prog 196 #[str x_s] w0 fun e w' => ∃ (p0 : Option Addr) (c0 : Nat), e = .returned (.tuple #[.slice p0 R.1.length c0, int R.2]) ∧ Dk.Own w0 [] w' [.row (.slice p0 R.1.length c0) 9 1 R.1.length (cells zh R.1)] := by
 rw [zfw] at hm
 have hF : zo [] := zf
 have hO : Dk.Own w0 [] w0 [] := Dk.Own.refl w0
 refine S.enter tb Tryz.func196 rfl Tryz.ntmps196 rfl ?_ hO hm
 refine nl 9 1 ?_
 refine rw_ rfl fun a w hf hO hm => ?_
 obtain ⟨r2, hr2, hm⟩ := ob hm
 refine zg (zi zkE hf (vs := [str x_s]) rfl) rfl hf rfl rfl (zeD x_s r2 _ (hG.own hF hO) hr2) ?_
 rintro e w' ⟨b3, he, hO'⟩
 refine ⟨_, he, fun a hf => ?_⟩
 have hO := hO.call hO' (by simp [Res.shared])
 refine S.op tb ?_ hf hO hm
 refine vl rfl rfl (fun a w hf hO => zl (vs := [(0, ptr b3 0), (3, str x_s)]) (v := .agg #[ptr b3 0, .slice none 0 0, int 0, str x_s]) hf rfl (by kernel_rfl)) ?_
 refine bo rfl fun b4 => ?_
 refine nl 9 1 ?_
 refine jv 0 [0, 4] [3] (fun J E L => ∃ (p24 : Option Addr) (c25 : Nat) (l26 : List Str) (i27 : Int) (s28 : Str) (s29 : Str) (i30 : Int), J (E) (.row (.slice p24 l26.length c25) 9 1 l26.length (cells zh l26) :: .blk b4 [ptr b3 0, .slice p24 l26.length c25, int i27, str s28] 297 :: .blk b3 [str s29, int i30] 289 :: L) (zfi x_s l26 i27 s28 s29 i30)) rfl ?_ ?_
 refine lv [0, 4] [3] (fun J E L k => ∃ (p6 : Option Addr) (c7 : Nat) (l8 : List Str) (i9 : Int) (s10 : Str) (s11 : Str) (i12 : Int), J (E) (.row (.slice p6 l8.length c7) 9 1 l8.length (cells zh l8) :: .blk b4 [ptr b3 0, .slice p6 l8.length c7, int i9, str s10] 297 :: .blk b3 [str s11, int i12] 289 :: L) (zck x_s k l8 i9 s10 s11 i12)) rfl (fun _ _ j => ⟨none, 0, [], 0, x_s, r2.f_s, r2.f_at, j rfl⟩) ?_
 rintro n1 a w ⟨p6, c7, l8, i9, s10, s11, i12, hf, hO, hm⟩
 obtain _ | n1 := n1
 rw [zck] at hm
 cases hm
 rw [zck] at hm
 refine S.co tb ?_ hf hO hm
 refine ld 1 rfl rfl ?_
 refine cl zly rfl (fun r13 w hr13 hO => za8 (⟨s11, i12⟩ : scan_Scanner) r13 _ (hG.own hF hO) (hO.blkSees (i := 2) rfl) hr13) fun r13 hr13 => ?_
 refine br rfl (fun hc15 => ?_) fun hc15 => ?_
 refine rw_ rfl fun a w hf hO hm => ?_
 obtain ⟨r17, hr17, hm⟩ := ob hm
 have hch20 := (show Dk.Own w0 [] _ ([.blk b4 [ptr b3 0, .slice p6 l8.length c7, int i9, str s10] 297, .blk b3 [str s11, int i12] 289, .row (.slice p6 l8.length c7) 9 1 l8.length (cells zh l8)] ++ [.row (.slice none 0 0) 9 1 0 (cells zh [])]) from hO.choose [1, 2, 0, 3] rfl)
 have hfar20 := Dk.Own.far hch20 rfl hF hG.size
 have hlend20 := hch20.lend (S := []) rfl trivial
 have hcl20 := zgD ((⟨(⟨s11, i12⟩ : scan_Scanner), l8, i9, s10⟩ : commas_splitter)) r17 _ (hG.own hF hO) hfar20 hlend20 hr17
 refine zg (zi c_233 hf (vs := [ptr b4 0]) rfl) rfl hf rfl rfl (hcl20) ?_
 rintro e w' ⟨p18, c19, he, hO'⟩
 refine ⟨_, he, fun a hf => ?_⟩
 have hO := hch20.back rfl hO' rfl
 refine S.op tb ?_ hf hO hm
 refine br rfl (fun hc22 => ?_) fun hc22 => ?_
 refine nl 9 1 ?_
 refine re_ rfl fun a w hf hO hm => ?_
 obtain rfl := Option.some.inj hm
 exact zb Tryz.results196 hf (.tmp rfl (.tmp rfl .nil)) ⟨none, 0, rfl, (hO.sub (.cons_cons _ (.cons _ (.cons _ (.cons _ (.cons _ .slnil))))))⟩
 exact ec [2, 0, 1, 3] rfl rfl rfl fun _ _ j => ⟨_, Nat.lt_succ_self _, p18, c19, r17.2.f_out, r17.2.f_from, r17.2.f_s, r17.2.Scanner.f_s, r17.2.Scanner.f_at, j rfl⟩
 exact en rfl fun _ _ j => ⟨p6, c7, l8, i9, s10, s11, i12, j rfl⟩
 rintro a w ⟨p24, c25, l26, i27, s28, s29, i30, hf, hO, hm⟩
 rw [zfi] at hm
 refine S.co tb ?_ hf hO hm
 refine rw_ rfl fun a w hf hO hm => ?_
 obtain ⟨r31, hr31, hm⟩ := ob hm
 have hch34 := (show Dk.Own w0 [] _ ([.blk b4 [ptr b3 0, .slice p24 l26.length c25, int i27, str s28] 297, .blk b3 [str s29, int i30] 289, .row (.slice p24 l26.length c25) 9 1 l26.length (cells zh l26)] ++ [.row (.slice none 0 0) 9 1 0 (cells zh [])]) from hO.choose [1, 2, 0, 3] rfl)
 have hfar34 := Dk.Own.far hch34 rfl hF hG.size
 have hlend34 := hch34.lend (S := []) rfl trivial
 have hcl34 := zey ((⟨(⟨s29, i30⟩ : scan_Scanner), l26, i27, s28⟩ : commas_splitter)) (x_s.length : Int) r31 _ (hG.own hF hO) hfar34 hlend34 hr31
 refine zg (zi c_234 hf (vs := [ptr b4 0, int (x_s.length : Int)]) rfl) rfl hf rfl rfl (hcl34) ?_
 rintro e w' ⟨p32, c33, he, hO'⟩
 refine ⟨_, he, fun a hf => ?_⟩
 have hO := hch34.back rfl hO' rfl
 refine S.op tb ?_ hf hO hm
 refine ld 0 rfl rfl ?_
 refine re_ rfl fun a w hf hO hm => ?_
 obtain rfl := Option.some.inj hm
 exact zb Tryz.results196 hf (.tmp rfl (.tmp rfl .nil)) ⟨p32, c33, rfl, (hO.sub (.cons _ (.cons _ (.cons_cons _ (.cons _ .slnil)))))⟩

theorem zjz (x_l : List Str) (R : List Str × Int) (w0 : World) (hG : zt w0) {x_l_p0 : Option Addr} {x_l_c0 : Nat} (hs0 : zw w0 x_l_p0 (cells zh x_l)) (hc0 : x_l.length ≤ x_l_c0) (hm : zgc x_l = some R) :
    Calls Tryz.prog 195 #[.slice x_l_p0 x_l.length x_l_c0] w0 fun e w' => ∃ (p0 : Option Addr) (c0 : Nat), e = .returned (.tuple #[.slice p0 R.1.length c0, int R.2]) ∧ Dk.Own w0 [] w' [.row (.slice p0 R.1.length c0) 9 1 R.1.length (cells zh R.1)] := by
 rw [zgc] at hm
 have hF : zo [] := zf
 have hO : Dk.Own w0 [] w0 [] := Dk.Own.refl w0
 have hO := hO.addShr hs0 (by simp [Res.shared])
 refine S.enter tb Tryz.func195 rfl Tryz.ntmps195 rfl ?_ hO hm
 refine nl 9 1 ?_
 refine nl 9 1 ?_
 refine lv [11, 12] [1, 2] (fun J E L k => ∃ (p4 : Option Addr) (c5 : Nat) (l6 : List Str) (i7 : Int), J ((4, .slice p4 l6.length c5) :: (13, int i7) :: E) (.row (.slice p4 l6.length c5) 9 1 l6.length (cells zh l6) :: L) (za4 x_l k l6 i7)) rfl (fun _ _ j => ⟨none, 0, [], 0, j rfl⟩) ?_
 rintro n1 a w ⟨p4, c5, l6, i7, hf, hO, hm⟩
 obtain _ | n1 := n1
 rw [za4] at hm
 cases hm
 rw [za4] at hm
 refine S.co tb ?_ hf hO hm
 refine br rfl (fun hc9 => ?_) fun hc9 => ?_
 refine rw_ rfl fun a w hf hO hm => ?_
 obtain ⟨x11, hx11, hm⟩ := ob hm
 obtain ⟨b12, o13, hix11, hSx11⟩ := zd3 (enc := zh) (sz := 1) (xs := x_l) 61 Tryz.underlying61 zhS (by decide) (fun _ => rfl) (hO.sees (i := 2) rfl) hx11
 refine zaS (zy hix11 hf rfl rfl) rfl hf rfl rfl fun a hf => ?_
 refine S.op tb ?_ hf hO hm
 refine vl rfl rfl (fun a w hf hO => zk (o := 0) zbC (hSx11 _ (hO.sees (i := 2) rfl)) rfl hf rfl) ?_
 refine rw_ rfl fun a w hf hO hm => ?_
 obtain ⟨r15, hr15, hm⟩ := ob hm
 refine zg (zi c_196 hf (vs := [str x11]) rfl) rfl hf rfl rfl (zhi x11 r15 _ (hG.own hF hO) hr15) ?_
 rintro e w' ⟨p16, c17, he, hO'⟩
 refine ⟨_, he, fun a hf => ?_⟩
 have hO := hO.call hO' (by simp [Res.shared])
 refine S.op tb ?_ hf hO hm
 refine br rfl (fun hc20 => ?_) fun hc20 => ?_
 refine nl 9 1 ?_
 refine re_ rfl fun a w hf hO hm => ?_
 obtain rfl := Option.some.inj hm
 exact zb Tryz.results195 hf (.tmp rfl (.tmp rfl .nil)) ⟨none, 0, rfl, (hO.sub (.cons_cons _ (.cons _ (.cons _ (.cons _ (.cons _ .slnil))))))⟩
 refine lv [4, 7, 11, 12, 13, 25, 26] [0, 1, 2, 3] (fun J E L k => ∃ (i24 : Int), J ((27, int i24) :: E) (L) (zbS (za4 x_l n1) l6 i7 r15 k i24)) rfl (fun _ _ j => ⟨0, j rfl⟩) ?_
 rintro n2 a w ⟨i24, hf, hO, hm⟩
 obtain _ | n2 := n2
 rw [zbS] at hm
 cases hm
 rw [zbS] at hm
 refine S.co tb ?_ hf hO hm
 refine br rfl (fun hc26 => ?_) fun hc26 => ?_
 refine rw_ rfl fun a w hf hO hm => ?_
 obtain ⟨x28, hx28, hm⟩ := ob hm
 obtain ⟨b29, o30, hix28, hSx28, hAx28⟩ := zdY (enc := zh) (sz := 1) (xs := r15.1) 61 Tryz.underlying61 zhS (by decide) (fun _ => rfl) hO (i := 0) rfl hx28
 refine zaS (zy hix28 hf rfl rfl) rfl hf rfl rfl fun a hf => ?_
 refine S.op tb ?_ hf hO hm
 refine vl rfl rfl (fun a w hf hO => zk (o := 0) zbC (hSx28 _ (hO.rowSees (i := 0) rfl)) rfl hf rfl) ?_
 refine cl c_94 rfl (fun r32 w hr32 hO => zh1 x28 r32 _ (hG.own hF hO) hr32) fun r32 hr32 => ?_
 refine br rfl (fun hc34 => ?_) fun hc34 => ?_
 refine nl 9 1 ?_
 refine re_ rfl fun a w hf hO hm => ?_
 obtain rfl := Option.some.inj hm
 exact zb Tryz.results195 hf (.tmp rfl (.tmp rfl .nil)) ⟨none, 0, rfl, (hO.sub (.cons_cons _ (.cons _ (.cons _ (.cons _ (.cons _ .slnil))))))⟩
 refine bi rfl fun i37 hi37 => ?_
 exact en rfl fun _ _ j => ⟨_, Nat.lt_succ_self _, i37, j rfl⟩
 refine rw_ rfl fun a w hf hO hm => ?_
 obtain ⟨hg41, hm⟩ := og hm
 refine zfB zjp (enc := zh) (xs := l6) (ys := r15.1) (i := 1) (fun _ => rfl) rfl (hO.rowSees (i := 0) rfl) (by simp [zh, Value.oneCell']) hg41 hf rfl rfl rfl hO fun a p39 c40 w hf hO => ?_
 refine S.op tb ?_ hf hO hm
 refine bi rfl fun i43 hi43 => ?_
 exact ec [1, 2, 3] rfl rfl rfl fun _ _ j => ⟨_, Nat.lt_succ_self _, p39, c40, l6 ++ r15.1, i43, j rfl⟩
 refine re_ rfl fun a w hf hO hm => ?_
 obtain rfl := Option.some.inj hm
 exact zb Tryz.results195 hf (.tmp rfl (.tmp rfl .nil)) ⟨p4, c5, rfl, (hO.sub (.cons_cons _ (.cons _ (.cons _ .slnil))))⟩

theorem zgE (x_r : length_reader) (x_l : List Str) (R : api_Frame × Int) (w0 : World) (hG : zt w0) {x_r_b0 : Nat} {x_r_p1 : Option Addr} {x_r_c1 : Nat} (hs0 : zw w0 (some ⟨x_r_b0, 0, none⟩) [.slice x_r_p1 x_r.Bag.f_l.length x_r_c1]) (hs1 : zw w0 x_r_p1 (cells za x_r.Bag.f_l)) (hc1 : x_r.Bag.f_l.length ≤ x_r_c1) {x_l_p2 : Option Addr} {x_l_c2 : Nat} (hs2 : zw w0 x_l_p2 (cells zh x_l)) (hc2 : x_l.length ≤ x_l_c2) (hm : zcW x_r x_l = some R) :
    Calls Tryz.prog 142 #[.agg #[ptr x_r_b0 0, int x_r.f_minor], .slice x_l_p2 x_l.length x_l_c2] w0 (Ret w0 (fun R => .tuple #[.agg #[int R.1.Kind, int R.1.N], int R.2]) R) := by
 rw [zcW] at hm
 have hF : zo [] := zf
 have hO : Dk.Own w0 [] w0 [] := Dk.Own.refl w0
 have hO := hO.addShr hs0 (by simp [Res.shared])
 have hO := hO.addShr hs1 (by simp [Res.shared])
 have hO := hO.addShr hs2 (by simp [Res.shared])
 refine S.enter tb Tryz.func142 rfl Tryz.ntmps142 rfl ?_ hO hm
 refine bo rfl fun b1 => ?_
 refine al ziy rfl fun b2 => ?_
 refine rw_ rfl fun a w hf hO hm => ?_
 obtain ⟨r4, hr4, hm⟩ := ob hm
 refine zg (zi c_195 hf (vs := [.slice x_l_p2 x_l.length x_l_c2]) rfl) rfl hf rfl rfl (zjz x_l r4 _ (hG.own hF hO) (hO.sees (i := 2) rfl) hc2 hr4) ?_
 rintro e w' ⟨p5, c6, he, hO'⟩
 refine ⟨_, he, fun a hf => ?_⟩
 have hO := hO.call hO' (by simp [Res.shared])
 refine S.op tb ?_ hf hO hm
 refine jv 1 [4] [0, 1, 2, 3, 4, 5] (fun J E L => ∃ (t15 : Bool), J ((31, .bool t15) :: E) (L) (zQ t15)) rfl ?_ ?_
 refine br rfl (fun hc8 => ?_) fun hc8 => ?_
 exact en rfl fun _ _ j => ⟨true, j rfl⟩
 refine ld 2 rfl rfl ?_
 refine br rfl (fun hc9 => ?_) fun hc9 => ?_
 exact en rfl fun _ _ j => ⟨true, j rfl⟩
 refine br rfl (fun hc10 => ?_) fun hc10 => ?_
 exact en rfl fun _ _ j => ⟨true, j rfl⟩
 refine rw_ rfl fun a w hf hO hm => ?_
 obtain ⟨x11, hx11, hm⟩ := ob hm
 obtain ⟨b12, o13, hix11, hSx11, hAx11⟩ := zdY (enc := zh) (sz := 1) (xs := r4.1) 61 Tryz.underlying61 zhS (by decide) (fun _ => rfl) hO (i := 0) rfl hx11
 refine zaS (zy hix11 hf rfl rfl) rfl hf rfl rfl fun a hf => ?_
 refine S.op tb ?_ hf hO hm
 refine kn (b' := false) hc10 rfl ?_
 refine vl rfl rfl (fun a w hf hO => zk (o := 0) zbC (hSx11 _ (hO.rowSees (i := 0) rfl)) rfl hf rfl) ?_
 refine cl c_192 rfl (fun r14 w hr14 hO => ziJ x11 [99, 104, 117, 110, 107, 101, 100] r14 _ (hG.own hF hO) hr14) fun r14 hr14 => ?_
 exact en rfl fun _ _ j => ⟨!r14, j rfl⟩
 rintro a w ⟨t15, hf, hO, hm⟩
 rw [zQ] at hm
 refine S.co tb ?_ hf hO hm
 refine br rfl (fun hc16 => ?_) fun hc16 => ?_
 refine vl rfl rfl (fun a w hf hO => zl (vs := []) (v := .agg #[int 0, int 0]) hf rfl (by kernel_rfl)) ?_
 refine st 1 rfl rfl ?_
 refine re_ rfl fun a w hf hO hm => ?_
 obtain rfl := Option.some.inj hm
 exact zb Tryz.results142 hf (.cell rfl (ze (n := 2) (vs := [int 0, int 0]) zfm zfn rfl ((hO.blkSees (i := 1) rfl).cells (o := 0) (n := 2) rfl)) (.tmp rfl .nil)) ⟨rfl, hO.below⟩
 refine vl rfl rfl (fun a w hf hO => zl (vs := [(0, int 3)]) (v := .agg #[int 3, int 0]) hf rfl (by kernel_rfl)) ?_
 refine st 1 rfl rfl ?_
 refine re_ rfl fun a w hf hO hm => ?_
 obtain rfl := Option.some.inj hm
 exact zb Tryz.results142 hf (.cell rfl (ze (n := 2) (vs := [int 3, int 0]) zfm zfn rfl ((hO.blkSees (i := 1) rfl).cells (o := 0) (n := 2) rfl)) (.tmp rfl .nil)) ⟨rfl, hO.below⟩

theorem zgm (x_r : length_reader) (x_l : List Str) (R : api_Frame × Int) (w0 : World) (hG : zt w0) {x_r_b0 : Nat} {x_r_p1 : Option Addr} {x_r_c1 : Nat} (hs0 : zw w0 (some ⟨x_r_b0, 0, none⟩) [.slice x_r_p1 x_r.Bag.f_l.length x_r_c1]) (hs1 : zw w0 x_r_p1 (cells za x_r.Bag.f_l)) (hc1 : x_r.Bag.f_l.length ≤ x_r_c1) {x_l_p2 : Option Addr} {x_l_c2 : Nat} (hs2 : zw w0 x_l_p2 (cells zh x_l)) (hc2 : x_l.length ≤ x_l_c2) (hm : zcw x_r x_l = some R) :
    Calls Tryz.prog 143 #[.agg #[ptr x_r_b0 0, int x_r.f_minor], .slice x_l_p2 x_l.length x_l_c2] w0 (Ret w0 (fun R => .tuple #[.agg #[int R.1.Kind, int R.1.N], int R.2]) R) := by
 rw [zcw] at hm
 have hF : zo [] := zf
 have hO : Dk.Own w0 [] w0 [] := Dk.Own.refl w0
 have hO := hO.addShr hs0 (by simp [Res.shared])
 have hO := hO.addShr hs1 (by simp [Res.shared])
 have hO := hO.addShr hs2 (by simp [Res.shared])
 refine S.enter tb Tryz.func143 rfl Tryz.ntmps143 rfl ?_ hO hm
 refine bo rfl fun b1 => ?_
 refine al ziy rfl fun b2 => ?_
 refine lv [4, 15, 16] [0, 1, 2, 3, 4] (fun J E L k => ∃ (i6 : Int) (i7 : Int), J ((6, int i6) :: (17, int i7) :: E) (L) (zD x_l k i6 i7)) rfl (fun _ _ j => ⟨(-1), 0, j rfl⟩) ?_
 rintro n1 a w ⟨i6, i7, hf, hO, hm⟩
 obtain _ | n1 := n1
 rw [zD] at hm
 cases hm
 rw [zD] at hm
 refine S.co tb ?_ hf hO hm
 refine br rfl (fun hc9 => ?_) fun hc9 => ?_
 refine rw_ rfl fun a w hf hO hm => ?_
 obtain ⟨x11, hx11, hm⟩ := ob hm
 obtain ⟨b12, o13, hix11, hSx11⟩ := zd3 (enc := zh) (sz := 1) (xs := x_l) 61 Tryz.underlying61 zhS (by decide) (fun _ => rfl) (hO.sees (i := 2) rfl) hx11
 refine zaS (zy hix11 hf rfl rfl) rfl hf rfl rfl fun a hf => ?_
 refine S.op tb ?_ hf hO hm
 refine vl rfl rfl (fun a w hf hO => zk (o := 0) zbC (hSx11 _ (hO.sees (i := 2) rfl)) rfl hf rfl) ?_
 refine rw_ rfl fun a w hf hO hm => ?_
 obtain ⟨r15, hr15, hm⟩ := ob hm
 refine zg (zi c_196 hf (vs := [str x11]) rfl) rfl hf rfl rfl (zhi x11 r15 _ (hG.own hF hO) hr15) ?_
 rintro e w' ⟨p16, c17, he, hO'⟩
 refine ⟨_, he, fun a hf => ?_⟩
 have hO := hO.call hO' (by simp [Res.shared])
 refine S.op tb ?_ hf hO hm
 refine br rfl (fun hc20 => ?_) fun hc20 => ?_
 refine vl rfl rfl (fun a w hf hO => zl (vs := []) (v := .agg #[int 0, int 0]) hf rfl (by kernel_rfl)) ?_
 refine st 1 rfl rfl ?_
 refine re_ rfl fun a w hf hO hm => ?_
 obtain rfl := Option.some.inj hm
 exact zb Tryz.results143 hf (.cell rfl (ze (n := 2) (vs := [int 0, int 0]) zfm zfn rfl ((hO.blkSees (i := 1) rfl).cells (o := 0) (n := 2) rfl)) (.tmp rfl .nil)) ⟨rfl, hO.below⟩
 refine lv [4, 15, 16, 17, 29, 30] [0, 1, 2, 3, 4, 5] (fun J E L k => ∃ (i24 : Int) (i25 : Int), J ((6, int i24) :: (31, int i25) :: E) (L) (zz (zD x_l n1) i7 r15 k i24 i25)) rfl (fun _ _ j => ⟨i6, 0, j rfl⟩) ?_
 rintro n2 a w ⟨i24, i25, hf, hO, hm⟩
 obtain _ | n2 := n2
 rw [zz] at hm
 cases hm
 rw [zz] at hm
 refine S.co tb ?_ hf hO hm
 refine br rfl (fun hc27 => ?_) fun hc27 => ?_
 refine rw_ rfl fun a w hf hO hm => ?_
 obtain ⟨x29, hx29, hm⟩ := ob hm
 obtain ⟨b30, o31, hix29, hSx29, hAx29⟩ := zdY (enc := zh) (sz := 1) (xs := r15.1) 61 Tryz.underlying61 zhS (by decide) (fun _ => rfl) hO (i := 0) rfl hx29
 refine zaS (zy hix29 hf rfl rfl) rfl hf rfl rfl fun a hf => ?_
 refine S.op tb ?_ hf hO hm
 refine vl rfl rfl (fun a w hf hO => zk (o := 0) zbC (hSx29 _ (hO.rowSees (i := 0) rfl)) rfl hf rfl) ?_
 refine cl zmz rfl (fun r33 w hr33 hO => zcA x29 1099511627776 r33 _ (hG.own hF hO) hr33) fun r33 hr33 => ?_
 refine jv 10 [4, 13, 15, 16, 17, 29, 30, 31] [0, 1, 2, 3, 4, 5] (fun J E L => ∃ (t37 : Bool), J ((50, .bool t37) :: E) (L) (z7 (zz (zD x_l n1) i7 r15 n2) i25 r33 t37)) rfl ?_ ?_
 refine br rfl (fun hc35 => ?_) fun hc35 => ?_
 exact en rfl fun _ _ j => ⟨true, j rfl⟩
 refine br rfl (fun hc36 => ?_) fun hc36 => ?_
 exact en rfl fun _ _ j => ⟨!(r33.1 == i24), j rfl⟩
 exact en rfl fun _ _ j => ⟨false, j rfl⟩
 rintro a w ⟨t37, hf, hO, hm⟩
 rw [z7] at hm
 refine S.co tb ?_ hf hO hm
 refine br rfl (fun hc38 => ?_) fun hc38 => ?_
 refine vl rfl rfl (fun a w hf hO => zl (vs := []) (v := .agg #[int 0, int 0]) hf rfl (by kernel_rfl)) ?_
 refine st 1 rfl rfl ?_
 refine re_ rfl fun a w hf hO hm => ?_
 obtain rfl := Option.some.inj hm
 exact zb Tryz.results143 hf (.cell rfl (ze (n := 2) (vs := [int 0, int 0]) zfm zfn rfl ((hO.blkSees (i := 1) rfl).cells (o := 0) (n := 2) rfl)) (.tmp rfl .nil)) ⟨rfl, hO.below⟩
 refine bi rfl fun i42 hi42 => ?_
 exact en rfl fun _ _ j => ⟨_, Nat.lt_succ_self _, r33.1, i42, j rfl⟩
 refine bi rfl fun i44 hi44 => ?_
 exact ec [1, 2, 3, 4, 5] rfl rfl rfl fun _ _ j => ⟨_, Nat.lt_succ_self _, i24, i44, j rfl⟩
 refine br rfl (fun hc47 => ?_) fun hc47 => ?_
 refine vl rfl rfl (fun a w hf hO => zl (vs := []) (v := .agg #[int 0, int 0]) hf rfl (by kernel_rfl)) ?_
 refine st 0 rfl rfl ?_
 refine re_ rfl fun a w hf hO hm => ?_
 obtain rfl := Option.some.inj hm
 exact zb Tryz.results143 hf (.cell rfl (ze (n := 2) (vs := [int 0, int 0]) zfm zfn rfl ((hO.blkSees (i := 0) rfl).cells (o := 0) (n := 2) rfl)) (.tmp rfl .nil)) ⟨rfl, hO.below⟩
 refine vl rfl rfl (fun a w hf hO => zl (vs := [(0, int 2), (1, int i6)]) (v := .agg #[int 2, int i6]) hf rfl (by kernel_rfl)) ?_
 refine st 0 rfl rfl ?_
 refine re_ rfl fun a w hf hO hm => ?_
 obtain rfl := Option.some.inj hm
 exact zb Tryz.results143 hf (.cell rfl (ze (n := 2) (vs := [int 2, int i6]) zfm zfn rfl ((hO.blkSees (i := 0) rfl).cells (o := 0) (n := 2) rfl)) (.tmp rfl .nil)) ⟨rfl, hO.below⟩

theorem zjq (x_h : api_Head) (x_none : Int) (R : api_Frame × Int) (w0 : World) (hG : zt w0) {x_h_p0 : Option Addr} {x_h_c0 : Nat} (hs0 : zw w0 x_h_p0 (cells za x_h.Fields)) (hc0 : x_h.Fields.length ≤ x_h_c0) (hm : zhQ x_h x_none = some R) :
    Calls Tryz.prog 99 #[.agg #[int x_h.Kind, str x_h.Method, str x_h.Target, int x_h.Code, str x_h.Reason, int x_h.Minor, .slice x_h_p0 x_h.Fields.length x_h_c0], int x_none] w0 (Ret w0 (fun R => .tuple #[.agg #[int R.1.Kind, int R.1.N], int R.2]) R) := by
 rw [zhQ] at hm
 have hF : zo [] := zf
 have hO : Dk.Own w0 [] w0 [] := Dk.Own.refl w0
 have hO := hO.addShr hs0 (by simp [Res.shared])
 refine S.enter tb Tryz.func99 rfl Tryz.ntmps99 rfl ?_ hO hm
 refine bo rfl fun b1 => ?_
 refine al ziy rfl fun b2 => ?_
 refine rc_ rfl fun a w hf hO hm => ?_
 obtain ⟨r4, hr4, hm⟩ := ob hm
 refine zm1 (S := Nat × Option Addr × Nat × Nat) (E0 := [(1, int x_none), (2, ptr b1 0), (4, ptr b2 0)]) (by kernel_rfl) (fun bs σ w => match bs with | [false, false, false] => Dk.Own w0 [] w [.blk b2 [int 0, int 0] 34, .blk b1 [int x_h.Kind, str x_h.Method, str x_h.Target, int x_h.Code, str x_h.Reason, int x_h.Minor, .slice x_h_p0 x_h.Fields.length x_h_c0] 31, .shr x_h_p0 (cells za x_h.Fields)] | [true, false, false] => Dk.Own w0 [] w [.blk (σ.1) [.slice (σ.2.1) r4.f_l.length (σ.2.2.1)] 272, .row (.slice (σ.2.1) r4.f_l.length (σ.2.2.1)) 107 2 r4.f_l.length (cells za r4.f_l), .blk b2 [int 0, int 0] 34, .blk b1 [int x_h.Kind, str x_h.Method, str x_h.Target, int x_h.Code, str x_h.Reason, int x_h.Minor, .slice x_h_p0 x_h.Fields.length x_h_c0] 31, .shr x_h_p0 (cells za x_h.Fields)] | [false, true, false] => Dk.Own w0 [] w [.blk (σ.2.2.2) [.pointer none, int 0] 223, .blk b2 [int 0, int 0] 34, .blk b1 [int x_h.Kind, str x_h.Method, str x_h.Target, int x_h.Code, str x_h.Reason, int x_h.Minor, .slice x_h_p0 x_h.Fields.length x_h_c0] 31, .shr x_h_p0 (cells za x_h.Fields)] | [true, true, false] => Dk.Own w0 [] w [.blk (σ.2.2.2) [.pointer none, int 0] 223, .blk (σ.1) [.slice (σ.2.1) r4.f_l.length (σ.2.2.1)] 272, .row (.slice (σ.2.1) r4.f_l.length (σ.2.2.1)) 107 2 r4.f_l.length (cells za r4.f_l), .blk b2 [int 0, int 0] 34, .blk b1 [int x_h.Kind, str x_h.Method, str x_h.Target, int x_h.Code, str x_h.Reason, int x_h.Minor, .slice x_h_p0 x_h.Fields.length x_h_c0] 31, .shr x_h_p0 (cells za x_h.Fields)] | [true, true, true] => Dk.Own w0 [] w [.blk (σ.2.2.2) [ptr (σ.1) 0, int x_h.Minor] 223, .blk (σ.1) [.slice (σ.2.1) r4.f_l.length (σ.2.2.1)] 272, .row (.slice (σ.2.1) r4.f_l.length (σ.2.2.1)) 107 2 r4.f_l.length (cells za r4.f_l), .blk b2 [int 0, int 0] 34, .blk b1 [int x_h.Kind, str x_h.Method, str x_h.Target, int x_h.Code, str x_h.Reason, int x_h.Minor, .slice x_h_p0 x_h.Fields.length x_h_c0] 31, .shr x_h_p0 (cells za x_h.Fields)] | _ => False) (fun σ => [⟨[(2, ptr b1 0)], some (9, ptr b1 6)⟩, ⟨[(9, ptr b1 6)], some (10, .slice x_h_p0 x_h.Fields.length x_h_c0)⟩, ⟨[(10, .slice x_h_p0 x_h.Fields.length x_h_c0)], some (11, ptr (σ.1) 0)⟩, ⟨[(2, ptr b1 0)], some (12, ptr b1 5)⟩, ⟨[(12, ptr b1 5)], some (13, int x_h.Minor)⟩, ⟨[(11, ptr (σ.1) 0), (13, int x_h.Minor)], some (14, .agg #[ptr (σ.1) 0, int x_h.Minor])⟩, ⟨[], some (6, ptr (σ.2.2.2) 0)⟩, ⟨[(6, ptr (σ.2.2.2) 0), (14, .agg #[ptr (σ.1) 0, int x_h.Minor])], none⟩]) (0, none, 0, 0) [2, 6, 7] rfl (fun _ => rfl) (fun _ => rfl) (fun _ => rfl) rfl (by decide) rfl hO.drew (hf.cons rfl (hf.cons rfl (hf.cons rfl hf.nil))) (fun σ => ⟨⟨rfl, trivial⟩, ⟨rfl, trivial⟩, ⟨rfl, trivial⟩, ⟨rfl, trivial⟩, ⟨rfl, trivial⟩, ⟨rfl, rfl, trivial⟩, trivial, ⟨rfl, rfl, trivial⟩, trivial⟩) ⟨ziV rfl (fun σ => rfl) (fun σ => rfl) (fun σ a w bs hlen hok hst hf => match bs, hlen, hok, hst with | [false, false, false], _, hok, hst => zr zkP hf rfl | [true, false, false], _, hok, hst => absurd hok (by rw [show okI _ _ _ _ = false from by kernel_rfl]; decide) | [false, true, false], _, hok, hst => zr zkP hf rfl | [true, true, false], _, hok, hst => absurd hok (by rw [show okI _ _ _ _ = false from by kernel_rfl]; decide) | [true, true, true], _, hok, hst => absurd hok (by rw [show okI _ _ _ _ = false from by kernel_rfl]; decide) | [false, false, true], _, _, hst => (show False from hst).elim | [true, false, true], _, _, hst => (show False from hst).elim | [false, true, true], _, _, hst => (show False from hst).elim | [], hlen, _, _ => absurd hlen (by simp) | [_], hlen, _, _ => absurd hlen (by simp) | [_, _], hlen, _, _ => absurd hlen (by simp) | _ :: _ :: _ :: _ :: _, hlen, _, _ => absurd hlen (by simp) ), ziV rfl (fun σ => rfl) (fun σ => rfl) (fun σ a w bs hlen hok hst hf => match bs, hlen, hok, hst with | [false, false, false], _, hok, hst => have hO : Dk.Own w0 [] w _ := hst; zk (o := 6) zkC (hO.blkSees (i := 1) rfl) rfl hf rfl | [true, false, false], _, hok, hst => absurd hok (by rw [show okI _ _ _ _ = false from by kernel_rfl]; decide) | [false, true, false], _, hok, hst => have hO : Dk.Own w0 [] w _ := hst; zk (o := 6) zkC (hO.blkSees (i := 2) rfl) rfl hf rfl | [true, true, false], _, hok, hst => absurd hok (by rw [show okI _ _ _ _ = false from by kernel_rfl]; decide) | [true, true, true], _, hok, hst => absurd hok (by rw [show okI _ _ _ _ = false from by kernel_rfl]; decide) | [false, false, true], _, _, hst => (show False from hst).elim | [true, false, true], _, _, hst => (show False from hst).elim | [false, true, true], _, _, hst => (show False from hst).elim | [], hlen, _, _ => absurd hlen (by simp) | [_], hlen, _, _ => absurd hlen (by simp) | [_, _], hlen, _, _ => absurd hlen (by simp) | _ :: _ :: _ :: _ :: _, hlen, _, _ => absurd hlen (by simp) ), zoE rfl (fun σ => rfl) (fun σ => rfl) rfl (fun σ a w hf => zi c_139 hf (vs := [.slice x_h_p0 x_h.Fields.length x_h_c0]) rfl) (fun σ w bs hlen hok hst => match bs, hlen, hok, hst with | [false, false, false], _, hok, hst => have hO : Dk.Own w0 [] w _ := hst; (zje x_h.Fields r4 _ (hG.own hF hO) (hO.sees (i := 2) rfl) hc0 hr4).mono fun e w' h => by obtain ⟨b5, p6, c7, he, hO'⟩ := h; exact ⟨(b5, p6, c7, (σ.2.2.2)), he, hO.call hO' (by simp [Res.shared]), .inr rfl, .inr rfl, .inl rfl, .inr rfl, .inr rfl, .inl rfl, .inr rfl, .inl rfl, trivial⟩ | [true, false, false], _, hok, hst => absurd hok (by rw [show okI _ _ _ _ = false from by kernel_rfl]; decide) | [false, true, false], _, hok, hst => have hO : Dk.Own w0 [] w _ := hst; (zje x_h.Fields r4 _ (hG.own hF hO) (hO.sees (i := 3) rfl) hc0 hr4).mono fun e w' h => by obtain ⟨b5, p6, c7, he, hO'⟩ := h; exact ⟨(b5, p6, c7, (σ.2.2.2)), he, (hO.call hO' (by simp [Res.shared])).choose [2, 0, 1, 3, 4, 5] rfl, .inr rfl, .inr rfl, .inl rfl, .inr rfl, .inr rfl, .inl rfl, .inr rfl, .inl rfl, trivial⟩ | [true, true, false], _, hok, hst => absurd hok (by rw [show okI _ _ _ _ = false from by kernel_rfl]; decide) | [true, true, true], _, hok, hst => absurd hok (by rw [show okI _ _ _ _ = false from by kernel_rfl]; decide) | [false, false, true], _, _, hst => (show False from hst).elim | [true, false, true], _, _, hst => (show False from hst).elim | [false, true, true], _, _, hst => (show False from hst).elim | [], hlen, _, _ => absurd hlen (by simp) | [_], hlen, _, _ => absurd hlen (by simp) | [_, _], hlen, _, _ => absurd hlen (by simp) | _ :: _ :: _ :: _ :: _, hlen, _, _ => absurd hlen (by simp) ), ziV rfl (fun σ => rfl) (fun σ => rfl) (fun σ a w bs hlen hok hst hf => match bs, hlen, hok, hst with | [false, false, false], _, hok, hst => zr ziC hf rfl | [true, false, false], _, hok, hst => zr ziC hf rfl | [false, true, false], _, hok, hst => zr ziC hf rfl | [true, true, false], _, hok, hst => zr ziC hf rfl | [true, true, true], _, hok, hst => absurd hok (by rw [show okI _ _ _ _ = false from by kernel_rfl]; decide) | [false, false, true], _, _, hst => (show False from hst).elim | [true, false, true], _, _, hst => (show False from hst).elim | [false, true, true], _, _, hst => (show False from hst).elim | [], hlen, _, _ => absurd hlen (by simp) | [_], hlen, _, _ => absurd hlen (by simp) | [_, _], hlen, _, _ => absurd hlen (by simp) | _ :: _ :: _ :: _ :: _, hlen, _, _ => absurd hlen (by simp) ), ziV rfl (fun σ => rfl) (fun σ => rfl) (fun σ a w bs hlen hok hst hf => match bs, hlen, hok, hst with | [false, false, false], _, hok, hst => have hO : Dk.Own w0 [] w _ := hst; zk (o := 5) ze6 (hO.blkSees (i := 1) rfl) rfl hf rfl | [true, false, false], _, hok, hst => have hO : Dk.Own w0 [] w _ := hst; zk (o := 5) ze6 (hO.blkSees (i := 3) rfl) rfl hf rfl | [false, true, false], _, hok, hst => have hO : Dk.Own w0 [] w _ := hst; zk (o := 5) ze6 (hO.blkSees (i := 2) rfl) rfl hf rfl | [true, true, false], _, hok, hst => have hO : Dk.Own w0 [] w _ := hst; zk (o := 5) ze6 (hO.blkSees (i := 4) rfl) rfl hf rfl | [true, true, true], _, hok, hst => absurd hok (by rw [show okI _ _ _ _ = false from by kernel_rfl]; decide) | [false, false, true], _, _, hst => (show False from hst).elim | [true, false, true], _, _, hst => (show False from hst).elim | [false, true, true], _, _, hst => (show False from hst).elim | [], hlen, _, _ => absurd hlen (by simp) | [_], hlen, _, _ => absurd hlen (by simp) | [_, _], hlen, _, _ => absurd hlen (by simp) | _ :: _ :: _ :: _ :: _, hlen, _, _ => absurd hlen (by simp) ), ziV rfl (fun σ => rfl) (fun σ => rfl) (fun σ a w bs hlen hok hst hf => match bs, hlen, hok, hst with | [false, false, false], _, hok, hst => absurd hok (by rw [show okI _ _ _ _ = false from by kernel_rfl]; decide) | [true, false, false], _, hok, hst => zl (vs := [(0, ptr (σ.1) 0), (1, int x_h.Minor)]) (v := .agg #[ptr (σ.1) 0, int x_h.Minor]) hf rfl (by kernel_rfl) | [false, true, false], _, hok, hst => absurd hok (by rw [show okI _ _ _ _ = false from by kernel_rfl]; decide) | [true, true, false], _, hok, hst => zl (vs := [(0, ptr (σ.1) 0), (1, int x_h.Minor)]) (v := .agg #[ptr (σ.1) 0, int x_h.Minor]) hf rfl (by kernel_rfl) | [true, true, true], _, hok, hst => absurd hok (by rw [show okI _ _ _ _ = false from by kernel_rfl]; decide) | [false, false, true], _, _, hst => (show False from hst).elim | [true, false, true], _, _, hst => (show False from hst).elim | [false, true, true], _, _, hst => (show False from hst).elim | [], hlen, _, _ => absurd hlen (by simp) | [_], hlen, _, _ => absurd hlen (by simp) | [_, _], hlen, _, _ => absurd hlen (by simp) | _ :: _ :: _ :: _ :: _, hlen, _, _ => absurd hlen (by simp) ), sU_val rfl (fun σ => rfl) (fun σ => rfl) rfl (fun σ w bs hlen hok hst => match bs, hlen, hok, hst with | [false, false, false], _, hok, hst => have hO : Dk.Own w0 [] w _ := hst; by obtain ⟨b8, w', hO', hr⟩ := zlW (E := []) zm8 hO; exact ⟨((σ.1), (σ.2.1), (σ.2.2.1), b8), w', hO', ⟨.inr rfl, .inr rfl, .inr rfl, .inr rfl, .inr rfl, .inr rfl, .inl rfl, .inl rfl, trivial⟩, hr⟩ | [true, false, false], _, hok, hst => have hO : Dk.Own w0 [] w _ := hst; by obtain ⟨b8, w', hO', hr⟩ := zlW (E := []) zm8 hO; exact ⟨((σ.1), (σ.2.1), (σ.2.2.1), b8), w', hO', ⟨.inr rfl, .inr rfl, .inr rfl, .inr rfl, .inr rfl, .inr rfl, .inl rfl, .inl rfl, trivial⟩, hr⟩ | [false, true, false], _, hok, hst => absurd hok (by rw [show okI _ _ _ _ = false from by kernel_rfl]; decide) | [true, true, false], _, hok, hst => absurd hok (by rw [show okI _ _ _ _ = false from by kernel_rfl]; decide) | [true, true, true], _, hok, hst => absurd hok (by rw [show okI _ _ _ _ = false from by kernel_rfl]; decide) | [false, false, true], _, _, hst => (show False from hst).elim | [true, false, true], _, _, hst => (show False from hst).elim | [false, true, true], _, _, hst => (show False from hst).elim | [], hlen, _, _ => absurd hlen (by simp) | [_], hlen, _, _ => absurd hlen (by simp) | [_, _], hlen, _, _ => absurd hlen (by simp) | _ :: _ :: _ :: _ :: _, hlen, _, _ => absurd hlen (by simp) ), zoF rfl (fun σ => rfl) (fun σ => rfl) rfl (fun σ w bs hlen hok hst => match bs, hlen, hok, hst with | [false, false, false], _, hok, hst => absurd hok (by rw [show okI _ _ _ _ = false from by kernel_rfl]; decide) | [true, false, false], _, hok, hst => absurd hok (by rw [show okI _ _ _ _ = false from by kernel_rfl]; decide) | [false, true, false], _, hok, hst => absurd hok (by rw [show okI _ _ _ _ = false from by kernel_rfl]; decide) | [true, true, false], _, hok, hst => have hO : Dk.Own w0 [] w _ := hst; by obtain ⟨w', hO', hr⟩ := zji (x := (.tmp 6)) (y := (.tmp 14)) (E := [(6, ptr (σ.2.2.2) 0), (14, .agg #[ptr (σ.1) 0, int x_h.Minor])]) (i := 0) (n := 2) (vs := [ptr (σ.1) 0, int x_h.Minor]) znI rfl rfl rfl (by simp [Value.oneCell']) hO rfl rfl; exact ⟨((σ.1), (σ.2.1), (σ.2.2.1), (σ.2.2.2)), w', hO', ⟨.inr rfl, .inr rfl, .inr rfl, .inr rfl, .inr rfl, .inr rfl, .inr rfl, .inr rfl, trivial⟩, hr⟩ | [true, true, true], _, hok, hst => absurd hok (by rw [show okI _ _ _ _ = false from by kernel_rfl]; decide) | [false, false, true], _, _, hst => (show False from hst).elim | [true, false, true], _, _, hst => (show False from hst).elim | [false, true, true], _, _, hst => (show False from hst).elim | [], hlen, _, _ => absurd hlen (by simp) | [_], hlen, _, _ => absurd hlen (by simp) | [_, _], hlen, _, _ => absurd hlen (by simp) | _ :: _ :: _ :: _ :: _, hlen, _, _ => absurd hlen (by simp) ), trivial⟩ ?_
 rintro ⟨b5, p6, c7, b8⟩ a w hf hO
 have hO : Dk.Own w0 [] w _ := hO
 have hf : Fits 51 [(1, int x_none), (4, ptr b2 0), (6, ptr b8 0)] a := (hf.cons rfl (hf.cons rfl (hf.cons rfl hf.nil)))
 refine S.no tb ?_ hf hO hm
 refine rc_ rfl fun a w hf hO hm => ?_
 obtain ⟨r10, hr10, hm⟩ := ob hm
 obtain ⟨r13, hr13, hm⟩ := ob hm
 refine zcp (S := Option Addr × Nat × Option Addr × Nat) (E0 := [(1, int x_none), (4, ptr b2 0), (6, ptr b8 0)]) (by kernel_rfl) (fun k σ w => match k with | 0 => Dk.Own w0 [] w [.blk b8 [ptr b5 0, int x_h.Minor] 223, .blk b5 [.slice p6 r4.f_l.length c7] 272, .row (.slice p6 r4.f_l.length c7) 107 2 r4.f_l.length (cells za r4.f_l), .blk b2 [int 0, int 0] 34, .blk b1 [int x_h.Kind, str x_h.Method, str x_h.Target, int x_h.Code, str x_h.Reason, int x_h.Minor, .slice x_h_p0 x_h.Fields.length x_h_c0] 31, .shr x_h_p0 (cells za x_h.Fields)] | 1 => Dk.Own w0 [] w [.row (.slice (σ.1) r10.length (σ.2.1)) 9 1 r10.length (cells zh r10), .blk b8 [ptr b5 0, int x_h.Minor] 223, .blk b5 [.slice p6 r4.f_l.length c7] 272, .row (.slice p6 r4.f_l.length c7) 107 2 r4.f_l.length (cells za r4.f_l), .blk b2 [int 0, int 0] 34, .blk b1 [int x_h.Kind, str x_h.Method, str x_h.Target, int x_h.Code, str x_h.Reason, int x_h.Minor, .slice x_h_p0 x_h.Fields.length x_h_c0] 31, .shr x_h_p0 (cells za x_h.Fields)] | _ => Dk.Own w0 [] w [.row (.slice (σ.2.2.1) r13.length (σ.2.2.2)) 9 1 r13.length (cells zh r13), .row (.slice (σ.1) r10.length (σ.2.1)) 9 1 r10.length (cells zh r10), .blk b8 [ptr b5 0, int x_h.Minor] 223, .blk b5 [.slice p6 r4.f_l.length c7] 272, .row (.slice p6 r4.f_l.length c7) 107 2 r4.f_l.length (cells za r4.f_l), .blk b2 [int 0, int 0] 34, .blk b1 [int x_h.Kind, str x_h.Method, str x_h.Target, int x_h.Code, str x_h.Reason, int x_h.Minor, .slice x_h_p0 x_h.Fields.length x_h_c0] 31, .shr x_h_p0 (cells za x_h.Fields)]) (fun σ => [⟨[(6, ptr b8 0)], some (15, ptr b8 0)⟩, ⟨[(15, ptr b8 0)], some (16, ptr b5 0)⟩, ⟨[(16, ptr b5 0)], some (17, .slice (σ.1) r10.length (σ.2.1))⟩, ⟨[(6, ptr b8 0)], some (18, ptr b8 0)⟩, ⟨[(18, ptr b8 0)], some (19, ptr b5 0)⟩, ⟨[(19, ptr b5 0)], some (20, .slice (σ.2.2.1) r13.length (σ.2.2.2))⟩, ⟨[(17, .slice (σ.1) r10.length (σ.2.1))], some (7, .slice (σ.1) r10.length (σ.2.1))⟩, ⟨[(20, .slice (σ.2.2.1) r13.length (σ.2.2.2))], some (8, .slice (σ.2.2.1) r13.length (σ.2.2.2))⟩]) (none, 0, none, 0) [2, 5] rfl (fun _ => rfl) (fun _ => rfl) (fun _ => rfl) rfl rfl (by decide) rfl hO.drew (hf.cons rfl (hf.cons rfl (hf.cons rfl hf.nil))) (fun σ => ⟨⟨rfl, trivial⟩, ⟨rfl, trivial⟩, ⟨rfl, trivial⟩, ⟨rfl, trivial⟩, ⟨rfl, trivial⟩, ⟨rfl, trivial⟩, ⟨rfl, trivial⟩, ⟨rfl, trivial⟩, trivial⟩) ⟨zj rfl (fun σ => rfl) (fun σ => rfl) (fun σ a w k _ _ _ _ hf => zr zjX hf rfl), zj rfl (fun σ => rfl) (fun σ => rfl) (fun σ a w k hk hlo hup hst hf => match k, hk, hlo, hup, hst, hf with | 0, _, _, _, hst, hf => have hO : Dk.Own w0 [] w _ := hst; zk (o := 0) zi7 (hO.blkSees (i := 0) rfl) rfl hf rfl | 1, _, _, _, hst, hf => have hO : Dk.Own w0 [] w _ := hst; zk (o := 0) zi7 (hO.blkSees (i := 1) rfl) rfl hf rfl | 2, _, _, _, hst, hf => have hO : Dk.Own w0 [] w _ := hst; zk (o := 0) zi7 (hO.blkSees (i := 2) rfl) rfl hf rfl | k + 3, hk, _, _, _, _ => absurd hk (by simp)), zd7 rfl (fun σ => rfl) (fun σ => rfl) rfl (fun σ a w (_ : _) hf => zi znM hf (vs := [ptr b5 0, str [84, 114, 97, 110, 115, 102, 101, 114, 45, 69, 110, 99, 111, 100, 105, 110, 103]]) rfl) (fun σ w (hO : Dk.Own w0 [] w _) => (zeE r4 [84, 114, 97, 110, 115, 102, 101, 114, 45, 69, 110, 99, 111, 100, 105, 110, 103] r10 _ (hG.own hF hO) (hO.blkSees (i := 1) rfl) (hO.rowSees (i := 2) rfl) (hO.rowCap (i := 2) rfl) hr10).mono fun e w' h => by obtain ⟨p11, c12, he, hO'⟩ := h; exact ⟨(p11, c12, (σ.2.2.1), (σ.2.2.2)), he, hO.call hO' (by simp [Res.shared]), .inr rfl, .inr rfl, .inl rfl, .inr rfl, .inr rfl, .inr rfl, .inl rfl, .inr rfl, trivial⟩), zj rfl (fun σ => rfl) (fun σ => rfl) (fun σ a w k _ _ _ _ hf => zr zjX hf rfl), zj rfl (fun σ => rfl) (fun σ => rfl) (fun σ a w k hk hlo hup hst hf => match k, hk, hlo, hup, hst, hf with | 0, _, _, _, hst, hf => have hO : Dk.Own w0 [] w _ := hst; zk (o := 0) zi7 (hO.blkSees (i := 0) rfl) rfl hf rfl | 1, _, _, _, hst, hf => have hO : Dk.Own w0 [] w _ := hst; zk (o := 0) zi7 (hO.blkSees (i := 1) rfl) rfl hf rfl | 2, _, _, _, hst, hf => have hO : Dk.Own w0 [] w _ := hst; zk (o := 0) zi7 (hO.blkSees (i := 2) rfl) rfl hf rfl | k + 3, hk, _, _, _, _ => absurd hk (by simp)), zd7 rfl (fun σ => rfl) (fun σ => rfl) rfl (fun σ a w (_ : _) hf => zi znM hf (vs := [ptr b5 0, str [67, 111, 110, 116, 101, 110, 116, 45, 76, 101, 110, 103, 116, 104]]) rfl) (fun σ w (hO : Dk.Own w0 [] w _) => (zeE r4 [67, 111, 110, 116, 101, 110, 116, 45, 76, 101, 110, 103, 116, 104] r13 _ (hG.own hF hO) (hO.blkSees (i := 2) rfl) (hO.rowSees (i := 3) rfl) (hO.rowCap (i := 3) rfl) hr13).mono fun e w' h => by obtain ⟨p14, c15, he, hO'⟩ := h; exact ⟨((σ.1), (σ.2.1), p14, c15), he, hO.call hO' (by simp [Res.shared]), .inr rfl, .inr rfl, .inr rfl, .inr rfl, .inr rfl, .inl rfl, .inr rfl, .inl rfl, trivial⟩), zj rfl (fun σ => rfl) (fun σ => rfl) (fun σ a w k _ _ _ _ hf => zv hf rfl), zj rfl (fun σ => rfl) (fun σ => rfl) (fun σ a w k _ _ _ _ hf => zv hf rfl), trivial⟩ ?_
 rintro ⟨p11, c12, p14, c15⟩ a w hf hO
 have hO : Dk.Own w0 [] w _ := hO
 have hf : Fits 51 [(1, int x_none), (4, ptr b2 0), (6, ptr b8 0), (7, .slice p11 r10.length c12), (8, .slice p14 r13.length c15)] a := (hf.cons rfl (hf.cons rfl (hf.cons rfl (hf.cons rfl (hf.cons rfl hf.nil)))))
 refine S.no tb ?_ hf hO hm
 refine jv 2 [1, 4, 6, 7, 8] [0, 1, 2, 3, 4, 5, 6, 7] (fun J E L => ∃ (t18 : Bool), J ((21, .bool t18) :: E) (L) (zfx x_h x_none r4 r10 r13 t18)) rfl ?_ ?_
 refine br rfl (fun hc17 => ?_) fun hc17 => ?_
 exact en rfl fun _ _ j => ⟨decide (0 < (r13.length : Int)), j rfl⟩
 exact en rfl fun _ _ j => ⟨false, j rfl⟩
 rintro a w ⟨t18, hf, hO, hm⟩
 rw [zfx] at hm
 refine S.co tb ?_ hf hO hm
 refine br rfl (fun hc19 => ?_) fun hc19 => ?_
 refine vl rfl rfl (fun a w hf hO => zl (vs := []) (v := .agg #[int 0, int 0]) hf rfl (by kernel_rfl)) ?_
 refine st 5 rfl rfl ?_
 refine re_ rfl fun a w hf hO hm => ?_
 obtain rfl := Option.some.inj hm
 exact zb Tryz.results99 hf (.cell rfl (ze (n := 2) (vs := [int 0, int 0]) zfm zfn rfl ((hO.blkSees (i := 5) rfl).cells (o := 0) (n := 2) rfl)) (.tmp rfl .nil)) ⟨rfl, hO.below⟩
 refine br rfl (fun hc22 => ?_) fun hc22 => ?_
 refine ld 2 rfl rfl ?_
 refine cl c_142 rfl (fun r23 w hr23 hO => zgE (⟨r4, x_h.Minor⟩ : length_reader) r10 r23 _ (hG.own hF hO) (hO.blkSees (i := 3) rfl) (hO.rowSees (i := 4) rfl) (hO.rowCap (i := 4) rfl) (hO.rowSees (i := 1) rfl) (hO.rowCap (i := 1) rfl) hr23) fun r23 hr23 => ?_
 refine st 5 rfl rfl ?_
 refine re_ rfl fun a w hf hO hm => ?_
 obtain rfl := Option.some.inj hm
 exact zb Tryz.results99 hf (.cell rfl (ze (n := 2) (vs := [int r23.1.Kind, int r23.1.N]) zfm zfn rfl ((hO.blkSees (i := 5) rfl).cells (o := 0) (n := 2) rfl)) (.tmp rfl .nil)) ⟨rfl, hO.below⟩
 refine br rfl (fun hc26 => ?_) fun hc26 => ?_
 refine ld 2 rfl rfl ?_
 refine cl c_143 rfl (fun r27 w hr27 hO => zgm (⟨r4, x_h.Minor⟩ : length_reader) r13 r27 _ (hG.own hF hO) (hO.blkSees (i := 3) rfl) (hO.rowSees (i := 4) rfl) (hO.rowCap (i := 4) rfl) (hO.rowSees (i := 0) rfl) (hO.rowCap (i := 0) rfl) hr27) fun r27 hr27 => ?_
 refine st 5 rfl rfl ?_
 refine re_ rfl fun a w hf hO hm => ?_
 obtain rfl := Option.some.inj hm
 exact zb Tryz.results99 hf (.cell rfl (ze (n := 2) (vs := [int r27.1.Kind, int r27.1.N]) zfm zfn rfl ((hO.blkSees (i := 5) rfl).cells (o := 0) (n := 2) rfl)) (.tmp rfl .nil)) ⟨rfl, hO.below⟩
 refine vl rfl rfl (fun a w hf hO => zl (vs := [(0, int x_none)]) (v := .agg #[int x_none, int 0]) hf rfl (by kernel_rfl)) ?_
 refine st 5 rfl rfl ?_
 refine re_ rfl fun a w hf hO hm => ?_
 obtain rfl := Option.some.inj hm
 exact zb Tryz.results99 hf (.cell rfl (ze (n := 2) (vs := [int x_none, int 0]) zfm zfn rfl ((hO.blkSees (i := 5) rfl).cells (o := 0) (n := 2) rfl)) (.tmp rfl .nil)) ⟨rfl, hO.below⟩

theorem zja (x_h : api_Head) (R : api_Frame × Int) (w0 : World) (hG : zt w0) {x_h_p0 : Option Addr} {x_h_c0 : Nat} (hs0 : zw w0 x_h_p0 (cells za x_h.Fields)) (hc0 : x_h.Fields.length ≤ x_h_c0) (hm : zfI x_h = some R) :
    Calls Tryz.prog 71 #[.agg #[int x_h.Kind, str x_h.Method, str x_h.Target, int x_h.Code, str x_h.Reason, int x_h.Minor, .slice x_h_p0 x_h.Fields.length x_h_c0]] w0 (Ret w0 (fun R => .tuple #[.agg #[int R.1.Kind, int R.1.N], int R.2]) R) := by
 rw [zfI] at hm
 have hF : zo [] := zf
 have hO : Dk.Own w0 [] w0 [] := Dk.Own.refl w0
 have hO := hO.addShr hs0 (by simp [Res.shared])
 refine S.enter tb Tryz.func71 rfl Tryz.ntmps71 rfl ?_ hO hm
 refine bo rfl fun b1 => ?_
 refine al ziy rfl fun b2 => ?_
 refine ld 1 rfl rfl ?_
 refine cl c_99 rfl (fun r4 w hr4 hO => zjq x_h 1 r4 _ (hG.own hF hO) (hO.sees (i := 2) rfl) hc0 hr4) fun r4 hr4 => ?_
 refine st 0 rfl rfl ?_
 refine re_ rfl fun a w hf hO hm => ?_
 obtain rfl := Option.some.inj hm
 exact zb Tryz.results71 hf (.cell rfl (ze (n := 2) (vs := [int r4.1.Kind, int r4.1.N]) zfm zfn rfl ((hO.blkSees (i := 0) rfl).cells (o := 0) (n := 2) rfl)) (.tmp rfl .nil)) ⟨rfl, hO.below⟩

theorem ziE (x_method : Str) (x_code : Int) (R : Bool) (w0 : World) (hG : zt w0) (hm : zcl x_method x_code = some R) :
    Calls Tryz.prog 100 #[str x_method, int x_code] w0 (Ret w0 (fun R => .bool R) R) := by
 rw [zcl] at hm
 have hF : zo [] := zf
 have hO : Dk.Own w0 [] w0 [] := Dk.Own.refl w0
 refine S.enter tb Tryz.func100 rfl Tryz.ntmps100 rfl ?_ hO hm
 refine jv 0 [] [] (fun J E L => ∃ (t7 : Bool), J ((4, .bool t7) :: E) (L) (zL t7)) rfl ?_ ?_
 refine br rfl (fun hc2 => ?_) fun hc2 => ?_
 exact en rfl fun _ _ j => ⟨true, j rfl⟩
 refine br rfl (fun hc3 => ?_) fun hc3 => ?_
 exact en rfl fun _ _ j => ⟨true, j rfl⟩
 refine br rfl (fun hc4 => ?_) fun hc4 => ?_
 exact en rfl fun _ _ j => ⟨true, j rfl⟩
 refine br rfl (fun hc5 => ?_) fun hc5 => ?_
 exact en rfl fun _ _ j => ⟨true, j rfl⟩
 refine br rfl (fun hc6 => ?_) fun hc6 => ?_
 exact en rfl fun _ _ j => ⟨decide (x_code < 300), j rfl⟩
 exact en rfl fun _ _ j => ⟨false, j rfl⟩
 rintro a w ⟨t7, hf, hO, hm⟩
 rw [zL] at hm
 refine S.co tb ?_ hf hO hm
 exact rt Tryz.results100 rfl

end Go.Proofs
end
section
set_option linter.unusedVariables false
set_option maxHeartbeats 1000000
set_option linter.unusedSimpArgs false
set_option maxRecDepth 100000
namespace Go.Proofs
open Go.Dk Go.Dm Go.RowKit

theorem ziw (x_method : Str) (x_h : api_Head) (R : api_Frame × Int) (w0 : World) (hG : zt w0) {x_h_p0 : Option Addr} {x_h_c0 : Nat} (hs0 : zw w0 x_h_p0 (cells za x_h.Fields)) (hc0 : x_h.Fields.length ≤ x_h_c0) (hm : zdI x_method x_h = some R) :
    Calls Tryz.prog 72 #[str x_method, .agg #[int x_h.Kind, str x_h.Method, str x_h.Target, int x_h.Code, str x_h.Reason, int x_h.Minor, .slice x_h_p0 x_h.Fields.length x_h_c0]] w0 (Ret w0 (fun R => .tuple #[.agg #[int R.1.Kind, int R.1.N], int R.2]) R) := by
 rw [zdI] at hm
 have hF : zo [] := zf
 have hO : Dk.Own w0 [] w0 [] := Dk.Own.refl w0
 have hO := hO.addShr hs0 (by simp [Res.shared])
 refine S.enter tb Tryz.func72 rfl Tryz.ntmps72 rfl ?_ hO hm
 refine bo rfl fun b1 => ?_
 refine al ziy rfl fun b2 => ?_
 refine ld 1 rfl rfl ?_
 refine cl c_100 rfl (fun r4 w hr4 hO => ziE x_method x_h.Code r4 _ (hG.own hF hO) hr4) fun r4 hr4 => ?_
 refine br rfl (fun hc6 => ?_) fun hc6 => ?_
 refine vl rfl rfl (fun a w hf hO => zl (vs := [(0, int 1)]) (v := .agg #[int 1, int 0]) hf rfl (by kernel_rfl)) ?_
 refine st 0 rfl rfl ?_
 refine re_ rfl fun a w hf hO hm => ?_
 obtain rfl := Option.some.inj hm
 exact zb Tryz.results72 hf (.cell rfl (ze (n := 2) (vs := [int 1, int 0]) zfm zfn rfl ((hO.blkSees (i := 0) rfl).cells (o := 0) (n := 2) rfl)) (.tmp rfl .nil)) ⟨rfl, hO.below⟩
 refine ld 1 rfl rfl ?_
 refine cl c_99 rfl (fun r9 w hr9 hO => zjq x_h 4 r9 _ (hG.own hF hO) (hO.sees (i := 2) rfl) hc0 hr9) fun r9 hr9 => ?_
 refine st 0 rfl rfl ?_
 refine re_ rfl fun a w hf hO hm => ?_
 obtain rfl := Option.some.inj hm
 exact zb Tryz.results72 hf (.cell rfl (ze (n := 2) (vs := [int r9.1.Kind, int r9.1.N]) zfm zfn rfl ((hO.blkSees (i := 0) rfl).cells (o := 0) (n := 2) rfl)) (.tmp rfl .nil)) ⟨rfl, hO.below⟩

theorem zfd (x_method : Str) (x_h : api_Head) (R : api_Frame × Int) (w0 : World) (hG : zt w0) {x_h_p0 : Option Addr} {x_h_c0 : Nat} (hs0 : zw w0 x_h_p0 (cells za x_h.Fields)) (hc0 : x_h.Fields.length ≤ x_h_c0) (hm : za2 x_method x_h = some R) :
    Calls Tryz.prog 39 #[str x_method, .agg #[int x_h.Kind, str x_h.Method, str x_h.Target, int x_h.Code, str x_h.Reason, int x_h.Minor, .slice x_h_p0 x_h.Fields.length x_h_c0]] w0 (Ret w0 (fun R => .tuple #[.agg #[int R.1.Kind, int R.1.N], int R.2]) R) := by
 rw [za2] at hm
 have hF : zo [] := zf
 have hO : Dk.Own w0 [] w0 [] := Dk.Own.refl w0
 have hO := hO.addShr hs0 (by simp [Res.shared])
 refine S.enter tb Tryz.func39 rfl Tryz.ntmps39 rfl ?_ hO hm
 refine bo rfl fun b1 => ?_
 refine al ziy rfl fun b2 => ?_
 refine ld 1 rfl rfl ?_
 refine br rfl (fun hc5 => ?_) fun hc5 => ?_
 refine ld 1 rfl rfl ?_
 refine cl c_71 rfl (fun r6 w hr6 hO => zja x_h r6 _ (hG.own hF hO) (hO.sees (i := 2) rfl) hc0 hr6) fun r6 hr6 => ?_
 refine st 0 rfl rfl ?_
 refine re_ rfl fun a w hf hO hm => ?_
 obtain rfl := Option.some.inj hm
 exact zb Tryz.results39 hf (.cell rfl (ze (n := 2) (vs := [int r6.1.Kind, int r6.1.N]) zfm zfn rfl ((hO.blkSees (i := 0) rfl).cells (o := 0) (n := 2) rfl)) (.tmp rfl .nil)) ⟨rfl, hO.below⟩
 refine ld 1 rfl rfl ?_
 refine cl c_72 rfl (fun r9 w hr9 hO => ziw x_method x_h r9 _ (hG.own hF hO) (hO.sees (i := 2) rfl) hc0 hr9) fun r9 hr9 => ?_
 refine st 0 rfl rfl ?_
 refine re_ rfl fun a w hf hO hm => ?_
 obtain rfl := Option.some.inj hm
 exact zb Tryz.results39 hf (.cell rfl (ze (n := 2) (vs := [int r9.1.Kind, int r9.1.N]) zfm zfn rfl ((hO.blkSees (i := 0) rfl).cells (o := 0) (n := 2) rfl)) (.tmp rfl .nil)) ⟨rfl, hO.below⟩

theorem zjP (x_m : api_Message) (R : Bool) (w0 : World) (hG : zt w0) {x_m_p0 : Option Addr} {x_m_c0 : Nat} (hs0 : zw w0 x_m_p0 (cells za x_m.Head.Fields)) (hc0 : x_m.Head.Fields.length ≤ x_m_c0) {x_m_p1 : Option Addr} {x_m_c1 : Nat} (hs1 : zw w0 x_m_p1 (cells za x_m.Trailers)) (hc1 : x_m.Trailers.length ≤ x_m_c1) (hm : zgT x_m = some R) :
    Calls Tryz.prog 40 #[.agg #[int x_m.Head.Kind, str x_m.Head.Method, str x_m.Head.Target, int x_m.Head.Code, str x_m.Head.Reason, int x_m.Head.Minor, .slice x_m_p0 x_m.Head.Fields.length x_m_c0, int x_m.Frame.Kind, int x_m.Frame.N, str x_m.Body, .slice x_m_p1 x_m.Trailers.length x_m_c1]] w0 (Ret w0 (fun R => .bool R) R) := by
 rw [zgT] at hm
 have hF : zo [] := zf
 have hO : Dk.Own w0 [] w0 [] := Dk.Own.refl w0
 have hO := hO.addShr hs0 (by simp [Res.shared])
 have hO := hO.addShr hs1 (by simp [Res.shared])
 refine S.enter tb Tryz.func40 rfl Tryz.ntmps40 rfl ?_ hO hm
 refine bo rfl fun b1 => ?_
 refine ld 0 rfl rfl ?_
 refine br rfl (fun hc5 => ?_) fun hc5 => ?_
 refine jv 2 [] [0, 1, 2] (fun J E L => ∃ (t7 : Bool), J ((2, .bool t7) :: E) (L) (zdJ t7)) rfl ?_ ?_
 refine ld 0 rfl rfl ?_
 refine br rfl (fun hc6 => ?_) fun hc6 => ?_
 refine ld 0 rfl rfl ?_
 exact en rfl fun _ _ j => ⟨(x_m.Trailers.length : Int) == 0, j rfl⟩
 exact en rfl fun _ _ j => ⟨false, j rfl⟩
 rintro a w ⟨t7, hf, hO, hm⟩
 rw [zdJ] at hm
 refine S.co tb ?_ hf hO hm
 exact rt Tryz.results40 rfl
 refine br rfl (fun hc9 => ?_) fun hc9 => ?_
 refine jv 2 [] [0, 1, 2] (fun J E L => ∃ (t11 : Bool), J ((2, .bool t11) :: E) (L) (zdK t11)) rfl ?_ ?_
 refine ld 0 rfl rfl ?_
 refine ld 0 rfl rfl ?_
 refine br rfl (fun hc10 => ?_) fun hc10 => ?_
 refine ld 0 rfl rfl ?_
 exact en rfl fun _ _ j => ⟨(x_m.Trailers.length : Int) == 0, j rfl⟩
 exact en rfl fun _ _ j => ⟨false, j rfl⟩
 rintro a w ⟨t11, hf, hO, hm⟩
 rw [zdK] at hm
 refine S.co tb ?_ hf hO hm
 exact rt Tryz.results40 rfl
 refine br rfl (fun hc13 => ?_) fun hc13 => ?_
 refine ld 0 rfl rfl ?_
 exact rt Tryz.results40 rfl
 exact rt Tryz.results40 rfl

theorem zgk (x_f : api_Field) (R : Str × Int) (w0 : World) (hG : zt w0) (hm : zen x_f = some R) :
    Calls Tryz.prog 60 #[.agg #[str x_f.Name, str x_f.Value]] w0 (Ret w0 (fun R => .tuple #[str R.1, int R.2]) R) := by
 rw [zen] at hm
 have hF : zo [] := zf
 have hO : Dk.Own w0 [] w0 [] := Dk.Own.refl w0
 refine S.enter tb Tryz.func60 rfl Tryz.ntmps60 rfl ?_ hO hm
 refine bo rfl fun b1 => ?_
 refine ld 0 rfl rfl ?_
 refine cl c_69 rfl (fun r3 w hr3 hO => zfT x_f r3 _ (hG.own hF hO) hr3) fun r3 hr3 => ?_
 refine br rfl (fun hc6 => ?_) fun hc6 => ?_
 exact rt Tryz.results60 rfl
 refine ld 0 rfl rfl ?_
 refine br rfl (fun hc10 => ?_) fun hc10 => ?_
 refine ld 0 rfl rfl ?_
 refine bi rfl fun s11 hs11 => ?_
 exact rt Tryz.results60 rfl
 refine ld 0 rfl rfl ?_
 refine bi rfl fun s14 hs14 => ?_
 refine ld 0 rfl rfl ?_
 refine bi rfl fun s15 hs15 => ?_
 exact rt Tryz.results60 rfl

theorem zeB (x_trailers : List api_Field) (R : Str × Int) (w0 : World) (hG : zt w0) {x_trailers_p0 : Option Addr} {x_trailers_c0 : Nat} (hs0 : zw w0 x_trailers_p0 (cells za x_trailers)) (hc0 : x_trailers.length ≤ x_trailers_c0) (hm : zcX x_trailers = some R) :
    Calls Tryz.prog 41 #[.slice x_trailers_p0 x_trailers.length x_trailers_c0] w0 (Ret w0 (fun R => .tuple #[str R.1, int R.2]) R) := by
 rw [zcX] at hm
 have hF : zo [] := zf
 have hO : Dk.Own w0 [] w0 [] := Dk.Own.refl w0
 have hO := hO.addShr hs0 (by simp [Res.shared])
 refine S.enter tb Tryz.func41 rfl Tryz.ntmps41 rfl ?_ hO hm
 refine rw_ rfl fun a w hf hO hm => ?_
 refine zu (vs := [(0, str [48])]) (cs := [str [48]]) (e := 9) (sz := 1) hf rfl rfl (fun w => by kernel_rfl) rfl rfl hO fun a b2 w hf hO => ?_
 refine S.op tb ?_ hf hO hm
 refine lv [0, 10, 11] [1] (fun J E L k => ∃ (p5 : Option Addr) (c6 : Nat) (l7 : List Str) (i8 : Int), J ((4, .slice p5 l7.length c6) :: (12, int i8) :: E) (.row (.slice p5 l7.length c6) 9 1 l7.length (cells zh l7) :: L) (zbx x_trailers k l7 i8)) rfl (fun _ _ j => ⟨some ⟨b2, 0, none⟩, 1, ([[48]] : List Str), 0, j rfl⟩) ?_
 rintro n1 a w ⟨p5, c6, l7, i8, hf, hO, hm⟩
 obtain _ | n1 := n1
 rw [zbx] at hm
 cases hm
 rw [zbx] at hm
 refine S.co tb ?_ hf hO hm
 refine br rfl (fun hc10 => ?_) fun hc10 => ?_
 refine rw_ rfl fun a w hf hO hm => ?_
 obtain ⟨x12, hx12, hm⟩ := ob hm
 obtain ⟨b13, o14, hix12, hSx12⟩ := zd3 (enc := za) (sz := 2) (xs := x_trailers) 29 Tryz.underlying29 za7 (by decide) (fun _ => rfl) (hO.sees (i := 1) rfl) hx12
 refine zaS (zy hix12 hf rfl rfl) rfl hf rfl rfl fun a hf => ?_
 refine S.op tb ?_ hf hO hm
 refine vl rfl rfl (fun a w hf hO => zaO (o := 0) (vs := [str x12.Name, str x12.Value]) zcK za7 (hSx12 _ (hO.sees (i := 1) rfl)) rfl rfl hf rfl) ?_
 refine al zid rfl fun b15 => ?_
 refine st 0 rfl rfl ?_
 refine ld 0 rfl rfl ?_
 refine cl c_60 rfl (fun r17 w hr17 hO => zgk x12 r17 _ (hG.own hF hO) hr17) fun r17 hr17 => ?_
 refine br rfl (fun hc20 => ?_) fun hc20 => ?_
 exact rt Tryz.results41 rfl
 refine rw_ rfl fun a w hf hO hm => ?_
 refine zu (vs := [(0, str r17.1)]) (cs := [str r17.1]) (e := 9) (sz := 1) hf rfl rfl (fun w => by kernel_rfl) rfl rfl hO fun a b23 w hf hO => ?_
 refine S.op tb ?_ hf hO hm
 refine rw_ rfl fun a w hf hO hm => ?_
 obtain ⟨hg26, hm⟩ := og hm
 refine zbz zjp (enc := zh) (xs := l7) (ys := ([r17.1] : List Str)) (i := 2) (fun _ => rfl) rfl (hO.rowSees (i := 0) rfl) (by simp [cells, zh, Value.oneCell']) hg26 hf rfl rfl rfl hO fun a p24 c25 w hf hO => ?_
 refine S.op tb ?_ hf hO hm
 refine bi rfl fun i28 hi28 => ?_
 exact ec [2, 3] rfl rfl rfl fun _ _ j => ⟨_, Nat.lt_succ_self _, p24, c25, l7 ++ ([r17.1] : List Str), i28, j rfl⟩
 refine br rfl (fun hc31 => ?_) fun hc31 => ?_
 exact rt Tryz.results41 rfl
 refine rw_ rfl fun a w hf hO hm => ?_
 refine zu (vs := [(0, str []), (1, str [])]) (cs := [str [], str []]) (e := 9) (sz := 1) hf rfl rfl (fun w => by kernel_rfl) rfl rfl hO fun a b34 w hf hO => ?_
 refine S.op tb ?_ hf hO hm
 refine rw_ rfl fun a w hf hO hm => ?_
 obtain ⟨hg37, hm⟩ := og hm
 refine zbz zjp (enc := zh) (xs := l7) (ys := ([[], []] : List Str)) (i := 1) (fun _ => rfl) rfl (hO.rowSees (i := 0) rfl) (by simp [cells, zh, Value.oneCell']) hg37 hf rfl rfl rfl hO fun a p35 c36 w hf hO => ?_
 refine S.op tb ?_ hf hO hm
 refine cl c_73 rfl (fun r38 w hr38 hO => zd1 [13, 10] (l7 ++ ([[], []] : List Str)) r38 _ (hG.own hF hO) (hO.rowSees (i := 1) rfl) (hO.rowCap (i := 1) rfl) hr38) fun r38 hr38 => ?_
 exact rt Tryz.results41 rfl

theorem zjv (x_method : Str) (x_m : api_Message) (R : Int) (w0 : World) (hG : zH w0) {x_m_p0 : Option Addr} {x_m_c0 : Nat} (hs0 : zw w0 x_m_p0 (cells za x_m.Head.Fields)) (hc0 : x_m.Head.Fields.length ≤ x_m_c0) {x_m_p1 : Option Addr} {x_m_c1 : Nat} (hs1 : zw w0 x_m_p1 (cells za x_m.Trailers)) (hc1 : x_m.Trailers.length ≤ x_m_c1) (hm : zgd x_method x_m = some R) :
    Calls Tryz.prog 19 #[str x_method, .agg #[int x_m.Head.Kind, str x_m.Head.Method, str x_m.Head.Target, int x_m.Head.Code, str x_m.Head.Reason, int x_m.Head.Minor, .slice x_m_p0 x_m.Head.Fields.length x_m_c0, int x_m.Frame.Kind, int x_m.Frame.N, str x_m.Body, .slice x_m_p1 x_m.Trailers.length x_m_c1]] w0 (Ret w0 (fun R => int R) R) := by
 rw [zgd] at hm
 have hF : zo [] := zf
 have hO : Dk.Own w0 [] w0 [] := Dk.Own.refl w0
 have hO := hO.addShr hs0 (by simp [Res.shared])
 have hO := hO.addShr hs1 (by simp [Res.shared])
 refine S.enter tb Tryz.func19 rfl Tryz.ntmps19 rfl ?_ hO hm
 refine bo rfl fun b1 => ?_
 refine ld 0 rfl rfl ?_
 refine cl c_38 rfl (fun r3 w hr3 hO => ziL x_m.Head r3 _ (hG.own hF hO) (hO.sees (i := 2) rfl) hc0 hr3) fun r3 hr3 => ?_
 refine br rfl (fun hc6 => ?_) fun hc6 => ?_
 exact rt Tryz.results19 rfl
 refine ld 0 rfl rfl ?_
 refine cl c_39 rfl (fun r9 w hr9 hO => zfd x_method x_m.Head r9 _ (hG.own hF hO).1 (hO.sees (i := 2) rfl) hc0 hr9) fun r9 hr9 => ?_
 refine al ziy rfl fun b10 => ?_
 refine st 0 rfl rfl ?_
 refine br rfl (fun hc13 => ?_) fun hc13 => ?_
 exact rt Tryz.results19 rfl
 refine jv 2 [3] [0, 1, 2, 3] (fun J E L => ∃ (t17 : Bool), J ((25, .bool t17) :: E) (L) (zdc x_m t17)) rfl ?_ ?_
 refine ld 0 rfl rfl ?_
 refine ld 1 rfl rfl ?_
 refine vl rfl rfl (fun a w hf hO => zlM (by kernel_rfl) (eq_34 r9.1 x_m.Frame) hf rfl rfl) ?_
 refine br rfl (fun hc15 => ?_) fun hc15 => ?_
 exact en rfl fun _ _ j => ⟨true, j rfl⟩
 refine ld 1 rfl rfl ?_
 refine cl c_40 rfl (fun r16 w hr16 hO => zjP x_m r16 _ (hG.own hF hO).1 (hO.sees (i := 3) rfl) hc0 (hO.sees (i := 2) rfl) hc1 hr16) fun r16 hr16 => ?_
 exact en rfl fun _ _ j => ⟨!r16, j rfl⟩
 rintro a w ⟨t17, hf, hO, hm⟩
 rw [zdc] at hm
 refine S.co tb ?_ hf hO hm
 refine br rfl (fun hc18 => ?_) fun hc18 => ?_
 exact rt Tryz.results19 rfl
 refine ld 1 rfl rfl ?_
 refine cl c_41 rfl (fun r21 w hr21 hO => zeB x_m.Trailers r21 _ (hG.own hF hO).1 (hO.sees (i := 2) rfl) hc1 hr21) fun r21 hr21 => ?_
 exact rt Tryz.results19 rfl

theorem zli (x_most : Int) (R : quill_Quill) (w0 : World) (hG : zt w0) (hm : zjm x_most = some R) :
    Calls Tryz.prog 57 #[int x_most] w0 fun e w' => ∃ (b0 : Nat) (p1 : Option Addr) (c1 : Nat), e = .returned (ptr b0 0) ∧ Dk.Own w0 [] w' [.blk b0 [.slice p1 R.f_b.length c1, int R.f_most] 162, .row (.slice p1 R.f_b.length c1) 5 1 R.f_b.length (cells zc R.f_b)] := by
 rw [zjm] at hm
 have hF : zo [] := zf
 have hO : Dk.Own w0 [] w0 [] := Dk.Own.refl w0
 refine S.enter tb Tryz.func57 rfl Tryz.ntmps57 rfl ?_ hO hm
 refine vl rfl rfl (fun a w hf hO => ex_max (m := x_most) (n := 0) hf rfl rfl) ?_
 refine vl rfl rfl (fun a w hf hO => zl (vs := [(1, int (max x_most 0))]) (v := .agg #[.slice none 0 0, int (max x_most 0)]) hf rfl (by kernel_rfl)) ?_
 refine bo rfl fun b2 => ?_
 refine nl 5 1 ?_
 refine re_ rfl fun a w hf hO hm => ?_
 obtain rfl := Option.some.inj hm
 exact zb Tryz.results57 hf (.tmp rfl .nil) ⟨b2, none, 0, rfl, (hO.choose [1, 0] rfl)⟩

theorem zh8 (x_q : quill_Quill) (R : Int) (w0 : World) (hG : zt w0) {x_q_b0 : Nat} {x_q_p1 : Option Addr} {x_q_c1 : Nat} (hs0 : zw w0 (some ⟨x_q_b0, 0, none⟩) [.slice x_q_p1 x_q.f_b.length x_q_c1, int x_q.f_most]) (hs1 : zw w0 x_q_p1 (cells zc x_q.f_b)) (hc1 : x_q.f_b.length ≤ x_q_c1) (hm : zeH x_q = some R) :
    Calls Tryz.prog 179 #[ptr x_q_b0 0] w0 (Ret w0 (fun R => int R) R) := by
 rw [zeH] at hm
 have hF : zo [] := zf
 have hO : Dk.Own w0 [] w0 [] := Dk.Own.refl w0
 have hO := hO.addShr hs0 (by simp [Res.shared])
 have hO := hO.addShr hs1 (by simp [Res.shared])
 refine S.enter tb Tryz.func179 rfl Tryz.ntmps179 rfl ?_ hO hm
 refine vl rfl rfl (fun a w hf hO => zZ Tryz.underlying120 hf rfl rfl) ?_
 refine kn (b' := false) rfl rfl ?_
 refine rc_ rfl fun a w hf hO hm => ?_
 refine zbM (by kernel_rfl) (by kernel_rfl) hO ?_
 refine zm (fun w hO => zn hf rfl) rfl hf rfl rfl fun a hf => ?_
 refine zm (fun w hO => zp hf rfl) rfl hf rfl rfl fun a hf => ?_
 refine zm (fun w hO => zr zlr hf rfl) rfl hf rfl rfl fun a hf => ?_
 refine zm (fun w hO => zk (o := 1) ze6 (hO.sees (i := 1) rfl) rfl hf rfl) rfl hf rfl rfl fun a hf => ?_
 refine zm (fun w hO => zn hf rfl) rfl hf rfl rfl fun a hf => ?_
 refine zm (fun w hO => zp hf rfl) rfl hf rfl rfl fun a hf => ?_
 refine zm (fun w hO => zr zlq hf rfl) rfl hf rfl rfl fun a hf => ?_
 refine zm (fun w hO => zk (o := 0) zic (hO.sees (i := 1) rfl) rfl hf rfl) rfl hf rfl rfl fun a hf => ?_
 refine zm (fun w hO => ziQ Tryz.underlying141 hf rfl) rfl hf rfl rfl fun a hf => ?_
 obtain ⟨i4, hi4, hm⟩ := ob hm
 refine zm (fun w hO => zk5 hf rfl rfl hi4) rfl hf rfl rfl fun a hf => ?_
 refine zm (fun w hO => zv hf rfl) rfl hf rfl rfl fun a hf => ?_
 refine wpQuiet_nil ?_
 intro w hO
 refine S.no tb ?_ hf hO hm
 exact rt Tryz.results179 rfl

theorem zix (x_q : quill_Quill) (x_l : List Str) (R : Int × quill_Quill) (w0 : World) (hG : zt w0) {x_q_b0 : Nat} {x_q_p1 : Option Addr} {x_q_c1 : Nat} {x_l_p2 : Option Addr} {x_l_c2 : Nat} {F : List Nat} (hF : zo F) (hO : Dk.Own w0 F w0 [.blk x_q_b0 [.slice x_q_p1 x_q.f_b.length x_q_c1, int x_q.f_most] 162, .row (.slice x_q_p1 x_q.f_b.length x_q_c1) 5 1 x_q.f_b.length (cells zc x_q.f_b), .shr x_l_p2 (cells zh x_l)]) (hcw0 : x_l.length ≤ x_l_c2) (hm : zfj x_q x_l = some R) :
    Calls Tryz.prog 122 #[ptr x_q_b0 0, .slice x_l_p2 x_l.length x_l_c2] w0 fun e w' => ∃ (p0 : Option Addr) (c0 : Nat), e = .returned (int R.1) ∧ Dk.Own w0 F w' [.blk x_q_b0 [.slice p0 R.2.f_b.length c0, int R.2.f_most] 162, .row (.slice p0 R.2.f_b.length c0) 5 1 R.2.f_b.length (cells zc R.2.f_b)] := by
 rw [zfj] at hm
 refine S.enter tb Tryz.func122 rfl Tryz.ntmps122 rfl ?_ hO hm
 refine vl rfl rfl (fun a w hf hO => zZ Tryz.underlying120 hf rfl rfl) ?_
 refine kn (b' := false) rfl rfl ?_
 refine cl c_179 rfl (fun r4 w hr4 hO => zh8 x_q r4 _ (hG.own hF hO) (hO.blkSees (i := 0) rfl) (hO.rowSees (i := 1) rfl) (hO.rowCap (i := 1) rfl) hr4) fun r4 hr4 => ?_
 refine lv [0, 1, 14, 15] [0, 1, 2] (fun J E L k => ∃ (i7 : Int) (i8 : Int), J ((5, int i7) :: (16, int i8) :: E) (L) (zbf x_q x_l k i7 i8)) rfl (fun _ _ j => ⟨r4, 0, j rfl⟩) ?_
 rintro n1 a w ⟨i7, i8, hf, hO, hm⟩
 obtain _ | n1 := n1
 rw [zbf] at hm
 cases hm
 rw [zbf] at hm
 refine S.co tb ?_ hf hO hm
 refine br rfl (fun hc10 => ?_) fun hc10 => ?_
 refine rw_ rfl fun a w hf hO hm => ?_
 obtain ⟨x12, hx12, hm⟩ := ob hm
 obtain ⟨b13, o14, hix12, hSx12⟩ := zd3 (enc := zh) (sz := 1) (xs := x_l) 61 Tryz.underlying61 zhS (by decide) (fun _ => rfl) (hO.sees (i := 2) rfl) hx12
 refine zaS (zy hix12 hf rfl rfl) rfl hf rfl rfl fun a hf => ?_
 refine S.op tb ?_ hf hO hm
 refine vl rfl rfl (fun a w hf hO => zk (o := 0) zbC (hSx12 _ (hO.sees (i := 2) rfl)) rfl hf rfl) ?_
 refine br rfl (fun hc17 => ?_) fun hc17 => ?_
 refine re_ rfl fun a w hf hO hm => ?_
 obtain rfl := Option.some.inj hm
 exact zb Tryz.results122 hf (.tmp rfl .nil) ⟨x_q_p1, x_q_c1, rfl, (hO.sub (.cons_cons _ (.cons_cons _ (.cons _ .slnil))))⟩
 refine bi rfl fun i20 hi20 => ?_
 refine bi rfl fun i22 hi22 => ?_
 exact en rfl fun _ _ j => ⟨_, Nat.lt_succ_self _, i20, i22, j rfl⟩
 refine jv 0 [] [2] (fun J E L => ∃ (p42 : Option Addr) (c43 : Nat) (l44 : List UInt8) (i45 : Int), J (E) (.blk x_q_b0 [.slice p42 l44.length c43, int i45] 162 :: .row (.slice p42 l44.length c43) 5 1 l44.length (cells zc l44) :: L) (zdR l44 i45)) rfl ?_ ?_
 refine lv [0, 29, 30] [2] (fun J E L k => ∃ (p25 : Option Addr) (c26 : Nat) (l27 : List UInt8) (i28 : Int) (i29 : Int), J ((31, int i29) :: E) (.blk x_q_b0 [.slice p25 l27.length c26, int i28] 162 :: .row (.slice p25 l27.length c26) 5 1 l27.length (cells zc l27) :: L) (zbe x_l k l27 i28 i29)) rfl (fun _ _ j => ⟨x_q_p1, x_q_c1, x_q.f_b, x_q.f_most, 0, j rfl⟩) ?_
 rintro n2 a w ⟨p25, c26, l27, i28, i29, hf, hO, hm⟩
 obtain _ | n2 := n2
 rw [zbe] at hm
 cases hm
 rw [zbe] at hm
 refine S.co tb ?_ hf hO hm
 refine br rfl (fun hc31 => ?_) fun hc31 => ?_
 refine rw_ rfl fun a w hf hO hm => ?_
 obtain ⟨x33, hx33, hm⟩ := ob hm
 obtain ⟨b34, o35, hix33, hSx33⟩ := zd3 (enc := zh) (sz := 1) (xs := x_l) 61 Tryz.underlying61 zhS (by decide) (fun _ => rfl) (hO.sees (i := 2) rfl) hx33
 refine zaS (zy hix33 hf rfl rfl) rfl hf rfl rfl fun a hf => ?_
 refine S.op tb ?_ hf hO hm
 refine vl rfl rfl (fun a w hf hO => zk (o := 0) zbC (hSx33 _ (hO.sees (i := 2) rfl)) rfl hf rfl) ?_
 refine ld 0 rfl rfl ?_
 refine rw_ rfl fun a w hf hO hm => ?_
 obtain ⟨hg39, hm⟩ := og hm
 refine zj7 (en := zc) (xs := l27) (s := x33) (i := 1) (fun _ => rfl) zlj rfl hg39 hf rfl rfl rfl hO fun a p37 c38 w hf hO => ?_
 refine S.op tb ?_ hf hO hm
 refine st 0 rfl rfl ?_
 refine bi rfl fun i41 hi41 => ?_
 exact en rfl fun _ _ j => ⟨_, Nat.lt_succ_self _, p37, c38, l27 ++ x33, i28, i41, j rfl⟩
 exact en rfl fun _ _ j => ⟨p25, c26, l27, i28, j rfl⟩
 rintro a w ⟨p42, c43, l44, i45, hf, hO, hm⟩
 rw [zdR] at hm
 refine S.co tb ?_ hf hO hm
 refine re_ rfl fun a w hf hO hm => ?_
 obtain rfl := Option.some.inj hm
 exact zb Tryz.results122 hf (.tmp rfl .nil) ⟨p42, c43, rfl, (hO.sub (.cons_cons _ (.cons_cons _ (.cons _ .slnil))))⟩

theorem zh9 (x_q : quill_Quill) (x_l : List Str) (R : Int × quill_Quill) (w0 : World) (hG : zt w0) {x_q_b0 : Nat} {x_q_p1 : Option Addr} {x_q_c1 : Nat} {x_l_p2 : Option Addr} {x_l_c2 : Nat} {F : List Nat} (hF : zo F) (hO : Dk.Own w0 F w0 [.blk x_q_b0 [.slice x_q_p1 x_q.f_b.length x_q_c1, int x_q.f_most] 162, .row (.slice x_q_p1 x_q.f_b.length x_q_c1) 5 1 x_q.f_b.length (cells zc x_q.f_b), .shr x_l_p2 (cells zh x_l)]) (hcw0 : x_l.length ≤ x_l_c2) (hm : zeI x_q x_l = some R) :
    Calls Tryz.prog 89 #[ptr x_q_b0 0, .slice x_l_p2 x_l.length x_l_c2] w0 fun e w' => ∃ (p0 : Option Addr) (c0 : Nat), e = .returned (int R.1) ∧ Dk.Own w0 F w' [.blk x_q_b0 [.slice p0 R.2.f_b.length c0, int R.2.f_most] 162, .row (.slice p0 R.2.f_b.length c0) 5 1 R.2.f_b.length (cells zc R.2.f_b)] := by
 rw [zeI] at hm
 refine S.enter tb Tryz.func89 rfl Tryz.ntmps89 rfl ?_ hO hm
 refine rw_ rfl fun a w hf hO hm => ?_
 refine zu (vs := []) (cs := []) (e := 9) (sz := 1) hf rfl rfl (fun w => by kernel_rfl) rfl rfl hO fun a b2 w hf hO => ?_
 refine S.op tb ?_ hf hO hm
 refine rw_ rfl fun a w hf hO hm => ?_
 obtain ⟨hg5, hm⟩ := og hm
 refine zfB zjp (enc := zh) (xs := []) (ys := x_l) (i := 0) (fun _ => rfl) rfl (hO.sees (i := 3) rfl) (by simp [zh, Value.oneCell']) hg5 hf rfl rfl rfl hO fun a p3 c4 w hf hO => ?_
 refine S.op tb ?_ hf hO hm
 refine rw_ rfl fun a w hf hO hm => ?_
 refine zu (vs := [(0, str [13, 10])]) (cs := [str [13, 10]]) (e := 9) (sz := 1) hf rfl rfl (fun w => by kernel_rfl) rfl rfl hO fun a b6 w hf hO => ?_
 refine S.op tb ?_ hf hO hm
 refine rw_ rfl fun a w hf hO hm => ?_
 obtain ⟨hg9, hm⟩ := og hm
 refine zbz zjp (enc := zh) (xs := x_l) (ys := ([[13, 10]] : List Str)) (i := 1) (fun _ => rfl) rfl (hO.rowSees (i := 0) rfl) (by simp [cells, zh, Value.oneCell']) hg9 hf rfl rfl rfl hO fun a p7 c8 w hf hO => ?_
 refine S.op tb ?_ hf hO hm
 refine rw_ rfl fun a w hf hO hm => ?_
 obtain ⟨r10, hr10, hm⟩ := ob hm
 have hch13 := (show Dk.Own w0 F _ ([.blk x_q_b0 [.slice x_q_p1 x_q.f_b.length x_q_c1, int x_q.f_most] 162, .row (.slice x_q_p1 x_q.f_b.length x_q_c1) 5 1 x_q.f_b.length (cells zc x_q.f_b)] ++ [.row (.slice (some ⟨b6, 0, none⟩) (([[13, 10]] : List Str).length) 1) 9 1 (([[13, 10]] : List Str).length) (cells zh ([[13, 10]] : List Str)), .row (.slice p7 ((x_l ++ ([[13, 10]] : List Str)).length) c8) 9 1 ((x_l ++ ([[13, 10]] : List Str)).length) (cells zh (x_l ++ ([[13, 10]] : List Str))), .shr x_l_p2 (cells zh x_l)]) from hO.choose [2, 3, 0, 1, 4] rfl)
 have hfar13 := Dk.Own.far hch13 rfl hF hG.size
 have hlend13 := hch13.lend (S := [.shr p7 (cells zh (x_l ++ ([[13, 10]] : List Str)))]) rfl ⟨zlJ (hO.rowSees (i := 1) rfl) (List.mem_of_getElem? (i := 1) rfl), trivial⟩
 have hcl13 := zix x_q (x_l ++ ([[13, 10]] : List Str)) r10 _ (hG.own hF hO) hfar13 hlend13 (hO.rowCap (i := 1) rfl) hr10
 refine zg (zi c_122 hf (vs := [ptr x_q_b0 0, .slice p7 ((x_l ++ ([[13, 10]] : List Str)).length) c8]) rfl) rfl hf rfl rfl (hcl13) ?_
 rintro e w' ⟨p11, c12, he, hO'⟩
 refine ⟨_, he, fun a hf => ?_⟩
 have hO := hch13.back rfl hO' rfl
 refine S.op tb ?_ hf hO hm
 refine re_ rfl fun a w hf hO hm => ?_
 obtain rfl := Option.some.inj hm
 exact zb Tryz.results89 hf (.tmp rfl .nil) ⟨p11, c12, rfl, (hO.sub (.cons_cons _ (.cons_cons _ (.cons _ (.cons _ (.cons _ .slnil))))))⟩

theorem zdg (x_p : head_printer) (x_s : Str) (R : head_printer) (w0 : World) (hG : zt w0) {x_p_b0 : Nat} {x_p_b1 : Nat} {x_p_p2 : Option Addr} {x_p_c2 : Nat} {F : List Nat} (hF : zo F) (hO : Dk.Own w0 F w0 [.blk x_p_b0 [ptr x_p_b1 0, .bool x_p.f_full] 123, .blk x_p_b1 [.slice x_p_p2 x_p.Quill.f_b.length x_p_c2, int x_p.Quill.f_most] 162, .row (.slice x_p_p2 x_p.Quill.f_b.length x_p_c2) 5 1 x_p.Quill.f_b.length (cells zc x_p.Quill.f_b)]) (hm : zby x_p x_s = some R) :
    Calls Tryz.prog 59 #[ptr x_p_b0 0, str x_s] w0 fun e w' => ∃ (p0 : Option Addr) (c0 : Nat), e = .returned (.tuple #[]) ∧ Dk.Own w0 F w' [.blk x_p_b0 [ptr x_p_b1 0, .bool R.f_full] 123, .blk x_p_b1 [.slice p0 R.Quill.f_b.length c0, int R.Quill.f_most] 162, .row (.slice p0 R.Quill.f_b.length c0) 5 1 R.Quill.f_b.length (cells zc R.Quill.f_b)] := by
 rw [zby] at hm
 refine S.enter tb Tryz.func59 rfl Tryz.ntmps59 rfl ?_ hO hm
 refine ld 0 rfl rfl ?_
 refine rw_ rfl fun a w hf hO hm => ?_
 refine zu (vs := [(0, str x_s)]) (cs := [str x_s]) (e := 9) (sz := 1) hf rfl rfl (fun w => by kernel_rfl) rfl rfl hO fun a b1 w hf hO => ?_
 refine S.op tb ?_ hf hO hm
 refine rw_ rfl fun a w hf hO hm => ?_
 obtain ⟨r2, hr2, hm⟩ := ob hm
 have hch5 := (show Dk.Own w0 F _ ([.blk x_p_b1 [.slice x_p_p2 x_p.Quill.f_b.length x_p_c2, int x_p.Quill.f_most] 162, .row (.slice x_p_p2 x_p.Quill.f_b.length x_p_c2) 5 1 x_p.Quill.f_b.length (cells zc x_p.Quill.f_b)] ++ [.row (.slice (some ⟨b1, 0, none⟩) (([x_s] : List Str).length) 1) 9 1 (([x_s] : List Str).length) (cells zh ([x_s] : List Str)), .blk x_p_b0 [ptr x_p_b1 0, .bool x_p.f_full] 123]) from hO.choose [2, 3, 0, 1] rfl)
 have hfar5 := Dk.Own.far hch5 rfl hF hG.size
 have hlend5 := hch5.lend (S := [.shr (some ⟨b1, 0, none⟩) (cells zh ([x_s] : List Str))]) rfl ⟨zlJ (hO.rowSees (i := 0) rfl) (List.mem_of_getElem? (i := 0) rfl), trivial⟩
 have hcl5 := zh9 x_p.Quill ([x_s] : List Str) r2 _ (hG.own hF hO) hfar5 hlend5 (hO.rowCap (i := 0) rfl) hr2
 refine zg (zi c_89 hf (vs := [ptr x_p_b1 0, .slice (some ⟨b1, 0, none⟩) (([x_s] : List Str).length) 1]) rfl) rfl hf rfl rfl (hcl5) ?_
 rintro e w' ⟨p3, c4, he, hO'⟩
 refine ⟨_, he, fun a hf => ?_⟩
 have hO := hch5.back rfl hO' rfl
 refine S.op tb ?_ hf hO hm
 refine br rfl (fun hc6 => ?_) fun hc6 => ?_
 refine st 3 rfl rfl ?_
 refine rn_ rfl fun a w hf hO hm => ?_
 obtain rfl := Option.some.inj hm
 exact ziS Tryz.results59 hf .nil ⟨p3, c4, rfl, (hO.choose [3, 0, 1] rfl)⟩
 refine ld 3 rfl rfl ?_
 refine st 3 rfl rfl ?_
 refine rn_ rfl fun a w hf hO hm => ?_
 obtain rfl := Option.some.inj hm
 exact ziS Tryz.results59 hf .nil ⟨p3, c4, rfl, (hO.choose [3, 0, 1] rfl)⟩

theorem zia (x_q : quill_Quill) (R : Str) (w0 : World) (hG : zt w0) {x_q_b0 : Nat} {x_q_p1 : Option Addr} {x_q_c1 : Nat} (hs0 : zw w0 (some ⟨x_q_b0, 0, none⟩) [.slice x_q_p1 x_q.f_b.length x_q_c1, int x_q.f_most]) (hs1 : zw w0 x_q_p1 (cells zc x_q.f_b)) (hc1 : x_q.f_b.length ≤ x_q_c1) (hm : zeJ x_q = some R) :
    Calls Tryz.prog 61 #[ptr x_q_b0 0] w0 (Ret w0 (fun R => str R) R) := by
 rw [zeJ] at hm
 have hF : zo [] := zf
 have hO : Dk.Own w0 [] w0 [] := Dk.Own.refl w0
 have hO := hO.addShr hs0 (by simp [Res.shared])
 have hO := hO.addShr hs1 (by simp [Res.shared])
 refine S.enter tb Tryz.func61 rfl Tryz.ntmps61 rfl ?_ hO hm
 refine vl rfl rfl (fun a w hf hO => zZ Tryz.underlying120 hf rfl rfl) ?_
 refine kn (b' := false) rfl rfl ?_
 refine ld 1 rfl rfl ?_
 refine vl rfl rfl (fun a w hf hO => zcP (en := zc) (l := x_q.f_b) (fun _ => rfl) Tryz.underlying9 Tryz.underlying141 Tryz.underlying5 (hO.sees (i := 0) rfl) hf rfl) ?_
 exact rt Tryz.results61 rfl

end Go.Proofs
end
section
set_option linter.unusedVariables false
set_option maxHeartbeats 1000000
set_option linter.unusedSimpArgs false
set_option maxRecDepth 100000
namespace Go.Proofs
open Go.Dk Go.Dm Go.RowKit

theorem zkR (x_h : api_Head) (x_limit : Int) (R : Str × Int) (w0 : World) (hG : zH w0) {x_h_p0 : Option Addr} {x_h_c0 : Nat} (hs0 : zw w0 x_h_p0 (cells za x_h.Fields)) (hc0 : x_h.Fields.length ≤ x_h_c0) (hm : zir x_h x_limit = some R) :
    Calls Tryz.prog 34 #[.agg #[int x_h.Kind, str x_h.Method, str x_h.Target, int x_h.Code, str x_h.Reason, int x_h.Minor, .slice x_h_p0 x_h.Fields.length x_h_c0], int x_limit] w0 (Ret w0 (fun R => .tuple #[str R.1, int R.2]) R) := by
 rw [zir] at hm
 have hF : zo [] := zf
 have hO : Dk.Own w0 [] w0 [] := Dk.Own.refl w0
 have hO := hO.addShr hs0 (by simp [Res.shared])
 refine S.enter tb Tryz.func34 rfl Tryz.ntmps34 rfl ?_ hO hm
 refine bo rfl fun b1 => ?_
 refine ld 0 rfl rfl ?_
 refine cl c_38 rfl (fun r3 w hr3 hO => ziL x_h r3 _ (hG.own hF hO) (hO.sees (i := 1) rfl) hc0 hr3) fun r3 hr3 => ?_
 refine br rfl (fun hc6 => ?_) fun hc6 => ?_
 exact rt Tryz.results34 rfl
 refine rw_ rfl fun a w hf hO hm => ?_
 obtain ⟨r9, hr9, hm⟩ := ob hm
 refine zg (zi c_57 hf (vs := [int x_limit]) rfl) rfl hf rfl rfl (zli x_limit r9 _ (hG.own hF hO).1 hr9) ?_
 rintro e w' ⟨b10, p11, c12, he, hO'⟩
 refine ⟨_, he, fun a hf => ?_⟩
 have hO := hO.call hO' (by simp [Res.shared])
 refine S.op tb ?_ hf hO hm
 refine vl rfl rfl (fun a w hf hO => zl (vs := [(0, ptr b10 0)]) (v := .agg #[ptr b10 0, .bool false]) hf rfl (by kernel_rfl)) ?_
 refine bo rfl fun b13 => ?_
 refine ld 3 rfl rfl ?_
 refine cl c_58 rfl (fun r15 w hr15 hO => zgq x_h r15 _ (hG.own hF hO) (hO.sees (i := 4) rfl) hc0 hr15) fun r15 hr15 => ?_
 refine rw_ rfl fun a w hf hO hm => ?_
 obtain ⟨r17, hr17, hm⟩ := ob hm
 have hch20 := (show Dk.Own w0 [] _ ([.blk b13 [ptr b10 0, .bool false] 123, .blk b10 [.slice p11 r9.f_b.length c12, int r9.f_most] 162, .row (.slice p11 r9.f_b.length c12) 5 1 r9.f_b.length (cells zc r9.f_b)] ++ [.blk b1 [int x_h.Kind, str x_h.Method, str x_h.Target, int x_h.Code, str x_h.Reason, int x_h.Minor, .slice x_h_p0 x_h.Fields.length x_h_c0] 31, .shr x_h_p0 (cells za x_h.Fields)]) from hO)
 have hfar20 := Dk.Own.far hch20 rfl hF hG.size
 have hlend20 := hch20.lend (S := []) rfl trivial
 have hcl20 := zdg (⟨r9, false⟩ : head_printer) r15.1 r17 _ (hG.own hF hO).1 hfar20 hlend20 hr17
 refine zg (zi c_59 hf (vs := [ptr b13 0, str r15.1]) rfl) rfl hf rfl rfl (hcl20) ?_
 rintro e w' ⟨p18, c19, he, hO'⟩
 refine ⟨_, he, fun a hf => ?_⟩
 have hO := hch20.back rfl hO' rfl
 refine S.op tb ?_ hf hO hm
 refine jv 0 [7] [3, 4] (fun J E L => ∃ (t45 : Bool) (p46 : Option Addr) (c47 : Nat) (l48 : List UInt8) (i49 : Int), J (E) (.blk b13 [ptr b10 0, .bool t45] 123 :: .blk b10 [.slice p46 l48.length c47, int i49] 162 :: .row (.slice p46 l48.length c47) 5 1 l48.length (cells zc l48) :: L) (zge t45 l48 i49)) rfl ?_ ?_
 refine ld 3 rfl rfl ?_
 refine lv [7, 32, 33] [3, 4] (fun J E L k => ∃ (t23 : Bool) (p24 : Option Addr) (c25 : Nat) (l26 : List UInt8) (i27 : Int) (i28 : Int), J ((34, int i28) :: E) (.blk b13 [ptr b10 0, .bool t23] 123 :: .blk b10 [.slice p24 l26.length c25, int i27] 162 :: .row (.slice p24 l26.length c25) 5 1 l26.length (cells zc l26) :: L) (zdz x_h k t23 l26 i27 i28)) rfl (fun _ _ j => ⟨r17.f_full, p18, c19, r17.Quill.f_b, r17.Quill.f_most, 0, j rfl⟩) ?_
 rintro n1 a w ⟨t23, p24, c25, l26, i27, i28, hf, hO, hm⟩
 obtain _ | n1 := n1
 rw [zdz] at hm
 cases hm
 rw [zdz] at hm
 refine S.co tb ?_ hf hO hm
 refine br rfl (fun hc30 => ?_) fun hc30 => ?_
 refine rw_ rfl fun a w hf hO hm => ?_
 obtain ⟨x32, hx32, hm⟩ := ob hm
 obtain ⟨b33, o34, hix32, hSx32⟩ := zd3 (enc := za) (sz := 2) (xs := x_h.Fields) 29 Tryz.underlying29 za7 (by decide) (fun _ => rfl) (hO.sees (i := 4) rfl) hx32
 refine zaS (zy hix32 hf rfl rfl) rfl hf rfl rfl fun a hf => ?_
 refine S.op tb ?_ hf hO hm
 refine vl rfl rfl (fun a w hf hO => zaO (o := 0) (vs := [str x32.Name, str x32.Value]) zcK za7 (hSx32 _ (hO.sees (i := 4) rfl)) rfl rfl hf rfl) ?_
 refine al zid rfl fun b35 => ?_
 refine st 0 rfl rfl ?_
 refine ld 0 rfl rfl ?_
 refine cl c_60 rfl (fun r37 w hr37 hO => zgk x32 r37 _ (hG.own hF hO).1 hr37) fun r37 hr37 => ?_
 refine rw_ rfl fun a w hf hO hm => ?_
 obtain ⟨r39, hr39, hm⟩ := ob hm
 have hch42 := (show Dk.Own w0 [] _ ([.blk b13 [ptr b10 0, .bool t23] 123, .blk b10 [.slice p24 l26.length c25, int i27] 162, .row (.slice p24 l26.length c25) 5 1 l26.length (cells zc l26)] ++ [.blk b35 [str x32.Name, str x32.Value] 107, .blk b1 [int x_h.Kind, str x_h.Method, str x_h.Target, int x_h.Code, str x_h.Reason, int x_h.Minor, .slice x_h_p0 x_h.Fields.length x_h_c0] 31, .shr x_h_p0 (cells za x_h.Fields)]) from hO.choose [1, 2, 3, 0, 4, 5] rfl)
 have hfar42 := Dk.Own.far hch42 rfl hF hG.size
 have hlend42 := hch42.lend (S := []) rfl trivial
 have hcl42 := zdg ((⟨(⟨l26, i27⟩ : quill_Quill), t23⟩ : head_printer)) r37.1 r39 _ (hG.own hF hO).1 hfar42 hlend42 hr39
 refine zg (zi c_59 hf (vs := [ptr b13 0, str r37.1]) rfl) rfl hf rfl rfl (hcl42) ?_
 rintro e w' ⟨p40, c41, he, hO'⟩
 refine ⟨_, he, fun a hf => ?_⟩
 have hO := hch42.back rfl hO' rfl
 refine S.op tb ?_ hf hO hm
 refine bi rfl fun i44 hi44 => ?_
 exact ec [0, 1, 2, 4, 5] rfl rfl rfl fun _ _ j => ⟨_, Nat.lt_succ_self _, r39.f_full, p40, c41, r39.Quill.f_b, r39.Quill.f_most, i44, j rfl⟩
 exact en rfl fun _ _ j => ⟨t23, p24, c25, l26, i27, j rfl⟩
 rintro a w ⟨t45, p46, c47, l48, i49, hf, hO, hm⟩
 rw [zge] at hm
 refine S.co tb ?_ hf hO hm
 refine rw_ rfl fun a w hf hO hm => ?_
 obtain ⟨r50, hr50, hm⟩ := ob hm
 have hch53 := (show Dk.Own w0 [] _ ([.blk b13 [ptr b10 0, .bool t45] 123, .blk b10 [.slice p46 l48.length c47, int i49] 162, .row (.slice p46 l48.length c47) 5 1 l48.length (cells zc l48)] ++ [.blk b1 [int x_h.Kind, str x_h.Method, str x_h.Target, int x_h.Code, str x_h.Reason, int x_h.Minor, .slice x_h_p0 x_h.Fields.length x_h_c0] 31, .shr x_h_p0 (cells za x_h.Fields)]) from hO)
 have hfar53 := Dk.Own.far hch53 rfl hF hG.size
 have hlend53 := hch53.lend (S := []) rfl trivial
 have hcl53 := zdg ((⟨(⟨l48, i49⟩ : quill_Quill), t45⟩ : head_printer)) [] r50 _ (hG.own hF hO).1 hfar53 hlend53 hr50
 refine zg (zi c_59 hf (vs := [ptr b13 0, str []]) rfl) rfl hf rfl rfl (hcl53) ?_
 rintro e w' ⟨p51, c52, he, hO'⟩
 refine ⟨_, he, fun a hf => ?_⟩
 have hO := hch53.back rfl hO' rfl
 refine S.op tb ?_ hf hO hm
 refine ld 0 rfl rfl ?_
 refine br rfl (fun hc56 => ?_) fun hc56 => ?_
 exact rt Tryz.results34 rfl
 refine ld 0 rfl rfl ?_
 refine cl c_61 rfl (fun r59 w hr59 hO => zia r50.Quill r59 _ (hG.own hF hO).1 (hO.blkSees (i := 1) rfl) (hO.rowSees (i := 2) rfl) (hO.rowCap (i := 2) rfl) hr59) fun r59 hr59 => ?_
 exact rt Tryz.results34 rfl

theorem zkt (x_size : Int) (R : Option enchunk_Encoder × Int) (w0 : World) (hG : zt w0) (hm : zhC x_size = some R) :
    Calls Tryz.prog 62 #[int x_size] w0 fun e w' => zjj R.1 (e = .returned (.tuple #[.pointer none, int R.2]) ∧ Below w0.heap.size w0 w') (fun x => ∃ (b0 : Nat), e = .returned (.tuple #[ptr b0 0, int R.2]) ∧ Dk.Own w0 [] w' [.blk b0 [int x.f_size, str x.f_buf, .bool x.f_done] 167]) := by
 rw [zhC] at hm
 have hF : zo [] := zf
 have hO : Dk.Own w0 [] w0 [] := Dk.Own.refl w0
 refine S.enter tb Tryz.func62 rfl Tryz.ntmps62 rfl ?_ hO hm
 refine jv 1 [0] [] (fun J E L => ∃ (t3 : Bool), J ((9, .bool t3) :: E) (L) (zeo x_size t3)) rfl ?_ ?_
 refine br rfl (fun hc2 => ?_) fun hc2 => ?_
 exact en rfl fun _ _ j => ⟨true, j rfl⟩
 exact en rfl fun _ _ j => ⟨decide (65536 < x_size), j rfl⟩
 rintro a w ⟨t3, hf, hO, hm⟩
 rw [zeo] at hm
 refine S.co tb ?_ hf hO hm
 refine br rfl (fun hc4 => ?_) fun hc4 => ?_
 refine re_ rfl fun a w hf hO hm => ?_
 obtain rfl := Option.some.inj hm
 exact zb Tryz.results62 hf (.tmp rfl (.tmp rfl .nil)) ⟨rfl, hO.below⟩
 refine vl rfl rfl (fun a w hf hO => zl (vs := [(0, int x_size)]) (v := .agg #[int x_size, str [], .bool false]) hf rfl (by kernel_rfl)) ?_
 refine bo rfl fun b7 => ?_
 refine re_ rfl fun a w hf hO hm => ?_
 obtain rfl := Option.some.inj hm
 exact zb Tryz.results62 hf (.tmp rfl (.tmp rfl .nil)) ⟨b7, rfl, hO⟩

theorem zdW (x_c : enchunk_Encoder) (R : Int) (w0 : World) (hG : zt w0) {x_c_b0 : Nat} (hs0 : zw w0 (some ⟨x_c_b0, 0, none⟩) [int x_c.f_size, str x_c.f_buf, .bool x_c.f_done]) (hm : zbk x_c = some R) :
    Calls Tryz.prog 90 #[ptr x_c_b0 0] w0 (Ret w0 (fun R => int R) R) := by
 rw [zbk] at hm
 have hF : zo [] := zf
 have hO : Dk.Own w0 [] w0 [] := Dk.Own.refl w0
 have hO := hO.addShr hs0 (by simp [Res.shared])
 refine S.enter tb Tryz.func90 rfl Tryz.ntmps90 rfl ?_ hO hm
 refine vl rfl rfl (fun a w hf hO => zZ Tryz.underlying128 hf rfl rfl) ?_
 refine kn (b' := false) rfl rfl ?_
 refine ld 0 rfl rfl ?_
 refine br rfl (fun hc4 => ?_) fun hc4 => ?_
 exact rt Tryz.results90 rfl
 exact rt Tryz.results90 rfl

theorem ziD (x_n : Int) (R : Str) (w0 : World) (hG : zH w0) (hm : zfk x_n = some R) :
    Calls Tryz.prog 180 #[int x_n] w0 (Ret w0 (fun R => str R) R) := by
 rw [zfk] at hm
 have hF : zo [] := zf
 have hO : Dk.Own w0 [] w0 [] := Dk.Own.refl w0
 refine S.enter tb Tryz.func180 rfl Tryz.ntmps180 rfl ?_ hO hm
 refine cl c_118 rfl (fun r2 w hr2 hO => zhj x_n 16 r2 _ (hG.own hF hO) hr2) fun r2 hr2 => ?_
 exact rt Tryz.results180 rfl

theorem zi8 (x_n : Int) (R : Str) (w0 : World) (hG : zH w0) (hm : zfJ x_n = some R) :
    Calls Tryz.prog 123 #[int x_n] w0 (Ret w0 (fun R => str R) R) := by
 rw [zfJ] at hm
 have hF : zo [] := zf
 have hO : Dk.Own w0 [] w0 [] := Dk.Own.refl w0
 refine S.enter tb Tryz.func123 rfl Tryz.ntmps123 rfl ?_ hO hm
 refine cl c_180 rfl (fun r2 w hr2 hO => ziD x_n r2 _ (hG.own hF hO) hr2) fun r2 hr2 => ?_
 exact rt Tryz.results123 rfl

theorem zfS (x_data : Str) (R : Str) (w0 : World) (hG : zH w0) (hm : zdL x_data = some R) :
    Calls Tryz.prog 91 #[str x_data] w0 (Ret w0 (fun R => str R) R) := by
 rw [zdL] at hm
 have hF : zo [] := zf
 have hO : Dk.Own w0 [] w0 [] := Dk.Own.refl w0
 refine S.enter tb Tryz.func91 rfl Tryz.ntmps91 rfl ?_ hO hm
 refine br rfl (fun hc3 => ?_) fun hc3 => ?_
 exact rt Tryz.results91 rfl
 refine cl c_123 rfl (fun r6 w hr6 hO => zi8 (x_data.length : Int) r6 _ (hG.own hF hO) hr6) fun r6 hr6 => ?_
 refine rw_ rfl fun a w hf hO hm => ?_
 refine zu (vs := [(0, str r6), (1, str x_data), (2, str [])]) (cs := [str r6, str x_data, str []]) (e := 9) (sz := 1) hf rfl rfl (fun w => by kernel_rfl) rfl rfl hO fun a b7 w hf hO => ?_
 refine S.op tb ?_ hf hO hm
 refine cl c_73 rfl (fun r8 w hr8 hO => zd1 [13, 10] ([r6, x_data, []] : List Str) r8 _ (hG.own hF hO).1 (hO.rowSees (i := 0) rfl) (hO.rowCap (i := 0) rfl) hr8) fun r8 hr8 => ?_
 exact rt Tryz.results91 rfl

theorem zg2 (x_c : enchunk_Encoder) (x_s : Str) (R : Str × Int × enchunk_Encoder) (w0 : World) (hG : zH w0) {x_c_b0 : Nat} {F : List Nat} (hF : zo F) (hO : Dk.Own w0 F w0 [.blk x_c_b0 [int x_c.f_size, str x_c.f_buf, .bool x_c.f_done] 167]) (hm : zdk x_c x_s = some R) :
    Calls Tryz.prog 63 #[ptr x_c_b0 0, str x_s] w0 fun e w' => e = .returned (.tuple #[str R.1, int R.2.1]) ∧ Dk.Own w0 F w' [.blk x_c_b0 [int R.2.2.f_size, str R.2.2.f_buf, .bool R.2.2.f_done] 167] := by
 rw [zdk] at hm
 refine S.enter tb Tryz.func63 rfl Tryz.ntmps63 rfl ?_ hO hm
 refine cl c_90 rfl (fun r2 w hr2 hO => zdW x_c r2 _ (hG.own hF hO).1 (hO.blkSees (i := 0) rfl) hr2) fun r2 hr2 => ?_
 refine br rfl (fun hc5 => ?_) fun hc5 => ?_
 refine re_ rfl fun a w hf hO hm => ?_
 obtain rfl := Option.some.inj hm
 exact zb Tryz.results63 hf (.tmp rfl (.tmp rfl .nil)) ⟨rfl, hO⟩
 refine nl 9 1 ?_
 refine ld 1 rfl rfl ?_
 refine bi rfl fun s9 hs9 => ?_
 refine st 1 rfl rfl ?_
 refine jv 0 [] [] (fun J E L => ∃ (p28 : Option Addr) (c29 : Nat) (l30 : List Str) (i31 : Int) (s32 : Str) (t33 : Bool), J ((7, .slice p28 l30.length c29) :: E) (.row (.slice p28 l30.length c29) 9 1 l30.length (cells zh l30) :: .blk x_c_b0 [int i31, str s32, .bool t33] 167 :: L) (zb7 l30 i31 s32 t33)) rfl ?_ ?_
 refine lv [0] [] (fun J E L k => ∃ (p11 : Option Addr) (c12 : Nat) (l13 : List Str) (i14 : Int) (s15 : Str) (t16 : Bool), J ((7, .slice p11 l13.length c12) :: E) (.row (.slice p11 l13.length c12) 9 1 l13.length (cells zh l13) :: .blk x_c_b0 [int i14, str s15, .bool t16] 167 :: L) (zak k l13 i14 s15 t16)) rfl (fun _ _ j => ⟨none, 0, [], x_c.f_size, s9, x_c.f_done, j rfl⟩) ?_
 rintro n1 a w ⟨p11, c12, l13, i14, s15, t16, hf, hO, hm⟩
 obtain _ | n1 := n1
 rw [zak] at hm
 cases hm
 rw [zak] at hm
 refine S.co tb ?_ hf hO hm
 refine rc_ rfl fun a w hf hO hm => ?_
 refine zbM (by kernel_rfl) (by kernel_rfl) hO ?_
 refine zm (fun w hO => zn hf rfl) rfl hf rfl rfl fun a hf => ?_
 refine zm (fun w hO => zp hf rfl) rfl hf rfl rfl fun a hf => ?_
 refine zm (fun w hO => zr zhf hf rfl) rfl hf rfl rfl fun a hf => ?_
 refine zm (fun w hO => zk (o := 1) zbC (hO.blkSees (i := 1) rfl) rfl hf rfl) rfl hf rfl rfl fun a hf => ?_
 refine zm (fun w hO => zkd (l := s15) Tryz.underlying9 hf rfl) rfl hf rfl rfl fun a hf => ?_
 refine zm (fun w hO => zn hf rfl) rfl hf rfl rfl fun a hf => ?_
 refine zm (fun w hO => zp hf rfl) rfl hf rfl rfl fun a hf => ?_
 refine zm (fun w hO => zr ziz hf rfl) rfl hf rfl rfl fun a hf => ?_
 refine zm (fun w hO => zk (o := 0) ze6 (hO.blkSees (i := 1) rfl) rfl hf rfl) rfl hf rfl rfl fun a hf => ?_
 refine zm (fun w hO => zk6 (m := (s15.length : Int)) (n := i14) hf rfl rfl) rfl hf rfl rfl fun a hf => ?_
 refine wpQuiet_nil ?_
 intro w hO
 refine S.no tb ?_ hf hO hm
 refine br rfl (fun hc18 => ?_) fun hc18 => ?_
 refine rc_ rfl fun a w hf hO hm => ?_
 obtain ⟨s20, hs20, hm⟩ := ob hm
 obtain ⟨r21, hr21, hm⟩ := ob hm
 obtain ⟨hg25, hm⟩ := og hm
 refine zcp (S := Nat × Option Addr × Nat) (E0 := [(0, ptr x_c_b0 0), (7, .slice p11 l13.length c12)]) (by kernel_rfl) (fun k σ w => match k with | 0 => Dk.Own w0 F w [.row (.slice p11 l13.length c12) 9 1 l13.length (cells zh l13), .blk x_c_b0 [int i14, str s15, .bool t16] 167] | 1 => Dk.Own w0 F w [.row (.slice p11 l13.length c12) 9 1 l13.length (cells zh l13), .blk x_c_b0 [int i14, str s15, .bool t16] 167] | 2 => Dk.Own w0 F w [.row (.slice (some ⟨(σ.1), 0, none⟩) (([r21] : List Str).length) 1) 9 1 (([r21] : List Str).length) (cells zh ([r21] : List Str)), .row (.slice p11 l13.length c12) 9 1 l13.length (cells zh l13), .blk x_c_b0 [int i14, str s15, .bool t16] 167] | _ => Dk.Own w0 F w [.row (.slice (some ⟨(σ.1), 0, none⟩) (([r21] : List Str).length) 1) 9 1 (([r21] : List Str).length) (cells zh ([r21] : List Str)), .row (.slice (σ.2.1) ((l13 ++ ([r21] : List Str)).length) (σ.2.2)) 9 1 ((l13 ++ ([r21] : List Str)).length) (cells zh (l13 ++ ([r21] : List Str))), .blk x_c_b0 [int i14, str s15, .bool t16] 167]) (fun σ => [⟨[(7, .slice p11 l13.length c12)], some (31, .slice p11 l13.length c12)⟩, ⟨[(0, ptr x_c_b0 0)], some (32, ptr x_c_b0 0)⟩, ⟨[(32, ptr x_c_b0 0)], some (33, ptr x_c_b0 0)⟩, ⟨[(33, ptr x_c_b0 0)], some (34, ptr x_c_b0 1)⟩, ⟨[(34, ptr x_c_b0 1)], some (35, str s15)⟩, ⟨[(0, ptr x_c_b0 0)], some (36, ptr x_c_b0 0)⟩, ⟨[(36, ptr x_c_b0 0)], some (37, ptr x_c_b0 0)⟩, ⟨[(37, ptr x_c_b0 0)], some (38, ptr x_c_b0 0)⟩, ⟨[(38, ptr x_c_b0 0)], some (39, int i14)⟩, ⟨[(35, str s15), (39, int i14)], some (40, str s20)⟩, ⟨[(40, str s20)], some (41, str r21)⟩, ⟨[(41, str r21)], some (42, .slice (some ⟨(σ.1), 0, none⟩) (([r21] : List Str).length) 1)⟩, ⟨[(31, .slice p11 l13.length c12), (42, .slice (some ⟨(σ.1), 0, none⟩) (([r21] : List Str).length) 1)], some (43, .slice (σ.2.1) ((l13 ++ ([r21] : List Str)).length) (σ.2.2))⟩, ⟨[(43, .slice (σ.2.1) ((l13 ++ ([r21] : List Str)).length) (σ.2.2))], some (7, .slice (σ.2.1) ((l13 ++ ([r21] : List Str)).length) (σ.2.2))⟩]) (0, none, 0) [10, 11, 12] rfl (fun _ => rfl) (fun _ => rfl) (fun _ => rfl) rfl rfl (by decide) rfl hO.drew (hf.cons rfl (hf.cons rfl hf.nil)) (fun σ => ⟨⟨rfl, trivial⟩, ⟨rfl, trivial⟩, ⟨rfl, trivial⟩, ⟨rfl, trivial⟩, ⟨rfl, trivial⟩, ⟨rfl, trivial⟩, ⟨rfl, trivial⟩, ⟨rfl, trivial⟩, ⟨rfl, trivial⟩, ⟨rfl, rfl, trivial⟩, ⟨rfl, trivial⟩, ⟨rfl, trivial⟩, ⟨rfl, rfl, trivial⟩, ⟨rfl, trivial⟩, trivial⟩) ⟨zj rfl (fun σ => rfl) (fun σ => rfl) (fun σ a w k _ _ _ _ hf => zn hf rfl), zj rfl (fun σ => rfl) (fun σ => rfl) (fun σ a w k _ _ _ _ hf => zn hf rfl), zj rfl (fun σ => rfl) (fun σ => rfl) (fun σ a w k _ _ _ _ hf => zp hf rfl), zj rfl (fun σ => rfl) (fun σ => rfl) (fun σ a w k _ _ _ _ hf => zr zhf hf rfl), zj rfl (fun σ => rfl) (fun σ => rfl) (fun σ a w k hk hlo hup hst hf => match k, hk, hlo, hup, hst, hf with | 0, _, _, _, hst, hf => have hO : Dk.Own w0 F w [.row (.slice p11 l13.length c12) 9 1 l13.length (cells zh l13), .blk x_c_b0 [int i14, str s15, .bool t16] 167] := hst; zk (o := 1) zbC (hO.blkSees (i := 1) rfl) rfl hf rfl | 1, _, _, _, hst, hf => have hO : Dk.Own w0 F w [.row (.slice p11 l13.length c12) 9 1 l13.length (cells zh l13), .blk x_c_b0 [int i14, str s15, .bool t16] 167] := hst; zk (o := 1) zbC (hO.blkSees (i := 1) rfl) rfl hf rfl | 2, _, _, _, hst, hf => have hO : Dk.Own w0 F w [.row (.slice (some ⟨(σ.1), 0, none⟩) (([r21] : List Str).length) 1) 9 1 (([r21] : List Str).length) (cells zh ([r21] : List Str)), .row (.slice p11 l13.length c12) 9 1 l13.length (cells zh l13), .blk x_c_b0 [int i14, str s15, .bool t16] 167] := hst; zk (o := 1) zbC (hO.blkSees (i := 2) rfl) rfl hf rfl | 3, _, _, _, hst, hf => have hO : Dk.Own w0 F w [.row (.slice (some ⟨(σ.1), 0, none⟩) (([r21] : List Str).length) 1) 9 1 (([r21] : List Str).length) (cells zh ([r21] : List Str)), .row (.slice (σ.2.1) ((l13 ++ ([r21] : List Str)).length) (σ.2.2)) 9 1 ((l13 ++ ([r21] : List Str)).length) (cells zh (l13 ++ ([r21] : List Str))), .blk x_c_b0 [int i14, str s15, .bool t16] 167] := hst; zk (o := 1) zbC (hO.blkSees (i := 2) rfl) rfl hf rfl | k + 4, hk, _, _, _, _ => absurd hk (by simp)), zj rfl (fun σ => rfl) (fun σ => rfl) (fun σ a w k _ _ _ _ hf => zn hf rfl), zj rfl (fun σ => rfl) (fun σ => rfl) (fun σ a w k _ _ _ _ hf => zp hf rfl), zj rfl (fun σ => rfl) (fun σ => rfl) (fun σ a w k _ _ _ _ hf => zr ziz hf rfl), zj rfl (fun σ => rfl) (fun σ => rfl) (fun σ a w k hk hlo hup hst hf => match k, hk, hlo, hup, hst, hf with | 0, _, _, _, hst, hf => have hO : Dk.Own w0 F w [.row (.slice p11 l13.length c12) 9 1 l13.length (cells zh l13), .blk x_c_b0 [int i14, str s15, .bool t16] 167] := hst; zk (o := 0) ze6 (hO.blkSees (i := 1) rfl) rfl hf rfl | 1, _, _, _, hst, hf => have hO : Dk.Own w0 F w [.row (.slice p11 l13.length c12) 9 1 l13.length (cells zh l13), .blk x_c_b0 [int i14, str s15, .bool t16] 167] := hst; zk (o := 0) ze6 (hO.blkSees (i := 1) rfl) rfl hf rfl | 2, _, _, _, hst, hf => have hO : Dk.Own w0 F w [.row (.slice (some ⟨(σ.1), 0, none⟩) (([r21] : List Str).length) 1) 9 1 (([r21] : List Str).length) (cells zh ([r21] : List Str)), .row (.slice p11 l13.length c12) 9 1 l13.length (cells zh l13), .blk x_c_b0 [int i14, str s15, .bool t16] 167] := hst; zk (o := 0) ze6 (hO.blkSees (i := 2) rfl) rfl hf rfl | 3, _, _, _, hst, hf => have hO : Dk.Own w0 F w [.row (.slice (some ⟨(σ.1), 0, none⟩) (([r21] : List Str).length) 1) 9 1 (([r21] : List Str).length) (cells zh ([r21] : List Str)), .row (.slice (σ.2.1) ((l13 ++ ([r21] : List Str)).length) (σ.2.2)) 9 1 ((l13 ++ ([r21] : List Str)).length) (cells zh (l13 ++ ([r21] : List Str))), .blk x_c_b0 [int i14, str s15, .bool t16] 167] := hst; zk (o := 0) ze6 (hO.blkSees (i := 2) rfl) rfl hf rfl | k + 4, hk, _, _, _, _ => absurd hk (by simp)), zj rfl (fun σ => rfl) (fun σ => rfl) (fun σ a w k _ _ _ _ hf => zjH (l := s15) Tryz.underlying9 hf rfl rfl hs20), zd7 rfl (fun σ => rfl) (fun σ => rfl) rfl (fun σ a w (_ : _) hf => zi c_91 hf (vs := [str s20]) rfl) (fun σ w (hO : Dk.Own w0 F w [.row (.slice p11 l13.length c12) 9 1 l13.length (cells zh l13), .blk x_c_b0 [int i14, str s15, .bool t16] 167]) => (zfS s20 r21 _ (hG.own hF hO) hr21).mono fun e w' h => by obtain ⟨he, hb⟩ := h; exact ⟨((σ.1), (σ.2.1), (σ.2.2)), he, hO.grow hb, .inr rfl, .inr rfl, .inr rfl, .inr rfl, .inr rfl, .inr rfl, .inr rfl, .inr rfl, .inr rfl, .inr rfl, .inr rfl, .inr rfl, .inr rfl, .inr rfl, trivial⟩), zik rfl (fun σ => rfl) (fun σ => rfl) rfl (fun σ w (hO : Dk.Own w0 F w [.row (.slice p11 l13.length c12) 9 1 l13.length (cells zh l13), .blk x_c_b0 [int i14, str s15, .bool t16] 167]) => by obtain ⟨b22, w', hO', hr⟩ := zdu (E := [(41, str r21)]) (parts := #[(0, (.tmp 41))]) (t' := 61) (n := 1) (vs := [(0, str r21)]) (cs := [str r21]) (e := 9) (sz := 1) (fun w => by kernel_rfl) rfl rfl hO rfl; exact ⟨(b22, (σ.2.1), (σ.2.2)), w', hO', ⟨.inr rfl, .inr rfl, .inr rfl, .inr rfl, .inr rfl, .inr rfl, .inr rfl, .inr rfl, .inr rfl, .inr rfl, .inr rfl, .inl rfl, .inl rfl, .inr rfl, trivial⟩, hr⟩), zik rfl (fun σ => rfl) (fun σ => rfl) rfl (fun σ w (hO : Dk.Own w0 F w [.row (.slice (some ⟨(σ.1), 0, none⟩) (([r21] : List Str).length) 1) 9 1 (([r21] : List Str).length) (cells zh ([r21] : List Str)), .row (.slice p11 l13.length c12) 9 1 l13.length (cells zh l13), .blk x_c_b0 [int i14, str s15, .bool t16] 167]) => by obtain ⟨p23, c24, w', hO', hr⟩ := zkM (E := [(31, .slice p11 l13.length c12), (42, .slice (some ⟨(σ.1), 0, none⟩) (([r21] : List Str).length) 1)]) (x := (.tmp 31)) (y := (.tmp 42)) zjp (enc := zh) (xs := l13) (ys := ([r21] : List Str)) (i := 1) (fun _ => rfl) rfl (hO.rowSees (i := 0) rfl) (by simp [cells, zh, Value.oneCell']) hg25 hO rfl rfl; exact ⟨((σ.1), p23, c24), w', hO', ⟨.inr rfl, .inr rfl, .inr rfl, .inr rfl, .inr rfl, .inr rfl, .inr rfl, .inr rfl, .inr rfl, .inr rfl, .inr rfl, .inr rfl, .inl rfl, .inl rfl, trivial⟩, hr⟩), zj rfl (fun σ => rfl) (fun σ => rfl) (fun σ a w k _ _ _ _ hf => zv hf rfl), trivial⟩ ?_
 rintro ⟨b22, p23, c24⟩ a w hf hO
 have hO : Dk.Own w0 F w [.row (.slice (some ⟨b22, 0, none⟩) (([r21] : List Str).length) 1) 9 1 (([r21] : List Str).length) (cells zh ([r21] : List Str)), .row (.slice p23 ((l13 ++ ([r21] : List Str)).length) c24) 9 1 ((l13 ++ ([r21] : List Str)).length) (cells zh (l13 ++ ([r21] : List Str))), .blk x_c_b0 [int i14, str s15, .bool t16] 167] := hO
 have hf : Fits 58 [(0, ptr x_c_b0 0), (7, .slice p23 ((l13 ++ ([r21] : List Str)).length) c24)] a := (hf.cons rfl (hf.cons rfl hf.nil))
 refine S.no tb ?_ hf hO hm
 refine rc_ rfl fun a w hf hO hm => ?_
 obtain ⟨s27, hs27, hm⟩ := ob hm
 refine zcp (S := Unit) (E0 := [(0, ptr x_c_b0 0), (7, .slice p23 ((l13 ++ ([r21] : List Str)).length) c24)]) (by kernel_rfl) (fun k σ w => match k with | 0 => Dk.Own w0 F w [.row (.slice (some ⟨b22, 0, none⟩) (([r21] : List Str).length) 1) 9 1 (([r21] : List Str).length) (cells zh ([r21] : List Str)), .row (.slice p23 ((l13 ++ ([r21] : List Str)).length) c24) 9 1 ((l13 ++ ([r21] : List Str)).length) (cells zh (l13 ++ ([r21] : List Str))), .blk x_c_b0 [int i14, str s15, .bool t16] 167] | _ => Dk.Own w0 F w [.row (.slice (some ⟨b22, 0, none⟩) (([r21] : List Str).length) 1) 9 1 (([r21] : List Str).length) (cells zh ([r21] : List Str)), .row (.slice p23 ((l13 ++ ([r21] : List Str)).length) c24) 9 1 ((l13 ++ ([r21] : List Str)).length) (cells zh (l13 ++ ([r21] : List Str))), .blk x_c_b0 [int i14, str s27, .bool t16] 167]) (fun σ => [⟨[(0, ptr x_c_b0 0)], some (44, ptr x_c_b0 0)⟩, ⟨[(0, ptr x_c_b0 0)], some (45, ptr x_c_b0 0)⟩, ⟨[(45, ptr x_c_b0 0)], some (46, ptr x_c_b0 0)⟩, ⟨[(46, ptr x_c_b0 0)], some (47, ptr x_c_b0 1)⟩, ⟨[(47, ptr x_c_b0 1)], some (48, str s15)⟩, ⟨[(0, ptr x_c_b0 0)], some (49, ptr x_c_b0 0)⟩, ⟨[(49, ptr x_c_b0 0)], some (50, ptr x_c_b0 0)⟩, ⟨[(50, ptr x_c_b0 0)], some (51, ptr x_c_b0 0)⟩, ⟨[(51, ptr x_c_b0 0)], some (52, int i14)⟩, ⟨[(48, str s15), (52, int i14)], some (53, str s27)⟩, ⟨[(44, ptr x_c_b0 0)], some (54, ptr x_c_b0 0)⟩, ⟨[(54, ptr x_c_b0 0)], some (55, ptr x_c_b0 1)⟩, ⟨[(53, str s27), (55, ptr x_c_b0 1)], none⟩]) () [12] rfl (fun _ => rfl) (fun _ => rfl) (fun _ => rfl) rfl rfl (by decide) rfl hO.drew (hf.cons rfl (hf.cons rfl hf.nil)) (fun σ => ⟨⟨rfl, trivial⟩, ⟨rfl, trivial⟩, ⟨rfl, trivial⟩, ⟨rfl, trivial⟩, ⟨rfl, trivial⟩, ⟨rfl, trivial⟩, ⟨rfl, trivial⟩, ⟨rfl, trivial⟩, ⟨rfl, trivial⟩, ⟨rfl, rfl, trivial⟩, ⟨rfl, trivial⟩, ⟨rfl, trivial⟩, ⟨rfl, rfl, trivial⟩, trivial⟩) ⟨zj rfl (fun σ => rfl) (fun σ => rfl) (fun σ a w k _ _ _ _ hf => zn hf rfl), zj rfl (fun σ => rfl) (fun σ => rfl) (fun σ a w k _ _ _ _ hf => zn hf rfl), zj rfl (fun σ => rfl) (fun σ => rfl) (fun σ a w k _ _ _ _ hf => zp hf rfl), zj rfl (fun σ => rfl) (fun σ => rfl) (fun σ a w k _ _ _ _ hf => zr zhf hf rfl), zj rfl (fun σ => rfl) (fun σ => rfl) (fun σ a w k hk hlo hup hst hf => match k, hk, hlo, hup, hst, hf with | 0, _, _, _, hst, hf => have hO : Dk.Own w0 F w [.row (.slice (some ⟨b22, 0, none⟩) (([r21] : List Str).length) 1) 9 1 (([r21] : List Str).length) (cells zh ([r21] : List Str)), .row (.slice p23 ((l13 ++ ([r21] : List Str)).length) c24) 9 1 ((l13 ++ ([r21] : List Str)).length) (cells zh (l13 ++ ([r21] : List Str))), .blk x_c_b0 [int i14, str s15, .bool t16] 167] := hst; zk (o := 1) zbC (hO.blkSees (i := 2) rfl) rfl hf rfl | 1, _, _, hup, _, _ => absurd (hup 0 (by decide) (by kernel_rfl)) (by decide) | k + 2, hk, _, _, _, _ => absurd hk (by simp)), zj rfl (fun σ => rfl) (fun σ => rfl) (fun σ a w k _ _ _ _ hf => zn hf rfl), zj rfl (fun σ => rfl) (fun σ => rfl) (fun σ a w k _ _ _ _ hf => zp hf rfl), zj rfl (fun σ => rfl) (fun σ => rfl) (fun σ a w k _ _ _ _ hf => zr ziz hf rfl), zj rfl (fun σ => rfl) (fun σ => rfl) (fun σ a w k hk hlo hup hst hf => match k, hk, hlo, hup, hst, hf with | 0, _, _, _, hst, hf => have hO : Dk.Own w0 F w [.row (.slice (some ⟨b22, 0, none⟩) (([r21] : List Str).length) 1) 9 1 (([r21] : List Str).length) (cells zh ([r21] : List Str)), .row (.slice p23 ((l13 ++ ([r21] : List Str)).length) c24) 9 1 ((l13 ++ ([r21] : List Str)).length) (cells zh (l13 ++ ([r21] : List Str))), .blk x_c_b0 [int i14, str s15, .bool t16] 167] := hst; zk (o := 0) ze6 (hO.blkSees (i := 2) rfl) rfl hf rfl | 1, _, _, hup, _, _ => absurd (hup 0 (by decide) (by kernel_rfl)) (by decide) | k + 2, hk, _, _, _, _ => absurd hk (by simp)), zj rfl (fun σ => rfl) (fun σ => rfl) (fun σ a w k _ _ _ _ hf => zhN (l := s15) Tryz.underlying9 hf rfl rfl hs27), zj rfl (fun σ => rfl) (fun σ => rfl) (fun σ a w k _ _ _ _ hf => zp hf rfl), zj rfl (fun σ => rfl) (fun σ => rfl) (fun σ a w k _ _ _ _ hf => zr zhf hf rfl), zgI rfl (fun σ => rfl) (fun σ => rfl) rfl (fun σ w (hO : Dk.Own w0 F w [.row (.slice (some ⟨b22, 0, none⟩) (([r21] : List Str).length) 1) 9 1 (([r21] : List Str).length) (cells zh ([r21] : List Str)), .row (.slice p23 ((l13 ++ ([r21] : List Str)).length) c24) 9 1 ((l13 ++ ([r21] : List Str)).length) (cells zh (l13 ++ ([r21] : List Str))), .blk x_c_b0 [int i14, str s15, .bool t16] 167]) => by obtain ⟨w', hO', hr⟩ := zhP (x := (.tmp 55)) (y := (.tmp 53)) (E := [(53, str s27), (55, ptr x_c_b0 1)]) (i := 2) (o := 1) (v := str s27) zhS rfl rfl rfl rfl hO rfl rfl; exact ⟨(), w', hO', ⟨.inr rfl, .inr rfl, .inr rfl, .inr rfl, .inr rfl, .inr rfl, .inr rfl, .inr rfl, .inr rfl, .inr rfl, .inr rfl, .inr rfl, .inr rfl, trivial⟩, hr⟩), trivial⟩ ?_
 rintro _ a w hf hO
 have hO : Dk.Own w0 F w [.row (.slice (some ⟨b22, 0, none⟩) (([r21] : List Str).length) 1) 9 1 (([r21] : List Str).length) (cells zh ([r21] : List Str)), .row (.slice p23 ((l13 ++ ([r21] : List Str)).length) c24) 9 1 ((l13 ++ ([r21] : List Str)).length) (cells zh (l13 ++ ([r21] : List Str))), .blk x_c_b0 [int i14, str s27, .bool t16] 167] := hO
 have hf : Fits 58 [(0, ptr x_c_b0 0), (7, .slice p23 ((l13 ++ ([r21] : List Str)).length) c24)] a := (hf.cons rfl (hf.cons rfl hf.nil))
 refine S.no tb ?_ hf hO hm
 exact ec [1, 2] rfl rfl rfl fun _ _ j => ⟨_, Nat.lt_succ_self _, p23, c24, l13 ++ ([r21] : List Str), i14, s27, t16, j rfl⟩
 exact en rfl fun _ _ j => ⟨p11, c12, l13, i14, s15, t16, j rfl⟩
 rintro a w ⟨p28, c29, l30, i31, s32, t33, hf, hO, hm⟩
 rw [zb7] at hm
 refine S.co tb ?_ hf hO hm
 refine cl c_73 rfl (fun r34 w hr34 hO => zd1 [] l30 r34 _ (hG.own hF hO).1 (hO.rowSees (i := 0) rfl) (hO.rowCap (i := 0) rfl) hr34) fun r34 hr34 => ?_
 refine re_ rfl fun a w hf hO hm => ?_
 obtain rfl := Option.some.inj hm
 exact zb Tryz.results63 hf (.tmp rfl (.tmp rfl .nil)) ⟨rfl, (hO.sub (.cons _ (.cons_cons _ .slnil)))⟩

theorem zg3 (x_c : enchunk_Encoder) (x_trailers : List api_Field) (R : Str × Int × enchunk_Encoder) (w0 : World) (hG : zH w0) {x_c_b0 : Nat} {x_trailers_p1 : Option Addr} {x_trailers_c1 : Nat} {F : List Nat} (hF : zo F) (hO : Dk.Own w0 F w0 [.blk x_c_b0 [int x_c.f_size, str x_c.f_buf, .bool x_c.f_done] 167, .shr x_trailers_p1 (cells za x_trailers)]) (hcw0 : x_trailers.length ≤ x_trailers_c1) (hm : zdl x_c x_trailers = some R) :
    Calls Tryz.prog 64 #[ptr x_c_b0 0, .slice x_trailers_p1 x_trailers.length x_trailers_c1] w0 fun e w' => e = .returned (.tuple #[str R.1, int R.2.1]) ∧ Dk.Own w0 F w' [.blk x_c_b0 [int R.2.2.f_size, str R.2.2.f_buf, .bool R.2.2.f_done] 167] := by
 rw [zdl] at hm
 refine S.enter tb Tryz.func64 rfl Tryz.ntmps64 rfl ?_ hO hm
 refine cl c_90 rfl (fun r2 w hr2 hO => zdW x_c r2 _ (hG.own hF hO).1 (hO.blkSees (i := 0) rfl) hr2) fun r2 hr2 => ?_
 refine br rfl (fun hc5 => ?_) fun hc5 => ?_
 refine re_ rfl fun a w hf hO hm => ?_
 obtain rfl := Option.some.inj hm
 exact zb Tryz.results64 hf (.tmp rfl (.tmp rfl .nil)) ⟨rfl, (hO.sub (.cons_cons _ (.cons _ .slnil)))⟩
 refine cl c_41 rfl (fun r8 w hr8 hO => zeB x_trailers r8 _ (hG.own hF hO).1 (hO.sees (i := 1) rfl) hcw0 hr8) fun r8 hr8 => ?_
 refine br rfl (fun hc11 => ?_) fun hc11 => ?_
 refine re_ rfl fun a w hf hO hm => ?_
 obtain rfl := Option.some.inj hm
 exact zb Tryz.results64 hf (.tmp rfl (.tmp rfl .nil)) ⟨rfl, (hO.sub (.cons_cons _ (.cons _ .slnil)))⟩
 refine ld 0 rfl rfl ?_
 refine cl c_91 rfl (fun r14 w hr14 hO => zfS x_c.f_buf r14 _ (hG.own hF hO) hr14) fun r14 hr14 => ?_
 refine bi rfl fun s15 hs15 => ?_
 refine st 0 rfl rfl ?_
 refine st 0 rfl rfl ?_
 refine re_ rfl fun a w hf hO hm => ?_
 obtain rfl := Option.some.inj hm
 exact zb Tryz.results64 hf (.tmp rfl (.tmp rfl .nil)) ⟨rfl, (hO.sub (.cons_cons _ (.cons _ .slnil)))⟩

theorem zcO (R : Int) (w0 : World) (hG : zt w0) (hm : zaw = some R) :
    Calls Tryz.prog 90 #[.pointer none] w0 (Ret w0 (fun R => int R) R) := by
 rw [zaw] at hm
 have hF : zo [] := zf
 have hO : Dk.Own w0 [] w0 [] := Dk.Own.refl w0
 refine S.enter tb Tryz.func90 rfl Tryz.ntmps90 rfl ?_ hO hm
 refine vl rfl rfl (fun a w hf hO => zdZ Tryz.underlying128 hf rfl rfl) ?_
 refine kn (b' := true) rfl rfl ?_
 exact rt Tryz.results90 rfl

theorem zf7 (x_s : Str) (R : Str × Int) (w0 : World) (hG : zH w0) (hm : zb8 x_s = some R) :
    Calls Tryz.prog 63 #[.pointer none, str x_s] w0 (Ret w0 (fun R => .tuple #[str R.1, int R.2]) R) := by
 rw [zb8] at hm
 have hF : zo [] := zf
 have hO : Dk.Own w0 [] w0 [] := Dk.Own.refl w0
 refine S.enter tb Tryz.func63 rfl Tryz.ntmps63 rfl ?_ hO hm
 refine cl c_90 rfl (fun r2 w hr2 hO => zcO r2 _ (hG.own hF hO).1 hr2) fun r2 hr2 => ?_
 refine br rfl (fun hc5 => ?_) fun hc5 => ?_
 exact rt Tryz.results63 rfl
 refine nl 9 1 ?_
 refine rw_ rfl fun a w hf hO hm => ?_
 cases hm

theorem zf8 (x_trailers : List api_Field) (R : Str × Int) (w0 : World) (hG : zH w0) {x_trailers_p0 : Option Addr} {x_trailers_c0 : Nat} (hs0 : zw w0 x_trailers_p0 (cells za x_trailers)) (hc0 : x_trailers.length ≤ x_trailers_c0) (hm : zb9 x_trailers = some R) :
    Calls Tryz.prog 64 #[.pointer none, .slice x_trailers_p0 x_trailers.length x_trailers_c0] w0 (Ret w0 (fun R => .tuple #[str R.1, int R.2]) R) := by
 rw [zb9] at hm
 have hF : zo [] := zf
 have hO : Dk.Own w0 [] w0 [] := Dk.Own.refl w0
 have hO := hO.addShr hs0 (by simp [Res.shared])
 refine S.enter tb Tryz.func64 rfl Tryz.ntmps64 rfl ?_ hO hm
 refine cl c_90 rfl (fun r2 w hr2 hO => zcO r2 _ (hG.own hF hO).1 hr2) fun r2 hr2 => ?_
 refine br rfl (fun hc5 => ?_) fun hc5 => ?_
 exact rt Tryz.results64 rfl
 refine cl c_41 rfl (fun r8 w hr8 hO => zeB x_trailers r8 _ (hG.own hF hO).1 (hO.sees (i := 0) rfl) hc0 hr8) fun r8 hr8 => ?_
 refine br rfl (fun hc11 => ?_) fun hc11 => ?_
 exact rt Tryz.results64 rfl
 refine rw_ rfl fun a w hf hO hm => ?_
 cases hm

theorem zku (x_size : Int) (x_body : Str) (x_trailers : List api_Field) (R : Str × Int) (w0 : World) (hG : zH w0) {x_trailers_p0 : Option Addr} {x_trailers_c0 : Nat} (hs0 : zw w0 x_trailers_p0 (cells za x_trailers)) (hc0 : x_trailers.length ≤ x_trailers_c0) (hm : zhD x_size x_body x_trailers = some R) :
    Calls Tryz.prog 35 #[int x_size, str x_body, .slice x_trailers_p0 x_trailers.length x_trailers_c0] w0 (Ret w0 (fun R => .tuple #[str R.1, int R.2]) R) := by
 rw [zhD] at hm
 have hF : zo [] := zf
 have hO : Dk.Own w0 [] w0 [] := Dk.Own.refl w0
 have hO := hO.addShr hs0 (by simp [Res.shared])
 refine S.enter tb Tryz.func35 rfl Tryz.ntmps35 rfl ?_ hO hm
 refine jn 0 (fun a w => (∃ (i6 : Int), Fits 39 [(1, str x_body), (2, .slice x_trailers_p0 x_trailers.length x_trailers_c0), (8, .pointer none), (9, int i6)] a ∧ Dk.Own w0 [] w [.shr x_trailers_p0 (cells za x_trailers)] ∧ zfK x_body x_trailers i6 = some R) ∨ (∃ (b21 : Nat) (i22 : Int) (i23 : Int) (s24 : Str) (t25 : Bool), Fits 39 [(1, str x_body), (2, .slice x_trailers_p0 x_trailers.length x_trailers_c0), (8, ptr b21 0), (9, int i22)] a ∧ Dk.Own w0 [] w [.blk b21 [int i23, str s24, .bool t25] 167, .shr x_trailers_p0 (cells za x_trailers)] ∧ zfL x_body x_trailers i22 i23 s24 t25 = some R)) rfl ?_ ?_
 refine rw_ rfl fun a w hf hO hm => ?_
 obtain ⟨r2, hr2, hm⟩ := ob hm
 refine zg (zi c_62 hf (vs := [int x_size]) rfl) rfl hf rfl rfl (zkt x_size r2 _ (hG.own hF hO).1 hr2) ?_
 rintro e w' hpost3
 rcases hopt3 : r2.1 with _ | x4
 have hm := zkn hopt3 hm
 obtain ⟨he, hb⟩ := zi0 hopt3 hpost3
 refine ⟨_, he, fun a hf => ?_⟩
 have hO := hO.grow hb
 refine S.op tb ?_ hf hO hm
 refine eo rfl fun a w hf hO hm => ?_
 exact Or.inl ⟨r2.2, hf.sel rfl, hO, hm⟩
 have hm := zko hopt3 hm
 obtain ⟨b5, he, hO'⟩ := zi1 hopt3 hpost3
 refine ⟨_, he, fun a hf => ?_⟩
 have hO := hO.call hO' (by simp [Res.shared])
 refine S.op tb ?_ hf hO hm
 refine eo rfl fun a w hf hO hm => ?_
 exact Or.inr (⟨b5, r2.2, x4.f_size, x4.f_buf, x4.f_done, hf.sel rfl, hO, hm⟩)
 rintro a w (⟨i6, hf, hO, hm⟩ | ⟨b21, i22, i23, s24, t25, hf, hO, hm⟩)
 rw [zfK] at hm
 refine S.co tb ?_ hf hO hm
 refine br rfl (fun hc8 => ?_) fun hc8 => ?_
 exact rt Tryz.results35 rfl
 refine cl c_63 rfl (fun r11 w hr11 hO => zf7 x_body r11 _ (hG.own hF hO) hr11) fun r11 hr11 => ?_
 refine cl c_64 rfl (fun r13 w hr13 hO => zf8 x_trailers r13 _ (hG.own hF hO) (hO.sees (i := 0) rfl) hc0 hr13) fun r13 hr13 => ?_
 refine br rfl (fun hc16 => ?_) fun hc16 => ?_
 exact rt Tryz.results35 rfl
 refine bi rfl fun s19 hs19 => ?_
 exact rt Tryz.results35 rfl
 rw [zfL] at hm
 refine S.co tb ?_ hf hO hm
 refine br rfl (fun hc27 => ?_) fun hc27 => ?_
 exact rt Tryz.results35 rfl
 refine rw_ rfl fun a w hf hO hm => ?_
 obtain ⟨r30, hr30, hm⟩ := ob hm
 have hch31 := (show Dk.Own w0 [] _ ([.blk b21 [int i23, str s24, .bool t25] 167] ++ [.shr x_trailers_p0 (cells za x_trailers)]) from hO)
 have hfar31 := Dk.Own.far hch31 rfl hF hG.size
 have hlend31 := hch31.lend (S := []) rfl trivial
 have hcl31 := zg2 (⟨i23, s24, t25⟩ : enchunk_Encoder) x_body r30 _ (hG.own hF hO) hfar31 hlend31 hr30
 refine zg (zi c_63 hf (vs := [ptr b21 0, str x_body]) rfl) rfl hf rfl rfl (hcl31) ?_
 rintro e w' ⟨he, hO'⟩
 refine ⟨_, he, fun a hf => ?_⟩
 have hO := hch31.back rfl hO' rfl
 refine S.op tb ?_ hf hO hm
 refine rw_ rfl fun a w hf hO hm => ?_
 obtain ⟨r33, hr33, hm⟩ := ob hm
 have hch34 := (show Dk.Own w0 [] _ ([.blk b21 [int r30.2.2.f_size, str r30.2.2.f_buf, .bool r30.2.2.f_done] 167] ++ [.shr x_trailers_p0 (cells za x_trailers)]) from hO)
 have hfar34 := Dk.Own.far hch34 rfl hF hG.size
 have hlend34 := hch34.lend (S := [.shr x_trailers_p0 (cells za x_trailers)]) rfl ⟨znZ (hO.sees (i := 1) rfl) (List.mem_of_getElem? (i := 0) rfl), trivial⟩
 have hcl34 := zg3 r30.2.2 x_trailers r33 _ (hG.own hF hO) hfar34 hlend34 hc0 hr33
 refine zg (zi c_64 hf (vs := [ptr b21 0, .slice x_trailers_p0 x_trailers.length x_trailers_c0]) rfl) rfl hf rfl rfl (hcl34) ?_
 rintro e w' ⟨he, hO'⟩
 refine ⟨_, he, fun a hf => ?_⟩
 have hO := hch34.back rfl hO' rfl
 refine S.op tb ?_ hf hO hm
 refine br rfl (fun hc37 => ?_) fun hc37 => ?_
 exact rt Tryz.results35 rfl
 refine bi rfl fun s40 hs40 => ?_
 exact rt Tryz.results35 rfl

end Go.Proofs
end
section
set_option linter.unusedVariables false
set_option maxHeartbeats 1000000
set_option linter.unusedSimpArgs false
set_option maxRecDepth 100000
namespace Go.Proofs
open Go.Dk Go.Dm Go.RowKit

theorem zjB (x_method : Str) (x_m : api_Message) (x_limit : Int) (x_size : Int) (R : Str × Int) (w0 : World) (hG : zH w0) {x_m_p0 : Option Addr} {x_m_c0 : Nat} (hs0 : zw w0 x_m_p0 (cells za x_m.Head.Fields)) (hc0 : x_m.Head.Fields.length ≤ x_m_c0) {x_m_p1 : Option Addr} {x_m_c1 : Nat} (hs1 : zw w0 x_m_p1 (cells za x_m.Trailers)) (hc1 : x_m.Trailers.length ≤ x_m_c1) (hm : zgf x_method x_m x_limit x_size = some R) :
    Calls Tryz.prog 17 #[str x_method, .agg #[int x_m.Head.Kind, str x_m.Head.Method, str x_m.Head.Target, int x_m.Head.Code, str x_m.Head.Reason, int x_m.Head.Minor, .slice x_m_p0 x_m.Head.Fields.length x_m_c0, int x_m.Frame.Kind, int x_m.Frame.N, str x_m.Body, .slice x_m_p1 x_m.Trailers.length x_m_c1], int x_limit, int x_size] w0 (Ret w0 (fun R => .tuple #[str R.1, int R.2]) R) := by
 rw [zgf] at hm
 have hF : zo [] := zf
 have hO : Dk.Own w0 [] w0 [] := Dk.Own.refl w0
 have hO := hO.addShr hs0 (by simp [Res.shared])
 have hO := hO.addShr hs1 (by simp [Res.shared])
 refine S.enter tb Tryz.func17 rfl Tryz.ntmps17 rfl ?_ hO hm
 refine bo rfl fun b1 => ?_
 refine ld 0 rfl rfl ?_
 refine cl c_19 rfl (fun r3 w hr3 hO => zjv x_method x_m r3 _ (hG.own hF hO) (hO.sees (i := 2) rfl) hc0 (hO.sees (i := 1) rfl) hc1 hr3) fun r3 hr3 => ?_
 refine br rfl (fun hc6 => ?_) fun hc6 => ?_
 exact rt Tryz.results17 rfl
 refine ld 0 rfl rfl ?_
 refine cl c_34 rfl (fun r9 w hr9 hO => zkR x_m.Head x_limit r9 _ (hG.own hF hO) (hO.sees (i := 2) rfl) hc0 hr9) fun r9 hr9 => ?_
 refine br rfl (fun hc12 => ?_) fun hc12 => ?_
 exact rt Tryz.results17 rfl
 refine ld 0 rfl rfl ?_
 refine jv 0 [11] [0, 1, 2] (fun J E L => ∃ (i19 : Int) (s20 : Str), J ((12, int i19) :: (13, str s20) :: E) (L) (zdd r9 i19 s20)) rfl ?_ ?_
 refine ld 0 rfl rfl ?_
 refine br rfl (fun hc17 => ?_) fun hc17 => ?_
 refine ld 0 rfl rfl ?_
 refine ld 0 rfl rfl ?_
 refine cl c_35 rfl (fun r18 w hr18 hO => zku x_size x_m.Body x_m.Trailers r18 _ (hG.own hF hO) (hO.sees (i := 1) rfl) hc1 hr18) fun r18 hr18 => ?_
 exact en rfl fun _ _ j => ⟨r18.2, r18.1, j rfl⟩
 exact en rfl fun _ _ j => ⟨r9.2, x_m.Body, j rfl⟩
 rintro a w ⟨i19, s20, hf, hO, hm⟩
 rw [zdd] at hm
 refine S.co tb ?_ hf hO hm
 refine br rfl (fun hc22 => ?_) fun hc22 => ?_
 exact rt Tryz.results17 rfl
 refine bi rfl fun s25 hs25 => ?_
 exact rt Tryz.results17 rfl

theorem ziI (x_code : Int) (R : Str) (w0 : World) (hG : zH w0) (hm : zdS x_code = some R) :
    Calls Tryz.prog 14 #[int x_code] w0 (Ret w0 (fun R => str R) R) := by
 rw [zdS] at hm
 have hF : zo [] := zf
 have hO : Dk.Own w0 [] w0 [] := Dk.Own.refl w0
 refine S.enter tb Tryz.func14 rfl Tryz.ntmps14 rfl ?_ hO hm
 refine rw_ rfl fun a w hf hO hm => ?_
 obtain ⟨r2, hr2, hm⟩ := ob hm
 refine zg (zi c_23 hf (vs := [int x_code]) rfl) rfl hf rfl rfl (ziF x_code r2 _ (hG.own hF hO).1 hr2) ?_
 rintro e w' ⟨p3, c4, p5, c6, he, hO'⟩
 refine ⟨_, he, fun a hf => ?_⟩
 have hO := hO.call hO' (by simp [Res.shared])
 refine S.op tb ?_ hf hO hm
 refine al zkD rfl fun b7 => ?_
 refine nl 107 2 ?_
 refine nl 107 2 ?_
 refine st 2 rfl rfl ?_
 refine br rfl (fun hc10 => ?_) fun hc10 => ?_
 exact rt Tryz.results14 rfl
 refine ld 2 rfl rfl ?_
 refine cl c_17 rfl (fun r13 w hr13 hO => zjB [71, 69, 84] r2.1 65536 1 r13 _ (hG.own hF hO) (hO.rowSees (i := 3) rfl) (hO.rowCap (i := 3) rfl) (hO.rowSees (i := 4) rfl) (hO.rowCap (i := 4) rfl) hr13) fun r13 hr13 => ?_
 exact rt Tryz.results14 rfl

theorem zky (R : Bool) (w0 : World) (hG : zH w0) (hm : zf5 = some R) :
    Calls Tryz.prog 11 #[] w0 (Ret w0 (fun R => .bool R) R) := by
 rw [zf5] at hm
 have hF : zo [] := zf
 have hO : Dk.Own w0 [] w0 [] := Dk.Own.refl w0
 refine S.enter tb Tryz.func11 rfl Tryz.ntmps11 rfl ?_ hO hm
 refine cl c_14 rfl (fun r2 w hr2 hO => ziI 502 r2 _ (hG.own hF hO) hr2) fun r2 hr2 => ?_
 exact rt Tryz.results11 rfl

theorem zlG (x_kind : Int) (x_limit : Int) (R : Option accum_Accum × Int) (w0 : World) (hG : zt w0) (hm : zhR x_kind x_limit = some R) :
    Calls Tryz.prog 45 #[int x_kind, int x_limit] w0 fun e w' => zjj R.1 (e = .returned (.tuple #[.pointer none, int R.2]) ∧ Below w0.heap.size w0 w') (fun x => ∃ (b0 : Nat) (p1 : Option Addr) (c1 : Nat) (p2 : Option Addr) (c2 : Nat), e = .returned (.tuple #[ptr b0 0, int R.2]) ∧ Dk.Own w0 [] w' [.blk b0 [int x.f_kind, int x.f_limit, .slice p1 x.f_buf.length c1, int x.f_from, .bool x.f_took, int x.f_bad, .bool x.f_whole, int x.f_got.Kind, str x.f_got.Method, str x.f_got.Target, int x.f_got.Code, str x.f_got.Reason, int x.f_got.Minor, .slice p2 x.f_got.Fields.length c2] 143, .row (.slice p1 x.f_buf.length c1) 5 1 x.f_buf.length (cells zc x.f_buf), .row (.slice p2 x.f_got.Fields.length c2) 107 2 x.f_got.Fields.length (cells za x.f_got.Fields)]) := by
 rw [zhR] at hm
 have hF : zo [] := zf
 have hO : Dk.Own w0 [] w0 [] := Dk.Own.refl w0
 refine S.enter tb Tryz.func45 rfl Tryz.ntmps45 rfl ?_ hO hm
 refine jv 1 [0, 1] [] (fun J E L => ∃ (t6 : Bool), J ((19, .bool t6) :: E) (L) (zca x_kind x_limit t6)) rfl ?_ ?_
 refine br rfl (fun hc2 => ?_) fun hc2 => ?_
 refine br rfl (fun hc3 => ?_) fun hc3 => ?_
 exact en rfl fun _ _ j => ⟨true, j rfl⟩
 refine br rfl (fun hc4 => ?_) fun hc4 => ?_
 exact en rfl fun _ _ j => ⟨true, j rfl⟩
 exact en rfl fun _ _ j => ⟨decide (65536 < x_limit), j rfl⟩
 refine br rfl (fun hc5 => ?_) fun hc5 => ?_
 exact en rfl fun _ _ j => ⟨true, j rfl⟩
 exact en rfl fun _ _ j => ⟨decide (65536 < x_limit), j rfl⟩
 rintro a w ⟨t6, hf, hO, hm⟩
 rw [zca] at hm
 refine S.co tb ?_ hf hO hm
 refine br rfl (fun hc7 => ?_) fun hc7 => ?_
 refine re_ rfl fun a w hf hO hm => ?_
 obtain rfl := Option.some.inj hm
 exact zb Tryz.results45 hf (.tmp rfl (.tmp rfl .nil)) ⟨rfl, hO.below⟩
 refine vl rfl rfl (fun a w hf hO => zl (vs := [(0, int x_kind), (1, int x_limit)]) (v := .agg #[int x_kind, int x_limit, .slice none 0 0, int 0, .bool false, int 0, .bool false, int 0, str [], str [], int 0, str [], int 0, .slice none 0 0]) hf rfl (by kernel_rfl)) ?_
 refine bo rfl fun b10 => ?_
 refine nl 5 1 ?_
 refine nl 107 2 ?_
 refine re_ rfl fun a w hf hO hm => ?_
 obtain rfl := Option.some.inj hm
 exact zb Tryz.results45 hf (.tmp rfl (.tmp rfl .nil)) ⟨b10, none, 0, none, 0, rfl, (hO.choose [2, 1, 0] rfl)⟩

theorem zie (x_a : accum_Accum) (R : Bool) (w0 : World) (hG : zt w0) {x_a_b0 : Nat} {x_a_p1 : Option Addr} {x_a_c1 : Nat} {x_a_p2 : Option Addr} {x_a_c2 : Nat} (hs0 : zw w0 (some ⟨x_a_b0, 0, none⟩) [int x_a.f_kind, int x_a.f_limit, .slice x_a_p1 x_a.f_buf.length x_a_c1, int x_a.f_from, .bool x_a.f_took, int x_a.f_bad, .bool x_a.f_whole, int x_a.f_got.Kind, str x_a.f_got.Method, str x_a.f_got.Target, int x_a.f_got.Code, str x_a.f_got.Reason, int x_a.f_got.Minor, .slice x_a_p2 x_a.f_got.Fields.length x_a_c2]) (hs1 : zw w0 x_a_p1 (cells zc x_a.f_buf)) (hc1 : x_a.f_buf.length ≤ x_a_c1) (hs2 : zw w0 x_a_p2 (cells za x_a.f_got.Fields)) (hc2 : x_a.f_got.Fields.length ≤ x_a_c2) (hm : zeK x_a = some R) :
    Calls Tryz.prog 111 #[ptr x_a_b0 0] w0 (Ret w0 (fun R => .bool R) R) := by
 rw [zeK] at hm
 have hF : zo [] := zf
 have hO : Dk.Own w0 [] w0 [] := Dk.Own.refl w0
 have hO := hO.addShr hs0 (by simp [Res.shared])
 have hO := hO.addShr hs1 (by simp [Res.shared])
 have hO := hO.addShr hs2 (by simp [Res.shared])
 refine S.enter tb Tryz.func111 rfl Tryz.ntmps111 rfl ?_ hO hm
 refine ld 2 rfl rfl ?_
 refine jv 0 [0, 3] [0, 1, 2] (fun J E L => ∃ (t8 : Bool), J ((4, .bool t8) :: E) (L) (zbF x_a t8)) rfl ?_ ?_
 refine br rfl (fun hc3 => ?_) fun hc3 => ?_
 refine ld 2 rfl rfl ?_
 refine bi rfl fun i4 hi4 => ?_
 refine rw_ rfl fun a w hf hO hm => ?_
 obtain ⟨x5, hx5, hm⟩ := ob hm
 obtain ⟨b6, o7, hix5, hSx5⟩ := zd3 (enc := zc) (sz := 1) (xs := x_a.f_buf) 141 Tryz.underlying141 sz_5 (by decide) (fun _ => rfl) (hO.sees (i := 1) rfl) hx5
 refine zaS (zy hix5 hf rfl rfl) rfl hf rfl rfl fun a hf => ?_
 refine S.op tb ?_ hf hO hm
 refine kn (b' := true) hc3 rfl ?_
 refine vl rfl rfl (fun a w hf hO => zk (o := 0) ag_5 (hSx5 _ (hO.sees (i := 1) rfl)) rfl hf rfl) ?_
 refine vl rfl rfl (fun a w hf hO => zaQ (b := x5) (c := 13) hf rfl rfl) ?_
 exact en rfl fun _ _ j => ⟨x5 == 13, j rfl⟩
 exact en rfl fun _ _ j => ⟨false, j rfl⟩
 rintro a w ⟨t8, hf, hO, hm⟩
 rw [zbF] at hm
 refine S.co tb ?_ hf hO hm
 refine ld 2 rfl rfl ?_
 refine bi rfl fun i9 hi9 => ?_
 refine rw_ rfl fun a w hf hO hm => ?_
 obtain ⟨x10, hx10, hm⟩ := ob hm
 obtain ⟨b11, o12, hix10, hSx10⟩ := zd3 (enc := zc) (sz := 1) (xs := x_a.f_buf) 141 Tryz.underlying141 sz_5 (by decide) (fun _ => rfl) (hO.sees (i := 1) rfl) hx10
 refine zaS (zy hix10 hf rfl rfl) rfl hf rfl rfl fun a hf => ?_
 refine S.op tb ?_ hf hO hm
 refine vl rfl rfl (fun a w hf hO => zk (o := 0) ag_5 (hSx10 _ (hO.sees (i := 1) rfl)) rfl hf rfl) ?_
 refine vl rfl rfl (fun a w hf hO => zaQ (b := x10) (c := 10) hf rfl rfl) ?_
 refine vl rfl rfl (fun a w hf hO => zkb Tryz.underlying4 hf rfl rfl) ?_
 exact rt Tryz.results111 rfl

theorem zex (x_c : scan_Scanner) (R : Str × scan_Scanner) (w0 : World) (hG : zt w0) {x_c_b0 : Nat} {F : List Nat} (hF : zo F) (hO : Dk.Own w0 F w0 [.blk x_c_b0 [str x_c.f_s, int x_c.f_at] 289]) (hm : zbG x_c = some R) :
    Calls Tryz.prog 204 #[ptr x_c_b0 0] w0 fun e w' => e = .returned (str R.1) ∧ Dk.Own w0 F w' [.blk x_c_b0 [str R.2.f_s, int R.2.f_at] 289] := by
 rw [zbG] at hm
 refine S.enter tb Tryz.func204 rfl Tryz.ntmps204 rfl ?_ hO hm
 refine rw_ rfl fun a w hf hO hm => ?_
 obtain ⟨r2, hr2, hm⟩ := ob hm
 have hch3 := (show Dk.Own w0 F _ ([.blk x_c_b0 [str x_c.f_s, int x_c.f_at] 289] ++ []) from hO)
 have hfar3 := Dk.Own.far hch3 rfl hF hG.size
 have hlend3 := hch3.lend (S := []) rfl trivial
 have hcl3 := zaD x_c zdx r2 _ (hG.own hF hO) hfar3 hlend3 c_131 (fun y0 r w hG h => zdN (zgY y0 r w hG h)) hr2
 refine zg (zi zlx hf (vs := [ptr x_c_b0 0, .func (.func 131) #[] #[]]) rfl) rfl hf rfl rfl (hcl3) ?_
 rintro e w' ⟨he, hO'⟩
 refine ⟨_, he, fun a hf => ?_⟩
 have hO := hch3.back rfl hO' rfl
 refine S.op tb ?_ hf hO hm
 refine re_ rfl fun a w hf hO hm => ?_
 obtain rfl := Option.some.inj hm
 exact zb Tryz.results204 hf (.tmp rfl .nil) ⟨rfl, hO⟩

theorem zd5 (x_s : Str) (R : api_Field × Int) (w0 : World) (hG : zt w0) (hm : zcm x_s = some R) :
    Calls Tryz.prog 156 #[str x_s] w0 (Ret w0 (fun R => .tuple #[.agg #[str R.1.Name, str R.1.Value], int R.2]) R) := by
 rw [zcm] at hm
 have hF : zo [] := zf
 have hO : Dk.Own w0 [] w0 [] := Dk.Own.refl w0
 refine S.enter tb Tryz.func156 rfl Tryz.ntmps156 rfl ?_ hO hm
 refine al zid rfl fun b1 => ?_
 refine cl c_119 rfl (fun r3 w hr3 hO => zev x_s [13, 10] r3 _ (hG.own hF hO) hr3) fun r3 hr3 => ?_
 refine br rfl (fun hc5 => ?_) fun hc5 => ?_
 refine vl rfl rfl (fun a w hf hO => zl (vs := []) (v := .agg #[str [], str []]) hf rfl (by kernel_rfl)) ?_
 refine st 0 rfl rfl ?_
 refine re_ rfl fun a w hf hO hm => ?_
 obtain rfl := Option.some.inj hm
 exact zb Tryz.results156 hf (.cell rfl (ze (n := 2) (vs := [str [], str []]) zcK za7 rfl ((hO.blkSees (i := 0) rfl).cells (o := 0) (n := 2) rfl)) (.tmp rfl .nil)) ⟨rfl, hO.below⟩
 refine rw_ rfl fun a w hf hO hm => ?_
 obtain ⟨r8, hr8, hm⟩ := ob hm
 refine zg (zi zkE hf (vs := [str x_s]) rfl) rfl hf rfl rfl (zeD x_s r8 _ (hG.own hF hO) hr8) ?_
 rintro e w' ⟨b9, he, hO'⟩
 refine ⟨_, he, fun a hf => ?_⟩
 have hO := hO.call hO' (by simp [Res.shared])
 refine S.op tb ?_ hf hO hm
 refine rw_ rfl fun a w hf hO hm => ?_
 obtain ⟨r11, hr11, hm⟩ := ob hm
 have hch12 := (show Dk.Own w0 [] _ ([.blk b9 [str r8.f_s, int r8.f_at] 289] ++ [.blk b1 [str [], str []] 107]) from hO)
 have hfar12 := Dk.Own.far hch12 rfl hF hG.size
 have hlend12 := hch12.lend (S := []) rfl trivial
 have hcl12 := zex r8 r11 _ (hG.own hF hO) hfar12 hlend12 hr11
 refine zg (zi c_204 hf (vs := [ptr b9 0]) rfl) rfl hf rfl rfl (hcl12) ?_
 rintro e w' ⟨he, hO'⟩
 refine ⟨_, he, fun a hf => ?_⟩
 have hO := hch12.back rfl hO' rfl
 refine S.op tb ?_ hf hO hm
 refine br rfl (fun hc14 => ?_) fun hc14 => ?_
 refine vl rfl rfl (fun a w hf hO => zl (vs := []) (v := .agg #[str [], str []]) hf rfl (by kernel_rfl)) ?_
 refine st 1 rfl rfl ?_
 refine re_ rfl fun a w hf hO hm => ?_
 obtain rfl := Option.some.inj hm
 exact zb Tryz.results156 hf (.cell rfl (ze (n := 2) (vs := [str [], str []]) zcK za7 rfl ((hO.blkSees (i := 1) rfl).cells (o := 0) (n := 2) rfl)) (.tmp rfl .nil)) ⟨rfl, hO.below⟩
 refine rw_ rfl fun a w hf hO hm => ?_
 obtain ⟨r17, hr17, hm⟩ := ob hm
 have hch18 := (show Dk.Own w0 [] _ ([.blk b9 [str r11.2.f_s, int r11.2.f_at] 289] ++ [.blk b1 [str [], str []] 107]) from hO)
 have hfar18 := Dk.Own.far hch18 rfl hF hG.size
 have hlend18 := hch18.lend (S := []) rfl trivial
 have hcl18 := zbo r11.2 r17 _ (hG.own hF hO) hfar18 hlend18 hr17
 refine zg (zi zmx hf (vs := [ptr b9 0]) rfl) rfl hf rfl rfl (hcl18) ?_
 rintro e w' ⟨he, hO'⟩
 refine ⟨_, he, fun a hf => ?_⟩
 have hO := hch18.back rfl hO' rfl
 refine S.op tb ?_ hf hO hm
 refine rw_ rfl fun a w hf hO hm => ?_
 obtain ⟨r20, hr20, hm⟩ := ob hm
 have hch21 := (show Dk.Own w0 [] _ ([.blk b9 [str r17.2.2.f_s, int r17.2.2.f_at] 289] ++ [.blk b1 [str [], str []] 107]) from hO)
 have hfar21 := Dk.Own.far hch21 rfl hF hG.size
 have hlend21 := hch21.lend (S := []) rfl trivial
 have hcl21 := zex r17.2.2 r20 _ (hG.own hF hO) hfar21 hlend21 hr20
 refine zg (zi c_204 hf (vs := [ptr b9 0]) rfl) rfl hf rfl rfl (hcl21) ?_
 rintro e w' ⟨he, hO'⟩
 refine ⟨_, he, fun a hf => ?_⟩
 have hO := hch21.back rfl hO' rfl
 refine S.op tb ?_ hf hO hm
 refine jv 2 [2, 4, 5, 7] [1] (fun J E L => ∃ (t26 : Bool) (s27 : Str) (i28 : Int), J ((24, .bool t26) :: E) (.blk b9 [str s27, int i28] 289 :: L) (zcb r17 r20 t26 s27 i28)) rfl ?_ ?_
 refine br rfl (fun hc23 => ?_) fun hc23 => ?_
 exact en rfl fun _ _ j => ⟨true, r20.2.f_s, r20.2.f_at, j rfl⟩
 refine rw_ rfl fun a w hf hO hm => ?_
 obtain ⟨r24, hr24, hm⟩ := ob hm
 have hch25 := (show Dk.Own w0 [] _ ([.blk b9 [str r20.2.f_s, int r20.2.f_at] 289] ++ [.blk b1 [str [], str []] 107]) from hO)
 have hfar25 := Dk.Own.far hch25 rfl hF hG.size
 have hlend25 := hch25.lend (S := []) rfl trivial
 have hcl25 := zq r20.2 58 r24 _ (hG.own hF hO) hfar25 hlend25 hr24
 refine zg (zi zet hf (vs := [ptr b9 0, zB 58]) rfl) rfl hf rfl rfl (hcl25) ?_
 rintro e w' ⟨he, hO'⟩
 refine ⟨_, he, fun a hf => ?_⟩
 have hO := hch25.back rfl hO' rfl
 refine S.op tb ?_ hf hO hm
 refine kn (b' := false) hc23 rfl ?_
 exact en rfl fun _ _ j => ⟨!r24.1, r24.2.f_s, r24.2.f_at, j rfl⟩
 rintro a w ⟨t26, s27, i28, hf, hO, hm⟩
 rw [zcb] at hm
 refine S.co tb ?_ hf hO hm
 refine br rfl (fun hc29 => ?_) fun hc29 => ?_
 refine vl rfl rfl (fun a w hf hO => zl (vs := []) (v := .agg #[str [], str []]) hf rfl (by kernel_rfl)) ?_
 refine st 1 rfl rfl ?_
 refine re_ rfl fun a w hf hO hm => ?_
 obtain rfl := Option.some.inj hm
 exact zb Tryz.results156 hf (.cell rfl (ze (n := 2) (vs := [str [], str []]) zcK za7 rfl ((hO.blkSees (i := 1) rfl).cells (o := 0) (n := 2) rfl)) (.tmp rfl .nil)) ⟨rfl, hO.below⟩
 refine br rfl (fun hc32 => ?_) fun hc32 => ?_
 refine vl rfl rfl (fun a w hf hO => zl (vs := []) (v := .agg #[str [], str []]) hf rfl (by kernel_rfl)) ?_
 refine st 1 rfl rfl ?_
 refine re_ rfl fun a w hf hO hm => ?_
 obtain rfl := Option.some.inj hm
 exact zb Tryz.results156 hf (.cell rfl (ze (n := 2) (vs := [str [], str []]) zcK za7 rfl ((hO.blkSees (i := 1) rfl).cells (o := 0) (n := 2) rfl)) (.tmp rfl .nil)) ⟨rfl, hO.below⟩
 refine cl zkF rfl (fun r34 w hr34 hO => zam (⟨s27, i28⟩ : scan_Scanner) r34 _ (hG.own hF hO) (hO.blkSees (i := 0) rfl) hr34) fun r34 hr34 => ?_
 refine rw_ rfl fun a w hf hO hm => ?_
 refine zu (vs := [(0, str r34)]) (cs := [str r34]) (e := 9) (sz := 1) hf rfl rfl (fun w => by kernel_rfl) rfl rfl hO fun a b35 w hf hO => ?_
 refine S.op tb ?_ hf hO hm
 refine cl zkQ rfl (fun r36 w hr36 hO => zbp zah ([r34] : List Str) r36 _ (hG.own hF hO) c_96 (fun y0 r w hG h => zdN (zce y0 r w hG h)) (hO.rowSees (i := 0) rfl) (hO.rowCap (i := 0) rfl) hr36) fun r36 hr36 => ?_
 refine br rfl (fun hc38 => ?_) fun hc38 => ?_
 refine vl rfl rfl (fun a w hf hO => zl (vs := []) (v := .agg #[str [], str []]) hf rfl (by kernel_rfl)) ?_
 refine st 2 rfl rfl ?_
 refine re_ rfl fun a w hf hO hm => ?_
 obtain rfl := Option.some.inj hm
 exact zb Tryz.results156 hf (.cell rfl (ze (n := 2) (vs := [str [], str []]) zcK za7 rfl ((hO.blkSees (i := 2) rfl).cells (o := 0) (n := 2) rfl)) (.tmp rfl .nil)) ⟨rfl, hO.below⟩
 refine cl zkF rfl (fun r41 w hr41 hO => zam (⟨s27, i28⟩ : scan_Scanner) r41 _ (hG.own hF hO) (hO.blkSees (i := 1) rfl) hr41) fun r41 hr41 => ?_
 refine cl c_97 rfl (fun r42 w hr42 hO => zfD r41 [32, 9] r42 _ (hG.own hF hO) hr42) fun r42 hr42 => ?_
 refine vl rfl rfl (fun a w hf hO => zl (vs := [(0, str r17.1), (1, str r42)]) (v := .agg #[str r17.1, str r42]) hf rfl (by kernel_rfl)) ?_
 refine st 2 rfl rfl ?_
 refine re_ rfl fun a w hf hO hm => ?_
 obtain rfl := Option.some.inj hm
 exact zb Tryz.results156 hf (.cell rfl (ze (n := 2) (vs := [str r17.1, str r42]) zcK za7 rfl ((hO.blkSees (i := 2) rfl).cells (o := 0) (n := 2) rfl)) (.tmp rfl .nil)) ⟨rfl, hO.below⟩

theorem zkY (x_a0 : Int) (x_a1 : Str) (x_a2 : Int) (R : api_Head × Int) (w0 : World) (hG : zH w0) (hm : zis x_a0 x_a1 x_a2 = some R) :
    Calls Tryz.prog 157 #[int x_a0, str x_a1, int x_a2] w0 fun e w' => ∃ (p0 : Option Addr) (c0 : Nat), e = .returned (.tuple #[.agg #[int R.1.Kind, str R.1.Method, str R.1.Target, int R.1.Code, str R.1.Reason, int R.1.Minor, .slice p0 R.1.Fields.length c0], int R.2]) ∧ Dk.Own w0 [] w' [.row (.slice p0 R.1.Fields.length c0) 107 2 R.1.Fields.length (cells za R.1.Fields)] := by
 rw [zis] at hm
 have hF : zo [] := zf
 have hO : Dk.Own w0 [] w0 [] := Dk.Own.refl w0
 refine S.enter tb Tryz.func157 rfl Tryz.ntmps157 rfl ?_ hO hm
 refine al zfR rfl fun b1 => ?_
 refine nl 107 2 ?_
 refine rw_ rfl fun a w hf hO hm => ?_
 obtain ⟨r3, hr3, hm⟩ := ob hm
 refine zg (zi c_88 hf (vs := [int x_a0, str []]) rfl) rfl hf rfl rfl (zcB x_a0 [] r3 _ (hG.own hF hO) hr3) ?_
 rintro e w' ⟨p4, c5, he, hO'⟩
 refine ⟨_, he, fun a hf => ?_⟩
 have hO := hO.call hO' (by simp [Res.shared])
 refine S.op tb ?_ hf hO hm
 refine al zfR rfl fun b6 => ?_
 refine nl 107 2 ?_
 refine st 1 rfl rfl ?_
 refine br rfl (fun hc9 => ?_) fun hc9 => ?_
 refine vl rfl rfl (fun a w hf hO => zl (vs := []) (v := .agg #[int 0, str [], str [], int 0, str [], int 0, .slice none 0 0]) hf rfl (by kernel_rfl)) ?_
 refine st 4 rfl rfl ?_
 refine nl 107 2 ?_
 refine re_ rfl fun a w hf hO hm => ?_
 obtain rfl := Option.some.inj hm
 exact zb Tryz.results157 hf (.cell rfl (ze (n := 7) (vs := [int 0, str [], str [], int 0, str [], int 0, .slice none 0 0]) zdq zdf rfl ((hO.blkSees (i := 5) rfl).cells (o := 0) (n := 7) rfl)) (.tmp rfl .nil)) ⟨none, 0, rfl, (hO.sub (.cons_cons _ (.cons _ (.cons _ (.cons _ (.cons _ (.cons _ .slnil)))))))⟩
 refine cl c_205 rfl (fun r12 w hr12 hO => zfe x_a1 [13, 10, 13, 10] r12 _ (hG.own hF hO).1 hr12) fun r12 hr12 => ?_
 refine br rfl (fun hc15 => ?_) fun hc15 => ?_
 refine vl rfl rfl (fun a w hf hO => zl (vs := []) (v := .agg #[int 0, str [], str [], int 0, str [], int 0, .slice none 0 0]) hf rfl (by kernel_rfl)) ?_
 refine st 4 rfl rfl ?_
 refine nl 107 2 ?_
 refine re_ rfl fun a w hf hO hm => ?_
 obtain rfl := Option.some.inj hm
 exact zb Tryz.results157 hf (.cell rfl (ze (n := 7) (vs := [int 0, str [], str [], int 0, str [], int 0, .slice none 0 0]) zdq zdf rfl ((hO.blkSees (i := 5) rfl).cells (o := 0) (n := 7) rfl)) (.tmp rfl .nil)) ⟨none, 0, rfl, (hO.sub (.cons_cons _ (.cons _ (.cons _ (.cons _ (.cons _ (.cons _ .slnil)))))))⟩
 refine jv 2 [0, 1, 6, 10] [0, 1, 2, 3, 4] (fun J E L => ∃ (t19 : Bool), J ((36, .bool t19) :: E) (L) (ze2 x_a0 x_a1 r12 t19)) rfl ?_ ?_
 refine br rfl (fun hc17 => ?_) fun hc17 => ?_
 exact en rfl fun _ _ j => ⟨true, j rfl⟩
 refine bi rfl fun i18 hi18 => ?_
 exact en rfl fun _ _ j => ⟨!(i18 == (x_a1.length : Int)), j rfl⟩
 rintro a w ⟨t19, hf, hO, hm⟩
 rw [ze2] at hm
 refine S.co tb ?_ hf hO hm
 refine br rfl (fun hc20 => ?_) fun hc20 => ?_
 refine vl rfl rfl (fun a w hf hO => zl (vs := []) (v := .agg #[int 0, str [], str [], int 0, str [], int 0, .slice none 0 0]) hf rfl (by kernel_rfl)) ?_
 refine st 4 rfl rfl ?_
 refine nl 107 2 ?_
 refine re_ rfl fun a w hf hO hm => ?_
 obtain rfl := Option.some.inj hm
 exact zb Tryz.results157 hf (.cell rfl (ze (n := 7) (vs := [int 0, str [], str [], int 0, str [], int 0, .slice none 0 0]) zdq zdf rfl ((hO.blkSees (i := 5) rfl).cells (o := 0) (n := 7) rfl)) (.tmp rfl .nil)) ⟨none, 0, rfl, (hO.sub (.cons_cons _ (.cons _ (.cons _ (.cons _ (.cons _ (.cons _ .slnil)))))))⟩
 refine bi rfl fun s23 hs23 => ?_
 refine rw_ rfl fun a w hf hO hm => ?_
 obtain ⟨r24, hr24, hm⟩ := ob hm
 refine zg (zi c_206 hf (vs := [str s23, str [13, 10]]) rfl) rfl hf rfl rfl (zgV s23 [13, 10] r24 _ (hG.own hF hO).1 hr24) ?_
 rintro e w' ⟨p25, c26, he, hO'⟩
 refine ⟨_, he, fun a hf => ?_⟩
 have hO := hO.call hO' (by simp [Res.shared])
 refine S.op tb ?_ hf hO hm
 refine rw_ rfl fun a w hf hO hm => ?_
 obtain ⟨x28, hx28, hm⟩ := ob hm
 obtain ⟨b29, o30, hix28, hSx28, hAx28⟩ := zdY (enc := zh) (sz := 1) (xs := r24) 61 Tryz.underlying61 zhS (by decide) (fun _ => rfl) hO (i := 0) rfl hx28
 refine zaS (zy hix28 hf rfl rfl) rfl hf rfl rfl fun a hf => ?_
 refine S.op tb ?_ hf hO hm
 refine vl rfl rfl (fun a w hf hO => zk (o := 0) zbC (hSx28 _ (hO.rowSees (i := 0) rfl)) rfl hf rfl) ?_
 refine rw_ rfl fun a w hf hO hm => ?_
 obtain ⟨r31, hr31, hm⟩ := ob hm
 refine zg (zi c_88 hf (vs := [int x_a0, str x28]) rfl) rfl hf rfl rfl (zcB x_a0 x28 r31 _ (hG.own hF hO) hr31) ?_
 rintro e w' ⟨p32, c33, he, hO'⟩
 refine ⟨_, he, fun a hf => ?_⟩
 have hO := hO.call hO' (by simp [Res.shared])
 refine S.op tb ?_ hf hO hm
 refine al zfR rfl fun b34 => ?_
 refine nl 107 2 ?_
 refine st 1 rfl rfl ?_
 refine br rfl (fun hc37 => ?_) fun hc37 => ?_
 refine vl rfl rfl (fun a w hf hO => zl (vs := []) (v := .agg #[int 0, str [], str [], int 0, str [], int 0, .slice none 0 0]) hf rfl (by kernel_rfl)) ?_
 refine st 8 rfl rfl ?_
 refine nl 107 2 ?_
 refine re_ rfl fun a w hf hO hm => ?_
 obtain rfl := Option.some.inj hm
 exact zb Tryz.results157 hf (.cell rfl (ze (n := 7) (vs := [int 0, str [], str [], int 0, str [], int 0, .slice none 0 0]) zdq zdf rfl ((hO.blkSees (i := 9) rfl).cells (o := 0) (n := 7) rfl)) (.tmp rfl .nil)) ⟨none, 0, rfl, (hO.sub (.cons_cons _ (.cons _ (.cons _ (.cons _ (.cons _ (.cons _ (.cons _ (.cons _ (.cons _ (.cons _ .slnil)))))))))))⟩
 refine jv 0 [6, 12] [0, 4, 5, 6, 7, 8] (fun J E L => ∃ (i75 : Int) (s76 : Str) (s77 : Str) (i78 : Int) (s79 : Str) (i80 : Int) (p81 : Option Addr) (c82 : Nat) (l83 : List api_Field), J (E) (.blk b34 [int i75, str s76, str s77, int i78, str s79, int i80, .slice p81 l83.length c82] 31 :: .row (.slice p81 l83.length c82) 107 2 l83.length (cells za l83) :: .shr p25 (cells zh r24) :: L) (zgg i75 s76 s77 i78 s79 i80 l83)) rfl ?_ ?_
 refine rw_ rfl fun a w hf hO hm => ?_
 obtain ⟨l41, hl41, hm⟩ := ob hm
 have hcr40 := hO.rowCap (i := 3) rfl
 have hO := hO.giveRow (i := 3) rfl
 obtain ⟨p42, c43, hrl41, hVl41, hCl41, hPl41⟩ := zmQ (enc := zh) (xs := r24) 61 Tryz.underlying61 zhS (fun _ => rfl) (hO.sees (i := 3) rfl) hcr40 hl41
 have hO := hO.share (i := 3) rfl hPl41 (hVl41 _ (hO.sees (i := 3) rfl))
 refine zaS (zkX Tryz.underlying61 hrl41 hf rfl rfl) rfl hf rfl rfl fun a hf => ?_
 refine S.op tb ?_ hf hO hm
 refine ch [2, 3, 0, 1, 4, 5, 6, 7, 8, 9] rfl rfl ?_
 refine lv [6, 12, 64, 65] [2, 3, 4, 5, 6, 7, 8, 9] (fun J E L k => ∃ (i45 : Int) (s46 : Str) (s47 : Str) (i48 : Int) (s49 : Str) (i50 : Int) (p51 : Option Addr) (c52 : Nat) (l53 : List api_Field) (i54 : Int), J ((66, int i54) :: E) (.blk b34 [int i45, str s46, str s47, int i48, str s49, int i50, .slice p51 l53.length c52] 31 :: .row (.slice p51 l53.length c52) 107 2 l53.length (cells za l53) :: L) (zdA l41 k i45 s46 s47 i48 s49 i50 l53 i54)) rfl (fun _ _ j => ⟨r31.1.Kind, r31.1.Method, r31.1.Target, r31.1.Code, r31.1.Reason, r31.1.Minor, p32, c33, r31.1.Fields, 0, j rfl⟩) ?_
 rintro n2 a w ⟨i45, s46, s47, i48, s49, i50, p51, c52, l53, i54, hf, hO, hm⟩
 obtain _ | n2 := n2
 rw [zdA] at hm
 cases hm
 rw [zdA] at hm
 refine S.co tb ?_ hf hO hm
 refine br rfl (fun hc56 => ?_) fun hc56 => ?_
 refine rw_ rfl fun a w hf hO hm => ?_
 obtain ⟨x58, hx58, hm⟩ := ob hm
 obtain ⟨b59, o60, hix58, hSx58⟩ := zd3 (enc := zh) (sz := 1) (xs := l41) 61 Tryz.underlying61 zhS (by decide) (fun _ => rfl) (hO.sees (i := 2) rfl) hx58
 refine zaS (zy hix58 hf rfl rfl) rfl hf rfl rfl fun a hf => ?_
 refine S.op tb ?_ hf hO hm
 refine vl rfl rfl (fun a w hf hO => zk (o := 0) zbC (hSx58 _ (hO.sees (i := 2) rfl)) rfl hf rfl) ?_
 refine cl znO rfl (fun r62 w hr62 hO => zd5 x58 r62 _ (hG.own hF hO).1 hr62) fun r62 hr62 => ?_
 refine al zid rfl fun b63 => ?_
 refine st 0 rfl rfl ?_
 refine br rfl (fun hc66 => ?_) fun hc66 => ?_
 refine vl rfl rfl (fun a w hf hO => zl (vs := []) (v := .agg #[int 0, str [], str [], int 0, str [], int 0, .slice none 0 0]) hf rfl (by kernel_rfl)) ?_
 refine st 10 rfl rfl ?_
 refine nl 107 2 ?_
 refine re_ rfl fun a w hf hO hm => ?_
 obtain rfl := Option.some.inj hm
 exact zb Tryz.results157 hf (.cell rfl (ze (n := 7) (vs := [int 0, str [], str [], int 0, str [], int 0, .slice none 0 0]) zdq zdf rfl ((hO.blkSees (i := 11) rfl).cells (o := 0) (n := 7) rfl)) (.tmp rfl .nil)) ⟨none, 0, rfl, (hO.sub (.cons_cons _ (.cons _ (.cons _ (.cons _ (.cons _ (.cons _ (.cons _ (.cons _ (.cons _ (.cons _ (.cons _ (.cons _ .slnil)))))))))))))⟩
 refine ld 1 rfl rfl ?_
 refine ld 0 rfl rfl ?_
 refine rw_ rfl fun a w hf hO hm => ?_
 refine zu (vs := [(0, .agg #[str r62.1.Name, str r62.1.Value])]) (cs := [str r62.1.Name, str r62.1.Value]) (e := 107) (sz := 2) hf rfl rfl (fun w => by kernel_rfl) rfl rfl hO fun a b69 w hf hO => ?_
 refine S.op tb ?_ hf hO hm
 refine rw_ rfl fun a w hf hO hm => ?_
 obtain ⟨hg72, hm⟩ := og hm
 refine zbz zlk (enc := za) (xs := l53) (ys := [r62.1]) (i := 3) (fun _ => rfl) rfl (hO.rowSees (i := 0) rfl) (by simp [cells, za, Value.oneCell']) hg72 hf rfl rfl rfl hO fun a p70 c71 w hf hO => ?_
 refine S.op tb ?_ hf hO hm
 refine st 2 rfl rfl ?_
 refine bi rfl fun i74 hi74 => ?_
 exact ec [2, 3, 4, 5, 6, 7, 8, 9, 10, 11] rfl rfl rfl fun _ _ j => ⟨_, Nat.lt_succ_self _, i45, s46, s47, i48, s49, i50, p70, c71, l53 ++ [r62.1], i74, j rfl⟩
 exact ec [0, 1, 4, 3, 5, 6, 7, 8, 9] rfl rfl rfl fun _ _ j => ⟨i45, s46, s47, i48, s49, i50, p51, c52, l53, j rfl⟩
 rintro a w ⟨i75, s76, s77, i78, s79, i80, p81, c82, l83, hf, hO, hm⟩
 rw [zgg] at hm
 refine S.co tb ?_ hf hO hm
 refine ld 0 rfl rfl ?_
 refine cl c_70 rfl (fun r84 w hr84 hO => ziK (⟨i75, s76, s77, i78, s79, i80, l83⟩ : api_Head) r84 _ (hG.own hF hO) (hO.rowSees (i := 1) rfl) (hO.rowCap (i := 1) rfl) hr84) fun r84 hr84 => ?_
 refine br rfl (fun hc87 => ?_) fun hc87 => ?_
 refine vl rfl rfl (fun a w hf hO => zl (vs := []) (v := .agg #[int 0, str [], str [], int 0, str [], int 0, .slice none 0 0]) hf rfl (by kernel_rfl)) ?_
 refine st 8 rfl rfl ?_
 refine nl 107 2 ?_
 refine re_ rfl fun a w hf hO hm => ?_
 obtain rfl := Option.some.inj hm
 exact zb Tryz.results157 hf (.cell rfl (ze (n := 7) (vs := [int 0, str [], str [], int 0, str [], int 0, .slice none 0 0]) zdq zdf rfl ((hO.blkSees (i := 9) rfl).cells (o := 0) (n := 7) rfl)) (.tmp rfl .nil)) ⟨none, 0, rfl, (hO.sub (.cons_cons _ (.cons _ (.cons _ (.cons _ (.cons _ (.cons _ (.cons _ (.cons _ (.cons _ (.cons _ .slnil)))))))))))⟩
 refine ld 0 rfl rfl ?_
 refine st 8 rfl rfl ?_
 refine re_ rfl fun a w hf hO hm => ?_
 obtain rfl := Option.some.inj hm
 exact zb Tryz.results157 hf (.cell rfl (ze (n := 7) (vs := [int i75, str s76, str s77, int i78, str s79, int i80, .slice p81 l83.length c82]) zdq zdf rfl ((hO.blkSees (i := 8) rfl).cells (o := 0) (n := 7) rfl)) (.tmp rfl .nil)) ⟨p81, c82, rfl, (hO.sub (.cons _ (.cons_cons _ (.cons _ (.cons _ (.cons _ (.cons _ (.cons _ (.cons _ (.cons _ .slnil))))))))))⟩

theorem zif (x_a : accum_Accum) (x_s : Str) (R : Bool × Int × accum_Accum) (w0 : World) (hG : zH w0) {x_a_b0 : Nat} {x_a_p1 : Option Addr} {x_a_c1 : Nat} {x_a_p2 : Option Addr} {x_a_c2 : Nat} {F : List Nat} (hF : zo F) (hO : Dk.Own w0 F w0 [.blk x_a_b0 [int x_a.f_kind, int x_a.f_limit, .slice x_a_p1 x_a.f_buf.length x_a_c1, int x_a.f_from, .bool x_a.f_took, int x_a.f_bad, .bool x_a.f_whole, int x_a.f_got.Kind, str x_a.f_got.Method, str x_a.f_got.Target, int x_a.f_got.Code, str x_a.f_got.Reason, int x_a.f_got.Minor, .slice x_a_p2 x_a.f_got.Fields.length x_a_c2] 143, .row (.slice x_a_p1 x_a.f_buf.length x_a_c1) 5 1 x_a.f_buf.length (cells zc x_a.f_buf), .row (.slice x_a_p2 x_a.f_got.Fields.length x_a_c2) 107 2 x_a.f_got.Fields.length (cells za x_a.f_got.Fields)]) (hm : zeL x_a x_s = some R) :
    Calls Tryz.prog 112 #[ptr x_a_b0 0, str x_s] w0 fun e w' => ∃ (p0 : Option Addr) (c0 : Nat) (p1 : Option Addr) (c1 : Nat), e = .returned (.tuple #[.bool R.1, int R.2.1]) ∧ Dk.Own w0 F w' [.blk x_a_b0 [int R.2.2.f_kind, int R.2.2.f_limit, .slice p0 R.2.2.f_buf.length c0, int R.2.2.f_from, .bool R.2.2.f_took, int R.2.2.f_bad, .bool R.2.2.f_whole, int R.2.2.f_got.Kind, str R.2.2.f_got.Method, str R.2.2.f_got.Target, int R.2.2.f_got.Code, str R.2.2.f_got.Reason, int R.2.2.f_got.Minor, .slice p1 R.2.2.f_got.Fields.length c1] 143, .row (.slice p0 R.2.2.f_buf.length c0) 5 1 R.2.2.f_buf.length (cells zc R.2.2.f_buf), .row (.slice p1 R.2.2.f_got.Fields.length c1) 107 2 R.2.2.f_got.Fields.length (cells za R.2.2.f_got.Fields)] := by
 rw [zeL] at hm
 refine S.enter tb Tryz.func112 rfl Tryz.ntmps112 rfl ?_ hO hm
 refine jv 0 [0] [0, 1, 2] (fun J E L => ∃ (i16 : Int), J ((6, int i16) :: E) (L) (zbH x_a i16)) rfl ?_ ?_
 refine ld 0 rfl rfl ?_
 refine br rfl (fun hc4 => ?_) fun hc4 => ?_
 refine ld 0 rfl rfl ?_
 refine rw_ rfl fun a w hf hO hm => ?_
 obtain ⟨r5, hr5, hm⟩ := ob hm
 refine zg (zi c_88 hf (vs := [int x_a.f_kind, str x_s]) rfl) rfl hf rfl rfl (zcB x_a.f_kind x_s r5 _ (hG.own hF hO) hr5) ?_
 rintro e w' ⟨p6, c7, he, hO'⟩
 refine ⟨_, he, fun a hf => ?_⟩
 have hO := hO.call hO' (by simp [Res.shared])
 refine S.op tb ?_ hf hO hm
 exact ec [1, 2, 3] rfl rfl rfl fun _ _ j => ⟨r5.2, j rfl⟩
 refine br rfl (fun hc9 => ?_) fun hc9 => ?_
 refine cl znO rfl (fun r10 w hr10 hO => zd5 x_s r10 _ (hG.own hF hO).1 hr10) fun r10 hr10 => ?_
 exact en rfl fun _ _ j => ⟨r10.2, j rfl⟩
 refine rc_ rfl fun a w hf hO hm => ?_
 obtain ⟨r11, hr11, hm⟩ := ob hm
 refine zcp (S := Option Addr × Nat) (E0 := [(0, ptr x_a_b0 0)]) (by kernel_rfl) (fun k σ w => match k with | 0 => Dk.Own w0 F w [.blk x_a_b0 [int x_a.f_kind, int x_a.f_limit, .slice x_a_p1 x_a.f_buf.length x_a_c1, int x_a.f_from, .bool x_a.f_took, int x_a.f_bad, .bool x_a.f_whole, int x_a.f_got.Kind, str x_a.f_got.Method, str x_a.f_got.Target, int x_a.f_got.Code, str x_a.f_got.Reason, int x_a.f_got.Minor, .slice x_a_p2 x_a.f_got.Fields.length x_a_c2] 143, .row (.slice x_a_p1 x_a.f_buf.length x_a_c1) 5 1 x_a.f_buf.length (cells zc x_a.f_buf), .row (.slice x_a_p2 x_a.f_got.Fields.length x_a_c2) 107 2 x_a.f_got.Fields.length (cells za x_a.f_got.Fields)] | 1 => Dk.Own w0 F w [.row (.slice (σ.1) r11.1.Fields.length (σ.2)) 107 2 r11.1.Fields.length (cells za r11.1.Fields), .blk x_a_b0 [int x_a.f_kind, int x_a.f_limit, .slice x_a_p1 x_a.f_buf.length x_a_c1, int x_a.f_from, .bool x_a.f_took, int x_a.f_bad, .bool x_a.f_whole, int x_a.f_got.Kind, str x_a.f_got.Method, str x_a.f_got.Target, int x_a.f_got.Code, str x_a.f_got.Reason, int x_a.f_got.Minor, .slice x_a_p2 x_a.f_got.Fields.length x_a_c2] 143, .row (.slice x_a_p1 x_a.f_buf.length x_a_c1) 5 1 x_a.f_buf.length (cells zc x_a.f_buf), .row (.slice x_a_p2 x_a.f_got.Fields.length x_a_c2) 107 2 x_a.f_got.Fields.length (cells za x_a.f_got.Fields)] | _ => Dk.Own w0 F w [.row (.slice (σ.1) r11.1.Fields.length (σ.2)) 107 2 r11.1.Fields.length (cells za r11.1.Fields), .blk x_a_b0 [int x_a.f_kind, int x_a.f_limit, .slice x_a_p1 x_a.f_buf.length x_a_c1, int x_a.f_from, .bool x_a.f_took, int x_a.f_bad, .bool x_a.f_whole, int r11.1.Kind, str r11.1.Method, str r11.1.Target, int r11.1.Code, str r11.1.Reason, int r11.1.Minor, .slice (σ.1) r11.1.Fields.length (σ.2)] 143, .row (.slice x_a_p1 x_a.f_buf.length x_a_c1) 5 1 x_a.f_buf.length (cells zc x_a.f_buf), .row (.slice x_a_p2 x_a.f_got.Fields.length x_a_c2) 107 2 x_a.f_got.Fields.length (cells za x_a.f_got.Fields)]) (fun σ => [⟨[(0, ptr x_a_b0 0)], some (8, ptr x_a_b0 0)⟩, ⟨[(0, ptr x_a_b0 0)], some (9, ptr x_a_b0 0)⟩, ⟨[(9, ptr x_a_b0 0)], some (10, ptr x_a_b0 0)⟩, ⟨[(10, ptr x_a_b0 0)], some (11, ptr x_a_b0 0)⟩, ⟨[(11, ptr x_a_b0 0)], some (12, int x_a.f_kind)⟩, ⟨[(0, ptr x_a_b0 0)], some (13, ptr x_a_b0 0)⟩, ⟨[(13, ptr x_a_b0 0)], some (14, ptr x_a_b0 0)⟩, ⟨[(14, ptr x_a_b0 0)], some (15, ptr x_a_b0 2)⟩, ⟨[(15, ptr x_a_b0 2)], some (16, .slice x_a_p1 x_a.f_buf.length x_a_c1)⟩, ⟨[(16, .slice x_a_p1 x_a.f_buf.length x_a_c1)], some (17, str x_a.f_buf)⟩, ⟨[(0, ptr x_a_b0 0)], some (18, ptr x_a_b0 0)⟩, ⟨[(18, ptr x_a_b0 0)], some (19, ptr x_a_b0 0)⟩, ⟨[(19, ptr x_a_b0 0)], some (20, ptr x_a_b0 1)⟩, ⟨[(20, ptr x_a_b0 1)], some (21, int x_a.f_limit)⟩, ⟨[(12, int x_a.f_kind), (17, str x_a.f_buf), (21, int x_a.f_limit)], some (22, .tuple #[.agg #[int r11.1.Kind, str r11.1.Method, str r11.1.Target, int r11.1.Code, str r11.1.Reason, int r11.1.Minor, .slice (σ.1) r11.1.Fields.length (σ.2)], int r11.2])⟩, ⟨[(22, .tuple #[.agg #[int r11.1.Kind, str r11.1.Method, str r11.1.Target, int r11.1.Code, str r11.1.Reason, int r11.1.Minor, .slice (σ.1) r11.1.Fields.length (σ.2)], int r11.2])], some (7, .tuple #[.agg #[int r11.1.Kind, str r11.1.Method, str r11.1.Target, int r11.1.Code, str r11.1.Reason, int r11.1.Minor, .slice (σ.1) r11.1.Fields.length (σ.2)], int r11.2])⟩, ⟨[(7, .tuple #[.agg #[int r11.1.Kind, str r11.1.Method, str r11.1.Target, int r11.1.Code, str r11.1.Reason, int r11.1.Minor, .slice (σ.1) r11.1.Fields.length (σ.2)], int r11.2])], some (23, .agg #[int r11.1.Kind, str r11.1.Method, str r11.1.Target, int r11.1.Code, str r11.1.Reason, int r11.1.Minor, .slice (σ.1) r11.1.Fields.length (σ.2)])⟩, ⟨[(7, .tuple #[.agg #[int r11.1.Kind, str r11.1.Method, str r11.1.Target, int r11.1.Code, str r11.1.Reason, int r11.1.Minor, .slice (σ.1) r11.1.Fields.length (σ.2)], int r11.2])], some (24, int r11.2)⟩, ⟨[(8, ptr x_a_b0 0)], some (25, ptr x_a_b0 0)⟩, ⟨[(25, ptr x_a_b0 0)], some (26, ptr x_a_b0 7)⟩, ⟨[(23, .agg #[int r11.1.Kind, str r11.1.Method, str r11.1.Target, int r11.1.Code, str r11.1.Reason, int r11.1.Minor, .slice (σ.1) r11.1.Fields.length (σ.2)]), (26, ptr x_a_b0 7)], none⟩, ⟨[(24, int r11.2)], some (6, int r11.2)⟩]) (none, 0) [14, 20] rfl (fun _ => rfl) (fun _ => rfl) (fun _ => rfl) rfl rfl (by decide) rfl hO.drew (hf.cons rfl hf.nil) (fun σ => ⟨⟨rfl, trivial⟩, ⟨rfl, trivial⟩, ⟨rfl, trivial⟩, ⟨rfl, trivial⟩, ⟨rfl, trivial⟩, ⟨rfl, trivial⟩, ⟨rfl, trivial⟩, ⟨rfl, trivial⟩, ⟨rfl, trivial⟩, ⟨rfl, trivial⟩, ⟨rfl, trivial⟩, ⟨rfl, trivial⟩, ⟨rfl, trivial⟩, ⟨rfl, trivial⟩, ⟨rfl, rfl, rfl, trivial⟩, ⟨rfl, trivial⟩, ⟨rfl, trivial⟩, ⟨rfl, trivial⟩, ⟨rfl, trivial⟩, ⟨rfl, trivial⟩, ⟨rfl, rfl, trivial⟩, ⟨rfl, trivial⟩, trivial⟩) ⟨zj rfl (fun σ => rfl) (fun σ => rfl) (fun σ a w k _ _ _ _ hf => zn hf rfl), zj rfl (fun σ => rfl) (fun σ => rfl) (fun σ a w k _ _ _ _ hf => zn hf rfl), zj rfl (fun σ => rfl) (fun σ => rfl) (fun σ a w k _ _ _ _ hf => zp hf rfl), zj rfl (fun σ => rfl) (fun σ => rfl) (fun σ a w k _ _ _ _ hf => zr zll hf rfl), zj rfl (fun σ => rfl) (fun σ => rfl) (fun σ a w k hk hlo hup hst hf => match k, hk, hlo, hup, hst, hf with | 0, _, _, _, hst, hf => have hO : Dk.Own w0 F w [.blk x_a_b0 [int x_a.f_kind, int x_a.f_limit, .slice x_a_p1 x_a.f_buf.length x_a_c1, int x_a.f_from, .bool x_a.f_took, int x_a.f_bad, .bool x_a.f_whole, int x_a.f_got.Kind, str x_a.f_got.Method, str x_a.f_got.Target, int x_a.f_got.Code, str x_a.f_got.Reason, int x_a.f_got.Minor, .slice x_a_p2 x_a.f_got.Fields.length x_a_c2] 143, .row (.slice x_a_p1 x_a.f_buf.length x_a_c1) 5 1 x_a.f_buf.length (cells zc x_a.f_buf), .row (.slice x_a_p2 x_a.f_got.Fields.length x_a_c2) 107 2 x_a.f_got.Fields.length (cells za x_a.f_got.Fields)] := hst; zk (o := 0) zm7 (hO.blkSees (i := 0) rfl) rfl hf rfl | 1, _, _, _, hst, hf => have hO : Dk.Own w0 F w [.row (.slice (σ.1) r11.1.Fields.length (σ.2)) 107 2 r11.1.Fields.length (cells za r11.1.Fields), .blk x_a_b0 [int x_a.f_kind, int x_a.f_limit, .slice x_a_p1 x_a.f_buf.length x_a_c1, int x_a.f_from, .bool x_a.f_took, int x_a.f_bad, .bool x_a.f_whole, int x_a.f_got.Kind, str x_a.f_got.Method, str x_a.f_got.Target, int x_a.f_got.Code, str x_a.f_got.Reason, int x_a.f_got.Minor, .slice x_a_p2 x_a.f_got.Fields.length x_a_c2] 143, .row (.slice x_a_p1 x_a.f_buf.length x_a_c1) 5 1 x_a.f_buf.length (cells zc x_a.f_buf), .row (.slice x_a_p2 x_a.f_got.Fields.length x_a_c2) 107 2 x_a.f_got.Fields.length (cells za x_a.f_got.Fields)] := hst; zk (o := 0) zm7 (hO.blkSees (i := 1) rfl) rfl hf rfl | 2, _, _, hup, _, _ => absurd (hup 0 (by decide) (by kernel_rfl)) (by decide) | k + 3, hk, _, _, _, _ => absurd hk (by simp)), zj rfl (fun σ => rfl) (fun σ => rfl) (fun σ a w k _ _ _ _ hf => zn hf rfl), zj rfl (fun σ => rfl) (fun σ => rfl) (fun σ a w k _ _ _ _ hf => zp hf rfl), zj rfl (fun σ => rfl) (fun σ => rfl) (fun σ a w k _ _ _ _ hf => zr zhe hf rfl), zj rfl (fun σ => rfl) (fun σ => rfl) (fun σ a w k hk hlo hup hst hf => match k, hk, hlo, hup, hst, hf with | 0, _, _, _, hst, hf => have hO : Dk.Own w0 F w [.blk x_a_b0 [int x_a.f_kind, int x_a.f_limit, .slice x_a_p1 x_a.f_buf.length x_a_c1, int x_a.f_from, .bool x_a.f_took, int x_a.f_bad, .bool x_a.f_whole, int x_a.f_got.Kind, str x_a.f_got.Method, str x_a.f_got.Target, int x_a.f_got.Code, str x_a.f_got.Reason, int x_a.f_got.Minor, .slice x_a_p2 x_a.f_got.Fields.length x_a_c2] 143, .row (.slice x_a_p1 x_a.f_buf.length x_a_c1) 5 1 x_a.f_buf.length (cells zc x_a.f_buf), .row (.slice x_a_p2 x_a.f_got.Fields.length x_a_c2) 107 2 x_a.f_got.Fields.length (cells za x_a.f_got.Fields)] := hst; zk (o := 2) zic (hO.blkSees (i := 0) rfl) rfl hf rfl | 1, _, _, _, hst, hf => have hO : Dk.Own w0 F w [.row (.slice (σ.1) r11.1.Fields.length (σ.2)) 107 2 r11.1.Fields.length (cells za r11.1.Fields), .blk x_a_b0 [int x_a.f_kind, int x_a.f_limit, .slice x_a_p1 x_a.f_buf.length x_a_c1, int x_a.f_from, .bool x_a.f_took, int x_a.f_bad, .bool x_a.f_whole, int x_a.f_got.Kind, str x_a.f_got.Method, str x_a.f_got.Target, int x_a.f_got.Code, str x_a.f_got.Reason, int x_a.f_got.Minor, .slice x_a_p2 x_a.f_got.Fields.length x_a_c2] 143, .row (.slice x_a_p1 x_a.f_buf.length x_a_c1) 5 1 x_a.f_buf.length (cells zc x_a.f_buf), .row (.slice x_a_p2 x_a.f_got.Fields.length x_a_c2) 107 2 x_a.f_got.Fields.length (cells za x_a.f_got.Fields)] := hst; zk (o := 2) zic (hO.blkSees (i := 1) rfl) rfl hf rfl | 2, _, _, hup, _, _ => absurd (hup 0 (by decide) (by kernel_rfl)) (by decide) | k + 3, hk, _, _, _, _ => absurd hk (by simp)), zj rfl (fun σ => rfl) (fun σ => rfl) (fun σ a w k hk hlo hup hst hf => match k, hk, hlo, hup, hst, hf with | 0, _, _, _, hst, hf => have hO : Dk.Own w0 F w [.blk x_a_b0 [int x_a.f_kind, int x_a.f_limit, .slice x_a_p1 x_a.f_buf.length x_a_c1, int x_a.f_from, .bool x_a.f_took, int x_a.f_bad, .bool x_a.f_whole, int x_a.f_got.Kind, str x_a.f_got.Method, str x_a.f_got.Target, int x_a.f_got.Code, str x_a.f_got.Reason, int x_a.f_got.Minor, .slice x_a_p2 x_a.f_got.Fields.length x_a_c2] 143, .row (.slice x_a_p1 x_a.f_buf.length x_a_c1) 5 1 x_a.f_buf.length (cells zc x_a.f_buf), .row (.slice x_a_p2 x_a.f_got.Fields.length x_a_c2) 107 2 x_a.f_got.Fields.length (cells za x_a.f_got.Fields)] := hst; zcP (en := zc) (l := x_a.f_buf) (fun _ => rfl) Tryz.underlying9 Tryz.underlying141 Tryz.underlying5 (hO.rowSees (i := 1) rfl) hf rfl | 1, _, _, _, hst, hf => have hO : Dk.Own w0 F w [.row (.slice (σ.1) r11.1.Fields.length (σ.2)) 107 2 r11.1.Fields.length (cells za r11.1.Fields), .blk x_a_b0 [int x_a.f_kind, int x_a.f_limit, .slice x_a_p1 x_a.f_buf.length x_a_c1, int x_a.f_from, .bool x_a.f_took, int x_a.f_bad, .bool x_a.f_whole, int x_a.f_got.Kind, str x_a.f_got.Method, str x_a.f_got.Target, int x_a.f_got.Code, str x_a.f_got.Reason, int x_a.f_got.Minor, .slice x_a_p2 x_a.f_got.Fields.length x_a_c2] 143, .row (.slice x_a_p1 x_a.f_buf.length x_a_c1) 5 1 x_a.f_buf.length (cells zc x_a.f_buf), .row (.slice x_a_p2 x_a.f_got.Fields.length x_a_c2) 107 2 x_a.f_got.Fields.length (cells za x_a.f_got.Fields)] := hst; zcP (en := zc) (l := x_a.f_buf) (fun _ => rfl) Tryz.underlying9 Tryz.underlying141 Tryz.underlying5 (hO.rowSees (i := 2) rfl) hf rfl | 2, _, _, _, hst, hf => have hO : Dk.Own w0 F w [.row (.slice (σ.1) r11.1.Fields.length (σ.2)) 107 2 r11.1.Fields.length (cells za r11.1.Fields), .blk x_a_b0 [int x_a.f_kind, int x_a.f_limit, .slice x_a_p1 x_a.f_buf.length x_a_c1, int x_a.f_from, .bool x_a.f_took, int x_a.f_bad, .bool x_a.f_whole, int r11.1.Kind, str r11.1.Method, str r11.1.Target, int r11.1.Code, str r11.1.Reason, int r11.1.Minor, .slice (σ.1) r11.1.Fields.length (σ.2)] 143, .row (.slice x_a_p1 x_a.f_buf.length x_a_c1) 5 1 x_a.f_buf.length (cells zc x_a.f_buf), .row (.slice x_a_p2 x_a.f_got.Fields.length x_a_c2) 107 2 x_a.f_got.Fields.length (cells za x_a.f_got.Fields)] := hst; zcP (en := zc) (l := x_a.f_buf) (fun _ => rfl) Tryz.underlying9 Tryz.underlying141 Tryz.underlying5 (hO.rowSees (i := 2) rfl) hf rfl | k + 3, hk, _, _, _, _ => absurd hk (by simp)), zj rfl (fun σ => rfl) (fun σ => rfl) (fun σ a w k _ _ _ _ hf => zn hf rfl), zj rfl (fun σ => rfl) (fun σ => rfl) (fun σ a w k _ _ _ _ hf => zp hf rfl), zj rfl (fun σ => rfl) (fun σ => rfl) (fun σ a w k _ _ _ _ hf => zr zjT hf rfl), zj rfl (fun σ => rfl) (fun σ => rfl) (fun σ a w k hk hlo hup hst hf => match k, hk, hlo, hup, hst, hf with | 0, _, _, _, hst, hf => have hO : Dk.Own w0 F w [.blk x_a_b0 [int x_a.f_kind, int x_a.f_limit, .slice x_a_p1 x_a.f_buf.length x_a_c1, int x_a.f_from, .bool x_a.f_took, int x_a.f_bad, .bool x_a.f_whole, int x_a.f_got.Kind, str x_a.f_got.Method, str x_a.f_got.Target, int x_a.f_got.Code, str x_a.f_got.Reason, int x_a.f_got.Minor, .slice x_a_p2 x_a.f_got.Fields.length x_a_c2] 143, .row (.slice x_a_p1 x_a.f_buf.length x_a_c1) 5 1 x_a.f_buf.length (cells zc x_a.f_buf), .row (.slice x_a_p2 x_a.f_got.Fields.length x_a_c2) 107 2 x_a.f_got.Fields.length (cells za x_a.f_got.Fields)] := hst; zk (o := 1) ze6 (hO.blkSees (i := 0) rfl) rfl hf rfl | 1, _, _, _, hst, hf => have hO : Dk.Own w0 F w [.row (.slice (σ.1) r11.1.Fields.length (σ.2)) 107 2 r11.1.Fields.length (cells za r11.1.Fields), .blk x_a_b0 [int x_a.f_kind, int x_a.f_limit, .slice x_a_p1 x_a.f_buf.length x_a_c1, int x_a.f_from, .bool x_a.f_took, int x_a.f_bad, .bool x_a.f_whole, int x_a.f_got.Kind, str x_a.f_got.Method, str x_a.f_got.Target, int x_a.f_got.Code, str x_a.f_got.Reason, int x_a.f_got.Minor, .slice x_a_p2 x_a.f_got.Fields.length x_a_c2] 143, .row (.slice x_a_p1 x_a.f_buf.length x_a_c1) 5 1 x_a.f_buf.length (cells zc x_a.f_buf), .row (.slice x_a_p2 x_a.f_got.Fields.length x_a_c2) 107 2 x_a.f_got.Fields.length (cells za x_a.f_got.Fields)] := hst; zk (o := 1) ze6 (hO.blkSees (i := 1) rfl) rfl hf rfl | 2, _, _, hup, _, _ => absurd (hup 0 (by decide) (by kernel_rfl)) (by decide) | k + 3, hk, _, _, _, _ => absurd hk (by simp)), zd7 rfl (fun σ => rfl) (fun σ => rfl) rfl (fun σ a w (_ : _) hf => zi c_157 hf (vs := [int x_a.f_kind, str x_a.f_buf, int x_a.f_limit]) rfl) (fun σ w (hO : Dk.Own w0 F w [.blk x_a_b0 [int x_a.f_kind, int x_a.f_limit, .slice x_a_p1 x_a.f_buf.length x_a_c1, int x_a.f_from, .bool x_a.f_took, int x_a.f_bad, .bool x_a.f_whole, int x_a.f_got.Kind, str x_a.f_got.Method, str x_a.f_got.Target, int x_a.f_got.Code, str x_a.f_got.Reason, int x_a.f_got.Minor, .slice x_a_p2 x_a.f_got.Fields.length x_a_c2] 143, .row (.slice x_a_p1 x_a.f_buf.length x_a_c1) 5 1 x_a.f_buf.length (cells zc x_a.f_buf), .row (.slice x_a_p2 x_a.f_got.Fields.length x_a_c2) 107 2 x_a.f_got.Fields.length (cells za x_a.f_got.Fields)]) => (zkY x_a.f_kind x_a.f_buf x_a.f_limit r11 _ (hG.own hF hO) hr11).mono fun e w' h => by obtain ⟨p12, c13, he, hO'⟩ := h; exact ⟨(p12, c13), he, hO.call hO' (by simp [Res.shared]), .inr rfl, .inr rfl, .inr rfl, .inr rfl, .inr rfl, .inr rfl, .inr rfl, .inr rfl, .inr rfl, .inr rfl, .inr rfl, .inr rfl, .inr rfl, .inr rfl, .inl rfl, .inl rfl, .inl rfl, .inl rfl, .inr rfl, .inr rfl, .inl rfl, .inr rfl, trivial⟩), zj rfl (fun σ => rfl) (fun σ => rfl) (fun σ a w k _ _ _ _ hf => zn hf rfl), zj rfl (fun σ => rfl) (fun σ => rfl) (fun σ a w k _ _ _ _ hf => zdM hf rfl rfl), zj rfl (fun σ => rfl) (fun σ => rfl) (fun σ a w k _ _ _ _ hf => zdM hf rfl rfl), zj rfl (fun σ => rfl) (fun σ => rfl) (fun σ a w k _ _ _ _ hf => zp hf rfl), zj rfl (fun σ => rfl) (fun σ => rfl) (fun σ a w k _ _ _ _ hf => zr zlp hf rfl), zgI rfl (fun σ => rfl) (fun σ => rfl) rfl (fun σ w (hO : Dk.Own w0 F w [.row (.slice (σ.1) r11.1.Fields.length (σ.2)) 107 2 r11.1.Fields.length (cells za r11.1.Fields), .blk x_a_b0 [int x_a.f_kind, int x_a.f_limit, .slice x_a_p1 x_a.f_buf.length x_a_c1, int x_a.f_from, .bool x_a.f_took, int x_a.f_bad, .bool x_a.f_whole, int x_a.f_got.Kind, str x_a.f_got.Method, str x_a.f_got.Target, int x_a.f_got.Code, str x_a.f_got.Reason, int x_a.f_got.Minor, .slice x_a_p2 x_a.f_got.Fields.length x_a_c2] 143, .row (.slice x_a_p1 x_a.f_buf.length x_a_c1) 5 1 x_a.f_buf.length (cells zc x_a.f_buf), .row (.slice x_a_p2 x_a.f_got.Fields.length x_a_c2) 107 2 x_a.f_got.Fields.length (cells za x_a.f_got.Fields)]) => by obtain ⟨w', hO', hr⟩ := zm0 (x := (.tmp 26)) (y := (.tmp 23)) (E := [(23, .agg #[int r11.1.Kind, str r11.1.Method, str r11.1.Target, int r11.1.Code, str r11.1.Reason, int r11.1.Minor, .slice (σ.1) r11.1.Fields.length (σ.2)]), (26, ptr x_a_b0 7)]) (i := 1) (n := 7) (o := 7) (vs := [int r11.1.Kind, str r11.1.Method, str r11.1.Target, int r11.1.Code, str r11.1.Reason, int r11.1.Minor, .slice (σ.1) r11.1.Fields.length (σ.2)]) (cs' := [int x_a.f_kind, int x_a.f_limit, .slice x_a_p1 x_a.f_buf.length x_a_c1, int x_a.f_from, .bool x_a.f_took, int x_a.f_bad, .bool x_a.f_whole, int r11.1.Kind, str r11.1.Method, str r11.1.Target, int r11.1.Code, str r11.1.Reason, int r11.1.Minor, .slice (σ.1) r11.1.Fields.length (σ.2)]) zdf rfl rfl rfl (by simp [Value.oneCell']) rfl hO rfl rfl; exact ⟨((σ.1), (σ.2)), w', hO', ⟨.inr rfl, .inr rfl, .inr rfl, .inr rfl, .inr rfl, .inr rfl, .inr rfl, .inr rfl, .inr rfl, .inr rfl, .inr rfl, .inr rfl, .inr rfl, .inr rfl, .inr rfl, .inr rfl, .inr rfl, .inr rfl, .inr rfl, .inr rfl, .inr rfl, .inr rfl, trivial⟩, hr⟩), zj rfl (fun σ => rfl) (fun σ => rfl) (fun σ a w k _ _ _ _ hf => zv hf rfl), trivial⟩ ?_
 rintro ⟨p12, c13⟩ a w hf hO
 have hO : Dk.Own w0 F w [.row (.slice p12 r11.1.Fields.length c13) 107 2 r11.1.Fields.length (cells za r11.1.Fields), .blk x_a_b0 [int x_a.f_kind, int x_a.f_limit, .slice x_a_p1 x_a.f_buf.length x_a_c1, int x_a.f_from, .bool x_a.f_took, int x_a.f_bad, .bool x_a.f_whole, int r11.1.Kind, str r11.1.Method, str r11.1.Target, int r11.1.Code, str r11.1.Reason, int r11.1.Minor, .slice p12 r11.1.Fields.length c13] 143, .row (.slice x_a_p1 x_a.f_buf.length x_a_c1) 5 1 x_a.f_buf.length (cells zc x_a.f_buf), .row (.slice x_a_p2 x_a.f_got.Fields.length x_a_c2) 107 2 x_a.f_got.Fields.length (cells za x_a.f_got.Fields)] := hO
 have hf : Fits 62 [(6, int r11.2)] a := (hf.cons rfl hf.nil)
 refine S.no tb ?_ hf hO hm
 refine re_ rfl fun a w hf hO hm => ?_
 obtain rfl := Option.some.inj hm
 exact zb Tryz.results112 hf (.tmp rfl (.tmp rfl .nil)) ⟨x_a_p1, x_a_c1, p12, c13, rfl, (hO.choose [1, 2, 0] rfl)⟩
 rintro a w ⟨i16, hf, hO, hm⟩
 rw [zbH] at hm
 refine S.co tb ?_ hf hO hm
 refine ld 0 rfl rfl ?_
 refine st 0 rfl rfl ?_
 refine re_ rfl fun a w hf hO hm => ?_
 obtain rfl := Option.some.inj hm
 exact zb Tryz.results112 hf (.tmp rfl (.tmp rfl .nil)) ⟨x_a_p1, x_a_c1, x_a_p2, x_a_c2, rfl, hO⟩

end Go.Proofs
end
