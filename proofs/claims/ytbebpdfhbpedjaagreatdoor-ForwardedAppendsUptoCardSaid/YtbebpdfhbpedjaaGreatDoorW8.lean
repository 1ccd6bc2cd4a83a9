/-
  Walks, written by a program (wip/gen): what its model says, the function returns; what was there before is as it was.
  Walks, written by a program (wip/gen): what its model says, the function returns; what was there before is as it was.
  Walks, written by a program (wip/gen): what its model says, the function returns; what was there before is as it was.
  Walks, written by a program (wip/gen): what its model says, the function returns; what was there before is as it was.
  Walks, written by a program (wip/gen): what its model says, the function returns; what was there before is as it was.

-/
import Derived.Test.YtbebpdfhbpedjaaGreatDoorLib
import Derived.Test.YtbebpdfhbpedjaaGreatDoorSq
section
set_option linter.unusedVariables false
set_option maxHeartbeats 1000000
set_option linter.unusedSimpArgs false
set_option maxRecDepth 100000
namespace Go.Proofs
open Go.Dk Go.Dm Go.RowKit

theorem zkJ (x_s : Str) (R : scan_Scanner) (w0 : World) (hG : zw w0) (hm : zgR x_s = some R) :
    Calls Tryz.prog 65 #[str x_s] w0 fun e w' => ∃ (b0 : Nat), e = .returned (ptr b0 0) ∧ Dk.Own w0 [] w' [.blk b0 [str R.f_s, int R.f_at] 137] := by
 rw [zgR] at hm
 have hF : zG [] := zf
 have hO : Dk.Own w0 [] w0 [] := Dk.Own.refl w0
 refine S.enter tb Tryz.func65 rfl Tryz.ntmps65 rfl ?_ hO hm
 refine vl rfl rfl (fun a w hf hO => z6 (vs := [(0, str x_s)]) (v := .agg #[str x_s, int 0]) hf rfl (by kernel_rfl)) ?_
 refine bo rfl fun b2 => ?_
 refine re_ rfl fun a w hf hO hm => ?_
 obtain rfl := Option.some.inj hm
 exact zs Tryz.results65 hf (.tmp rfl .nil) ⟨b2, rfl, hO⟩

theorem zg5 (x_c : scan_Scanner) (R : Str) (w0 : World) (hG : zw w0) {x_c_b0 : Nat} (hs0 : zH w0 (some ⟨x_c_b0, 0, none⟩) [str x_c.f_s, int x_c.f_at]) (hm : zbP x_c = some R) :
    Calls Tryz.prog 96 #[ptr x_c_b0 0] w0 (Ret w0 (fun R => str R) R) := by
 rw [zbP] at hm
 have hF : zG [] := zf
 have hO : Dk.Own w0 [] w0 [] := Dk.Own.refl w0
 have hO := hO.addShr hs0 (by simp [Res.shared])
 refine S.enter tb Tryz.func96 rfl Tryz.ntmps96 rfl ?_ hO hm
 refine vl rfl rfl (fun a w hf hO => zfz Tryz.underlying110 hf rfl rfl) ?_
 refine kn (b' := false) rfl rfl ?_
 refine rc_ rfl fun a w hf hO hm => ?_
 refine zdd (by kernel_rfl) (by kernel_rfl) hO ?_
 refine zr (fun w hO => zu hf rfl) rfl hf rfl rfl fun a hf => ?_
 refine zr (fun w hO => za2 hf rfl) rfl hf rfl rfl fun a hf => ?_
 refine zr (fun w hO => zK zia hf rfl) rfl hf rfl rfl fun a hf => ?_
 refine zr (fun w hO => ze (o := 0) zbE (hO.sees (i := 0) rfl) rfl hf rfl) rfl hf rfl rfl fun a hf => ?_
 refine zr (fun w hO => zu hf rfl) rfl hf rfl rfl fun a hf => ?_
 refine zr (fun w hO => za2 hf rfl) rfl hf rfl rfl fun a hf => ?_
 refine zr (fun w hO => zK zib hf rfl) rfl hf rfl rfl fun a hf => ?_
 refine zr (fun w hO => ze (o := 1) ag_3 (hO.sees (i := 0) rfl) rfl hf rfl) rfl hf rfl rfl fun a hf => ?_
 obtain ⟨s4, hs4, hm⟩ := ob hm
 refine zr (fun w hO => zli (l := x_c.f_s) Tryz.underlying9 hf rfl rfl hs4) rfl hf rfl rfl fun a hf => ?_
 refine zr (fun w hO => zb1 hf rfl) rfl hf rfl rfl fun a hf => ?_
 refine wpQuiet_nil ?_
 intro w hO
 refine S.no tb ?_ hf hO hm
 exact rt Tryz.results96 rfl

theorem zdr (x_c : scan_Scanner) (R : Bool) (w0 : World) (hG : zw w0) {x_c_b0 : Nat} (hs0 : zH w0 (some ⟨x_c_b0, 0, none⟩) [str x_c.f_s, int x_c.f_at]) (hm : zat x_c = some R) :
    Calls Tryz.prog 66 #[ptr x_c_b0 0] w0 (Ret w0 (fun R => .bool R) R) := by
 rw [zat] at hm
 have hF : zG [] := zf
 have hO : Dk.Own w0 [] w0 [] := Dk.Own.refl w0
 have hO := hO.addShr hs0 (by simp [Res.shared])
 refine S.enter tb Tryz.func66 rfl Tryz.ntmps66 rfl ?_ hO hm
 refine cl c_96 rfl (fun r2 w hr2 hO => zg5 x_c r2 _ (hG.own hF hO) (hO.sees (i := 0) rfl) hr2) fun r2 hr2 => ?_
 exact rt Tryz.results66 rfl

theorem zbN (x_c : scan_Scanner) (R : Int) (w0 : World) (hG : zw w0) {x_c_b0 : Nat} (hs0 : zH w0 (some ⟨x_c_b0, 0, none⟩) [str x_c.f_s, int x_c.f_at]) (hm : zaL x_c = some R) :
    Calls Tryz.prog 97 #[ptr x_c_b0 0] w0 (Ret w0 (fun R => int R) R) := by
 rw [zaL] at hm
 have hF : zG [] := zf
 have hO : Dk.Own w0 [] w0 [] := Dk.Own.refl w0
 have hO := hO.addShr hs0 (by simp [Res.shared])
 refine S.enter tb Tryz.func97 rfl Tryz.ntmps97 rfl ?_ hO hm
 refine vl rfl rfl (fun a w hf hO => zfz Tryz.underlying110 hf rfl rfl) ?_
 refine kn (b' := false) rfl rfl ?_
 refine ld 0 rfl rfl ?_
 exact rt Tryz.results97 rfl

theorem zaI (x_c : scan_Scanner) (R : UInt8 × Bool) (w0 : World) (hG : zw w0) {x_c_b0 : Nat} (hs0 : zH w0 (some ⟨x_c_b0, 0, none⟩) [str x_c.f_s, int x_c.f_at]) (hm : zz x_c = some R) :
    Calls Tryz.prog 99 #[ptr x_c_b0 0] w0 (Ret w0 (fun R => .tuple #[zR R.1, .bool R.2]) R) := by
 rw [zz] at hm
 have hF : zG [] := zf
 have hO : Dk.Own w0 [] w0 [] := Dk.Own.refl w0
 have hO := hO.addShr hs0 (by simp [Res.shared])
 refine S.enter tb Tryz.func99 rfl Tryz.ntmps99 rfl ?_ hO hm
 refine cl c_66 rfl (fun r2 w hr2 hO => zdr x_c r2 _ (hG.own hF hO) (hO.sees (i := 0) rfl) hr2) fun r2 hr2 => ?_
 refine br rfl (fun hc4 => ?_) fun hc4 => ?_
 exact rt Tryz.results99 rfl
 refine rc_ rfl fun a w hf hO hm => ?_
 refine zdd (by kernel_rfl) (by kernel_rfl) hO ?_
 refine zr (fun w hO => zu hf rfl) rfl hf rfl rfl fun a hf => ?_
 refine zr (fun w hO => za2 hf rfl) rfl hf rfl rfl fun a hf => ?_
 refine zr (fun w hO => zK zia hf rfl) rfl hf rfl rfl fun a hf => ?_
 refine zr (fun w hO => ze (o := 0) zbE (hO.sees (i := 0) rfl) rfl hf rfl) rfl hf rfl rfl fun a hf => ?_
 refine zr (fun w hO => zu hf rfl) rfl hf rfl rfl fun a hf => ?_
 refine zr (fun w hO => za2 hf rfl) rfl hf rfl rfl fun a hf => ?_
 refine zr (fun w hO => zK zib hf rfl) rfl hf rfl rfl fun a hf => ?_
 refine zr (fun w hO => ze (o := 1) ag_3 (hO.sees (i := 0) rfl) rfl hf rfl) rfl hf rfl rfl fun a hf => ?_
 obtain ⟨b7, hb7, hm⟩ := ob hm
 refine zr (fun w hO => zh1 (l := x_c.f_s) Tryz.underlying9 hf rfl rfl hb7) rfl hf rfl rfl fun a hf => ?_
 refine zr (fun w hO => zb1 hf rfl) rfl hf rfl rfl fun a hf => ?_
 refine zr (fun w hO => zb1 hf rfl) rfl hf rfl rfl fun a hf => ?_
 refine wpQuiet_nil ?_
 intro w hO
 refine S.no tb ?_ hf hO hm
 exact rt Tryz.results99 rfl

theorem zF (x_c : scan_Scanner) (x_b : UInt8) (R : Bool × scan_Scanner) (w0 : World) (hG : zw w0) {x_c_b0 : Nat} {F : List Nat} (hF : zG F) (hO : Dk.Own w0 F w0 [.blk x_c_b0 [str x_c.f_s, int x_c.f_at] 137]) (hm : zh x_c x_b = some R) :
    Calls Tryz.prog 70 #[ptr x_c_b0 0, zR x_b] w0 fun e w' => e = .returned (.bool R.1) ∧ Dk.Own w0 F w' [.blk x_c_b0 [str R.2.f_s, int R.2.f_at] 137] := by
 rw [zh] at hm
 refine S.enter tb Tryz.func70 rfl Tryz.ntmps70 rfl ?_ hO hm
 refine cl c_99 rfl (fun r2 w hr2 hO => zaI x_c r2 _ (hG.own hF hO) (hO.blkSees (i := 0) rfl) hr2) fun r2 hr2 => ?_
 refine jv 1 [0] [0] (fun J E L => ∃ (t5 : Bool), J ((18, .bool t5) :: E) (L) (za3 x_c t5)) rfl ?_ ?_
 refine br rfl (fun hc4 => ?_) fun hc4 => ?_
 exact en rfl fun _ _ j => ⟨true, j rfl⟩
 refine vl rfl rfl (fun a w hf hO => zgv (b := r2.1) (c := x_b) hf rfl rfl) ?_
 exact en rfl fun _ _ j => ⟨!(r2.1 == x_b), j rfl⟩
 rintro a w ⟨t5, hf, hO, hm⟩
 rw [za3] at hm
 refine S.co tb ?_ hf hO hm
 refine br rfl (fun hc6 => ?_) fun hc6 => ?_
 refine re_ rfl fun a w hf hO hm => ?_
 obtain rfl := Option.some.inj hm
 exact zs Tryz.results70 hf (.tmp rfl .nil) ⟨rfl, hO⟩
 refine ld 0 rfl rfl ?_
 refine bi rfl fun i9 hi9 => ?_
 refine st 0 rfl rfl ?_
 refine re_ rfl fun a w hf hO hm => ?_
 obtain rfl := Option.some.inj hm
 exact zs Tryz.results70 hf (.tmp rfl .nil) ⟨rfl, hO⟩

theorem zd9 (x_p : commas_splitter) (x_at : Int) (R : commas_splitter) (w0 : World) (hG : zw w0) {x_p_b0 : Nat} {x_p_b1 : Nat} {x_p_p2 : Option Addr} {x_p_c2 : Nat} {F : List Nat} (hF : zG F) (hO : Dk.Own w0 F w0 [.blk x_p_b0 [ptr x_p_b1 0, .slice x_p_p2 x_p.f_out.length x_p_c2, int x_p.f_from, str x_p.f_s] 113, .blk x_p_b1 [str x_p.Scanner.f_s, int x_p.Scanner.f_at] 137, .row (.slice x_p_p2 x_p.f_out.length x_p_c2) 9 1 x_p.f_out.length (cells zg x_p.f_out)]) (hm : zaJ x_p x_at = some R) :
    Calls Tryz.prog 68 #[ptr x_p_b0 0, int x_at] w0 fun e w' => ∃ (p0 : Option Addr) (c0 : Nat), e = .returned (.tuple #[]) ∧ Dk.Own w0 F w' [.blk x_p_b0 [ptr x_p_b1 0, .slice p0 R.f_out.length c0, int R.f_from, str R.f_s] 113, .blk x_p_b1 [str R.Scanner.f_s, int R.Scanner.f_at] 137, .row (.slice p0 R.f_out.length c0) 9 1 R.f_out.length (cells zg R.f_out)] := by
 rw [zaJ] at hm
 refine S.enter tb Tryz.func68 rfl Tryz.ntmps68 rfl ?_ hO hm
 refine jv 0 [0] [1] (fun J E L => ∃ (p10 : Option Addr) (c11 : Nat) (l12 : List Str), J (E) (.blk x_p_b0 [ptr x_p_b1 0, .slice p10 l12.length c11, int x_p.f_from, str x_p.f_s] 113 :: .row (.slice p10 l12.length c11) 9 1 l12.length (cells zg l12) :: L) (zaD x_p l12)) rfl ?_ ?_
 refine rc_ rfl fun a w hf hO hm => ?_
 refine zdd (by kernel_rfl) (by kernel_rfl) hO ?_
 refine zr (fun w hO => zu hf rfl) rfl hf rfl rfl fun a hf => ?_
 refine zr (fun w hO => za2 hf rfl) rfl hf rfl rfl fun a hf => ?_
 refine zr (fun w hO => zK zmN hf rfl) rfl hf rfl rfl fun a hf => ?_
 refine zr (fun w hO => ze (o := 3) zbE (hO.blkSees (i := 0) rfl) rfl hf rfl) rfl hf rfl rfl fun a hf => ?_
 refine zr (fun w hO => zu hf rfl) rfl hf rfl rfl fun a hf => ?_
 refine zr (fun w hO => za2 hf rfl) rfl hf rfl rfl fun a hf => ?_
 refine zr (fun w hO => zK zmM hf rfl) rfl hf rfl rfl fun a hf => ?_
 refine zr (fun w hO => ze (o := 2) ag_3 (hO.blkSees (i := 0) rfl) rfl hf rfl) rfl hf rfl rfl fun a hf => ?_
 refine zr (fun w hO => zu hf rfl) rfl hf rfl rfl fun a hf => ?_
 obtain ⟨s1, hs1, hm⟩ := ob hm
 refine zr (fun w hO => zh2 (l := x_p.f_s) Tryz.underlying9 hf rfl rfl rfl hs1) rfl hf rfl rfl fun a hf => ?_
 obtain ⟨r2, hr2, hm⟩ := ob hm
 refine zlP (fun w hO => zp c_91 hf (vs := [str s1, str [32, 9]]) rfl) rfl hf rfl rfl (fun w hO => (zgK s1 [32, 9] r2 _ (hG.own hF hO) hr2).mono fun e w' ⟨he, hb⟩ => ⟨he, hO.grow hb⟩) fun a hf => ?_
 refine zr (fun w hO => zb1 hf rfl) rfl hf rfl rfl fun a hf => ?_
 refine wpQuiet_nil ?_
 intro w hO
 refine S.no tb ?_ hf hO hm
 refine br rfl (fun hc5 => ?_) fun hc5 => ?_
 refine ld 0 rfl rfl ?_
 refine rw_ rfl fun a w hf hO hm => ?_
 refine zn (vs := [(0, str r2)]) (cs := [str r2]) (e := 9) (sz := 1) hf rfl rfl (fun w => by kernel_rfl) rfl rfl hO fun a b6 w hf hO => ?_
 refine S.op tb ?_ hf hO hm
 refine rw_ rfl fun a w hf hO hm => ?_
 obtain ⟨hg9, hm⟩ := og hm
 refine z8 zlq (enc := zg) (xs := x_p.f_out) (ys := ([r2] : List Str)) (i := 3) (fun _ => rfl) rfl (hO.rowSees (i := 0) rfl) (by simp [cells, zg, Value.oneCell']) hg9 hf rfl rfl rfl hO fun a p7 c8 w hf hO => ?_
 refine S.op tb ?_ hf hO hm
 refine st 1 rfl rfl ?_
 exact ec [1, 3, 2] rfl rfl rfl fun _ _ j => ⟨p7, c8, x_p.f_out ++ ([r2] : List Str), j rfl⟩
 exact ec [0, 2, 1] rfl rfl rfl fun _ _ j => ⟨x_p_p2, x_p_c2, x_p.f_out, j rfl⟩
 rintro a w ⟨p10, c11, l12, hf, hO, hm⟩
 rw [zaD] at hm
 refine S.co tb ?_ hf hO hm
 refine ld 0 rfl rfl ?_
 refine cl c_97 rfl (fun r13 w hr13 hO => zbN x_p.Scanner r13 _ (hG.own hF hO) (hO.blkSees (i := 2) rfl) hr13) fun r13 hr13 => ?_
 refine st 0 rfl rfl ?_
 refine rn_ rfl fun a w hf hO hm => ?_
 obtain rfl := Option.some.inj hm
 exact zh3 Tryz.results68 hf .nil ⟨p10, c11, rfl, (hO.choose [0, 2, 1] rfl)⟩

theorem zfe (x_p : commas_splitter) (R : Bool × commas_splitter) (w0 : World) (hG : zw w0) {x_p_b0 : Nat} {x_p_b1 : Nat} {x_p_p2 : Option Addr} {x_p_c2 : Nat} {F : List Nat} (hF : zG F) (hO : Dk.Own w0 F w0 [.blk x_p_b0 [ptr x_p_b1 0, .slice x_p_p2 x_p.f_out.length x_p_c2, int x_p.f_from, str x_p.f_s] 113, .blk x_p_b1 [str x_p.Scanner.f_s, int x_p.Scanner.f_at] 137, .row (.slice x_p_p2 x_p.f_out.length x_p_c2) 9 1 x_p.f_out.length (cells zg x_p.f_out)]) (hm : zau x_p = some R) :
    Calls Tryz.prog 98 #[ptr x_p_b0 0] w0 fun e w' => ∃ (p0 : Option Addr) (c0 : Nat), e = .returned (.bool R.1) ∧ Dk.Own w0 F w' [.blk x_p_b0 [ptr x_p_b1 0, .slice p0 R.2.f_out.length c0, int R.2.f_from, str R.2.f_s] 113, .blk x_p_b1 [str R.2.Scanner.f_s, int R.2.Scanner.f_at] 137, .row (.slice p0 R.2.f_out.length c0) 9 1 R.2.f_out.length (cells zg R.2.f_out)] := by
 rw [zau] at hm
 refine S.enter tb Tryz.func98 rfl Tryz.ntmps98 rfl ?_ hO hm
 refine jv 0 [] [0, 2] (fun J E L => ∃ (s33 : Str) (i34 : Int), J (E) (.blk x_p_b1 [str s33, int i34] 137 :: L) (zbA x_p s33 i34)) rfl ?_ ?_
 refine ch [1, 0, 2] rfl rfl ?_
 refine lv [0] [1, 2] (fun J E L k => ∃ (s3 : Str) (i4 : Int) (i5 : Int), J ((3, int i5) :: E) (.blk x_p_b1 [str s3, int i4] 137 :: L) (zj x_p k s3 i4 i5)) rfl (fun _ _ j => ⟨x_p.Scanner.f_s, x_p.Scanner.f_at, 1, j rfl⟩) ?_
 rintro n1 a w ⟨s3, i4, i5, hf, hO, hm⟩
 obtain _ | n1 := n1
 rw [zj] at hm
 cases hm
 rw [zj] at hm
 refine S.co tb ?_ hf hO hm
 refine br rfl (fun hc7 => ?_) fun hc7 => ?_
 refine ld 1 rfl rfl ?_
 refine cl c_99 rfl (fun r9 w hr9 hO => zaI (⟨s3, i4⟩ : scan_Scanner) r9 _ (hG.own hF hO) (hO.blkSees (i := 0) rfl) hr9) fun r9 hr9 => ?_
 refine br rfl (fun hc12 => ?_) fun hc12 => ?_
 refine re_ rfl fun a w hf hO hm => ?_
 obtain rfl := Option.some.inj hm
 exact zs Tryz.results98 hf (.tmp rfl .nil) ⟨x_p_p2, x_p_c2, rfl, (hO.choose [1, 0, 2] rfl)⟩
 refine ld 1 rfl rfl ?_
 refine rw_ rfl fun a w hf hO hm => ?_
 obtain ⟨r15, hr15, hm⟩ := ob hm
 have hch16 := (show Dk.Own w0 F _ ([.blk x_p_b1 [str s3, int i4] 137] ++ [.blk x_p_b0 [ptr x_p_b1 0, .slice x_p_p2 x_p.f_out.length x_p_c2, int x_p.f_from, str x_p.f_s] 113, .row (.slice x_p_p2 x_p.f_out.length x_p_c2) 9 1 x_p.f_out.length (cells zg x_p.f_out)]) from hO)
 have hfar16 := Dk.Own.far hch16 rfl hF hG.size
 have hlend16 := hch16.lend (S := []) rfl trivial
 have hcl16 := zF (⟨s3, i4⟩ : scan_Scanner) r9.1 r15 _ (hG.own hF hO) hfar16 hlend16 hr15
 refine zo (zp zkd hf (vs := [ptr x_p_b1 0, zR r9.1]) rfl) rfl hf rfl rfl (hcl16) ?_
 rintro e w' ⟨he, hO'⟩
 refine ⟨_, he, fun a hf => ?_⟩
 have hO := hch16.back rfl hO' rfl
 refine S.op tb ?_ hf hO hm
 refine vl rfl rfl (fun a w hf hO => zaC (b := r9.1) (c := 40) hf rfl rfl) ?_
 refine br rfl (fun hc20 => ?_) fun hc20 => ?_
 refine bi rfl fun i21 hi21 => ?_
 exact en rfl fun _ _ j => ⟨_, Nat.lt_succ_self _, r15.2.f_s, r15.2.f_at, i21, j rfl⟩
 refine vl rfl rfl (fun a w hf hO => zaC (b := r9.1) (c := 41) hf rfl rfl) ?_
 refine br rfl (fun hc23 => ?_) fun hc23 => ?_
 refine bi rfl fun i24 hi24 => ?_
 exact en rfl fun _ _ j => ⟨_, Nat.lt_succ_self _, r15.2.f_s, r15.2.f_at, i24, j rfl⟩
 refine vl rfl rfl (fun a w hf hO => zaC (b := r9.1) (c := 92) hf rfl rfl) ?_
 refine br rfl (fun hc26 => ?_) fun hc26 => ?_
 refine ld 1 rfl rfl ?_
 refine cl c_99 rfl (fun r27 w hr27 hO => zaI r15.2 r27 _ (hG.own hF hO) (hO.blkSees (i := 0) rfl) hr27) fun r27 hr27 => ?_
 refine br rfl (fun hc30 => ?_) fun hc30 => ?_
 refine ld 1 rfl rfl ?_
 refine rw_ rfl fun a w hf hO hm => ?_
 obtain ⟨r31, hr31, hm⟩ := ob hm
 have hch32 := (show Dk.Own w0 F _ ([.blk x_p_b1 [str r15.2.f_s, int r15.2.f_at] 137] ++ [.blk x_p_b0 [ptr x_p_b1 0, .slice x_p_p2 x_p.f_out.length x_p_c2, int x_p.f_from, str x_p.f_s] 113, .row (.slice x_p_p2 x_p.f_out.length x_p_c2) 9 1 x_p.f_out.length (cells zg x_p.f_out)]) from hO)
 have hfar32 := Dk.Own.far hch32 rfl hF hG.size
 have hlend32 := hch32.lend (S := []) rfl trivial
 have hcl32 := zF r15.2 r27.1 r31 _ (hG.own hF hO) hfar32 hlend32 hr31
 refine zo (zp zkd hf (vs := [ptr x_p_b1 0, zR r27.1]) rfl) rfl hf rfl rfl (hcl32) ?_
 rintro e w' ⟨he, hO'⟩
 refine ⟨_, he, fun a hf => ?_⟩
 have hO := hch32.back rfl hO' rfl
 refine S.op tb ?_ hf hO hm
 exact en rfl fun _ _ j => ⟨_, Nat.lt_succ_self _, r31.2.f_s, r31.2.f_at, i5, j rfl⟩
 exact en rfl fun _ _ j => ⟨_, Nat.lt_succ_self _, r15.2.f_s, r15.2.f_at, i5, j rfl⟩
 exact en rfl fun _ _ j => ⟨_, Nat.lt_succ_self _, r15.2.f_s, r15.2.f_at, i5, j rfl⟩
 exact en rfl fun _ _ j => ⟨s3, i4, j rfl⟩
 rintro a w ⟨s33, i34, hf, hO, hm⟩
 rw [zbA] at hm
 refine S.co tb ?_ hf hO hm
 refine re_ rfl fun a w hf hO hm => ?_
 obtain rfl := Option.some.inj hm
 exact zs Tryz.results98 hf (.tmp rfl .nil) ⟨x_p_p2, x_p_c2, rfl, (hO.choose [1, 0, 2] rfl)⟩

theorem zio (x_b : UInt8) (R : Bool) (w0 : World) (hG : zw w0) (hm : zeN x_b = some R) :
    Calls Tryz.prog 173 #[zR x_b] w0 (Ret w0 (fun R => .bool R) R) := by
 rw [zeN] at hm
 have hF : zG [] := zf
 have hO : Dk.Own w0 [] w0 [] := Dk.Own.refl w0
 refine S.enter tb Tryz.func173 rfl Tryz.ntmps173 rfl ?_ hO hm
 refine jv 0 [] [] (fun J E L => ∃ (t3 : Bool), J ((2, .bool t3) :: E) (L) (zci t3)) rfl ?_ ?_
 refine vl rfl rfl (fun a w hf hO => zmv (b := x_b) (c := 32) hf rfl rfl) ?_
 refine br rfl (fun hc2 => ?_) fun hc2 => ?_
 refine vl rfl rfl (fun a w hf hO => zpb (b := x_b) (c := 127) hf rfl rfl) ?_
 exact en rfl fun _ _ j => ⟨decide (x_b < 127), j rfl⟩
 exact en rfl fun _ _ j => ⟨false, j rfl⟩
 rintro a w ⟨t3, hf, hO, hm⟩
 rw [zci] at hm
 refine S.co tb ?_ hf hO hm
 exact rt Tryz.results173 rfl

theorem zgf (x_b : UInt8) (R : Bool) (w0 : World) (hG : zw w0) (hm : zbX x_b = some R) :
    Calls Tryz.prog 145 #[zR x_b] w0 (Ret w0 (fun R => .bool R) R) := by
 rw [zbX] at hm
 have hF : zG [] := zf
 have hO : Dk.Own w0 [] w0 [] := Dk.Own.refl w0
 refine S.enter tb Tryz.func145 rfl Tryz.ntmps145 rfl ?_ hO hm
 refine jv 0 [] [] (fun J E L => ∃ (t3 : Bool), J ((2, .bool t3) :: E) (L) (zc1 t3)) rfl ?_ ?_
 refine vl rfl rfl (fun a w hf hO => zaC (b := x_b) (c := 32) hf rfl rfl) ?_
 refine br rfl (fun hc2 => ?_) fun hc2 => ?_
 exact en rfl fun _ _ j => ⟨true, j rfl⟩
 refine vl rfl rfl (fun a w hf hO => zaC (b := x_b) (c := 9) hf rfl rfl) ?_
 exact en rfl fun _ _ j => ⟨x_b == 9, j rfl⟩
 rintro a w ⟨t3, hf, hO, hm⟩
 rw [zc1] at hm
 refine S.co tb ?_ hf hO hm
 exact rt Tryz.results145 rfl

theorem zgg (x_b : UInt8) (R : Bool) (w0 : World) (hG : zw w0) (hm : zbY x_b = some R) :
    Calls Tryz.prog 144 #[zR x_b] w0 (Ret w0 (fun R => .bool R) R) := by
 rw [zbY] at hm
 have hF : zG [] := zf
 have hO : Dk.Own w0 [] w0 [] := Dk.Own.refl w0
 refine S.enter tb Tryz.func144 rfl Tryz.ntmps144 rfl ?_ hO hm
 refine jv 0 [] [] (fun J E L => ∃ (t6 : Bool), J ((2, .bool t6) :: E) (L) (zb2 t6)) rfl ?_ ?_
 refine cl c_173 rfl (fun r2 w hr2 hO => zio x_b r2 _ (hG.own hF hO) hr2) fun r2 hr2 => ?_
 refine br rfl (fun hc3 => ?_) fun hc3 => ?_
 exact en rfl fun _ _ j => ⟨true, j rfl⟩
 refine cl c_145 rfl (fun r4 w hr4 hO => zgf x_b r4 _ (hG.own hF hO) hr4) fun r4 hr4 => ?_
 refine br rfl (fun hc5 => ?_) fun hc5 => ?_
 exact en rfl fun _ _ j => ⟨true, j rfl⟩
 refine vl rfl rfl (fun a w hf hO => zmv (b := x_b) (c := 127) hf rfl rfl) ?_
 exact en rfl fun _ _ j => ⟨decide (127 < x_b), j rfl⟩
 rintro a w ⟨t6, hf, hO, hm⟩
 rw [zb2] at hm
 refine S.co tb ?_ hf hO hm
 exact rt Tryz.results144 rfl

theorem zgQ (x_r : quoted_reader) (R : Bool × quoted_reader) (w0 : World) (hG : zw w0) {x_r_b0 : Nat} {x_r_b1 : Nat} {x_r_p2 : Option Addr} {x_r_c2 : Nat} {F : List Nat} (hF : zG F) (hO : Dk.Own w0 F w0 [.blk x_r_b0 [ptr x_r_b1 0, .slice x_r_p2 x_r.f_out.length x_r_c2] 176, .blk x_r_b1 [str x_r.Scanner.f_s, int x_r.Scanner.f_at] 137, .row (.slice x_r_p2 x_r.f_out.length x_r_c2) 5 1 x_r.f_out.length (cells zW x_r.f_out)]) (hm : zaT x_r = some R) :
    Calls Tryz.prog 137 #[ptr x_r_b0 0] w0 fun e w' => ∃ (p0 : Option Addr) (c0 : Nat), e = .returned (.bool R.1) ∧ Dk.Own w0 F w' [.blk x_r_b0 [ptr x_r_b1 0, .slice p0 R.2.f_out.length c0] 176, .blk x_r_b1 [str R.2.Scanner.f_s, int R.2.Scanner.f_at] 137, .row (.slice p0 R.2.f_out.length c0) 5 1 R.2.f_out.length (cells zW R.2.f_out)] := by
 rw [zaT] at hm
 refine S.enter tb Tryz.func137 rfl Tryz.ntmps137 rfl ?_ hO hm
 refine ld 0 rfl rfl ?_
 refine rw_ rfl fun a w hf hO hm => ?_
 obtain ⟨r2, hr2, hm⟩ := ob hm
 have hch3 := (show Dk.Own w0 F _ ([.blk x_r_b1 [str x_r.Scanner.f_s, int x_r.Scanner.f_at] 137] ++ [.blk x_r_b0 [ptr x_r_b1 0, .slice x_r_p2 x_r.f_out.length x_r_c2] 176, .row (.slice x_r_p2 x_r.f_out.length x_r_c2) 5 1 x_r.f_out.length (cells zW x_r.f_out)]) from hO.choose [1, 0, 2] rfl)
 have hfar3 := Dk.Own.far hch3 rfl hF hG.size
 have hlend3 := hch3.lend (S := []) rfl trivial
 have hcl3 := zF x_r.Scanner 92 r2 _ (hG.own hF hO) hfar3 hlend3 hr2
 refine zo (zp zkd hf (vs := [ptr x_r_b1 0, zR 92]) rfl) rfl hf rfl rfl (hcl3) ?_
 rintro e w' ⟨he, hO'⟩
 refine ⟨_, he, fun a hf => ?_⟩
 have hO := hch3.back rfl hO' rfl
 refine S.op tb ?_ hf hO hm
 refine ld 1 rfl rfl ?_
 refine cl c_99 rfl (fun r5 w hr5 hO => zaI r2.2 r5 _ (hG.own hF hO) (hO.blkSees (i := 0) rfl) hr5) fun r5 hr5 => ?_
 refine jv 1 [0, 3] [0, 1, 2] (fun J E L => ∃ (t9 : Bool), J ((24, .bool t9) :: E) (L) (zaR x_r r2 r5 t9)) rfl ?_ ?_
 refine br rfl (fun hc7 => ?_) fun hc7 => ?_
 exact en rfl fun _ _ j => ⟨true, j rfl⟩
 refine cl c_144 rfl (fun r8 w hr8 hO => zgg r5.1 r8 _ (hG.own hF hO) hr8) fun r8 hr8 => ?_
 exact en rfl fun _ _ j => ⟨!r8, j rfl⟩
 rintro a w ⟨t9, hf, hO, hm⟩
 rw [zaR] at hm
 refine S.co tb ?_ hf hO hm
 refine br rfl (fun hc10 => ?_) fun hc10 => ?_
 refine re_ rfl fun a w hf hO hm => ?_
 obtain rfl := Option.some.inj hm
 exact zs Tryz.results137 hf (.tmp rfl .nil) ⟨x_r_p2, x_r_c2, rfl, (hO.choose [1, 0, 2] rfl)⟩
 refine ld 1 rfl rfl ?_
 refine rw_ rfl fun a w hf hO hm => ?_
 refine zn (vs := [(0, zR r5.1)]) (cs := [zR r5.1]) (e := 5) (sz := 1) hf rfl rfl (fun w => by kernel_rfl) rfl rfl hO fun a b13 w hf hO => ?_
 refine S.op tb ?_ hf hO hm
 refine rw_ rfl fun a w hf hO hm => ?_
 obtain ⟨hg16, hm⟩ := og hm
 refine z8 zlY (enc := zW) (xs := x_r.f_out) (ys := [r5.1]) (i := 3) (fun _ => rfl) rfl (hO.rowSees (i := 0) rfl) (by simp [cells, zW, Value.oneCell']) hg16 hf rfl rfl rfl hO fun a p14 c15 w hf hO => ?_
 refine S.op tb ?_ hf hO hm
 refine st 2 rfl rfl ?_
 refine ld 2 rfl rfl ?_
 refine rw_ rfl fun a w hf hO hm => ?_
 obtain ⟨r18, hr18, hm⟩ := ob hm
 have hch19 := (show Dk.Own w0 F _ ([.blk x_r_b1 [str r2.2.f_s, int r2.2.f_at] 137] ++ [.row (.slice (some ⟨b13, 0, none⟩) ([r5.1].length) 1) 5 1 ([r5.1].length) (cells zW [r5.1]), .blk x_r_b0 [ptr x_r_b1 0, .slice p14 ((x_r.f_out ++ [r5.1]).length) c15] 176, .row (.slice p14 ((x_r.f_out ++ [r5.1]).length) c15) 5 1 ((x_r.f_out ++ [r5.1]).length) (cells zW (x_r.f_out ++ [r5.1]))]) from hO.choose [1, 0, 2, 3] rfl)
 have hfar19 := Dk.Own.far hch19 rfl hF hG.size
 have hlend19 := hch19.lend (S := []) rfl trivial
 have hcl19 := zF r2.2 r5.1 r18 _ (hG.own hF hO) hfar19 hlend19 hr18
 refine zo (zp zkd hf (vs := [ptr x_r_b1 0, zR r5.1]) rfl) rfl hf rfl rfl (hcl19) ?_
 rintro e w' ⟨he, hO'⟩
 refine ⟨_, he, fun a hf => ?_⟩
 have hO := hch19.back rfl hO' rfl
 refine S.op tb ?_ hf hO hm
 refine re_ rfl fun a w hf hO hm => ?_
 obtain rfl := Option.some.inj hm
 exact zs Tryz.results137 hf (.tmp rfl .nil) ⟨p14, c15, rfl, (hO.choose [2, 0, 3] rfl)⟩

end Go.Proofs
end
section
set_option linter.unusedVariables false
set_option maxHeartbeats 1000000
set_option linter.unusedSimpArgs false
set_option maxRecDepth 100000
namespace Go.Proofs
open Go.Dk Go.Dm Go.RowKit

theorem zg3 (x_c : scan_Scanner) (x_at : Int) (R : Bool × scan_Scanner) (w0 : World) (hG : zw w0) {x_c_b0 : Nat} {F : List Nat} (hF : zG F) (hO : Dk.Own w0 F w0 [.blk x_c_b0 [str x_c.f_s, int x_c.f_at] 137]) (hm : zbQ x_c x_at = some R) :
    Calls Tryz.prog 138 #[ptr x_c_b0 0, int x_at] w0 fun e w' => e = .returned (.bool R.1) ∧ Dk.Own w0 F w' [.blk x_c_b0 [str R.2.f_s, int R.2.f_at] 137] := by
 rw [zbQ] at hm
 refine S.enter tb Tryz.func138 rfl Tryz.ntmps138 rfl ?_ hO hm
 refine jv 1 [0, 1] [0] (fun J E L => ∃ (t4 : Bool), J ((12, .bool t4) :: E) (L) (za4 x_c x_at t4)) rfl ?_ ?_
 refine br rfl (fun hc2 => ?_) fun hc2 => ?_
 exact en rfl fun _ _ j => ⟨true, j rfl⟩
 refine cl c_97 rfl (fun r3 w hr3 hO => zbN x_c r3 _ (hG.own hF hO) (hO.blkSees (i := 0) rfl) hr3) fun r3 hr3 => ?_
 exact en rfl fun _ _ j => ⟨decide (r3 < x_at), j rfl⟩
 rintro a w ⟨t4, hf, hO, hm⟩
 rw [za4] at hm
 refine S.co tb ?_ hf hO hm
 refine br rfl (fun hc5 => ?_) fun hc5 => ?_
 refine re_ rfl fun a w hf hO hm => ?_
 obtain rfl := Option.some.inj hm
 exact zs Tryz.results138 hf (.tmp rfl .nil) ⟨rfl, hO⟩
 refine vl rfl rfl (fun a w hf hO => zlh Tryz.underlying110 hf rfl rfl) ?_
 refine kn (b' := true) rfl rfl ?_
 refine st 0 rfl rfl ?_
 refine re_ rfl fun a w hf hO hm => ?_
 obtain rfl := Option.some.inj hm
 exact zs Tryz.results138 hf (.tmp rfl .nil) ⟨rfl, hO⟩

theorem zhm (x_c : scan_Scanner) (R : Str × Bool × scan_Scanner) (w0 : World) (hG : zw w0) {x_c_b0 : Nat} {F : List Nat} (hF : zG F) (hO : Dk.Own w0 F w0 [.blk x_c_b0 [str x_c.f_s, int x_c.f_at] 137]) (hm : zcJ x_c = some R) :
    Calls Tryz.prog 100 #[ptr x_c_b0 0] w0 fun e w' => e = .returned (.tuple #[str R.1, .bool R.2.1]) ∧ Dk.Own w0 F w' [.blk x_c_b0 [str R.2.2.f_s, int R.2.2.f_at] 137] := by
 rw [zcJ] at hm
 refine S.enter tb Tryz.func100 rfl Tryz.ntmps100 rfl ?_ hO hm
 refine cl c_97 rfl (fun r2 w hr2 hO => zbN x_c r2 _ (hG.own hF hO) (hO.blkSees (i := 0) rfl) hr2) fun r2 hr2 => ?_
 refine vl rfl rfl (fun a w hf hO => z6 (vs := [(0, ptr x_c_b0 0)]) (v := .agg #[ptr x_c_b0 0, .slice none 0 0]) hf rfl (by kernel_rfl)) ?_
 refine bo rfl fun b4 => ?_
 refine nl 5 1 ?_
 refine ld 1 rfl rfl ?_
 refine rw_ rfl fun a w hf hO hm => ?_
 obtain ⟨r6, hr6, hm⟩ := ob hm
 have hch7 := (show Dk.Own w0 F _ ([.blk x_c_b0 [str x_c.f_s, int x_c.f_at] 137] ++ [.row (.slice none 0 0) 5 1 0 (cells zW []), .blk b4 [ptr x_c_b0 0, .slice none 0 0] 176]) from hO.choose [2, 0, 1] rfl)
 have hfar7 := Dk.Own.far hch7 rfl hF hG.size
 have hlend7 := hch7.lend (S := []) rfl trivial
 have hcl7 := zF x_c 34 r6 _ (hG.own hF hO) hfar7 hlend7 hr6
 refine zo (zp zkd hf (vs := [ptr x_c_b0 0, zR 34]) rfl) rfl hf rfl rfl (hcl7) ?_
 rintro e w' ⟨he, hO'⟩
 refine ⟨_, he, fun a hf => ?_⟩
 have hO := hch7.back rfl hO' rfl
 refine S.op tb ?_ hf hO hm
 refine jv 0 [4, 5] [] (fun J E L => ∃ (t27 : Bool) (s28 : Str) (i29 : Int) (p30 : Option Addr) (c31 : Nat) (l32 : List UInt8), J ((6, .bool t27) :: E) (.blk x_c_b0 [str s28, int i29] 137 :: .row (.slice p30 l32.length c31) 5 1 l32.length (cells zW l32) :: .blk b4 [ptr x_c_b0 0, .slice p30 l32.length c31] 176 :: L) (zcI r2 t27 s28 i29 l32)) rfl ?_ ?_
 refine lv [4, 5] [] (fun J E L k => ∃ (s9 : Str) (i10 : Int) (p11 : Option Addr) (c12 : Nat) (l13 : List UInt8) (t14 : Bool), J ((6, .bool t14) :: E) (.blk x_c_b0 [str s9, int i10] 137 :: .row (.slice p11 l13.length c12) 5 1 l13.length (cells zW l13) :: .blk b4 [ptr x_c_b0 0, .slice p11 l13.length c12] 176 :: L) (zX r2 k s9 i10 l13 t14)) rfl (fun _ _ j => ⟨r6.2.f_s, r6.2.f_at, none, 0, [], r6.1, j rfl⟩) ?_
 rintro n1 a w ⟨s9, i10, p11, c12, l13, t14, hf, hO, hm⟩
 obtain _ | n1 := n1
 rw [zX] at hm
 cases hm
 rw [zX] at hm
 refine S.co tb ?_ hf hO hm
 refine jv 4 [4, 5, 6] [1, 2] (fun J E L => ∃ (t18 : Bool) (s19 : Str) (i20 : Int), J ((25, .bool t18) :: E) (.blk x_c_b0 [str s19, int i20] 137 :: L) (zb3 (zX r2 n1) r2 l13 t14 t18 s19 i20)) rfl ?_ ?_
 refine br rfl (fun hc15 => ?_) fun hc15 => ?_
 refine ld 2 rfl rfl ?_
 refine rw_ rfl fun a w hf hO hm => ?_
 obtain ⟨r16, hr16, hm⟩ := ob hm
 have hch17 := (show Dk.Own w0 F _ ([.blk x_c_b0 [str s9, int i10] 137] ++ [.row (.slice p11 l13.length c12) 5 1 l13.length (cells zW l13), .blk b4 [ptr x_c_b0 0, .slice p11 l13.length c12] 176]) from hO)
 have hfar17 := Dk.Own.far hch17 rfl hF hG.size
 have hlend17 := hch17.lend (S := []) rfl trivial
 have hcl17 := zF (⟨s9, i10⟩ : scan_Scanner) 34 r16 _ (hG.own hF hO) hfar17 hlend17 hr16
 refine zo (zp zkd hf (vs := [ptr x_c_b0 0, zR 34]) rfl) rfl hf rfl rfl (hcl17) ?_
 rintro e w' ⟨he, hO'⟩
 refine ⟨_, he, fun a hf => ?_⟩
 have hO := hch17.back rfl hO' rfl
 refine S.op tb ?_ hf hO hm
 refine kn (b' := true) hc15 rfl ?_
 exact en rfl fun _ _ j => ⟨!r16.1, r16.2.f_s, r16.2.f_at, j rfl⟩
 exact en rfl fun _ _ j => ⟨false, s9, i10, j rfl⟩
 rintro a w ⟨t18, s19, i20, hf, hO, hm⟩
 rw [zb3] at hm
 refine S.co tb ?_ hf hO hm
 refine br rfl (fun hc21 => ?_) fun hc21 => ?_
 refine rw_ rfl fun a w hf hO hm => ?_
 obtain ⟨r23, hr23, hm⟩ := ob hm
 have hch26 := (show Dk.Own w0 F _ ([.blk b4 [ptr x_c_b0 0, .slice p11 l13.length c12] 176, .blk x_c_b0 [str s19, int i20] 137, .row (.slice p11 l13.length c12) 5 1 l13.length (cells zW l13)] ++ []) from hO.choose [2, 0, 1] rfl)
 have hfar26 := Dk.Own.far hch26 rfl hF hG.size
 have hlend26 := hch26.lend (S := []) rfl trivial
 have hcl26 := zgQ ((⟨(⟨s19, i20⟩ : scan_Scanner), l13⟩ : quoted_reader)) r23 _ (hG.own hF hO) hfar26 hlend26 hr23
 refine zo (zp c_137 hf (vs := [ptr b4 0]) rfl) rfl hf rfl rfl (hcl26) ?_
 rintro e w' ⟨p24, c25, he, hO'⟩
 refine ⟨_, he, fun a hf => ?_⟩
 have hO := hch26.back rfl hO' rfl
 refine S.op tb ?_ hf hO hm
 exact ec [1, 2, 0] rfl rfl rfl fun _ _ j => ⟨_, Nat.lt_succ_self _, r23.2.Scanner.f_s, r23.2.Scanner.f_at, p24, c25, r23.2.f_out, r23.1, j rfl⟩
 exact en rfl fun _ _ j => ⟨t14, s19, i20, p11, c12, l13, j rfl⟩
 rintro a w ⟨t27, s28, i29, p30, c31, l32, hf, hO, hm⟩
 rw [zcI] at hm
 refine S.co tb ?_ hf hO hm
 refine br rfl (fun hc34 => ?_) fun hc34 => ?_
 refine ld 2 rfl rfl ?_
 refine rw_ rfl fun a w hf hO hm => ?_
 obtain ⟨r35, hr35, hm⟩ := ob hm
 have hch36 := (show Dk.Own w0 F _ ([.blk x_c_b0 [str s28, int i29] 137] ++ [.row (.slice p30 l32.length c31) 5 1 l32.length (cells zW l32), .blk b4 [ptr x_c_b0 0, .slice p30 l32.length c31] 176]) from hO)
 have hfar36 := Dk.Own.far hch36 rfl hF hG.size
 have hlend36 := hch36.lend (S := []) rfl trivial
 have hcl36 := zg3 (⟨s28, i29⟩ : scan_Scanner) r2 r35 _ (hG.own hF hO) hfar36 hlend36 hr35
 refine zo (zp c_138 hf (vs := [ptr x_c_b0 0, int r2]) rfl) rfl hf rfl rfl (hcl36) ?_
 rintro e w' ⟨he, hO'⟩
 refine ⟨_, he, fun a hf => ?_⟩
 have hO := hch36.back rfl hO' rfl
 refine S.op tb ?_ hf hO hm
 refine re_ rfl fun a w hf hO hm => ?_
 obtain rfl := Option.some.inj hm
 exact zs Tryz.results100 hf (.tmp rfl (.tmp rfl .nil)) ⟨rfl, (hO.sub (.cons_cons _ (.cons _ (.cons _ .slnil))))⟩
 refine ld 2 rfl rfl ?_
 refine vl rfl rfl (fun a w hf hO => zjU (en := zW) (l := l32) (fun _ => rfl) Tryz.underlying9 Tryz.underlying159 Tryz.underlying5 (hO.rowSees (i := 1) rfl) hf rfl) ?_
 refine re_ rfl fun a w hf hO hm => ?_
 obtain rfl := Option.some.inj hm
 exact zs Tryz.results100 hf (.tmp rfl (.tmp rfl .nil)) ⟨rfl, (hO.sub (.cons_cons _ (.cons _ (.cons _ .slnil))))⟩

theorem zf6 (x_p : commas_splitter) (R : Bool × commas_splitter) (w0 : World) (hG : zw w0) {x_p_b0 : Nat} {x_p_b1 : Nat} {x_p_p2 : Option Addr} {x_p_c2 : Nat} {F : List Nat} (hF : zG F) (hO : Dk.Own w0 F w0 [.blk x_p_b0 [ptr x_p_b1 0, .slice x_p_p2 x_p.f_out.length x_p_c2, int x_p.f_from, str x_p.f_s] 113, .blk x_p_b1 [str x_p.Scanner.f_s, int x_p.Scanner.f_at] 137, .row (.slice x_p_p2 x_p.f_out.length x_p_c2) 9 1 x_p.f_out.length (cells zg x_p.f_out)]) (hm : zP x_p = some R) :
    Calls Tryz.prog 67 #[ptr x_p_b0 0] w0 fun e w' => ∃ (p0 : Option Addr) (c0 : Nat), e = .returned (.bool R.1) ∧ Dk.Own w0 F w' [.blk x_p_b0 [ptr x_p_b1 0, .slice p0 R.2.f_out.length c0, int R.2.f_from, str R.2.f_s] 113, .blk x_p_b1 [str R.2.Scanner.f_s, int R.2.Scanner.f_at] 137, .row (.slice p0 R.2.f_out.length c0) 9 1 R.2.f_out.length (cells zg R.2.f_out)] := by
 rw [zP] at hm
 refine S.enter tb Tryz.func67 rfl Tryz.ntmps67 rfl ?_ hO hm
 refine ld 0 rfl rfl ?_
 refine cl c_97 rfl (fun r2 w hr2 hO => zbN x_p.Scanner r2 _ (hG.own hF hO) (hO.blkSees (i := 1) rfl) hr2) fun r2 hr2 => ?_
 refine jv 0 [] [] (fun J E L => ∃ (p32 : Option Addr) (c33 : Nat) (l34 : List Str) (i35 : Int) (s36 : Str) (s37 : Str) (i38 : Int), J (E) (.blk x_p_b0 [ptr x_p_b1 0, .slice p32 l34.length c33, int i35, str s36] 113 :: .blk x_p_b1 [str s37, int i38] 137 :: .row (.slice p32 l34.length c33) 9 1 l34.length (cells zg l34) :: L) (zbb l34 i35 s36 s37 i38)) rfl ?_ ?_
 refine ld 0 rfl rfl ?_
 refine rw_ rfl fun a w hf hO hm => ?_
 obtain ⟨r4, hr4, hm⟩ := ob hm
 have hch5 := (show Dk.Own w0 F _ ([.blk x_p_b1 [str x_p.Scanner.f_s, int x_p.Scanner.f_at] 137] ++ [.blk x_p_b0 [ptr x_p_b1 0, .slice x_p_p2 x_p.f_out.length x_p_c2, int x_p.f_from, str x_p.f_s] 113, .row (.slice x_p_p2 x_p.f_out.length x_p_c2) 9 1 x_p.f_out.length (cells zg x_p.f_out)]) from hO.choose [1, 0, 2] rfl)
 have hfar5 := Dk.Own.far hch5 rfl hF hG.size
 have hlend5 := hch5.lend (S := []) rfl trivial
 have hcl5 := zF x_p.Scanner 44 r4 _ (hG.own hF hO) hfar5 hlend5 hr4
 refine zo (zp zkd hf (vs := [ptr x_p_b1 0, zR 44]) rfl) rfl hf rfl rfl (hcl5) ?_
 rintro e w' ⟨he, hO'⟩
 refine ⟨_, he, fun a hf => ?_⟩
 have hO := hch5.back rfl hO' rfl
 refine S.op tb ?_ hf hO hm
 refine br rfl (fun hc7 => ?_) fun hc7 => ?_
 refine rw_ rfl fun a w hf hO hm => ?_
 obtain ⟨r8, hr8, hm⟩ := ob hm
 have hch11 := (show Dk.Own w0 F _ ([.blk x_p_b0 [ptr x_p_b1 0, .slice x_p_p2 x_p.f_out.length x_p_c2, int x_p.f_from, str x_p.f_s] 113, .blk x_p_b1 [str r4.2.f_s, int r4.2.f_at] 137, .row (.slice x_p_p2 x_p.f_out.length x_p_c2) 9 1 x_p.f_out.length (cells zg x_p.f_out)] ++ []) from hO.choose [1, 0, 2] rfl)
 have hfar11 := Dk.Own.far hch11 rfl hF hG.size
 have hlend11 := hch11.lend (S := []) rfl trivial
 have hcl11 := zd9 (⟨r4.2, x_p.f_out, x_p.f_from, x_p.f_s⟩ : commas_splitter) r2 r8 _ (hG.own hF hO) hfar11 hlend11 hr8
 refine zo (zp c_68 hf (vs := [ptr x_p_b0 0, int r2]) rfl) rfl hf rfl rfl (hcl11) ?_
 rintro e w' ⟨p9, c10, he, hO'⟩
 refine ⟨_, he, fun a hf => ?_⟩
 have hO := hch11.back rfl hO' rfl
 refine S.op tb ?_ hf hO hm
 exact en rfl fun _ _ j => ⟨p9, c10, r8.f_out, r8.f_from, r8.f_s, r8.Scanner.f_s, r8.Scanner.f_at, j rfl⟩
 refine ld 1 rfl rfl ?_
 refine rw_ rfl fun a w hf hO hm => ?_
 obtain ⟨r12, hr12, hm⟩ := ob hm
 have hch13 := (show Dk.Own w0 F _ ([.blk x_p_b1 [str r4.2.f_s, int r4.2.f_at] 137] ++ [.blk x_p_b0 [ptr x_p_b1 0, .slice x_p_p2 x_p.f_out.length x_p_c2, int x_p.f_from, str x_p.f_s] 113, .row (.slice x_p_p2 x_p.f_out.length x_p_c2) 9 1 x_p.f_out.length (cells zg x_p.f_out)]) from hO)
 have hfar13 := Dk.Own.far hch13 rfl hF hG.size
 have hlend13 := hch13.lend (S := []) rfl trivial
 have hcl13 := zF r4.2 40 r12 _ (hG.own hF hO) hfar13 hlend13 hr12
 refine zo (zp zkd hf (vs := [ptr x_p_b1 0, zR 40]) rfl) rfl hf rfl rfl (hcl13) ?_
 rintro e w' ⟨he, hO'⟩
 refine ⟨_, he, fun a hf => ?_⟩
 have hO := hch13.back rfl hO' rfl
 refine S.op tb ?_ hf hO hm
 refine br rfl (fun hc15 => ?_) fun hc15 => ?_
 refine rw_ rfl fun a w hf hO hm => ?_
 obtain ⟨r16, hr16, hm⟩ := ob hm
 have hch19 := (show Dk.Own w0 F _ ([.blk x_p_b0 [ptr x_p_b1 0, .slice x_p_p2 x_p.f_out.length x_p_c2, int x_p.f_from, str x_p.f_s] 113, .blk x_p_b1 [str r12.2.f_s, int r12.2.f_at] 137, .row (.slice x_p_p2 x_p.f_out.length x_p_c2) 9 1 x_p.f_out.length (cells zg x_p.f_out)] ++ []) from hO.choose [1, 0, 2] rfl)
 have hfar19 := Dk.Own.far hch19 rfl hF hG.size
 have hlend19 := hch19.lend (S := []) rfl trivial
 have hcl19 := zfe (⟨r12.2, x_p.f_out, x_p.f_from, x_p.f_s⟩ : commas_splitter) r16 _ (hG.own hF hO) hfar19 hlend19 hr16
 refine zo (zp c_98 hf (vs := [ptr x_p_b0 0]) rfl) rfl hf rfl rfl (hcl19) ?_
 rintro e w' ⟨p17, c18, he, hO'⟩
 refine ⟨_, he, fun a hf => ?_⟩
 have hO := hch19.back rfl hO' rfl
 refine S.op tb ?_ hf hO hm
 refine re_ rfl fun a w hf hO hm => ?_
 obtain rfl := Option.some.inj hm
 exact zs Tryz.results67 hf (.tmp rfl .nil) ⟨p17, c18, rfl, hO⟩
 refine ld 1 rfl rfl ?_
 refine cl c_99 rfl (fun r21 w hr21 hO => zaI r12.2 r21 _ (hG.own hF hO) (hO.blkSees (i := 0) rfl) hr21) fun r21 hr21 => ?_
 refine vl rfl rfl (fun a w hf hO => zaC (b := r21.1) (c := 34) hf rfl rfl) ?_
 refine br rfl (fun hc24 => ?_) fun hc24 => ?_
 refine ld 1 rfl rfl ?_
 refine rw_ rfl fun a w hf hO hm => ?_
 obtain ⟨r25, hr25, hm⟩ := ob hm
 have hch26 := (show Dk.Own w0 F _ ([.blk x_p_b1 [str r12.2.f_s, int r12.2.f_at] 137] ++ [.blk x_p_b0 [ptr x_p_b1 0, .slice x_p_p2 x_p.f_out.length x_p_c2, int x_p.f_from, str x_p.f_s] 113, .row (.slice x_p_p2 x_p.f_out.length x_p_c2) 9 1 x_p.f_out.length (cells zg x_p.f_out)]) from hO)
 have hfar26 := Dk.Own.far hch26 rfl hF hG.size
 have hlend26 := hch26.lend (S := []) rfl trivial
 have hcl26 := zhm r12.2 r25 _ (hG.own hF hO) hfar26 hlend26 hr25
 refine zo (zp c_100 hf (vs := [ptr x_p_b1 0]) rfl) rfl hf rfl rfl (hcl26) ?_
 rintro e w' ⟨he, hO'⟩
 refine ⟨_, he, fun a hf => ?_⟩
 have hO := hch26.back rfl hO' rfl
 refine S.op tb ?_ hf hO hm
 refine re_ rfl fun a w hf hO hm => ?_
 obtain rfl := Option.some.inj hm
 exact zs Tryz.results67 hf (.tmp rfl .nil) ⟨x_p_p2, x_p_c2, rfl, (hO.choose [1, 0, 2] rfl)⟩
 refine ld 1 rfl rfl ?_
 refine rw_ rfl fun a w hf hO hm => ?_
 obtain ⟨r30, hr30, hm⟩ := ob hm
 have hch31 := (show Dk.Own w0 F _ ([.blk x_p_b1 [str r12.2.f_s, int r12.2.f_at] 137] ++ [.blk x_p_b0 [ptr x_p_b1 0, .slice x_p_p2 x_p.f_out.length x_p_c2, int x_p.f_from, str x_p.f_s] 113, .row (.slice x_p_p2 x_p.f_out.length x_p_c2) 9 1 x_p.f_out.length (cells zg x_p.f_out)]) from hO)
 have hfar31 := Dk.Own.far hch31 rfl hF hG.size
 have hlend31 := hch31.lend (S := []) rfl trivial
 have hcl31 := zF r12.2 r21.1 r30 _ (hG.own hF hO) hfar31 hlend31 hr30
 refine zo (zp zkd hf (vs := [ptr x_p_b1 0, zR r21.1]) rfl) rfl hf rfl rfl (hcl31) ?_
 rintro e w' ⟨he, hO'⟩
 refine ⟨_, he, fun a hf => ?_⟩
 have hO := hch31.back rfl hO' rfl
 refine S.op tb ?_ hf hO hm
 exact ec [1, 0, 2] rfl rfl rfl fun _ _ j => ⟨x_p_p2, x_p_c2, x_p.f_out, x_p.f_from, x_p.f_s, r30.2.f_s, r30.2.f_at, j rfl⟩
 rintro a w ⟨p32, c33, l34, i35, s36, s37, i38, hf, hO, hm⟩
 rw [zbb] at hm
 refine S.co tb ?_ hf hO hm
 refine re_ rfl fun a w hf hO hm => ?_
 obtain rfl := Option.some.inj hm
 exact zs Tryz.results67 hf (.tmp rfl .nil) ⟨p32, c33, rfl, hO⟩

theorem zkB (x_s : Str) (R : List Str × Int) (w0 : World) (hG : zw w0) (hm : zdQ x_s = some R) :
    Calls Tryz.prog 38 #[str x_s] w0 fun e w' => ∃ (p0 : Option Addr) (c0 : Nat), e = .returned (.tuple #[.slice p0 R.1.length c0, int R.2]) ∧ Dk.Own w0 [] w' [.row (.slice p0 R.1.length c0) 9 1 R.1.length (cells zg R.1)] := by
 rw [zdQ] at hm
 have hF : zG [] := zf
 have hO : Dk.Own w0 [] w0 [] := Dk.Own.refl w0
 refine S.enter tb Tryz.func38 rfl Tryz.ntmps38 rfl ?_ hO hm
 refine nl 9 1 ?_
 refine rw_ rfl fun a w hf hO hm => ?_
 obtain ⟨r2, hr2, hm⟩ := ob hm
 refine zo (zp c_65 hf (vs := [str x_s]) rfl) rfl hf rfl rfl (zkJ x_s r2 _ (hG.own hF hO) hr2) ?_
 rintro e w' ⟨b3, he, hO'⟩
 refine ⟨_, he, fun a hf => ?_⟩
 have hO := hO.call hO' (by simp [Res.shared])
 refine S.op tb ?_ hf hO hm
 refine vl rfl rfl (fun a w hf hO => z6 (vs := [(0, ptr b3 0), (3, str x_s)]) (v := .agg #[ptr b3 0, .slice none 0 0, int 0, str x_s]) hf rfl (by kernel_rfl)) ?_
 refine bo rfl fun b4 => ?_
 refine nl 9 1 ?_
 refine jv 0 [0, 4] [3] (fun J E L => ∃ (p24 : Option Addr) (c25 : Nat) (l26 : List Str) (i27 : Int) (s28 : Str) (s29 : Str) (i30 : Int), J (E) (.row (.slice p24 l26.length c25) 9 1 l26.length (cells zg l26) :: .blk b4 [ptr b3 0, .slice p24 l26.length c25, int i27, str s28] 113 :: .blk b3 [str s29, int i30] 137 :: L) (zdo x_s l26 i27 s28 s29 i30)) rfl ?_ ?_
 refine lv [0, 4] [3] (fun J E L k => ∃ (p6 : Option Addr) (c7 : Nat) (l8 : List Str) (i9 : Int) (s10 : Str) (s11 : Str) (i12 : Int), J (E) (.row (.slice p6 l8.length c7) 9 1 l8.length (cells zg l8) :: .blk b4 [ptr b3 0, .slice p6 l8.length c7, int i9, str s10] 113 :: .blk b3 [str s11, int i12] 137 :: L) (zaM x_s k l8 i9 s10 s11 i12)) rfl (fun _ _ j => ⟨none, 0, [], 0, x_s, r2.f_s, r2.f_at, j rfl⟩) ?_
 rintro n1 a w ⟨p6, c7, l8, i9, s10, s11, i12, hf, hO, hm⟩
 obtain _ | n1 := n1
 rw [zaM] at hm
 cases hm
 rw [zaM] at hm
 refine S.co tb ?_ hf hO hm
 refine ld 1 rfl rfl ?_
 refine cl c_66 rfl (fun r13 w hr13 hO => zdr (⟨s11, i12⟩ : scan_Scanner) r13 _ (hG.own hF hO) (hO.blkSees (i := 2) rfl) hr13) fun r13 hr13 => ?_
 refine br rfl (fun hc15 => ?_) fun hc15 => ?_
 refine rw_ rfl fun a w hf hO hm => ?_
 obtain ⟨r17, hr17, hm⟩ := ob hm
 have hch20 := (show Dk.Own w0 [] _ ([.blk b4 [ptr b3 0, .slice p6 l8.length c7, int i9, str s10] 113, .blk b3 [str s11, int i12] 137, .row (.slice p6 l8.length c7) 9 1 l8.length (cells zg l8)] ++ [.row (.slice none 0 0) 9 1 0 (cells zg [])]) from hO.choose [1, 2, 0, 3] rfl)
 have hfar20 := Dk.Own.far hch20 rfl hF hG.size
 have hlend20 := hch20.lend (S := []) rfl trivial
 have hcl20 := zf6 ((⟨(⟨s11, i12⟩ : scan_Scanner), l8, i9, s10⟩ : commas_splitter)) r17 _ (hG.own hF hO) hfar20 hlend20 hr17
 refine zo (zp c_67 hf (vs := [ptr b4 0]) rfl) rfl hf rfl rfl (hcl20) ?_
 rintro e w' ⟨p18, c19, he, hO'⟩
 refine ⟨_, he, fun a hf => ?_⟩
 have hO := hch20.back rfl hO' rfl
 refine S.op tb ?_ hf hO hm
 refine br rfl (fun hc22 => ?_) fun hc22 => ?_
 refine nl 9 1 ?_
 refine re_ rfl fun a w hf hO hm => ?_
 obtain rfl := Option.some.inj hm
 exact zs Tryz.results38 hf (.tmp rfl (.tmp rfl .nil)) ⟨none, 0, rfl, (hO.sub (.cons_cons _ (.cons _ (.cons _ (.cons _ (.cons _ .slnil))))))⟩
 exact ec [2, 0, 1, 3] rfl rfl rfl fun _ _ j => ⟨_, Nat.lt_succ_self _, p18, c19, r17.2.f_out, r17.2.f_from, r17.2.f_s, r17.2.Scanner.f_s, r17.2.Scanner.f_at, j rfl⟩
 exact en rfl fun _ _ j => ⟨p6, c7, l8, i9, s10, s11, i12, j rfl⟩
 rintro a w ⟨p24, c25, l26, i27, s28, s29, i30, hf, hO, hm⟩
 rw [zdo] at hm
 refine S.co tb ?_ hf hO hm
 refine rw_ rfl fun a w hf hO hm => ?_
 obtain ⟨r31, hr31, hm⟩ := ob hm
 have hch34 := (show Dk.Own w0 [] _ ([.blk b4 [ptr b3 0, .slice p24 l26.length c25, int i27, str s28] 113, .blk b3 [str s29, int i30] 137, .row (.slice p24 l26.length c25) 9 1 l26.length (cells zg l26)] ++ [.row (.slice none 0 0) 9 1 0 (cells zg [])]) from hO.choose [1, 2, 0, 3] rfl)
 have hfar34 := Dk.Own.far hch34 rfl hF hG.size
 have hlend34 := hch34.lend (S := []) rfl trivial
 have hcl34 := zd9 ((⟨(⟨s29, i30⟩ : scan_Scanner), l26, i27, s28⟩ : commas_splitter)) (x_s.length : Int) r31 _ (hG.own hF hO) hfar34 hlend34 hr31
 refine zo (zp c_68 hf (vs := [ptr b4 0, int (x_s.length : Int)]) rfl) rfl hf rfl rfl (hcl34) ?_
 rintro e w' ⟨p32, c33, he, hO'⟩
 refine ⟨_, he, fun a hf => ?_⟩
 have hO := hch34.back rfl hO' rfl
 refine S.op tb ?_ hf hO hm
 refine ld 0 rfl rfl ?_
 refine re_ rfl fun a w hf hO hm => ?_
 obtain rfl := Option.some.inj hm
 exact zs Tryz.results38 hf (.tmp rfl (.tmp rfl .nil)) ⟨p32, c33, rfl, (hO.sub (.cons _ (.cons _ (.cons_cons _ (.cons _ .slnil)))))⟩

theorem zeC (x_c : scan_Scanner) (x_is : UInt8 → Option Bool) (R : Str × scan_Scanner) (w0 : World) (hG : zw w0) {x_c_b0 : Nat} {F : List Nat} (hF : zG F) (hO : Dk.Own w0 F w0 [.blk x_c_b0 [str x_c.f_s, int x_c.f_at] 137]) {x_is_f : Nat} {x_is_p x_is_c : Array Value} (x_is_k : zc Tryz.prog x_is_f) (x_is_h : ∀ (y0 : UInt8) (r : Bool) (w : World), zw w → x_is y0 = some r → Calls Tryz.prog x_is_f (x_is_p ++ [zR y0].toArray ++ x_is_c) w fun e w' => e = .returned (.bool r) ∧ Below w.heap.size w w') (hm : zao x_c x_is = some R) :
    Calls Tryz.prog 102 #[ptr x_c_b0 0, .func (.func x_is_f) x_is_p x_is_c] w0 fun e w' => e = .returned (str R.1) ∧ Dk.Own w0 F w' [.blk x_c_b0 [str R.2.f_s, int R.2.f_at] 137] := by
 rw [zao] at hm
 refine S.enter tb Tryz.func102 rfl Tryz.ntmps102 rfl ?_ hO hm
 refine cl c_97 rfl (fun r2 w hr2 hO => zbN x_c r2 _ (hG.own hF hO) (hO.blkSees (i := 0) rfl) hr2) fun r2 hr2 => ?_
 refine jv 0 [0, 5] [] (fun J E L => ∃ (s14 : Str) (i15 : Int), J (E) (.blk x_c_b0 [str s14, int i15] 137 :: L) (zaS r2 s14 i15)) rfl ?_ ?_
 refine lv [0, 1, 5] [] (fun J E L k => ∃ (s4 : Str) (i5 : Int), J (E) (.blk x_c_b0 [str s4, int i5] 137 :: L) (zD x_is r2 k s4 i5)) rfl (fun _ _ j => ⟨x_c.f_s, x_c.f_at, j rfl⟩) ?_
 rintro n1 a w ⟨s4, i5, hf, hO, hm⟩
 obtain _ | n1 := n1
 rw [zD] at hm
 cases hm
 rw [zD] at hm
 refine S.co tb ?_ hf hO hm
 refine cl c_99 rfl (fun r6 w hr6 hO => zaI (⟨s4, i5⟩ : scan_Scanner) r6 _ (hG.own hF hO) (hO.blkSees (i := 0) rfl) hr6) fun r6 hr6 => ?_
 refine jv 5 [0, 1, 5] [0] (fun J E L => ∃ (t10 : Bool), J ((22, .bool t10) :: E) (L) (zad (zD x_is r2 n1) r2 s4 i5 t10)) rfl ?_ ?_
 refine br rfl (fun hc8 => ?_) fun hc8 => ?_
 exact en rfl fun _ _ j => ⟨true, j rfl⟩
 refine rw_ rfl fun a w hf hO hm => ?_
 obtain ⟨r9, hr9, hm⟩ := ob hm
 refine oc (zmA x_is_k hf rfl (vs := [zR r6.1]) rfl) hf rfl (x_is_h r6.1 r9 _ (hG.own hF hO) hr9) hO fun a w' hf hO => ?_
 refine S.op tb ?_ hf hO hm
 refine kn (b' := false) hc8 rfl ?_
 exact en rfl fun _ _ j => ⟨!r9, j rfl⟩
 rintro a w ⟨t10, hf, hO, hm⟩
 rw [zad] at hm
 refine S.co tb ?_ hf hO hm
 refine br rfl (fun hc11 => ?_) fun hc11 => ?_
 exact en rfl fun _ _ j => ⟨s4, i5, j rfl⟩
 refine ld 0 rfl rfl ?_
 refine bi rfl fun i13 hi13 => ?_
 refine st 0 rfl rfl ?_
 exact en rfl fun _ _ j => ⟨_, Nat.lt_succ_self _, s4, i13, j rfl⟩
 rintro a w ⟨s14, i15, hf, hO, hm⟩
 rw [zaS] at hm
 refine S.co tb ?_ hf hO hm
 refine vl rfl rfl (fun a w hf hO => zfz Tryz.underlying110 hf rfl rfl) ?_
 refine kn (b' := false) rfl rfl ?_
 refine rc_ rfl fun a w hf hO hm => ?_
 refine zdd (by kernel_rfl) (by kernel_rfl) hO ?_
 refine zr (fun w hO => zu hf rfl) rfl hf rfl rfl fun a hf => ?_
 refine zr (fun w hO => za2 hf rfl) rfl hf rfl rfl fun a hf => ?_
 refine zr (fun w hO => zK zia hf rfl) rfl hf rfl rfl fun a hf => ?_
 refine zr (fun w hO => ze (o := 0) zbE (hO.blkSees (i := 0) rfl) rfl hf rfl) rfl hf rfl rfl fun a hf => ?_
 refine zr (fun w hO => zu hf rfl) rfl hf rfl rfl fun a hf => ?_
 refine zr (fun w hO => zu hf rfl) rfl hf rfl rfl fun a hf => ?_
 refine zr (fun w hO => za2 hf rfl) rfl hf rfl rfl fun a hf => ?_
 refine zr (fun w hO => zK zib hf rfl) rfl hf rfl rfl fun a hf => ?_
 refine zr (fun w hO => ze (o := 1) ag_3 (hO.blkSees (i := 0) rfl) rfl hf rfl) rfl hf rfl rfl fun a hf => ?_
 obtain ⟨s18, hs18, hm⟩ := ob hm
 refine zr (fun w hO => zh2 (l := s14) Tryz.underlying9 hf rfl rfl rfl hs18) rfl hf rfl rfl fun a hf => ?_
 refine zr (fun w hO => zb1 hf rfl) rfl hf rfl rfl fun a hf => ?_
 refine wpQuiet_nil ?_
 intro w hO
 refine S.no tb ?_ hf hO hm
 refine re_ rfl fun a w hf hO hm => ?_
 obtain rfl := Option.some.inj hm
 exact zs Tryz.results102 hf (.tmp rfl .nil) ⟨rfl, hO⟩

theorem zcv (x_b : UInt8) (R : UInt8) (w0 : World) (hG : zw w0) (hm : zab x_b = some R) :
    Calls Tryz.prog 128 #[zR x_b] w0 (Ret w0 (fun R => zR R) R) := by
 rw [zab] at hm
 have hF : zG [] := zf
 have hO : Dk.Own w0 [] w0 [] := Dk.Own.refl w0
 refine S.enter tb Tryz.func128 rfl Tryz.ntmps128 rfl ?_ hO hm
 refine jv 1 [0] [] (fun J E L => ∃ (t3 : Bool), J ((8, .bool t3) :: E) (L) (zdR x_b t3)) rfl ?_ ?_
 refine vl rfl rfl (fun a w hf hO => zgw (b := x_b) (c := 65) hf rfl rfl) ?_
 refine br rfl (fun hc2 => ?_) fun hc2 => ?_
 refine vl rfl rfl (fun a w hf hO => zhZ (b := x_b) (c := 90) hf rfl rfl) ?_
 exact en rfl fun _ _ j => ⟨decide (x_b ≤ 90), j rfl⟩
 exact en rfl fun _ _ j => ⟨false, j rfl⟩
 rintro a w ⟨t3, hf, hO, hm⟩
 rw [zdR] at hm
 refine S.co tb ?_ hf hO hm
 refine br rfl (fun hc4 => ?_) fun hc4 => ?_
 refine vl rfl rfl (fun a w hf hO => zpc (b := x_b) (c := 32) hf rfl rfl) ?_
 exact rt Tryz.results128 rfl
 exact rt Tryz.results128 rfl

theorem zjr (x_b : UInt8) (R : Bool) (w0 : World) (hG : zw w0) (hm : zfu x_b = some R) :
    Calls Tryz.prog 158 #[zR x_b] w0 (Ret w0 (fun R => .bool R) R) := by
 rw [zfu] at hm
 have hF : zG [] := zf
 have hO : Dk.Own w0 [] w0 [] := Dk.Own.refl w0
 refine S.enter tb Tryz.func158 rfl Tryz.ntmps158 rfl ?_ hO hm
 refine jv 0 [] [] (fun J E L => ∃ (t5 : Bool), J ((2, .bool t5) :: E) (L) (zc2 t5)) rfl ?_ ?_
 refine cl zmO rfl (fun r2 w hr2 hO => zcv x_b r2 _ (hG.own hF hO) hr2) fun r2 hr2 => ?_
 refine vl rfl rfl (fun a w hf hO => zgw (b := r2) (c := 97) hf rfl rfl) ?_
 refine br rfl (fun hc3 => ?_) fun hc3 => ?_
 refine cl zmO rfl (fun r4 w hr4 hO => zcv x_b r4 _ (hG.own hF hO) hr4) fun r4 hr4 => ?_
 refine vl rfl rfl (fun a w hf hO => zhZ (b := r4) (c := 122) hf rfl rfl) ?_
 exact en rfl fun _ _ j => ⟨decide (r4 ≤ 122), j rfl⟩
 exact en rfl fun _ _ j => ⟨false, j rfl⟩
 rintro a w ⟨t5, hf, hO, hm⟩
 rw [zc2] at hm
 refine S.co tb ?_ hf hO hm
 exact rt Tryz.results158 rfl

theorem zdn (x_b : UInt8) (R : Bool) (w0 : World) (hG : zw w0) (hm : zax x_b = some R) :
    Calls Tryz.prog 154 #[zR x_b] w0 (Ret w0 (fun R => .bool R) R) := by
 rw [zax] at hm
 have hF : zG [] := zf
 have hO : Dk.Own w0 [] w0 [] := Dk.Own.refl w0
 refine S.enter tb Tryz.func154 rfl Tryz.ntmps154 rfl ?_ hO hm
 refine jv 0 [] [] (fun J E L => ∃ (t3 : Bool), J ((2, .bool t3) :: E) (L) (zc3 t3)) rfl ?_ ?_
 refine vl rfl rfl (fun a w hf hO => zgw (b := x_b) (c := 48) hf rfl rfl) ?_
 refine br rfl (fun hc2 => ?_) fun hc2 => ?_
 refine vl rfl rfl (fun a w hf hO => zhZ (b := x_b) (c := 57) hf rfl rfl) ?_
 exact en rfl fun _ _ j => ⟨decide (x_b ≤ 57), j rfl⟩
 exact en rfl fun _ _ j => ⟨false, j rfl⟩
 rintro a w ⟨t3, hf, hO, hm⟩
 rw [zc3] at hm
 refine S.co tb ?_ hf hO hm
 exact rt Tryz.results154 rfl

theorem zm9 (x_b : UInt8) (x_l : Str) (R : Bool) (w0 : World) (hG : zw w0) (hm : ziV x_b x_l = some R) :
    Calls Tryz.prog 159 #[zR x_b, str x_l] w0 (Ret w0 (fun R => .bool R) R) := by
 rw [ziV] at hm
 have hF : zG [] := zf
 have hO : Dk.Own w0 [] w0 [] := Dk.Own.refl w0
 refine S.enter tb Tryz.func159 rfl Tryz.ntmps159 rfl ?_ hO hm
 refine cl c_183 rfl (fun r2 w hr2 hO => zg0 x_l x_b r2 _ (hG.own hF hO) hr2) fun r2 hr2 => ?_
 exact rt Tryz.results159 rfl

theorem zge (x_b : UInt8) (R : Bool) (w0 : World) (hG : zw w0) (hm : zbs x_b = some R) :
    Calls Tryz.prog 124 #[zR x_b] w0 (Ret w0 (fun R => .bool R) R) := by
 rw [zbs] at hm
 have hF : zG [] := zf
 have hO : Dk.Own w0 [] w0 [] := Dk.Own.refl w0
 refine S.enter tb Tryz.func124 rfl Tryz.ntmps124 rfl ?_ hO hm
 refine jv 0 [] [] (fun J E L => ∃ (t7 : Bool), J ((2, .bool t7) :: E) (L) (zb4 t7)) rfl ?_ ?_
 refine cl c_158 rfl (fun r2 w hr2 hO => zjr x_b r2 _ (hG.own hF hO) hr2) fun r2 hr2 => ?_
 refine br rfl (fun hc3 => ?_) fun hc3 => ?_
 exact en rfl fun _ _ j => ⟨true, j rfl⟩
 refine cl znU rfl (fun r4 w hr4 hO => zdn x_b r4 _ (hG.own hF hO) hr4) fun r4 hr4 => ?_
 refine br rfl (fun hc5 => ?_) fun hc5 => ?_
 exact en rfl fun _ _ j => ⟨true, j rfl⟩
 refine cl c_159 rfl (fun r6 w hr6 hO => zm9 x_b [33, 35, 36, 37, 38, 39, 42, 43, 45, 46, 94, 95, 96, 124, 126] r6 _ (hG.own hF hO) hr6) fun r6 hr6 => ?_
 exact en rfl fun _ _ j => ⟨r6, j rfl⟩
 rintro a w ⟨t7, hf, hO, hm⟩
 rw [zb4] at hm
 refine S.co tb ?_ hf hO hm
 exact rt Tryz.results124 rfl

theorem zeD (x_c : scan_Scanner) (R : Str × Bool × scan_Scanner) (w0 : World) (hG : zw w0) {x_c_b0 : Nat} {F : List Nat} (hF : zG F) (hO : Dk.Own w0 F w0 [.blk x_c_b0 [str x_c.f_s, int x_c.f_at] 137]) (hm : zaU x_c = some R) :
    Calls Tryz.prog 101 #[ptr x_c_b0 0] w0 fun e w' => e = .returned (.tuple #[str R.1, .bool R.2.1]) ∧ Dk.Own w0 F w' [.blk x_c_b0 [str R.2.2.f_s, int R.2.2.f_at] 137] := by
 rw [zaU] at hm
 refine S.enter tb Tryz.func101 rfl Tryz.ntmps101 rfl ?_ hO hm
 refine rw_ rfl fun a w hf hO hm => ?_
 obtain ⟨r2, hr2, hm⟩ := ob hm
 have hch3 := (show Dk.Own w0 F _ ([.blk x_c_b0 [str x_c.f_s, int x_c.f_at] 137] ++ []) from hO)
 have hfar3 := Dk.Own.far hch3 rfl hF hG.size
 have hlend3 := hch3.lend (S := []) rfl trivial
 have hcl3 := zeC x_c zbs r2 _ (hG.own hF hO) hfar3 hlend3 c_124 (fun y0 r w hG h => ziD (zge y0 r w hG h)) hr2
 refine zo (zp c_102 hf (vs := [ptr x_c_b0 0, .func (.func 124) #[] #[]]) rfl) rfl hf rfl rfl (hcl3) ?_
 rintro e w' ⟨he, hO'⟩
 refine ⟨_, he, fun a hf => ?_⟩
 have hO := hch3.back rfl hO' rfl
 refine S.op tb ?_ hf hO hm
 refine re_ rfl fun a w hf hO hm => ?_
 obtain rfl := Option.some.inj hm
 exact zs Tryz.results101 hf (.tmp rfl (.tmp rfl .nil)) ⟨rfl, hO⟩

end Go.Proofs
end
section
set_option linter.unusedVariables false
set_option maxHeartbeats 1000000
set_option linter.unusedSimpArgs false
set_option maxRecDepth 100000
namespace Go.Proofs
open Go.Dk Go.Dm Go.RowKit

theorem zfj (x_is : UInt8 → Option Bool) (x_l : List Str) (R : Bool) (w0 : World) (hG : zw w0) {x_is_f : Nat} {x_is_p x_is_c : Array Value} (x_is_k : zc Tryz.prog x_is_f) (x_is_h : ∀ (y0 : UInt8) (r : Bool) (w : World), zw w → x_is y0 = some r → Calls Tryz.prog x_is_f (x_is_p ++ [zR y0].toArray ++ x_is_c) w fun e w' => e = .returned (.bool r) ∧ Below w.heap.size w w') {x_l_p0 : Option Addr} {x_l_c0 : Nat} (hs0 : zH w0 x_l_p0 (cells zg x_l)) (hc0 : x_l.length ≤ x_l_c0) (hm : zdz x_is x_l = some R) :
    Calls Tryz.prog 120 #[.func (.func x_is_f) x_is_p x_is_c, .slice x_l_p0 x_l.length x_l_c0] w0 (Ret w0 (fun R => .bool R) R) := by
 rw [zdz] at hm
 have hF : zG [] := zf
 have hO : Dk.Own w0 [] w0 [] := Dk.Own.refl w0
 have hO := hO.addShr hs0 (by simp [Res.shared])
 refine S.enter tb Tryz.func120 rfl Tryz.ntmps120 rfl ?_ hO hm
 refine lv [0, 8, 9] [0] (fun J E L k => ∃ (i3 : Int), J ((10, int i3) :: E) (L) (zbm x_is x_l k i3)) rfl (fun _ _ j => ⟨0, j rfl⟩) ?_
 rintro n1 a w ⟨i3, hf, hO, hm⟩
 obtain _ | n1 := n1
 rw [zbm] at hm
 cases hm
 rw [zbm] at hm
 refine S.co tb ?_ hf hO hm
 refine br rfl (fun hc5 => ?_) fun hc5 => ?_
 refine rw_ rfl fun a w hf hO hm => ?_
 obtain ⟨x7, hx7, hm⟩ := ob hm
 obtain ⟨b8, o9, hix7, hSx7⟩ := zbD (enc := zg) (sz := 1) (xs := x_l) 41 Tryz.underlying41 zgF (by decide) (fun _ => rfl) (hO.sees (i := 0) rfl) hx7
 refine zaB (zk hix7 hf rfl rfl) rfl hf rfl rfl fun a hf => ?_
 refine S.op tb ?_ hf hO hm
 refine vl rfl rfl (fun a w hf hO => ze (o := 0) zbE (hSx7 _ (hO.sees (i := 0) rfl)) rfl hf rfl) ?_
 refine lv [0, 6, 8, 9, 10, 15] [0] (fun J E L k => ∃ (i12 : Int), J ((16, int i12) :: E) (L) (zbl (zbm x_is x_l n1) x_is i3 x7 k i12)) rfl (fun _ _ j => ⟨0, j rfl⟩) ?_
 rintro n2 a w ⟨i12, hf, hO, hm⟩
 obtain _ | n2 := n2
 rw [zbl] at hm
 cases hm
 rw [zbl] at hm
 refine S.co tb ?_ hf hO hm
 refine br rfl (fun hc14 => ?_) fun hc14 => ?_
 refine bi rfl fun b17 hb17 => ?_
 refine rw_ rfl fun a w hf hO hm => ?_
 obtain ⟨r18, hr18, hm⟩ := ob hm
 refine oc (zmA x_is_k hf rfl (vs := [zR b17]) rfl) hf rfl (x_is_h b17 r18 _ (hG.own hF hO) hr18) hO fun a w' hf hO => ?_
 refine S.op tb ?_ hf hO hm
 refine br rfl (fun hc20 => ?_) fun hc20 => ?_
 exact rt Tryz.results120 rfl
 refine bi rfl fun i23 hi23 => ?_
 exact en rfl fun _ _ j => ⟨_, Nat.lt_succ_self _, i23, j rfl⟩
 refine bi rfl fun i25 hi25 => ?_
 exact en rfl fun _ _ j => ⟨_, Nat.lt_succ_self _, i25, j rfl⟩
 exact rt Tryz.results120 rfl

theorem zjk (x_b : UInt8) (R : Int) (w0 : World) (hG : zw w0) (hm : zdf x_b = some R) :
    Calls Tryz.prog 175 #[zR x_b] w0 (Ret w0 (fun R => int R) R) := by
 rw [zdf] at hm
 have hF : zG [] := zf
 have hO : Dk.Own w0 [] w0 [] := Dk.Own.refl w0
 refine S.enter tb Tryz.func175 rfl Tryz.ntmps175 rfl ?_ hO hm
 refine cl znU rfl (fun r2 w hr2 hO => zdn x_b r2 _ (hG.own hF hO) hr2) fun r2 hr2 => ?_
 refine br rfl (fun hc4 => ?_) fun hc4 => ?_
 refine vl rfl rfl (fun a w hf hO => zmw (b := x_b) (c := 48) hf rfl rfl) ?_
 refine vl rfl rfl (fun a w hf hO => zlj Tryz.underlying3 Tryz.underlying5 (zmz _) hf (kd := .u8) rfl) ?_
 exact rt Tryz.results175 rfl
 refine cl zmO rfl (fun r7 w hr7 hO => zcv x_b r7 _ (hG.own hF hO) hr7) fun r7 hr7 => ?_
 refine vl rfl rfl (fun a w hf hO => zmw (b := r7) (c := 97) hf rfl rfl) ?_
 refine vl rfl rfl (fun a w hf hO => zlj Tryz.underlying3 Tryz.underlying5 (zmz _) hf (kd := .u8) rfl) ?_
 refine bi rfl fun i8 hi8 => ?_
 exact rt Tryz.results175 rfl

theorem zj5 (x_s : Str) (x_base : Int) (x_most : Int) (x_is : UInt8 → Option Bool) (R : Int × Int) (w0 : World) (hG : zw w0) {x_is_f : Nat} {x_is_p x_is_c : Array Value} (x_is_k : zc Tryz.prog x_is_f) (x_is_h : ∀ (y0 : UInt8) (r : Bool) (w : World), zw w → x_is y0 = some r → Calls Tryz.prog x_is_f (x_is_p ++ [zR y0].toArray ++ x_is_c) w fun e w' => e = .returned (.bool r) ∧ Below w.heap.size w w') (hm : zdS x_s x_base x_most x_is = some R) :
    Calls Tryz.prog 153 #[str x_s, int x_base, int x_most, .func (.func x_is_f) x_is_p x_is_c] w0 (Ret w0 (fun R => .tuple #[int R.1, int R.2]) R) := by
 rw [zdS] at hm
 have hF : zG [] := zf
 have hO : Dk.Own w0 [] w0 [] := Dk.Own.refl w0
 refine S.enter tb Tryz.func153 rfl Tryz.ntmps153 rfl ?_ hO hm
 refine jv 1 [0, 1, 2] [] (fun J E L => ∃ (t5 : Bool), J ((21, .bool t5) :: E) (L) (zbH x_s x_base x_most t5)) rfl ?_ ?_
 refine br rfl (fun hc2 => ?_) fun hc2 => ?_
 exact en rfl fun _ _ j => ⟨true, j rfl⟩
 refine rw_ rfl fun a w hf hO hm => ?_
 refine zn (vs := [(0, str x_s)]) (cs := [str x_s]) (e := 9) (sz := 1) hf rfl rfl (fun w => by kernel_rfl) rfl rfl hO fun a b3 w hf hO => ?_
 refine S.op tb ?_ hf hO hm
 refine kn (b' := false) hc2 rfl ?_
 refine cl znS rfl (fun r4 w hr4 hO => zfj x_is ([x_s] : List Str) r4 _ (hG.own hF hO) x_is_k x_is_h (hO.rowSees (i := 0) rfl) (hO.rowCap (i := 0) rfl) hr4) fun r4 hr4 => ?_
 exact ec [] rfl rfl rfl fun _ _ j => ⟨!r4, j rfl⟩
 rintro a w ⟨t5, hf, hO, hm⟩
 rw [zbH] at hm
 refine S.co tb ?_ hf hO hm
 refine br rfl (fun hc6 => ?_) fun hc6 => ?_
 exact rt Tryz.results153 rfl
 refine lv [0, 1, 2, 23] [] (fun J E L k => ∃ (i11 : Int) (i12 : Int), J ((10, int i11) :: (24, int i12) :: E) (L) (zY x_s x_base x_most k i11 i12)) rfl (fun _ _ j => ⟨0, 0, j rfl⟩) ?_
 rintro n2 a w ⟨i11, i12, hf, hO, hm⟩
 obtain _ | n2 := n2
 rw [zY] at hm
 cases hm
 rw [zY] at hm
 refine S.co tb ?_ hf hO hm
 refine br rfl (fun hc14 => ?_) fun hc14 => ?_
 refine bi rfl fun b17 hb17 => ?_
 refine cl c_175 rfl (fun r18 w hr18 hO => zjk b17 r18 _ (hG.own hF hO) hr18) fun r18 hr18 => ?_
 refine jv 6 [0, 1, 2, 10, 12, 23, 24] [] (fun J E L => ∃ (t23 : Bool), J ((42, .bool t23) :: E) (L) (zbG (zY x_s x_base x_most n2) x_base i11 i12 r18 t23)) rfl ?_ ?_
 refine br rfl (fun hc20 => ?_) fun hc20 => ?_
 exact en rfl fun _ _ j => ⟨true, j rfl⟩
 refine bi rfl fun i21 hi21 => ?_
 refine bi rfl fun i22 hi22 => ?_
 exact en rfl fun _ _ j => ⟨decide (i22 < i11), j rfl⟩
 rintro a w ⟨t23, hf, hO, hm⟩
 rw [zbG] at hm
 refine S.co tb ?_ hf hO hm
 refine br rfl (fun hc24 => ?_) fun hc24 => ?_
 exact rt Tryz.results153 rfl
 refine bi rfl fun i27 hi27 => ?_
 refine bi rfl fun i28 hi28 => ?_
 refine bi rfl fun i30 hi30 => ?_
 exact en rfl fun _ _ j => ⟨_, Nat.lt_succ_self _, i28, i30, j rfl⟩
 exact rt Tryz.results153 rfl

theorem zh9 (x_s : Str) (x_most : Int) (R : Int × Int) (w0 : World) (hG : zw w0) (hm : zco x_s x_most = some R) :
    Calls Tryz.prog 116 #[str x_s, int x_most] w0 (Ret w0 (fun R => .tuple #[int R.1, int R.2]) R) := by
 rw [zco] at hm
 have hF : zG [] := zf
 have hO : Dk.Own w0 [] w0 [] := Dk.Own.refl w0
 refine S.enter tb Tryz.func116 rfl Tryz.ntmps116 rfl ?_ hO hm
 refine cl c_153 rfl (fun r2 w hr2 hO => zj5 x_s 10 x_most zax r2 _ (hG.own hF hO) znU (fun y0 r w hG h => ziD (zdn y0 r w hG h)) hr2) fun r2 hr2 => ?_
 exact rt Tryz.results116 rfl

theorem zj6 (x_n : Int) (x_base : Int) (R : Str) (w0 : World) (hG : zbZ w0) (hm : zeR x_n x_base = some R) :
    Calls Tryz.prog 155 #[int x_n, int x_base] w0 (Ret w0 (fun R => str R) R) := by
 rw [zeR] at hm
 have hF : zG [] := zf
 have hO : Dk.Own w0 [] w0 [] := Dk.Own.refl w0
 refine S.enter tb Tryz.func155 rfl Tryz.ntmps155 rfl ?_ hO hm
 refine br rfl (fun hc3 => ?_) fun hc3 => ?_
 exact rt Tryz.results155 rfl
 refine cl c_176 rfl (fun r6 w hr6 hO => zg1 x_n x_base r6 _ (hG.own hF hO) hr6) fun r6 hr6 => ?_
 exact rt Tryz.results155 rfl

theorem zj7 (x_n : Int) (R : Str) (w0 : World) (hG : zbZ w0) (hm : zdT x_n = some R) :
    Calls Tryz.prog 117 #[int x_n] w0 (Ret w0 (fun R => str R) R) := by
 rw [zdT] at hm
 have hF : zG [] := zf
 have hO : Dk.Own w0 [] w0 [] := Dk.Own.refl w0
 refine S.enter tb Tryz.func117 rfl Tryz.ntmps117 rfl ?_ hO hm
 refine cl c_155 rfl (fun r2 w hr2 hO => zj6 x_n 10 r2 _ (hG.own hF hO) hr2) fun r2 hr2 => ?_
 exact rt Tryz.results117 rfl

theorem ziK (x_s : Str) (x_most : Int) (R : Bool) (w0 : World) (hG : zbZ w0) (hm : zb5 x_s x_most = some R) :
    Calls Tryz.prog 80 #[str x_s, int x_most] w0 (Ret w0 (fun R => .bool R) R) := by
 rw [zb5] at hm
 have hF : zG [] := zf
 have hO : Dk.Own w0 [] w0 [] := Dk.Own.refl w0
 refine S.enter tb Tryz.func80 rfl Tryz.ntmps80 rfl ?_ hO hm
 refine cl c_116 rfl (fun r2 w hr2 hO => zh9 x_s x_most r2 _ (hG.own hF hO).1 hr2) fun r2 hr2 => ?_
 refine jv 0 [] [] (fun J E L => ∃ (t6 : Bool), J ((4, .bool t6) :: E) (L) (zbc t6)) rfl ?_ ?_
 refine br rfl (fun hc4 => ?_) fun hc4 => ?_
 refine cl c_117 rfl (fun r5 w hr5 hO => zj7 r2.1 r5 _ (hG.own hF hO) hr5) fun r5 hr5 => ?_
 exact en rfl fun _ _ j => ⟨r5 == x_s, j rfl⟩
 exact en rfl fun _ _ j => ⟨false, j rfl⟩
 rintro a w ⟨t6, hf, hO, hm⟩
 rw [zbc] at hm
 refine S.co tb ?_ hf hO hm
 exact rt Tryz.results80 rfl

theorem zga (x_s : Str) (R : Bool) (w0 : World) (hG : zbZ w0) (hm : zcw x_s = some R) :
    Calls Tryz.prog 47 #[str x_s] w0 fun e w' => e = .returned (.bool R) ∧ Below w0.heap.size w0 w' := by
  unfold zcw at hm
  split at hm
  · rename_i hs
    obtain ⟨bs, hbs, hm⟩ := ob hm
    cases hm
    exact zqx (fun x => zb5 x 255) (fun x b W hG h => ziK x 255 b W hG h) x_s hs bs hbs w0 hG
  · cases hm

theorem zkS (x_b : UInt8) (R : Bool) (w0 : World) (hG : zw w0) (hm : zdA x_b = some R) :
    Calls Tryz.prog 121 #[zR x_b] w0 (Ret w0 (fun R => .bool R) R) := by
 rw [zdA] at hm
 have hF : zG [] := zf
 have hO : Dk.Own w0 [] w0 [] := Dk.Own.refl w0
 refine S.enter tb Tryz.func121 rfl Tryz.ntmps121 rfl ?_ hO hm
 refine jv 0 [] [] (fun J E L => ∃ (t7 : Bool), J ((2, .bool t7) :: E) (L) (zcK t7)) rfl ?_ ?_
 refine cl znU rfl (fun r2 w hr2 hO => zdn x_b r2 _ (hG.own hF hO) hr2) fun r2 hr2 => ?_
 refine br rfl (fun hc3 => ?_) fun hc3 => ?_
 exact en rfl fun _ _ j => ⟨true, j rfl⟩
 refine cl zmO rfl (fun r4 w hr4 hO => zcv x_b r4 _ (hG.own hF hO) hr4) fun r4 hr4 => ?_
 refine vl rfl rfl (fun a w hf hO => zgw (b := r4) (c := 97) hf rfl rfl) ?_
 refine br rfl (fun hc5 => ?_) fun hc5 => ?_
 refine cl zmO rfl (fun r6 w hr6 hO => zcv x_b r6 _ (hG.own hF hO) hr6) fun r6 hr6 => ?_
 refine vl rfl rfl (fun a w hf hO => zhZ (b := r6) (c := 102) hf rfl rfl) ?_
 exact en rfl fun _ _ j => ⟨decide (r6 ≤ 102), j rfl⟩
 exact en rfl fun _ _ j => ⟨false, j rfl⟩
 rintro a w ⟨t7, hf, hO, hm⟩
 rw [zcK] at hm
 refine S.co tb ?_ hf hO hm
 exact rt Tryz.results121 rfl

theorem zdL (x_s : Str) (x_last : Bool) (R : Int) (w0 : World) (hG : zbZ w0) (hm : zbe x_s x_last = some R) :
    Calls Tryz.prog 82 #[str x_s, .bool x_last] w0 (Ret w0 (fun R => int R) R) := by
 rw [zbe] at hm
 have hF : zG [] := zf
 have hO : Dk.Own w0 [] w0 [] := Dk.Own.refl w0
 refine S.enter tb Tryz.func82 rfl Tryz.ntmps82 rfl ?_ hO hm
 refine br rfl (fun hc3 => ?_) fun hc3 => ?_
 exact rt Tryz.results82 rfl
 refine rw_ rfl fun a w hf hO hm => ?_
 obtain ⟨r6, hr6, hm⟩ := ob hm
 refine zo (zp c_119 hf (vs := [str x_s, str [58]]) rfl) rfl hf rfl rfl (zjp x_s [58] r6 _ (hG.own hF hO).1 hr6) ?_
 rintro e w' ⟨p7, c8, he, hO'⟩
 refine ⟨_, he, fun a hf => ?_⟩
 have hO := hO.call hO' (by simp [Res.shared])
 refine S.op tb ?_ hf hO hm
 refine lv [1, 5, 13, 14] [0] (fun J E L k => ∃ (i12 : Int) (i13 : Int), J ((6, int i12) :: (15, int i13) :: E) (L) (zA x_last r6 k i12 i13)) rfl (fun _ _ j => ⟨0, 0, j rfl⟩) ?_
 rintro n1 a w ⟨i12, i13, hf, hO, hm⟩
 obtain _ | n1 := n1
 rw [zA] at hm
 cases hm
 rw [zA] at hm
 refine S.co tb ?_ hf hO hm
 refine br rfl (fun hc15 => ?_) fun hc15 => ?_
 refine jv 3 [1, 5, 13, 14, 15] [0] (fun J E L => ∃ (i36 : Int), J ((6, int i36) :: E) (L) (zaV (zA x_last r6 n1) i13 i36)) rfl ?_ ?_
 refine rw_ rfl fun a w hf hO hm => ?_
 obtain ⟨x17, hx17, hm⟩ := ob hm
 obtain ⟨b18, o19, hix17, hSx17, hAx17⟩ := zbF (enc := zg) (sz := 1) (xs := r6) 41 Tryz.underlying41 zgF (by decide) (fun _ => rfl) hO (i := 0) rfl hx17
 refine zaB (zk hix17 hf rfl rfl) rfl hf rfl rfl fun a hf => ?_
 refine S.op tb ?_ hf hO hm
 refine vl rfl rfl (fun a w hf hO => ze (o := 0) zbE (hSx17 _ (hO.rowSees (i := 0) rfl)) rfl hf rfl) ?_
 refine jv 6 [1, 5, 6, 8, 13, 14, 15] [0] (fun J E L => ∃ (t25 : Bool), J ((20, .bool t25) :: E) (L) (zaq (zA x_last r6 n1) i12 i13 x17 t25)) rfl ?_ ?_
 refine br rfl (fun hc21 => ?_) fun hc21 => ?_
 refine bi rfl fun i22 hi22 => ?_
 refine br rfl (fun hc23 => ?_) fun hc23 => ?_
 refine cl c_47 rfl (fun r24 w hr24 hO => zga x17 r24 _ (hG.own hF hO) hr24) fun r24 hr24 => ?_
 exact en rfl fun _ _ j => ⟨r24, j rfl⟩
 exact en rfl fun _ _ j => ⟨false, j rfl⟩
 exact en rfl fun _ _ j => ⟨false, j rfl⟩
 rintro a w ⟨t25, hf, hO, hm⟩
 rw [zaq] at hm
 refine S.co tb ?_ hf hO hm
 refine br rfl (fun hc26 => ?_) fun hc26 => ?_
 refine bi rfl fun i27 hi27 => ?_
 exact en rfl fun _ _ j => ⟨i27, j rfl⟩
 refine jv 6 [1, 5, 6, 13, 14, 15] [0] (fun J E L => ∃ (t32 : Bool), J ((35, .bool t32) :: E) (L) (zap (zA x_last r6 n1) i12 i13 t32)) rfl ?_ ?_
 refine br rfl (fun hc28 => ?_) fun hc28 => ?_
 refine br rfl (fun hc29 => ?_) fun hc29 => ?_
 refine rw_ rfl fun a w hf hO hm => ?_
 refine zn (vs := [(0, str x17)]) (cs := [str x17]) (e := 9) (sz := 1) hf rfl rfl (fun w => by kernel_rfl) rfl rfl hO fun a b30 w hf hO => ?_
 refine S.op tb ?_ hf hO hm
 refine kn (b' := true) hc29 rfl ?_
 refine cl znS rfl (fun r31 w hr31 hO => zfj zdA ([x17] : List Str) r31 _ (hG.own hF hO).1 c_121 (fun y0 r w hG h => ziD (zkS y0 r w hG h)) (hO.rowSees (i := 0) rfl) (hO.rowCap (i := 0) rfl) hr31) fun r31 hr31 => ?_
 exact ec [1] rfl rfl rfl fun _ _ j => ⟨r31, j rfl⟩
 exact en rfl fun _ _ j => ⟨false, j rfl⟩
 exact en rfl fun _ _ j => ⟨false, j rfl⟩
 rintro a w ⟨t32, hf, hO, hm⟩
 rw [zap] at hm
 refine S.co tb ?_ hf hO hm
 refine br rfl (fun hc33 => ?_) fun hc33 => ?_
 refine bi rfl fun i34 hi34 => ?_
 exact en rfl fun _ _ j => ⟨i34, j rfl⟩
 exact rt Tryz.results82 rfl
 rintro a w ⟨i36, hf, hO, hm⟩
 rw [zaV] at hm
 refine S.co tb ?_ hf hO hm
 refine bi rfl fun i37 hi37 => ?_
 exact en rfl fun _ _ j => ⟨_, Nat.lt_succ_self _, i36, i37, j rfl⟩
 exact rt Tryz.results82 rfl

theorem zj8 (x_s : Str) (R : Bool) (w0 : World) (hG : zbZ w0) (hm : zdU x_s = some R) :
    Calls Tryz.prog 48 #[str x_s] w0 (Ret w0 (fun R => .bool R) R) := by
 rw [zdU] at hm
 have hF : zG [] := zf
 have hO : Dk.Own w0 [] w0 [] := Dk.Own.refl w0
 refine S.enter tb Tryz.func48 rfl Tryz.ntmps48 rfl ?_ hO hm
 refine cl c_81 rfl (fun r2 w hr2 hO => zk1 x_s [58, 58] r2 _ (hG.own hF hO).1 hr2) fun r2 hr2 => ?_
 refine br rfl (fun hc5 => ?_) fun hc5 => ?_
 refine cl c_82 rfl (fun r6 w hr6 hO => zdL x_s true r6 _ (hG.own hF hO) hr6) fun r6 hr6 => ?_
 exact rt Tryz.results48 rfl
 refine cl c_82 rfl (fun r9 w hr9 hO => zdL r2.1 false r9 _ (hG.own hF hO) hr9) fun r9 hr9 => ?_
 refine cl c_82 rfl (fun r10 w hr10 hO => zdL r2.2.1 true r10 _ (hG.own hF hO) hr10) fun r10 hr10 => ?_
 refine jv 0 [] [] (fun J E L => ∃ (t15 : Bool), J ((2, .bool t15) :: E) (L) (zaN t15)) rfl ?_ ?_
 refine br rfl (fun hc12 => ?_) fun hc12 => ?_
 refine br rfl (fun hc13 => ?_) fun hc13 => ?_
 refine bi rfl fun i14 hi14 => ?_
 exact en rfl fun _ _ j => ⟨decide (i14 ≤ 7), j rfl⟩
 exact en rfl fun _ _ j => ⟨false, j rfl⟩
 exact en rfl fun _ _ j => ⟨false, j rfl⟩
 rintro a w ⟨t15, hf, hO, hm⟩
 rw [zaN] at hm
 refine S.co tb ?_ hf hO hm
 exact rt Tryz.results48 rfl

end Go.Proofs
end
section
set_option linter.unusedVariables false
set_option linter.unusedSimpArgs false
set_option maxRecDepth 100000
namespace Go.Proofs
open Go.Dk Go.Dm Go.RowKit

set_option maxHeartbeats 1000000 in
theorem zg6 (x_s : Str) (R : Bool) (w0 : World) (hG : zw w0) (hm : zdB x_s = some R) :
    Calls Tryz.prog 88 #[str x_s] w0 (Ret w0 (fun R => .bool R) R) := by
 rw [zdB] at hm
 have hF : zG [] := zf
 have hO : Dk.Own w0 [] w0 [] := Dk.Own.refl w0
 refine S.enter tb Tryz.func88 rfl Tryz.ntmps88 rfl ?_ hO hm
 refine jv 0 [] [] (fun J E L => ∃ (t5 : Bool), J ((2, .bool t5) :: E) (L) (zcL t5)) rfl ?_ ?_
 refine br rfl (fun hc2 => ?_) fun hc2 => ?_
 refine rw_ rfl fun a w hf hO hm => ?_
 refine zn (vs := [(0, str x_s)]) (cs := [str x_s]) (e := 9) (sz := 1) hf rfl rfl (fun w => by kernel_rfl) rfl rfl hO fun a b3 w hf hO => ?_
 refine S.op tb ?_ hf hO hm
 refine kn (b' := true) hc2 rfl ?_
 refine cl znS rfl (fun r4 w hr4 hO => zfj zbs ([x_s] : List Str) r4 _ (hG.own hF hO) c_124 (fun y0 r w hG h => ziD (zge y0 r w hG h)) (hO.rowSees (i := 0) rfl) (hO.rowCap (i := 0) rfl) hr4) fun r4 hr4 => ?_
 exact ec [] rfl rfl rfl fun _ _ j => ⟨r4, j rfl⟩
 exact en rfl fun _ _ j => ⟨false, j rfl⟩
 rintro a w ⟨t5, hf, hO, hm⟩
 rw [zcL] at hm
 refine S.co tb ?_ hf hO hm
 exact rt Tryz.results88 rfl

end Go.Proofs
end
section
set_option linter.unusedVariables false
set_option maxHeartbeats 1000000
set_option linter.unusedSimpArgs false
set_option maxRecDepth 100000
namespace Go.Proofs
open Go.Dk Go.Dm Go.RowKit

theorem zeE (x_s : Str) (R : Str) (w0 : World) (hG : zw w0) (hm : zc4 x_s = some R) :
    Calls Tryz.prog 30 #[str x_s] w0 (Ret w0 (fun R => str R) R) := by
 rw [zc4] at hm
 have hF : zG [] := zf
 have hO : Dk.Own w0 [] w0 [] := Dk.Own.refl w0
 refine S.enter tb Tryz.func30 rfl Tryz.ntmps30 rfl ?_ hO hm
 refine vl rfl rfl (fun a w hf hO => zlQ (m := (x_s.length : Int)) (n := 400) hf rfl rfl) ?_
 refine bi rfl fun s2 hs2 => ?_
 exact rt Tryz.results30 rfl

theorem znb (x_h : api_Head) (R : api_Head) (w0 : World) (hG : zw w0) {x_h_p0 : Option Addr} {x_h_c0 : Nat} (hs0 : zH w0 x_h_p0 (cells zb x_h.Fields)) (hc0 : x_h.Fields.length ≤ x_h_c0) (hm : zfI x_h = some R) :
    Calls Tryz.prog 9 #[.agg #[int x_h.Kind, str x_h.Method, str x_h.Target, int x_h.Code, str x_h.Reason, int x_h.Minor, .slice x_h_p0 x_h.Fields.length x_h_c0]] w0 fun e w' => ∃ (p0 : Option Addr) (c0 : Nat), e = .returned (.agg #[int R.Kind, str R.Method, str R.Target, int R.Code, str R.Reason, int R.Minor, .slice p0 R.Fields.length c0]) ∧ Dk.Own w0 [] w' [.row (.slice p0 R.Fields.length c0) 71 2 R.Fields.length (cells zb R.Fields)] := by
 rw [zfI] at hm
 have hF : zG [] := zf
 have hO : Dk.Own w0 [] w0 [] := Dk.Own.refl w0
 have hO := hO.addShr hs0 (by simp [Res.shared])
 refine S.enter tb Tryz.func9 rfl Tryz.ntmps9 rfl ?_ hO hm
 refine bo rfl fun b1 => ?_
 refine al al_29 rfl fun b2 => ?_
 refine nl 71 2 ?_
 refine ld 2 rfl rfl ?_
 refine cl c_30 rfl (fun r4 w hr4 hO => zeE x_h.Method r4 _ (hG.own hF hO) hr4) fun r4 hr4 => ?_
 refine st 2 rfl rfl ?_
 refine ld 2 rfl rfl ?_
 refine cl c_30 rfl (fun r6 w hr6 hO => zeE x_h.Target r6 _ (hG.own hF hO) hr6) fun r6 hr6 => ?_
 refine st 2 rfl rfl ?_
 refine ld 2 rfl rfl ?_
 refine cl c_30 rfl (fun r8 w hr8 hO => zeE x_h.Reason r8 _ (hG.own hF hO) hr8) fun r8 hr8 => ?_
 refine st 2 rfl rfl ?_
 refine nl 71 2 ?_
 refine lv [1, 2] [1, 2, 3, 4] (fun J E L k => ∃ (p12 : Option Addr) (c13 : Nat) (l14 : List api_Field) (i15 : Int), J ((3, .slice p12 l14.length c13) :: (4, int i15) :: E) (.row (.slice p12 l14.length c13) 71 2 l14.length (cells zb l14) :: L) (zbn x_h r4 r6 r8 k l14 i15)) rfl (fun _ _ j => ⟨none, 0, [], 0, j rfl⟩) ?_
 rintro n1 a w ⟨p12, c13, l14, i15, hf, hO, hm⟩
 obtain _ | n1 := n1
 rw [zbn] at hm
 cases hm
 rw [zbn] at hm
 refine S.co tb ?_ hf hO hm
 refine jv 4 [1, 2, 3, 4] [0, 1, 2, 3, 4] (fun J E L => ∃ (t17 : Bool), J ((25, .bool t17) :: E) (L) (zdV (zbn x_h r4 r6 r8 n1) x_h r4 r6 r8 l14 i15 t17)) rfl ?_ ?_
 refine ld 3 rfl rfl ?_
 refine br rfl (fun hc16 => ?_) fun hc16 => ?_
 exact en rfl fun _ _ j => ⟨decide (i15 < 120), j rfl⟩
 exact en rfl fun _ _ j => ⟨false, j rfl⟩
 rintro a w ⟨t17, hf, hO, hm⟩
 rw [zdV] at hm
 refine S.co tb ?_ hf hO hm
 refine br rfl (fun hc18 => ?_) fun hc18 => ?_
 refine rc_ rfl fun a w hf hO hm => ?_
 obtain ⟨x20, hx20, hm⟩ := ob hm
 obtain ⟨b21, o22, hix20, hSx20⟩ := zbD (enc := zb) (sz := 2) (xs := x_h.Fields) 24 Tryz.underlying24 zey (by decide) (fun _ => rfl) (hO.sees (i := 4) rfl) hx20
 obtain ⟨r23, hr23, hm⟩ := ob hm
 obtain ⟨x24, hx24, hm⟩ := ob hm
 obtain ⟨b25, o26, hix24, hSx24⟩ := zbD (enc := zb) (sz := 2) (xs := x_h.Fields) 24 Tryz.underlying24 zey (by decide) (fun _ => rfl) (hO.sees (i := 4) rfl) hx24
 obtain ⟨r27, hr27, hm⟩ := ob hm
 obtain ⟨hg31, hm⟩ := og hm
 refine zeW (S := Nat × Option Addr × Nat) (E0 := [(1, ptr b1 0), (2, ptr b2 0), (3, .slice p12 l14.length c13), (4, int i15)]) (by kernel_rfl) (fun k σ w => match k with | 0 => Dk.Own w0 [] w [.row (.slice p12 l14.length c13) 71 2 l14.length (cells zb l14), .row (.slice none 0 0) 71 2 0 (cells zb []), .blk b2 [int 0, str [], str [], int 0, str [], int 0, .slice none 0 0] 29, .blk b1 [int x_h.Kind, str r4, str r6, int x_h.Code, str r8, int x_h.Minor, .slice x_h_p0 x_h.Fields.length x_h_c0] 29, .shr x_h_p0 (cells zb x_h.Fields)] | 1 => Dk.Own w0 [] w [.row (.slice p12 l14.length c13) 71 2 l14.length (cells zb l14), .row (.slice none 0 0) 71 2 0 (cells zb []), .blk b2 [int 0, str [], str [], int 0, str [], int 0, .slice none 0 0] 29, .blk b1 [int x_h.Kind, str r4, str r6, int x_h.Code, str r8, int x_h.Minor, .slice x_h_p0 x_h.Fields.length x_h_c0] 29, .shr x_h_p0 (cells zb x_h.Fields)] | 2 => Dk.Own w0 [] w [.row (.slice p12 l14.length c13) 71 2 l14.length (cells zb l14), .row (.slice none 0 0) 71 2 0 (cells zb []), .blk b2 [int 0, str [], str [], int 0, str [], int 0, .slice none 0 0] 29, .blk b1 [int x_h.Kind, str r4, str r6, int x_h.Code, str r8, int x_h.Minor, .slice x_h_p0 x_h.Fields.length x_h_c0] 29, .shr x_h_p0 (cells zb x_h.Fields)] | 3 => Dk.Own w0 [] w [.row (.slice (some ⟨(σ.1), 0, none⟩) (([(⟨r23, r27⟩ : api_Field)]).length) 1) 71 2 (([(⟨r23, r27⟩ : api_Field)]).length) (cells zb ([(⟨r23, r27⟩ : api_Field)])), .row (.slice p12 l14.length c13) 71 2 l14.length (cells zb l14), .row (.slice none 0 0) 71 2 0 (cells zb []), .blk b2 [int 0, str [], str [], int 0, str [], int 0, .slice none 0 0] 29, .blk b1 [int x_h.Kind, str r4, str r6, int x_h.Code, str r8, int x_h.Minor, .slice x_h_p0 x_h.Fields.length x_h_c0] 29, .shr x_h_p0 (cells zb x_h.Fields)] | _ => Dk.Own w0 [] w [.row (.slice (some ⟨(σ.1), 0, none⟩) (([(⟨r23, r27⟩ : api_Field)]).length) 1) 71 2 (([(⟨r23, r27⟩ : api_Field)]).length) (cells zb ([(⟨r23, r27⟩ : api_Field)])), .row (.slice (σ.2.1) ((l14 ++ [(⟨r23, r27⟩ : api_Field)]).length) (σ.2.2)) 71 2 ((l14 ++ [(⟨r23, r27⟩ : api_Field)]).length) (cells zb (l14 ++ [(⟨r23, r27⟩ : api_Field)])), .row (.slice none 0 0) 71 2 0 (cells zb []), .blk b2 [int 0, str [], str [], int 0, str [], int 0, .slice none 0 0] 29, .blk b1 [int x_h.Kind, str r4, str r6, int x_h.Code, str r8, int x_h.Minor, .slice x_h_p0 x_h.Fields.length x_h_c0] 29, .shr x_h_p0 (cells zb x_h.Fields)]) (fun σ => [⟨[(3, .slice p12 l14.length c13)], some (28, .slice p12 l14.length c13)⟩, ⟨[(1, ptr b1 0)], some (29, ptr b1 6)⟩, ⟨[(29, ptr b1 6)], some (30, .slice x_h_p0 x_h.Fields.length x_h_c0)⟩, ⟨[(4, int i15)], some (31, int i15)⟩, ⟨[(30, .slice x_h_p0 x_h.Fields.length x_h_c0), (31, int i15)], some (32, ptr b21 o22)⟩, ⟨[(32, ptr b21 o22)], some (33, ptr b21 o22)⟩, ⟨[(33, ptr b21 o22)], some (34, str x20.Name)⟩, ⟨[(34, str x20.Name)], some (35, str r23)⟩, ⟨[(1, ptr b1 0)], some (36, ptr b1 6)⟩, ⟨[(36, ptr b1 6)], some (37, .slice x_h_p0 x_h.Fields.length x_h_c0)⟩, ⟨[(4, int i15)], some (38, int i15)⟩, ⟨[(37, .slice x_h_p0 x_h.Fields.length x_h_c0), (38, int i15)], some (39, ptr b25 o26)⟩, ⟨[(39, ptr b25 o26)], some (40, ptr b25 (o26 + 1))⟩, ⟨[(40, ptr b25 (o26 + 1))], some (41, str x24.Value)⟩, ⟨[(41, str x24.Value)], some (42, str r27)⟩, ⟨[(35, str r23), (42, str r27)], some (43, .agg #[str r23, str r27])⟩, ⟨[(43, .agg #[str r23, str r27])], some (44, .slice (some ⟨(σ.1), 0, none⟩) (([(⟨r23, r27⟩ : api_Field)]).length) 1)⟩, ⟨[(28, .slice p12 l14.length c13), (44, .slice (some ⟨(σ.1), 0, none⟩) (([(⟨r23, r27⟩ : api_Field)]).length) 1)], some (45, .slice (σ.2.1) ((l14 ++ [(⟨r23, r27⟩ : api_Field)]).length) (σ.2.2))⟩, ⟨[(45, .slice (σ.2.1) ((l14 ++ [(⟨r23, r27⟩ : api_Field)]).length) (σ.2.2))], some (3, .slice (σ.2.1) ((l14 ++ [(⟨r23, r27⟩ : api_Field)]).length) (σ.2.2))⟩]) (0, none, 0) [7, 14, 16, 17] rfl (fun _ => rfl) (fun _ => rfl) (fun _ => rfl) rfl rfl (by decide) rfl hO.drew (hf.cons rfl (hf.cons rfl (hf.cons rfl (hf.cons rfl hf.nil)))) (fun σ => ⟨⟨rfl, trivial⟩, ⟨rfl, trivial⟩, ⟨rfl, trivial⟩, ⟨rfl, trivial⟩, ⟨rfl, rfl, trivial⟩, ⟨rfl, trivial⟩, ⟨rfl, trivial⟩, ⟨rfl, trivial⟩, ⟨rfl, trivial⟩, ⟨rfl, trivial⟩, ⟨rfl, trivial⟩, ⟨rfl, rfl, trivial⟩, ⟨rfl, trivial⟩, ⟨rfl, trivial⟩, ⟨rfl, trivial⟩, ⟨rfl, rfl, trivial⟩, ⟨rfl, trivial⟩, ⟨rfl, rfl, trivial⟩, ⟨rfl, trivial⟩, trivial⟩) ⟨zi rfl (fun σ => rfl) (fun σ => rfl) (fun σ a w k _ _ _ _ hf => zu hf rfl), zi rfl (fun σ => rfl) (fun σ => rfl) (fun σ a w k _ _ _ _ hf => zK zlZ hf rfl), zi rfl (fun σ => rfl) (fun σ => rfl) (fun σ a w k hk hlo hup hst hf => match k, hk, hlo, hup, hst, hf with | 0, _, _, _, hst, hf => have hO : Dk.Own w0 [] w _ := hst; ze (o := 6) zdM (hO.blkSees (i := 3) rfl) rfl hf rfl | 1, _, _, _, hst, hf => have hO : Dk.Own w0 [] w _ := hst; ze (o := 6) zdM (hO.blkSees (i := 3) rfl) rfl hf rfl | 2, _, _, _, hst, hf => have hO : Dk.Own w0 [] w _ := hst; ze (o := 6) zdM (hO.blkSees (i := 3) rfl) rfl hf rfl | 3, _, _, _, hst, hf => have hO : Dk.Own w0 [] w _ := hst; ze (o := 6) zdM (hO.blkSees (i := 4) rfl) rfl hf rfl | 4, _, _, _, hst, hf => have hO : Dk.Own w0 [] w _ := hst; ze (o := 6) zdM (hO.blkSees (i := 4) rfl) rfl hf rfl | k + 5, hk, _, _, _, _ => absurd hk (by simp)), zi rfl (fun σ => rfl) (fun σ => rfl) (fun σ a w k _ _ _ _ hf => zu hf rfl), zi rfl (fun σ => rfl) (fun σ => rfl) (fun σ a w k _ _ _ _ hf => zk hix20 hf rfl rfl), zi rfl (fun σ => rfl) (fun σ => rfl) (fun σ a w k _ _ _ _ hf => zK znR hf rfl), zi rfl (fun σ => rfl) (fun σ => rfl) (fun σ a w k hk hlo hup hst hf => match k, hk, hlo, hup, hst, hf with | 0, _, _, _, hst, hf => have hO : Dk.Own w0 [] w _ := hst; ze (o := 0) zbE (hSx20 _ (hO.sees (i := 4) rfl)) rfl hf rfl | 1, _, _, _, hst, hf => have hO : Dk.Own w0 [] w _ := hst; ze (o := 0) zbE (hSx20 _ (hO.sees (i := 4) rfl)) rfl hf rfl | 2, _, _, _, hst, hf => have hO : Dk.Own w0 [] w _ := hst; ze (o := 0) zbE (hSx20 _ (hO.sees (i := 4) rfl)) rfl hf rfl | 3, _, _, _, hst, hf => have hO : Dk.Own w0 [] w _ := hst; ze (o := 0) zbE (hSx20 _ (hO.sees (i := 5) rfl)) rfl hf rfl | 4, _, _, _, hst, hf => have hO : Dk.Own w0 [] w _ := hst; ze (o := 0) zbE (hSx20 _ (hO.sees (i := 5) rfl)) rfl hf rfl | k + 5, hk, _, _, _, _ => absurd hk (by simp)), zhJ rfl (fun σ => rfl) (fun σ => rfl) rfl (fun σ a w (_ : _) hf => zp c_30 hf (vs := [str x20.Name]) rfl) (fun σ w (hO : Dk.Own w0 [] w _) => (zeE x20.Name r23 _ (hG.own hF hO) hr23).mono fun e w' h => by obtain ⟨he, hb⟩ := h; exact ⟨((σ.1), (σ.2.1), (σ.2.2)), he, hO.grow hb, .inr rfl, .inr rfl, .inr rfl, .inr rfl, .inr rfl, .inr rfl, .inr rfl, .inr rfl, .inr rfl, .inr rfl, .inr rfl, .inr rfl, .inr rfl, .inr rfl, .inr rfl, .inr rfl, .inr rfl, .inr rfl, .inr rfl, trivial⟩), zi rfl (fun σ => rfl) (fun σ => rfl) (fun σ a w k _ _ _ _ hf => zK zlZ hf rfl), zi rfl (fun σ => rfl) (fun σ => rfl) (fun σ a w k hk hlo hup hst hf => match k, hk, hlo, hup, hst, hf with | 0, _, _, _, hst, hf => have hO : Dk.Own w0 [] w _ := hst; ze (o := 6) zdM (hO.blkSees (i := 3) rfl) rfl hf rfl | 1, _, _, _, hst, hf => have hO : Dk.Own w0 [] w _ := hst; ze (o := 6) zdM (hO.blkSees (i := 3) rfl) rfl hf rfl | 2, _, _, _, hst, hf => have hO : Dk.Own w0 [] w _ := hst; ze (o := 6) zdM (hO.blkSees (i := 3) rfl) rfl hf rfl | 3, _, _, _, hst, hf => have hO : Dk.Own w0 [] w _ := hst; ze (o := 6) zdM (hO.blkSees (i := 4) rfl) rfl hf rfl | 4, _, _, _, hst, hf => have hO : Dk.Own w0 [] w _ := hst; ze (o := 6) zdM (hO.blkSees (i := 4) rfl) rfl hf rfl | k + 5, hk, _, _, _, _ => absurd hk (by simp)), zi rfl (fun σ => rfl) (fun σ => rfl) (fun σ a w k _ _ _ _ hf => zu hf rfl), zi rfl (fun σ => rfl) (fun σ => rfl) (fun σ a w k _ _ _ _ hf => zk hix24 hf rfl rfl), zi rfl (fun σ => rfl) (fun σ => rfl) (fun σ a w k _ _ _ _ hf => zK zjA hf rfl), zi rfl (fun σ => rfl) (fun σ => rfl) (fun σ a w k hk hlo hup hst hf => match k, hk, hlo, hup, hst, hf with | 0, _, _, _, hst, hf => have hO : Dk.Own w0 [] w _ := hst; ze (o := 1) zbE (hSx24 _ (hO.sees (i := 4) rfl)) rfl hf rfl | 1, _, _, _, hst, hf => have hO : Dk.Own w0 [] w _ := hst; ze (o := 1) zbE (hSx24 _ (hO.sees (i := 4) rfl)) rfl hf rfl | 2, _, _, _, hst, hf => have hO : Dk.Own w0 [] w _ := hst; ze (o := 1) zbE (hSx24 _ (hO.sees (i := 4) rfl)) rfl hf rfl | 3, _, _, _, hst, hf => have hO : Dk.Own w0 [] w _ := hst; ze (o := 1) zbE (hSx24 _ (hO.sees (i := 5) rfl)) rfl hf rfl | 4, _, _, _, hst, hf => have hO : Dk.Own w0 [] w _ := hst; ze (o := 1) zbE (hSx24 _ (hO.sees (i := 5) rfl)) rfl hf rfl | k + 5, hk, _, _, _, _ => absurd hk (by simp)), zhJ rfl (fun σ => rfl) (fun σ => rfl) rfl (fun σ a w (_ : _) hf => zp c_30 hf (vs := [str x24.Value]) rfl) (fun σ w (hO : Dk.Own w0 [] w _) => (zeE x24.Value r27 _ (hG.own hF hO) hr27).mono fun e w' h => by obtain ⟨he, hb⟩ := h; exact ⟨((σ.1), (σ.2.1), (σ.2.2)), he, hO.grow hb, .inr rfl, .inr rfl, .inr rfl, .inr rfl, .inr rfl, .inr rfl, .inr rfl, .inr rfl, .inr rfl, .inr rfl, .inr rfl, .inr rfl, .inr rfl, .inr rfl, .inr rfl, .inr rfl, .inr rfl, .inr rfl, .inr rfl, trivial⟩), zi rfl (fun σ => rfl) (fun σ => rfl) (fun σ a w k _ _ _ _ hf => z6 (vs := [(0, str r23), (1, str r27)]) (v := .agg #[str r23, str r27]) hf rfl (by kernel_rfl)), zhq rfl (fun σ => rfl) (fun σ => rfl) rfl (fun σ w (hO : Dk.Own w0 [] w _) => by obtain ⟨b28, w', hO', hr⟩ := zeq (E := [(43, .agg #[str r23, str r27])]) (parts := #[(0, (.tmp 43))]) (t' := 24) (n := 1) (vs := [(0, .agg #[str r23, str r27])]) (cs := [str r23, str r27]) (e := 71) (sz := 2) (fun w => by kernel_rfl) rfl rfl hO rfl; exact ⟨(b28, (σ.2.1), (σ.2.2)), w', hO', ⟨.inr rfl, .inr rfl, .inr rfl, .inr rfl, .inr rfl, .inr rfl, .inr rfl, .inr rfl, .inr rfl, .inr rfl, .inr rfl, .inr rfl, .inr rfl, .inr rfl, .inr rfl, .inr rfl, .inl rfl, .inl rfl, .inr rfl, trivial⟩, hr⟩), zhq rfl (fun σ => rfl) (fun σ => rfl) rfl (fun σ w (hO : Dk.Own w0 [] w _) => by obtain ⟨p29, c30, w', hO', hr⟩ := ziv (E := [(28, .slice p12 l14.length c13), (44, .slice (some ⟨(σ.1), 0, none⟩) (([(⟨r23, r27⟩ : api_Field)]).length) 1)]) (x := (.tmp 28)) (y := (.tmp 44)) zmK (enc := zb) (xs := l14) (ys := [(⟨r23, r27⟩ : api_Field)]) (i := 1) (fun _ => rfl) rfl (hO.rowSees (i := 0) rfl) (by simp [cells, zb, Value.oneCell']) hg31 hO rfl rfl; exact ⟨((σ.1), p29, c30), w', hO', ⟨.inr rfl, .inr rfl, .inr rfl, .inr rfl, .inr rfl, .inr rfl, .inr rfl, .inr rfl, .inr rfl, .inr rfl, .inr rfl, .inr rfl, .inr rfl, .inr rfl, .inr rfl, .inr rfl, .inr rfl, .inl rfl, .inl rfl, trivial⟩, hr⟩), zi rfl (fun σ => rfl) (fun σ => rfl) (fun σ a w k _ _ _ _ hf => zb1 hf rfl), trivial⟩ ?_
 rintro ⟨b28, p29, c30⟩ a w hf hO
 have hO : Dk.Own w0 [] w _ := hO
 have hf : Fits 49 [(1, ptr b1 0), (2, ptr b2 0), (3, .slice p29 ((l14 ++ [(⟨r23, r27⟩ : api_Field)]).length) c30), (4, int i15)] a := (hf.cons rfl (hf.cons rfl (hf.cons rfl (hf.cons rfl hf.nil))))
 refine S.no tb ?_ hf hO hm
 refine bi rfl fun i33 hi33 => ?_
 exact ec [1, 2, 3, 4, 5] rfl rfl rfl fun _ _ j => ⟨_, Nat.lt_succ_self _, p29, c30, l14 ++ [(⟨r23, r27⟩ : api_Field)], i33, j rfl⟩
 refine st 3 rfl rfl ?_
 refine ld 3 rfl rfl ?_
 refine st 2 rfl rfl ?_
 refine re_ rfl fun a w hf hO hm => ?_
 obtain rfl := Option.some.inj hm
 exact zs Tryz.results9 hf (.cell rfl (zcZ (n := 7) (vs := [int x_h.Kind, str r4, str r6, int x_h.Code, str r8, int x_h.Minor, .slice p12 l14.length c13]) ag_29 sz_29 rfl ((hO.blkSees (i := 2) rfl).cells (o := 0) (n := 7) rfl)) .nil) ⟨p12, c13, rfl, (hO.sub (.cons_cons _ (.cons _ (.cons _ (.cons _ (.cons _ .slnil))))))⟩

theorem zil (x_sep : Str) (x_l : List Str) (R : Str) (w0 : World) (hG : zw w0) {x_l_p0 : Option Addr} {x_l_c0 : Nat} (hs0 : zH w0 x_l_p0 (cells zg x_l)) (hc0 : x_l.length ≤ x_l_c0) (hm : zei x_sep x_l = some R) :
    Calls Tryz.prog 53 #[str x_sep, .slice x_l_p0 x_l.length x_l_c0] w0 (Ret w0 (fun R => str R) R) := by
 rw [zei] at hm
 have hF : zG [] := zf
 have hO : Dk.Own w0 [] w0 [] := Dk.Own.refl w0
 have hO := hO.addShr hs0 (by simp [Res.shared])
 refine S.enter tb Tryz.func53 rfl Tryz.ntmps53 rfl ?_ hO hm
 refine cl c_89 rfl (fun r2 w hr2 hO => zks x_l x_sep r2 _ (hG.own hF hO) (hO.sees (i := 0) rfl) hc0 hr2) fun r2 hr2 => ?_
 exact rt Tryz.results53 rfl

theorem zbh (x_s : List api_Field) (R : List api_Field) (w0 : World) (hG : zw w0) {x_s_p0 : Option Addr} {x_s_c0 : Nat} (hs0 : zH w0 x_s_p0 (cells zb x_s)) (hc0 : x_s.length ≤ x_s_c0) (hm : zB x_s = some R) :
    Calls Tryz.prog 54 #[.slice x_s_p0 x_s.length x_s_c0] w0 fun e w' => ∃ (p0 : Option Addr) (c0 : Nat), e = .returned (.slice p0 R.length c0) ∧ Dk.Own w0 [] w' [.row (.slice p0 R.length c0) 71 2 R.length (cells zb R)] := by
 rw [zB] at hm
 have hF : zG [] := zf
 have hO : Dk.Own w0 [] w0 [] := Dk.Own.refl w0
 have hO := hO.addShr hs0 (by simp [Res.shared])
 refine S.enter tb Tryz.func54 rfl Tryz.ntmps54 rfl ?_ hO hm
 refine nl 71 2 ?_
 refine vl rfl rfl (fun a w hf hO => zok (ad := x_s_p0) Tryz.underlying24 hf rfl rfl) ?_
 refine rc_ rfl fun a w hf hO hm => ?_
 rcases zf8 (x_s_p0.isNone) with hc3 | hc3
 have hxhc3 : x_s = [] := zol (enc := zb) (sz := 2) (fun _ => rfl) (by decide) (hO.sees (i := 1) rfl) hc3
 rw [hxhc3] at hm
 have hm : some [] = some R := by first | exact hm | (rw [hxhc3]; exact hm) | simpa [hxhc3] using hm
 refine zoc hf rfl hc3 ?_
 refine S.co tb ?_ hf hO hm
 refine nl 71 2 ?_
 refine re_ rfl fun a w hf hO hm => ?_
 obtain rfl := Option.some.inj hm
 exact zs Tryz.results54 hf (.tmp rfl .nil) ⟨none, 0, rfl, (hO.sub (.cons_cons _ (.cons _ (.cons _ .slnil))))⟩
 refine zod hf rfl hc3 ?_
 refine S.co tb ?_ hf hO hm
 refine rw_ rfl fun a w hf hO hm => ?_
 refine zn (vs := []) (cs := []) (e := 71) (sz := 2) hf rfl rfl (fun w => by kernel_rfl) rfl rfl hO fun a b6 w hf hO => ?_
 refine S.op tb ?_ hf hO hm
 refine rw_ rfl fun a w hf hO hm => ?_
 obtain ⟨hg9, hm⟩ := og hm
 refine zhv zmK (enc := zb) (xs := []) (ys := x_s) (i := 0) (fun _ => rfl) rfl (hO.sees (i := 2) rfl) (by simp [zb, Value.oneCell']) hg9 hf rfl rfl rfl hO fun a p7 c8 w hf hO => ?_
 refine S.op tb ?_ hf hO hm
 refine re_ rfl fun a w hf hO hm => ?_
 obtain rfl := Option.some.inj hm
 exact zs Tryz.results54 hf (.tmp rfl .nil) ⟨p7, c8, rfl, (hO.sub (.cons_cons _ (.cons _ (.cons _ .slnil))))⟩

theorem zoG (x_l : List api_Field) (R : bag_Bag) (w0 : World) (hG : zw w0) {x_l_p0 : Option Addr} {x_l_c0 : Nat} (hs0 : zH w0 x_l_p0 (cells zb x_l)) (hc0 : x_l.length ≤ x_l_c0) (hm : zjE x_l = some R) :
    Calls Tryz.prog 32 #[.slice x_l_p0 x_l.length x_l_c0] w0 fun e w' => ∃ (b0 : Nat) (p1 : Option Addr) (c1 : Nat), e = .returned (ptr b0 0) ∧ Dk.Own w0 [] w' [.blk b0 [.slice p1 R.f_l.length c1] 100, .row (.slice p1 R.f_l.length c1) 71 2 R.f_l.length (cells zb R.f_l)] := by
 rw [zjE] at hm
 have hF : zG [] := zf
 have hO : Dk.Own w0 [] w0 [] := Dk.Own.refl w0
 have hO := hO.addShr hs0 (by simp [Res.shared])
 refine S.enter tb Tryz.func32 rfl Tryz.ntmps32 rfl ?_ hO hm
 refine rw_ rfl fun a w hf hO hm => ?_
 obtain ⟨r2, hr2, hm⟩ := ob hm
 refine zo (zp c_54 hf (vs := [.slice x_l_p0 x_l.length x_l_c0]) rfl) rfl hf rfl rfl (zbh x_l r2 _ (hG.own hF hO) (hO.sees (i := 0) rfl) hc0 hr2) ?_
 rintro e w' ⟨p3, c4, he, hO'⟩
 refine ⟨_, he, fun a hf => ?_⟩
 have hO := hO.call hO' (by simp [Res.shared])
 refine S.op tb ?_ hf hO hm
 refine vl rfl rfl (fun a w hf hO => z6 (vs := [(0, .slice p3 r2.length c4)]) (v := .agg #[.slice p3 r2.length c4]) hf rfl (by kernel_rfl)) ?_
 refine bo rfl fun b5 => ?_
 refine re_ rfl fun a w hf hO hm => ?_
 obtain rfl := Option.some.inj hm
 exact zs Tryz.results32 hf (.tmp rfl .nil) ⟨b5, p3, c4, rfl, (hO.sub (.cons_cons _ (.cons_cons _ (.cons _ .slnil))))⟩

set_option maxHeartbeats 4000000 in
set_option maxRecDepth 100000 in
theorem zoH (s : ByteArray) (R : Str) (w0 : World) (hG : zw w0) (hsz : s.size < 4294967281) (hm : s.data.toList.mapM zab = some R)
    (hlow : ∀ b c w, zab b = some c → zw w → Calls Tryz.prog 128 #[.int .u8 (b.toNat : Int)] w fun e w' => e = .returned (.int .u8 (c.toNat : Int)) ∧ Below w.heap.size w w') :
    Calls Tryz.prog 90 #[.string s] w0 fun e w' => e = .returned (.string ⟨R.toArray⟩) ∧ Below w0.heap.size w0 w' := by
  obtain ⟨hlen, hat⟩ := mapM_at hm
  have HL : Aside (R.length = s.size) := hlen.trans (Lib.size_eq s).symm
  have HT : Aside (∀ (i : Nat) (a : UInt8), s.data.toList[i]? = some a → ∃ b, R[i]? = some b ∧ zab a = some b) := hat
  clear hlen hat hm
  have hcv := fun w => run_bytes_of_string (P := Tryz.prog) w 9 159 5 s Tryz.underlying9 Tryz.underlying159 Tryz.underlying5
  go_enter Tryz.func90, Tryz.ntmps90
  go_wp2
  go_loopg [4, 5, 10] s.size (fun g _ _ v wx => ∃ i : Nat, i + g = s.size ∧ v = .int .i64 (i : Int) ∧ Below w0.heap.size w0 wx ∧ ∃ (cur : Array Value) (fz : Nat × Nat), wx.heap[w0.heap.size]? = some (.cells cur 5 fz) ∧ cur.size ≤ fz.1 ∧ s.size ≤ cur.size ∧ ∀ j, j < s.size → cur[j]? = ((if j < i then R[j]? else s.data.toList[j]?).map zR))
  case atStart =>
    have hrow : (bytesRow s (grownCap w0 s.size 0 5)).size = s.size + (grownCap w0 s.size 0 5 - s.size) := by
      have := Lib.size_eq s
      unfold bytesRow
      rw [Array.size_append, Array.size_map, Array.size_replicate]
      rfl
    refine ⟨0, by omega, rfl, ((Below.refl _ _).alloc (Nat.le_refl _) _).drew, _, _, zjK _, Nat.le_refl _, ?_, fun j hj => ?_⟩
    · omega
    · rw [if_neg (by omega)]
      unfold bytesRow
      rw [Array.getElem?_append_left (by simp [← Lib.size_eq]; exact hj), Array.getElem?_map]
      congr 1
      exact (Array.getElem?_toList ..).symm
  case round =>
    obtain ⟨i, hig, rfl, hB, cur, fz, hcur, hfz, hsc, hcell⟩ := hrel
    have HG : Aside (zw wr) := hG.own zf ((Dk.Own.refl w0).grow hB)
    have HB : Aside (Below w0.heap.size w0 wr) := hB
    have HC : Aside (wr.heap[w0.heap.size]? = some (.cells cur 5 fz)) := hcur
    have HF : Aside (cur.size ≤ fz.1 ∧ s.size ≤ cur.size) := ⟨hfz, hsc⟩
    have HX : Aside (∀ j, j < s.size → cur[j]? = ((if j < i then R[j]? else s.data.toList[j]?).map zR)) := hcell
    clear hB hcell hfz hsc hcur
    by_cases hi : i < s.size
    · obtain ⟨x, hx⟩ : ∃ x, s.data.toList[i]? = some x := ⟨_, Lib.data_getElem? s i hi⟩
      obtain ⟨y, hyR, hy⟩ := HT.out i x hx
      have hcx : wr.cell? ⟨w0.heap.size, i, none⟩ = some (.int .u8 (x.toNat : Int)) := by
        have := HX.out i hi
        rw [if_neg (by omega), hx] at this
        simp [World.cell?, HC.out, this]
      have hfr : wr.frozen? ⟨w0.heap.size, i, none⟩ = false := by
        have := HF.out
        simp [World.frozen?, HC.out]; omega
      have hii : (i : Int) < (s.size : Int) := by omega
      have HY : Aside (R[i]? = some y) := hyR
      have HO : Aside (zab x = some y) := hy
      clear hyR hy hx
      go_wp2_with (go_at_call 128; refine (hlow x y _ HO.out HG.out).mono ?_; rintro e w' ⟨rfl, hb⟩; have hcx' : w'.cell? ⟨w0.heap.size, i, none⟩ = some (.int .u8 (x.toNat : Int)) := (hb.cell (p := ⟨w0.heap.size, i, none⟩) (Array.getElem?_eq_some_iff.1 HC.out).1).trans hcx; have hfr' : w'.frozen? ⟨w0.heap.size, i, none⟩ = false := (hb.frozen (p := ⟨w0.heap.size, i, none⟩) (Array.getElem?_eq_some_iff.1 HC.out).1).trans hfr)
      go_roundg (gk - 1)
      case measure => omega
      case rel =>
        have hlt := (Array.getElem?_eq_some_iff.1 HC.out).1
        have hcw : w'.heap[w0.heap.size]? = some (.cells cur 5 fz) := (hb.block _ hlt).trans HC.out
        refine ⟨i + 1, by omega, rfl, ?_, cur.setIfInBounds i (.int .u8 (y.toNat : Int)), fz, ?_, ?_, ?_, fun j hj => ?_⟩
        · exact (HB.out.trans (hb.mono HB.out.size)).setCell (p := ⟨w0.heap.size, i, none⟩) (Nat.le_refl _) _
        · simp [World.setCell, Array.getElem?_modify, hcw]
        · have := HF.out; simp; omega
        · have := HF.out; simp; omega
        · by_cases hji : j = i
          · subst hji
            have := HF.out
            rw [if_pos (by omega), HY.out, Array.getElem?_setIfInBounds_self_of_lt (by omega)]
            rfl
          · rw [Array.getElem?_setIfInBounds_ne (Ne.symm hji), HX.out j hj]
            by_cases h2 : j < i
            · rw [if_pos h2, if_pos (by omega)]
            · rw [if_neg h2, if_neg (by omega)]
    · have hsi : i = s.size := by omega
      have hbk : ∀ w, wr.heap = w.heap → (convert 159 9 (.slice (some ⟨w0.heap.size, 0, none⟩) s.size (grownCap w0 s.size 0 5))).run Tryz.prog w = .ok (.string ⟨R.toArray⟩) w := by
        intro w hw
        have := run_convert_bytes_back (P := Tryz.prog) w 159 9 5 ⟨w0.heap.size, 0, none⟩ (grownCap w0 s.size 0 5) R Tryz.underlying159 Tryz.underlying5 Tryz.underlying9 (fun j hj => by
          have hjs : j < s.size := by rw [← HL.out]; exact hj
          have h1 := HX.out j hjs
          rw [if_pos (by omega), List.getElem?_eq_getElem hj] at h1
          rw [zoA]
          simp [World.cell?, ← hw, HC.out, h1])
        rw [HL.out] at this
        exact this
      have hni : ¬ ((i : Int) < (s.size : Int)) := by omega
      have hbk1 := hbk wr rfl
      go_wp2
      go_ret
      exact ⟨rfl, HB.out⟩

theorem zim (x_s : Str) (R : Str) (w0 : World) (hG : zw w0) (hm : zej x_s = some R) :
    Calls Tryz.prog 90 #[str x_s] w0 fun e w' => e = .returned (str R) ∧ Below w0.heap.size w0 w' := by
  unfold zej at hm
  split at hm
  · rename_i h
    exact zoH ⟨x_s.toArray⟩ R w0 hG h hm fun b c w hbc hGw => zcv b c w hGw hbc
  · cases hm

theorem zin (x_a : Str) (x_b : Str) (R : Bool) (w0 : World) (hG : zw w0) (hm : zbB x_a x_b = some R) :
    Calls Tryz.prog 55 #[str x_a, str x_b] w0 (Ret w0 (fun R => .bool R) R) := by
 rw [zbB] at hm
 have hF : zG [] := zf
 have hO : Dk.Own w0 [] w0 [] := Dk.Own.refl w0
 refine S.enter tb Tryz.func55 rfl Tryz.ntmps55 rfl ?_ hO hm
 refine cl c_90 rfl (fun r2 w hr2 hO => zim x_a r2 _ (hG.own hF hO) hr2) fun r2 hr2 => ?_
 refine cl c_90 rfl (fun r3 w hr3 hO => zim x_b r3 _ (hG.own hF hO) hr3) fun r3 hr3 => ?_
 exact rt Tryz.results55 rfl

theorem zhn (x_l : List Str) (R : Str) (w0 : World) (hG : zw w0) {x_l_p0 : Option Addr} {x_l_c0 : Nat} (hs0 : zH w0 x_l_p0 (cells zg x_l)) (hc0 : x_l.length ≤ x_l_c0) (hm : zcd x_l = some R) :
    Calls Tryz.prog 92 #[.slice x_l_p0 x_l.length x_l_c0] w0 (Ret w0 (fun R => str R) R) := by
 rw [zcd] at hm
 have hF : zG [] := zf
 have hO : Dk.Own w0 [] w0 [] := Dk.Own.refl w0
 have hO := hO.addShr hs0 (by simp [Res.shared])
 refine S.enter tb Tryz.func92 rfl Tryz.ntmps92 rfl ?_ hO hm
 refine cl c_53 rfl (fun r2 w hr2 hO => zil [44, 32] x_l r2 _ (hG.own hF hO) (hO.sees (i := 0) rfl) hc0 hr2) fun r2 hr2 => ?_
 exact rt Tryz.results92 rfl

theorem zjt (x_s : Str) (x_l : List Str) (R : Str) (w0 : World) (hG : zw w0) {x_l_p0 : Option Addr} {x_l_c0 : Nat} (hs0 : zH w0 x_l_p0 (cells zg x_l)) (hc0 : x_l.length ≤ x_l_c0) (hm : zdg x_s x_l = some R) :
    Calls Tryz.prog 56 #[str x_s, .slice x_l_p0 x_l.length x_l_c0] w0 (Ret w0 (fun R => str R) R) := by
 rw [zdg] at hm
 have hF : zG [] := zf
 have hO : Dk.Own w0 [] w0 [] := Dk.Own.refl w0
 have hO := hO.addShr hs0 (by simp [Res.shared])
 refine S.enter tb Tryz.func56 rfl Tryz.ntmps56 rfl ?_ hO hm
 refine br rfl (fun hc3 => ?_) fun hc3 => ?_
 exact rt Tryz.results56 rfl
 refine cl c_91 rfl (fun r5 w hr5 hO => zgK x_s [32, 9, 44] r5 _ (hG.own hF hO) hr5) fun r5 hr5 => ?_
 refine br rfl (fun hc7 => ?_) fun hc7 => ?_
 refine cl c_92 rfl (fun r8 w hr8 hO => zhn x_l r8 _ (hG.own hF hO) (hO.sees (i := 0) rfl) hc0 hr8) fun r8 hr8 => ?_
 exact rt Tryz.results56 rfl
 refine cl c_93 rfl (fun r11 w hr11 hO => zg2 x_s [32, 9] r11 _ (hG.own hF hO) hr11) fun r11 hr11 => ?_
 refine rw_ rfl fun a w hf hO hm => ?_
 refine zn (vs := [(0, str r11)]) (cs := [str r11]) (e := 9) (sz := 1) hf rfl rfl (fun w => by kernel_rfl) rfl rfl hO fun a b12 w hf hO => ?_
 refine S.op tb ?_ hf hO hm
 refine rw_ rfl fun a w hf hO hm => ?_
 obtain ⟨hg15, hm⟩ := og hm
 refine zhv zlq (enc := zg) (xs := ([r11] : List Str)) (ys := x_l) (i := 0) (fun _ => rfl) rfl (hO.sees (i := 1) rfl) (by simp [zg, Value.oneCell']) hg15 hf rfl rfl rfl hO fun a p13 c14 w hf hO => ?_
 refine S.op tb ?_ hf hO hm
 refine cl c_92 rfl (fun r16 w hr16 hO => zhn (([r11] : List Str) ++ x_l) r16 _ (hG.own hF hO) (hO.rowSees (i := 0) rfl) (hO.rowCap (i := 0) rfl) hr16) fun r16 hr16 => ?_
 exact rt Tryz.results56 rfl

theorem zk7 (x_b : bag_Bag) (x_l : List api_Field) (R : bag_Bag) (w0 : World) (hG : zw w0) {x_b_b0 : Nat} {x_b_p1 : Option Addr} {x_b_c1 : Nat} {x_l_p2 : Option Addr} {x_l_c2 : Nat} {F : List Nat} (hF : zG F) (hO : Dk.Own w0 F w0 [.blk x_b_b0 [.slice x_b_p1 x_b.f_l.length x_b_c1] 100, .row (.slice x_b_p1 x_b.f_l.length x_b_c1) 71 2 x_b.f_l.length (cells zb x_b.f_l), .shr x_l_p2 (cells zb x_l)]) (hcw0 : x_l.length ≤ x_l_c2) (hm : zfo x_b x_l = some R) :
    Calls Tryz.prog 57 #[ptr x_b_b0 0, .slice x_l_p2 x_l.length x_l_c2] w0 fun e w' => ∃ (p0 : Option Addr) (c0 : Nat), e = .returned (.tuple #[]) ∧ Dk.Own w0 F w' [.blk x_b_b0 [.slice p0 R.f_l.length c0] 100, .row (.slice p0 R.f_l.length c0) 71 2 R.f_l.length (cells zb R.f_l)] := by
 rw [zfo] at hm
 refine S.enter tb Tryz.func57 rfl Tryz.ntmps57 rfl ?_ hO hm
 refine vl rfl rfl (fun a w hf hO => zlh Tryz.underlying74 hf rfl rfl) ?_
 refine kn (b' := true) rfl rfl ?_
 refine ld 0 rfl rfl ?_
 refine rw_ rfl fun a w hf hO hm => ?_
 obtain ⟨hg4, hm⟩ := og hm
 refine zhv zmK (enc := zb) (xs := x_b.f_l) (ys := x_l) (i := 1) (fun _ => rfl) rfl (hO.sees (i := 2) rfl) (by simp [zb, Value.oneCell']) hg4 hf rfl rfl rfl hO fun a p2 c3 w hf hO => ?_
 refine S.op tb ?_ hf hO hm
 refine st 0 rfl rfl ?_
 refine rn_ rfl fun a w hf hO hm => ?_
 obtain rfl := Option.some.inj hm
 exact zh3 Tryz.results57 hf .nil ⟨p2, c3, rfl, (hO.sub (.cons_cons _ (.cons_cons _ (.cons _ .slnil))))⟩

theorem ziT (x_b : bag_Bag) (x_name : Str) (x_element : Str) (R : bag_Bag) (w0 : World) (hG : zw w0) {x_b_b0 : Nat} {x_b_p1 : Option Addr} {x_b_c1 : Nat} {F : List Nat} (hF : zG F) (hO : Dk.Own w0 F w0 [.blk x_b_b0 [.slice x_b_p1 x_b.f_l.length x_b_c1] 100, .row (.slice x_b_p1 x_b.f_l.length x_b_c1) 71 2 x_b.f_l.length (cells zb x_b.f_l)]) (hm : zcM x_b x_name x_element = some R) :
    Calls Tryz.prog 33 #[ptr x_b_b0 0, str x_name, str x_element] w0 fun e w' => ∃ (p0 : Option Addr) (c0 : Nat), e = .returned (.tuple #[]) ∧ Dk.Own w0 F w' [.blk x_b_b0 [.slice p0 R.f_l.length c0] 100, .row (.slice p0 R.f_l.length c0) 71 2 R.f_l.length (cells zb R.f_l)] := by
 rw [zcM] at hm
 refine S.enter tb Tryz.func33 rfl Tryz.ntmps33 rfl ?_ hO hm
 refine vl rfl rfl (fun a w hf hO => zfz Tryz.underlying74 hf rfl rfl) ?_
 refine kn (b' := false) rfl rfl ?_
 refine ld 0 rfl rfl ?_
 refine bi rfl fun i3 hi3 => ?_
 refine lv [0, 1, 2] [0, 1] (fun J E L k => ∃ (i5 : Int), J ((6, int i5) :: E) (L) (zac x_b x_name x_element k i5)) rfl (fun _ _ j => ⟨i3, j rfl⟩) ?_
 rintro n1 a w ⟨i5, hf, hO, hm⟩
 obtain _ | n1 := n1
 rw [zac] at hm
 cases hm
 rw [zac] at hm
 refine S.co tb ?_ hf hO hm
 refine br rfl (fun hc7 => ?_) fun hc7 => ?_
 refine ld 0 rfl rfl ?_
 refine rw_ rfl fun a w hf hO hm => ?_
 obtain ⟨x9, hx9, hm⟩ := ob hm
 obtain ⟨b10, o11, hix9, hSx9, hAx9⟩ := zbF (enc := zb) (sz := 2) (xs := x_b.f_l) 24 Tryz.underlying24 zey (by decide) (fun _ => rfl) hO (i := 1) rfl hx9
 refine zaB (zk hix9 hf rfl rfl) rfl hf rfl rfl fun a hf => ?_
 refine S.op tb ?_ hf hO hm
 refine vl rfl rfl (fun a w hf hO => ze (o := 0) zbE (hSx9 _ (hO.rowSees (i := 1) rfl)) rfl hf rfl) ?_
 refine cl c_55 rfl (fun r12 w hr12 hO => zin x9.Name x_name r12 _ (hG.own hF hO) hr12) fun r12 hr12 => ?_
 refine br rfl (fun hc14 => ?_) fun hc14 => ?_
 refine rc_ rfl fun a w hf hO hm => ?_
 obtain ⟨x15, hx15, hm⟩ := ob hm
 obtain ⟨b16, o17, hix15, hSx15, hAx15⟩ := zbF (enc := zb) (sz := 2) (xs := x_b.f_l) 24 Tryz.underlying24 zey (by decide) (fun _ => rfl) hO (i := 1) rfl hx15
 obtain ⟨r19, hr19, hm⟩ := ob hm
 obtain ⟨x20, hx20, hm⟩ := ob hm
 obtain ⟨b21, o22, hix20, hSx20, hAx20⟩ := zbF (enc := zb) (sz := 2) (xs := x_b.f_l) 24 Tryz.underlying24 zey (by decide) (fun _ => rfl) hO (i := 1) rfl hx20
 obtain ⟨l23, hl23, hm⟩ := ob hm
 have hlnl23 := zo5 hl23
 refine zeW (S := Nat) (E0 := [(0, ptr x_b_b0 0), (2, str x_element), (6, int i5)]) (by kernel_rfl) (fun k σ w => match k with | 0 => Dk.Own w0 F w [.blk x_b_b0 [.slice x_b_p1 x_b.f_l.length x_b_c1] 100, .row (.slice x_b_p1 x_b.f_l.length x_b_c1) 71 2 x_b.f_l.length (cells zb x_b.f_l)] | 1 => Dk.Own w0 F w [.row (.slice (some ⟨σ, 0, none⟩) (([x_element] : List Str).length) 1) 9 1 (([x_element] : List Str).length) (cells zg ([x_element] : List Str)), .blk x_b_b0 [.slice x_b_p1 x_b.f_l.length x_b_c1] 100, .row (.slice x_b_p1 x_b.f_l.length x_b_c1) 71 2 x_b.f_l.length (cells zb x_b.f_l)] | 2 => Dk.Own w0 F w [.row (.slice (some ⟨σ, 0, none⟩) (([x_element] : List Str).length) 1) 9 1 (([x_element] : List Str).length) (cells zg ([x_element] : List Str)), .blk x_b_b0 [.slice x_b_p1 x_b.f_l.length x_b_c1] 100, .row (.slice x_b_p1 x_b.f_l.length x_b_c1) 71 2 x_b.f_l.length (cells zb x_b.f_l)] | _ => Dk.Own w0 F w [.row (.slice (some ⟨σ, 0, none⟩) (([x_element] : List Str).length) 1) 9 1 (([x_element] : List Str).length) (cells zg ([x_element] : List Str)), .blk x_b_b0 [.slice x_b_p1 x_b.f_l.length x_b_c1] 100, .row (.slice x_b_p1 x_b.f_l.length x_b_c1) 71 2 x_b.f_l.length (cells zb l23)]) (fun σ => [⟨[(0, ptr x_b_b0 0)], some (29, ptr x_b_b0 0)⟩, ⟨[(29, ptr x_b_b0 0)], some (30, ptr x_b_b0 0)⟩, ⟨[(30, ptr x_b_b0 0)], some (31, ptr x_b_b0 0)⟩, ⟨[(31, ptr x_b_b0 0)], some (32, .slice x_b_p1 x_b.f_l.length x_b_c1)⟩, ⟨[(6, int i5)], some (33, int i5)⟩, ⟨[(0, ptr x_b_b0 0)], some (34, ptr x_b_b0 0)⟩, ⟨[(34, ptr x_b_b0 0)], some (35, ptr x_b_b0 0)⟩, ⟨[(35, ptr x_b_b0 0)], some (36, ptr x_b_b0 0)⟩, ⟨[(36, ptr x_b_b0 0)], some (37, .slice x_b_p1 x_b.f_l.length x_b_c1)⟩, ⟨[(6, int i5)], some (38, int i5)⟩, ⟨[(37, .slice x_b_p1 x_b.f_l.length x_b_c1), (38, int i5)], some (39, ptr b16 o17)⟩, ⟨[(39, ptr b16 o17)], some (40, ptr b16 (o17 + 1))⟩, ⟨[(40, ptr b16 (o17 + 1))], some (41, str x15.Value)⟩, ⟨[(2, str x_element)], some (42, str x_element)⟩, ⟨[(42, str x_element)], some (43, .slice (some ⟨σ, 0, none⟩) (([x_element] : List Str).length) 1)⟩, ⟨[(41, str x15.Value), (43, .slice (some ⟨σ, 0, none⟩) (([x_element] : List Str).length) 1)], some (44, str r19)⟩, ⟨[(32, .slice x_b_p1 x_b.f_l.length x_b_c1), (33, int i5)], some (45, ptr b21 o22)⟩, ⟨[(45, ptr b21 o22)], some (46, ptr b21 (o22 + 1))⟩, ⟨[(44, str r19), (46, ptr b21 (o22 + 1))], none⟩]) (0) [14, 15, 18] rfl (fun _ => rfl) (fun _ => rfl) (fun _ => rfl) rfl rfl (by decide) rfl hO.drew (hf.cons rfl (hf.cons rfl (hf.cons rfl hf.nil))) (fun σ => ⟨⟨rfl, trivial⟩, ⟨rfl, trivial⟩, ⟨rfl, trivial⟩, ⟨rfl, trivial⟩, ⟨rfl, trivial⟩, ⟨rfl, trivial⟩, ⟨rfl, trivial⟩, ⟨rfl, trivial⟩, ⟨rfl, trivial⟩, ⟨rfl, trivial⟩, ⟨rfl, rfl, trivial⟩, ⟨rfl, trivial⟩, ⟨rfl, trivial⟩, ⟨rfl, trivial⟩, ⟨rfl, trivial⟩, ⟨rfl, rfl, trivial⟩, ⟨rfl, rfl, trivial⟩, ⟨rfl, trivial⟩, ⟨rfl, rfl, trivial⟩, trivial⟩) ⟨zi rfl (fun σ => rfl) (fun σ => rfl) (fun σ a w k _ _ _ _ hf => zu hf rfl), zi rfl (fun σ => rfl) (fun σ => rfl) (fun σ a w k _ _ _ _ hf => za2 hf rfl), zi rfl (fun σ => rfl) (fun σ => rfl) (fun σ a w k _ _ _ _ hf => zK zkc hf rfl), zi rfl (fun σ => rfl) (fun σ => rfl) (fun σ a w k hk hlo hup hst hf => match k, hk, hlo, hup, hst, hf with | 0, _, _, _, hst, hf => have hO : Dk.Own w0 F w [.blk x_b_b0 [.slice x_b_p1 x_b.f_l.length x_b_c1] 100, .row (.slice x_b_p1 x_b.f_l.length x_b_c1) 71 2 x_b.f_l.length (cells zb x_b.f_l)] := hst; ze (o := 0) zdM (hO.blkSees (i := 0) rfl) rfl hf rfl | 1, _, _, _, hst, hf => have hO : Dk.Own w0 F w [.row (.slice (some ⟨σ, 0, none⟩) (([x_element] : List Str).length) 1) 9 1 (([x_element] : List Str).length) (cells zg ([x_element] : List Str)), .blk x_b_b0 [.slice x_b_p1 x_b.f_l.length x_b_c1] 100, .row (.slice x_b_p1 x_b.f_l.length x_b_c1) 71 2 x_b.f_l.length (cells zb x_b.f_l)] := hst; ze (o := 0) zdM (hO.blkSees (i := 1) rfl) rfl hf rfl | 2, _, _, _, hst, hf => have hO : Dk.Own w0 F w [.row (.slice (some ⟨σ, 0, none⟩) (([x_element] : List Str).length) 1) 9 1 (([x_element] : List Str).length) (cells zg ([x_element] : List Str)), .blk x_b_b0 [.slice x_b_p1 x_b.f_l.length x_b_c1] 100, .row (.slice x_b_p1 x_b.f_l.length x_b_c1) 71 2 x_b.f_l.length (cells zb x_b.f_l)] := hst; ze (o := 0) zdM (hO.blkSees (i := 1) rfl) rfl hf rfl | 3, _, _, _, hst, hf => have hO : Dk.Own w0 F w [.row (.slice (some ⟨σ, 0, none⟩) (([x_element] : List Str).length) 1) 9 1 (([x_element] : List Str).length) (cells zg ([x_element] : List Str)), .blk x_b_b0 [.slice x_b_p1 x_b.f_l.length x_b_c1] 100, .row (.slice x_b_p1 x_b.f_l.length x_b_c1) 71 2 x_b.f_l.length (cells zb l23)] := hst; ze (o := 0) zdM (hO.blkSees (i := 1) rfl) rfl hf rfl | k + 4, hk, _, _, _, _ => absurd hk (by simp)), zi rfl (fun σ => rfl) (fun σ => rfl) (fun σ a w k _ _ _ _ hf => zu hf rfl), zi rfl (fun σ => rfl) (fun σ => rfl) (fun σ a w k _ _ _ _ hf => zu hf rfl), zi rfl (fun σ => rfl) (fun σ => rfl) (fun σ a w k _ _ _ _ hf => za2 hf rfl), zi rfl (fun σ => rfl) (fun σ => rfl) (fun σ a w k _ _ _ _ hf => zK zkc hf rfl), zi rfl (fun σ => rfl) (fun σ => rfl) (fun σ a w k hk hlo hup hst hf => match k, hk, hlo, hup, hst, hf with | 0, _, _, _, hst, hf => have hO : Dk.Own w0 F w [.blk x_b_b0 [.slice x_b_p1 x_b.f_l.length x_b_c1] 100, .row (.slice x_b_p1 x_b.f_l.length x_b_c1) 71 2 x_b.f_l.length (cells zb x_b.f_l)] := hst; ze (o := 0) zdM (hO.blkSees (i := 0) rfl) rfl hf rfl | 1, _, _, _, hst, hf => have hO : Dk.Own w0 F w [.row (.slice (some ⟨σ, 0, none⟩) (([x_element] : List Str).length) 1) 9 1 (([x_element] : List Str).length) (cells zg ([x_element] : List Str)), .blk x_b_b0 [.slice x_b_p1 x_b.f_l.length x_b_c1] 100, .row (.slice x_b_p1 x_b.f_l.length x_b_c1) 71 2 x_b.f_l.length (cells zb x_b.f_l)] := hst; ze (o := 0) zdM (hO.blkSees (i := 1) rfl) rfl hf rfl | 2, _, _, _, hst, hf => have hO : Dk.Own w0 F w [.row (.slice (some ⟨σ, 0, none⟩) (([x_element] : List Str).length) 1) 9 1 (([x_element] : List Str).length) (cells zg ([x_element] : List Str)), .blk x_b_b0 [.slice x_b_p1 x_b.f_l.length x_b_c1] 100, .row (.slice x_b_p1 x_b.f_l.length x_b_c1) 71 2 x_b.f_l.length (cells zb x_b.f_l)] := hst; ze (o := 0) zdM (hO.blkSees (i := 1) rfl) rfl hf rfl | 3, _, _, _, hst, hf => have hO : Dk.Own w0 F w [.row (.slice (some ⟨σ, 0, none⟩) (([x_element] : List Str).length) 1) 9 1 (([x_element] : List Str).length) (cells zg ([x_element] : List Str)), .blk x_b_b0 [.slice x_b_p1 x_b.f_l.length x_b_c1] 100, .row (.slice x_b_p1 x_b.f_l.length x_b_c1) 71 2 x_b.f_l.length (cells zb l23)] := hst; ze (o := 0) zdM (hO.blkSees (i := 1) rfl) rfl hf rfl | k + 4, hk, _, _, _, _ => absurd hk (by simp)), zi rfl (fun σ => rfl) (fun σ => rfl) (fun σ a w k _ _ _ _ hf => zu hf rfl), zi rfl (fun σ => rfl) (fun σ => rfl) (fun σ a w k _ _ _ _ hf => zk hix15 hf rfl rfl), zi rfl (fun σ => rfl) (fun σ => rfl) (fun σ a w k _ _ _ _ hf => zK zjA hf rfl), zi rfl (fun σ => rfl) (fun σ => rfl) (fun σ a w k hk hlo hup hst hf => match k, hk, hlo, hup, hst, hf with | 0, _, _, _, hst, hf => have hO : Dk.Own w0 F w [.blk x_b_b0 [.slice x_b_p1 x_b.f_l.length x_b_c1] 100, .row (.slice x_b_p1 x_b.f_l.length x_b_c1) 71 2 x_b.f_l.length (cells zb x_b.f_l)] := hst; ze (o := 1) zbE (hSx15 _ (hO.rowSees (i := 1) rfl)) rfl hf rfl | 1, _, _, _, hst, hf => have hO : Dk.Own w0 F w [.row (.slice (some ⟨σ, 0, none⟩) (([x_element] : List Str).length) 1) 9 1 (([x_element] : List Str).length) (cells zg ([x_element] : List Str)), .blk x_b_b0 [.slice x_b_p1 x_b.f_l.length x_b_c1] 100, .row (.slice x_b_p1 x_b.f_l.length x_b_c1) 71 2 x_b.f_l.length (cells zb x_b.f_l)] := hst; ze (o := 1) zbE (hSx15 _ (hO.rowSees (i := 2) rfl)) rfl hf rfl | 2, _, _, _, hst, hf => have hO : Dk.Own w0 F w [.row (.slice (some ⟨σ, 0, none⟩) (([x_element] : List Str).length) 1) 9 1 (([x_element] : List Str).length) (cells zg ([x_element] : List Str)), .blk x_b_b0 [.slice x_b_p1 x_b.f_l.length x_b_c1] 100, .row (.slice x_b_p1 x_b.f_l.length x_b_c1) 71 2 x_b.f_l.length (cells zb x_b.f_l)] := hst; ze (o := 1) zbE (hSx15 _ (hO.rowSees (i := 2) rfl)) rfl hf rfl | 3, _, _, hup, _, _ => absurd (hup 1 (by decide) (by kernel_rfl)) (by decide) | k + 4, hk, _, _, _, _ => absurd hk (by simp)), zi rfl (fun σ => rfl) (fun σ => rfl) (fun σ a w k _ _ _ _ hf => zu hf rfl), zhq rfl (fun σ => rfl) (fun σ => rfl) rfl (fun σ w (hO : Dk.Own w0 F w [.blk x_b_b0 [.slice x_b_p1 x_b.f_l.length x_b_c1] 100, .row (.slice x_b_p1 x_b.f_l.length x_b_c1) 71 2 x_b.f_l.length (cells zb x_b.f_l)]) => by obtain ⟨b18, w', hO', hr⟩ := zeq (E := [(42, str x_element)]) (parts := #[(0, (.tmp 42))]) (t' := 41) (n := 1) (vs := [(0, str x_element)]) (cs := [str x_element]) (e := 9) (sz := 1) (fun w => by kernel_rfl) rfl rfl hO rfl; exact ⟨(b18), w', hO', ⟨.inr rfl, .inr rfl, .inr rfl, .inr rfl, .inr rfl, .inr rfl, .inr rfl, .inr rfl, .inr rfl, .inr rfl, .inr rfl, .inr rfl, .inr rfl, .inr rfl, .inl rfl, .inl rfl, .inr rfl, .inr rfl, .inr rfl, trivial⟩, hr⟩), zhJ rfl (fun σ => rfl) (fun σ => rfl) rfl (fun σ a w (_ : _) hf => zp c_56 hf (vs := [str x15.Value, .slice (some ⟨σ, 0, none⟩) (([x_element] : List Str).length) 1]) rfl) (fun σ w (hO : Dk.Own w0 F w [.row (.slice (some ⟨σ, 0, none⟩) (([x_element] : List Str).length) 1) 9 1 (([x_element] : List Str).length) (cells zg ([x_element] : List Str)), .blk x_b_b0 [.slice x_b_p1 x_b.f_l.length x_b_c1] 100, .row (.slice x_b_p1 x_b.f_l.length x_b_c1) 71 2 x_b.f_l.length (cells zb x_b.f_l)]) => (zjt x15.Value ([x_element] : List Str) r19 _ (hG.own hF hO) (hO.rowSees (i := 0) rfl) (hO.rowCap (i := 0) rfl) hr19).mono fun e w' h => by obtain ⟨he, hb⟩ := h; exact ⟨(σ), he, hO.grow hb, .inr rfl, .inr rfl, .inr rfl, .inr rfl, .inr rfl, .inr rfl, .inr rfl, .inr rfl, .inr rfl, .inr rfl, .inr rfl, .inr rfl, .inr rfl, .inr rfl, .inr rfl, .inr rfl, .inr rfl, .inr rfl, .inr rfl, trivial⟩), zi rfl (fun σ => rfl) (fun σ => rfl) (fun σ a w k _ _ _ _ hf => zk hix20 hf rfl rfl), zi rfl (fun σ => rfl) (fun σ => rfl) (fun σ a w k _ _ _ _ hf => zK zjA hf rfl), zhK rfl (fun σ => rfl) (fun σ => rfl) rfl (fun σ w (hO : Dk.Own w0 F w [.row (.slice (some ⟨σ, 0, none⟩) (([x_element] : List Str).length) 1) 9 1 (([x_element] : List Str).length) (cells zg ([x_element] : List Str)), .blk x_b_b0 [.slice x_b_p1 x_b.f_l.length x_b_c1] 100, .row (.slice x_b_p1 x_b.f_l.length x_b_c1) 71 2 x_b.f_l.length (cells zb x_b.f_l)]) => by obtain ⟨w', hO', hr⟩ := zms (x := (.tmp 46)) (y := (.tmp 44)) (E := [(44, str r19), (46, ptr b21 (o22 + 1))]) (enc := zb) (i := 2) (rel := 1) (xs := x_b.f_l) (v := str r19) zgF (fun _ => rfl) rfl hAx20 hx20 hl23 rfl (by decide) rfl rfl hO rfl rfl; exact ⟨(σ), w', hO', ⟨.inr rfl, .inr rfl, .inr rfl, .inr rfl, .inr rfl, .inr rfl, .inr rfl, .inr rfl, .inr rfl, .inr rfl, .inr rfl, .inr rfl, .inr rfl, .inr rfl, .inr rfl, .inr rfl, .inr rfl, .inr rfl, .inr rfl, trivial⟩, hr⟩), trivial⟩ ?_
 rintro b18 a w hf hO
 have hO : Dk.Own w0 F w [.row (.slice (some ⟨b18, 0, none⟩) (([x_element] : List Str).length) 1) 9 1 (([x_element] : List Str).length) (cells zg ([x_element] : List Str)), .blk x_b_b0 [.slice x_b_p1 x_b.f_l.length x_b_c1] 100, .row (.slice x_b_p1 x_b.f_l.length x_b_c1) 71 2 x_b.f_l.length (cells zb l23)] := hO
 have hf : Fits 53 [] a := hf.nil
 have hf : Fits 53 [] a := by first | exact hf | (simp only [hlnl23]; exact hf)
 have hO : Dk.Own w0 F w [.row (.slice (some ⟨b18, 0, none⟩) (([x_element] : List Str).length) 1) 9 1 (([x_element] : List Str).length) (cells zg ([x_element] : List Str)), .blk x_b_b0 [.slice x_b_p1 l23.length x_b_c1] 100, .row (.slice x_b_p1 l23.length x_b_c1) 71 2 l23.length (cells zb l23)] := by first | exact hO | (simp only [hlnl23]; exact hO)
 refine S.no tb ?_ hf hO hm
 refine re_ rfl fun a w hf hO hm => ?_
 obtain rfl := Option.some.inj hm
 exact zs Tryz.results33 hf .nil ⟨x_b_p1, x_b_c1, rfl, (hO.sub (.cons _ (.cons_cons _ (.cons_cons _ .slnil))))⟩
 refine bi rfl fun i26 hi26 => ?_
 exact en rfl fun _ _ j => ⟨_, Nat.lt_succ_self _, i26, j rfl⟩
 refine vl rfl rfl (fun a w hf hO => z6 (vs := [(0, str x_name), (1, str x_element)]) (v := .agg #[str x_name, str x_element]) hf rfl (by kernel_rfl)) ?_
 refine rw_ rfl fun a w hf hO hm => ?_
 refine zn (vs := [(0, .agg #[str x_name, str x_element])]) (cs := [str x_name, str x_element]) (e := 71) (sz := 2) hf rfl rfl (fun w => by kernel_rfl) rfl rfl hO fun a b28 w hf hO => ?_
 refine S.op tb ?_ hf hO hm
 refine rw_ rfl fun a w hf hO hm => ?_
 obtain ⟨r29, hr29, hm⟩ := ob hm
 have hch32 := (show Dk.Own w0 F _ ([.blk x_b_b0 [.slice x_b_p1 x_b.f_l.length x_b_c1] 100, .row (.slice x_b_p1 x_b.f_l.length x_b_c1) 71 2 x_b.f_l.length (cells zb x_b.f_l)] ++ [.row (.slice (some ⟨b28, 0, none⟩) (([(⟨x_name, x_element⟩ : api_Field)]).length) 1) 71 2 (([(⟨x_name, x_element⟩ : api_Field)]).length) (cells zb ([(⟨x_name, x_element⟩ : api_Field)]))]) from hO.choose [1, 2, 0] rfl)
 have hfar32 := Dk.Own.far hch32 rfl hF hG.size
 have hlend32 := hch32.lend (S := [.shr (some ⟨b28, 0, none⟩) (cells zb ([(⟨x_name, x_element⟩ : api_Field)]))]) rfl ⟨zpM (hO.rowSees (i := 0) rfl) (List.mem_of_getElem? (i := 0) rfl), trivial⟩
 have hcl32 := zk7 x_b ([(⟨x_name, x_element⟩ : api_Field)]) r29 _ (hG.own hF hO) hfar32 hlend32 (hO.rowCap (i := 0) rfl) hr29
 refine zo (zp c_57 hf (vs := [ptr x_b_b0 0, .slice (some ⟨b28, 0, none⟩) (([(⟨x_name, x_element⟩ : api_Field)]).length) 1]) rfl) rfl hf rfl rfl (hcl32) ?_
 rintro e w' ⟨p30, c31, he, hO'⟩
 refine ⟨_, he, fun a hf => ?_⟩
 have hO := hch32.back rfl hO' rfl
 refine S.op tb ?_ hf hO hm
 refine rn_ rfl fun a w hf hO hm => ?_
 obtain rfl := Option.some.inj hm
 exact zh3 Tryz.results33 hf .nil ⟨p30, c31, rfl, (hO.sub (.cons_cons _ (.cons_cons _ (.cons _ .slnil))))⟩

end Go.Proofs
end
section
set_option linter.unusedVariables false
set_option maxHeartbeats 1000000
set_option linter.unusedSimpArgs false
set_option maxRecDepth 100000
namespace Go.Proofs
open Go.Dk Go.Dm Go.RowKit

theorem zjS (x_b : bag_Bag) (R : List api_Field) (w0 : World) (hG : zw w0) {x_b_b0 : Nat} {x_b_p1 : Option Addr} {x_b_c1 : Nat} (hs0 : zH w0 (some ⟨x_b_b0, 0, none⟩) [.slice x_b_p1 x_b.f_l.length x_b_c1]) (hs1 : zH w0 x_b_p1 (cells zb x_b.f_l)) (hc1 : x_b.f_l.length ≤ x_b_c1) (hm : zeS x_b = some R) :
    Calls Tryz.prog 34 #[ptr x_b_b0 0] w0 fun e w' => ∃ (p0 : Option Addr) (c0 : Nat), e = .returned (.slice p0 R.length c0) ∧ Dk.Own w0 [] w' [.row (.slice p0 R.length c0) 71 2 R.length (cells zb R)] := by
 rw [zeS] at hm
 have hF : zG [] := zf
 have hO : Dk.Own w0 [] w0 [] := Dk.Own.refl w0
 have hO := hO.addShr hs0 (by simp [Res.shared])
 have hO := hO.addShr hs1 (by simp [Res.shared])
 refine S.enter tb Tryz.func34 rfl Tryz.ntmps34 rfl ?_ hO hm
 refine nl 71 2 ?_
 refine vl rfl rfl (fun a w hf hO => zfz Tryz.underlying74 hf rfl rfl) ?_
 refine kn (b' := false) rfl rfl ?_
 refine ld 2 rfl rfl ?_
 refine rw_ rfl fun a w hf hO hm => ?_
 obtain ⟨r4, hr4, hm⟩ := ob hm
 refine zo (zp c_54 hf (vs := [.slice x_b_p1 x_b.f_l.length x_b_c1]) rfl) rfl hf rfl rfl (zbh x_b.f_l r4 _ (hG.own hF hO) (hO.sees (i := 1) rfl) hc1 hr4) ?_
 rintro e w' ⟨p5, c6, he, hO'⟩
 refine ⟨_, he, fun a hf => ?_⟩
 have hO := hO.call hO' (by simp [Res.shared])
 refine S.op tb ?_ hf hO hm
 refine re_ rfl fun a w hf hO hm => ?_
 obtain rfl := Option.some.inj hm
 exact zs Tryz.results34 hf (.tmp rfl .nil) ⟨p5, c6, rfl, (hO.sub (.cons_cons _ (.cons _ (.cons _ (.cons _ .slnil)))))⟩

theorem zha (x_s : Str) (x_c : UInt8) (R : List Str) (w0 : World) (hG : zw w0) (hm : zdC x_s x_c = some R) :
    Calls Tryz.prog 58 #[str x_s, zR x_c] w0 fun e w' => ∃ (p0 : Option Addr) (c0 : Nat), e = .returned (.slice p0 R.length c0) ∧ Dk.Own w0 [] w' [.row (.slice p0 R.length c0) 9 1 R.length (cells zg R)] := by
 rw [zdC] at hm
 have hF : zG [] := zf
 have hO : Dk.Own w0 [] w0 [] := Dk.Own.refl w0
 refine S.enter tb Tryz.func58 rfl Tryz.ntmps58 rfl ?_ hO hm
 refine nl 9 1 ?_
 refine nl 9 1 ?_
 refine lv [0, 1] [1] (fun J E L k => ∃ (p5 : Option Addr) (c6 : Nat) (l7 : List Str) (i8 : Int) (i9 : Int), J ((5, .slice p5 l7.length c6) :: (6, int i8) :: (7, int i9) :: E) (.row (.slice p5 l7.length c6) 9 1 l7.length (cells zg l7) :: L) (zaE x_s x_c k l7 i8 i9)) rfl (fun _ _ j => ⟨none, 0, [], 0, 0, j rfl⟩) ?_
 rintro n1 a w ⟨p5, c6, l7, i8, i9, hf, hO, hm⟩
 obtain _ | n1 := n1
 rw [zaE] at hm
 cases hm
 rw [zaE] at hm
 refine S.co tb ?_ hf hO hm
 refine br rfl (fun hc11 => ?_) fun hc11 => ?_
 refine jv 3 [0, 1, 7] [1] (fun J E L => ∃ (p23 : Option Addr) (c24 : Nat) (l25 : List Str) (i26 : Int), J ((5, .slice p23 l25.length c24) :: (6, int i26) :: E) (.row (.slice p23 l25.length c24) 9 1 l25.length (cells zg l25) :: L) (zcN (zaE x_s x_c n1) i9 l25 i26)) rfl ?_ ?_
 refine bi rfl fun b13 hb13 => ?_
 refine vl rfl rfl (fun a w hf hO => zaC (b := b13) (c := x_c) hf rfl rfl) ?_
 refine br rfl (fun hc15 => ?_) fun hc15 => ?_
 refine bi rfl fun s16 hs16 => ?_
 refine rw_ rfl fun a w hf hO hm => ?_
 refine zn (vs := [(0, str s16)]) (cs := [str s16]) (e := 9) (sz := 1) hf rfl rfl (fun w => by kernel_rfl) rfl rfl hO fun a b17 w hf hO => ?_
 refine S.op tb ?_ hf hO hm
 refine rw_ rfl fun a w hf hO hm => ?_
 obtain ⟨hg20, hm⟩ := og hm
 refine z8 zlq (enc := zg) (xs := l7) (ys := ([s16] : List Str)) (i := 1) (fun _ => rfl) rfl (hO.rowSees (i := 0) rfl) (by simp [cells, zg, Value.oneCell']) hg20 hf rfl rfl rfl hO fun a p18 c19 w hf hO => ?_
 refine S.op tb ?_ hf hO hm
 refine bi rfl fun i22 hi22 => ?_
 exact ec [1, 2] rfl rfl rfl fun _ _ j => ⟨p18, c19, l7 ++ ([s16] : List Str), i22, j rfl⟩
 exact en rfl fun _ _ j => ⟨p5, c6, l7, i8, j rfl⟩
 rintro a w ⟨p23, c24, l25, i26, hf, hO, hm⟩
 rw [zcN] at hm
 refine S.co tb ?_ hf hO hm
 refine bi rfl fun i27 hi27 => ?_
 exact en rfl fun _ _ j => ⟨_, Nat.lt_succ_self _, p23, c24, l25, i26, i27, j rfl⟩
 refine bi rfl fun s29 hs29 => ?_
 refine rw_ rfl fun a w hf hO hm => ?_
 refine zn (vs := [(0, str s29)]) (cs := [str s29]) (e := 9) (sz := 1) hf rfl rfl (fun w => by kernel_rfl) rfl rfl hO fun a b30 w hf hO => ?_
 refine S.op tb ?_ hf hO hm
 refine rw_ rfl fun a w hf hO hm => ?_
 obtain ⟨hg33, hm⟩ := og hm
 refine z8 zlq (enc := zg) (xs := l7) (ys := ([s29] : List Str)) (i := 1) (fun _ => rfl) rfl (hO.rowSees (i := 0) rfl) (by simp [cells, zg, Value.oneCell']) hg33 hf rfl rfl rfl hO fun a p31 c32 w hf hO => ?_
 refine S.op tb ?_ hf hO hm
 refine re_ rfl fun a w hf hO hm => ?_
 obtain rfl := Option.some.inj hm
 exact zs Tryz.results58 hf (.tmp rfl .nil) ⟨p31, c32, rfl, (hO.sub (.cons _ (.cons_cons _ (.cons _ .slnil))))⟩

theorem zhb (x_b : UInt8) (x_base : Int) (R : Int) (w0 : World) (hG : zw w0) (hm : zbR x_b x_base = some R) :
    Calls Tryz.prog 149 #[zR x_b, int x_base] w0 (Ret w0 (fun R => int R) R) := by
 rw [zbR] at hm
 have hF : zG [] := zf
 have hO : Dk.Own w0 [] w0 [] := Dk.Own.refl w0
 refine S.enter tb Tryz.func149 rfl Tryz.ntmps149 rfl ?_ hO hm
 refine lv [0, 1, 5, 6] [] (fun J E L k => ∃ (i5 : Int), J ((7, int i5) :: E) (L) (zx x_b x_base k i5)) rfl (fun _ _ j => ⟨0, j rfl⟩) ?_
 rintro n1 a w ⟨i5, hf, hO, hm⟩
 obtain _ | n1 := n1
 rw [zx] at hm
 cases hm
 rw [zx] at hm
 refine S.co tb ?_ hf hO hm
 refine br rfl (fun hc7 => ?_) fun hc7 => ?_
 refine jv 5 [0, 1, 5, 6, 7] [] (fun J E L => ∃ (t12 : Bool), J ((24, .bool t12) :: E) (L) (zcO (zx x_b x_base n1) i5 t12)) rfl ?_ ?_
 refine bi rfl fun b9 hb9 => ?_
 refine vl rfl rfl (fun a w hf hO => zaC (b := b9) (c := x_b) hf rfl rfl) ?_
 refine br rfl (fun hc10 => ?_) fun hc10 => ?_
 exact en rfl fun _ _ j => ⟨true, j rfl⟩
 refine bi rfl fun b11 hb11 => ?_
 refine vl rfl rfl (fun a w hf hO => zaC (b := b11) (c := x_b) hf rfl rfl) ?_
 exact en rfl fun _ _ j => ⟨b11 == x_b, j rfl⟩
 rintro a w ⟨t12, hf, hO, hm⟩
 rw [zcO] at hm
 refine S.co tb ?_ hf hO hm
 refine br rfl (fun hc13 => ?_) fun hc13 => ?_
 exact rt Tryz.results149 rfl
 refine bi rfl fun i16 hi16 => ?_
 exact en rfl fun _ _ j => ⟨_, Nat.lt_succ_self _, i16, j rfl⟩
 exact rt Tryz.results149 rfl

theorem ziB (n0 : Nat) : ∀ (x_n : Int) (x_base : Int) (R : Str) (w0 : World) (hG : zw w0) (hm : za5 n0 x_n x_base = some R),
    Calls Tryz.prog 148 #[int x_n, int x_base] w0 (Ret w0 (fun R => str R) R) := by
  induction n0 with
  | zero => intro x_n x_base R w0 hG  hm; rw [za5] at hm; cases hm
  | succ n0 ih =>
    intro x_n x_base R w0 hG  hm
    rw [za5] at hm
    have hF : zG [] := zf
    have hO : Dk.Own w0 [] w0 [] := Dk.Own.refl w0
    refine S.enter tb Tryz.func148 rfl Tryz.ntmps148 rfl ?_ hO hm
    refine br rfl (fun hc4 => ?_) fun hc4 => ?_
    · refine bi rfl fun i5 hi5 => ?_
      refine bi rfl fun s6 hs6 => ?_
      exact rt Tryz.results148 rfl
    · refine rc_ rfl fun a w hf hO hm => ?_
      refine zdd (by kernel_rfl) (by kernel_rfl) hO ?_
      refine zr (fun w hO => zu hf rfl) rfl hf rfl rfl fun a hf => ?_
      refine zr (fun w hO => zu hf rfl) rfl hf rfl rfl fun a hf => ?_
      obtain ⟨i9, hi9, hm⟩ := ob hm
      refine zr (fun w hO => zpa hf rfl rfl hi9) rfl hf rfl rfl fun a hf => ?_
      refine zr (fun w hO => zu hf rfl) rfl hf rfl rfl fun a hf => ?_
      obtain ⟨r10, hr10, hm⟩ := ob hm
      refine zlP (fun w hO => zp znT hf (vs := [int i9, int x_base]) rfl) rfl hf rfl rfl (fun w hO => (ih i9 x_base r10 _ (hG.own hF hO) hr10).mono fun e w' ⟨he, hb⟩ => ⟨he, hO.grow hb⟩) fun a hf => ?_
      refine zr (fun w hO => zu hf rfl) rfl hf rfl rfl fun a hf => ?_
      refine zr (fun w hO => zu hf rfl) rfl hf rfl rfl fun a hf => ?_
      refine zr (fun w hO => zu hf rfl) rfl hf rfl rfl fun a hf => ?_
      obtain ⟨i11, hi11, hm⟩ := ob hm
      refine zr (fun w hO => znt hf rfl rfl hi11) rfl hf rfl rfl fun a hf => ?_
      refine zr (fun w hO => zu hf rfl) rfl hf rfl rfl fun a hf => ?_
      refine zr (fun w hO => zu hf rfl) rfl hf rfl rfl fun a hf => ?_
      obtain ⟨i12, hi12, hm⟩ := ob hm
      refine zr (fun w hO => znt hf rfl rfl hi12) rfl hf rfl rfl fun a hf => ?_
      obtain ⟨i13, hi13, hm⟩ := ob hm
      refine zr (fun w hO => zo9 hf rfl rfl hi13) rfl hf rfl rfl fun a hf => ?_
      obtain ⟨s14, hs14, hm⟩ := ob hm
      refine zr (fun w hO => zh2 (l := [48, 49, 50, 51, 52, 53, 54, 55, 56, 57, 97, 98, 99, 100, 101, 102]) Tryz.underlying9 hf rfl rfl rfl hs14) rfl hf rfl rfl fun a hf => ?_
      obtain ⟨s15, hs15, hm⟩ := ob hm
      refine zr (fun w hO => zpg (l := r10) (m := s14) hf rfl rfl hs15) rfl hf rfl rfl fun a hf => ?_
      refine zr (fun w hO => zb1 hf rfl) rfl hf rfl rfl fun a hf => ?_
      refine wpQuiet_nil ?_
      intro w hO
      refine S.no tb ?_ hf hO hm
      exact rt Tryz.results148 rfl
theorem ze2 (x_n : Int) (x_base : Int) (R : Str) (w0 : World) (hG : zw w0) (hm : zcj x_n x_base = some R) :
    Calls Tryz.prog 148 #[int x_n, int x_base] w0 (Ret w0 (fun R => str R) R) :=
  ziB fuel x_n x_base R w0 hG  hm

theorem zkN (x_s : Str) (x_base : Int) (R : Str × Bool) (w0 : World) (hG : zw w0) (hm : zeF x_s x_base = some R) :
    Calls Tryz.prog 146 #[str x_s, int x_base] w0 (Ret w0 (fun R => .tuple #[str R.1, .bool R.2]) R) := by
 rw [zeF] at hm
 have hF : zG [] := zf
 have hO : Dk.Own w0 [] w0 [] := Dk.Own.refl w0
 refine S.enter tb Tryz.func146 rfl Tryz.ntmps146 rfl ?_ hO hm
 refine lv [0, 1] [] (fun J E L k => ∃ (s4 : Str) (i5 : Int), J ((6, str s4) :: (7, int i5) :: E) (L) (zag x_s x_base k s4 i5)) rfl (fun _ _ j => ⟨[], 0, j rfl⟩) ?_
 rintro n1 a w ⟨s4, i5, hf, hO, hm⟩
 obtain _ | n1 := n1
 rw [zag] at hm
 cases hm
 rw [zag] at hm
 refine S.co tb ?_ hf hO hm
 refine br rfl (fun hc7 => ?_) fun hc7 => ?_
 refine jv 3 [0, 1, 7] [] (fun J E L => ∃ (s21 : Str), J ((6, str s21) :: E) (L) (zcP (zag x_s x_base n1) i5 s21)) rfl ?_ ?_
 refine bi rfl fun b9 hb9 => ?_
 refine cl c_149 rfl (fun r10 w hr10 hO => zhb b9 x_base r10 _ (hG.own hF hO) hr10) fun r10 hr10 => ?_
 refine br rfl (fun hc13 => ?_) fun hc13 => ?_
 exact rt Tryz.results146 rfl
 refine jv 5 [0, 1, 6, 7, 8] [] (fun J E L => ∃ (t17 : Bool), J ((27, .bool t17) :: E) (L) (zcQ (zag x_s x_base n1) x_base s4 i5 r10 t17)) rfl ?_ ?_
 refine br rfl (fun hc16 => ?_) fun hc16 => ?_
 exact en rfl fun _ _ j => ⟨true, j rfl⟩
 exact en rfl fun _ _ j => ⟨decide (0 < r10), j rfl⟩
 rintro a w ⟨t17, hf, hO, hm⟩
 rw [zcQ] at hm
 refine S.co tb ?_ hf hO hm
 refine br rfl (fun hc18 => ?_) fun hc18 => ?_
 refine cl znT rfl (fun r19 w hr19 hO => ze2 r10 x_base r19 _ (hG.own hF hO) hr19) fun r19 hr19 => ?_
 refine bi rfl fun s20 hs20 => ?_
 exact en rfl fun _ _ j => ⟨s20, j rfl⟩
 exact en rfl fun _ _ j => ⟨s4, j rfl⟩
 rintro a w ⟨s21, hf, hO, hm⟩
 rw [zcP] at hm
 refine S.co tb ?_ hf hO hm
 refine bi rfl fun i22 hi22 => ?_
 exact en rfl fun _ _ j => ⟨_, Nat.lt_succ_self _, s21, i22, j rfl⟩
 refine jv 0 [0] [] (fun J E L => ∃ (s26 : Str), J ((6, str s26) :: E) (L) (zcR x_s s26)) rfl ?_ ?_
 refine br rfl (fun hc25 => ?_) fun hc25 => ?_
 exact en rfl fun _ _ j => ⟨[48], j rfl⟩
 exact en rfl fun _ _ j => ⟨s4, j rfl⟩
 rintro a w ⟨s26, hf, hO, hm⟩
 rw [zcR] at hm
 refine S.co tb ?_ hf hO hm
 exact rt Tryz.results146 rfl

theorem zlK (x_a : Str) (x_b : Str) (R : Bool) (w0 : World) (hG : zw w0) (hm : ze8 x_a x_b = some R) :
    Calls Tryz.prog 147 #[str x_a, str x_b] w0 (Ret w0 (fun R => .bool R) R) := by
 rw [ze8] at hm
 have hF : zG [] := zf
 have hO : Dk.Own w0 [] w0 [] := Dk.Own.refl w0
 refine S.enter tb Tryz.func147 rfl Tryz.ntmps147 rfl ?_ hO hm
 refine jv 0 [] [] (fun J E L => ∃ (t4 : Bool), J ((4, .bool t4) :: E) (L) (zbt t4)) rfl ?_ ?_
 refine br rfl (fun hc2 => ?_) fun hc2 => ?_
 exact en rfl fun _ _ j => ⟨true, j rfl⟩
 refine br rfl (fun hc3 => ?_) fun hc3 => ?_
 refine vl rfl rfl (fun a w hf hO => zpf (l := x_a) (m := x_b) hf rfl rfl) ?_
 exact en rfl fun _ _ j => ⟨ziY x_a x_b, j rfl⟩
 exact en rfl fun _ _ j => ⟨false, j rfl⟩
 rintro a w ⟨t4, hf, hO, hm⟩
 rw [zbt] at hm
 refine S.co tb ?_ hf hO hm
 exact rt Tryz.results147 rfl

theorem zlL (x_s : Str) (x_base : Int) (x_most : Int) (R : Int × Int) (w0 : World) (hG : zw w0) (hm : ze9 x_s x_base x_most = some R) :
    Calls Tryz.prog 113 #[str x_s, int x_base, int x_most] w0 (Ret w0 (fun R => .tuple #[int R.1, int R.2]) R) := by
 rw [ze9] at hm
 have hF : zG [] := zf
 have hO : Dk.Own w0 [] w0 [] := Dk.Own.refl w0
 refine S.enter tb Tryz.func113 rfl Tryz.ntmps113 rfl ?_ hO hm
 refine cl c_146 rfl (fun r2 w hr2 hO => zkN x_s x_base r2 _ (hG.own hF hO) hr2) fun r2 hr2 => ?_
 refine br rfl (fun hc5 => ?_) fun hc5 => ?_
 exact rt Tryz.results113 rfl
 refine jv 1 [1, 8] [] (fun J E L => ∃ (t11 : Bool), J ((28, .bool t11) :: E) (L) (zcx x_base r2 t11)) rfl ?_ ?_
 refine br rfl (fun hc8 => ?_) fun hc8 => ?_
 exact en rfl fun _ _ j => ⟨true, j rfl⟩
 refine cl znT rfl (fun r9 w hr9 hO => ze2 x_most x_base r9 _ (hG.own hF hO) hr9) fun r9 hr9 => ?_
 refine cl c_147 rfl (fun r10 w hr10 hO => zlK r9 r2.1 r10 _ (hG.own hF hO) hr10) fun r10 hr10 => ?_
 exact en rfl fun _ _ j => ⟨r10, j rfl⟩
 rintro a w ⟨t11, hf, hO, hm⟩
 rw [zcx] at hm
 refine S.co tb ?_ hf hO hm
 refine br rfl (fun hc12 => ?_) fun hc12 => ?_
 exact rt Tryz.results113 rfl
 refine lv [1, 8] [] (fun J E L k => ∃ (i17 : Int) (i18 : Int), J ((10, int i17) :: (11, int i18) :: E) (L) (zbu x_base r2 k i17 i18)) rfl (fun _ _ j => ⟨0, 0, j rfl⟩) ?_
 rintro n2 a w ⟨i17, i18, hf, hO, hm⟩
 obtain _ | n2 := n2
 rw [zbu] at hm
 cases hm
 rw [zbu] at hm
 refine S.co tb ?_ hf hO hm
 refine br rfl (fun hc20 => ?_) fun hc20 => ?_
 refine bi rfl fun i22 hi22 => ?_
 refine bi rfl fun b23 hb23 => ?_
 refine cl c_149 rfl (fun r24 w hr24 hO => zhb b23 x_base r24 _ (hG.own hF hO) hr24) fun r24 hr24 => ?_
 refine bi rfl fun i25 hi25 => ?_
 refine bi rfl fun i27 hi27 => ?_
 exact en rfl fun _ _ j => ⟨_, Nat.lt_succ_self _, i25, i27, j rfl⟩
 exact rt Tryz.results113 rfl

theorem zlM (x_n : Int) (x_base : Int) (R : Str) (w0 : World) (hG : zw w0) (hm : zfa x_n x_base = some R) :
    Calls Tryz.prog 114 #[int x_n, int x_base] w0 (Ret w0 (fun R => str R) R) := by
 rw [zfa] at hm
 have hF : zG [] := zf
 have hO : Dk.Own w0 [] w0 [] := Dk.Own.refl w0
 refine S.enter tb Tryz.func114 rfl Tryz.ntmps114 rfl ?_ hO hm
 refine br rfl (fun hc3 => ?_) fun hc3 => ?_
 exact rt Tryz.results114 rfl
 refine cl znT rfl (fun r6 w hr6 hO => ze2 x_n x_base r6 _ (hG.own hF hO) hr6) fun r6 hr6 => ?_
 exact rt Tryz.results114 rfl

theorem zkO (x_s : Str) (x_most : Int) (R : Int) (w0 : World) (hG : zw w0) (hm : zeG x_s x_most = some R) :
    Calls Tryz.prog 78 #[str x_s, int x_most] w0 (Ret w0 (fun R => int R) R) := by
 rw [zeG] at hm
 have hF : zG [] := zf
 have hO : Dk.Own w0 [] w0 [] := Dk.Own.refl w0
 refine S.enter tb Tryz.func78 rfl Tryz.ntmps78 rfl ?_ hO hm
 refine br rfl (fun hc3 => ?_) fun hc3 => ?_
 exact rt Tryz.results78 rfl
 refine cl c_113 rfl (fun r6 w hr6 hO => zlL x_s 10 x_most r6 _ (hG.own hF hO) hr6) fun r6 hr6 => ?_
 refine jv 1 [5] [] (fun J E L => ∃ (t10 : Bool), J ((23, .bool t10) :: E) (L) (zb6 r6 t10)) rfl ?_ ?_
 refine br rfl (fun hc8 => ?_) fun hc8 => ?_
 exact en rfl fun _ _ j => ⟨true, j rfl⟩
 refine cl c_114 rfl (fun r9 w hr9 hO => zlM r6.1 10 r9 _ (hG.own hF hO) hr9) fun r9 hr9 => ?_
 exact en rfl fun _ _ j => ⟨!(r9 == x_s), j rfl⟩
 rintro a w ⟨t10, hf, hO, hm⟩
 rw [zb6] at hm
 refine S.co tb ?_ hf hO hm
 refine br rfl (fun hc11 => ?_) fun hc11 => ?_
 exact rt Tryz.results78 rfl
 exact rt Tryz.results78 rfl

theorem zhX (x_s : Str) (R : Bool) (w0 : World) (hG : zw w0) (hm : zek x_s = some R) :
    Calls Tryz.prog 46 #[str x_s] w0 (Ret w0 (fun R => .bool R) R) := by
 rw [zek] at hm
 have hF : zG [] := zf
 have hO : Dk.Own w0 [] w0 [] := Dk.Own.refl w0
 refine S.enter tb Tryz.func46 rfl Tryz.ntmps46 rfl ?_ hO hm
 refine rw_ rfl fun a w hf hO hm => ?_
 obtain ⟨r2, hr2, hm⟩ := ob hm
 refine zo (zp c_58 hf (vs := [str x_s, zR 46]) rfl) rfl hf rfl rfl (zha x_s 46 r2 _ (hG.own hF hO) hr2) ?_
 rintro e w' ⟨p3, c4, he, hO'⟩
 refine ⟨_, he, fun a hf => ?_⟩
 have hO := hO.call hO' (by simp [Res.shared])
 refine S.op tb ?_ hf hO hm
 refine lv [3] [0] (fun J E L k => ∃ (i7 : Int), J ((4, int i7) :: E) (L) (zbv r2 k i7)) rfl (fun _ _ j => ⟨0, j rfl⟩) ?_
 rintro n1 a w ⟨i7, hf, hO, hm⟩
 obtain _ | n1 := n1
 rw [zbv] at hm
 cases hm
 rw [zbv] at hm
 refine S.co tb ?_ hf hO hm
 refine br rfl (fun hc9 => ?_) fun hc9 => ?_
 refine rw_ rfl fun a w hf hO hm => ?_
 obtain ⟨x11, hx11, hm⟩ := ob hm
 obtain ⟨b12, o13, hix11, hSx11, hAx11⟩ := zbF (enc := zg) (sz := 1) (xs := r2) 41 Tryz.underlying41 zgF (by decide) (fun _ => rfl) hO (i := 0) rfl hx11
 refine zaB (zk hix11 hf rfl rfl) rfl hf rfl rfl fun a hf => ?_
 refine S.op tb ?_ hf hO hm
 refine vl rfl rfl (fun a w hf hO => ze (o := 0) zbE (hSx11 _ (hO.rowSees (i := 0) rfl)) rfl hf rfl) ?_
 refine cl c_78 rfl (fun r14 w hr14 hO => zkO x11 255 r14 _ (hG.own hF hO) hr14) fun r14 hr14 => ?_
 refine br rfl (fun hc16 => ?_) fun hc16 => ?_
 exact rt Tryz.results46 rfl
 refine bi rfl fun i19 hi19 => ?_
 exact en rfl fun _ _ j => ⟨_, Nat.lt_succ_self _, i19, j rfl⟩
 exact rt Tryz.results46 rfl

theorem zjT (x_b : UInt8) (x_l : Str) (R : Bool) (w0 : World) (hG : zw w0) (hm : zir x_b x_l = some R) :
    Calls Tryz.prog 109 #[zR x_b, str x_l] w0 (Ret w0 (fun R => .bool R) R) := by
 rw [zir] at hm
 have hF : zG [] := zf
 have hO : Dk.Own w0 [] w0 [] := Dk.Own.refl w0
 refine S.enter tb Tryz.func109 rfl Tryz.ntmps109 rfl ?_ hO hm
 refine lv [0, 1] [] (fun J E L k => ∃ (i3 : Int), J ((5, int i3) :: E) (L) (zeH x_b x_l k i3)) rfl (fun _ _ j => ⟨0, j rfl⟩) ?_
 rintro n1 a w ⟨i3, hf, hO, hm⟩
 obtain _ | n1 := n1
 rw [zeH] at hm
 cases hm
 rw [zeH] at hm
 refine S.co tb ?_ hf hO hm
 refine br rfl (fun hc5 => ?_) fun hc5 => ?_
 refine bi rfl fun b7 hb7 => ?_
 refine vl rfl rfl (fun a w hf hO => zaC (b := b7) (c := x_b) hf rfl rfl) ?_
 refine br rfl (fun hc9 => ?_) fun hc9 => ?_
 exact rt Tryz.results109 rfl
 refine bi rfl fun i12 hi12 => ?_
 exact en rfl fun _ _ j => ⟨_, Nat.lt_succ_self _, i12, j rfl⟩
 exact rt Tryz.results109 rfl

end Go.Proofs
end
section
set_option linter.unusedVariables false
set_option maxHeartbeats 1000000
set_option linter.unusedSimpArgs false
set_option maxRecDepth 100000
namespace Go.Proofs
open Go.Dk Go.Dm Go.RowKit

theorem zmS (x_b : UInt8) (R : Bool) (w0 : World) (hG : zw w0) (hm : zfJ x_b = some R) :
    Calls Tryz.prog 112 #[zR x_b] w0 (Ret w0 (fun R => .bool R) R) := by
 rw [zfJ] at hm
 have hF : zG [] := zf
 have hO : Dk.Own w0 [] w0 [] := Dk.Own.refl w0
 refine S.enter tb Tryz.func112 rfl Tryz.ntmps112 rfl ?_ hO hm
 refine cl c_109 rfl (fun r2 w hr2 hO => zjT x_b [48, 49, 50, 51, 52, 53, 54, 55, 56, 57, 97, 98, 99, 100, 101, 102, 65, 66, 67, 68, 69, 70] r2 _ (hG.own hF hO) hr2) fun r2 hr2 => ?_
 exact rt Tryz.results112 rfl

theorem zhh (x_s : Str) (R : Bool) (w0 : World) (hG : zw w0) (hm : zdD x_s = some R) :
    Calls Tryz.prog 77 #[str x_s] w0 (Ret w0 (fun R => .bool R) R) := by
 rw [zdD] at hm
 have hF : zG [] := zf
 have hO : Dk.Own w0 [] w0 [] := Dk.Own.refl w0
 refine S.enter tb Tryz.func77 rfl Tryz.ntmps77 rfl ?_ hO hm
 refine rw_ rfl fun a w hf hO hm => ?_
 obtain ⟨r2, hr2, hm⟩ := ob hm
 refine zo (zp c_58 hf (vs := [str x_s, zR 58]) rfl) rfl hf rfl rfl (zha x_s 58 r2 _ (hG.own hF hO) hr2) ?_
 rintro e w' ⟨p3, c4, he, hO'⟩
 refine ⟨_, he, fun a hf => ?_⟩
 have hO := hO.call hO' (by simp [Res.shared])
 refine S.op tb ?_ hf hO hm
 refine lv [3] [0] (fun J E L k => ∃ (i8 : Int) (i9 : Int), J ((4, int i8) :: (5, int i9) :: E) (L) (zM r2 k i8 i9)) rfl (fun _ _ j => ⟨0, 0, j rfl⟩) ?_
 rintro n1 a w ⟨i8, i9, hf, hO, hm⟩
 obtain _ | n1 := n1
 rw [zM] at hm
 cases hm
 rw [zM] at hm
 refine S.co tb ?_ hf hO hm
 refine br rfl (fun hc11 => ?_) fun hc11 => ?_
 refine jv 3 [3, 5] [0] (fun J E L => ∃ (i55 : Int), J ((4, int i55) :: E) (L) (zb7 (zM r2 n1) i9 i55)) rfl ?_ ?_
 refine jv 6 [3, 4, 5] [0] (fun J E L => ∃ (t19 : Bool), J ((26, .bool t19) :: E) (L) (zb8 (zM r2 n1) r2 i8 i9 t19)) rfl ?_ ?_
 refine bi rfl fun i13 hi13 => ?_
 refine br rfl (fun hc14 => ?_) fun hc14 => ?_
 refine rw_ rfl fun a w hf hO hm => ?_
 obtain ⟨x15, hx15, hm⟩ := ob hm
 obtain ⟨b16, o17, hix15, hSx15, hAx15⟩ := zbF (enc := zg) (sz := 1) (xs := r2) 41 Tryz.underlying41 zgF (by decide) (fun _ => rfl) hO (i := 0) rfl hx15
 refine zaB (zk hix15 hf rfl rfl) rfl hf rfl rfl fun a hf => ?_
 refine S.op tb ?_ hf hO hm
 refine kn (b' := true) hc14 rfl ?_
 refine vl rfl rfl (fun a w hf hO => ze (o := 0) zbE (hSx15 _ (hO.rowSees (i := 0) rfl)) rfl hf rfl) ?_
 refine cl c_46 rfl (fun r18 w hr18 hO => zhX x15 r18 _ (hG.own hF hO) hr18) fun r18 hr18 => ?_
 exact en rfl fun _ _ j => ⟨r18, j rfl⟩
 exact en rfl fun _ _ j => ⟨false, j rfl⟩
 rintro a w ⟨t19, hf, hO, hm⟩
 rw [zb8] at hm
 refine S.co tb ?_ hf hO hm
 refine br rfl (fun hc20 => ?_) fun hc20 => ?_
 refine bi rfl fun i21 hi21 => ?_
 exact en rfl fun _ _ j => ⟨i21, j rfl⟩
 refine lv [3, 4, 5] [0] (fun J E L k => ∃ (i25 : Int), J ((6, int i25) :: E) (L) (za6 (zM r2 n1) r2 i8 i9 k i25)) rfl (fun _ _ j => ⟨0, j rfl⟩) ?_
 rintro n3 a w ⟨i25, hf, hO, hm⟩
 obtain _ | n3 := n3
 rw [za6] at hm
 cases hm
 rw [za6] at hm
 refine S.co tb ?_ hf hO hm
 refine rw_ rfl fun a w hf hO hm => ?_
 obtain ⟨x26, hx26, hm⟩ := ob hm
 obtain ⟨b27, o28, hix26, hSx26, hAx26⟩ := zbF (enc := zg) (sz := 1) (xs := r2) 41 Tryz.underlying41 zgF (by decide) (fun _ => rfl) hO (i := 0) rfl hx26
 refine zaB (zk hix26 hf rfl rfl) rfl hf rfl rfl fun a hf => ?_
 refine S.op tb ?_ hf hO hm
 refine vl rfl rfl (fun a w hf hO => ze (o := 0) zbE (hSx26 _ (hO.rowSees (i := 0) rfl)) rfl hf rfl) ?_
 refine br rfl (fun hc30 => ?_) fun hc30 => ?_
 refine rw_ rfl fun a w hf hO hm => ?_
 obtain ⟨x32, hx32, hm⟩ := ob hm
 obtain ⟨b33, o34, hix32, hSx32, hAx32⟩ := zbF (enc := zg) (sz := 1) (xs := r2) 41 Tryz.underlying41 zgF (by decide) (fun _ => rfl) hO (i := 0) rfl hx32
 refine zaB (zk hix32 hf rfl rfl) rfl hf rfl rfl fun a hf => ?_
 refine S.op tb ?_ hf hO hm
 refine vl rfl rfl (fun a w hf hO => ze (o := 0) zbE (hSx32 _ (hO.rowSees (i := 0) rfl)) rfl hf rfl) ?_
 refine bi rfl fun b35 hb35 => ?_
 refine cl c_112 rfl (fun r36 w hr36 hO => zmS b35 r36 _ (hG.own hF hO) hr36) fun r36 hr36 => ?_
 refine br rfl (fun hc38 => ?_) fun hc38 => ?_
 exact rt Tryz.results77 rfl
 refine bi rfl fun i41 hi41 => ?_
 exact en rfl fun _ _ j => ⟨_, Nat.lt_succ_self _, i41, j rfl⟩
 refine jv 6 [3, 4, 5] [0] (fun J E L => ∃ (t50 : Bool), J ((59, .bool t50) :: E) (L) (zcS (zM r2 n1) i8 i9 t50)) rfl ?_ ?_
 refine rw_ rfl fun a w hf hO hm => ?_
 obtain ⟨x43, hx43, hm⟩ := ob hm
 obtain ⟨b44, o45, hix43, hSx43, hAx43⟩ := zbF (enc := zg) (sz := 1) (xs := r2) 41 Tryz.underlying41 zgF (by decide) (fun _ => rfl) hO (i := 0) rfl hx43
 refine zaB (zk hix43 hf rfl rfl) rfl hf rfl rfl fun a hf => ?_
 refine S.op tb ?_ hf hO hm
 refine vl rfl rfl (fun a w hf hO => ze (o := 0) zbE (hSx43 _ (hO.rowSees (i := 0) rfl)) rfl hf rfl) ?_
 refine br rfl (fun hc46 => ?_) fun hc46 => ?_
 exact en rfl fun _ _ j => ⟨true, j rfl⟩
 refine rw_ rfl fun a w hf hO hm => ?_
 obtain ⟨x47, hx47, hm⟩ := ob hm
 obtain ⟨b48, o49, hix47, hSx47, hAx47⟩ := zbF (enc := zg) (sz := 1) (xs := r2) 41 Tryz.underlying41 zgF (by decide) (fun _ => rfl) hO (i := 0) rfl hx47
 refine zaB (zk hix47 hf rfl rfl) rfl hf rfl rfl fun a hf => ?_
 refine S.op tb ?_ hf hO hm
 refine kn (b' := false) hc46 rfl ?_
 refine vl rfl rfl (fun a w hf hO => ze (o := 0) zbE (hSx47 _ (hO.rowSees (i := 0) rfl)) rfl hf rfl) ?_
 exact en rfl fun _ _ j => ⟨decide (4 < (x47.length : Int)), j rfl⟩
 rintro a w ⟨t50, hf, hO, hm⟩
 rw [zcS] at hm
 refine S.co tb ?_ hf hO hm
 refine br rfl (fun hc51 => ?_) fun hc51 => ?_
 exact rt Tryz.results77 rfl
 refine bi rfl fun i54 hi54 => ?_
 exact en rfl fun _ _ j => ⟨i54, j rfl⟩
 rintro a w ⟨i55, hf, hO, hm⟩
 rw [zb7] at hm
 refine S.co tb ?_ hf hO hm
 refine bi rfl fun i56 hi56 => ?_
 exact en rfl fun _ _ j => ⟨_, Nat.lt_succ_self _, i55, i56, j rfl⟩
 exact rt Tryz.results77 rfl

theorem zmT (x_s : Str) (R : Bool) (w0 : World) (hG : zw w0) (hm : zfK x_s = some R) :
    Calls Tryz.prog 45 #[str x_s] w0 (Ret w0 (fun R => .bool R) R) := by
 rw [zfK] at hm
 have hF : zG [] := zf
 have hO : Dk.Own w0 [] w0 [] := Dk.Own.refl w0
 refine S.enter tb Tryz.func45 rfl Tryz.ntmps45 rfl ?_ hO hm
 refine lv [0] [] (fun J E L k => ∃ (i3 : Int), J ((3, int i3) :: E) (L) (zbp x_s k i3)) rfl (fun _ _ j => ⟨0, j rfl⟩) ?_
 rintro n1 a w ⟨i3, hf, hO, hm⟩
 obtain _ | n1 := n1
 rw [zbp] at hm
 cases hm
 rw [zbp] at hm
 refine S.co tb ?_ hf hO hm
 refine bi rfl fun i4 hi4 => ?_
 refine br rfl (fun hc6 => ?_) fun hc6 => ?_
 refine jv 6 [0, 3] [] (fun J E L => ∃ (t12 : Bool), J ((24, .bool t12) :: E) (L) (zdX (zbp x_s n1) x_s i3 t12)) rfl ?_ ?_
 refine bi rfl fun b8 hb8 => ?_
 refine vl rfl rfl (fun a w hf hO => zgv (b := b8) (c := 58) hf rfl rfl) ?_
 refine br rfl (fun hc9 => ?_) fun hc9 => ?_
 exact en rfl fun _ _ j => ⟨true, j rfl⟩
 refine bi rfl fun i10 hi10 => ?_
 refine bi rfl fun b11 hb11 => ?_
 refine vl rfl rfl (fun a w hf hO => zgv (b := b11) (c := 58) hf rfl rfl) ?_
 exact en rfl fun _ _ j => ⟨!(b11 == 58), j rfl⟩
 rintro a w ⟨t12, hf, hO, hm⟩
 rw [zdX] at hm
 refine S.co tb ?_ hf hO hm
 refine br rfl (fun hc13 => ?_) fun hc13 => ?_
 refine bi rfl fun i54 hi54 => ?_
 exact en rfl fun _ _ j => ⟨_, Nat.lt_succ_self _, i54, j rfl⟩
 refine lv [0, 3] [] (fun J E L k => ∃ (i16 : Int), J ((4, int i16) :: E) (L) (zaj x_s i3 k i16)) rfl (fun _ _ j => ⟨1, j rfl⟩) ?_
 rintro n3 a w ⟨i16, hf, hO, hm⟩
 obtain _ | n3 := n3
 rw [zaj] at hm
 cases hm
 rw [zaj] at hm
 refine S.co tb ?_ hf hO hm
 refine br rfl (fun hc18 => ?_) fun hc18 => ?_
 refine bi rfl fun s20 hs20 => ?_
 refine lv [0, 3, 4] [] (fun J E L k => ∃ (s23 : Str) (i24 : Int), J ((5, str s23) :: (6, int i24) :: E) (L) (zbo (zaj x_s i3 n3) x_s i3 i16 k s23 i24)) rfl (fun _ _ j => ⟨s20, 0, j rfl⟩) ?_
 rintro n4 a w ⟨s23, i24, hf, hO, hm⟩
 obtain _ | n4 := n4
 rw [zbo] at hm
 cases hm
 rw [zbo] at hm
 refine S.co tb ?_ hf hO hm
 refine br rfl (fun hc26 => ?_) fun hc26 => ?_
 refine jv 15 [0, 3, 4, 6] [] (fun J E L => ∃ (s31 : Str), J ((5, str s31) :: E) (L) (zdW (zbo (zaj x_s i3 n3) x_s i3 i16 n4) i24 s31)) rfl ?_ ?_
 refine br rfl (fun hc29 => ?_) fun hc29 => ?_
 refine bi rfl fun s30 hs30 => ?_
 exact en rfl fun _ _ j => ⟨s30, j rfl⟩
 exact en rfl fun _ _ j => ⟨s23, j rfl⟩
 rintro a w ⟨s31, hf, hO, hm⟩
 rw [zdW] at hm
 refine S.co tb ?_ hf hO hm
 refine bi rfl fun s32 hs32 => ?_
 refine bi rfl fun i34 hi34 => ?_
 exact en rfl fun _ _ j => ⟨_, Nat.lt_succ_self _, s32, i34, j rfl⟩
 refine jv 10 [0, 3, 4] [] (fun J E L => ∃ (s44 : Str), J ((5, str s44) :: E) (L) (zc5 (zaj x_s i3 n3) i16 s44)) rfl ?_ ?_
 refine bi rfl fun i36 hi36 => ?_
 refine bi rfl fun s37 hs37 => ?_
 refine br rfl (fun hc39 => ?_) fun hc39 => ?_
 refine bi rfl fun s40 hs40 => ?_
 refine bi rfl fun i41 hi41 => ?_
 refine bi rfl fun s42 hs42 => ?_
 refine bi rfl fun s43 hs43 => ?_
 exact en rfl fun _ _ j => ⟨s43, j rfl⟩
 exact en rfl fun _ _ j => ⟨s23, j rfl⟩
 rintro a w ⟨s44, hf, hO, hm⟩
 rw [zc5] at hm
 refine S.co tb ?_ hf hO hm
 refine cl c_77 rfl (fun r45 w hr45 hO => zhh s44 r45 _ (hG.own hF hO) hr45) fun r45 hr45 => ?_
 refine br rfl (fun hc47 => ?_) fun hc47 => ?_
 exact rt Tryz.results45 rfl
 refine bi rfl fun i50 hi50 => ?_
 exact en rfl fun _ _ j => ⟨_, Nat.lt_succ_self _, i50, j rfl⟩
 exact rt Tryz.results45 rfl
 refine cl c_77 rfl (fun r56 w hr56 hO => zhh x_s r56 _ (hG.own hF hO) hr56) fun r56 hr56 => ?_
 exact rt Tryz.results45 rfl

theorem zmU (x_b : UInt8) (R : Bool) (w0 : World) (hG : zw w0) (hm : zfL x_b = some R) :
    Calls Tryz.prog 74 #[zR x_b] w0 (Ret w0 (fun R => .bool R) R) := by
 rw [zfL] at hm
 have hF : zG [] := zf
 have hO : Dk.Own w0 [] w0 [] := Dk.Own.refl w0
 refine S.enter tb Tryz.func74 rfl Tryz.ntmps74 rfl ?_ hO hm
 refine cl c_109 rfl (fun r2 w hr2 hO => zjT x_b [97, 98, 99, 100, 101, 102, 103, 104, 105, 106, 107, 108, 109, 110, 111, 112, 113, 114, 115, 116, 117, 118, 119, 120, 121, 122, 65, 66, 67, 68, 69, 70, 71, 72, 73, 74, 75, 76, 77, 78, 79, 80, 81, 82, 83, 84, 85, 86, 87, 88, 89, 90, 48, 49, 50, 51, 52, 53, 54, 55, 56, 57, 33, 35, 36, 37, 38, 39, 42, 43, 45, 46, 94, 95, 96, 124, 126] r2 _ (hG.own hF hO) hr2) fun r2 hr2 => ?_
 exact rt Tryz.results74 rfl

theorem zhi (x_s : Str) (R : Bool) (w0 : World) (hG : zw w0) (hm : zdE x_s = some R) :
    Calls Tryz.prog 42 #[str x_s] w0 (Ret w0 (fun R => .bool R) R) := by
 rw [zdE] at hm
 have hF : zG [] := zf
 have hO : Dk.Own w0 [] w0 [] := Dk.Own.refl w0
 refine S.enter tb Tryz.func42 rfl Tryz.ntmps42 rfl ?_ hO hm
 refine lv [0] [] (fun J E L k => ∃ (i3 : Int), J ((3, int i3) :: E) (L) (za7 x_s k i3)) rfl (fun _ _ j => ⟨0, j rfl⟩) ?_
 rintro n1 a w ⟨i3, hf, hO, hm⟩
 obtain _ | n1 := n1
 rw [za7] at hm
 cases hm
 rw [za7] at hm
 refine S.co tb ?_ hf hO hm
 refine br rfl (fun hc5 => ?_) fun hc5 => ?_
 refine bi rfl fun b7 hb7 => ?_
 refine cl c_74 rfl (fun r8 w hr8 hO => zmU b7 r8 _ (hG.own hF hO) hr8) fun r8 hr8 => ?_
 refine br rfl (fun hc10 => ?_) fun hc10 => ?_
 exact rt Tryz.results42 rfl
 refine bi rfl fun i13 hi13 => ?_
 exact en rfl fun _ _ j => ⟨_, Nat.lt_succ_self _, i13, j rfl⟩
 exact rt Tryz.results42 rfl

theorem zkV (x_b : UInt8) (R : Bool) (w0 : World) (hG : zw w0) (hm : zeI x_b = some R) :
    Calls Tryz.prog 95 #[zR x_b] w0 (Ret w0 (fun R => .bool R) R) := by
 rw [zeI] at hm
 have hF : zG [] := zf
 have hO : Dk.Own w0 [] w0 [] := Dk.Own.refl w0
 refine S.enter tb Tryz.func95 rfl Tryz.ntmps95 rfl ?_ hO hm
 refine jv 0 [] [] (fun J E L => ∃ (t4 : Bool), J ((2, .bool t4) :: E) (L) (zcT t4)) rfl ?_ ?_
 refine vl rfl rfl (fun a w hf hO => zgw (b := x_b) (c := 32) hf rfl rfl) ?_
 refine br rfl (fun hc2 => ?_) fun hc2 => ?_
 refine vl rfl rfl (fun a w hf hO => zgv (b := x_b) (c := 127) hf rfl rfl) ?_
 refine br rfl (fun hc3 => ?_) fun hc3 => ?_
 exact en rfl fun _ _ j => ⟨true, j rfl⟩
 refine vl rfl rfl (fun a w hf hO => zaC (b := x_b) (c := 9) hf rfl rfl) ?_
 exact en rfl fun _ _ j => ⟨x_b == 9, j rfl⟩
 refine vl rfl rfl (fun a w hf hO => zaC (b := x_b) (c := 9) hf rfl rfl) ?_
 exact en rfl fun _ _ j => ⟨x_b == 9, j rfl⟩
 rintro a w ⟨t4, hf, hO, hm⟩
 rw [zcT] at hm
 refine S.co tb ?_ hf hO hm
 exact rt Tryz.results95 rfl

end Go.Proofs
end
section
set_option linter.unusedVariables false
set_option maxHeartbeats 1000000
set_option linter.unusedSimpArgs false
set_option maxRecDepth 100000
namespace Go.Proofs
open Go.Dk Go.Dm Go.RowKit

theorem zij (x_s : Str) (R : Str) (w0 : World) (hG : zw w0) (hm : zel x_s = some R) :
    Calls Tryz.prog 62 #[str x_s] w0 (Ret w0 (fun R => str R) R) := by
 rw [zel] at hm
 have hF : zG [] := zf
 have hO : Dk.Own w0 [] w0 [] := Dk.Own.refl w0
 refine S.enter tb Tryz.func62 rfl Tryz.ntmps62 rfl ?_ hO hm
 refine lv [0] [] (fun J E L k => ∃ (s4 : Str) (i5 : Int), J ((3, str s4) :: (4, int i5) :: E) (L) (zaz x_s k s4 i5)) rfl (fun _ _ j => ⟨[], 0, j rfl⟩) ?_
 rintro n1 a w ⟨s4, i5, hf, hO, hm⟩
 obtain _ | n1 := n1
 rw [zaz] at hm
 cases hm
 rw [zaz] at hm
 refine S.co tb ?_ hf hO hm
 refine br rfl (fun hc7 => ?_) fun hc7 => ?_
 refine bi rfl fun i9 hi9 => ?_
 refine bi rfl fun s10 hs10 => ?_
 refine lv [0, 3, 4] [] (fun J E L k => ∃ (s13 : Str) (i14 : Int), J ((5, str s13) :: (6, int i14) :: E) (L) (zay (zaz x_s n1) x_s s4 i5 k s13 i14)) rfl (fun _ _ j => ⟨s10, 0, j rfl⟩) ?_
 rintro n2 a w ⟨s13, i14, hf, hO, hm⟩
 obtain _ | n2 := n2
 rw [zay] at hm
 cases hm
 rw [zay] at hm
 refine S.co tb ?_ hf hO hm
 refine br rfl (fun hc16 => ?_) fun hc16 => ?_
 refine jv 8 [0, 3, 4, 6] [] (fun J E L => ∃ (s24 : Str), J ((5, str s24) :: E) (L) (zdh (zay (zaz x_s n1) x_s s4 i5 n2) i14 s24)) rfl ?_ ?_
 refine rc_ rfl fun a w hf hO hm => ?_
 refine zdd (by kernel_rfl) (by kernel_rfl) hO ?_
 refine zr (fun w hO => zu hf rfl) rfl hf rfl rfl fun a hf => ?_
 obtain ⟨b18, hb18, hm⟩ := ob hm
 refine zr (fun w hO => zh1 (l := [65, 66, 67, 68, 69, 70, 71, 72, 73, 74, 75, 76, 77, 78, 79, 80, 81, 82, 83, 84, 85, 86, 87, 88, 89, 90]) Tryz.underlying9 hf rfl rfl hb18) rfl hf rfl rfl fun a hf => ?_
 refine zr (fun w hO => zu hf rfl) rfl hf rfl rfl fun a hf => ?_
 refine zr (fun w hO => zu hf rfl) rfl hf rfl rfl fun a hf => ?_
 obtain ⟨b19, hb19, hm⟩ := ob hm
 refine zr (fun w hO => zh1 (l := x_s) Tryz.underlying9 hf rfl rfl hb19) rfl hf rfl rfl fun a hf => ?_
 refine zr (fun w hO => zaC (b := b18) (c := b19) hf rfl rfl) rfl hf rfl rfl fun a hf => ?_
 refine wpQuiet_nil ?_
 intro w hO
 refine S.no tb ?_ hf hO hm
 refine br rfl (fun hc21 => ?_) fun hc21 => ?_
 refine bi rfl fun i22 hi22 => ?_
 refine bi rfl fun s23 hs23 => ?_
 exact en rfl fun _ _ j => ⟨s23, j rfl⟩
 exact en rfl fun _ _ j => ⟨s13, j rfl⟩
 rintro a w ⟨s24, hf, hO, hm⟩
 rw [zdh] at hm
 refine S.co tb ?_ hf hO hm
 refine bi rfl fun i25 hi25 => ?_
 exact en rfl fun _ _ j => ⟨_, Nat.lt_succ_self _, s24, i25, j rfl⟩
 refine bi rfl fun s27 hs27 => ?_
 refine bi rfl fun i29 hi29 => ?_
 exact en rfl fun _ _ j => ⟨_, Nat.lt_succ_self _, s27, i29, j rfl⟩
 exact rt Tryz.results62 rfl

theorem zky (x_f : api_Field) (x_name : Str) (R : Bool) (w0 : World) (hG : zw w0) (hm : zfM x_f x_name = some R) :
    Calls Tryz.prog 36 #[.agg #[str x_f.Name, str x_f.Value], str x_name] w0 (Ret w0 (fun R => .bool R) R) := by
 rw [zfM] at hm
 have hF : zG [] := zf
 have hO : Dk.Own w0 [] w0 [] := Dk.Own.refl w0
 refine S.enter tb Tryz.func36 rfl Tryz.ntmps36 rfl ?_ hO hm
 refine bo rfl fun b1 => ?_
 refine ld 0 rfl rfl ?_
 refine cl c_62 rfl (fun r3 w hr3 hO => zij x_f.Name r3 _ (hG.own hF hO) hr3) fun r3 hr3 => ?_
 refine cl c_62 rfl (fun r4 w hr4 hO => zij x_name r4 _ (hG.own hF hO) hr4) fun r4 hr4 => ?_
 exact rt Tryz.results36 rfl

theorem zmc (x_sep : Str) (x_l : List Str) (R : Str) (w0 : World) (hG : zw w0) {x_l_p0 : Option Addr} {x_l_c0 : Nat} (hs0 : zH w0 x_l_p0 (cells zg x_l)) (hc0 : x_l.length ≤ x_l_c0) (hm : zfb x_sep x_l = some R) :
    Calls Tryz.prog 63 #[str x_sep, .slice x_l_p0 x_l.length x_l_c0] w0 (Ret w0 (fun R => str R) R) := by
 rw [zfb] at hm
 have hF : zG [] := zf
 have hO : Dk.Own w0 [] w0 [] := Dk.Own.refl w0
 have hO := hO.addShr hs0 (by simp [Res.shared])
 refine S.enter tb Tryz.func63 rfl Tryz.ntmps63 rfl ?_ hO hm
 refine lv [0, 1] [0] (fun J E L k => ∃ (s4 : Str) (i5 : Int), J ((5, str s4) :: (6, int i5) :: E) (L) (zaX x_sep x_l k s4 i5)) rfl (fun _ _ j => ⟨[], 0, j rfl⟩) ?_
 rintro n1 a w ⟨s4, i5, hf, hO, hm⟩
 obtain _ | n1 := n1
 rw [zaX] at hm
 cases hm
 rw [zaX] at hm
 refine S.co tb ?_ hf hO hm
 refine br rfl (fun hc7 => ?_) fun hc7 => ?_
 refine jv 5 [0, 1, 6] [0] (fun J E L => ∃ (s12 : Str), J ((5, str s12) :: E) (L) (zdi (zaX x_sep x_l n1) x_l i5 s12)) rfl ?_ ?_
 refine br rfl (fun hc10 => ?_) fun hc10 => ?_
 refine bi rfl fun s11 hs11 => ?_
 exact en rfl fun _ _ j => ⟨s11, j rfl⟩
 exact en rfl fun _ _ j => ⟨s4, j rfl⟩
 rintro a w ⟨s12, hf, hO, hm⟩
 rw [zdi] at hm
 refine S.co tb ?_ hf hO hm
 refine rw_ rfl fun a w hf hO hm => ?_
 obtain ⟨x13, hx13, hm⟩ := ob hm
 obtain ⟨b14, o15, hix13, hSx13⟩ := zbD (enc := zg) (sz := 1) (xs := x_l) 41 Tryz.underlying41 zgF (by decide) (fun _ => rfl) (hO.sees (i := 0) rfl) hx13
 refine zaB (zk hix13 hf rfl rfl) rfl hf rfl rfl fun a hf => ?_
 refine S.op tb ?_ hf hO hm
 refine vl rfl rfl (fun a w hf hO => ze (o := 0) zbE (hSx13 _ (hO.sees (i := 0) rfl)) rfl hf rfl) ?_
 refine bi rfl fun s16 hs16 => ?_
 refine bi rfl fun i18 hi18 => ?_
 exact en rfl fun _ _ j => ⟨_, Nat.lt_succ_self _, s16, i18, j rfl⟩
 exact rt Tryz.results63 rfl

theorem zhl (x_b : UInt8) (R : Bool) (w0 : World) (hG : zw w0) (hm : zdF x_b = some R) :
    Calls Tryz.prog 64 #[zR x_b] w0 (Ret w0 (fun R => .bool R) R) := by
 rw [zdF] at hm
 have hF : zG [] := zf
 have hO : Dk.Own w0 [] w0 [] := Dk.Own.refl w0
 refine S.enter tb Tryz.func64 rfl Tryz.ntmps64 rfl ?_ hO hm
 refine jv 0 [] [] (fun J E L => ∃ (t3 : Bool), J ((2, .bool t3) :: E) (L) (zdY t3)) rfl ?_ ?_
 refine vl rfl rfl (fun a w hf hO => zaC (b := x_b) (c := 32) hf rfl rfl) ?_
 refine br rfl (fun hc2 => ?_) fun hc2 => ?_
 exact en rfl fun _ _ j => ⟨true, j rfl⟩
 refine vl rfl rfl (fun a w hf hO => zaC (b := x_b) (c := 9) hf rfl rfl) ?_
 exact en rfl fun _ _ j => ⟨x_b == 9, j rfl⟩
 rintro a w ⟨t3, hf, hO, hm⟩
 rw [zdY] at hm
 refine S.co tb ?_ hf hO hm
 exact rt Tryz.results64 rfl

theorem zkz (x_s : Str) (x_l : List Str) (R : Str) (w0 : World) (hG : zw w0) {x_l_p0 : Option Addr} {x_l_c0 : Nat} (hs0 : zH w0 x_l_p0 (cells zg x_l)) (hc0 : x_l.length ≤ x_l_c0) (hm : zdZ x_s x_l = some R) :
    Calls Tryz.prog 37 #[str x_s, .slice x_l_p0 x_l.length x_l_c0] w0 (Ret w0 (fun R => str R) R) := by
 rw [zdZ] at hm
 have hF : zG [] := zf
 have hO : Dk.Own w0 [] w0 [] := Dk.Own.refl w0
 have hO := hO.addShr hs0 (by simp [Res.shared])
 refine S.enter tb Tryz.func37 rfl Tryz.ntmps37 rfl ?_ hO hm
 refine br rfl (fun hc3 => ?_) fun hc3 => ?_
 exact rt Tryz.results37 rfl
 refine cl c_63 rfl (fun r6 w hr6 hO => zmc [44, 32] x_l r6 _ (hG.own hF hO) (hO.sees (i := 0) rfl) hc0 hr6) fun r6 hr6 => ?_
 refine lv [5] [0] (fun J E L k => ∃ (s9 : Str) (i10 : Int), J ((0, str s9) :: (6, int i10) :: E) (L) (zak r6 k s9 i10)) rfl (fun _ _ j => ⟨x_s, 0, j rfl⟩) ?_
 rintro n1 a w ⟨s9, i10, hf, hO, hm⟩
 obtain _ | n1 := n1
 rw [zak] at hm
 cases hm
 rw [zak] at hm
 refine S.co tb ?_ hf hO hm
 refine br rfl (fun hc12 => ?_) fun hc12 => ?_
 refine jv 5 [0, 5, 6] [0] (fun J E L => ∃ (t18 : Bool), J ((29, .bool t18) :: E) (L) (zcp (zak r6 n1) r6 s9 i10 t18)) rfl ?_ ?_
 refine bi rfl fun b14 hb14 => ?_
 refine vl rfl rfl (fun a w hf hO => zgv (b := b14) (c := 44) hf rfl rfl) ?_
 refine br rfl (fun hc15 => ?_) fun hc15 => ?_
 refine bi rfl fun b16 hb16 => ?_
 refine cl c_64 rfl (fun r17 w hr17 hO => zhl b16 r17 _ (hG.own hF hO) hr17) fun r17 hr17 => ?_
 exact en rfl fun _ _ j => ⟨!r17, j rfl⟩
 exact en rfl fun _ _ j => ⟨false, j rfl⟩
 rintro a w ⟨t18, hf, hO, hm⟩
 rw [zcp] at hm
 refine S.co tb ?_ hf hO hm
 refine br rfl (fun hc19 => ?_) fun hc19 => ?_
 refine lv [5] [0] (fun J E L k => ∃ (s20 : Str), J ((0, str s20) :: E) (L) (zbf r6 k s20)) rfl (fun _ _ j => ⟨s9, j rfl⟩) ?_
 rintro n3 a w ⟨s20, hf, hO, hm⟩
 obtain _ | n3 := n3
 rw [zbf] at hm
 cases hm
 rw [zbf] at hm
 refine S.co tb ?_ hf hO hm
 refine bi rfl fun i21 hi21 => ?_
 refine bi rfl fun b22 hb22 => ?_
 refine cl c_64 rfl (fun r23 w hr23 hO => zhl b22 r23 _ (hG.own hF hO) hr23) fun r23 hr23 => ?_
 refine br rfl (fun hc25 => ?_) fun hc25 => ?_
 refine bi rfl fun i27 hi27 => ?_
 refine bi rfl fun s28 hs28 => ?_
 exact en rfl fun _ _ j => ⟨_, Nat.lt_succ_self _, s28, j rfl⟩
 refine bi rfl fun s30 hs30 => ?_
 refine bi rfl fun s31 hs31 => ?_
 exact rt Tryz.results37 rfl
 refine bi rfl fun i34 hi34 => ?_
 exact en rfl fun _ _ j => ⟨_, Nat.lt_succ_self _, s9, i34, j rfl⟩
 exact rt Tryz.results37 rfl

theorem zkA (x_l : List api_Field) (x_name : Str) (x_s : Str) (R : List api_Field) (w0 : World) (hG : zw w0) {x_l_p0 : Option Addr} {x_l_c0 : Nat} (hs0 : zH w0 x_l_p0 (cells zb x_l)) (hc0 : x_l.length ≤ x_l_c0) (hm : zd0 x_l x_name x_s = some R) :
    Calls Tryz.prog 13 #[.slice x_l_p0 x_l.length x_l_c0, str x_name, str x_s] w0 fun e w' => ∃ (p0 : Option Addr) (c0 : Nat), e = .returned (.slice p0 R.length c0) ∧ Dk.Own w0 [] w' [.row (.slice p0 R.length c0) 71 2 R.length (cells zb R)] := by
 rw [zd0] at hm
 have hF : zG [] := zf
 have hO : Dk.Own w0 [] w0 [] := Dk.Own.refl w0
 have hO := hO.addShr hs0 (by simp [Res.shared])
 refine S.enter tb Tryz.func13 rfl Tryz.ntmps13 rfl ?_ hO hm
 refine nl 71 2 ?_
 refine lv [0, 1, 2] [0, 1] (fun J E L k => ∃ (i4 : Int) (i5 : Int), J ((7, int i4) :: (8, int i5) :: E) (L) (zam x_l x_name x_s k i4 i5)) rfl (fun _ _ j => ⟨(-1), 0, j rfl⟩) ?_
 rintro n1 a w ⟨i4, i5, hf, hO, hm⟩
 obtain _ | n1 := n1
 rw [zam] at hm
 cases hm
 rw [zam] at hm
 refine S.co tb ?_ hf hO hm
 refine br rfl (fun hc7 => ?_) fun hc7 => ?_
 refine jv 3 [0, 1, 2, 8] [0, 1] (fun J E L => ∃ (i15 : Int), J ((7, int i15) :: E) (L) (zcq (zam x_l x_name x_s n1) i5 i15)) rfl ?_ ?_
 refine rw_ rfl fun a w hf hO hm => ?_
 obtain ⟨x9, hx9, hm⟩ := ob hm
 obtain ⟨b10, o11, hix9, hSx9⟩ := zbD (enc := zb) (sz := 2) (xs := x_l) 24 Tryz.underlying24 zey (by decide) (fun _ => rfl) (hO.sees (i := 1) rfl) hx9
 refine zaB (zk hix9 hf rfl rfl) rfl hf rfl rfl fun a hf => ?_
 refine S.op tb ?_ hf hO hm
 refine vl rfl rfl (fun a w hf hO => zae (o := 0) (vs := [str x9.Name, str x9.Value]) zlp zey (hSx9 _ (hO.sees (i := 1) rfl)) rfl rfl hf rfl) ?_
 refine cl c_36 rfl (fun r12 w hr12 hO => zky x9 x_name r12 _ (hG.own hF hO) hr12) fun r12 hr12 => ?_
 refine br rfl (fun hc14 => ?_) fun hc14 => ?_
 exact en rfl fun _ _ j => ⟨i5, j rfl⟩
 exact en rfl fun _ _ j => ⟨i4, j rfl⟩
 rintro a w ⟨i15, hf, hO, hm⟩
 rw [zcq] at hm
 refine S.co tb ?_ hf hO hm
 refine bi rfl fun i16 hi16 => ?_
 exact en rfl fun _ _ j => ⟨_, Nat.lt_succ_self _, i15, i16, j rfl⟩
 refine nl 71 2 ?_
 refine lv [0, 1, 2, 7] [1, 2] (fun J E L k => ∃ (p20 : Option Addr) (c21 : Nat) (l22 : List api_Field) (i23 : Int), J ((9, .slice p20 l22.length c21) :: (10, int i23) :: E) (.row (.slice p20 l22.length c21) 71 2 l22.length (cells zb l22) :: L) (zal x_l x_name x_s i4 k l22 i23)) rfl (fun _ _ j => ⟨none, 0, [], 0, j rfl⟩) ?_
 rintro n3 a w ⟨p20, c21, l22, i23, hf, hO, hm⟩
 obtain _ | n3 := n3
 rw [zal] at hm
 cases hm
 rw [zal] at hm
 refine S.co tb ?_ hf hO hm
 refine br rfl (fun hc25 => ?_) fun hc25 => ?_
 refine rw_ rfl fun a w hf hO hm => ?_
 obtain ⟨x27, hx27, hm⟩ := ob hm
 obtain ⟨b28, o29, hix27, hSx27⟩ := zbD (enc := zb) (sz := 2) (xs := x_l) 24 Tryz.underlying24 zey (by decide) (fun _ => rfl) (hO.sees (i := 2) rfl) hx27
 refine zaB (zk hix27 hf rfl rfl) rfl hf rfl rfl fun a hf => ?_
 refine S.op tb ?_ hf hO hm
 refine vl rfl rfl (fun a w hf hO => zae (o := 0) (vs := [str x27.Name, str x27.Value]) zlp zey (hSx27 _ (hO.sees (i := 2) rfl)) rfl rfl hf rfl) ?_
 refine al al_71 rfl fun b30 => ?_
 refine st 0 rfl rfl ?_
 refine jv 5 [0, 1, 2, 7, 9, 10, 11] [1, 2, 3] (fun J E L => ∃ (s36 : Str), J (E) (.blk b30 [str x27.Name, str s36] 71 :: L) (zcr (zal x_l x_name x_s i4 n3) l22 i23 x27 s36)) rfl ?_ ?_
 refine br rfl (fun hc33 => ?_) fun hc33 => ?_
 refine ld 0 rfl rfl ?_
 refine rw_ rfl fun a w hf hO hm => ?_
 refine zn (vs := [(0, str x_s)]) (cs := [str x_s]) (e := 9) (sz := 1) hf rfl rfl (fun w => by kernel_rfl) rfl rfl hO fun a b34 w hf hO => ?_
 refine S.op tb ?_ hf hO hm
 refine cl c_37 rfl (fun r35 w hr35 hO => zkz x27.Value ([x_s] : List Str) r35 _ (hG.own hF hO) (hO.rowSees (i := 0) rfl) (hO.rowCap (i := 0) rfl) hr35) fun r35 hr35 => ?_
 refine st 1 rfl rfl ?_
 exact ec [1, 2, 3, 4] rfl rfl rfl fun _ _ j => ⟨r35, j rfl⟩
 exact en rfl fun _ _ j => ⟨x27.Value, j rfl⟩
 rintro a w ⟨s36, hf, hO, hm⟩
 rw [zcr] at hm
 refine S.co tb ?_ hf hO hm
 refine ld 0 rfl rfl ?_
 refine rw_ rfl fun a w hf hO hm => ?_
 refine zn (vs := [(0, .agg #[str x27.Name, str s36])]) (cs := [str x27.Name, str s36]) (e := 71) (sz := 2) hf rfl rfl (fun w => by kernel_rfl) rfl rfl hO fun a b37 w hf hO => ?_
 refine S.op tb ?_ hf hO hm
 refine rw_ rfl fun a w hf hO hm => ?_
 obtain ⟨hg40, hm⟩ := og hm
 refine z8 zmK (enc := zb) (xs := l22) (ys := [(⟨x27.Name, s36⟩ : api_Field)]) (i := 2) (fun _ => rfl) rfl (hO.rowSees (i := 0) rfl) (by simp [cells, zb, Value.oneCell']) hg40 hf rfl rfl rfl hO fun a p38 c39 w hf hO => ?_
 refine S.op tb ?_ hf hO hm
 refine bi rfl fun i42 hi42 => ?_
 exact ec [2, 3, 4] rfl rfl rfl fun _ _ j => ⟨_, Nat.lt_succ_self _, p38, c39, l22 ++ [(⟨x27.Name, s36⟩ : api_Field)], i42, j rfl⟩
 refine jv 0 [] [1, 2] (fun J E L => ∃ (p50 : Option Addr) (c51 : Nat) (l52 : List api_Field), J ((9, .slice p50 l52.length c51) :: E) (.row (.slice p50 l52.length c51) 71 2 l52.length (cells zb l52) :: L) (zcs l52)) rfl ?_ ?_
 refine br rfl (fun hc45 => ?_) fun hc45 => ?_
 refine vl rfl rfl (fun a w hf hO => z6 (vs := [(0, str x_name), (1, str x_s)]) (v := .agg #[str x_name, str x_s]) hf rfl (by kernel_rfl)) ?_
 refine rw_ rfl fun a w hf hO hm => ?_
 refine zn (vs := [(0, .agg #[str x_name, str x_s])]) (cs := [str x_name, str x_s]) (e := 71) (sz := 2) hf rfl rfl (fun w => by kernel_rfl) rfl rfl hO fun a b46 w hf hO => ?_
 refine S.op tb ?_ hf hO hm
 refine rw_ rfl fun a w hf hO hm => ?_
 obtain ⟨hg49, hm⟩ := og hm
 refine z8 zmK (enc := zb) (xs := l22) (ys := [(⟨x_name, x_s⟩ : api_Field)]) (i := 1) (fun _ => rfl) rfl (hO.rowSees (i := 0) rfl) (by simp [cells, zb, Value.oneCell']) hg49 hf rfl rfl rfl hO fun a p47 c48 w hf hO => ?_
 refine S.op tb ?_ hf hO hm
 exact ec [1, 2, 3] rfl rfl rfl fun _ _ j => ⟨p47, c48, l22 ++ [(⟨x_name, x_s⟩ : api_Field)], j rfl⟩
 exact en rfl fun _ _ j => ⟨p20, c21, l22, j rfl⟩
 rintro a w ⟨p50, c51, l52, hf, hO, hm⟩
 rw [zcs] at hm
 refine S.co tb ?_ hf hO hm
 refine re_ rfl fun a w hf hO hm => ?_
 obtain rfl := Option.some.inj hm
 exact zs Tryz.results13 hf (.tmp rfl .nil) ⟨p50, c51, rfl, (hO.sub (.cons_cons _ (.cons _ (.cons _ .slnil))))⟩

theorem zik (x_a : List api_Field) (x_b : List api_Field) (R : Bool) (w0 : World) (hG : zw w0) {x_a_p0 : Option Addr} {x_a_c0 : Nat} (hs0 : zH w0 x_a_p0 (cells zb x_a)) (hc0 : x_a.length ≤ x_a_c0) {x_b_p1 : Option Addr} {x_b_c1 : Nat} (hs1 : zH w0 x_b_p1 (cells zb x_b)) (hc1 : x_b.length ≤ x_b_c1) (hm : zem x_a x_b = some R) :
    Calls Tryz.prog 12 #[.slice x_a_p0 x_a.length x_a_c0, .slice x_b_p1 x_b.length x_b_c1] w0 (Ret w0 (fun R => .bool R) R) := by
 rw [zem] at hm
 have hF : zG [] := zf
 have hO : Dk.Own w0 [] w0 [] := Dk.Own.refl w0
 have hO := hO.addShr hs0 (by simp [Res.shared])
 have hO := hO.addShr hs1 (by simp [Res.shared])
 refine S.enter tb Tryz.func12 rfl Tryz.ntmps12 rfl ?_ hO hm
 refine br rfl (fun hc3 => ?_) fun hc3 => ?_
 exact rt Tryz.results12 rfl
 refine lv [0, 1] [0, 1] (fun J E L k => ∃ (i7 : Int), J ((5, int i7) :: E) (L) (zbw x_a x_b k i7)) rfl (fun _ _ j => ⟨0, j rfl⟩) ?_
 rintro n1 a w ⟨i7, hf, hO, hm⟩
 obtain _ | n1 := n1
 rw [zbw] at hm
 cases hm
 rw [zbw] at hm
 refine S.co tb ?_ hf hO hm
 refine br rfl (fun hc9 => ?_) fun hc9 => ?_
 refine rc_ rfl fun a w hf hO hm => ?_
 refine zdd (by kernel_rfl) (by kernel_rfl) hO ?_
 refine zr (fun w hO => zu hf rfl) rfl hf rfl rfl fun a hf => ?_
 refine zr (fun w hO => zu hf rfl) rfl hf rfl rfl fun a hf => ?_
 obtain ⟨x11, hx11, hm⟩ := ob hm
 obtain ⟨b12, o13, hix11, hSx11⟩ := zbD (enc := zb) (sz := 2) (xs := x_a) 24 Tryz.underlying24 zey (by decide) (fun _ => rfl) (hO.sees (i := 1) rfl) hx11
 refine zr (fun w hO => zk hix11 hf rfl rfl) rfl hf rfl rfl fun a hf => ?_
 refine zr (fun w hO => zae (o := 0) (vs := [str x11.Name, str x11.Value]) zlp zey (hSx11 _ (hO.sees (i := 1) rfl)) rfl rfl hf rfl) rfl hf rfl rfl fun a hf => ?_
 refine zr (fun w hO => zu hf rfl) rfl hf rfl rfl fun a hf => ?_
 refine zr (fun w hO => zu hf rfl) rfl hf rfl rfl fun a hf => ?_
 obtain ⟨x14, hx14, hm⟩ := ob hm
 obtain ⟨b15, o16, hix14, hSx14⟩ := zbD (enc := zb) (sz := 2) (xs := x_b) 24 Tryz.underlying24 zey (by decide) (fun _ => rfl) (hO.sees (i := 0) rfl) hx14
 refine zr (fun w hO => zk hix14 hf rfl rfl) rfl hf rfl rfl fun a hf => ?_
 refine zr (fun w hO => zae (o := 0) (vs := [str x14.Name, str x14.Value]) zlp zey (hSx14 _ (hO.sees (i := 0) rfl)) rfl rfl hf rfl) rfl hf rfl rfl fun a hf => ?_
 refine zr (fun w hO => zmx (by kernel_rfl) (eq_71 x11 x14) hf rfl rfl) rfl hf rfl rfl fun a hf => ?_
 refine wpQuiet_nil ?_
 intro w hO
 refine S.no tb ?_ hf hO hm
 refine br rfl (fun hc18 => ?_) fun hc18 => ?_
 exact rt Tryz.results12 rfl
 refine bi rfl fun i21 hi21 => ?_
 exact en rfl fun _ _ j => ⟨_, Nat.lt_succ_self _, i21, j rfl⟩
 exact rt Tryz.results12 rfl

theorem zgM (x_l : List api_Field) (x_name : Str) (R : List Str) (w0 : World) (hG : zw w0) {x_l_p0 : Option Addr} {x_l_c0 : Nat} (hs0 : zH w0 x_l_p0 (cells zb x_l)) (hc0 : x_l.length ≤ x_l_c0) (hm : zc6 x_l x_name = some R) :
    Calls Tryz.prog 15 #[.slice x_l_p0 x_l.length x_l_c0, str x_name] w0 fun e w' => ∃ (p0 : Option Addr) (c0 : Nat), e = .returned (.slice p0 R.length c0) ∧ Dk.Own w0 [] w' [.row (.slice p0 R.length c0) 9 1 R.length (cells zg R)] := by
 rw [zc6] at hm
 have hF : zG [] := zf
 have hO : Dk.Own w0 [] w0 [] := Dk.Own.refl w0
 have hO := hO.addShr hs0 (by simp [Res.shared])
 refine S.enter tb Tryz.func15 rfl Tryz.ntmps15 rfl ?_ hO hm
 refine nl 9 1 ?_
 refine nl 9 1 ?_
 refine lv [0, 1] [1, 2] (fun J E L k => ∃ (p4 : Option Addr) (c5 : Nat) (l6 : List Str) (i7 : Int), J ((5, .slice p4 l6.length c5) :: (6, int i7) :: E) (.row (.slice p4 l6.length c5) 9 1 l6.length (cells zg l6) :: L) (zan x_l x_name k l6 i7)) rfl (fun _ _ j => ⟨none, 0, [], 0, j rfl⟩) ?_
 rintro n1 a w ⟨p4, c5, l6, i7, hf, hO, hm⟩
 obtain _ | n1 := n1
 rw [zan] at hm
 cases hm
 rw [zan] at hm
 refine S.co tb ?_ hf hO hm
 refine br rfl (fun hc9 => ?_) fun hc9 => ?_
 refine jv 3 [0, 1, 6] [1, 2] (fun J E L => ∃ (p24 : Option Addr) (c25 : Nat) (l26 : List Str), J ((5, .slice p24 l26.length c25) :: E) (.row (.slice p24 l26.length c25) 9 1 l26.length (cells zg l26) :: L) (zct (zan x_l x_name n1) i7 l26)) rfl ?_ ?_
 refine rw_ rfl fun a w hf hO hm => ?_
 obtain ⟨x11, hx11, hm⟩ := ob hm
 obtain ⟨b12, o13, hix11, hSx11⟩ := zbD (enc := zb) (sz := 2) (xs := x_l) 24 Tryz.underlying24 zey (by decide) (fun _ => rfl) (hO.sees (i := 2) rfl) hx11
 refine zaB (zk hix11 hf rfl rfl) rfl hf rfl rfl fun a hf => ?_
 refine S.op tb ?_ hf hO hm
 refine vl rfl rfl (fun a w hf hO => zae (o := 0) (vs := [str x11.Name, str x11.Value]) zlp zey (hSx11 _ (hO.sees (i := 2) rfl)) rfl rfl hf rfl) ?_
 refine cl c_36 rfl (fun r14 w hr14 hO => zky x11 x_name r14 _ (hG.own hF hO) hr14) fun r14 hr14 => ?_
 refine br rfl (fun hc16 => ?_) fun hc16 => ?_
 refine rw_ rfl fun a w hf hO hm => ?_
 obtain ⟨x17, hx17, hm⟩ := ob hm
 obtain ⟨b18, o19, hix17, hSx17⟩ := zbD (enc := zb) (sz := 2) (xs := x_l) 24 Tryz.underlying24 zey (by decide) (fun _ => rfl) (hO.sees (i := 2) rfl) hx17
 refine zaB (zk hix17 hf rfl rfl) rfl hf rfl rfl fun a hf => ?_
 refine S.op tb ?_ hf hO hm
 refine vl rfl rfl (fun a w hf hO => ze (o := 1) zbE (hSx17 _ (hO.sees (i := 2) rfl)) rfl hf rfl) ?_
 refine rw_ rfl fun a w hf hO hm => ?_
 refine zn (vs := [(0, str x17.Value)]) (cs := [str x17.Value]) (e := 9) (sz := 1) hf rfl rfl (fun w => by kernel_rfl) rfl rfl hO fun a b20 w hf hO => ?_
 refine S.op tb ?_ hf hO hm
 refine rw_ rfl fun a w hf hO hm => ?_
 obtain ⟨hg23, hm⟩ := og hm
 refine z8 zlq (enc := zg) (xs := l6) (ys := ([x17.Value] : List Str)) (i := 1) (fun _ => rfl) rfl (hO.rowSees (i := 0) rfl) (by simp [cells, zg, Value.oneCell']) hg23 hf rfl rfl rfl hO fun a p21 c22 w hf hO => ?_
 refine S.op tb ?_ hf hO hm
 exact ec [1, 2, 3] rfl rfl rfl fun _ _ j => ⟨p21, c22, l6 ++ ([x17.Value] : List Str), j rfl⟩
 exact en rfl fun _ _ j => ⟨p4, c5, l6, j rfl⟩
 rintro a w ⟨p24, c25, l26, hf, hO, hm⟩
 rw [zct] at hm
 refine S.co tb ?_ hf hO hm
 refine bi rfl fun i27 hi27 => ?_
 exact en rfl fun _ _ j => ⟨_, Nat.lt_succ_self _, p24, c25, l26, i27, j rfl⟩
 refine re_ rfl fun a w hf hO hm => ?_
 obtain rfl := Option.some.inj hm
 exact zs Tryz.results15 hf (.tmp rfl .nil) ⟨p4, c5, rfl, (hO.sub (.cons_cons _ (.cons _ (.cons _ .slnil))))⟩

end Go.Proofs
end
