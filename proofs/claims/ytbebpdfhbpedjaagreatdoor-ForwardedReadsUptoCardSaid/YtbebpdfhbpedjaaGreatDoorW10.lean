/-
  Walks, written by a program (wip/gen): what its model says, the function returns; what was there before is as it was.
  Walks, written by a program (wip/gen): what its model says, the function returns; what was there before is as it was.
  Walks, written by a program (wip/gen): what its model says, the function returns; what was there before is as it was.
  Walks, written by a program (wip/gen): what its model says, the function returns; what was there before is as it was.
  Walks, written by a program (wip/gen): what its model says, the function returns; what was there before is as it was.

-/
import Derived.Test.YtbebpdfhbpedjaaGreatDoorLib
import Derived.Test.YtbebpdfhbpedjaaGreatDoorSq
section
set_option linter.unusedVariables false
set_option maxHeartbeats 1000000
set_option linter.unusedSimpArgs false
set_option maxRecDepth 100000
namespace Go.Proofs
open Go.Dk Go.Dm Go.RowKit

theorem zhh (x_s : Str) (R : scan_Scanner) (w0 : World) (hG : zr w0) (hm : zey x_s = some R) :
    Calls Tryz.prog 65 #[str x_s] w0 fun e w' => ∃ (b0 : Nat), e = .returned (ptr b0 0) ∧ Dk.Own w0 [] w' [.blk b0 [str R.f_s, int R.f_at] 137] := by
 rw [zey] at hm
 have hF : zC [] := ze
 have hO : Dk.Own w0 [] w0 [] := Dk.Own.refl w0
 refine S.enter tb Tryz.func65 rfl Tryz.ntmps65 rfl ?_ hO hm
 refine vl rfl rfl (fun a w hf hO => zaT (vs := [(0, str x_s)]) (v := .agg #[str x_s, int 0]) hf rfl (by kernel_rfl)) ?_
 refine bo rfl fun b2 => ?_
 refine re_ rfl fun a w hf hO hm => ?_
 obtain rfl := Option.some.inj hm
 exact zh Tryz.results65 hf (.tmp rfl .nil) ⟨b2, rfl, hO⟩

theorem zeK (x_c : scan_Scanner) (R : Str) (w0 : World) (hG : zr w0) {x_c_b0 : Nat} (hs0 : zF w0 (some ⟨x_c_b0, 0, none⟩) [str x_c.f_s, int x_c.f_at]) (hm : zaV x_c = some R) :
    Calls Tryz.prog 96 #[ptr x_c_b0 0] w0 (Ret w0 (fun R => str R) R) := by
 rw [zaV] at hm
 have hF : zC [] := ze
 have hO : Dk.Own w0 [] w0 [] := Dk.Own.refl w0
 have hO := hO.addShr hs0 (by simp [Res.shared])
 refine S.enter tb Tryz.func96 rfl Tryz.ntmps96 rfl ?_ hO hm
 refine vl rfl rfl (fun a w hf hO => zdC Tryz.underlying110 hf rfl rfl) ?_
 refine kn (b' := false) rfl rfl ?_
 refine rc_ rfl fun a w hf hO hm => ?_
 refine zbV (by kernel_rfl) (by kernel_rfl) hO ?_
 refine zk (fun w hO => zs hf rfl) rfl hf rfl rfl fun a hf => ?_
 refine zk (fun w hO => zaq hf rfl) rfl hf rfl rfl fun a hf => ?_
 refine zk (fun w hO => zaR zfs hf rfl) rfl hf rfl rfl fun a hf => ?_
 refine zk (fun w hO => zo (o := 0) zdE (hO.sees (i := 0) rfl) rfl hf rfl) rfl hf rfl rfl fun a hf => ?_
 refine zk (fun w hO => zs hf rfl) rfl hf rfl rfl fun a hf => ?_
 refine zk (fun w hO => zaq hf rfl) rfl hf rfl rfl fun a hf => ?_
 refine zk (fun w hO => zaR zft hf rfl) rfl hf rfl rfl fun a hf => ?_
 refine zk (fun w hO => zo (o := 1) ag_3 (hO.sees (i := 0) rfl) rfl hf rfl) rfl hf rfl rfl fun a hf => ?_
 obtain ⟨s4, hs4, hm⟩ := ob hm
 refine zk (fun w hO => zhM (l := x_c.f_s) Tryz.underlying9 hf rfl rfl hs4) rfl hf rfl rfl fun a hf => ?_
 refine zk (fun w hO => zba hf rfl) rfl hf rfl rfl fun a hf => ?_
 refine wpQuiet_nil ?_
 intro w hO
 refine S.no tb ?_ hf hO hm
 exact rt Tryz.results96 rfl

theorem zb7 (x_c : scan_Scanner) (R : Bool) (w0 : World) (hG : zr w0) {x_c_b0 : Nat} (hs0 : zF w0 (some ⟨x_c_b0, 0, none⟩) [str x_c.f_s, int x_c.f_at]) (hm : zT x_c = some R) :
    Calls Tryz.prog 66 #[ptr x_c_b0 0] w0 (Ret w0 (fun R => .bool R) R) := by
 rw [zT] at hm
 have hF : zC [] := ze
 have hO : Dk.Own w0 [] w0 [] := Dk.Own.refl w0
 have hO := hO.addShr hs0 (by simp [Res.shared])
 refine S.enter tb Tryz.func66 rfl Tryz.ntmps66 rfl ?_ hO hm
 refine cl c_96 rfl (fun r2 w hr2 hO => zeK x_c r2 _ (hG.own hF hO) (hO.sees (i := 0) rfl) hr2) fun r2 hr2 => ?_
 exact rt Tryz.results66 rfl

theorem zaU (x_c : scan_Scanner) (R : Int) (w0 : World) (hG : zr w0) {x_c_b0 : Nat} (hs0 : zF w0 (some ⟨x_c_b0, 0, none⟩) [str x_c.f_s, int x_c.f_at]) (hm : zae x_c = some R) :
    Calls Tryz.prog 97 #[ptr x_c_b0 0] w0 (Ret w0 (fun R => int R) R) := by
 rw [zae] at hm
 have hF : zC [] := ze
 have hO : Dk.Own w0 [] w0 [] := Dk.Own.refl w0
 have hO := hO.addShr hs0 (by simp [Res.shared])
 refine S.enter tb Tryz.func97 rfl Tryz.ntmps97 rfl ?_ hO hm
 refine vl rfl rfl (fun a w hf hO => zdC Tryz.underlying110 hf rfl rfl) ?_
 refine kn (b' := false) rfl rfl ?_
 refine ld 0 rfl rfl ?_
 exact rt Tryz.results97 rfl

theorem zab (x_c : scan_Scanner) (R : UInt8 × Bool) (w0 : World) (hG : zr w0) {x_c_b0 : Nat} (hs0 : zF w0 (some ⟨x_c_b0, 0, none⟩) [str x_c.f_s, int x_c.f_at]) (hm : zn x_c = some R) :
    Calls Tryz.prog 99 #[ptr x_c_b0 0] w0 (Ret w0 (fun R => .tuple #[zH R.1, .bool R.2]) R) := by
 rw [zn] at hm
 have hF : zC [] := ze
 have hO : Dk.Own w0 [] w0 [] := Dk.Own.refl w0
 have hO := hO.addShr hs0 (by simp [Res.shared])
 refine S.enter tb Tryz.func99 rfl Tryz.ntmps99 rfl ?_ hO hm
 refine cl c_66 rfl (fun r2 w hr2 hO => zb7 x_c r2 _ (hG.own hF hO) (hO.sees (i := 0) rfl) hr2) fun r2 hr2 => ?_
 refine br rfl (fun hc4 => ?_) fun hc4 => ?_
 exact rt Tryz.results99 rfl
 refine rc_ rfl fun a w hf hO hm => ?_
 refine zbV (by kernel_rfl) (by kernel_rfl) hO ?_
 refine zk (fun w hO => zs hf rfl) rfl hf rfl rfl fun a hf => ?_
 refine zk (fun w hO => zaq hf rfl) rfl hf rfl rfl fun a hf => ?_
 refine zk (fun w hO => zaR zfs hf rfl) rfl hf rfl rfl fun a hf => ?_
 refine zk (fun w hO => zo (o := 0) zdE (hO.sees (i := 0) rfl) rfl hf rfl) rfl hf rfl rfl fun a hf => ?_
 refine zk (fun w hO => zs hf rfl) rfl hf rfl rfl fun a hf => ?_
 refine zk (fun w hO => zaq hf rfl) rfl hf rfl rfl fun a hf => ?_
 refine zk (fun w hO => zaR zft hf rfl) rfl hf rfl rfl fun a hf => ?_
 refine zk (fun w hO => zo (o := 1) ag_3 (hO.sees (i := 0) rfl) rfl hf rfl) rfl hf rfl rfl fun a hf => ?_
 obtain ⟨b7, hb7, hm⟩ := ob hm
 refine zk (fun w hO => zfm (l := x_c.f_s) Tryz.underlying9 hf rfl rfl hb7) rfl hf rfl rfl fun a hf => ?_
 refine zk (fun w hO => zba hf rfl) rfl hf rfl rfl fun a hf => ?_
 refine zk (fun w hO => zba hf rfl) rfl hf rfl rfl fun a hf => ?_
 refine wpQuiet_nil ?_
 intro w hO
 refine S.no tb ?_ hf hO hm
 exact rt Tryz.results99 rfl

theorem zq (x_c : scan_Scanner) (x_b : UInt8) (R : Bool × scan_Scanner) (w0 : World) (hG : zr w0) {x_c_b0 : Nat} {F : List Nat} (hF : zC F) (hO : Dk.Own w0 F w0 [.blk x_c_b0 [str x_c.f_s, int x_c.f_at] 137]) (hm : zf x_c x_b = some R) :
    Calls Tryz.prog 70 #[ptr x_c_b0 0, zH x_b] w0 fun e w' => e = .returned (.bool R.1) ∧ Dk.Own w0 F w' [.blk x_c_b0 [str R.2.f_s, int R.2.f_at] 137] := by
 rw [zf] at hm
 refine S.enter tb Tryz.func70 rfl Tryz.ntmps70 rfl ?_ hO hm
 refine cl c_99 rfl (fun r2 w hr2 hO => zab x_c r2 _ (hG.own hF hO) (hO.blkSees (i := 0) rfl) hr2) fun r2 hr2 => ?_
 refine jv 1 [0] [0] (fun J E L => ∃ (t5 : Bool), J ((18, .bool t5) :: E) (L) (zar x_c t5)) rfl ?_ ?_
 refine br rfl (fun hc4 => ?_) fun hc4 => ?_
 exact en rfl fun _ _ j => ⟨true, j rfl⟩
 refine vl rfl rfl (fun a w hf hO => zeq (b := r2.1) (c := x_b) hf rfl rfl) ?_
 exact en rfl fun _ _ j => ⟨!(r2.1 == x_b), j rfl⟩
 rintro a w ⟨t5, hf, hO, hm⟩
 rw [zar] at hm
 refine S.co tb ?_ hf hO hm
 refine br rfl (fun hc6 => ?_) fun hc6 => ?_
 refine re_ rfl fun a w hf hO hm => ?_
 obtain rfl := Option.some.inj hm
 exact zh Tryz.results70 hf (.tmp rfl .nil) ⟨rfl, hO⟩
 refine ld 0 rfl rfl ?_
 refine bi rfl fun i9 hi9 => ?_
 refine st 0 rfl rfl ?_
 refine re_ rfl fun a w hf hO hm => ?_
 obtain rfl := Option.some.inj hm
 exact zh Tryz.results70 hf (.tmp rfl .nil) ⟨rfl, hO⟩

theorem zcv (x_p : commas_splitter) (x_at : Int) (R : commas_splitter) (w0 : World) (hG : zr w0) {x_p_b0 : Nat} {x_p_b1 : Nat} {x_p_p2 : Option Addr} {x_p_c2 : Nat} {F : List Nat} (hF : zC F) (hO : Dk.Own w0 F w0 [.blk x_p_b0 [ptr x_p_b1 0, .slice x_p_p2 x_p.f_out.length x_p_c2, int x_p.f_from, str x_p.f_s] 113, .blk x_p_b1 [str x_p.Scanner.f_s, int x_p.Scanner.f_at] 137, .row (.slice x_p_p2 x_p.f_out.length x_p_c2) 9 1 x_p.f_out.length (cells zd x_p.f_out)]) (hm : zac x_p x_at = some R) :
    Calls Tryz.prog 68 #[ptr x_p_b0 0, int x_at] w0 fun e w' => ∃ (p0 : Option Addr) (c0 : Nat), e = .returned (.tuple #[]) ∧ Dk.Own w0 F w' [.blk x_p_b0 [ptr x_p_b1 0, .slice p0 R.f_out.length c0, int R.f_from, str R.f_s] 113, .blk x_p_b1 [str R.Scanner.f_s, int R.Scanner.f_at] 137, .row (.slice p0 R.f_out.length c0) 9 1 R.f_out.length (cells zd R.f_out)] := by
 rw [zac] at hm
 refine S.enter tb Tryz.func68 rfl Tryz.ntmps68 rfl ?_ hO hm
 refine jv 0 [0] [1] (fun J E L => ∃ (p10 : Option Addr) (c11 : Nat) (l12 : List Str), J (E) (.blk x_p_b0 [ptr x_p_b1 0, .slice p10 l12.length c11, int x_p.f_from, str x_p.f_s] 113 :: .row (.slice p10 l12.length c11) 9 1 l12.length (cells zd l12) :: L) (z6 x_p l12)) rfl ?_ ?_
 refine rc_ rfl fun a w hf hO hm => ?_
 refine zbV (by kernel_rfl) (by kernel_rfl) hO ?_
 refine zk (fun w hO => zs hf rfl) rfl hf rfl rfl fun a hf => ?_
 refine zk (fun w hO => zaq hf rfl) rfl hf rfl rfl fun a hf => ?_
 refine zk (fun w hO => zaR ziz hf rfl) rfl hf rfl rfl fun a hf => ?_
 refine zk (fun w hO => zo (o := 3) zdE (hO.blkSees (i := 0) rfl) rfl hf rfl) rfl hf rfl rfl fun a hf => ?_
 refine zk (fun w hO => zs hf rfl) rfl hf rfl rfl fun a hf => ?_
 refine zk (fun w hO => zaq hf rfl) rfl hf rfl rfl fun a hf => ?_
 refine zk (fun w hO => zaR ziy hf rfl) rfl hf rfl rfl fun a hf => ?_
 refine zk (fun w hO => zo (o := 2) ag_3 (hO.blkSees (i := 0) rfl) rfl hf rfl) rfl hf rfl rfl fun a hf => ?_
 refine zk (fun w hO => zs hf rfl) rfl hf rfl rfl fun a hf => ?_
 obtain ⟨s1, hs1, hm⟩ := ob hm
 refine zk (fun w hO => zg1 (l := x_p.f_s) Tryz.underlying9 hf rfl rfl rfl hs1) rfl hf rfl rfl fun a hf => ?_
 obtain ⟨r2, hr2, hm⟩ := ob hm
 refine ziW (fun w hO => zl c_91 hf (vs := [str s1, str [32, 9]]) rfl) rfl hf rfl rfl (fun w hO => (zev s1 [32, 9] r2 _ (hG.own hF hO) hr2).mono fun e w' ⟨he, hb⟩ => ⟨he, hO.grow hb⟩) fun a hf => ?_
 refine zk (fun w hO => zba hf rfl) rfl hf rfl rfl fun a hf => ?_
 refine wpQuiet_nil ?_
 intro w hO
 refine S.no tb ?_ hf hO hm
 refine br rfl (fun hc5 => ?_) fun hc5 => ?_
 refine ld 0 rfl rfl ?_
 refine rw_ rfl fun a w hf hO hm => ?_
 refine zi (vs := [(0, str r2)]) (cs := [str r2]) (e := 9) (sz := 1) hf rfl rfl (fun w => by kernel_rfl) rfl rfl hO fun a b6 w hf hO => ?_
 refine S.op tb ?_ hf hO hm
 refine rw_ rfl fun a w hf hO hm => ?_
 obtain ⟨hg9, hm⟩ := og hm
 refine zak zhP (enc := zd) (xs := x_p.f_out) (ys := ([r2] : List Str)) (i := 3) (fun _ => rfl) rfl (hO.rowSees (i := 0) rfl) (by simp [cells, zd, Value.oneCell']) hg9 hf rfl rfl rfl hO fun a p7 c8 w hf hO => ?_
 refine S.op tb ?_ hf hO hm
 refine st 1 rfl rfl ?_
 exact ec [1, 3, 2] rfl rfl rfl fun _ _ j => ⟨p7, c8, x_p.f_out ++ ([r2] : List Str), j rfl⟩
 exact ec [0, 2, 1] rfl rfl rfl fun _ _ j => ⟨x_p_p2, x_p_c2, x_p.f_out, j rfl⟩
 rintro a w ⟨p10, c11, l12, hf, hO, hm⟩
 rw [z6] at hm
 refine S.co tb ?_ hf hO hm
 refine ld 0 rfl rfl ?_
 refine cl c_97 rfl (fun r13 w hr13 hO => zaU x_p.Scanner r13 _ (hG.own hF hO) (hO.blkSees (i := 2) rfl) hr13) fun r13 hr13 => ?_
 refine st 0 rfl rfl ?_
 refine rn_ rfl fun a w hf hO hm => ?_
 obtain rfl := Option.some.inj hm
 exact zfn Tryz.results68 hf .nil ⟨p10, c11, rfl, (hO.choose [0, 2, 1] rfl)⟩

theorem zdg (x_p : commas_splitter) (R : Bool × commas_splitter) (w0 : World) (hG : zr w0) {x_p_b0 : Nat} {x_p_b1 : Nat} {x_p_p2 : Option Addr} {x_p_c2 : Nat} {F : List Nat} (hF : zC F) (hO : Dk.Own w0 F w0 [.blk x_p_b0 [ptr x_p_b1 0, .slice x_p_p2 x_p.f_out.length x_p_c2, int x_p.f_from, str x_p.f_s] 113, .blk x_p_b1 [str x_p.Scanner.f_s, int x_p.Scanner.f_at] 137, .row (.slice x_p_p2 x_p.f_out.length x_p_c2) 9 1 x_p.f_out.length (cells zd x_p.f_out)]) (hm : zU x_p = some R) :
    Calls Tryz.prog 98 #[ptr x_p_b0 0] w0 fun e w' => ∃ (p0 : Option Addr) (c0 : Nat), e = .returned (.bool R.1) ∧ Dk.Own w0 F w' [.blk x_p_b0 [ptr x_p_b1 0, .slice p0 R.2.f_out.length c0, int R.2.f_from, str R.2.f_s] 113, .blk x_p_b1 [str R.2.Scanner.f_s, int R.2.Scanner.f_at] 137, .row (.slice p0 R.2.f_out.length c0) 9 1 R.2.f_out.length (cells zd R.2.f_out)] := by
 rw [zU] at hm
 refine S.enter tb Tryz.func98 rfl Tryz.ntmps98 rfl ?_ hO hm
 refine jv 0 [] [0, 2] (fun J E L => ∃ (s33 : Str) (i34 : Int), J (E) (.blk x_p_b1 [str s33, int i34] 137 :: L) (zaG x_p s33 i34)) rfl ?_ ?_
 refine ch [1, 0, 2] rfl rfl ?_
 refine lv [0] [1, 2] (fun J E L k => ∃ (s3 : Str) (i4 : Int) (i5 : Int), J ((3, int i5) :: E) (.blk x_p_b1 [str s3, int i4] 137 :: L) (zg x_p k s3 i4 i5)) rfl (fun _ _ j => ⟨x_p.Scanner.f_s, x_p.Scanner.f_at, 1, j rfl⟩) ?_
 rintro n1 a w ⟨s3, i4, i5, hf, hO, hm⟩
 obtain _ | n1 := n1
 rw [zg] at hm
 cases hm
 rw [zg] at hm
 refine S.co tb ?_ hf hO hm
 refine br rfl (fun hc7 => ?_) fun hc7 => ?_
 refine ld 1 rfl rfl ?_
 refine cl c_99 rfl (fun r9 w hr9 hO => zab (⟨s3, i4⟩ : scan_Scanner) r9 _ (hG.own hF hO) (hO.blkSees (i := 0) rfl) hr9) fun r9 hr9 => ?_
 refine br rfl (fun hc12 => ?_) fun hc12 => ?_
 refine re_ rfl fun a w hf hO hm => ?_
 obtain rfl := Option.some.inj hm
 exact zh Tryz.results98 hf (.tmp rfl .nil) ⟨x_p_p2, x_p_c2, rfl, (hO.choose [1, 0, 2] rfl)⟩
 refine ld 1 rfl rfl ?_
 refine rw_ rfl fun a w hf hO hm => ?_
 obtain ⟨r15, hr15, hm⟩ := ob hm
 have hch16 := (show Dk.Own w0 F _ ([.blk x_p_b1 [str s3, int i4] 137] ++ [.blk x_p_b0 [ptr x_p_b1 0, .slice x_p_p2 x_p.f_out.length x_p_c2, int x_p.f_from, str x_p.f_s] 113, .row (.slice x_p_p2 x_p.f_out.length x_p_c2) 9 1 x_p.f_out.length (cells zd x_p.f_out)]) from hO)
 have hfar16 := Dk.Own.far hch16 rfl hF hG.size
 have hlend16 := hch16.lend (S := []) rfl trivial
 have hcl16 := zq (⟨s3, i4⟩ : scan_Scanner) r9.1 r15 _ (hG.own hF hO) hfar16 hlend16 hr15
 refine zj (zl zg9 hf (vs := [ptr x_p_b1 0, zH r9.1]) rfl) rfl hf rfl rfl (hcl16) ?_
 rintro e w' ⟨he, hO'⟩
 refine ⟨_, he, fun a hf => ?_⟩
 have hO := hch16.back rfl hO' rfl
 refine S.op tb ?_ hf hO hm
 refine vl rfl rfl (fun a w hf hO => zJ (b := r9.1) (c := 40) hf rfl rfl) ?_
 refine br rfl (fun hc20 => ?_) fun hc20 => ?_
 refine bi rfl fun i21 hi21 => ?_
 exact en rfl fun _ _ j => ⟨_, Nat.lt_succ_self _, r15.2.f_s, r15.2.f_at, i21, j rfl⟩
 refine vl rfl rfl (fun a w hf hO => zJ (b := r9.1) (c := 41) hf rfl rfl) ?_
 refine br rfl (fun hc23 => ?_) fun hc23 => ?_
 refine bi rfl fun i24 hi24 => ?_
 exact en rfl fun _ _ j => ⟨_, Nat.lt_succ_self _, r15.2.f_s, r15.2.f_at, i24, j rfl⟩
 refine vl rfl rfl (fun a w hf hO => zJ (b := r9.1) (c := 92) hf rfl rfl) ?_
 refine br rfl (fun hc26 => ?_) fun hc26 => ?_
 refine ld 1 rfl rfl ?_
 refine cl c_99 rfl (fun r27 w hr27 hO => zab r15.2 r27 _ (hG.own hF hO) (hO.blkSees (i := 0) rfl) hr27) fun r27 hr27 => ?_
 refine br rfl (fun hc30 => ?_) fun hc30 => ?_
 refine ld 1 rfl rfl ?_
 refine rw_ rfl fun a w hf hO hm => ?_
 obtain ⟨r31, hr31, hm⟩ := ob hm
 have hch32 := (show Dk.Own w0 F _ ([.blk x_p_b1 [str r15.2.f_s, int r15.2.f_at] 137] ++ [.blk x_p_b0 [ptr x_p_b1 0, .slice x_p_p2 x_p.f_out.length x_p_c2, int x_p.f_from, str x_p.f_s] 113, .row (.slice x_p_p2 x_p.f_out.length x_p_c2) 9 1 x_p.f_out.length (cells zd x_p.f_out)]) from hO)
 have hfar32 := Dk.Own.far hch32 rfl hF hG.size
 have hlend32 := hch32.lend (S := []) rfl trivial
 have hcl32 := zq r15.2 r27.1 r31 _ (hG.own hF hO) hfar32 hlend32 hr31
 refine zj (zl zg9 hf (vs := [ptr x_p_b1 0, zH r27.1]) rfl) rfl hf rfl rfl (hcl32) ?_
 rintro e w' ⟨he, hO'⟩
 refine ⟨_, he, fun a hf => ?_⟩
 have hO := hch32.back rfl hO' rfl
 refine S.op tb ?_ hf hO hm
 exact en rfl fun _ _ j => ⟨_, Nat.lt_succ_self _, r31.2.f_s, r31.2.f_at, i5, j rfl⟩
 exact en rfl fun _ _ j => ⟨_, Nat.lt_succ_self _, r15.2.f_s, r15.2.f_at, i5, j rfl⟩
 exact en rfl fun _ _ j => ⟨_, Nat.lt_succ_self _, r15.2.f_s, r15.2.f_at, i5, j rfl⟩
 exact en rfl fun _ _ j => ⟨s3, i4, j rfl⟩
 rintro a w ⟨s33, i34, hf, hO, hm⟩
 rw [zaG] at hm
 refine S.co tb ?_ hf hO hm
 refine re_ rfl fun a w hf hO hm => ?_
 obtain rfl := Option.some.inj hm
 exact zh Tryz.results98 hf (.tmp rfl .nil) ⟨x_p_p2, x_p_c2, rfl, (hO.choose [1, 0, 2] rfl)⟩

theorem zfD (x_b : UInt8) (R : Bool) (w0 : World) (hG : zr w0) (hm : zcQ x_b = some R) :
    Calls Tryz.prog 173 #[zH x_b] w0 (Ret w0 (fun R => .bool R) R) := by
 rw [zcQ] at hm
 have hF : zC [] := ze
 have hO : Dk.Own w0 [] w0 [] := Dk.Own.refl w0
 refine S.enter tb Tryz.func173 rfl Tryz.ntmps173 rfl ?_ hO hm
 refine jv 0 [] [] (fun J E L => ∃ (t3 : Bool), J ((2, .bool t3) :: E) (L) (zbl t3)) rfl ?_ ?_
 refine vl rfl rfl (fun a w hf hO => zis (b := x_b) (c := 32) hf rfl rfl) ?_
 refine br rfl (fun hc2 => ?_) fun hc2 => ?_
 refine vl rfl rfl (fun a w hf hO => zkk (b := x_b) (c := 127) hf rfl rfl) ?_
 exact en rfl fun _ _ j => ⟨decide (x_b < 127), j rfl⟩
 exact en rfl fun _ _ j => ⟨false, j rfl⟩
 rintro a w ⟨t3, hf, hO, hm⟩
 rw [zbl] at hm
 refine S.co tb ?_ hf hO hm
 exact rt Tryz.results173 rfl

theorem zeb (x_b : UInt8) (R : Bool) (w0 : World) (hG : zr w0) (hm : za1 x_b = some R) :
    Calls Tryz.prog 145 #[zH x_b] w0 (Ret w0 (fun R => .bool R) R) := by
 rw [za1] at hm
 have hF : zC [] := ze
 have hO : Dk.Own w0 [] w0 [] := Dk.Own.refl w0
 refine S.enter tb Tryz.func145 rfl Tryz.ntmps145 rfl ?_ hO hm
 refine jv 0 [] [] (fun J E L => ∃ (t3 : Bool), J ((2, .bool t3) :: E) (L) (zbM t3)) rfl ?_ ?_
 refine vl rfl rfl (fun a w hf hO => zJ (b := x_b) (c := 32) hf rfl rfl) ?_
 refine br rfl (fun hc2 => ?_) fun hc2 => ?_
 exact en rfl fun _ _ j => ⟨true, j rfl⟩
 refine vl rfl rfl (fun a w hf hO => zJ (b := x_b) (c := 9) hf rfl rfl) ?_
 exact en rfl fun _ _ j => ⟨x_b == 9, j rfl⟩
 rintro a w ⟨t3, hf, hO, hm⟩
 rw [zbM] at hm
 refine S.co tb ?_ hf hO hm
 exact rt Tryz.results145 rfl

theorem zec (x_b : UInt8) (R : Bool) (w0 : World) (hG : zr w0) (hm : za2 x_b = some R) :
    Calls Tryz.prog 144 #[zH x_b] w0 (Ret w0 (fun R => .bool R) R) := by
 rw [za2] at hm
 have hF : zC [] := ze
 have hO : Dk.Own w0 [] w0 [] := Dk.Own.refl w0
 refine S.enter tb Tryz.func144 rfl Tryz.ntmps144 rfl ?_ hO hm
 refine jv 0 [] [] (fun J E L => ∃ (t6 : Bool), J ((2, .bool t6) :: E) (L) (zbb t6)) rfl ?_ ?_
 refine cl c_173 rfl (fun r2 w hr2 hO => zfD x_b r2 _ (hG.own hF hO) hr2) fun r2 hr2 => ?_
 refine br rfl (fun hc3 => ?_) fun hc3 => ?_
 exact en rfl fun _ _ j => ⟨true, j rfl⟩
 refine cl c_145 rfl (fun r4 w hr4 hO => zeb x_b r4 _ (hG.own hF hO) hr4) fun r4 hr4 => ?_
 refine br rfl (fun hc5 => ?_) fun hc5 => ?_
 exact en rfl fun _ _ j => ⟨true, j rfl⟩
 refine vl rfl rfl (fun a w hf hO => zis (b := x_b) (c := 127) hf rfl rfl) ?_
 exact en rfl fun _ _ j => ⟨decide (127 < x_b), j rfl⟩
 rintro a w ⟨t6, hf, hO, hm⟩
 rw [zbb] at hm
 refine S.co tb ?_ hf hO hm
 exact rt Tryz.results144 rfl

theorem zex (x_r : quoted_reader) (R : Bool × quoted_reader) (w0 : World) (hG : zr w0) {x_r_b0 : Nat} {x_r_b1 : Nat} {x_r_p2 : Option Addr} {x_r_c2 : Nat} {F : List Nat} (hF : zC F) (hO : Dk.Own w0 F w0 [.blk x_r_b0 [ptr x_r_b1 0, .slice x_r_p2 x_r.f_out.length x_r_c2] 176, .blk x_r_b1 [str x_r.Scanner.f_s, int x_r.Scanner.f_at] 137, .row (.slice x_r_p2 x_r.f_out.length x_r_c2) 5 1 x_r.f_out.length (cells zK x_r.f_out)]) (hm : zal x_r = some R) :
    Calls Tryz.prog 137 #[ptr x_r_b0 0] w0 fun e w' => ∃ (p0 : Option Addr) (c0 : Nat), e = .returned (.bool R.1) ∧ Dk.Own w0 F w' [.blk x_r_b0 [ptr x_r_b1 0, .slice p0 R.2.f_out.length c0] 176, .blk x_r_b1 [str R.2.Scanner.f_s, int R.2.Scanner.f_at] 137, .row (.slice p0 R.2.f_out.length c0) 5 1 R.2.f_out.length (cells zK R.2.f_out)] := by
 rw [zal] at hm
 refine S.enter tb Tryz.func137 rfl Tryz.ntmps137 rfl ?_ hO hm
 refine ld 0 rfl rfl ?_
 refine rw_ rfl fun a w hf hO hm => ?_
 obtain ⟨r2, hr2, hm⟩ := ob hm
 have hch3 := (show Dk.Own w0 F _ ([.blk x_r_b1 [str x_r.Scanner.f_s, int x_r.Scanner.f_at] 137] ++ [.blk x_r_b0 [ptr x_r_b1 0, .slice x_r_p2 x_r.f_out.length x_r_c2] 176, .row (.slice x_r_p2 x_r.f_out.length x_r_c2) 5 1 x_r.f_out.length (cells zK x_r.f_out)]) from hO.choose [1, 0, 2] rfl)
 have hfar3 := Dk.Own.far hch3 rfl hF hG.size
 have hlend3 := hch3.lend (S := []) rfl trivial
 have hcl3 := zq x_r.Scanner 92 r2 _ (hG.own hF hO) hfar3 hlend3 hr2
 refine zj (zl zg9 hf (vs := [ptr x_r_b1 0, zH 92]) rfl) rfl hf rfl rfl (hcl3) ?_
 rintro e w' ⟨he, hO'⟩
 refine ⟨_, he, fun a hf => ?_⟩
 have hO := hch3.back rfl hO' rfl
 refine S.op tb ?_ hf hO hm
 refine ld 1 rfl rfl ?_
 refine cl c_99 rfl (fun r5 w hr5 hO => zab r2.2 r5 _ (hG.own hF hO) (hO.blkSees (i := 0) rfl) hr5) fun r5 hr5 => ?_
 refine jv 1 [0, 3] [0, 1, 2] (fun J E L => ∃ (t9 : Bool), J ((24, .bool t9) :: E) (L) (zai x_r r2 r5 t9)) rfl ?_ ?_
 refine br rfl (fun hc7 => ?_) fun hc7 => ?_
 exact en rfl fun _ _ j => ⟨true, j rfl⟩
 refine cl c_144 rfl (fun r8 w hr8 hO => zec r5.1 r8 _ (hG.own hF hO) hr8) fun r8 hr8 => ?_
 exact en rfl fun _ _ j => ⟨!r8, j rfl⟩
 rintro a w ⟨t9, hf, hO, hm⟩
 rw [zai] at hm
 refine S.co tb ?_ hf hO hm
 refine br rfl (fun hc10 => ?_) fun hc10 => ?_
 refine re_ rfl fun a w hf hO hm => ?_
 obtain rfl := Option.some.inj hm
 exact zh Tryz.results137 hf (.tmp rfl .nil) ⟨x_r_p2, x_r_c2, rfl, (hO.choose [1, 0, 2] rfl)⟩
 refine ld 1 rfl rfl ?_
 refine rw_ rfl fun a w hf hO hm => ?_
 refine zi (vs := [(0, zH r5.1)]) (cs := [zH r5.1]) (e := 5) (sz := 1) hf rfl rfl (fun w => by kernel_rfl) rfl rfl hO fun a b13 w hf hO => ?_
 refine S.op tb ?_ hf hO hm
 refine rw_ rfl fun a w hf hO hm => ?_
 obtain ⟨hg16, hm⟩ := og hm
 refine zak zh2 (enc := zK) (xs := x_r.f_out) (ys := [r5.1]) (i := 3) (fun _ => rfl) rfl (hO.rowSees (i := 0) rfl) (by simp [cells, zK, Value.oneCell']) hg16 hf rfl rfl rfl hO fun a p14 c15 w hf hO => ?_
 refine S.op tb ?_ hf hO hm
 refine st 2 rfl rfl ?_
 refine ld 2 rfl rfl ?_
 refine rw_ rfl fun a w hf hO hm => ?_
 obtain ⟨r18, hr18, hm⟩ := ob hm
 have hch19 := (show Dk.Own w0 F _ ([.blk x_r_b1 [str r2.2.f_s, int r2.2.f_at] 137] ++ [.row (.slice (some ⟨b13, 0, none⟩) ([r5.1].length) 1) 5 1 ([r5.1].length) (cells zK [r5.1]), .blk x_r_b0 [ptr x_r_b1 0, .slice p14 ((x_r.f_out ++ [r5.1]).length) c15] 176, .row (.slice p14 ((x_r.f_out ++ [r5.1]).length) c15) 5 1 ((x_r.f_out ++ [r5.1]).length) (cells zK (x_r.f_out ++ [r5.1]))]) from hO.choose [1, 0, 2, 3] rfl)
 have hfar19 := Dk.Own.far hch19 rfl hF hG.size
 have hlend19 := hch19.lend (S := []) rfl trivial
 have hcl19 := zq r2.2 r5.1 r18 _ (hG.own hF hO) hfar19 hlend19 hr18
 refine zj (zl zg9 hf (vs := [ptr x_r_b1 0, zH r5.1]) rfl) rfl hf rfl rfl (hcl19) ?_
 rintro e w' ⟨he, hO'⟩
 refine ⟨_, he, fun a hf => ?_⟩
 have hO := hch19.back rfl hO' rfl
 refine S.op tb ?_ hf hO hm
 refine re_ rfl fun a w hf hO hm => ?_
 obtain rfl := Option.some.inj hm
 exact zh Tryz.results137 hf (.tmp rfl .nil) ⟨p14, c15, rfl, (hO.choose [2, 0, 3] rfl)⟩

end Go.Proofs
end
section
set_option linter.unusedVariables false
set_option maxHeartbeats 1000000
set_option linter.unusedSimpArgs false
set_option maxRecDepth 100000
namespace Go.Proofs
open Go.Dk Go.Dm Go.RowKit

theorem zeJ (x_c : scan_Scanner) (x_at : Int) (R : Bool × scan_Scanner) (w0 : World) (hG : zr w0) {x_c_b0 : Nat} {F : List Nat} (hF : zC F) (hO : Dk.Own w0 F w0 [.blk x_c_b0 [str x_c.f_s, int x_c.f_at] 137]) (hm : zaW x_c x_at = some R) :
    Calls Tryz.prog 138 #[ptr x_c_b0 0, int x_at] w0 fun e w' => e = .returned (.bool R.1) ∧ Dk.Own w0 F w' [.blk x_c_b0 [str R.2.f_s, int R.2.f_at] 137] := by
 rw [zaW] at hm
 refine S.enter tb Tryz.func138 rfl Tryz.ntmps138 rfl ?_ hO hm
 refine jv 1 [0, 1] [0] (fun J E L => ∃ (t4 : Bool), J ((12, .bool t4) :: E) (L) (zas x_c x_at t4)) rfl ?_ ?_
 refine br rfl (fun hc2 => ?_) fun hc2 => ?_
 exact en rfl fun _ _ j => ⟨true, j rfl⟩
 refine cl c_97 rfl (fun r3 w hr3 hO => zaU x_c r3 _ (hG.own hF hO) (hO.blkSees (i := 0) rfl) hr3) fun r3 hr3 => ?_
 exact en rfl fun _ _ j => ⟨decide (r3 < x_at), j rfl⟩
 rintro a w ⟨t4, hf, hO, hm⟩
 rw [zas] at hm
 refine S.co tb ?_ hf hO hm
 refine br rfl (fun hc5 => ?_) fun hc5 => ?_
 refine re_ rfl fun a w hf hO hm => ?_
 obtain rfl := Option.some.inj hm
 exact zh Tryz.results138 hf (.tmp rfl .nil) ⟨rfl, hO⟩
 refine vl rfl rfl (fun a w hf hO => zhL Tryz.underlying110 hf rfl rfl) ?_
 refine kn (b' := true) rfl rfl ?_
 refine st 0 rfl rfl ?_
 refine re_ rfl fun a w hf hO hm => ?_
 obtain rfl := Option.some.inj hm
 exact zh Tryz.results138 hf (.tmp rfl .nil) ⟨rfl, hO⟩

theorem zeS (x_c : scan_Scanner) (R : Str × Bool × scan_Scanner) (w0 : World) (hG : zr w0) {x_c_b0 : Nat} {F : List Nat} (hF : zC F) (hO : Dk.Own w0 F w0 [.blk x_c_b0 [str x_c.f_s, int x_c.f_at] 137]) (hm : zca x_c = some R) :
    Calls Tryz.prog 100 #[ptr x_c_b0 0] w0 fun e w' => e = .returned (.tuple #[str R.1, .bool R.2.1]) ∧ Dk.Own w0 F w' [.blk x_c_b0 [str R.2.2.f_s, int R.2.2.f_at] 137] := by
 rw [zca] at hm
 refine S.enter tb Tryz.func100 rfl Tryz.ntmps100 rfl ?_ hO hm
 refine cl c_97 rfl (fun r2 w hr2 hO => zaU x_c r2 _ (hG.own hF hO) (hO.blkSees (i := 0) rfl) hr2) fun r2 hr2 => ?_
 refine vl rfl rfl (fun a w hf hO => zaT (vs := [(0, ptr x_c_b0 0)]) (v := .agg #[ptr x_c_b0 0, .slice none 0 0]) hf rfl (by kernel_rfl)) ?_
 refine bo rfl fun b4 => ?_
 refine nl 5 1 ?_
 refine ld 1 rfl rfl ?_
 refine rw_ rfl fun a w hf hO hm => ?_
 obtain ⟨r6, hr6, hm⟩ := ob hm
 have hch7 := (show Dk.Own w0 F _ ([.blk x_c_b0 [str x_c.f_s, int x_c.f_at] 137] ++ [.row (.slice none 0 0) 5 1 0 (cells zK []), .blk b4 [ptr x_c_b0 0, .slice none 0 0] 176]) from hO.choose [2, 0, 1] rfl)
 have hfar7 := Dk.Own.far hch7 rfl hF hG.size
 have hlend7 := hch7.lend (S := []) rfl trivial
 have hcl7 := zq x_c 34 r6 _ (hG.own hF hO) hfar7 hlend7 hr6
 refine zj (zl zg9 hf (vs := [ptr x_c_b0 0, zH 34]) rfl) rfl hf rfl rfl (hcl7) ?_
 rintro e w' ⟨he, hO'⟩
 refine ⟨_, he, fun a hf => ?_⟩
 have hO := hch7.back rfl hO' rfl
 refine S.op tb ?_ hf hO hm
 refine jv 0 [4, 5] [] (fun J E L => ∃ (t27 : Bool) (s28 : Str) (i29 : Int) (p30 : Option Addr) (c31 : Nat) (l32 : List UInt8), J ((6, .bool t27) :: E) (.blk x_c_b0 [str s28, int i29] 137 :: .row (.slice p30 l32.length c31) 5 1 l32.length (cells zK l32) :: .blk b4 [ptr x_c_b0 0, .slice p30 l32.length c31] 176 :: L) (zbB r2 t27 s28 i29 l32)) rfl ?_ ?_
 refine lv [4, 5] [] (fun J E L k => ∃ (s9 : Str) (i10 : Int) (p11 : Option Addr) (c12 : Nat) (l13 : List UInt8) (t14 : Bool), J ((6, .bool t14) :: E) (.blk x_c_b0 [str s9, int i10] 137 :: .row (.slice p11 l13.length c12) 5 1 l13.length (cells zK l13) :: .blk b4 [ptr x_c_b0 0, .slice p11 l13.length c12] 176 :: L) (zL r2 k s9 i10 l13 t14)) rfl (fun _ _ j => ⟨r6.2.f_s, r6.2.f_at, none, 0, [], r6.1, j rfl⟩) ?_
 rintro n1 a w ⟨s9, i10, p11, c12, l13, t14, hf, hO, hm⟩
 obtain _ | n1 := n1
 rw [zL] at hm
 cases hm
 rw [zL] at hm
 refine S.co tb ?_ hf hO hm
 refine jv 4 [4, 5, 6] [1, 2] (fun J E L => ∃ (t18 : Bool) (s19 : Str) (i20 : Int), J ((25, .bool t18) :: E) (.blk x_c_b0 [str s19, int i20] 137 :: L) (zbc (zL r2 n1) r2 l13 t14 t18 s19 i20)) rfl ?_ ?_
 refine br rfl (fun hc15 => ?_) fun hc15 => ?_
 refine ld 2 rfl rfl ?_
 refine rw_ rfl fun a w hf hO hm => ?_
 obtain ⟨r16, hr16, hm⟩ := ob hm
 have hch17 := (show Dk.Own w0 F _ ([.blk x_c_b0 [str s9, int i10] 137] ++ [.row (.slice p11 l13.length c12) 5 1 l13.length (cells zK l13), .blk b4 [ptr x_c_b0 0, .slice p11 l13.length c12] 176]) from hO)
 have hfar17 := Dk.Own.far hch17 rfl hF hG.size
 have hlend17 := hch17.lend (S := []) rfl trivial
 have hcl17 := zq (⟨s9, i10⟩ : scan_Scanner) 34 r16 _ (hG.own hF hO) hfar17 hlend17 hr16
 refine zj (zl zg9 hf (vs := [ptr x_c_b0 0, zH 34]) rfl) rfl hf rfl rfl (hcl17) ?_
 rintro e w' ⟨he, hO'⟩
 refine ⟨_, he, fun a hf => ?_⟩
 have hO := hch17.back rfl hO' rfl
 refine S.op tb ?_ hf hO hm
 refine kn (b' := true) hc15 rfl ?_
 exact en rfl fun _ _ j => ⟨!r16.1, r16.2.f_s, r16.2.f_at, j rfl⟩
 exact en rfl fun _ _ j => ⟨false, s9, i10, j rfl⟩
 rintro a w ⟨t18, s19, i20, hf, hO, hm⟩
 rw [zbc] at hm
 refine S.co tb ?_ hf hO hm
 refine br rfl (fun hc21 => ?_) fun hc21 => ?_
 refine rw_ rfl fun a w hf hO hm => ?_
 obtain ⟨r23, hr23, hm⟩ := ob hm
 have hch26 := (show Dk.Own w0 F _ ([.blk b4 [ptr x_c_b0 0, .slice p11 l13.length c12] 176, .blk x_c_b0 [str s19, int i20] 137, .row (.slice p11 l13.length c12) 5 1 l13.length (cells zK l13)] ++ []) from hO.choose [2, 0, 1] rfl)
 have hfar26 := Dk.Own.far hch26 rfl hF hG.size
 have hlend26 := hch26.lend (S := []) rfl trivial
 have hcl26 := zex ((⟨(⟨s19, i20⟩ : scan_Scanner), l13⟩ : quoted_reader)) r23 _ (hG.own hF hO) hfar26 hlend26 hr23
 refine zj (zl c_137 hf (vs := [ptr b4 0]) rfl) rfl hf rfl rfl (hcl26) ?_
 rintro e w' ⟨p24, c25, he, hO'⟩
 refine ⟨_, he, fun a hf => ?_⟩
 have hO := hch26.back rfl hO' rfl
 refine S.op tb ?_ hf hO hm
 exact ec [1, 2, 0] rfl rfl rfl fun _ _ j => ⟨_, Nat.lt_succ_self _, r23.2.Scanner.f_s, r23.2.Scanner.f_at, p24, c25, r23.2.f_out, r23.1, j rfl⟩
 exact en rfl fun _ _ j => ⟨t14, s19, i20, p11, c12, l13, j rfl⟩
 rintro a w ⟨t27, s28, i29, p30, c31, l32, hf, hO, hm⟩
 rw [zbB] at hm
 refine S.co tb ?_ hf hO hm
 refine br rfl (fun hc34 => ?_) fun hc34 => ?_
 refine ld 2 rfl rfl ?_
 refine rw_ rfl fun a w hf hO hm => ?_
 obtain ⟨r35, hr35, hm⟩ := ob hm
 have hch36 := (show Dk.Own w0 F _ ([.blk x_c_b0 [str s28, int i29] 137] ++ [.row (.slice p30 l32.length c31) 5 1 l32.length (cells zK l32), .blk b4 [ptr x_c_b0 0, .slice p30 l32.length c31] 176]) from hO)
 have hfar36 := Dk.Own.far hch36 rfl hF hG.size
 have hlend36 := hch36.lend (S := []) rfl trivial
 have hcl36 := zeJ (⟨s28, i29⟩ : scan_Scanner) r2 r35 _ (hG.own hF hO) hfar36 hlend36 hr35
 refine zj (zl c_138 hf (vs := [ptr x_c_b0 0, int r2]) rfl) rfl hf rfl rfl (hcl36) ?_
 rintro e w' ⟨he, hO'⟩
 refine ⟨_, he, fun a hf => ?_⟩
 have hO := hch36.back rfl hO' rfl
 refine S.op tb ?_ hf hO hm
 refine re_ rfl fun a w hf hO hm => ?_
 obtain rfl := Option.some.inj hm
 exact zh Tryz.results100 hf (.tmp rfl (.tmp rfl .nil)) ⟨rfl, (hO.sub (.cons_cons _ (.cons _ (.cons _ .slnil))))⟩
 refine ld 2 rfl rfl ?_
 refine vl rfl rfl (fun a w hf hO => zgV (en := zK) (l := l32) (fun _ => rfl) Tryz.underlying9 Tryz.underlying159 Tryz.underlying5 (hO.rowSees (i := 1) rfl) hf rfl) ?_
 refine re_ rfl fun a w hf hO hm => ?_
 obtain rfl := Option.some.inj hm
 exact zh Tryz.results100 hf (.tmp rfl (.tmp rfl .nil)) ⟨rfl, (hO.sub (.cons_cons _ (.cons _ (.cons _ .slnil))))⟩

theorem zdU (x_p : commas_splitter) (R : Bool × commas_splitter) (w0 : World) (hG : zr w0) {x_p_b0 : Nat} {x_p_b1 : Nat} {x_p_p2 : Option Addr} {x_p_c2 : Nat} {F : List Nat} (hF : zC F) (hO : Dk.Own w0 F w0 [.blk x_p_b0 [ptr x_p_b1 0, .slice x_p_p2 x_p.f_out.length x_p_c2, int x_p.f_from, str x_p.f_s] 113, .blk x_p_b1 [str x_p.Scanner.f_s, int x_p.Scanner.f_at] 137, .row (.slice x_p_p2 x_p.f_out.length x_p_c2) 9 1 x_p.f_out.length (cells zd x_p.f_out)]) (hm : zD x_p = some R) :
    Calls Tryz.prog 67 #[ptr x_p_b0 0] w0 fun e w' => ∃ (p0 : Option Addr) (c0 : Nat), e = .returned (.bool R.1) ∧ Dk.Own w0 F w' [.blk x_p_b0 [ptr x_p_b1 0, .slice p0 R.2.f_out.length c0, int R.2.f_from, str R.2.f_s] 113, .blk x_p_b1 [str R.2.Scanner.f_s, int R.2.Scanner.f_at] 137, .row (.slice p0 R.2.f_out.length c0) 9 1 R.2.f_out.length (cells zd R.2.f_out)] := by
 rw [zD] at hm
 refine S.enter tb Tryz.func67 rfl Tryz.ntmps67 rfl ?_ hO hm
 refine ld 0 rfl rfl ?_
 refine cl c_97 rfl (fun r2 w hr2 hO => zaU x_p.Scanner r2 _ (hG.own hF hO) (hO.blkSees (i := 1) rfl) hr2) fun r2 hr2 => ?_
 refine jv 0 [] [] (fun J E L => ∃ (p32 : Option Addr) (c33 : Nat) (l34 : List Str) (i35 : Int) (s36 : Str) (s37 : Str) (i38 : Int), J (E) (.blk x_p_b0 [ptr x_p_b1 0, .slice p32 l34.length c33, int i35, str s36] 113 :: .blk x_p_b1 [str s37, int i38] 137 :: .row (.slice p32 l34.length c33) 9 1 l34.length (cells zd l34) :: L) (zay l34 i35 s36 s37 i38)) rfl ?_ ?_
 refine ld 0 rfl rfl ?_
 refine rw_ rfl fun a w hf hO hm => ?_
 obtain ⟨r4, hr4, hm⟩ := ob hm
 have hch5 := (show Dk.Own w0 F _ ([.blk x_p_b1 [str x_p.Scanner.f_s, int x_p.Scanner.f_at] 137] ++ [.blk x_p_b0 [ptr x_p_b1 0, .slice x_p_p2 x_p.f_out.length x_p_c2, int x_p.f_from, str x_p.f_s] 113, .row (.slice x_p_p2 x_p.f_out.length x_p_c2) 9 1 x_p.f_out.length (cells zd x_p.f_out)]) from hO.choose [1, 0, 2] rfl)
 have hfar5 := Dk.Own.far hch5 rfl hF hG.size
 have hlend5 := hch5.lend (S := []) rfl trivial
 have hcl5 := zq x_p.Scanner 44 r4 _ (hG.own hF hO) hfar5 hlend5 hr4
 refine zj (zl zg9 hf (vs := [ptr x_p_b1 0, zH 44]) rfl) rfl hf rfl rfl (hcl5) ?_
 rintro e w' ⟨he, hO'⟩
 refine ⟨_, he, fun a hf => ?_⟩
 have hO := hch5.back rfl hO' rfl
 refine S.op tb ?_ hf hO hm
 refine br rfl (fun hc7 => ?_) fun hc7 => ?_
 refine rw_ rfl fun a w hf hO hm => ?_
 obtain ⟨r8, hr8, hm⟩ := ob hm
 have hch11 := (show Dk.Own w0 F _ ([.blk x_p_b0 [ptr x_p_b1 0, .slice x_p_p2 x_p.f_out.length x_p_c2, int x_p.f_from, str x_p.f_s] 113, .blk x_p_b1 [str r4.2.f_s, int r4.2.f_at] 137, .row (.slice x_p_p2 x_p.f_out.length x_p_c2) 9 1 x_p.f_out.length (cells zd x_p.f_out)] ++ []) from hO.choose [1, 0, 2] rfl)
 have hfar11 := Dk.Own.far hch11 rfl hF hG.size
 have hlend11 := hch11.lend (S := []) rfl trivial
 have hcl11 := zcv (⟨r4.2, x_p.f_out, x_p.f_from, x_p.f_s⟩ : commas_splitter) r2 r8 _ (hG.own hF hO) hfar11 hlend11 hr8
 refine zj (zl c_68 hf (vs := [ptr x_p_b0 0, int r2]) rfl) rfl hf rfl rfl (hcl11) ?_
 rintro e w' ⟨p9, c10, he, hO'⟩
 refine ⟨_, he, fun a hf => ?_⟩
 have hO := hch11.back rfl hO' rfl
 refine S.op tb ?_ hf hO hm
 exact en rfl fun _ _ j => ⟨p9, c10, r8.f_out, r8.f_from, r8.f_s, r8.Scanner.f_s, r8.Scanner.f_at, j rfl⟩
 refine ld 1 rfl rfl ?_
 refine rw_ rfl fun a w hf hO hm => ?_
 obtain ⟨r12, hr12, hm⟩ := ob hm
 have hch13 := (show Dk.Own w0 F _ ([.blk x_p_b1 [str r4.2.f_s, int r4.2.f_at] 137] ++ [.blk x_p_b0 [ptr x_p_b1 0, .slice x_p_p2 x_p.f_out.length x_p_c2, int x_p.f_from, str x_p.f_s] 113, .row (.slice x_p_p2 x_p.f_out.length x_p_c2) 9 1 x_p.f_out.length (cells zd x_p.f_out)]) from hO)
 have hfar13 := Dk.Own.far hch13 rfl hF hG.size
 have hlend13 := hch13.lend (S := []) rfl trivial
 have hcl13 := zq r4.2 40 r12 _ (hG.own hF hO) hfar13 hlend13 hr12
 refine zj (zl zg9 hf (vs := [ptr x_p_b1 0, zH 40]) rfl) rfl hf rfl rfl (hcl13) ?_
 rintro e w' ⟨he, hO'⟩
 refine ⟨_, he, fun a hf => ?_⟩
 have hO := hch13.back rfl hO' rfl
 refine S.op tb ?_ hf hO hm
 refine br rfl (fun hc15 => ?_) fun hc15 => ?_
 refine rw_ rfl fun a w hf hO hm => ?_
 obtain ⟨r16, hr16, hm⟩ := ob hm
 have hch19 := (show Dk.Own w0 F _ ([.blk x_p_b0 [ptr x_p_b1 0, .slice x_p_p2 x_p.f_out.length x_p_c2, int x_p.f_from, str x_p.f_s] 113, .blk x_p_b1 [str r12.2.f_s, int r12.2.f_at] 137, .row (.slice x_p_p2 x_p.f_out.length x_p_c2) 9 1 x_p.f_out.length (cells zd x_p.f_out)] ++ []) from hO.choose [1, 0, 2] rfl)
 have hfar19 := Dk.Own.far hch19 rfl hF hG.size
 have hlend19 := hch19.lend (S := []) rfl trivial
 have hcl19 := zdg (⟨r12.2, x_p.f_out, x_p.f_from, x_p.f_s⟩ : commas_splitter) r16 _ (hG.own hF hO) hfar19 hlend19 hr16
 refine zj (zl c_98 hf (vs := [ptr x_p_b0 0]) rfl) rfl hf rfl rfl (hcl19) ?_
 rintro e w' ⟨p17, c18, he, hO'⟩
 refine ⟨_, he, fun a hf => ?_⟩
 have hO := hch19.back rfl hO' rfl
 refine S.op tb ?_ hf hO hm
 refine re_ rfl fun a w hf hO hm => ?_
 obtain rfl := Option.some.inj hm
 exact zh Tryz.results67 hf (.tmp rfl .nil) ⟨p17, c18, rfl, hO⟩
 refine ld 1 rfl rfl ?_
 refine cl c_99 rfl (fun r21 w hr21 hO => zab r12.2 r21 _ (hG.own hF hO) (hO.blkSees (i := 0) rfl) hr21) fun r21 hr21 => ?_
 refine vl rfl rfl (fun a w hf hO => zJ (b := r21.1) (c := 34) hf rfl rfl) ?_
 refine br rfl (fun hc24 => ?_) fun hc24 => ?_
 refine ld 1 rfl rfl ?_
 refine rw_ rfl fun a w hf hO hm => ?_
 obtain ⟨r25, hr25, hm⟩ := ob hm
 have hch26 := (show Dk.Own w0 F _ ([.blk x_p_b1 [str r12.2.f_s, int r12.2.f_at] 137] ++ [.blk x_p_b0 [ptr x_p_b1 0, .slice x_p_p2 x_p.f_out.length x_p_c2, int x_p.f_from, str x_p.f_s] 113, .row (.slice x_p_p2 x_p.f_out.length x_p_c2) 9 1 x_p.f_out.length (cells zd x_p.f_out)]) from hO)
 have hfar26 := Dk.Own.far hch26 rfl hF hG.size
 have hlend26 := hch26.lend (S := []) rfl trivial
 have hcl26 := zeS r12.2 r25 _ (hG.own hF hO) hfar26 hlend26 hr25
 refine zj (zl c_100 hf (vs := [ptr x_p_b1 0]) rfl) rfl hf rfl rfl (hcl26) ?_
 rintro e w' ⟨he, hO'⟩
 refine ⟨_, he, fun a hf => ?_⟩
 have hO := hch26.back rfl hO' rfl
 refine S.op tb ?_ hf hO hm
 refine re_ rfl fun a w hf hO hm => ?_
 obtain rfl := Option.some.inj hm
 exact zh Tryz.results67 hf (.tmp rfl .nil) ⟨x_p_p2, x_p_c2, rfl, (hO.choose [1, 0, 2] rfl)⟩
 refine ld 1 rfl rfl ?_
 refine rw_ rfl fun a w hf hO hm => ?_
 obtain ⟨r30, hr30, hm⟩ := ob hm
 have hch31 := (show Dk.Own w0 F _ ([.blk x_p_b1 [str r12.2.f_s, int r12.2.f_at] 137] ++ [.blk x_p_b0 [ptr x_p_b1 0, .slice x_p_p2 x_p.f_out.length x_p_c2, int x_p.f_from, str x_p.f_s] 113, .row (.slice x_p_p2 x_p.f_out.length x_p_c2) 9 1 x_p.f_out.length (cells zd x_p.f_out)]) from hO)
 have hfar31 := Dk.Own.far hch31 rfl hF hG.size
 have hlend31 := hch31.lend (S := []) rfl trivial
 have hcl31 := zq r12.2 r21.1 r30 _ (hG.own hF hO) hfar31 hlend31 hr30
 refine zj (zl zg9 hf (vs := [ptr x_p_b1 0, zH r21.1]) rfl) rfl hf rfl rfl (hcl31) ?_
 rintro e w' ⟨he, hO'⟩
 refine ⟨_, he, fun a hf => ?_⟩
 have hO := hch31.back rfl hO' rfl
 refine S.op tb ?_ hf hO hm
 exact ec [1, 0, 2] rfl rfl rfl fun _ _ j => ⟨x_p_p2, x_p_c2, x_p.f_out, x_p.f_from, x_p.f_s, r30.2.f_s, r30.2.f_at, j rfl⟩
 rintro a w ⟨p32, c33, l34, i35, s36, s37, i38, hf, hO, hm⟩
 rw [zay] at hm
 refine S.co tb ?_ hf hO hm
 refine re_ rfl fun a w hf hO hm => ?_
 obtain rfl := Option.some.inj hm
 exact zh Tryz.results67 hf (.tmp rfl .nil) ⟨p32, c33, rfl, hO⟩

theorem zhf (x_s : Str) (R : List Str × Int) (w0 : World) (hG : zr w0) (hm : zck x_s = some R) :
    Calls Tryz.prog 38 #[str x_s] w0 fun e w' => ∃ (p0 : Option Addr) (c0 : Nat), e = .returned (.tuple #[.slice p0 R.1.length c0, int R.2]) ∧ Dk.Own w0 [] w' [.row (.slice p0 R.1.length c0) 9 1 R.1.length (cells zd R.1)] := by
 rw [zck] at hm
 have hF : zC [] := ze
 have hO : Dk.Own w0 [] w0 [] := Dk.Own.refl w0
 refine S.enter tb Tryz.func38 rfl Tryz.ntmps38 rfl ?_ hO hm
 refine nl 9 1 ?_
 refine rw_ rfl fun a w hf hO hm => ?_
 obtain ⟨r2, hr2, hm⟩ := ob hm
 refine zj (zl c_65 hf (vs := [str x_s]) rfl) rfl hf rfl rfl (zhh x_s r2 _ (hG.own hF hO) hr2) ?_
 rintro e w' ⟨b3, he, hO'⟩
 refine ⟨_, he, fun a hf => ?_⟩
 have hO := hO.call hO' (by simp [Res.shared])
 refine S.op tb ?_ hf hO hm
 refine vl rfl rfl (fun a w hf hO => zaT (vs := [(0, ptr b3 0), (3, str x_s)]) (v := .agg #[ptr b3 0, .slice none 0 0, int 0, str x_s]) hf rfl (by kernel_rfl)) ?_
 refine bo rfl fun b4 => ?_
 refine nl 9 1 ?_
 refine jv 0 [0, 4] [3] (fun J E L => ∃ (p24 : Option Addr) (c25 : Nat) (l26 : List Str) (i27 : Int) (s28 : Str) (s29 : Str) (i30 : Int), J (E) (.row (.slice p24 l26.length c25) 9 1 l26.length (cells zd l26) :: .blk b4 [ptr b3 0, .slice p24 l26.length c25, int i27, str s28] 113 :: .blk b3 [str s29, int i30] 137 :: L) (zb2 x_s l26 i27 s28 s29 i30)) rfl ?_ ?_
 refine lv [0, 4] [3] (fun J E L k => ∃ (p6 : Option Addr) (c7 : Nat) (l8 : List Str) (i9 : Int) (s10 : Str) (s11 : Str) (i12 : Int), J (E) (.row (.slice p6 l8.length c7) 9 1 l8.length (cells zd l8) :: .blk b4 [ptr b3 0, .slice p6 l8.length c7, int i9, str s10] 113 :: .blk b3 [str s11, int i12] 137 :: L) (zaf x_s k l8 i9 s10 s11 i12)) rfl (fun _ _ j => ⟨none, 0, [], 0, x_s, r2.f_s, r2.f_at, j rfl⟩) ?_
 rintro n1 a w ⟨p6, c7, l8, i9, s10, s11, i12, hf, hO, hm⟩
 obtain _ | n1 := n1
 rw [zaf] at hm
 cases hm
 rw [zaf] at hm
 refine S.co tb ?_ hf hO hm
 refine ld 1 rfl rfl ?_
 refine cl c_66 rfl (fun r13 w hr13 hO => zb7 (⟨s11, i12⟩ : scan_Scanner) r13 _ (hG.own hF hO) (hO.blkSees (i := 2) rfl) hr13) fun r13 hr13 => ?_
 refine br rfl (fun hc15 => ?_) fun hc15 => ?_
 refine rw_ rfl fun a w hf hO hm => ?_
 obtain ⟨r17, hr17, hm⟩ := ob hm
 have hch20 := (show Dk.Own w0 [] _ ([.blk b4 [ptr b3 0, .slice p6 l8.length c7, int i9, str s10] 113, .blk b3 [str s11, int i12] 137, .row (.slice p6 l8.length c7) 9 1 l8.length (cells zd l8)] ++ [.row (.slice none 0 0) 9 1 0 (cells zd [])]) from hO.choose [1, 2, 0, 3] rfl)
 have hfar20 := Dk.Own.far hch20 rfl hF hG.size
 have hlend20 := hch20.lend (S := []) rfl trivial
 have hcl20 := zdU ((⟨(⟨s11, i12⟩ : scan_Scanner), l8, i9, s10⟩ : commas_splitter)) r17 _ (hG.own hF hO) hfar20 hlend20 hr17
 refine zj (zl c_67 hf (vs := [ptr b4 0]) rfl) rfl hf rfl rfl (hcl20) ?_
 rintro e w' ⟨p18, c19, he, hO'⟩
 refine ⟨_, he, fun a hf => ?_⟩
 have hO := hch20.back rfl hO' rfl
 refine S.op tb ?_ hf hO hm
 refine br rfl (fun hc22 => ?_) fun hc22 => ?_
 refine nl 9 1 ?_
 refine re_ rfl fun a w hf hO hm => ?_
 obtain rfl := Option.some.inj hm
 exact zh Tryz.results38 hf (.tmp rfl (.tmp rfl .nil)) ⟨none, 0, rfl, (hO.sub (.cons_cons _ (.cons _ (.cons _ (.cons _ (.cons _ .slnil))))))⟩
 exact ec [2, 0, 1, 3] rfl rfl rfl fun _ _ j => ⟨_, Nat.lt_succ_self _, p18, c19, r17.2.f_out, r17.2.f_from, r17.2.f_s, r17.2.Scanner.f_s, r17.2.Scanner.f_at, j rfl⟩
 exact en rfl fun _ _ j => ⟨p6, c7, l8, i9, s10, s11, i12, j rfl⟩
 rintro a w ⟨p24, c25, l26, i27, s28, s29, i30, hf, hO, hm⟩
 rw [zb2] at hm
 refine S.co tb ?_ hf hO hm
 refine rw_ rfl fun a w hf hO hm => ?_
 obtain ⟨r31, hr31, hm⟩ := ob hm
 have hch34 := (show Dk.Own w0 [] _ ([.blk b4 [ptr b3 0, .slice p24 l26.length c25, int i27, str s28] 113, .blk b3 [str s29, int i30] 137, .row (.slice p24 l26.length c25) 9 1 l26.length (cells zd l26)] ++ [.row (.slice none 0 0) 9 1 0 (cells zd [])]) from hO.choose [1, 2, 0, 3] rfl)
 have hfar34 := Dk.Own.far hch34 rfl hF hG.size
 have hlend34 := hch34.lend (S := []) rfl trivial
 have hcl34 := zcv ((⟨(⟨s29, i30⟩ : scan_Scanner), l26, i27, s28⟩ : commas_splitter)) (x_s.length : Int) r31 _ (hG.own hF hO) hfar34 hlend34 hr31
 refine zj (zl c_68 hf (vs := [ptr b4 0, int (x_s.length : Int)]) rfl) rfl hf rfl rfl (hcl34) ?_
 rintro e w' ⟨p32, c33, he, hO'⟩
 refine ⟨_, he, fun a hf => ?_⟩
 have hO := hch34.back rfl hO' rfl
 refine S.op tb ?_ hf hO hm
 refine ld 0 rfl rfl ?_
 refine re_ rfl fun a w hf hO hm => ?_
 obtain rfl := Option.some.inj hm
 exact zh Tryz.results38 hf (.tmp rfl (.tmp rfl .nil)) ⟨p32, c33, rfl, (hO.sub (.cons _ (.cons _ (.cons_cons _ (.cons _ .slnil)))))⟩

theorem zcI (x_c : scan_Scanner) (x_is : UInt8 → Option Bool) (R : Str × scan_Scanner) (w0 : World) (hG : zr w0) {x_c_b0 : Nat} {F : List Nat} (hF : zC F) (hO : Dk.Own w0 F w0 [.blk x_c_b0 [str x_c.f_s, int x_c.f_at] 137]) {x_is_f : Nat} {x_is_p x_is_c : Array Value} (x_is_k : zb Tryz.prog x_is_f) (x_is_h : ∀ (y0 : UInt8) (r : Bool) (w : World), zr w → x_is y0 = some r → Calls Tryz.prog x_is_f (x_is_p ++ [zH y0].toArray ++ x_is_c) w fun e w' => e = .returned (.bool r) ∧ Below w.heap.size w w') (hm : zS x_c x_is = some R) :
    Calls Tryz.prog 102 #[ptr x_c_b0 0, .func (.func x_is_f) x_is_p x_is_c] w0 fun e w' => e = .returned (str R.1) ∧ Dk.Own w0 F w' [.blk x_c_b0 [str R.2.f_s, int R.2.f_at] 137] := by
 rw [zS] at hm
 refine S.enter tb Tryz.func102 rfl Tryz.ntmps102 rfl ?_ hO hm
 refine cl c_97 rfl (fun r2 w hr2 hO => zaU x_c r2 _ (hG.own hF hO) (hO.blkSees (i := 0) rfl) hr2) fun r2 hr2 => ?_
 refine jv 0 [0, 5] [] (fun J E L => ∃ (s14 : Str) (i15 : Int), J (E) (.blk x_c_b0 [str s14, int i15] 137 :: L) (zaj r2 s14 i15)) rfl ?_ ?_
 refine lv [0, 1, 5] [] (fun J E L k => ∃ (s4 : Str) (i5 : Int), J (E) (.blk x_c_b0 [str s4, int i5] 137 :: L) (zp x_is r2 k s4 i5)) rfl (fun _ _ j => ⟨x_c.f_s, x_c.f_at, j rfl⟩) ?_
 rintro n1 a w ⟨s4, i5, hf, hO, hm⟩
 obtain _ | n1 := n1
 rw [zp] at hm
 cases hm
 rw [zp] at hm
 refine S.co tb ?_ hf hO hm
 refine cl c_99 rfl (fun r6 w hr6 hO => zab (⟨s4, i5⟩ : scan_Scanner) r6 _ (hG.own hF hO) (hO.blkSees (i := 0) rfl) hr6) fun r6 hr6 => ?_
 refine jv 5 [0, 1, 5] [0] (fun J E L => ∃ (t10 : Bool), J ((22, .bool t10) :: E) (L) (zP (zp x_is r2 n1) r2 s4 i5 t10)) rfl ?_ ?_
 refine br rfl (fun hc8 => ?_) fun hc8 => ?_
 exact en rfl fun _ _ j => ⟨true, j rfl⟩
 refine rw_ rfl fun a w hf hO hm => ?_
 obtain ⟨r9, hr9, hm⟩ := ob hm
 refine oc (ziw x_is_k hf rfl (vs := [zH r6.1]) rfl) hf rfl (x_is_h r6.1 r9 _ (hG.own hF hO) hr9) hO fun a w' hf hO => ?_
 refine S.op tb ?_ hf hO hm
 refine kn (b' := false) hc8 rfl ?_
 exact en rfl fun _ _ j => ⟨!r9, j rfl⟩
 rintro a w ⟨t10, hf, hO, hm⟩
 rw [zP] at hm
 refine S.co tb ?_ hf hO hm
 refine br rfl (fun hc11 => ?_) fun hc11 => ?_
 exact en rfl fun _ _ j => ⟨s4, i5, j rfl⟩
 refine ld 0 rfl rfl ?_
 refine bi rfl fun i13 hi13 => ?_
 refine st 0 rfl rfl ?_
 exact en rfl fun _ _ j => ⟨_, Nat.lt_succ_self _, s4, i13, j rfl⟩
 rintro a w ⟨s14, i15, hf, hO, hm⟩
 rw [zaj] at hm
 refine S.co tb ?_ hf hO hm
 refine vl rfl rfl (fun a w hf hO => zdC Tryz.underlying110 hf rfl rfl) ?_
 refine kn (b' := false) rfl rfl ?_
 refine rc_ rfl fun a w hf hO hm => ?_
 refine zbV (by kernel_rfl) (by kernel_rfl) hO ?_
 refine zk (fun w hO => zs hf rfl) rfl hf rfl rfl fun a hf => ?_
 refine zk (fun w hO => zaq hf rfl) rfl hf rfl rfl fun a hf => ?_
 refine zk (fun w hO => zaR zfs hf rfl) rfl hf rfl rfl fun a hf => ?_
 refine zk (fun w hO => zo (o := 0) zdE (hO.blkSees (i := 0) rfl) rfl hf rfl) rfl hf rfl rfl fun a hf => ?_
 refine zk (fun w hO => zs hf rfl) rfl hf rfl rfl fun a hf => ?_
 refine zk (fun w hO => zs hf rfl) rfl hf rfl rfl fun a hf => ?_
 refine zk (fun w hO => zaq hf rfl) rfl hf rfl rfl fun a hf => ?_
 refine zk (fun w hO => zaR zft hf rfl) rfl hf rfl rfl fun a hf => ?_
 refine zk (fun w hO => zo (o := 1) ag_3 (hO.blkSees (i := 0) rfl) rfl hf rfl) rfl hf rfl rfl fun a hf => ?_
 obtain ⟨s18, hs18, hm⟩ := ob hm
 refine zk (fun w hO => zg1 (l := s14) Tryz.underlying9 hf rfl rfl rfl hs18) rfl hf rfl rfl fun a hf => ?_
 refine zk (fun w hO => zba hf rfl) rfl hf rfl rfl fun a hf => ?_
 refine wpQuiet_nil ?_
 intro w hO
 refine S.no tb ?_ hf hO hm
 refine re_ rfl fun a w hf hO hm => ?_
 obtain rfl := Option.some.inj hm
 exact zh Tryz.results102 hf (.tmp rfl .nil) ⟨rfl, hO⟩

theorem zbs (x_b : UInt8) (R : UInt8) (w0 : World) (hG : zr w0) (hm : zO x_b = some R) :
    Calls Tryz.prog 128 #[zH x_b] w0 (Ret w0 (fun R => zH R) R) := by
 rw [zO] at hm
 have hF : zC [] := ze
 have hO : Dk.Own w0 [] w0 [] := Dk.Own.refl w0
 refine S.enter tb Tryz.func128 rfl Tryz.ntmps128 rfl ?_ hO hm
 refine jv 1 [0] [] (fun J E L => ∃ (t3 : Bool), J ((8, .bool t3) :: E) (L) (zcl x_b t3)) rfl ?_ ?_
 refine vl rfl rfl (fun a w hf hO => zer (b := x_b) (c := 65) hf rfl rfl) ?_
 refine br rfl (fun hc2 => ?_) fun hc2 => ?_
 refine vl rfl rfl (fun a w hf hO => zfl (b := x_b) (c := 90) hf rfl rfl) ?_
 exact en rfl fun _ _ j => ⟨decide (x_b ≤ 90), j rfl⟩
 exact en rfl fun _ _ j => ⟨false, j rfl⟩
 rintro a w ⟨t3, hf, hO, hm⟩
 rw [zcl] at hm
 refine S.co tb ?_ hf hO hm
 refine br rfl (fun hc4 => ?_) fun hc4 => ?_
 refine vl rfl rfl (fun a w hf hO => zkl (b := x_b) (c := 32) hf rfl rfl) ?_
 exact rt Tryz.results128 rfl
 exact rt Tryz.results128 rfl

theorem zgt (x_b : UInt8) (R : Bool) (w0 : World) (hG : zr w0) (hm : zdx x_b = some R) :
    Calls Tryz.prog 158 #[zH x_b] w0 (Ret w0 (fun R => .bool R) R) := by
 rw [zdx] at hm
 have hF : zC [] := ze
 have hO : Dk.Own w0 [] w0 [] := Dk.Own.refl w0
 refine S.enter tb Tryz.func158 rfl Tryz.ntmps158 rfl ?_ hO hm
 refine jv 0 [] [] (fun J E L => ∃ (t5 : Bool), J ((2, .bool t5) :: E) (L) (zbN t5)) rfl ?_ ?_
 refine cl ziA rfl (fun r2 w hr2 hO => zbs x_b r2 _ (hG.own hF hO) hr2) fun r2 hr2 => ?_
 refine vl rfl rfl (fun a w hf hO => zer (b := r2) (c := 97) hf rfl rfl) ?_
 refine br rfl (fun hc3 => ?_) fun hc3 => ?_
 refine cl ziA rfl (fun r4 w hr4 hO => zbs x_b r4 _ (hG.own hF hO) hr4) fun r4 hr4 => ?_
 refine vl rfl rfl (fun a w hf hO => zfl (b := r4) (c := 122) hf rfl rfl) ?_
 exact en rfl fun _ _ j => ⟨decide (r4 ≤ 122), j rfl⟩
 exact en rfl fun _ _ j => ⟨false, j rfl⟩
 rintro a w ⟨t5, hf, hO, hm⟩
 rw [zbN] at hm
 refine S.co tb ?_ hf hO hm
 exact rt Tryz.results158 rfl

theorem zb1 (x_b : UInt8) (R : Bool) (w0 : World) (hG : zr w0) (hm : za3 x_b = some R) :
    Calls Tryz.prog 154 #[zH x_b] w0 (Ret w0 (fun R => .bool R) R) := by
 rw [za3] at hm
 have hF : zC [] := ze
 have hO : Dk.Own w0 [] w0 [] := Dk.Own.refl w0
 refine S.enter tb Tryz.func154 rfl Tryz.ntmps154 rfl ?_ hO hm
 refine jv 0 [] [] (fun J E L => ∃ (t3 : Bool), J ((2, .bool t3) :: E) (L) (zbO t3)) rfl ?_ ?_
 refine vl rfl rfl (fun a w hf hO => zer (b := x_b) (c := 48) hf rfl rfl) ?_
 refine br rfl (fun hc2 => ?_) fun hc2 => ?_
 refine vl rfl rfl (fun a w hf hO => zfl (b := x_b) (c := 57) hf rfl rfl) ?_
 exact en rfl fun _ _ j => ⟨decide (x_b ≤ 57), j rfl⟩
 exact en rfl fun _ _ j => ⟨false, j rfl⟩
 rintro a w ⟨t3, hf, hO, hm⟩
 rw [zbO] at hm
 refine S.co tb ?_ hf hO hm
 exact rt Tryz.results154 rfl

theorem ziJ (x_b : UInt8) (x_l : Str) (R : Bool) (w0 : World) (hG : zr w0) (hm : zf3 x_b x_l = some R) :
    Calls Tryz.prog 159 #[zH x_b, str x_l] w0 (Ret w0 (fun R => .bool R) R) := by
 rw [zf3] at hm
 have hF : zC [] := ze
 have hO : Dk.Own w0 [] w0 [] := Dk.Own.refl w0
 refine S.enter tb Tryz.func159 rfl Tryz.ntmps159 rfl ?_ hO hm
 refine cl c_183 rfl (fun r2 w hr2 hO => zeG x_l x_b r2 _ (hG.own hF hO) hr2) fun r2 hr2 => ?_
 exact rt Tryz.results159 rfl

theorem zea (x_b : UInt8) (R : Bool) (w0 : World) (hG : zr w0) (hm : zaD x_b = some R) :
    Calls Tryz.prog 124 #[zH x_b] w0 (Ret w0 (fun R => .bool R) R) := by
 rw [zaD] at hm
 have hF : zC [] := ze
 have hO : Dk.Own w0 [] w0 [] := Dk.Own.refl w0
 refine S.enter tb Tryz.func124 rfl Tryz.ntmps124 rfl ?_ hO hm
 refine jv 0 [] [] (fun J E L => ∃ (t7 : Bool), J ((2, .bool t7) :: E) (L) (zbd t7)) rfl ?_ ?_
 refine cl c_158 rfl (fun r2 w hr2 hO => zgt x_b r2 _ (hG.own hF hO) hr2) fun r2 hr2 => ?_
 refine br rfl (fun hc3 => ?_) fun hc3 => ?_
 exact en rfl fun _ _ j => ⟨true, j rfl⟩
 refine cl zjg rfl (fun r4 w hr4 hO => zb1 x_b r4 _ (hG.own hF hO) hr4) fun r4 hr4 => ?_
 refine br rfl (fun hc5 => ?_) fun hc5 => ?_
 exact en rfl fun _ _ j => ⟨true, j rfl⟩
 refine cl c_159 rfl (fun r6 w hr6 hO => ziJ x_b [33, 35, 36, 37, 38, 39, 42, 43, 45, 46, 94, 95, 96, 124, 126] r6 _ (hG.own hF hO) hr6) fun r6 hr6 => ?_
 exact en rfl fun _ _ j => ⟨r6, j rfl⟩
 rintro a w ⟨t7, hf, hO, hm⟩
 rw [zbd] at hm
 refine S.co tb ?_ hf hO hm
 exact rt Tryz.results124 rfl

theorem zcJ (x_c : scan_Scanner) (R : Str × Bool × scan_Scanner) (w0 : World) (hG : zr w0) {x_c_b0 : Nat} {F : List Nat} (hF : zC F) (hO : Dk.Own w0 F w0 [.blk x_c_b0 [str x_c.f_s, int x_c.f_at] 137]) (hm : zam x_c = some R) :
    Calls Tryz.prog 101 #[ptr x_c_b0 0] w0 fun e w' => e = .returned (.tuple #[str R.1, .bool R.2.1]) ∧ Dk.Own w0 F w' [.blk x_c_b0 [str R.2.2.f_s, int R.2.2.f_at] 137] := by
 rw [zam] at hm
 refine S.enter tb Tryz.func101 rfl Tryz.ntmps101 rfl ?_ hO hm
 refine rw_ rfl fun a w hf hO hm => ?_
 obtain ⟨r2, hr2, hm⟩ := ob hm
 have hch3 := (show Dk.Own w0 F _ ([.blk x_c_b0 [str x_c.f_s, int x_c.f_at] 137] ++ []) from hO)
 have hfar3 := Dk.Own.far hch3 rfl hF hG.size
 have hlend3 := hch3.lend (S := []) rfl trivial
 have hcl3 := zcI x_c zaD r2 _ (hG.own hF hO) hfar3 hlend3 c_124 (fun y0 r w hG h => zfT (zea y0 r w hG h)) hr2
 refine zj (zl c_102 hf (vs := [ptr x_c_b0 0, .func (.func 124) #[] #[]]) rfl) rfl hf rfl rfl (hcl3) ?_
 rintro e w' ⟨he, hO'⟩
 refine ⟨_, he, fun a hf => ?_⟩
 have hO := hch3.back rfl hO' rfl
 refine S.op tb ?_ hf hO hm
 refine re_ rfl fun a w hf hO hm => ?_
 obtain rfl := Option.some.inj hm
 exact zh Tryz.results101 hf (.tmp rfl (.tmp rfl .nil)) ⟨rfl, hO⟩

end Go.Proofs
end
section
set_option linter.unusedVariables false
set_option maxHeartbeats 1000000
set_option linter.unusedSimpArgs false
set_option maxRecDepth 100000
namespace Go.Proofs
open Go.Dk Go.Dm Go.RowKit

theorem zdk (x_is : UInt8 → Option Bool) (x_l : List Str) (R : Bool) (w0 : World) (hG : zr w0) {x_is_f : Nat} {x_is_p x_is_c : Array Value} (x_is_k : zb Tryz.prog x_is_f) (x_is_h : ∀ (y0 : UInt8) (r : Bool) (w : World), zr w → x_is y0 = some r → Calls Tryz.prog x_is_f (x_is_p ++ [zH y0].toArray ++ x_is_c) w fun e w' => e = .returned (.bool r) ∧ Below w.heap.size w w') {x_l_p0 : Option Addr} {x_l_c0 : Nat} (hs0 : zF w0 x_l_p0 (cells zd x_l)) (hc0 : x_l.length ≤ x_l_c0) (hm : zc0 x_is x_l = some R) :
    Calls Tryz.prog 120 #[.func (.func x_is_f) x_is_p x_is_c, .slice x_l_p0 x_l.length x_l_c0] w0 (Ret w0 (fun R => .bool R) R) := by
 rw [zc0] at hm
 have hF : zC [] := ze
 have hO : Dk.Own w0 [] w0 [] := Dk.Own.refl w0
 have hO := hO.addShr hs0 (by simp [Res.shared])
 refine S.enter tb Tryz.func120 rfl Tryz.ntmps120 rfl ?_ hO hm
 refine lv [0, 8, 9] [0] (fun J E L k => ∃ (i3 : Int), J ((10, int i3) :: E) (L) (zbP x_is x_l k i3)) rfl (fun _ _ j => ⟨0, j rfl⟩) ?_
 rintro n1 a w ⟨i3, hf, hO, hm⟩
 obtain _ | n1 := n1
 rw [zbP] at hm
 cases hm
 rw [zbP] at hm
 refine S.co tb ?_ hf hO hm
 refine br rfl (fun hc5 => ?_) fun hc5 => ?_
 refine rw_ rfl fun a w hf hO hm => ?_
 obtain ⟨x7, hx7, hm⟩ := ob hm
 obtain ⟨b8, o9, hix7, hSx7⟩ := zcP (enc := zd) (sz := 1) (xs := x_l) 41 Tryz.underlying41 zhq (by decide) (fun _ => rfl) (hO.sees (i := 0) rfl) hx7
 refine zbA (zm hix7 hf rfl rfl) rfl hf rfl rfl fun a hf => ?_
 refine S.op tb ?_ hf hO hm
 refine vl rfl rfl (fun a w hf hO => zo (o := 0) zdE (hSx7 _ (hO.sees (i := 0) rfl)) rfl hf rfl) ?_
 refine lv [0, 6, 8, 9, 10, 15] [0] (fun J E L k => ∃ (i12 : Int), J ((16, int i12) :: E) (L) (zcm (zbP x_is x_l n1) x_is i3 x7 k i12)) rfl (fun _ _ j => ⟨0, j rfl⟩) ?_
 rintro n2 a w ⟨i12, hf, hO, hm⟩
 obtain _ | n2 := n2
 rw [zcm] at hm
 cases hm
 rw [zcm] at hm
 refine S.co tb ?_ hf hO hm
 refine br rfl (fun hc14 => ?_) fun hc14 => ?_
 refine bi rfl fun b17 hb17 => ?_
 refine rw_ rfl fun a w hf hO hm => ?_
 obtain ⟨r18, hr18, hm⟩ := ob hm
 refine oc (ziw x_is_k hf rfl (vs := [zH b17]) rfl) hf rfl (x_is_h b17 r18 _ (hG.own hF hO) hr18) hO fun a w' hf hO => ?_
 refine S.op tb ?_ hf hO hm
 refine br rfl (fun hc20 => ?_) fun hc20 => ?_
 exact rt Tryz.results120 rfl
 refine bi rfl fun i23 hi23 => ?_
 exact en rfl fun _ _ j => ⟨_, Nat.lt_succ_self _, i23, j rfl⟩
 refine bi rfl fun i25 hi25 => ?_
 exact en rfl fun _ _ j => ⟨_, Nat.lt_succ_self _, i25, j rfl⟩
 exact rt Tryz.results120 rfl

theorem zgp (x_b : UInt8) (R : Int) (w0 : World) (hG : zr w0) (hm : zdy x_b = some R) :
    Calls Tryz.prog 175 #[zH x_b] w0 (Ret w0 (fun R => int R) R) := by
 rw [zdy] at hm
 have hF : zC [] := ze
 have hO : Dk.Own w0 [] w0 [] := Dk.Own.refl w0
 refine S.enter tb Tryz.func175 rfl Tryz.ntmps175 rfl ?_ hO hm
 refine cl zjg rfl (fun r2 w hr2 hO => zb1 x_b r2 _ (hG.own hF hO) hr2) fun r2 hr2 => ?_
 refine br rfl (fun hc4 => ?_) fun hc4 => ?_
 refine vl rfl rfl (fun a w hf hO => zit (b := x_b) (c := 48) hf rfl rfl) ?_
 refine vl rfl rfl (fun a w hf hO => zhN Tryz.underlying3 Tryz.underlying5 (ziv _) hf (kd := .u8) rfl) ?_
 exact rt Tryz.results175 rfl
 refine cl ziA rfl (fun r7 w hr7 hO => zbs x_b r7 _ (hG.own hF hO) hr7) fun r7 hr7 => ?_
 refine vl rfl rfl (fun a w hf hO => zit (b := r7) (c := 97) hf rfl rfl) ?_
 refine vl rfl rfl (fun a w hf hO => zhN Tryz.underlying3 Tryz.underlying5 (ziv _) hf (kd := .u8) rfl) ?_
 refine bi rfl fun i8 hi8 => ?_
 exact rt Tryz.results175 rfl

theorem zg2 (x_s : Str) (x_base : Int) (x_most : Int) (x_is : UInt8 → Option Bool) (R : Int × Int) (w0 : World) (hG : zr w0) {x_is_f : Nat} {x_is_p x_is_c : Array Value} (x_is_k : zb Tryz.prog x_is_f) (x_is_h : ∀ (y0 : UInt8) (r : Bool) (w : World), zr w → x_is y0 = some r → Calls Tryz.prog x_is_f (x_is_p ++ [zH y0].toArray ++ x_is_c) w fun e w' => e = .returned (.bool r) ∧ Below w.heap.size w w') (hm : zdW x_s x_base x_most x_is = some R) :
    Calls Tryz.prog 153 #[str x_s, int x_base, int x_most, .func (.func x_is_f) x_is_p x_is_c] w0 (Ret w0 (fun R => .tuple #[int R.1, int R.2]) R) := by
 rw [zdW] at hm
 have hF : zC [] := ze
 have hO : Dk.Own w0 [] w0 [] := Dk.Own.refl w0
 refine S.enter tb Tryz.func153 rfl Tryz.ntmps153 rfl ?_ hO hm
 refine jv 1 [0, 1, 2] [] (fun J E L => ∃ (t5 : Bool), J ((21, .bool t5) :: E) (L) (zb4 x_s x_base x_most t5)) rfl ?_ ?_
 refine br rfl (fun hc2 => ?_) fun hc2 => ?_
 exact en rfl fun _ _ j => ⟨true, j rfl⟩
 refine rw_ rfl fun a w hf hO hm => ?_
 refine zi (vs := [(0, str x_s)]) (cs := [str x_s]) (e := 9) (sz := 1) hf rfl rfl (fun w => by kernel_rfl) rfl rfl hO fun a b3 w hf hO => ?_
 refine S.op tb ?_ hf hO hm
 refine kn (b' := false) hc2 rfl ?_
 refine cl zjf rfl (fun r4 w hr4 hO => zdk x_is ([x_s] : List Str) r4 _ (hG.own hF hO) x_is_k x_is_h (hO.rowSees (i := 0) rfl) (hO.rowCap (i := 0) rfl) hr4) fun r4 hr4 => ?_
 exact ec [] rfl rfl rfl fun _ _ j => ⟨!r4, j rfl⟩
 rintro a w ⟨t5, hf, hO, hm⟩
 rw [zb4] at hm
 refine S.co tb ?_ hf hO hm
 refine br rfl (fun hc6 => ?_) fun hc6 => ?_
 exact rt Tryz.results153 rfl
 refine lv [0, 1, 2, 23] [] (fun J E L k => ∃ (i11 : Int) (i12 : Int), J ((10, int i11) :: (24, int i12) :: E) (L) (zaA x_s x_base x_most k i11 i12)) rfl (fun _ _ j => ⟨0, 0, j rfl⟩) ?_
 rintro n2 a w ⟨i11, i12, hf, hO, hm⟩
 obtain _ | n2 := n2
 rw [zaA] at hm
 cases hm
 rw [zaA] at hm
 refine S.co tb ?_ hf hO hm
 refine br rfl (fun hc14 => ?_) fun hc14 => ?_
 refine bi rfl fun b17 hb17 => ?_
 refine cl c_175 rfl (fun r18 w hr18 hO => zgp b17 r18 _ (hG.own hF hO) hr18) fun r18 hr18 => ?_
 refine jv 6 [0, 1, 2, 10, 12, 23, 24] [] (fun J E L => ∃ (t23 : Bool), J ((42, .bool t23) :: E) (L) (zb3 (zaA x_s x_base x_most n2) x_base i11 i12 r18 t23)) rfl ?_ ?_
 refine br rfl (fun hc20 => ?_) fun hc20 => ?_
 exact en rfl fun _ _ j => ⟨true, j rfl⟩
 refine bi rfl fun i21 hi21 => ?_
 refine bi rfl fun i22 hi22 => ?_
 exact en rfl fun _ _ j => ⟨decide (i22 < i11), j rfl⟩
 rintro a w ⟨t23, hf, hO, hm⟩
 rw [zb3] at hm
 refine S.co tb ?_ hf hO hm
 refine br rfl (fun hc24 => ?_) fun hc24 => ?_
 exact rt Tryz.results153 rfl
 refine bi rfl fun i27 hi27 => ?_
 refine bi rfl fun i28 hi28 => ?_
 refine bi rfl fun i30 hi30 => ?_
 exact en rfl fun _ _ j => ⟨_, Nat.lt_succ_self _, i28, i30, j rfl⟩
 exact rt Tryz.results153 rfl

theorem zfo (x_s : Str) (x_most : Int) (R : Int × Int) (w0 : World) (hG : zr w0) (hm : zcR x_s x_most = some R) :
    Calls Tryz.prog 116 #[str x_s, int x_most] w0 (Ret w0 (fun R => .tuple #[int R.1, int R.2]) R) := by
 rw [zcR] at hm
 have hF : zC [] := ze
 have hO : Dk.Own w0 [] w0 [] := Dk.Own.refl w0
 refine S.enter tb Tryz.func116 rfl Tryz.ntmps116 rfl ?_ hO hm
 refine cl c_153 rfl (fun r2 w hr2 hO => zg2 x_s 10 x_most za3 r2 _ (hG.own hF hO) zjg (fun y0 r w hG h => zfT (zb1 y0 r w hG h)) hr2) fun r2 hr2 => ?_
 exact rt Tryz.results116 rfl

theorem zg3 (x_n : Int) (x_base : Int) (R : Str) (w0 : World) (hG : za6 w0) (hm : zdX x_n x_base = some R) :
    Calls Tryz.prog 155 #[int x_n, int x_base] w0 (Ret w0 (fun R => str R) R) := by
 rw [zdX] at hm
 have hF : zC [] := ze
 have hO : Dk.Own w0 [] w0 [] := Dk.Own.refl w0
 refine S.enter tb Tryz.func155 rfl Tryz.ntmps155 rfl ?_ hO hm
 refine br rfl (fun hc3 => ?_) fun hc3 => ?_
 exact rt Tryz.results155 rfl
 refine cl c_176 rfl (fun r6 w hr6 hO => zeH x_n x_base r6 _ (hG.own hF hO) hr6) fun r6 hr6 => ?_
 exact rt Tryz.results155 rfl

theorem zg4 (x_n : Int) (R : Str) (w0 : World) (hG : za6 w0) (hm : zdY x_n = some R) :
    Calls Tryz.prog 117 #[int x_n] w0 (Ret w0 (fun R => str R) R) := by
 rw [zdY] at hm
 have hF : zC [] := ze
 have hO : Dk.Own w0 [] w0 [] := Dk.Own.refl w0
 refine S.enter tb Tryz.func117 rfl Tryz.ntmps117 rfl ?_ hO hm
 refine cl c_155 rfl (fun r2 w hr2 hO => zg3 x_n 10 r2 _ (hG.own hF hO) hr2) fun r2 hr2 => ?_
 exact rt Tryz.results117 rfl

theorem zfW (x_s : Str) (x_most : Int) (R : Bool) (w0 : World) (hG : za6 w0) (hm : zcn x_s x_most = some R) :
    Calls Tryz.prog 80 #[str x_s, int x_most] w0 (Ret w0 (fun R => .bool R) R) := by
 rw [zcn] at hm
 have hF : zC [] := ze
 have hO : Dk.Own w0 [] w0 [] := Dk.Own.refl w0
 refine S.enter tb Tryz.func80 rfl Tryz.ntmps80 rfl ?_ hO hm
 refine cl c_116 rfl (fun r2 w hr2 hO => zfo x_s x_most r2 _ (hG.own hF hO).1 hr2) fun r2 hr2 => ?_
 refine jv 0 [] [] (fun J E L => ∃ (t6 : Bool), J ((4, .bool t6) :: E) (L) (zbw t6)) rfl ?_ ?_
 refine br rfl (fun hc4 => ?_) fun hc4 => ?_
 refine cl c_117 rfl (fun r5 w hr5 hO => zg4 r2.1 r5 _ (hG.own hF hO) hr5) fun r5 hr5 => ?_
 exact en rfl fun _ _ j => ⟨r5 == x_s, j rfl⟩
 exact en rfl fun _ _ j => ⟨false, j rfl⟩
 rintro a w ⟨t6, hf, hO, hm⟩
 rw [zbw] at hm
 refine S.co tb ?_ hf hO hm
 exact rt Tryz.results80 rfl

theorem zd6 (x_s : Str) (R : Bool) (w0 : World) (hG : za6 w0) (hm : zcF x_s = some R) :
    Calls Tryz.prog 47 #[str x_s] w0 fun e w' => e = .returned (.bool R) ∧ Below w0.heap.size w0 w' := by
  unfold zcF at hm
  split at hm
  · rename_i hs
    obtain ⟨bs, hbs, hm⟩ := ob hm
    cases hm
    exact zls (fun x => zcn x 255) (fun x b W hG h => zfW x 255 b W hG h) x_s hs bs hbs w0 hG
  · cases hm

theorem zhp (x_b : UInt8) (R : Bool) (w0 : World) (hG : zr w0) (hm : zdp x_b = some R) :
    Calls Tryz.prog 121 #[zH x_b] w0 (Ret w0 (fun R => .bool R) R) := by
 rw [zdp] at hm
 have hF : zC [] := ze
 have hO : Dk.Own w0 [] w0 [] := Dk.Own.refl w0
 refine S.enter tb Tryz.func121 rfl Tryz.ntmps121 rfl ?_ hO hm
 refine jv 0 [] [] (fun J E L => ∃ (t7 : Bool), J ((2, .bool t7) :: E) (L) (zbC t7)) rfl ?_ ?_
 refine cl zjg rfl (fun r2 w hr2 hO => zb1 x_b r2 _ (hG.own hF hO) hr2) fun r2 hr2 => ?_
 refine br rfl (fun hc3 => ?_) fun hc3 => ?_
 exact en rfl fun _ _ j => ⟨true, j rfl⟩
 refine cl ziA rfl (fun r4 w hr4 hO => zbs x_b r4 _ (hG.own hF hO) hr4) fun r4 hr4 => ?_
 refine vl rfl rfl (fun a w hf hO => zer (b := r4) (c := 97) hf rfl rfl) ?_
 refine br rfl (fun hc5 => ?_) fun hc5 => ?_
 refine cl ziA rfl (fun r6 w hr6 hO => zbs x_b r6 _ (hG.own hF hO) hr6) fun r6 hr6 => ?_
 refine vl rfl rfl (fun a w hf hO => zfl (b := r6) (c := 102) hf rfl rfl) ?_
 exact en rfl fun _ _ j => ⟨decide (r6 ≤ 102), j rfl⟩
 exact en rfl fun _ _ j => ⟨false, j rfl⟩
 rintro a w ⟨t7, hf, hO, hm⟩
 rw [zbC] at hm
 refine S.co tb ?_ hf hO hm
 exact rt Tryz.results121 rfl

theorem zcf (x_s : Str) (x_last : Bool) (R : Int) (w0 : World) (hG : za6 w0) (hm : zbo x_s x_last = some R) :
    Calls Tryz.prog 82 #[str x_s, .bool x_last] w0 (Ret w0 (fun R => int R) R) := by
 rw [zbo] at hm
 have hF : zC [] := ze
 have hO : Dk.Own w0 [] w0 [] := Dk.Own.refl w0
 refine S.enter tb Tryz.func82 rfl Tryz.ntmps82 rfl ?_ hO hm
 refine br rfl (fun hc3 => ?_) fun hc3 => ?_
 exact rt Tryz.results82 rfl
 refine rw_ rfl fun a w hf hO hm => ?_
 obtain ⟨r6, hr6, hm⟩ := ob hm
 refine zj (zl c_119 hf (vs := [str x_s, str [58]]) rfl) rfl hf rfl rfl (zgs x_s [58] r6 _ (hG.own hF hO).1 hr6) ?_
 rintro e w' ⟨p7, c8, he, hO'⟩
 refine ⟨_, he, fun a hf => ?_⟩
 have hO := hO.call hO' (by simp [Res.shared])
 refine S.op tb ?_ hf hO hm
 refine lv [1, 5, 13, 14] [0] (fun J E L k => ∃ (i12 : Int) (i13 : Int), J ((6, int i12) :: (15, int i13) :: E) (L) (zy x_last r6 k i12 i13)) rfl (fun _ _ j => ⟨0, 0, j rfl⟩) ?_
 rintro n1 a w ⟨i12, i13, hf, hO, hm⟩
 obtain _ | n1 := n1
 rw [zy] at hm
 cases hm
 rw [zy] at hm
 refine S.co tb ?_ hf hO hm
 refine br rfl (fun hc15 => ?_) fun hc15 => ?_
 refine jv 3 [1, 5, 13, 14, 15] [0] (fun J E L => ∃ (i36 : Int), J ((6, int i36) :: E) (L) (zbm (zy x_last r6 n1) i13 i36)) rfl ?_ ?_
 refine rw_ rfl fun a w hf hO hm => ?_
 obtain ⟨x17, hx17, hm⟩ := ob hm
 obtain ⟨b18, o19, hix17, hSx17, hAx17⟩ := zbq (enc := zd) (sz := 1) (xs := r6) 41 Tryz.underlying41 zhq (by decide) (fun _ => rfl) hO (i := 0) rfl hx17
 refine zbA (zm hix17 hf rfl rfl) rfl hf rfl rfl fun a hf => ?_
 refine S.op tb ?_ hf hO hm
 refine vl rfl rfl (fun a w hf hO => zo (o := 0) zdE (hSx17 _ (hO.rowSees (i := 0) rfl)) rfl hf rfl) ?_
 refine jv 6 [1, 5, 6, 8, 13, 14, 15] [0] (fun J E L => ∃ (t25 : Bool), J ((20, .bool t25) :: E) (L) (zaI (zy x_last r6 n1) i12 i13 x17 t25)) rfl ?_ ?_
 refine br rfl (fun hc21 => ?_) fun hc21 => ?_
 refine bi rfl fun i22 hi22 => ?_
 refine br rfl (fun hc23 => ?_) fun hc23 => ?_
 refine cl c_47 rfl (fun r24 w hr24 hO => zd6 x17 r24 _ (hG.own hF hO) hr24) fun r24 hr24 => ?_
 exact en rfl fun _ _ j => ⟨r24, j rfl⟩
 exact en rfl fun _ _ j => ⟨false, j rfl⟩
 exact en rfl fun _ _ j => ⟨false, j rfl⟩
 rintro a w ⟨t25, hf, hO, hm⟩
 rw [zaI] at hm
 refine S.co tb ?_ hf hO hm
 refine br rfl (fun hc26 => ?_) fun hc26 => ?_
 refine bi rfl fun i27 hi27 => ?_
 exact en rfl fun _ _ j => ⟨i27, j rfl⟩
 refine jv 6 [1, 5, 6, 13, 14, 15] [0] (fun J E L => ∃ (t32 : Bool), J ((35, .bool t32) :: E) (L) (zaH (zy x_last r6 n1) i12 i13 t32)) rfl ?_ ?_
 refine br rfl (fun hc28 => ?_) fun hc28 => ?_
 refine br rfl (fun hc29 => ?_) fun hc29 => ?_
 refine rw_ rfl fun a w hf hO hm => ?_
 refine zi (vs := [(0, str x17)]) (cs := [str x17]) (e := 9) (sz := 1) hf rfl rfl (fun w => by kernel_rfl) rfl rfl hO fun a b30 w hf hO => ?_
 refine S.op tb ?_ hf hO hm
 refine kn (b' := true) hc29 rfl ?_
 refine cl zjf rfl (fun r31 w hr31 hO => zdk zdp ([x17] : List Str) r31 _ (hG.own hF hO).1 c_121 (fun y0 r w hG h => zfT (zhp y0 r w hG h)) (hO.rowSees (i := 0) rfl) (hO.rowCap (i := 0) rfl) hr31) fun r31 hr31 => ?_
 exact ec [1] rfl rfl rfl fun _ _ j => ⟨r31, j rfl⟩
 exact en rfl fun _ _ j => ⟨false, j rfl⟩
 exact en rfl fun _ _ j => ⟨false, j rfl⟩
 rintro a w ⟨t32, hf, hO, hm⟩
 rw [zaH] at hm
 refine S.co tb ?_ hf hO hm
 refine br rfl (fun hc33 => ?_) fun hc33 => ?_
 refine bi rfl fun i34 hi34 => ?_
 exact en rfl fun _ _ j => ⟨i34, j rfl⟩
 exact rt Tryz.results82 rfl
 rintro a w ⟨i36, hf, hO, hm⟩
 rw [zbm] at hm
 refine S.co tb ?_ hf hO hm
 refine bi rfl fun i37 hi37 => ?_
 exact en rfl fun _ _ j => ⟨_, Nat.lt_succ_self _, i36, i37, j rfl⟩
 exact rt Tryz.results82 rfl

theorem zg5 (x_s : Str) (R : Bool) (w0 : World) (hG : za6 w0) (hm : zdZ x_s = some R) :
    Calls Tryz.prog 48 #[str x_s] w0 (Ret w0 (fun R => .bool R) R) := by
 rw [zdZ] at hm
 have hF : zC [] := ze
 have hO : Dk.Own w0 [] w0 [] := Dk.Own.refl w0
 refine S.enter tb Tryz.func48 rfl Tryz.ntmps48 rfl ?_ hO hm
 refine cl c_81 rfl (fun r2 w hr2 hO => zhz x_s [58, 58] r2 _ (hG.own hF hO).1 hr2) fun r2 hr2 => ?_
 refine br rfl (fun hc5 => ?_) fun hc5 => ?_
 refine cl c_82 rfl (fun r6 w hr6 hO => zcf x_s true r6 _ (hG.own hF hO) hr6) fun r6 hr6 => ?_
 exact rt Tryz.results48 rfl
 refine cl c_82 rfl (fun r9 w hr9 hO => zcf r2.1 false r9 _ (hG.own hF hO) hr9) fun r9 hr9 => ?_
 refine cl c_82 rfl (fun r10 w hr10 hO => zcf r2.2.1 true r10 _ (hG.own hF hO) hr10) fun r10 hr10 => ?_
 refine jv 0 [] [] (fun J E L => ∃ (t15 : Bool), J ((2, .bool t15) :: E) (L) (zbp t15)) rfl ?_ ?_
 refine br rfl (fun hc12 => ?_) fun hc12 => ?_
 refine br rfl (fun hc13 => ?_) fun hc13 => ?_
 refine bi rfl fun i14 hi14 => ?_
 exact en rfl fun _ _ j => ⟨decide (i14 ≤ 7), j rfl⟩
 exact en rfl fun _ _ j => ⟨false, j rfl⟩
 exact en rfl fun _ _ j => ⟨false, j rfl⟩
 rintro a w ⟨t15, hf, hO, hm⟩
 rw [zbp] at hm
 refine S.co tb ?_ hf hO hm
 exact rt Tryz.results48 rfl

end Go.Proofs
end
section
set_option linter.unusedVariables false
set_option linter.unusedSimpArgs false
set_option maxRecDepth 100000
namespace Go.Proofs
open Go.Dk Go.Dm Go.RowKit

set_option maxHeartbeats 1000000 in
theorem zeL (x_s : Str) (R : Bool) (w0 : World) (hG : zr w0) (hm : zdq x_s = some R) :
    Calls Tryz.prog 88 #[str x_s] w0 (Ret w0 (fun R => .bool R) R) := by
 rw [zdq] at hm
 have hF : zC [] := ze
 have hO : Dk.Own w0 [] w0 [] := Dk.Own.refl w0
 refine S.enter tb Tryz.func88 rfl Tryz.ntmps88 rfl ?_ hO hm
 refine jv 0 [] [] (fun J E L => ∃ (t5 : Bool), J ((2, .bool t5) :: E) (L) (zco t5)) rfl ?_ ?_
 refine br rfl (fun hc2 => ?_) fun hc2 => ?_
 refine rw_ rfl fun a w hf hO hm => ?_
 refine zi (vs := [(0, str x_s)]) (cs := [str x_s]) (e := 9) (sz := 1) hf rfl rfl (fun w => by kernel_rfl) rfl rfl hO fun a b3 w hf hO => ?_
 refine S.op tb ?_ hf hO hm
 refine kn (b' := true) hc2 rfl ?_
 refine cl zjf rfl (fun r4 w hr4 hO => zdk zaD ([x_s] : List Str) r4 _ (hG.own hF hO) c_124 (fun y0 r w hG h => zfT (zea y0 r w hG h)) (hO.rowSees (i := 0) rfl) (hO.rowCap (i := 0) rfl) hr4) fun r4 hr4 => ?_
 exact ec [] rfl rfl rfl fun _ _ j => ⟨r4, j rfl⟩
 exact en rfl fun _ _ j => ⟨false, j rfl⟩
 rintro a w ⟨t5, hf, hO, hm⟩
 rw [zco] at hm
 refine S.co tb ?_ hf hO hm
 exact rt Tryz.results88 rfl

end Go.Proofs
end
section
set_option linter.unusedVariables false
set_option maxHeartbeats 1000000
set_option linter.unusedSimpArgs false
set_option maxRecDepth 100000
namespace Go.Proofs
open Go.Dk Go.Dm Go.RowKit

theorem zfA (x_sep : Str) (x_l : List Str) (R : Str) (w0 : World) (hG : zr w0) {x_l_p0 : Option Addr} {x_l_c0 : Nat} (hs0 : zF w0 x_l_p0 (cells zd x_l)) (hc0 : x_l.length ≤ x_l_c0) (hm : zd0 x_sep x_l = some R) :
    Calls Tryz.prog 53 #[str x_sep, .slice x_l_p0 x_l.length x_l_c0] w0 (Ret w0 (fun R => str R) R) := by
 rw [zd0] at hm
 have hF : zC [] := ze
 have hO : Dk.Own w0 [] w0 [] := Dk.Own.refl w0
 have hO := hO.addShr hs0 (by simp [Res.shared])
 refine S.enter tb Tryz.func53 rfl Tryz.ntmps53 rfl ?_ hO hm
 refine cl c_89 rfl (fun r2 w hr2 hO => zhd x_l x_sep r2 _ (hG.own hF hO) (hO.sees (i := 0) rfl) hc0 hr2) fun r2 hr2 => ?_
 exact rt Tryz.results53 rfl

theorem zaC (x_s : List api_Field) (R : List api_Field) (w0 : World) (hG : zr w0) {x_s_p0 : Option Addr} {x_s_c0 : Nat} (hs0 : zF w0 x_s_p0 (cells za x_s)) (hc0 : x_s.length ≤ x_s_c0) (hm : zE x_s = some R) :
    Calls Tryz.prog 54 #[.slice x_s_p0 x_s.length x_s_c0] w0 fun e w' => ∃ (p0 : Option Addr) (c0 : Nat), e = .returned (.slice p0 R.length c0) ∧ Dk.Own w0 [] w' [.row (.slice p0 R.length c0) 71 2 R.length (cells za R)] := by
 rw [zE] at hm
 have hF : zC [] := ze
 have hO : Dk.Own w0 [] w0 [] := Dk.Own.refl w0
 have hO := hO.addShr hs0 (by simp [Res.shared])
 refine S.enter tb Tryz.func54 rfl Tryz.ntmps54 rfl ?_ hO hm
 refine nl 71 2 ?_
 refine vl rfl rfl (fun a w hf hO => zjy (ad := x_s_p0) Tryz.underlying24 hf rfl rfl) ?_
 refine rc_ rfl fun a w hf hO hm => ?_
 rcases zgJ (x_s_p0.isNone) with hc3 | hc3
 have hxhc3 : x_s = [] := zjz (enc := za) (sz := 2) (fun _ => rfl) (by decide) (hO.sees (i := 1) rfl) hc3
 rw [hxhc3] at hm
 have hm : some [] = some R := by first | exact hm | (rw [hxhc3]; exact hm) | simpa [hxhc3] using hm
 refine zjr hf rfl hc3 ?_
 refine S.co tb ?_ hf hO hm
 refine nl 71 2 ?_
 refine re_ rfl fun a w hf hO hm => ?_
 obtain rfl := Option.some.inj hm
 exact zh Tryz.results54 hf (.tmp rfl .nil) ⟨none, 0, rfl, (hO.sub (.cons_cons _ (.cons _ (.cons _ .slnil))))⟩
 refine zjs hf rfl hc3 ?_
 refine S.co tb ?_ hf hO hm
 refine rw_ rfl fun a w hf hO hm => ?_
 refine zi (vs := []) (cs := []) (e := 71) (sz := 2) hf rfl rfl (fun w => by kernel_rfl) rfl rfl hO fun a b6 w hf hO => ?_
 refine S.op tb ?_ hf hO hm
 refine rw_ rfl fun a w hf hO hm => ?_
 obtain ⟨hg9, hm⟩ := og hm
 refine ze2 el_24 (enc := za) (xs := []) (ys := x_s) (i := 0) (fun _ => rfl) rfl (hO.sees (i := 2) rfl) (by simp [za, Value.oneCell']) hg9 hf rfl rfl rfl hO fun a p7 c8 w hf hO => ?_
 refine S.op tb ?_ hf hO hm
 refine re_ rfl fun a w hf hO hm => ?_
 obtain rfl := Option.some.inj hm
 exact zh Tryz.results54 hf (.tmp rfl .nil) ⟨p7, c8, rfl, (hO.sub (.cons_cons _ (.cons _ (.cons _ .slnil))))⟩

theorem zjP (x_l : List api_Field) (R : bag_Bag) (w0 : World) (hG : zr w0) {x_l_p0 : Option Addr} {x_l_c0 : Nat} (hs0 : zF w0 x_l_p0 (cells za x_l)) (hc0 : x_l.length ≤ x_l_c0) (hm : zic x_l = some R) :
    Calls Tryz.prog 32 #[.slice x_l_p0 x_l.length x_l_c0] w0 fun e w' => ∃ (b0 : Nat) (p1 : Option Addr) (c1 : Nat), e = .returned (ptr b0 0) ∧ Dk.Own w0 [] w' [.blk b0 [.slice p1 R.f_l.length c1] 100, .row (.slice p1 R.f_l.length c1) 71 2 R.f_l.length (cells za R.f_l)] := by
 rw [zic] at hm
 have hF : zC [] := ze
 have hO : Dk.Own w0 [] w0 [] := Dk.Own.refl w0
 have hO := hO.addShr hs0 (by simp [Res.shared])
 refine S.enter tb Tryz.func32 rfl Tryz.ntmps32 rfl ?_ hO hm
 refine rw_ rfl fun a w hf hO hm => ?_
 obtain ⟨r2, hr2, hm⟩ := ob hm
 refine zj (zl c_54 hf (vs := [.slice x_l_p0 x_l.length x_l_c0]) rfl) rfl hf rfl rfl (zaC x_l r2 _ (hG.own hF hO) (hO.sees (i := 0) rfl) hc0 hr2) ?_
 rintro e w' ⟨p3, c4, he, hO'⟩
 refine ⟨_, he, fun a hf => ?_⟩
 have hO := hO.call hO' (by simp [Res.shared])
 refine S.op tb ?_ hf hO hm
 refine vl rfl rfl (fun a w hf hO => zaT (vs := [(0, .slice p3 r2.length c4)]) (v := .agg #[.slice p3 r2.length c4]) hf rfl (by kernel_rfl)) ?_
 refine bo rfl fun b5 => ?_
 refine re_ rfl fun a w hf hO hm => ?_
 obtain rfl := Option.some.inj hm
 exact zh Tryz.results32 hf (.tmp rfl .nil) ⟨b5, p3, c4, rfl, (hO.sub (.cons_cons _ (.cons_cons _ (.cons _ .slnil))))⟩

set_option maxHeartbeats 4000000 in
set_option maxRecDepth 100000 in
theorem zjQ (s : ByteArray) (R : Str) (w0 : World) (hG : zr w0) (hsz : s.size < 4294967281) (hm : s.data.toList.mapM zO = some R)
    (hlow : ∀ b c w, zO b = some c → zr w → Calls Tryz.prog 128 #[.int .u8 (b.toNat : Int)] w fun e w' => e = .returned (.int .u8 (c.toNat : Int)) ∧ Below w.heap.size w w') :
    Calls Tryz.prog 90 #[.string s] w0 fun e w' => e = .returned (.string ⟨R.toArray⟩) ∧ Below w0.heap.size w0 w' := by
  obtain ⟨hlen, hat⟩ := mapM_at hm
  have HL : Aside (R.length = s.size) := hlen.trans (Lib.size_eq s).symm
  have HT : Aside (∀ (i : Nat) (a : UInt8), s.data.toList[i]? = some a → ∃ b, R[i]? = some b ∧ zO a = some b) := hat
  clear hlen hat hm
  have hcv := fun w => run_bytes_of_string (P := Tryz.prog) w 9 159 5 s Tryz.underlying9 Tryz.underlying159 Tryz.underlying5
  go_enter Tryz.func90, Tryz.ntmps90
  go_wp2
  go_loopg [4, 5, 10] s.size (fun g _ _ v wx => ∃ i : Nat, i + g = s.size ∧ v = .int .i64 (i : Int) ∧ Below w0.heap.size w0 wx ∧ ∃ (cur : Array Value) (fz : Nat × Nat), wx.heap[w0.heap.size]? = some (.cells cur 5 fz) ∧ cur.size ≤ fz.1 ∧ s.size ≤ cur.size ∧ ∀ j, j < s.size → cur[j]? = ((if j < i then R[j]? else s.data.toList[j]?).map zH))
  case atStart =>
    have hrow : (bytesRow s (grownCap w0 s.size 0 5)).size = s.size + (grownCap w0 s.size 0 5 - s.size) := by
      have := Lib.size_eq s
      unfold bytesRow
      rw [Array.size_append, Array.size_map, Array.size_replicate]
      rfl
    refine ⟨0, by omega, rfl, ((Below.refl _ _).alloc (Nat.le_refl _) _).drew, _, _, zgI _, Nat.le_refl _, ?_, fun j hj => ?_⟩
    · omega
    · rw [if_neg (by omega)]
      unfold bytesRow
      rw [Array.getElem?_append_left (by simp [← Lib.size_eq]; exact hj), Array.getElem?_map]
      congr 1
      exact (Array.getElem?_toList ..).symm
  case round =>
    obtain ⟨i, hig, rfl, hB, cur, fz, hcur, hfz, hsc, hcell⟩ := hrel
    have HG : Aside (zr wr) := hG.own ze ((Dk.Own.refl w0).grow hB)
    have HB : Aside (Below w0.heap.size w0 wr) := hB
    have HC : Aside (wr.heap[w0.heap.size]? = some (.cells cur 5 fz)) := hcur
    have HF : Aside (cur.size ≤ fz.1 ∧ s.size ≤ cur.size) := ⟨hfz, hsc⟩
    have HX : Aside (∀ j, j < s.size → cur[j]? = ((if j < i then R[j]? else s.data.toList[j]?).map zH)) := hcell
    clear hB hcell hfz hsc hcur
    by_cases hi : i < s.size
    · obtain ⟨x, hx⟩ : ∃ x, s.data.toList[i]? = some x := ⟨_, Lib.data_getElem? s i hi⟩
      obtain ⟨y, hyR, hy⟩ := HT.out i x hx
      have hcx : wr.cell? ⟨w0.heap.size, i, none⟩ = some (.int .u8 (x.toNat : Int)) := by
        have := HX.out i hi
        rw [if_neg (by omega), hx] at this
        simp [World.cell?, HC.out, this]
      have hfr : wr.frozen? ⟨w0.heap.size, i, none⟩ = false := by
        have := HF.out
        simp [World.frozen?, HC.out]; omega
      have hii : (i : Int) < (s.size : Int) := by omega
      have HY : Aside (R[i]? = some y) := hyR
      have HO : Aside (zO x = some y) := hy
      clear hyR hy hx
      go_wp2_with (go_at_call 128; refine (hlow x y _ HO.out HG.out).mono ?_; rintro e w' ⟨rfl, hb⟩; have hcx' : w'.cell? ⟨w0.heap.size, i, none⟩ = some (.int .u8 (x.toNat : Int)) := (hb.cell (p := ⟨w0.heap.size, i, none⟩) (Array.getElem?_eq_some_iff.1 HC.out).1).trans hcx; have hfr' : w'.frozen? ⟨w0.heap.size, i, none⟩ = false := (hb.frozen (p := ⟨w0.heap.size, i, none⟩) (Array.getElem?_eq_some_iff.1 HC.out).1).trans hfr)
      go_roundg (gk - 1)
      case measure => omega
      case rel =>
        have hlt := (Array.getElem?_eq_some_iff.1 HC.out).1
        have hcw : w'.heap[w0.heap.size]? = some (.cells cur 5 fz) := (hb.block _ hlt).trans HC.out
        refine ⟨i + 1, by omega, rfl, ?_, cur.setIfInBounds i (.int .u8 (y.toNat : Int)), fz, ?_, ?_, ?_, fun j hj => ?_⟩
        · exact (HB.out.trans (hb.mono HB.out.size)).setCell (p := ⟨w0.heap.size, i, none⟩) (Nat.le_refl _) _
        · simp [World.setCell, Array.getElem?_modify, hcw]
        · have := HF.out; simp; omega
        · have := HF.out; simp; omega
        · by_cases hji : j = i
          · subst hji
            have := HF.out
            rw [if_pos (by omega), HY.out, Array.getElem?_setIfInBounds_self_of_lt (by omega)]
            rfl
          · rw [Array.getElem?_setIfInBounds_ne (Ne.symm hji), HX.out j hj]
            by_cases h2 : j < i
            · rw [if_pos h2, if_pos (by omega)]
            · rw [if_neg h2, if_neg (by omega)]
    · have hsi : i = s.size := by omega
      have hbk : ∀ w, wr.heap = w.heap → (convert 159 9 (.slice (some ⟨w0.heap.size, 0, none⟩) s.size (grownCap w0 s.size 0 5))).run Tryz.prog w = .ok (.string ⟨R.toArray⟩) w := by
        intro w hw
        have := run_convert_bytes_back (P := Tryz.prog) w 159 9 5 ⟨w0.heap.size, 0, none⟩ (grownCap w0 s.size 0 5) R Tryz.underlying159 Tryz.underlying5 Tryz.underlying9 (fun j hj => by
          have hjs : j < s.size := by rw [← HL.out]; exact hj
          have h1 := HX.out j hjs
          rw [if_pos (by omega), List.getElem?_eq_getElem hj] at h1
          rw [zjH]
          simp [World.cell?, ← hw, HC.out, h1])
        rw [HL.out] at this
        exact this
      have hni : ¬ ((i : Int) < (s.size : Int)) := by omega
      have hbk1 := hbk wr rfl
      go_wp2
      go_ret
      exact ⟨rfl, HB.out⟩

theorem zfB (x_s : Str) (R : Str) (w0 : World) (hG : zr w0) (hm : zcz x_s = some R) :
    Calls Tryz.prog 90 #[str x_s] w0 fun e w' => e = .returned (str R) ∧ Below w0.heap.size w0 w' := by
  unfold zcz at hm
  split at hm
  · rename_i h
    exact zjQ ⟨x_s.toArray⟩ R w0 hG h hm fun b c w hbc hGw => zbs b c w hGw hbc
  · cases hm

theorem zfC (x_a : Str) (x_b : Str) (R : Bool) (w0 : World) (hG : zr w0) (hm : zcA x_a x_b = some R) :
    Calls Tryz.prog 55 #[str x_a, str x_b] w0 (Ret w0 (fun R => .bool R) R) := by
 rw [zcA] at hm
 have hF : zC [] := ze
 have hO : Dk.Own w0 [] w0 [] := Dk.Own.refl w0
 refine S.enter tb Tryz.func55 rfl Tryz.ntmps55 rfl ?_ hO hm
 refine cl c_90 rfl (fun r2 w hr2 hO => zfB x_a r2 _ (hG.own hF hO) hr2) fun r2 hr2 => ?_
 refine cl c_90 rfl (fun r3 w hr3 hO => zfB x_b r3 _ (hG.own hF hO) hr3) fun r3 hr3 => ?_
 exact rt Tryz.results55 rfl

theorem zeU (x_l : List Str) (R : Str) (w0 : World) (hG : zr w0) {x_l_p0 : Option Addr} {x_l_c0 : Nat} (hs0 : zF w0 x_l_p0 (cells zd x_l)) (hc0 : x_l.length ≤ x_l_c0) (hm : zdr x_l = some R) :
    Calls Tryz.prog 92 #[.slice x_l_p0 x_l.length x_l_c0] w0 (Ret w0 (fun R => str R) R) := by
 rw [zdr] at hm
 have hF : zC [] := ze
 have hO : Dk.Own w0 [] w0 [] := Dk.Own.refl w0
 have hO := hO.addShr hs0 (by simp [Res.shared])
 refine S.enter tb Tryz.func92 rfl Tryz.ntmps92 rfl ?_ hO hm
 refine cl c_53 rfl (fun r2 w hr2 hO => zfA [44, 32] x_l r2 _ (hG.own hF hO) (hO.sees (i := 0) rfl) hc0 hr2) fun r2 hr2 => ?_
 exact rt Tryz.results92 rfl

theorem zgv (x_s : Str) (x_l : List Str) (R : Str) (w0 : World) (hG : zr w0) {x_l_p0 : Option Addr} {x_l_c0 : Nat} (hs0 : zF w0 x_l_p0 (cells zd x_l)) (hc0 : x_l.length ≤ x_l_c0) (hm : zdz x_s x_l = some R) :
    Calls Tryz.prog 56 #[str x_s, .slice x_l_p0 x_l.length x_l_c0] w0 (Ret w0 (fun R => str R) R) := by
 rw [zdz] at hm
 have hF : zC [] := ze
 have hO : Dk.Own w0 [] w0 [] := Dk.Own.refl w0
 have hO := hO.addShr hs0 (by simp [Res.shared])
 refine S.enter tb Tryz.func56 rfl Tryz.ntmps56 rfl ?_ hO hm
 refine br rfl (fun hc3 => ?_) fun hc3 => ?_
 exact rt Tryz.results56 rfl
 refine cl c_91 rfl (fun r5 w hr5 hO => zev x_s [32, 9, 44] r5 _ (hG.own hF hO) hr5) fun r5 hr5 => ?_
 refine br rfl (fun hc7 => ?_) fun hc7 => ?_
 refine cl c_92 rfl (fun r8 w hr8 hO => zeU x_l r8 _ (hG.own hF hO) (hO.sees (i := 0) rfl) hc0 hr8) fun r8 hr8 => ?_
 exact rt Tryz.results56 rfl
 refine cl c_93 rfl (fun r11 w hr11 hO => zeI x_s [32, 9] r11 _ (hG.own hF hO) hr11) fun r11 hr11 => ?_
 refine rw_ rfl fun a w hf hO hm => ?_
 refine zi (vs := [(0, str r11)]) (cs := [str r11]) (e := 9) (sz := 1) hf rfl rfl (fun w => by kernel_rfl) rfl rfl hO fun a b12 w hf hO => ?_
 refine S.op tb ?_ hf hO hm
 refine rw_ rfl fun a w hf hO hm => ?_
 obtain ⟨hg15, hm⟩ := og hm
 refine ze2 zhP (enc := zd) (xs := ([r11] : List Str)) (ys := x_l) (i := 0) (fun _ => rfl) rfl (hO.sees (i := 1) rfl) (by simp [zd, Value.oneCell']) hg15 hf rfl rfl rfl hO fun a p13 c14 w hf hO => ?_
 refine S.op tb ?_ hf hO hm
 refine cl c_92 rfl (fun r16 w hr16 hO => zeU (([r11] : List Str) ++ x_l) r16 _ (hG.own hF hO) (hO.rowSees (i := 0) rfl) (hO.rowCap (i := 0) rfl) hr16) fun r16 hr16 => ?_
 exact rt Tryz.results56 rfl

theorem zhC (x_b : bag_Bag) (x_l : List api_Field) (R : bag_Bag) (w0 : World) (hG : zr w0) {x_b_b0 : Nat} {x_b_p1 : Option Addr} {x_b_c1 : Nat} {x_l_p2 : Option Addr} {x_l_c2 : Nat} {F : List Nat} (hF : zC F) (hO : Dk.Own w0 F w0 [.blk x_b_b0 [.slice x_b_p1 x_b.f_l.length x_b_c1] 100, .row (.slice x_b_p1 x_b.f_l.length x_b_c1) 71 2 x_b.f_l.length (cells za x_b.f_l), .shr x_l_p2 (cells za x_l)]) (hcw0 : x_l.length ≤ x_l_c2) (hm : zez x_b x_l = some R) :
    Calls Tryz.prog 57 #[ptr x_b_b0 0, .slice x_l_p2 x_l.length x_l_c2] w0 fun e w' => ∃ (p0 : Option Addr) (c0 : Nat), e = .returned (.tuple #[]) ∧ Dk.Own w0 F w' [.blk x_b_b0 [.slice p0 R.f_l.length c0] 100, .row (.slice p0 R.f_l.length c0) 71 2 R.f_l.length (cells za R.f_l)] := by
 rw [zez] at hm
 refine S.enter tb Tryz.func57 rfl Tryz.ntmps57 rfl ?_ hO hm
 refine vl rfl rfl (fun a w hf hO => zhL Tryz.underlying74 hf rfl rfl) ?_
 refine kn (b' := true) rfl rfl ?_
 refine ld 0 rfl rfl ?_
 refine rw_ rfl fun a w hf hO hm => ?_
 obtain ⟨hg4, hm⟩ := og hm
 refine ze2 el_24 (enc := za) (xs := x_b.f_l) (ys := x_l) (i := 1) (fun _ => rfl) rfl (hO.sees (i := 2) rfl) (by simp [za, Value.oneCell']) hg4 hf rfl rfl rfl hO fun a p2 c3 w hf hO => ?_
 refine S.op tb ?_ hf hO hm
 refine st 0 rfl rfl ?_
 refine rn_ rfl fun a w hf hO hm => ?_
 obtain rfl := Option.some.inj hm
 exact zfn Tryz.results57 hf .nil ⟨p2, c3, rfl, (hO.sub (.cons_cons _ (.cons_cons _ (.cons _ .slnil))))⟩

theorem zf2 (x_b : bag_Bag) (x_name : Str) (x_element : Str) (R : bag_Bag) (w0 : World) (hG : zr w0) {x_b_b0 : Nat} {x_b_p1 : Option Addr} {x_b_c1 : Nat} {F : List Nat} (hF : zC F) (hO : Dk.Own w0 F w0 [.blk x_b_b0 [.slice x_b_p1 x_b.f_l.length x_b_c1] 100, .row (.slice x_b_p1 x_b.f_l.length x_b_c1) 71 2 x_b.f_l.length (cells za x_b.f_l)]) (hm : zda x_b x_name x_element = some R) :
    Calls Tryz.prog 33 #[ptr x_b_b0 0, str x_name, str x_element] w0 fun e w' => ∃ (p0 : Option Addr) (c0 : Nat), e = .returned (.tuple #[]) ∧ Dk.Own w0 F w' [.blk x_b_b0 [.slice p0 R.f_l.length c0] 100, .row (.slice p0 R.f_l.length c0) 71 2 R.f_l.length (cells za R.f_l)] := by
 rw [zda] at hm
 refine S.enter tb Tryz.func33 rfl Tryz.ntmps33 rfl ?_ hO hm
 refine vl rfl rfl (fun a w hf hO => zdC Tryz.underlying74 hf rfl rfl) ?_
 refine kn (b' := false) rfl rfl ?_
 refine ld 0 rfl rfl ?_
 refine bi rfl fun i3 hi3 => ?_
 refine lv [0, 1, 2] [0, 1] (fun J E L k => ∃ (i5 : Int), J ((6, int i5) :: E) (L) (zaX x_b x_name x_element k i5)) rfl (fun _ _ j => ⟨i3, j rfl⟩) ?_
 rintro n1 a w ⟨i5, hf, hO, hm⟩
 obtain _ | n1 := n1
 rw [zaX] at hm
 cases hm
 rw [zaX] at hm
 refine S.co tb ?_ hf hO hm
 refine br rfl (fun hc7 => ?_) fun hc7 => ?_
 refine ld 0 rfl rfl ?_
 refine rw_ rfl fun a w hf hO hm => ?_
 obtain ⟨x9, hx9, hm⟩ := ob hm
 obtain ⟨b10, o11, hix9, hSx9, hAx9⟩ := zbq (enc := za) (sz := 2) (xs := x_b.f_l) 24 Tryz.underlying24 zge (by decide) (fun _ => rfl) hO (i := 1) rfl hx9
 refine zbA (zm hix9 hf rfl rfl) rfl hf rfl rfl fun a hf => ?_
 refine S.op tb ?_ hf hO hm
 refine vl rfl rfl (fun a w hf hO => zo (o := 0) zdE (hSx9 _ (hO.rowSees (i := 1) rfl)) rfl hf rfl) ?_
 refine cl c_55 rfl (fun r12 w hr12 hO => zfC x9.Name x_name r12 _ (hG.own hF hO) hr12) fun r12 hr12 => ?_
 refine br rfl (fun hc14 => ?_) fun hc14 => ?_
 refine rc_ rfl fun a w hf hO hm => ?_
 obtain ⟨x15, hx15, hm⟩ := ob hm
 obtain ⟨b16, o17, hix15, hSx15, hAx15⟩ := zbq (enc := za) (sz := 2) (xs := x_b.f_l) 24 Tryz.underlying24 zge (by decide) (fun _ => rfl) hO (i := 1) rfl hx15
 obtain ⟨r19, hr19, hm⟩ := ob hm
 obtain ⟨x20, hx20, hm⟩ := ob hm
 obtain ⟨b21, o22, hix20, hSx20, hAx20⟩ := zbq (enc := za) (sz := 2) (xs := x_b.f_l) 24 Tryz.underlying24 zge (by decide) (fun _ => rfl) hO (i := 1) rfl hx20
 obtain ⟨l23, hl23, hm⟩ := ob hm
 have hlnl23 := zkg hl23
 refine zjm (S := Nat) (E0 := [(0, ptr x_b_b0 0), (2, str x_element), (6, int i5)]) (by kernel_rfl) (fun k σ w => match k with | 0 => Dk.Own w0 F w [.blk x_b_b0 [.slice x_b_p1 x_b.f_l.length x_b_c1] 100, .row (.slice x_b_p1 x_b.f_l.length x_b_c1) 71 2 x_b.f_l.length (cells za x_b.f_l)] | 1 => Dk.Own w0 F w [.row (.slice (some ⟨σ, 0, none⟩) (([x_element] : List Str).length) 1) 9 1 (([x_element] : List Str).length) (cells zd ([x_element] : List Str)), .blk x_b_b0 [.slice x_b_p1 x_b.f_l.length x_b_c1] 100, .row (.slice x_b_p1 x_b.f_l.length x_b_c1) 71 2 x_b.f_l.length (cells za x_b.f_l)] | 2 => Dk.Own w0 F w [.row (.slice (some ⟨σ, 0, none⟩) (([x_element] : List Str).length) 1) 9 1 (([x_element] : List Str).length) (cells zd ([x_element] : List Str)), .blk x_b_b0 [.slice x_b_p1 x_b.f_l.length x_b_c1] 100, .row (.slice x_b_p1 x_b.f_l.length x_b_c1) 71 2 x_b.f_l.length (cells za x_b.f_l)] | _ => Dk.Own w0 F w [.row (.slice (some ⟨σ, 0, none⟩) (([x_element] : List Str).length) 1) 9 1 (([x_element] : List Str).length) (cells zd ([x_element] : List Str)), .blk x_b_b0 [.slice x_b_p1 x_b.f_l.length x_b_c1] 100, .row (.slice x_b_p1 x_b.f_l.length x_b_c1) 71 2 x_b.f_l.length (cells za l23)]) (fun σ => [⟨[(0, ptr x_b_b0 0)], some (29, ptr x_b_b0 0)⟩, ⟨[(29, ptr x_b_b0 0)], some (30, ptr x_b_b0 0)⟩, ⟨[(30, ptr x_b_b0 0)], some (31, ptr x_b_b0 0)⟩, ⟨[(31, ptr x_b_b0 0)], some (32, .slice x_b_p1 x_b.f_l.length x_b_c1)⟩, ⟨[(6, int i5)], some (33, int i5)⟩, ⟨[(0, ptr x_b_b0 0)], some (34, ptr x_b_b0 0)⟩, ⟨[(34, ptr x_b_b0 0)], some (35, ptr x_b_b0 0)⟩, ⟨[(35, ptr x_b_b0 0)], some (36, ptr x_b_b0 0)⟩, ⟨[(36, ptr x_b_b0 0)], some (37, .slice x_b_p1 x_b.f_l.length x_b_c1)⟩, ⟨[(6, int i5)], some (38, int i5)⟩, ⟨[(37, .slice x_b_p1 x_b.f_l.length x_b_c1), (38, int i5)], some (39, ptr b16 o17)⟩, ⟨[(39, ptr b16 o17)], some (40, ptr b16 (o17 + 1))⟩, ⟨[(40, ptr b16 (o17 + 1))], some (41, str x15.Value)⟩, ⟨[(2, str x_element)], some (42, str x_element)⟩, ⟨[(42, str x_element)], some (43, .slice (some ⟨σ, 0, none⟩) (([x_element] : List Str).length) 1)⟩, ⟨[(41, str x15.Value), (43, .slice (some ⟨σ, 0, none⟩) (([x_element] : List Str).length) 1)], some (44, str r19)⟩, ⟨[(32, .slice x_b_p1 x_b.f_l.length x_b_c1), (33, int i5)], some (45, ptr b21 o22)⟩, ⟨[(45, ptr b21 o22)], some (46, ptr b21 (o22 + 1))⟩, ⟨[(44, str r19), (46, ptr b21 (o22 + 1))], none⟩]) (0) [14, 15, 18] rfl (fun _ => rfl) (fun _ => rfl) (fun _ => rfl) rfl rfl (by decide) rfl hO.drew (hf.cons rfl (hf.cons rfl (hf.cons rfl hf.nil))) (fun σ => ⟨⟨rfl, trivial⟩, ⟨rfl, trivial⟩, ⟨rfl, trivial⟩, ⟨rfl, trivial⟩, ⟨rfl, trivial⟩, ⟨rfl, trivial⟩, ⟨rfl, trivial⟩, ⟨rfl, trivial⟩, ⟨rfl, trivial⟩, ⟨rfl, trivial⟩, ⟨rfl, rfl, trivial⟩, ⟨rfl, trivial⟩, ⟨rfl, trivial⟩, ⟨rfl, trivial⟩, ⟨rfl, trivial⟩, ⟨rfl, rfl, trivial⟩, ⟨rfl, rfl, trivial⟩, ⟨rfl, trivial⟩, ⟨rfl, rfl, trivial⟩, trivial⟩) ⟨za7 rfl (fun σ => rfl) (fun σ => rfl) (fun σ a w k _ _ _ _ hf => zs hf rfl), za7 rfl (fun σ => rfl) (fun σ => rfl) (fun σ a w k _ _ _ _ hf => zaq hf rfl), za7 rfl (fun σ => rfl) (fun σ => rfl) (fun σ a w k _ _ _ _ hf => zaR zg8 hf rfl), za7 rfl (fun σ => rfl) (fun σ => rfl) (fun σ a w k hk hlo hup hst hf => match k, hk, hlo, hup, hst, hf with | 0, _, _, _, hst, hf => have hO : Dk.Own w0 F w [.blk x_b_b0 [.slice x_b_p1 x_b.f_l.length x_b_c1] 100, .row (.slice x_b_p1 x_b.f_l.length x_b_c1) 71 2 x_b.f_l.length (cells za x_b.f_l)] := hst; zo (o := 0) zfr (hO.blkSees (i := 0) rfl) rfl hf rfl | 1, _, _, _, hst, hf => have hO : Dk.Own w0 F w [.row (.slice (some ⟨σ, 0, none⟩) (([x_element] : List Str).length) 1) 9 1 (([x_element] : List Str).length) (cells zd ([x_element] : List Str)), .blk x_b_b0 [.slice x_b_p1 x_b.f_l.length x_b_c1] 100, .row (.slice x_b_p1 x_b.f_l.length x_b_c1) 71 2 x_b.f_l.length (cells za x_b.f_l)] := hst; zo (o := 0) zfr (hO.blkSees (i := 1) rfl) rfl hf rfl | 2, _, _, _, hst, hf => have hO : Dk.Own w0 F w [.row (.slice (some ⟨σ, 0, none⟩) (([x_element] : List Str).length) 1) 9 1 (([x_element] : List Str).length) (cells zd ([x_element] : List Str)), .blk x_b_b0 [.slice x_b_p1 x_b.f_l.length x_b_c1] 100, .row (.slice x_b_p1 x_b.f_l.length x_b_c1) 71 2 x_b.f_l.length (cells za x_b.f_l)] := hst; zo (o := 0) zfr (hO.blkSees (i := 1) rfl) rfl hf rfl | 3, _, _, _, hst, hf => have hO : Dk.Own w0 F w [.row (.slice (some ⟨σ, 0, none⟩) (([x_element] : List Str).length) 1) 9 1 (([x_element] : List Str).length) (cells zd ([x_element] : List Str)), .blk x_b_b0 [.slice x_b_p1 x_b.f_l.length x_b_c1] 100, .row (.slice x_b_p1 x_b.f_l.length x_b_c1) 71 2 x_b.f_l.length (cells za l23)] := hst; zo (o := 0) zfr (hO.blkSees (i := 1) rfl) rfl hf rfl | k + 4, hk, _, _, _, _ => absurd hk (by simp)), za7 rfl (fun σ => rfl) (fun σ => rfl) (fun σ a w k _ _ _ _ hf => zs hf rfl), za7 rfl (fun σ => rfl) (fun σ => rfl) (fun σ a w k _ _ _ _ hf => zs hf rfl), za7 rfl (fun σ => rfl) (fun σ => rfl) (fun σ a w k _ _ _ _ hf => zaq hf rfl), za7 rfl (fun σ => rfl) (fun σ => rfl) (fun σ a w k _ _ _ _ hf => zaR zg8 hf rfl), za7 rfl (fun σ => rfl) (fun σ => rfl) (fun σ a w k hk hlo hup hst hf => match k, hk, hlo, hup, hst, hf with | 0, _, _, _, hst, hf => have hO : Dk.Own w0 F w [.blk x_b_b0 [.slice x_b_p1 x_b.f_l.length x_b_c1] 100, .row (.slice x_b_p1 x_b.f_l.length x_b_c1) 71 2 x_b.f_l.length (cells za x_b.f_l)] := hst; zo (o := 0) zfr (hO.blkSees (i := 0) rfl) rfl hf rfl | 1, _, _, _, hst, hf => have hO : Dk.Own w0 F w [.row (.slice (some ⟨σ, 0, none⟩) (([x_element] : List Str).length) 1) 9 1 (([x_element] : List Str).length) (cells zd ([x_element] : List Str)), .blk x_b_b0 [.slice x_b_p1 x_b.f_l.length x_b_c1] 100, .row (.slice x_b_p1 x_b.f_l.length x_b_c1) 71 2 x_b.f_l.length (cells za x_b.f_l)] := hst; zo (o := 0) zfr (hO.blkSees (i := 1) rfl) rfl hf rfl | 2, _, _, _, hst, hf => have hO : Dk.Own w0 F w [.row (.slice (some ⟨σ, 0, none⟩) (([x_element] : List Str).length) 1) 9 1 (([x_element] : List Str).length) (cells zd ([x_element] : List Str)), .blk x_b_b0 [.slice x_b_p1 x_b.f_l.length x_b_c1] 100, .row (.slice x_b_p1 x_b.f_l.length x_b_c1) 71 2 x_b.f_l.length (cells za x_b.f_l)] := hst; zo (o := 0) zfr (hO.blkSees (i := 1) rfl) rfl hf rfl | 3, _, _, _, hst, hf => have hO : Dk.Own w0 F w [.row (.slice (some ⟨σ, 0, none⟩) (([x_element] : List Str).length) 1) 9 1 (([x_element] : List Str).length) (cells zd ([x_element] : List Str)), .blk x_b_b0 [.slice x_b_p1 x_b.f_l.length x_b_c1] 100, .row (.slice x_b_p1 x_b.f_l.length x_b_c1) 71 2 x_b.f_l.length (cells za l23)] := hst; zo (o := 0) zfr (hO.blkSees (i := 1) rfl) rfl hf rfl | k + 4, hk, _, _, _, _ => absurd hk (by simp)), za7 rfl (fun σ => rfl) (fun σ => rfl) (fun σ a w k _ _ _ _ hf => zs hf rfl), za7 rfl (fun σ => rfl) (fun σ => rfl) (fun σ a w k _ _ _ _ hf => zm hix15 hf rfl rfl), za7 rfl (fun σ => rfl) (fun σ => rfl) (fun σ a w k _ _ _ _ hf => zaR zh3 hf rfl), za7 rfl (fun σ => rfl) (fun σ => rfl) (fun σ a w k hk hlo hup hst hf => match k, hk, hlo, hup, hst, hf with | 0, _, _, _, hst, hf => have hO : Dk.Own w0 F w [.blk x_b_b0 [.slice x_b_p1 x_b.f_l.length x_b_c1] 100, .row (.slice x_b_p1 x_b.f_l.length x_b_c1) 71 2 x_b.f_l.length (cells za x_b.f_l)] := hst; zo (o := 1) zdE (hSx15 _ (hO.rowSees (i := 1) rfl)) rfl hf rfl | 1, _, _, _, hst, hf => have hO : Dk.Own w0 F w [.row (.slice (some ⟨σ, 0, none⟩) (([x_element] : List Str).length) 1) 9 1 (([x_element] : List Str).length) (cells zd ([x_element] : List Str)), .blk x_b_b0 [.slice x_b_p1 x_b.f_l.length x_b_c1] 100, .row (.slice x_b_p1 x_b.f_l.length x_b_c1) 71 2 x_b.f_l.length (cells za x_b.f_l)] := hst; zo (o := 1) zdE (hSx15 _ (hO.rowSees (i := 2) rfl)) rfl hf rfl | 2, _, _, _, hst, hf => have hO : Dk.Own w0 F w [.row (.slice (some ⟨σ, 0, none⟩) (([x_element] : List Str).length) 1) 9 1 (([x_element] : List Str).length) (cells zd ([x_element] : List Str)), .blk x_b_b0 [.slice x_b_p1 x_b.f_l.length x_b_c1] 100, .row (.slice x_b_p1 x_b.f_l.length x_b_c1) 71 2 x_b.f_l.length (cells za x_b.f_l)] := hst; zo (o := 1) zdE (hSx15 _ (hO.rowSees (i := 2) rfl)) rfl hf rfl | 3, _, _, hup, _, _ => absurd (hup 1 (by decide) (by kernel_rfl)) (by decide) | k + 4, hk, _, _, _, _ => absurd hk (by simp)), za7 rfl (fun σ => rfl) (fun σ => rfl) (fun σ a w k _ _ _ _ hf => zs hf rfl), sS_val rfl (fun σ => rfl) (fun σ => rfl) rfl (fun σ w (hO : Dk.Own w0 F w [.blk x_b_b0 [.slice x_b_p1 x_b.f_l.length x_b_c1] 100, .row (.slice x_b_p1 x_b.f_l.length x_b_c1) 71 2 x_b.f_l.length (cells za x_b.f_l)]) => by obtain ⟨b18, w', hO', hr⟩ := zhk (E := [(42, str x_element)]) (parts := #[(0, (.tmp 42))]) (t' := 41) (n := 1) (vs := [(0, str x_element)]) (cs := [str x_element]) (e := 9) (sz := 1) (fun w => by kernel_rfl) rfl rfl hO rfl; exact ⟨(b18), w', hO', ⟨.inr rfl, .inr rfl, .inr rfl, .inr rfl, .inr rfl, .inr rfl, .inr rfl, .inr rfl, .inr rfl, .inr rfl, .inr rfl, .inr rfl, .inr rfl, .inr rfl, .inl rfl, .inl rfl, .inr rfl, .inr rfl, .inr rfl, trivial⟩, hr⟩), zkP rfl (fun σ => rfl) (fun σ => rfl) rfl (fun σ a w (_ : _) hf => zl c_56 hf (vs := [str x15.Value, .slice (some ⟨σ, 0, none⟩) (([x_element] : List Str).length) 1]) rfl) (fun σ w (hO : Dk.Own w0 F w [.row (.slice (some ⟨σ, 0, none⟩) (([x_element] : List Str).length) 1) 9 1 (([x_element] : List Str).length) (cells zd ([x_element] : List Str)), .blk x_b_b0 [.slice x_b_p1 x_b.f_l.length x_b_c1] 100, .row (.slice x_b_p1 x_b.f_l.length x_b_c1) 71 2 x_b.f_l.length (cells za x_b.f_l)]) => (zgv x15.Value ([x_element] : List Str) r19 _ (hG.own hF hO) (hO.rowSees (i := 0) rfl) (hO.rowCap (i := 0) rfl) hr19).mono fun e w' h => by obtain ⟨he, hb⟩ := h; exact ⟨(σ), he, hO.grow hb, .inr rfl, .inr rfl, .inr rfl, .inr rfl, .inr rfl, .inr rfl, .inr rfl, .inr rfl, .inr rfl, .inr rfl, .inr rfl, .inr rfl, .inr rfl, .inr rfl, .inr rfl, .inr rfl, .inr rfl, .inr rfl, .inr rfl, trivial⟩), za7 rfl (fun σ => rfl) (fun σ => rfl) (fun σ a w k _ _ _ _ hf => zm hix20 hf rfl rfl), za7 rfl (fun σ => rfl) (fun σ => rfl) (fun σ a w k _ _ _ _ hf => zaR zh3 hf rfl), zkQ rfl (fun σ => rfl) (fun σ => rfl) rfl (fun σ w (hO : Dk.Own w0 F w [.row (.slice (some ⟨σ, 0, none⟩) (([x_element] : List Str).length) 1) 9 1 (([x_element] : List Str).length) (cells zd ([x_element] : List Str)), .blk x_b_b0 [.slice x_b_p1 x_b.f_l.length x_b_c1] 100, .row (.slice x_b_p1 x_b.f_l.length x_b_c1) 71 2 x_b.f_l.length (cells za x_b.f_l)]) => by obtain ⟨w', hO', hr⟩ := zir (x := (.tmp 46)) (y := (.tmp 44)) (E := [(44, str r19), (46, ptr b21 (o22 + 1))]) (enc := za) (i := 2) (rel := 1) (xs := x_b.f_l) (v := str r19) zhq (fun _ => rfl) rfl hAx20 hx20 hl23 rfl (by decide) rfl rfl hO rfl rfl; exact ⟨(σ), w', hO', ⟨.inr rfl, .inr rfl, .inr rfl, .inr rfl, .inr rfl, .inr rfl, .inr rfl, .inr rfl, .inr rfl, .inr rfl, .inr rfl, .inr rfl, .inr rfl, .inr rfl, .inr rfl, .inr rfl, .inr rfl, .inr rfl, .inr rfl, trivial⟩, hr⟩), trivial⟩ ?_
 rintro b18 a w hf hO
 have hO : Dk.Own w0 F w [.row (.slice (some ⟨b18, 0, none⟩) (([x_element] : List Str).length) 1) 9 1 (([x_element] : List Str).length) (cells zd ([x_element] : List Str)), .blk x_b_b0 [.slice x_b_p1 x_b.f_l.length x_b_c1] 100, .row (.slice x_b_p1 x_b.f_l.length x_b_c1) 71 2 x_b.f_l.length (cells za l23)] := hO
 have hf : Fits 53 [] a := hf.nil
 have hf : Fits 53 [] a := by first | exact hf | (simp only [hlnl23]; exact hf)
 have hO : Dk.Own w0 F w [.row (.slice (some ⟨b18, 0, none⟩) (([x_element] : List Str).length) 1) 9 1 (([x_element] : List Str).length) (cells zd ([x_element] : List Str)), .blk x_b_b0 [.slice x_b_p1 l23.length x_b_c1] 100, .row (.slice x_b_p1 l23.length x_b_c1) 71 2 l23.length (cells za l23)] := by first | exact hO | (simp only [hlnl23]; exact hO)
 refine S.no tb ?_ hf hO hm
 refine re_ rfl fun a w hf hO hm => ?_
 obtain rfl := Option.some.inj hm
 exact zh Tryz.results33 hf .nil ⟨x_b_p1, x_b_c1, rfl, (hO.sub (.cons _ (.cons_cons _ (.cons_cons _ .slnil))))⟩
 refine bi rfl fun i26 hi26 => ?_
 exact en rfl fun _ _ j => ⟨_, Nat.lt_succ_self _, i26, j rfl⟩
 refine vl rfl rfl (fun a w hf hO => zaT (vs := [(0, str x_name), (1, str x_element)]) (v := .agg #[str x_name, str x_element]) hf rfl (by kernel_rfl)) ?_
 refine rw_ rfl fun a w hf hO hm => ?_
 refine zi (vs := [(0, .agg #[str x_name, str x_element])]) (cs := [str x_name, str x_element]) (e := 71) (sz := 2) hf rfl rfl (fun w => by kernel_rfl) rfl rfl hO fun a b28 w hf hO => ?_
 refine S.op tb ?_ hf hO hm
 refine rw_ rfl fun a w hf hO hm => ?_
 obtain ⟨r29, hr29, hm⟩ := ob hm
 have hch32 := (show Dk.Own w0 F _ ([.blk x_b_b0 [.slice x_b_p1 x_b.f_l.length x_b_c1] 100, .row (.slice x_b_p1 x_b.f_l.length x_b_c1) 71 2 x_b.f_l.length (cells za x_b.f_l)] ++ [.row (.slice (some ⟨b28, 0, none⟩) (([(⟨x_name, x_element⟩ : api_Field)]).length) 1) 71 2 (([(⟨x_name, x_element⟩ : api_Field)]).length) (cells za ([(⟨x_name, x_element⟩ : api_Field)]))]) from hO.choose [1, 2, 0] rfl)
 have hfar32 := Dk.Own.far hch32 rfl hF hG.size
 have hlend32 := hch32.lend (S := [.shr (some ⟨b28, 0, none⟩) (cells za ([(⟨x_name, x_element⟩ : api_Field)]))]) rfl ⟨zkJ (hO.rowSees (i := 0) rfl) (List.mem_of_getElem? (i := 0) rfl), trivial⟩
 have hcl32 := zhC x_b ([(⟨x_name, x_element⟩ : api_Field)]) r29 _ (hG.own hF hO) hfar32 hlend32 (hO.rowCap (i := 0) rfl) hr29
 refine zj (zl c_57 hf (vs := [ptr x_b_b0 0, .slice (some ⟨b28, 0, none⟩) (([(⟨x_name, x_element⟩ : api_Field)]).length) 1]) rfl) rfl hf rfl rfl (hcl32) ?_
 rintro e w' ⟨p30, c31, he, hO'⟩
 refine ⟨_, he, fun a hf => ?_⟩
 have hO := hch32.back rfl hO' rfl
 refine S.op tb ?_ hf hO hm
 refine rn_ rfl fun a w hf hO hm => ?_
 obtain rfl := Option.some.inj hm
 exact zfn Tryz.results33 hf .nil ⟨p30, c31, rfl, (hO.sub (.cons_cons _ (.cons_cons _ (.cons _ .slnil))))⟩

end Go.Proofs
end
section
set_option linter.unusedVariables false
set_option maxHeartbeats 1000000
set_option linter.unusedSimpArgs false
set_option maxRecDepth 100000
namespace Go.Proofs
open Go.Dk Go.Dm Go.RowKit

theorem zgU (x_b : bag_Bag) (R : List api_Field) (w0 : World) (hG : zr w0) {x_b_b0 : Nat} {x_b_p1 : Option Addr} {x_b_c1 : Nat} (hs0 : zF w0 (some ⟨x_b_b0, 0, none⟩) [.slice x_b_p1 x_b.f_l.length x_b_c1]) (hs1 : zF w0 x_b_p1 (cells za x_b.f_l)) (hc1 : x_b.f_l.length ≤ x_b_c1) (hm : zd1 x_b = some R) :
    Calls Tryz.prog 34 #[ptr x_b_b0 0] w0 fun e w' => ∃ (p0 : Option Addr) (c0 : Nat), e = .returned (.slice p0 R.length c0) ∧ Dk.Own w0 [] w' [.row (.slice p0 R.length c0) 71 2 R.length (cells za R)] := by
 rw [zd1] at hm
 have hF : zC [] := ze
 have hO : Dk.Own w0 [] w0 [] := Dk.Own.refl w0
 have hO := hO.addShr hs0 (by simp [Res.shared])
 have hO := hO.addShr hs1 (by simp [Res.shared])
 refine S.enter tb Tryz.func34 rfl Tryz.ntmps34 rfl ?_ hO hm
 refine nl 71 2 ?_
 refine vl rfl rfl (fun a w hf hO => zdC Tryz.underlying74 hf rfl rfl) ?_
 refine kn (b' := false) rfl rfl ?_
 refine ld 2 rfl rfl ?_
 refine rw_ rfl fun a w hf hO hm => ?_
 obtain ⟨r4, hr4, hm⟩ := ob hm
 refine zj (zl c_54 hf (vs := [.slice x_b_p1 x_b.f_l.length x_b_c1]) rfl) rfl hf rfl rfl (zaC x_b.f_l r4 _ (hG.own hF hO) (hO.sees (i := 1) rfl) hc1 hr4) ?_
 rintro e w' ⟨p5, c6, he, hO'⟩
 refine ⟨_, he, fun a hf => ?_⟩
 have hO := hO.call hO' (by simp [Res.shared])
 refine S.op tb ?_ hf hO hm
 refine re_ rfl fun a w hf hO hm => ?_
 obtain rfl := Option.some.inj hm
 exact zh Tryz.results34 hf (.tmp rfl .nil) ⟨p5, c6, rfl, (hO.sub (.cons_cons _ (.cons _ (.cons _ (.cons _ .slnil)))))⟩

theorem ziS (x_b : UInt8) (x_l : Str) (R : Bool) (w0 : World) (hG : zr w0) (hm : zhi x_b x_l = some R) :
    Calls Tryz.prog 109 #[zH x_b, str x_l] w0 (Ret w0 (fun R => .bool R) R) := by
 rw [zhi] at hm
 have hF : zC [] := ze
 have hO : Dk.Own w0 [] w0 [] := Dk.Own.refl w0
 refine S.enter tb Tryz.func109 rfl Tryz.ntmps109 rfl ?_ hO hm
 refine lv [0, 1] [] (fun J E L k => ∃ (i3 : Int), J ((5, int i3) :: E) (L) (zcK x_b x_l k i3)) rfl (fun _ _ j => ⟨0, j rfl⟩) ?_
 rintro n1 a w ⟨i3, hf, hO, hm⟩
 obtain _ | n1 := n1
 rw [zcK] at hm
 cases hm
 rw [zcK] at hm
 refine S.co tb ?_ hf hO hm
 refine br rfl (fun hc5 => ?_) fun hc5 => ?_
 refine bi rfl fun b7 hb7 => ?_
 refine vl rfl rfl (fun a w hf hO => zJ (b := b7) (c := x_b) hf rfl rfl) ?_
 refine br rfl (fun hc9 => ?_) fun hc9 => ?_
 exact rt Tryz.results109 rfl
 refine bi rfl fun i12 hi12 => ?_
 exact en rfl fun _ _ j => ⟨_, Nat.lt_succ_self _, i12, j rfl⟩
 exact rt Tryz.results109 rfl

end Go.Proofs
end
section
set_option linter.unusedVariables false
set_option maxHeartbeats 1000000
set_option linter.unusedSimpArgs false
set_option maxRecDepth 100000
namespace Go.Proofs
open Go.Dk Go.Dm Go.RowKit

theorem zgf (x_b : UInt8) (R : Bool) (w0 : World) (hG : zr w0) (hm : zc1 x_b = some R) :
    Calls Tryz.prog 74 #[zH x_b] w0 (Ret w0 (fun R => .bool R) R) := by
 rw [zc1] at hm
 have hF : zC [] := ze
 have hO : Dk.Own w0 [] w0 [] := Dk.Own.refl w0
 refine S.enter tb Tryz.func74 rfl Tryz.ntmps74 rfl ?_ hO hm
 refine cl c_109 rfl (fun r2 w hr2 hO => ziS x_b [97, 98, 99, 100, 101, 102, 103, 104, 105, 106, 107, 108, 109, 110, 111, 112, 113, 114, 115, 116, 117, 118, 119, 120, 121, 122, 65, 66, 67, 68, 69, 70, 71, 72, 73, 74, 75, 76, 77, 78, 79, 80, 81, 82, 83, 84, 85, 86, 87, 88, 89, 90, 48, 49, 50, 51, 52, 53, 54, 55, 56, 57, 33, 35, 36, 37, 38, 39, 42, 43, 45, 46, 94, 95, 96, 124, 126] r2 _ (hG.own hF hO) hr2) fun r2 hr2 => ?_
 exact rt Tryz.results74 rfl

theorem zhr (x_b : UInt8) (R : Bool) (w0 : World) (hG : zr w0) (hm : zcL x_b = some R) :
    Calls Tryz.prog 95 #[zH x_b] w0 (Ret w0 (fun R => .bool R) R) := by
 rw [zcL] at hm
 have hF : zC [] := ze
 have hO : Dk.Own w0 [] w0 [] := Dk.Own.refl w0
 refine S.enter tb Tryz.func95 rfl Tryz.ntmps95 rfl ?_ hO hm
 refine jv 0 [] [] (fun J E L => ∃ (t4 : Bool), J ((2, .bool t4) :: E) (L) (zbD t4)) rfl ?_ ?_
 refine vl rfl rfl (fun a w hf hO => zer (b := x_b) (c := 32) hf rfl rfl) ?_
 refine br rfl (fun hc2 => ?_) fun hc2 => ?_
 refine vl rfl rfl (fun a w hf hO => zeq (b := x_b) (c := 127) hf rfl rfl) ?_
 refine br rfl (fun hc3 => ?_) fun hc3 => ?_
 exact en rfl fun _ _ j => ⟨true, j rfl⟩
 refine vl rfl rfl (fun a w hf hO => zJ (b := x_b) (c := 9) hf rfl rfl) ?_
 exact en rfl fun _ _ j => ⟨x_b == 9, j rfl⟩
 refine vl rfl rfl (fun a w hf hO => zJ (b := x_b) (c := 9) hf rfl rfl) ?_
 exact en rfl fun _ _ j => ⟨x_b == 9, j rfl⟩
 rintro a w ⟨t4, hf, hO, hm⟩
 rw [zbD] at hm
 refine S.co tb ?_ hf hO hm
 exact rt Tryz.results95 rfl

end Go.Proofs
end
section
set_option linter.unusedVariables false
set_option maxHeartbeats 1000000
set_option linter.unusedSimpArgs false
set_option maxRecDepth 100000
namespace Go.Proofs
open Go.Dk Go.Dm Go.RowKit

theorem zfz (x_s : Str) (R : Str) (w0 : World) (hG : zr w0) (hm : zcB x_s = some R) :
    Calls Tryz.prog 62 #[str x_s] w0 (Ret w0 (fun R => str R) R) := by
 rw [zcB] at hm
 have hF : zC [] := ze
 have hO : Dk.Own w0 [] w0 [] := Dk.Own.refl w0
 refine S.enter tb Tryz.func62 rfl Tryz.ntmps62 rfl ?_ hO hm
 refine lv [0] [] (fun J E L k => ∃ (s4 : Str) (i5 : Int), J ((3, str s4) :: (4, int i5) :: E) (L) (zX x_s k s4 i5)) rfl (fun _ _ j => ⟨[], 0, j rfl⟩) ?_
 rintro n1 a w ⟨s4, i5, hf, hO, hm⟩
 obtain _ | n1 := n1
 rw [zX] at hm
 cases hm
 rw [zX] at hm
 refine S.co tb ?_ hf hO hm
 refine br rfl (fun hc7 => ?_) fun hc7 => ?_
 refine bi rfl fun i9 hi9 => ?_
 refine bi rfl fun s10 hs10 => ?_
 refine lv [0, 3, 4] [] (fun J E L k => ∃ (s13 : Str) (i14 : Int), J ((5, str s13) :: (6, int i14) :: E) (L) (zW (zX x_s n1) x_s s4 i5 k s13 i14)) rfl (fun _ _ j => ⟨s10, 0, j rfl⟩) ?_
 rintro n2 a w ⟨s13, i14, hf, hO, hm⟩
 obtain _ | n2 := n2
 rw [zW] at hm
 cases hm
 rw [zW] at hm
 refine S.co tb ?_ hf hO hm
 refine br rfl (fun hc16 => ?_) fun hc16 => ?_
 refine jv 8 [0, 3, 4, 6] [] (fun J E L => ∃ (s24 : Str), J ((5, str s24) :: E) (L) (zbW (zW (zX x_s n1) x_s s4 i5 n2) i14 s24)) rfl ?_ ?_
 refine rc_ rfl fun a w hf hO hm => ?_
 refine zbV (by kernel_rfl) (by kernel_rfl) hO ?_
 refine zk (fun w hO => zs hf rfl) rfl hf rfl rfl fun a hf => ?_
 obtain ⟨b18, hb18, hm⟩ := ob hm
 refine zk (fun w hO => zfm (l := [65, 66, 67, 68, 69, 70, 71, 72, 73, 74, 75, 76, 77, 78, 79, 80, 81, 82, 83, 84, 85, 86, 87, 88, 89, 90]) Tryz.underlying9 hf rfl rfl hb18) rfl hf rfl rfl fun a hf => ?_
 refine zk (fun w hO => zs hf rfl) rfl hf rfl rfl fun a hf => ?_
 refine zk (fun w hO => zs hf rfl) rfl hf rfl rfl fun a hf => ?_
 obtain ⟨b19, hb19, hm⟩ := ob hm
 refine zk (fun w hO => zfm (l := x_s) Tryz.underlying9 hf rfl rfl hb19) rfl hf rfl rfl fun a hf => ?_
 refine zk (fun w hO => zJ (b := b18) (c := b19) hf rfl rfl) rfl hf rfl rfl fun a hf => ?_
 refine wpQuiet_nil ?_
 intro w hO
 refine S.no tb ?_ hf hO hm
 refine br rfl (fun hc21 => ?_) fun hc21 => ?_
 refine bi rfl fun i22 hi22 => ?_
 refine bi rfl fun s23 hs23 => ?_
 exact en rfl fun _ _ j => ⟨s23, j rfl⟩
 exact en rfl fun _ _ j => ⟨s13, j rfl⟩
 rintro a w ⟨s24, hf, hO, hm⟩
 rw [zbW] at hm
 refine S.co tb ?_ hf hO hm
 refine bi rfl fun i25 hi25 => ?_
 exact en rfl fun _ _ j => ⟨_, Nat.lt_succ_self _, s24, i25, j rfl⟩
 refine bi rfl fun s27 hs27 => ?_
 refine bi rfl fun i29 hi29 => ?_
 exact en rfl fun _ _ j => ⟨_, Nat.lt_succ_self _, s27, i29, j rfl⟩
 exact rt Tryz.results62 rfl

theorem zdv (x_b : UInt8) (R : Bool) (w0 : World) (hG : zr w0) (hm : zbE x_b = some R) :
    Calls Tryz.prog 64 #[zH x_b] w0 (Ret w0 (fun R => .bool R) R) := by
 rw [zbE] at hm
 have hF : zC [] := ze
 have hO : Dk.Own w0 [] w0 [] := Dk.Own.refl w0
 refine S.enter tb Tryz.func64 rfl Tryz.ntmps64 rfl ?_ hO hm
 refine jv 0 [] [] (fun J E L => ∃ (t3 : Bool), J ((2, .bool t3) :: E) (L) (zcp t3)) rfl ?_ ?_
 refine vl rfl rfl (fun a w hf hO => zJ (b := x_b) (c := 32) hf rfl rfl) ?_
 refine br rfl (fun hc2 => ?_) fun hc2 => ?_
 exact en rfl fun _ _ j => ⟨true, j rfl⟩
 refine vl rfl rfl (fun a w hf hO => zJ (b := x_b) (c := 9) hf rfl rfl) ?_
 exact en rfl fun _ _ j => ⟨x_b == 9, j rfl⟩
 rintro a w ⟨t3, hf, hO, hm⟩
 rw [zcp] at hm
 refine S.co tb ?_ hf hO hm
 exact rt Tryz.results64 rfl

theorem zh9 (x_a : List api_Field) (x_b : List api_Field) (R : Bool) (w0 : World) (hG : zr w0) {x_a_p0 : Option Addr} {x_a_c0 : Nat} (hs0 : zF w0 x_a_p0 (cells za x_a)) (hc0 : x_a.length ≤ x_a_c0) {x_b_p1 : Option Addr} {x_b_c1 : Nat} (hs1 : zF w0 x_b_p1 (cells za x_b)) (hc1 : x_b.length ≤ x_b_c1) (hm : ze8 x_a x_b = some R) :
    Calls Tryz.prog 12 #[.slice x_a_p0 x_a.length x_a_c0, .slice x_b_p1 x_b.length x_b_c1] w0 (Ret w0 (fun R => .bool R) R) := by
 rw [ze8] at hm
 have hF : zC [] := ze
 have hO : Dk.Own w0 [] w0 [] := Dk.Own.refl w0
 have hO := hO.addShr hs0 (by simp [Res.shared])
 have hO := hO.addShr hs1 (by simp [Res.shared])
 refine S.enter tb Tryz.func12 rfl Tryz.ntmps12 rfl ?_ hO hm
 refine br rfl (fun hc3 => ?_) fun hc3 => ?_
 exact rt Tryz.results12 rfl
 refine lv [0, 1] [0, 1] (fun J E L k => ∃ (i7 : Int), J ((5, int i7) :: E) (L) (zbX x_a x_b k i7)) rfl (fun _ _ j => ⟨0, j rfl⟩) ?_
 rintro n1 a w ⟨i7, hf, hO, hm⟩
 obtain _ | n1 := n1
 rw [zbX] at hm
 cases hm
 rw [zbX] at hm
 refine S.co tb ?_ hf hO hm
 refine br rfl (fun hc9 => ?_) fun hc9 => ?_
 refine rc_ rfl fun a w hf hO hm => ?_
 refine zbV (by kernel_rfl) (by kernel_rfl) hO ?_
 refine zk (fun w hO => zs hf rfl) rfl hf rfl rfl fun a hf => ?_
 refine zk (fun w hO => zs hf rfl) rfl hf rfl rfl fun a hf => ?_
 obtain ⟨x11, hx11, hm⟩ := ob hm
 obtain ⟨b12, o13, hix11, hSx11⟩ := zcP (enc := za) (sz := 2) (xs := x_a) 24 Tryz.underlying24 zge (by decide) (fun _ => rfl) (hO.sees (i := 1) rfl) hx11
 refine zk (fun w hO => zm hix11 hf rfl rfl) rfl hf rfl rfl fun a hf => ?_
 refine zk (fun w hO => zcG (o := 0) (vs := [str x11.Name, str x11.Value]) zkv zge (hSx11 _ (hO.sees (i := 1) rfl)) rfl rfl hf rfl) rfl hf rfl rfl fun a hf => ?_
 refine zk (fun w hO => zs hf rfl) rfl hf rfl rfl fun a hf => ?_
 refine zk (fun w hO => zs hf rfl) rfl hf rfl rfl fun a hf => ?_
 obtain ⟨x14, hx14, hm⟩ := ob hm
 obtain ⟨b15, o16, hix14, hSx14⟩ := zcP (enc := za) (sz := 2) (xs := x_b) 24 Tryz.underlying24 zge (by decide) (fun _ => rfl) (hO.sees (i := 0) rfl) hx14
 refine zk (fun w hO => zm hix14 hf rfl rfl) rfl hf rfl rfl fun a hf => ?_
 refine zk (fun w hO => zcG (o := 0) (vs := [str x14.Name, str x14.Value]) zkv zge (hSx14 _ (hO.sees (i := 0) rfl)) rfl rfl hf rfl) rfl hf rfl rfl fun a hf => ?_
 refine zk (fun w hO => ziu (by kernel_rfl) (eq_71 x11 x14) hf rfl rfl) rfl hf rfl rfl fun a hf => ?_
 refine wpQuiet_nil ?_
 intro w hO
 refine S.no tb ?_ hf hO hm
 refine br rfl (fun hc18 => ?_) fun hc18 => ?_
 exact rt Tryz.results12 rfl
 refine bi rfl fun i21 hi21 => ?_
 exact en rfl fun _ _ j => ⟨_, Nat.lt_succ_self _, i21, j rfl⟩
 exact rt Tryz.results12 rfl

end Go.Proofs
end
section
set_option linter.unusedVariables false
set_option maxHeartbeats 1000000
set_option linter.unusedSimpArgs false
set_option maxRecDepth 100000
namespace Go.Proofs
open Go.Dk Go.Dm Go.RowKit

theorem zf0 (x_client : Str) (R : Str) (w0 : World) (hG : za6 w0) (hm : zdb x_client = some R) :
    Calls Tryz.prog 24 #[str x_client] w0 (Ret w0 (fun R => str R) R) := by
 rw [zdb] at hm
 have hF : zC [] := ze
 have hO : Dk.Own w0 [] w0 [] := Dk.Own.refl w0
 refine S.enter tb Tryz.func24 rfl Tryz.ntmps24 rfl ?_ hO hm
 refine cl c_47 rfl (fun r2 w hr2 hO => zd6 x_client r2 _ (hG.own hF hO) hr2) fun r2 hr2 => ?_
 refine br rfl (fun hc4 => ?_) fun hc4 => ?_
 exact rt Tryz.results24 rfl
 refine cl c_48 rfl (fun r6 w hr6 hO => zg5 x_client r6 _ (hG.own hF hO) hr6) fun r6 hr6 => ?_
 refine br rfl (fun hc8 => ?_) fun hc8 => ?_
 refine bi rfl fun s9 hs9 => ?_
 refine bi rfl fun s10 hs10 => ?_
 exact rt Tryz.results24 rfl
 exact rt Tryz.results24 rfl

theorem zf1 (x_env : api_Env) (R : List api_Param) (w0 : World) (hG : za6 w0) {x_env_p0 : Option Addr} {x_env_c0 : Nat} (hs0 : zF w0 x_env_p0 (cells zbL x_env.Domains)) (hc0 : x_env.Domains.length ≤ x_env_c0) {x_env_p1 : Option Addr} {x_env_c1 : Nat} (hs1 : zF w0 x_env_p1 (cells zbL x_env.Locations)) (hc1 : x_env.Locations.length ≤ x_env_c1) (hm : zdc x_env = some R) :
    Calls Tryz.prog 19 #[.agg #[str x_env.Client, str x_env.Host, str x_env.Scheme, str x_env.By, .slice x_env_p0 x_env.Domains.length x_env_c0, .slice x_env_p1 x_env.Locations.length x_env_c1]] w0 fun e w' => ∃ (p0 : Option Addr) (c0 : Nat), e = .returned (.slice p0 R.length c0) ∧ Dk.Own w0 [] w' [.row (.slice p0 R.length c0) 57 2 R.length (cells zc R)] := by
 rw [zdc] at hm
 have hF : zC [] := ze
 have hO : Dk.Own w0 [] w0 [] := Dk.Own.refl w0
 have hO := hO.addShr hs0 (by simp [Res.shared])
 have hO := hO.addShr hs1 (by simp [Res.shared])
 refine S.enter tb Tryz.func19 rfl Tryz.ntmps19 rfl ?_ hO hm
 refine bo rfl fun b1 => ?_
 refine nl 57 2 ?_
 refine ld 1 rfl rfl ?_
 refine cl c_24 rfl (fun r3 w hr3 hO => zf0 x_env.Client r3 _ (hG.own hF hO) hr3) fun r3 hr3 => ?_
 refine vl rfl rfl (fun a w hf hO => zaT (vs := [(0, str [102, 111, 114]), (1, str r3)]) (v := .agg #[str [102, 111, 114], str r3]) hf rfl (by kernel_rfl)) ?_
 refine rw_ rfl fun a w hf hO hm => ?_
 refine zi (vs := [(0, .agg #[str [102, 111, 114], str r3])]) (cs := [str [102, 111, 114], str r3]) (e := 57) (sz := 2) hf rfl rfl (fun w => by kernel_rfl) rfl rfl hO fun a b4 w hf hO => ?_
 refine S.op tb ?_ hf hO hm
 refine jv 0 [1] [1, 2, 3, 4] (fun J E L => ∃ (p12 : Option Addr) (c13 : Nat) (l14 : List api_Param), J ((3, .slice p12 l14.length c13) :: E) (.row (.slice p12 l14.length c13) 57 2 l14.length (cells zc l14) :: L) (zby x_env l14)) rfl ?_ ?_
 refine ld 2 rfl rfl ?_
 refine br rfl (fun hc7 => ?_) fun hc7 => ?_
 refine ld 2 rfl rfl ?_
 refine vl rfl rfl (fun a w hf hO => zaT (vs := [(0, str [104, 111, 115, 116]), (1, str x_env.Host)]) (v := .agg #[str [104, 111, 115, 116], str x_env.Host]) hf rfl (by kernel_rfl)) ?_
 refine rw_ rfl fun a w hf hO hm => ?_
 refine zi (vs := [(0, .agg #[str [104, 111, 115, 116], str x_env.Host])]) (cs := [str [104, 111, 115, 116], str x_env.Host]) (e := 57) (sz := 2) hf rfl rfl (fun w => by kernel_rfl) rfl rfl hO fun a b8 w hf hO => ?_
 refine S.op tb ?_ hf hO hm
 refine rw_ rfl fun a w hf hO hm => ?_
 obtain ⟨hg11, hm⟩ := og hm
 refine zak zjd (enc := zc) (xs := [(⟨[102, 111, 114], r3⟩ : api_Param)]) (ys := [(⟨[104, 111, 115, 116], x_env.Host⟩ : api_Param)]) (i := 1) (fun _ => rfl) rfl (hO.rowSees (i := 0) rfl) (by simp [cells, zc, Value.oneCell']) hg11 hf rfl rfl rfl hO fun a p9 c10 w hf hO => ?_
 refine S.op tb ?_ hf hO hm
 exact ec [1, 2, 3, 4, 5] rfl rfl rfl fun _ _ j => ⟨p9, c10, ([(⟨[102, 111, 114], r3⟩ : api_Param)]) ++ [(⟨[104, 111, 115, 116], x_env.Host⟩ : api_Param)], j rfl⟩
 exact en rfl fun _ _ j => ⟨some ⟨b4, 0, none⟩, 1, [(⟨[102, 111, 114], r3⟩ : api_Param)], j rfl⟩
 rintro a w ⟨p12, c13, l14, hf, hO, hm⟩
 rw [zby] at hm
 refine S.co tb ?_ hf hO hm
 refine jv 0 [] [1, 2, 3, 4] (fun J E L => ∃ (p21 : Option Addr) (c22 : Nat) (l23 : List api_Param), J ((3, .slice p21 l23.length c22) :: E) (.row (.slice p21 l23.length c22) 57 2 l23.length (cells zc l23) :: L) (zbx l23)) rfl ?_ ?_
 refine ld 2 rfl rfl ?_
 refine br rfl (fun hc16 => ?_) fun hc16 => ?_
 refine ld 2 rfl rfl ?_
 refine vl rfl rfl (fun a w hf hO => zaT (vs := [(0, str [112, 114, 111, 116, 111]), (1, str x_env.Scheme)]) (v := .agg #[str [112, 114, 111, 116, 111], str x_env.Scheme]) hf rfl (by kernel_rfl)) ?_
 refine rw_ rfl fun a w hf hO hm => ?_
 refine zi (vs := [(0, .agg #[str [112, 114, 111, 116, 111], str x_env.Scheme])]) (cs := [str [112, 114, 111, 116, 111], str x_env.Scheme]) (e := 57) (sz := 2) hf rfl rfl (fun w => by kernel_rfl) rfl rfl hO fun a b17 w hf hO => ?_
 refine S.op tb ?_ hf hO hm
 refine rw_ rfl fun a w hf hO hm => ?_
 obtain ⟨hg20, hm⟩ := og hm
 refine zak zjd (enc := zc) (xs := l14) (ys := [(⟨[112, 114, 111, 116, 111], x_env.Scheme⟩ : api_Param)]) (i := 1) (fun _ => rfl) rfl (hO.rowSees (i := 0) rfl) (by simp [cells, zc, Value.oneCell']) hg20 hf rfl rfl rfl hO fun a p18 c19 w hf hO => ?_
 refine S.op tb ?_ hf hO hm
 exact ec [1, 2, 3, 4, 5] rfl rfl rfl fun _ _ j => ⟨p18, c19, l14 ++ [(⟨[112, 114, 111, 116, 111], x_env.Scheme⟩ : api_Param)], j rfl⟩
 exact en rfl fun _ _ j => ⟨p12, c13, l14, j rfl⟩
 rintro a w ⟨p21, c22, l23, hf, hO, hm⟩
 rw [zbx] at hm
 refine S.co tb ?_ hf hO hm
 refine re_ rfl fun a w hf hO hm => ?_
 obtain rfl := Option.some.inj hm
 exact zh Tryz.results19 hf (.tmp rfl .nil) ⟨p21, c22, rfl, (hO.sub (.cons_cons _ (.cons _ (.cons _ (.cons _ (.cons _ .slnil))))))⟩

theorem zhb (x_s : Str) (R : Str × Int) (w0 : World) (hG : zr w0) (hm : zd2 x_s = some R) :
    Calls Tryz.prog 123 #[str x_s] w0 (Ret w0 (fun R => .tuple #[str R.1, int R.2]) R) := by
 rw [zd2] at hm
 have hF : zC [] := ze
 have hO : Dk.Own w0 [] w0 [] := Dk.Own.refl w0
 refine S.enter tb Tryz.func123 rfl Tryz.ntmps123 rfl ?_ hO hm
 refine rw_ rfl fun a w hf hO hm => ?_
 refine zi (vs := [(0, str x_s)]) (cs := [str x_s]) (e := 9) (sz := 1) hf rfl rfl (fun w => by kernel_rfl) rfl rfl hO fun a b2 w hf hO => ?_
 refine S.op tb ?_ hf hO hm
 refine cl zjf rfl (fun r3 w hr3 hO => zdk za2 ([x_s] : List Str) r3 _ (hG.own hF hO) c_144 (fun y0 r w hG h => zfT (zec y0 r w hG h)) (hO.rowSees (i := 0) rfl) (hO.rowCap (i := 0) rfl) hr3) fun r3 hr3 => ?_
 refine br rfl (fun hc5 => ?_) fun hc5 => ?_
 exact rt Tryz.results123 rfl
 refine rw_ rfl fun a w hf hO hm => ?_
 refine zi (vs := [(0, zH 34)]) (cs := [zH 34]) (e := 5) (sz := 1) hf rfl rfl (fun w => by kernel_rfl) rfl rfl hO fun a b8 w hf hO => ?_
 refine S.op tb ?_ hf hO hm
 refine lv [0, 12] [1] (fun J E L k => ∃ (p11 : Option Addr) (c12 : Nat) (l13 : List UInt8) (i14 : Int), J ((4, .slice p11 l13.length c12) :: (13, int i14) :: E) (.row (.slice p11 l13.length c12) 5 1 l13.length (cells zK l13) :: L) (zag x_s k l13 i14)) rfl (fun _ _ j => ⟨some ⟨b8, 0, none⟩, 1, [34], 0, j rfl⟩) ?_
 rintro n1 a w ⟨p11, c12, l13, i14, hf, hO, hm⟩
 obtain _ | n1 := n1
 rw [zag] at hm
 cases hm
 rw [zag] at hm
 refine S.co tb ?_ hf hO hm
 refine br rfl (fun hc16 => ?_) fun hc16 => ?_
 refine jv 5 [0, 5, 12, 13] [1] (fun J E L => ∃ (p28 : Option Addr) (c29 : Nat) (l30 : List UInt8), J ((4, .slice p28 l30.length c29) :: E) (.row (.slice p28 l30.length c29) 5 1 l30.length (cells zK l30) :: L) (zb5 (zag x_s n1) x_s i14 l30)) rfl ?_ ?_
 refine jv 6 [0, 4, 5, 12, 13] [0, 1] (fun J E L => ∃ (t22 : Bool), J ((25, .bool t22) :: E) (L) (zb6 (zag x_s n1) x_s l13 i14 t22)) rfl ?_ ?_
 refine bi rfl fun b19 hb19 => ?_
 refine vl rfl rfl (fun a w hf hO => zJ (b := b19) (c := 34) hf rfl rfl) ?_
 refine br rfl (fun hc20 => ?_) fun hc20 => ?_
 exact en rfl fun _ _ j => ⟨true, j rfl⟩
 refine bi rfl fun b21 hb21 => ?_
 refine vl rfl rfl (fun a w hf hO => zJ (b := b21) (c := 92) hf rfl rfl) ?_
 exact en rfl fun _ _ j => ⟨b21 == 92, j rfl⟩
 rintro a w ⟨t22, hf, hO, hm⟩
 rw [zb6] at hm
 refine S.co tb ?_ hf hO hm
 refine br rfl (fun hc23 => ?_) fun hc23 => ?_
 refine rw_ rfl fun a w hf hO hm => ?_
 refine zi (vs := [(0, zH 92)]) (cs := [zH 92]) (e := 5) (sz := 1) hf rfl rfl (fun w => by kernel_rfl) rfl rfl hO fun a b24 w hf hO => ?_
 refine S.op tb ?_ hf hO hm
 refine rw_ rfl fun a w hf hO hm => ?_
 obtain ⟨hg27, hm⟩ := og hm
 refine zak zh2 (enc := zK) (xs := l13) (ys := [92]) (i := 1) (fun _ => rfl) rfl (hO.rowSees (i := 0) rfl) (by simp [cells, zK, Value.oneCell']) hg27 hf rfl rfl rfl hO fun a p25 c26 w hf hO => ?_
 refine S.op tb ?_ hf hO hm
 exact ec [1, 2] rfl rfl rfl fun _ _ j => ⟨p25, c26, l13 ++ [92], j rfl⟩
 exact en rfl fun _ _ j => ⟨p11, c12, l13, j rfl⟩
 rintro a w ⟨p28, c29, l30, hf, hO, hm⟩
 rw [zb5] at hm
 refine S.co tb ?_ hf hO hm
 refine bi rfl fun b31 hb31 => ?_
 refine rw_ rfl fun a w hf hO hm => ?_
 refine zi (vs := [(0, zH b31)]) (cs := [zH b31]) (e := 5) (sz := 1) hf rfl rfl (fun w => by kernel_rfl) rfl rfl hO fun a b32 w hf hO => ?_
 refine S.op tb ?_ hf hO hm
 refine rw_ rfl fun a w hf hO hm => ?_
 obtain ⟨hg35, hm⟩ := og hm
 refine zak zh2 (enc := zK) (xs := l30) (ys := [b31]) (i := 1) (fun _ => rfl) rfl (hO.rowSees (i := 0) rfl) (by simp [cells, zK, Value.oneCell']) hg35 hf rfl rfl rfl hO fun a p33 c34 w hf hO => ?_
 refine S.op tb ?_ hf hO hm
 refine bi rfl fun i37 hi37 => ?_
 exact ec [1, 2] rfl rfl rfl fun _ _ j => ⟨_, Nat.lt_succ_self _, p33, c34, l30 ++ [b31], i37, j rfl⟩
 refine rw_ rfl fun a w hf hO hm => ?_
 refine zi (vs := [(0, zH 34)]) (cs := [zH 34]) (e := 5) (sz := 1) hf rfl rfl (fun w => by kernel_rfl) rfl rfl hO fun a b39 w hf hO => ?_
 refine S.op tb ?_ hf hO hm
 refine rw_ rfl fun a w hf hO hm => ?_
 obtain ⟨hg42, hm⟩ := og hm
 refine zak zh2 (enc := zK) (xs := l13) (ys := [34]) (i := 1) (fun _ => rfl) rfl (hO.rowSees (i := 0) rfl) (by simp [cells, zK, Value.oneCell']) hg42 hf rfl rfl rfl hO fun a p40 c41 w hf hO => ?_
 refine S.op tb ?_ hf hO hm
 refine vl rfl rfl (fun a w hf hO => zgV (en := zK) (l := l13 ++ [34]) (fun _ => rfl) Tryz.underlying9 Tryz.underlying159 Tryz.underlying5 (hO.rowSees (i := 1) rfl) hf rfl) ?_
 exact rt Tryz.results123 rfl

theorem zgr (x_s : Str) (R : Str × Int) (w0 : World) (hG : zr w0) (hm : zdA x_s = some R) :
    Calls Tryz.prog 87 #[str x_s] w0 (Ret w0 (fun R => .tuple #[str R.1, int R.2]) R) := by
 rw [zdA] at hm
 have hF : zC [] := ze
 have hO : Dk.Own w0 [] w0 [] := Dk.Own.refl w0
 refine S.enter tb Tryz.func87 rfl Tryz.ntmps87 rfl ?_ hO hm
 refine cl c_88 rfl (fun r2 w hr2 hO => zeL x_s r2 _ (hG.own hF hO) hr2) fun r2 hr2 => ?_
 refine br rfl (fun hc4 => ?_) fun hc4 => ?_
 exact rt Tryz.results87 rfl
 refine cl c_123 rfl (fun r7 w hr7 hO => zhb x_s r7 _ (hG.own hF hO) hr7) fun r7 hr7 => ?_
 exact rt Tryz.results87 rfl

theorem zhw (x_l : List api_Param) (R : Str × Int) (w0 : World) (hG : zr w0) {x_l_p0 : Option Addr} {x_l_c0 : Nat} (hs0 : zF w0 x_l_p0 (cells zc x_l)) (hc0 : x_l.length ≤ x_l_c0) (hm : zeA x_l = some R) :
    Calls Tryz.prog 52 #[.slice x_l_p0 x_l.length x_l_c0] w0 (Ret w0 (fun R => .tuple #[str R.1, int R.2]) R) := by
 rw [zeA] at hm
 have hF : zC [] := ze
 have hO : Dk.Own w0 [] w0 [] := Dk.Own.refl w0
 have hO := hO.addShr hs0 (by simp [Res.shared])
 refine S.enter tb Tryz.func52 rfl Tryz.ntmps52 rfl ?_ hO hm
 refine nl 9 1 ?_
 refine lv [9, 10] [1] (fun J E L k => ∃ (p4 : Option Addr) (c5 : Nat) (l6 : List Str) (i7 : Int), J ((4, .slice p4 l6.length c5) :: (11, int i7) :: E) (.row (.slice p4 l6.length c5) 9 1 l6.length (cells zd l6) :: L) (zaJ x_l k l6 i7)) rfl (fun _ _ j => ⟨none, 0, [], 0, j rfl⟩) ?_
 rintro n1 a w ⟨p4, c5, l6, i7, hf, hO, hm⟩
 obtain _ | n1 := n1
 rw [zaJ] at hm
 cases hm
 rw [zaJ] at hm
 refine S.co tb ?_ hf hO hm
 refine br rfl (fun hc9 => ?_) fun hc9 => ?_
 refine rw_ rfl fun a w hf hO hm => ?_
 obtain ⟨x11, hx11, hm⟩ := ob hm
 obtain ⟨b12, o13, hix11, hSx11⟩ := zcP (enc := zc) (sz := 2) (xs := x_l) 49 Tryz.underlying49 zcU (by decide) (fun _ => rfl) (hO.sees (i := 1) rfl) hx11
 refine zbA (zm hix11 hf rfl rfl) rfl hf rfl rfl fun a hf => ?_
 refine S.op tb ?_ hf hO hm
 refine vl rfl rfl (fun a w hf hO => zcG (o := 0) (vs := [str x11.Name, str x11.Value]) zgd zcU (hSx11 _ (hO.sees (i := 1) rfl)) rfl rfl hf rfl) ?_
 refine al zix rfl fun b14 => ?_
 refine st 0 rfl rfl ?_
 refine ld 0 rfl rfl ?_
 refine cl c_87 rfl (fun r16 w hr16 hO => zgr x11.Value r16 _ (hG.own hF hO) hr16) fun r16 hr16 => ?_
 refine jv 6 [4, 6, 7, 9, 10, 11] [0, 1, 2] (fun J E L => ∃ (t20 : Bool), J ((28, .bool t20) :: E) (L) (zcq (zaJ x_l n1) l6 i7 x11 r16 t20)) rfl ?_ ?_
 refine br rfl (fun hc18 => ?_) fun hc18 => ?_
 exact en rfl fun _ _ j => ⟨true, j rfl⟩
 refine ld 0 rfl rfl ?_
 refine cl c_88 rfl (fun r19 w hr19 hO => zeL x11.Name r19 _ (hG.own hF hO) hr19) fun r19 hr19 => ?_
 exact en rfl fun _ _ j => ⟨!r19, j rfl⟩
 rintro a w ⟨t20, hf, hO, hm⟩
 rw [zcq] at hm
 refine S.co tb ?_ hf hO hm
 refine br rfl (fun hc21 => ?_) fun hc21 => ?_
 exact rt Tryz.results52 rfl
 refine ld 0 rfl rfl ?_
 refine bi rfl fun s24 hs24 => ?_
 refine bi rfl fun s25 hs25 => ?_
 refine rw_ rfl fun a w hf hO hm => ?_
 refine zi (vs := [(0, str s25)]) (cs := [str s25]) (e := 9) (sz := 1) hf rfl rfl (fun w => by kernel_rfl) rfl rfl hO fun a b26 w hf hO => ?_
 refine S.op tb ?_ hf hO hm
 refine rw_ rfl fun a w hf hO hm => ?_
 obtain ⟨hg29, hm⟩ := og hm
 refine zak zhP (enc := zd) (xs := l6) (ys := ([s25] : List Str)) (i := 2) (fun _ => rfl) rfl (hO.rowSees (i := 0) rfl) (by simp [cells, zd, Value.oneCell']) hg29 hf rfl rfl rfl hO fun a p27 c28 w hf hO => ?_
 refine S.op tb ?_ hf hO hm
 refine bi rfl fun i31 hi31 => ?_
 exact ec [2, 3] rfl rfl rfl fun _ _ j => ⟨_, Nat.lt_succ_self _, p27, c28, l6 ++ ([s25] : List Str), i31, j rfl⟩
 refine br rfl (fun hc34 => ?_) fun hc34 => ?_
 exact rt Tryz.results52 rfl
 refine cl c_53 rfl (fun r37 w hr37 hO => zfA [59] l6 r37 _ (hG.own hF hO) (hO.rowSees (i := 0) rfl) (hO.rowCap (i := 0) rfl) hr37) fun r37 hr37 => ?_
 exact rt Tryz.results52 rfl

theorem ze4 (x_env : api_Env) (x_l : List api_Field) (R : List api_Field × Int) (w0 : World) (hG : za6 w0) {x_env_p0 : Option Addr} {x_env_c0 : Nat} (hs0 : zF w0 x_env_p0 (cells zbL x_env.Domains)) (hc0 : x_env.Domains.length ≤ x_env_c0) {x_env_p1 : Option Addr} {x_env_c1 : Nat} (hs1 : zF w0 x_env_p1 (cells zbL x_env.Locations)) (hc1 : x_env.Locations.length ≤ x_env_c1) {x_l_p2 : Option Addr} {x_l_c2 : Nat} (hs2 : zF w0 x_l_p2 (cells za x_l)) (hc2 : x_l.length ≤ x_l_c2) (hm : zcC x_env x_l = some R) :
    Calls Tryz.prog 29 #[.agg #[str x_env.Client, str x_env.Host, str x_env.Scheme, str x_env.By, .slice x_env_p0 x_env.Domains.length x_env_c0, .slice x_env_p1 x_env.Locations.length x_env_c1], .slice x_l_p2 x_l.length x_l_c2] w0 fun e w' => ∃ (p0 : Option Addr) (c0 : Nat), e = .returned (.tuple #[.slice p0 R.1.length c0, int R.2]) ∧ Dk.Own w0 [] w' [.row (.slice p0 R.1.length c0) 71 2 R.1.length (cells za R.1)] := by
 rw [zcC] at hm
 have hF : zC [] := ze
 have hO : Dk.Own w0 [] w0 [] := Dk.Own.refl w0
 have hO := hO.addShr hs0 (by simp [Res.shared])
 have hO := hO.addShr hs1 (by simp [Res.shared])
 have hO := hO.addShr hs2 (by simp [Res.shared])
 refine S.enter tb Tryz.func29 rfl Tryz.ntmps29 rfl ?_ hO hm
 refine bo rfl fun b1 => ?_
 refine nl 71 2 ?_
 refine ld 1 rfl rfl ?_
 refine rw_ rfl fun a w hf hO hm => ?_
 obtain ⟨r3, hr3, hm⟩ := ob hm
 refine zj (zl c_19 hf (vs := [.agg #[str x_env.Client, str x_env.Host, str x_env.Scheme, str x_env.By, .slice x_env_p0 x_env.Domains.length x_env_c0, .slice x_env_p1 x_env.Locations.length x_env_c1]]) rfl) rfl hf rfl rfl (zf1 x_env r3 _ (hG.own hF hO) (hO.sees (i := 4) rfl) hc0 (hO.sees (i := 3) rfl) hc1 hr3) ?_
 rintro e w' ⟨p4, c5, he, hO'⟩
 refine ⟨_, he, fun a hf => ?_⟩
 have hO := hO.call hO' (by simp [Res.shared])
 refine S.op tb ?_ hf hO hm
 refine cl c_52 rfl (fun r6 w hr6 hO => zhw r3 r6 _ (hG.own hF hO).1 (hO.rowSees (i := 0) rfl) (hO.rowCap (i := 0) rfl) hr6) fun r6 hr6 => ?_
 refine br rfl (fun hc9 => ?_) fun hc9 => ?_
 refine nl 71 2 ?_
 refine re_ rfl fun a w hf hO hm => ?_
 obtain rfl := Option.some.inj hm
 exact zh Tryz.results29 hf (.tmp rfl (.tmp rfl .nil)) ⟨none, 0, rfl, (hO.sub (.cons_cons _ (.cons _ (.cons _ (.cons _ (.cons _ (.cons _ (.cons _ .slnil))))))))⟩
 refine rw_ rfl fun a w hf hO hm => ?_
 obtain ⟨r12, hr12, hm⟩ := ob hm
 refine zj (zl c_32 hf (vs := [.slice x_l_p2 x_l.length x_l_c2]) rfl) rfl hf rfl rfl (zjP x_l r12 _ (hG.own hF hO).1 (hO.sees (i := 3) rfl) hc2 hr12) ?_
 rintro e w' ⟨b13, p14, c15, he, hO'⟩
 refine ⟨_, he, fun a hf => ?_⟩
 have hO := hO.call hO' (by simp [Res.shared])
 refine S.op tb ?_ hf hO hm
 refine rw_ rfl fun a w hf hO hm => ?_
 obtain ⟨r17, hr17, hm⟩ := ob hm
 have hch20 := (show Dk.Own w0 [] _ ([.blk b13 [.slice p14 r12.f_l.length c15] 100, .row (.slice p14 r12.f_l.length c15) 71 2 r12.f_l.length (cells za r12.f_l)] ++ [.row (.slice p4 r3.length c5) 57 2 r3.length (cells zc r3), .row (.slice none 0 0) 71 2 0 (cells za []), .blk b1 [str x_env.Client, str x_env.Host, str x_env.Scheme, str x_env.By, .slice x_env_p0 x_env.Domains.length x_env_c0, .slice x_env_p1 x_env.Locations.length x_env_c1] 47, .shr x_l_p2 (cells za x_l), .shr x_env_p1 (cells zbL x_env.Locations), .shr x_env_p0 (cells zbL x_env.Domains)]) from hO)
 have hfar20 := Dk.Own.far hch20 rfl hF hG.size
 have hlend20 := hch20.lend (S := []) rfl trivial
 have hcl20 := zf2 r12 [70, 111, 114, 119, 97, 114, 100, 101, 100] r6.1 r17 _ (hG.own hF hO).1 hfar20 hlend20 hr17
 refine zj (zl c_33 hf (vs := [ptr b13 0, str [70, 111, 114, 119, 97, 114, 100, 101, 100], str r6.1]) rfl) rfl hf rfl rfl (hcl20) ?_
 rintro e w' ⟨p18, c19, he, hO'⟩
 refine ⟨_, he, fun a hf => ?_⟩
 have hO := hch20.back rfl hO' rfl
 refine S.op tb ?_ hf hO hm
 refine rw_ rfl fun a w hf hO hm => ?_
 obtain ⟨r22, hr22, hm⟩ := ob hm
 refine zj (zl c_34 hf (vs := [ptr b13 0]) rfl) rfl hf rfl rfl (zgU r17 r22 _ (hG.own hF hO).1 (hO.blkSees (i := 0) rfl) (hO.rowSees (i := 1) rfl) (hO.rowCap (i := 1) rfl) hr22) ?_
 rintro e w' ⟨p23, c24, he, hO'⟩
 refine ⟨_, he, fun a hf => ?_⟩
 have hO := hO.call hO' (by simp [Res.shared])
 refine S.op tb ?_ hf hO hm
 refine re_ rfl fun a w hf hO hm => ?_
 obtain rfl := Option.some.inj hm
 exact zh Tryz.results29 hf (.tmp rfl (.tmp rfl .nil)) ⟨p23, c24, rfl, (hO.sub (.cons_cons _ (.cons _ (.cons _ (.cons _ (.cons _ (.cons _ (.cons _ (.cons _ (.cons _ .slnil))))))))))⟩

theorem zhx (R : Bool) (w0 : World) (hG : za6 w0) (hm : zds = some R) :
    Calls Tryz.prog 17 #[] w0 (Ret w0 (fun R => .bool R) R) := by
 rw [zds] at hm
 have hF : zC [] := ze
 have hO : Dk.Own w0 [] w0 [] := Dk.Own.refl w0
 refine S.enter tb Tryz.func17 rfl Tryz.ntmps17 rfl ?_ hO hm
 refine vl rfl rfl (fun a w hf hO => zaT (vs := [(0, str [58, 58, 49]), (1, str [97, 58, 56, 48]), (2, str [104, 116, 116, 112])]) (v := .agg #[str [58, 58, 49], str [97, 58, 56, 48], str [104, 116, 116, 112], str [], .slice none 0 0, .slice none 0 0]) hf rfl (by kernel_rfl)) ?_
 refine rw_ rfl fun a w hf hO hm => ?_
 obtain ⟨r2, hr2, hm⟩ := ob hm
 refine zj (zl c_29 hf (vs := [.agg #[str [58, 58, 49], str [97, 58, 56, 48], str [104, 116, 116, 112], str [], .slice none 0 0, .slice none 0 0], .slice none 0 0]) rfl) rfl hf rfl rfl (ze4 (⟨[58, 58, 49], [97, 58, 56, 48], [104, 116, 116, 112], [], [], []⟩ : api_Env) [] r2 _ (hG.own hF hO) (zF.nil _) (Nat.zero_le _) (zF.nil _) (Nat.zero_le _) (zF.nil _) (Nat.zero_le _) hr2) ?_
 rintro e w' ⟨p3, c4, he, hO'⟩
 refine ⟨_, he, fun a hf => ?_⟩
 have hO := hO.call hO' (by simp [Res.shared])
 refine S.op tb ?_ hf hO hm
 refine jv 0 [] [0] (fun J E L => ∃ (t9 : Bool), J ((0, .bool t9) :: E) (L) (zcr t9)) rfl ?_ ?_
 refine br rfl (fun hc6 => ?_) fun hc6 => ?_
 refine vl rfl rfl (fun a w hf hO => zaT (vs := [(0, str [70, 111, 114, 119, 97, 114, 100, 101, 100]), (1, str [102, 111, 114, 61, 34, 91, 58, 58, 49, 93, 34, 59, 104, 111, 115, 116, 61, 34, 97, 58, 56, 48, 34, 59, 112, 114, 111, 116, 111, 61, 104, 116, 116, 112])]) (v := .agg #[str [70, 111, 114, 119, 97, 114, 100, 101, 100], str [102, 111, 114, 61, 34, 91, 58, 58, 49, 93, 34, 59, 104, 111, 115, 116, 61, 34, 97, 58, 56, 48, 34, 59, 112, 114, 111, 116, 111, 61, 104, 116, 116, 112]]) hf rfl (by kernel_rfl)) ?_
 refine rw_ rfl fun a w hf hO hm => ?_
 refine zi (vs := [(0, .agg #[str [70, 111, 114, 119, 97, 114, 100, 101, 100], str [102, 111, 114, 61, 34, 91, 58, 58, 49, 93, 34, 59, 104, 111, 115, 116, 61, 34, 97, 58, 56, 48, 34, 59, 112, 114, 111, 116, 111, 61, 104, 116, 116, 112]])]) (cs := [str [70, 111, 114, 119, 97, 114, 100, 101, 100], str [102, 111, 114, 61, 34, 91, 58, 58, 49, 93, 34, 59, 104, 111, 115, 116, 61, 34, 97, 58, 56, 48, 34, 59, 112, 114, 111, 116, 111, 61, 104, 116, 116, 112]]) (e := 71) (sz := 2) hf rfl rfl (fun w => by kernel_rfl) rfl rfl hO fun a b7 w hf hO => ?_
 refine S.op tb ?_ hf hO hm
 refine kn (b' := true) hc6 rfl ?_
 refine cl c_12 rfl (fun r8 w hr8 hO => zh9 r2.1 ([(⟨[70, 111, 114, 119, 97, 114, 100, 101, 100], [102, 111, 114, 61, 34, 91, 58, 58, 49, 93, 34, 59, 104, 111, 115, 116, 61, 34, 97, 58, 56, 48, 34, 59, 112, 114, 111, 116, 111, 61, 104, 116, 116, 112]⟩ : api_Field)]) r8 _ (hG.own hF hO).1 (hO.rowSees (i := 1) rfl) (hO.rowCap (i := 1) rfl) (hO.rowSees (i := 0) rfl) (hO.rowCap (i := 0) rfl) hr8) fun r8 hr8 => ?_
 exact ec [1] rfl rfl rfl fun _ _ j => ⟨r8, j rfl⟩
 exact en rfl fun _ _ j => ⟨false, j rfl⟩
 rintro a w ⟨t9, hf, hO, hm⟩
 rw [zcr] at hm
 refine S.co tb ?_ hf hO hm
 exact rt Tryz.results17 rfl

end Go.Proofs
end
section
set_option linter.unusedVariables false
set_option maxHeartbeats 1000000
set_option linter.unusedSimpArgs false
set_option maxRecDepth 100000
namespace Go.Proofs
open Go.Dk Go.Dm Go.RowKit

theorem zhn (x_c : scan_Scanner) (R : Str × Bool × scan_Scanner) (w0 : World) (hG : zr w0) {x_c_b0 : Nat} {F : List Nat} (hF : zC F) (hO : Dk.Own w0 F w0 [.blk x_c_b0 [str x_c.f_s, int x_c.f_at] 137]) (hm : zbf x_c = some R) :
    Calls Tryz.prog 110 #[ptr x_c_b0 0] w0 fun e w' => e = .returned (.tuple #[str R.1, .bool R.2.1]) ∧ Dk.Own w0 F w' [.blk x_c_b0 [str R.2.2.f_s, int R.2.2.f_at] 137] := by
 rw [zbf] at hm
 refine S.enter tb Tryz.func110 rfl Tryz.ntmps110 rfl ?_ hO hm
 refine rw_ rfl fun a w hf hO hm => ?_
 obtain ⟨r2, hr2, hm⟩ := ob hm
 have hch3 := (show Dk.Own w0 F _ ([.blk x_c_b0 [str x_c.f_s, int x_c.f_at] 137] ++ []) from hO)
 have hfar3 := Dk.Own.far hch3 rfl hF hG.size
 have hlend3 := hch3.lend (S := []) rfl trivial
 have hcl3 := zcJ x_c r2 _ (hG.own hF hO) hfar3 hlend3 hr2
 refine zj (zl c_101 hf (vs := [ptr x_c_b0 0]) rfl) rfl hf rfl rfl (hcl3) ?_
 rintro e w' ⟨he, hO'⟩
 refine ⟨_, he, fun a hf => ?_⟩
 have hO := hch3.back rfl hO' rfl
 refine S.op tb ?_ hf hO hm
 refine br rfl (fun hc6 => ?_) fun hc6 => ?_
 refine re_ rfl fun a w hf hO hm => ?_
 obtain rfl := Option.some.inj hm
 exact zh Tryz.results110 hf (.tmp rfl (.tmp rfl .nil)) ⟨rfl, hO⟩
 refine rw_ rfl fun a w hf hO hm => ?_
 obtain ⟨r9, hr9, hm⟩ := ob hm
 have hch10 := (show Dk.Own w0 F _ ([.blk x_c_b0 [str r2.2.2.f_s, int r2.2.2.f_at] 137] ++ []) from hO)
 have hfar10 := Dk.Own.far hch10 rfl hF hG.size
 have hlend10 := hch10.lend (S := []) rfl trivial
 have hcl10 := zeS r2.2.2 r9 _ (hG.own hF hO) hfar10 hlend10 hr9
 refine zj (zl c_100 hf (vs := [ptr x_c_b0 0]) rfl) rfl hf rfl rfl (hcl10) ?_
 rintro e w' ⟨he, hO'⟩
 refine ⟨_, he, fun a hf => ?_⟩
 have hO := hch10.back rfl hO' rfl
 refine S.op tb ?_ hf hO hm
 refine re_ rfl fun a w hf hO hm => ?_
 obtain rfl := Option.some.inj hm
 exact zh Tryz.results110 hf (.tmp rfl (.tmp rfl .nil)) ⟨rfl, hO⟩

theorem zeF (x_r : params_reader) (R : api_Param × Bool × scan_Scanner) (w0 : World) (hG : zr w0) {x_r_b0 : Nat} {F : List Nat} (hF : zC F) (hO : Dk.Own w0 F w0 [.blk x_r_b0 [str x_r.Scanner.f_s, int x_r.Scanner.f_at] 137]) (hm : z7 x_r = some R) :
    Calls Tryz.prog 75 #[.agg #[ptr x_r_b0 0]] w0 fun e w' => e = .returned (.tuple #[.agg #[str R.1.Name, str R.1.Value], .bool R.2.1]) ∧ Dk.Own w0 F w' [.blk x_r_b0 [str R.2.2.f_s, int R.2.2.f_at] 137] := by
 rw [z7] at hm
 refine S.enter tb Tryz.func75 rfl Tryz.ntmps75 rfl ?_ hO hm
 refine bo rfl fun b1 => ?_
 refine al zix rfl fun b2 => ?_
 refine ld 1 rfl rfl ?_
 refine rw_ rfl fun a w hf hO hm => ?_
 obtain ⟨r4, hr4, hm⟩ := ob hm
 have hch5 := (show Dk.Own w0 F _ ([.blk x_r_b0 [str x_r.Scanner.f_s, int x_r.Scanner.f_at] 137] ++ [.blk b2 [str [], str []] 57, .blk b1 [ptr x_r_b0 0] 119]) from hO.choose [2, 0, 1] rfl)
 have hfar5 := Dk.Own.far hch5 rfl hF hG.size
 have hlend5 := hch5.lend (S := []) rfl trivial
 have hcl5 := zcJ x_r.Scanner r4 _ (hG.own hF hO) hfar5 hlend5 hr4
 refine zj (zl c_101 hf (vs := [ptr x_r_b0 0]) rfl) rfl hf rfl rfl (hcl5) ?_
 rintro e w' ⟨he, hO'⟩
 refine ⟨_, he, fun a hf => ?_⟩
 have hO := hch5.back rfl hO' rfl
 refine S.op tb ?_ hf hO hm
 refine jv 1 [1, 2, 4] [1, 2] (fun J E L => ∃ (t10 : Bool) (s11 : Str) (i12 : Int), J ((20, .bool t10) :: E) (.blk x_r_b0 [str s11, int i12] 137 :: L) (zat r4 t10 s11 i12)) rfl ?_ ?_
 refine br rfl (fun hc7 => ?_) fun hc7 => ?_
 exact en rfl fun _ _ j => ⟨true, r4.2.2.f_s, r4.2.2.f_at, j rfl⟩
 refine ld 2 rfl rfl ?_
 refine rw_ rfl fun a w hf hO hm => ?_
 obtain ⟨r8, hr8, hm⟩ := ob hm
 have hch9 := (show Dk.Own w0 F _ ([.blk x_r_b0 [str r4.2.2.f_s, int r4.2.2.f_at] 137] ++ [.blk b2 [str [], str []] 57, .blk b1 [ptr x_r_b0 0] 119]) from hO)
 have hfar9 := Dk.Own.far hch9 rfl hF hG.size
 have hlend9 := hch9.lend (S := []) rfl trivial
 have hcl9 := zq r4.2.2 61 r8 _ (hG.own hF hO) hfar9 hlend9 hr8
 refine zj (zl zg9 hf (vs := [ptr x_r_b0 0, zH 61]) rfl) rfl hf rfl rfl (hcl9) ?_
 rintro e w' ⟨he, hO'⟩
 refine ⟨_, he, fun a hf => ?_⟩
 have hO := hch9.back rfl hO' rfl
 refine S.op tb ?_ hf hO hm
 refine kn (b' := false) hc7 rfl ?_
 exact en rfl fun _ _ j => ⟨!r8.1, r8.2.f_s, r8.2.f_at, j rfl⟩
 rintro a w ⟨t10, s11, i12, hf, hO, hm⟩
 rw [zat] at hm
 refine S.co tb ?_ hf hO hm
 refine br rfl (fun hc13 => ?_) fun hc13 => ?_
 refine vl rfl rfl (fun a w hf hO => zaT (vs := []) (v := .agg #[str [], str []]) hf rfl (by kernel_rfl)) ?_
 refine st 1 rfl rfl ?_
 refine re_ rfl fun a w hf hO hm => ?_
 obtain rfl := Option.some.inj hm
 exact zh Tryz.results75 hf (.cell rfl (zdO (n := 2) (vs := [str [], str []]) zgd zcU rfl ((hO.blkSees (i := 1) rfl).cells (o := 0) (n := 2) rfl)) (.tmp rfl .nil)) ⟨rfl, (hO.sub (.cons_cons _ (.cons _ (.cons _ .slnil))))⟩
 refine ld 2 rfl rfl ?_
 refine rw_ rfl fun a w hf hO hm => ?_
 obtain ⟨r16, hr16, hm⟩ := ob hm
 have hch17 := (show Dk.Own w0 F _ ([.blk x_r_b0 [str s11, int i12] 137] ++ [.blk b2 [str [], str []] 57, .blk b1 [ptr x_r_b0 0] 119]) from hO)
 have hfar17 := Dk.Own.far hch17 rfl hF hG.size
 have hlend17 := hch17.lend (S := []) rfl trivial
 have hcl17 := zhn (⟨s11, i12⟩ : scan_Scanner) r16 _ (hG.own hF hO) hfar17 hlend17 hr16
 refine zj (zl c_110 hf (vs := [ptr x_r_b0 0]) rfl) rfl hf rfl rfl (hcl17) ?_
 rintro e w' ⟨he, hO'⟩
 refine ⟨_, he, fun a hf => ?_⟩
 have hO := hch17.back rfl hO' rfl
 refine S.op tb ?_ hf hO hm
 refine vl rfl rfl (fun a w hf hO => zaT (vs := [(0, str r4.1), (1, str r16.1)]) (v := .agg #[str r4.1, str r16.1]) hf rfl (by kernel_rfl)) ?_
 refine st 1 rfl rfl ?_
 refine re_ rfl fun a w hf hO hm => ?_
 obtain rfl := Option.some.inj hm
 exact zh Tryz.results75 hf (.cell rfl (zdO (n := 2) (vs := [str r4.1, str r16.1]) zgd zcU rfl ((hO.blkSees (i := 1) rfl).cells (o := 0) (n := 2) rfl)) (.tmp rfl .nil)) ⟨rfl, (hO.sub (.cons_cons _ (.cons _ (.cons _ .slnil))))⟩

theorem zcu (x_c : scan_Scanner) (R : Str × scan_Scanner) (w0 : World) (hG : zr w0) {x_c_b0 : Nat} {F : List Nat} (hF : zC F) (hO : Dk.Own w0 F w0 [.blk x_c_b0 [str x_c.f_s, int x_c.f_at] 137]) (hm : zad x_c = some R) :
    Calls Tryz.prog 111 #[ptr x_c_b0 0] w0 fun e w' => e = .returned (str R.1) ∧ Dk.Own w0 F w' [.blk x_c_b0 [str R.2.f_s, int R.2.f_at] 137] := by
 rw [zad] at hm
 refine S.enter tb Tryz.func111 rfl Tryz.ntmps111 rfl ?_ hO hm
 refine rw_ rfl fun a w hf hO hm => ?_
 obtain ⟨r2, hr2, hm⟩ := ob hm
 have hch3 := (show Dk.Own w0 F _ ([.blk x_c_b0 [str x_c.f_s, int x_c.f_at] 137] ++ []) from hO)
 have hfar3 := Dk.Own.far hch3 rfl hF hG.size
 have hlend3 := hch3.lend (S := []) rfl trivial
 have hcl3 := zcI x_c za1 r2 _ (hG.own hF hO) hfar3 hlend3 c_145 (fun y0 r w hG h => zfT (zeb y0 r w hG h)) hr2
 refine zj (zl c_102 hf (vs := [ptr x_c_b0 0, .func (.func 145) #[] #[]]) rfl) rfl hf rfl rfl (hcl3) ?_
 rintro e w' ⟨he, hO'⟩
 refine ⟨_, he, fun a hf => ?_⟩
 have hO := hch3.back rfl hO' rfl
 refine S.op tb ?_ hf hO hm
 refine re_ rfl fun a w hf hO hm => ?_
 obtain rfl := Option.some.inj hm
 exact zh Tryz.results111 hf (.tmp rfl .nil) ⟨rfl, hO⟩

theorem zem (x_r : params_reader) (R : Bool × scan_Scanner) (w0 : World) (hG : zr w0) {x_r_b0 : Nat} {F : List Nat} (hF : zC F) (hO : Dk.Own w0 F w0 [.blk x_r_b0 [str x_r.Scanner.f_s, int x_r.Scanner.f_at] 137]) (hm : zaK x_r = some R) :
    Calls Tryz.prog 76 #[.agg #[ptr x_r_b0 0]] w0 fun e w' => e = .returned (.bool R.1) ∧ Dk.Own w0 F w' [.blk x_r_b0 [str R.2.f_s, int R.2.f_at] 137] := by
 rw [zaK] at hm
 refine S.enter tb Tryz.func76 rfl Tryz.ntmps76 rfl ?_ hO hm
 refine bo rfl fun b1 => ?_
 refine ld 0 rfl rfl ?_
 refine rw_ rfl fun a w hf hO hm => ?_
 obtain ⟨r3, hr3, hm⟩ := ob hm
 have hch4 := (show Dk.Own w0 F _ ([.blk x_r_b0 [str x_r.Scanner.f_s, int x_r.Scanner.f_at] 137] ++ [.blk b1 [ptr x_r_b0 0] 119]) from hO.choose [1, 0] rfl)
 have hfar4 := Dk.Own.far hch4 rfl hF hG.size
 have hlend4 := hch4.lend (S := []) rfl trivial
 have hcl4 := zcu x_r.Scanner r3 _ (hG.own hF hO) hfar4 hlend4 hr3
 refine zj (zl c_111 hf (vs := [ptr x_r_b0 0]) rfl) rfl hf rfl rfl (hcl4) ?_
 rintro e w' ⟨he, hO'⟩
 refine ⟨_, he, fun a hf => ?_⟩
 have hO := hch4.back rfl hO' rfl
 refine S.op tb ?_ hf hO hm
 refine ld 1 rfl rfl ?_
 refine rw_ rfl fun a w hf hO hm => ?_
 obtain ⟨r6, hr6, hm⟩ := ob hm
 have hch7 := (show Dk.Own w0 F _ ([.blk x_r_b0 [str r3.2.f_s, int r3.2.f_at] 137] ++ [.blk b1 [ptr x_r_b0 0] 119]) from hO)
 have hfar7 := Dk.Own.far hch7 rfl hF hG.size
 have hlend7 := hch7.lend (S := []) rfl trivial
 have hcl7 := zq r3.2 59 r6 _ (hG.own hF hO) hfar7 hlend7 hr6
 refine zj (zl zg9 hf (vs := [ptr x_r_b0 0, zH 59]) rfl) rfl hf rfl rfl (hcl7) ?_
 rintro e w' ⟨he, hO'⟩
 refine ⟨_, he, fun a hf => ?_⟩
 have hO := hch7.back rfl hO' rfl
 refine S.op tb ?_ hf hO hm
 refine br rfl (fun hc9 => ?_) fun hc9 => ?_
 refine re_ rfl fun a w hf hO hm => ?_
 obtain rfl := Option.some.inj hm
 exact zh Tryz.results76 hf (.tmp rfl .nil) ⟨rfl, (hO.sub (.cons_cons _ (.cons _ .slnil)))⟩
 refine ld 1 rfl rfl ?_
 refine rw_ rfl fun a w hf hO hm => ?_
 obtain ⟨r12, hr12, hm⟩ := ob hm
 have hch13 := (show Dk.Own w0 F _ ([.blk x_r_b0 [str r6.2.f_s, int r6.2.f_at] 137] ++ [.blk b1 [ptr x_r_b0 0] 119]) from hO)
 have hfar13 := Dk.Own.far hch13 rfl hF hG.size
 have hlend13 := hch13.lend (S := []) rfl trivial
 have hcl13 := zcu r6.2 r12 _ (hG.own hF hO) hfar13 hlend13 hr12
 refine zj (zl c_111 hf (vs := [ptr x_r_b0 0]) rfl) rfl hf rfl rfl (hcl13) ?_
 rintro e w' ⟨he, hO'⟩
 refine ⟨_, he, fun a hf => ?_⟩
 have hO := hch13.back rfl hO' rfl
 refine S.op tb ?_ hf hO hm
 refine re_ rfl fun a w hf hO hm => ?_
 obtain rfl := Option.some.inj hm
 exact zh Tryz.results76 hf (.tmp rfl .nil) ⟨rfl, (hO.sub (.cons_cons _ (.cons _ .slnil)))⟩

theorem zgR (x_s : Str) (R : List api_Param × Int) (w0 : World) (hG : zr w0) (hm : zcs x_s = some R) :
    Calls Tryz.prog 43 #[str x_s] w0 fun e w' => ∃ (p0 : Option Addr) (c0 : Nat), e = .returned (.tuple #[.slice p0 R.1.length c0, int R.2]) ∧ Dk.Own w0 [] w' [.row (.slice p0 R.1.length c0) 57 2 R.1.length (cells zc R.1)] := by
 rw [zcs] at hm
 have hF : zC [] := ze
 have hO : Dk.Own w0 [] w0 [] := Dk.Own.refl w0
 refine S.enter tb Tryz.func43 rfl Tryz.ntmps43 rfl ?_ hO hm
 refine nl 57 2 ?_
 refine rw_ rfl fun a w hf hO hm => ?_
 obtain ⟨r2, hr2, hm⟩ := ob hm
 refine zj (zl c_65 hf (vs := [str x_s]) rfl) rfl hf rfl rfl (zhh x_s r2 _ (hG.own hF hO) hr2) ?_
 rintro e w' ⟨b3, he, hO'⟩
 refine ⟨_, he, fun a hf => ?_⟩
 have hO := hO.call hO' (by simp [Res.shared])
 refine S.op tb ?_ hf hO hm
 refine vl rfl rfl (fun a w hf hO => zaT (vs := [(0, ptr b3 0)]) (v := .agg #[ptr b3 0]) hf rfl (by kernel_rfl)) ?_
 refine al al_119 rfl fun b4 => ?_
 refine st 0 rfl rfl ?_
 refine nl 57 2 ?_
 refine ch [0, 2, 1, 3] rfl rfl ?_
 refine lv [4] [2, 3] (fun J E L k => ∃ (p7 : Option Addr) (c8 : Nat) (l9 : List api_Param) (s10 : Str) (i11 : Int), J ((5, .slice p7 l9.length c8) :: E) (.row (.slice p7 l9.length c8) 57 2 l9.length (cells zc l9) :: .blk b3 [str s10, int i11] 137 :: L) (zaB k l9 s10 i11)) rfl (fun _ _ j => ⟨none, 0, [], r2.f_s, r2.f_at, j rfl⟩) ?_
 rintro n1 a w ⟨p7, c8, l9, s10, i11, hf, hO, hm⟩
 obtain _ | n1 := n1
 rw [zaB] at hm
 cases hm
 rw [zaB] at hm
 refine S.co tb ?_ hf hO hm
 refine ld 2 rfl rfl ?_
 refine rw_ rfl fun a w hf hO hm => ?_
 obtain ⟨r12, hr12, hm⟩ := ob hm
 have hch13 := (show Dk.Own w0 [] _ ([.blk b3 [str s10, int i11] 137] ++ [.row (.slice p7 l9.length c8) 57 2 l9.length (cells zc l9), .blk b4 [ptr b3 0] 119, .row (.slice none 0 0) 57 2 0 (cells zc [])]) from hO.choose [1, 0, 2, 3] rfl)
 have hfar13 := Dk.Own.far hch13 rfl hF hG.size
 have hlend13 := hch13.lend (S := []) rfl trivial
 have hcl13 := zeF ((⟨(⟨s10, i11⟩ : scan_Scanner)⟩ : params_reader)) r12 _ (hG.own hF hO) hfar13 hlend13 hr12
 refine zj (zl c_75 hf (vs := [.agg #[ptr b3 0]]) rfl) rfl hf rfl rfl (hcl13) ?_
 rintro e w' ⟨he, hO'⟩
 refine ⟨_, he, fun a hf => ?_⟩
 have hO := hch13.back rfl hO' rfl
 refine S.op tb ?_ hf hO hm
 refine al zix rfl fun b14 => ?_
 refine st 0 rfl rfl ?_
 refine br rfl (fun hc17 => ?_) fun hc17 => ?_
 refine nl 57 2 ?_
 refine re_ rfl fun a w hf hO hm => ?_
 obtain rfl := Option.some.inj hm
 exact zh Tryz.results43 hf (.tmp rfl (.tmp rfl .nil)) ⟨none, 0, rfl, (hO.sub (.cons_cons _ (.cons _ (.cons _ (.cons _ (.cons _ (.cons _ .slnil)))))))⟩
 refine ld 0 rfl rfl ?_
 refine rw_ rfl fun a w hf hO hm => ?_
 refine zi (vs := [(0, .agg #[str r12.1.Name, str r12.1.Value])]) (cs := [str r12.1.Name, str r12.1.Value]) (e := 57) (sz := 2) hf rfl rfl (fun w => by kernel_rfl) rfl rfl hO fun a b20 w hf hO => ?_
 refine S.op tb ?_ hf hO hm
 refine rw_ rfl fun a w hf hO hm => ?_
 obtain ⟨hg23, hm⟩ := og hm
 refine zak zjd (enc := zc) (xs := l9) (ys := [r12.1]) (i := 3) (fun _ => rfl) rfl (hO.rowSees (i := 0) rfl) (by simp [cells, zc, Value.oneCell']) hg23 hf rfl rfl rfl hO fun a p21 c22 w hf hO => ?_
 refine S.op tb ?_ hf hO hm
 refine ld 4 rfl rfl ?_
 refine cl c_66 rfl (fun r25 w hr25 hO => zb7 r12.2.2 r25 _ (hG.own hF hO) (hO.blkSees (i := 2) rfl) hr25) fun r25 hr25 => ?_
 refine br rfl (fun hc27 => ?_) fun hc27 => ?_
 refine re_ rfl fun a w hf hO hm => ?_
 obtain rfl := Option.some.inj hm
 exact zh Tryz.results43 hf (.tmp rfl (.tmp rfl .nil)) ⟨p21, c22, rfl, (hO.sub (.cons _ (.cons _ (.cons _ (.cons_cons _ (.cons _ (.cons _ .slnil)))))))⟩
 refine ld 4 rfl rfl ?_
 refine rw_ rfl fun a w hf hO hm => ?_
 obtain ⟨r30, hr30, hm⟩ := ob hm
 have hch31 := (show Dk.Own w0 [] _ ([.blk b3 [str r12.2.2.f_s, int r12.2.2.f_at] 137] ++ [.row (.slice (some ⟨b20, 0, none⟩) ([r12.1].length) 1) 57 2 ([r12.1].length) (cells zc [r12.1]), .blk b14 [str r12.1.Name, str r12.1.Value] 57, .row (.slice p21 ((l9 ++ [r12.1]).length) c22) 57 2 ((l9 ++ [r12.1]).length) (cells zc (l9 ++ [r12.1])), .blk b4 [ptr b3 0] 119, .row (.slice none 0 0) 57 2 0 (cells zc [])]) from hO.choose [2, 0, 1, 3, 4, 5] rfl)
 have hfar31 := Dk.Own.far hch31 rfl hF hG.size
 have hlend31 := hch31.lend (S := []) rfl trivial
 have hcl31 := zem (⟨r12.2.2⟩ : params_reader) r30 _ (hG.own hF hO) hfar31 hlend31 hr30
 refine zj (zl c_76 hf (vs := [.agg #[ptr b3 0]]) rfl) rfl hf rfl rfl (hcl31) ?_
 rintro e w' ⟨he, hO'⟩
 refine ⟨_, he, fun a hf => ?_⟩
 have hO := hch31.back rfl hO' rfl
 refine S.op tb ?_ hf hO hm
 refine br rfl (fun hc33 => ?_) fun hc33 => ?_
 refine nl 57 2 ?_
 refine re_ rfl fun a w hf hO hm => ?_
 obtain rfl := Option.some.inj hm
 exact zh Tryz.results43 hf (.tmp rfl (.tmp rfl .nil)) ⟨none, 0, rfl, (hO.sub (.cons_cons _ (.cons _ (.cons _ (.cons _ (.cons _ (.cons _ (.cons _ .slnil))))))))⟩
 exact ec [3, 0, 4, 5] rfl rfl rfl fun _ _ j => ⟨_, Nat.lt_succ_self _, p21, c22, l9 ++ [r12.1], r30.2.f_s, r30.2.f_at, j rfl⟩

theorem zhU (x_name : Str) (x_l : List api_Param) (R : Str × Bool) (w0 : World) (hG : zr w0) {x_l_p0 : Option Addr} {x_l_c0 : Nat} (hs0 : zF w0 x_l_p0 (cells zc x_l)) (hc0 : x_l.length ≤ x_l_c0) (hm : zd3 x_name x_l = some R) :
    Calls Tryz.prog 44 #[str x_name, .slice x_l_p0 x_l.length x_l_c0] w0 (Ret w0 (fun R => .tuple #[str R.1, .bool R.2]) R) := by
 rw [zd3] at hm
 have hF : zC [] := ze
 have hO : Dk.Own w0 [] w0 [] := Dk.Own.refl w0
 have hO := hO.addShr hs0 (by simp [Res.shared])
 refine S.enter tb Tryz.func44 rfl Tryz.ntmps44 rfl ?_ hO hm
 refine lv [0, 8, 9] [0] (fun J E L k => ∃ (i3 : Int), J ((10, int i3) :: E) (L) (za4 x_name x_l k i3)) rfl (fun _ _ j => ⟨0, j rfl⟩) ?_
 rintro n1 a w ⟨i3, hf, hO, hm⟩
 obtain _ | n1 := n1
 rw [za4] at hm
 cases hm
 rw [za4] at hm
 refine S.co tb ?_ hf hO hm
 refine br rfl (fun hc5 => ?_) fun hc5 => ?_
 refine rw_ rfl fun a w hf hO hm => ?_
 obtain ⟨x7, hx7, hm⟩ := ob hm
 obtain ⟨b8, o9, hix7, hSx7⟩ := zcP (enc := zc) (sz := 2) (xs := x_l) 49 Tryz.underlying49 zcU (by decide) (fun _ => rfl) (hO.sees (i := 0) rfl) hx7
 refine zbA (zm hix7 hf rfl rfl) rfl hf rfl rfl fun a hf => ?_
 refine S.op tb ?_ hf hO hm
 refine vl rfl rfl (fun a w hf hO => zcG (o := 0) (vs := [str x7.Name, str x7.Value]) zgd zcU (hSx7 _ (hO.sees (i := 0) rfl)) rfl rfl hf rfl) ?_
 refine al zix rfl fun b10 => ?_
 refine st 0 rfl rfl ?_
 refine ld 0 rfl rfl ?_
 refine cl c_55 rfl (fun r12 w hr12 hO => zfC x7.Name x_name r12 _ (hG.own hF hO) hr12) fun r12 hr12 => ?_
 refine br rfl (fun hc14 => ?_) fun hc14 => ?_
 refine ld 0 rfl rfl ?_
 exact rt Tryz.results44 rfl
 refine bi rfl fun i17 hi17 => ?_
 exact ec [1] rfl rfl rfl fun _ _ j => ⟨_, Nat.lt_succ_self _, i17, j rfl⟩
 exact rt Tryz.results44 rfl

theorem zdj (x_s : Str) (R : List api_Param × Int) (w0 : World) (hG : zr w0) (hm : zaP x_s = some R) :
    Calls Tryz.prog 21 #[str x_s] w0 fun e w' => ∃ (p0 : Option Addr) (c0 : Nat), e = .returned (.tuple #[.slice p0 R.1.length c0, int R.2]) ∧ Dk.Own w0 [] w' [.row (.slice p0 R.1.length c0) 57 2 R.1.length (cells zc R.1)] := by
 rw [zaP] at hm
 have hF : zC [] := ze
 have hO : Dk.Own w0 [] w0 [] := Dk.Own.refl w0
 refine S.enter tb Tryz.func21 rfl Tryz.ntmps21 rfl ?_ hO hm
 refine nl 57 2 ?_
 refine rw_ rfl fun a w hf hO hm => ?_
 obtain ⟨r2, hr2, hm⟩ := ob hm
 refine zj (zl c_43 hf (vs := [str x_s]) rfl) rfl hf rfl rfl (zgR x_s r2 _ (hG.own hF hO) hr2) ?_
 rintro e w' ⟨p3, c4, he, hO'⟩
 refine ⟨_, he, fun a hf => ?_⟩
 have hO := hO.call hO' (by simp [Res.shared])
 refine S.op tb ?_ hf hO hm
 refine br rfl (fun hc7 => ?_) fun hc7 => ?_
 refine nl 57 2 ?_
 refine re_ rfl fun a w hf hO hm => ?_
 obtain rfl := Option.some.inj hm
 exact zh Tryz.results21 hf (.tmp rfl (.tmp rfl .nil)) ⟨none, 0, rfl, (hO.sub (.cons_cons _ (.cons _ (.cons _ .slnil))))⟩
 refine lv [4, 18, 19] [0, 1] (fun J E L k => ∃ (i11 : Int), J ((20, int i11) :: E) (L) (zM r2 k i11)) rfl (fun _ _ j => ⟨0, j rfl⟩) ?_
 rintro n1 a w ⟨i11, hf, hO, hm⟩
 obtain _ | n1 := n1
 rw [zM] at hm
 cases hm
 rw [zM] at hm
 refine S.co tb ?_ hf hO hm
 refine br rfl (fun hc13 => ?_) fun hc13 => ?_
 refine rw_ rfl fun a w hf hO hm => ?_
 obtain ⟨x15, hx15, hm⟩ := ob hm
 obtain ⟨b16, o17, hix15, hSx15, hAx15⟩ := zbq (enc := zc) (sz := 2) (xs := r2.1) 49 Tryz.underlying49 zcU (by decide) (fun _ => rfl) hO (i := 0) rfl hx15
 refine zbA (zm hix15 hf rfl rfl) rfl hf rfl rfl fun a hf => ?_
 refine S.op tb ?_ hf hO hm
 refine vl rfl rfl (fun a w hf hO => zcG (o := 0) (vs := [str x15.Name, str x15.Value]) zgd zcU (hSx15 _ (hO.rowSees (i := 0) rfl)) rfl rfl hf rfl) ?_
 refine al zix rfl fun b18 => ?_
 refine st 0 rfl rfl ?_
 refine rc_ rfl fun a w hf hO hm => ?_
 refine zbV (by kernel_rfl) (by kernel_rfl) hO ?_
 refine zk (fun w hO => zaR zje hf rfl) rfl hf rfl rfl fun a hf => ?_
 refine zk (fun w hO => zo (o := 0) zdE (hO.blkSees (i := 0) rfl) rfl hf rfl) rfl hf rfl rfl fun a hf => ?_
 refine zk (fun w hO => zs hf rfl) rfl hf rfl rfl fun a hf => ?_
 refine zk (fun w hO => zs hf rfl) rfl hf rfl rfl fun a hf => ?_
 obtain ⟨l20, hl20, hm⟩ := ob hm
 obtain ⟨p21, c22, hrl20, hVl20, hCl20, _⟩ := zk6 (enc := zc) (xs := r2.1) 49 Tryz.underlying49 zcU (fun _ => rfl) (hO.rowSees (i := 1) rfl) (hO.rowCap (i := 1) rfl) hl20
 refine zk (fun w hO => ziT Tryz.underlying49 hrl20 hf rfl rfl) rfl hf rfl rfl fun a hf => ?_
 obtain ⟨r23, hr23, hm⟩ := ob hm
 refine ziW (fun w hO => zl c_44 hf (vs := [str x15.Name, .slice p21 l20.length c22]) rfl) rfl hf rfl rfl (fun w hO => (zhU x15.Name l20 r23 _ (hG.own hF hO) (hVl20 _ (hO.rowSees (i := 1) rfl)) hCl20 hr23).mono fun e w' ⟨he, hb⟩ => ⟨he, hO.grow hb⟩) fun a hf => ?_
 refine zk (fun w hO => zs hf rfl) rfl hf rfl rfl fun a hf => ?_
 refine zk (fun w hO => ze3 hf rfl rfl) rfl hf rfl rfl fun a hf => ?_
 refine zk (fun w hO => ze3 hf rfl rfl) rfl hf rfl rfl fun a hf => ?_
 refine zk (fun w hO => zba hf rfl) rfl hf rfl rfl fun a hf => ?_
 refine zk (fun w hO => zba hf rfl) rfl hf rfl rfl fun a hf => ?_
 refine wpQuiet_nil ?_
 intro w hO
 refine S.no tb ?_ hf hO hm
 refine br rfl (fun hc26 => ?_) fun hc26 => ?_
 refine nl 57 2 ?_
 refine re_ rfl fun a w hf hO hm => ?_
 obtain rfl := Option.some.inj hm
 exact zh Tryz.results21 hf (.tmp rfl (.tmp rfl .nil)) ⟨none, 0, rfl, (hO.sub (.cons_cons _ (.cons _ (.cons _ (.cons _ .slnil)))))⟩
 refine bi rfl fun i29 hi29 => ?_
 exact ec [1, 2] rfl rfl rfl fun _ _ j => ⟨_, Nat.lt_succ_self _, i29, j rfl⟩
 refine re_ rfl fun a w hf hO hm => ?_
 obtain rfl := Option.some.inj hm
 exact zh Tryz.results21 hf (.tmp rfl (.tmp rfl .nil)) ⟨p3, c4, rfl, (hO.sub (.cons_cons _ (.cons _ .slnil)))⟩

theorem zfg (x_a : List api_Param) (x_b : List api_Param) (R : Bool) (w0 : World) (hG : zr w0) {x_a_p0 : Option Addr} {x_a_c0 : Nat} (hs0 : zF w0 x_a_p0 (cells zc x_a)) (hc0 : x_a.length ≤ x_a_c0) {x_b_p1 : Option Addr} {x_b_c1 : Nat} (hs1 : zF w0 x_b_p1 (cells zc x_b)) (hc1 : x_b.length ≤ x_b_c1) (hm : zcD x_a x_b = some R) :
    Calls Tryz.prog 22 #[.slice x_a_p0 x_a.length x_a_c0, .slice x_b_p1 x_b.length x_b_c1] w0 (Ret w0 (fun R => .bool R) R) := by
 rw [zcD] at hm
 have hF : zC [] := ze
 have hO : Dk.Own w0 [] w0 [] := Dk.Own.refl w0
 have hO := hO.addShr hs0 (by simp [Res.shared])
 have hO := hO.addShr hs1 (by simp [Res.shared])
 refine S.enter tb Tryz.func22 rfl Tryz.ntmps22 rfl ?_ hO hm
 refine br rfl (fun hc3 => ?_) fun hc3 => ?_
 exact rt Tryz.results22 rfl
 refine lv [0, 1] [0, 1] (fun J E L k => ∃ (i7 : Int), J ((5, int i7) :: E) (L) (zaE x_a x_b k i7)) rfl (fun _ _ j => ⟨0, j rfl⟩) ?_
 rintro n1 a w ⟨i7, hf, hO, hm⟩
 obtain _ | n1 := n1
 rw [zaE] at hm
 cases hm
 rw [zaE] at hm
 refine S.co tb ?_ hf hO hm
 refine br rfl (fun hc9 => ?_) fun hc9 => ?_
 refine rc_ rfl fun a w hf hO hm => ?_
 refine zbV (by kernel_rfl) (by kernel_rfl) hO ?_
 refine zk (fun w hO => zs hf rfl) rfl hf rfl rfl fun a hf => ?_
 refine zk (fun w hO => zs hf rfl) rfl hf rfl rfl fun a hf => ?_
 obtain ⟨x11, hx11, hm⟩ := ob hm
 obtain ⟨b12, o13, hix11, hSx11⟩ := zcP (enc := zc) (sz := 2) (xs := x_a) 49 Tryz.underlying49 zcU (by decide) (fun _ => rfl) (hO.sees (i := 1) rfl) hx11
 refine zk (fun w hO => zm hix11 hf rfl rfl) rfl hf rfl rfl fun a hf => ?_
 refine zk (fun w hO => zcG (o := 0) (vs := [str x11.Name, str x11.Value]) zgd zcU (hSx11 _ (hO.sees (i := 1) rfl)) rfl rfl hf rfl) rfl hf rfl rfl fun a hf => ?_
 refine zk (fun w hO => zs hf rfl) rfl hf rfl rfl fun a hf => ?_
 refine zk (fun w hO => zs hf rfl) rfl hf rfl rfl fun a hf => ?_
 obtain ⟨x14, hx14, hm⟩ := ob hm
 obtain ⟨b15, o16, hix14, hSx14⟩ := zcP (enc := zc) (sz := 2) (xs := x_b) 49 Tryz.underlying49 zcU (by decide) (fun _ => rfl) (hO.sees (i := 0) rfl) hx14
 refine zk (fun w hO => zm hix14 hf rfl rfl) rfl hf rfl rfl fun a hf => ?_
 refine zk (fun w hO => zcG (o := 0) (vs := [str x14.Name, str x14.Value]) zgd zcU (hSx14 _ (hO.sees (i := 0) rfl)) rfl rfl hf rfl) rfl hf rfl rfl fun a hf => ?_
 refine zk (fun w hO => ziu (by kernel_rfl) (eq_57 x11 x14) hf rfl rfl) rfl hf rfl rfl fun a hf => ?_
 refine wpQuiet_nil ?_
 intro w hO
 refine S.no tb ?_ hf hO hm
 refine br rfl (fun hc18 => ?_) fun hc18 => ?_
 exact rt Tryz.results22 rfl
 refine bi rfl fun i21 hi21 => ?_
 exact en rfl fun _ _ j => ⟨_, Nat.lt_succ_self _, i21, j rfl⟩
 exact rt Tryz.results22 rfl

theorem zeN (x_s : Str) (R : Str × Int) (w0 : World) (hG : zr w0) (hm : zbg x_s = some R) :
    Calls Tryz.prog 122 #[str x_s] w0 (Ret w0 (fun R => .tuple #[str R.1, int R.2]) R) := by
 rw [zbg] at hm
 have hF : zC [] := ze
 have hO : Dk.Own w0 [] w0 [] := Dk.Own.refl w0
 refine S.enter tb Tryz.func122 rfl Tryz.ntmps122 rfl ?_ hO hm
 refine jv 1 [0] [] (fun J E L => ∃ (t4 : Bool), J ((13, .bool t4) :: E) (L) (zbe x_s t4)) rfl ?_ ?_
 refine br rfl (fun hc2 => ?_) fun hc2 => ?_
 exact en rfl fun _ _ j => ⟨true, j rfl⟩
 refine bi rfl fun b3 hb3 => ?_
 refine vl rfl rfl (fun a w hf hO => zeq (b := b3) (c := 34) hf rfl rfl) ?_
 exact en rfl fun _ _ j => ⟨!(b3 == 34), j rfl⟩
 rintro a w ⟨t4, hf, hO, hm⟩
 rw [zbe] at hm
 refine S.co tb ?_ hf hO hm
 refine br rfl (fun hc5 => ?_) fun hc5 => ?_
 exact rt Tryz.results122 rfl
 refine lv [0] [] (fun J E L k => ∃ (s10 : Str) (i11 : Int), J ((4, str s10) :: (5, int i11) :: E) (L) (zN x_s k s10 i11)) rfl (fun _ _ j => ⟨[], 1, j rfl⟩) ?_
 rintro n2 a w ⟨s10, i11, hf, hO, hm⟩
 obtain _ | n2 := n2
 rw [zN] at hm
 cases hm
 rw [zN] at hm
 refine S.co tb ?_ hf hO hm
 refine br rfl (fun hc13 => ?_) fun hc13 => ?_
 refine bi rfl fun b15 hb15 => ?_
 refine vl rfl rfl (fun a w hf hO => zJ (b := b15) (c := 34) hf rfl rfl) ?_
 refine br rfl (fun hc17 => ?_) fun hc17 => ?_
 refine bi rfl fun i18 hi18 => ?_
 exact rt Tryz.results122 rfl
 refine jv 5 [0, 4] [] (fun J E L => ∃ (i25 : Int), J ((5, int i25) :: E) (L) (zbF (zN x_s n2) x_s s10 i25)) rfl ?_ ?_
 refine bi rfl fun b21 hb21 => ?_
 refine vl rfl rfl (fun a w hf hO => zJ (b := b21) (c := 92) hf rfl rfl) ?_
 refine br rfl (fun hc23 => ?_) fun hc23 => ?_
 refine bi rfl fun i24 hi24 => ?_
 exact en rfl fun _ _ j => ⟨i24, j rfl⟩
 exact en rfl fun _ _ j => ⟨i11, j rfl⟩
 rintro a w ⟨i25, hf, hO, hm⟩
 rw [zbF] at hm
 refine S.co tb ?_ hf hO hm
 refine jv 6 [0, 4, 5] [] (fun J E L => ∃ (t29 : Bool), J ((43, .bool t29) :: E) (L) (zaL (zN x_s n2) x_s s10 i25 t29)) rfl ?_ ?_
 refine br rfl (fun hc26 => ?_) fun hc26 => ?_
 exact en rfl fun _ _ j => ⟨true, j rfl⟩
 refine bi rfl fun b27 hb27 => ?_
 refine cl c_95 rfl (fun r28 w hr28 hO => zhr b27 r28 _ (hG.own hF hO) hr28) fun r28 hr28 => ?_
 exact en rfl fun _ _ j => ⟨!r28, j rfl⟩
 rintro a w ⟨t29, hf, hO, hm⟩
 rw [zaL] at hm
 refine S.co tb ?_ hf hO hm
 refine br rfl (fun hc30 => ?_) fun hc30 => ?_
 exact rt Tryz.results122 rfl
 refine bi rfl fun i33 hi33 => ?_
 refine bi rfl fun s34 hs34 => ?_
 refine bi rfl fun s35 hs35 => ?_
 refine bi rfl fun i37 hi37 => ?_
 exact en rfl fun _ _ j => ⟨_, Nat.lt_succ_self _, s35, i37, j rfl⟩
 exact rt Tryz.results122 rfl

theorem zhV (x_s : Str) (R : Str × Int) (w0 : World) (hG : zr w0) (hm : zdd x_s = some R) :
    Calls Tryz.prog 83 #[str x_s] w0 (Ret w0 (fun R => .tuple #[str R.1, int R.2]) R) := by
 rw [zdd] at hm
 have hF : zC [] := ze
 have hO : Dk.Own w0 [] w0 [] := Dk.Own.refl w0
 refine S.enter tb Tryz.func83 rfl Tryz.ntmps83 rfl ?_ hO hm
 refine lv [0] [] (fun J E L k => ∃ (i3 : Int), J ((4, int i3) :: E) (L) (zan x_s k i3)) rfl (fun _ _ j => ⟨0, j rfl⟩) ?_
 rintro n1 a w ⟨i3, hf, hO, hm⟩
 obtain _ | n1 := n1
 rw [zan] at hm
 cases hm
 rw [zan] at hm
 refine S.co tb ?_ hf hO hm
 refine jv 4 [0, 4] [] (fun J E L => ∃ (t7 : Bool), J ((14, .bool t7) :: E) (L) (zbY (zan x_s n1) x_s i3 t7)) rfl ?_ ?_
 refine br rfl (fun hc4 => ?_) fun hc4 => ?_
 refine bi rfl fun b5 hb5 => ?_
 refine cl c_74 rfl (fun r6 w hr6 hO => zgf b5 r6 _ (hG.own hF hO) hr6) fun r6 hr6 => ?_
 exact en rfl fun _ _ j => ⟨r6, j rfl⟩
 exact en rfl fun _ _ j => ⟨false, j rfl⟩
 rintro a w ⟨t7, hf, hO, hm⟩
 rw [zbY] at hm
 refine S.co tb ?_ hf hO hm
 refine br rfl (fun hc8 => ?_) fun hc8 => ?_
 refine bi rfl fun i10 hi10 => ?_
 exact en rfl fun _ _ j => ⟨_, Nat.lt_succ_self _, i10, j rfl⟩
 refine br rfl (fun hc13 => ?_) fun hc13 => ?_
 refine bi rfl fun s14 hs14 => ?_
 exact rt Tryz.results83 rfl
 refine cl c_122 rfl (fun r17 w hr17 hO => zeN x_s r17 _ (hG.own hF hO) hr17) fun r17 hr17 => ?_
 exact rt Tryz.results83 rfl

end Go.Proofs
end
