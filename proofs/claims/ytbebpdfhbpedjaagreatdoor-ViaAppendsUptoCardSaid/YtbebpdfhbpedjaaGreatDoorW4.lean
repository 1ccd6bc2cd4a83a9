/-
  Walks, written by a program (wip/gen): what its model says, the function returns; what was there before is as it was.
  Walks, written by a program (wip/gen): what its model says, the function returns; what was there before is as it was.
  Walks, written by a program (wip/gen): what its model says, the function returns; what was there before is as it was.
  Walks, written by a program (wip/gen): what its model says, the function returns; what was there before is as it was.
  Walks, written by a program (wip/gen): what its model says, the function returns; what was there before is as it was.
-/
import Derived.Test.YtbebpdfhbpedjaaGreatDoorLib
import Derived.Test.YtbebpdfhbpedjaaGreatDoorSq
section
set_option linter.unusedVariables false
set_option maxHeartbeats 1000000
set_option linter.unusedSimpArgs false
set_option maxRecDepth 100000
namespace Go.Proofs
open Go.Dk Go.Dm Go.RowKit

theorem zlU (x_s : Str) (R : scan_Scanner) (w0 : World) (hG : zt w0) (hm : zhP x_s = some R) :
    Calls Tryz.prog 65 #[str x_s] w0 fun e w' => ∃ (b0 : Nat), e = .returned (ptr b0 0) ∧ Dk.Own w0 [] w' [.blk b0 [str R.f_s, int R.f_at] 137] := by
 rw [zhP] at hm
 have hF : zG [] := ze
 have hO : Dk.Own w0 [] w0 [] := Dk.Own.refl w0
 refine S.enter tb Tryz.func65 rfl Tryz.ntmps65 rfl ?_ hO hm
 refine vl rfl rfl (fun a w hf hO => zS (vs := [(0, str x_s)]) (v := .agg #[str x_s, int 0]) hf rfl (by kernel_rfl)) ?_
 refine rw_ rfl fun a w hf hO hm => ?_
 refine zen (v := .agg #[str x_s, int 0]) (cs := [str x_s, int 0]) rfl hf rfl rfl hO fun a b2 w hf hO => ?_
 refine S.op tb ?_ hf hO hm
 refine re_ rfl fun a w hf hO hm => ?_
 obtain rfl := Option.some.inj hm
 exact zi Tryz.results65 hf (.tmp rfl .nil) ⟨b2, rfl, hO⟩

theorem zfs (x_c : scan_Scanner) (R : Str) (w0 : World) (hG : zt w0) {x_c_b0 : Nat} (hs0 : zaU w0 (some ⟨x_c_b0, 0, none⟩) [str x_c.f_s, int x_c.f_at]) (hm : zaJ x_c = some R) :
    Calls Tryz.prog 96 #[ptr x_c_b0 0] w0 (Ret w0 (fun R => str R) R) := by
 rw [zaJ] at hm
 have hF : zG [] := ze
 have hO : Dk.Own w0 [] w0 [] := Dk.Own.refl w0
 have hO := hO.addShr hs0 (by simp [Res.shared])
 refine S.enter tb Tryz.func96 rfl Tryz.ntmps96 rfl ?_ hO hm
 refine vl rfl rfl (fun a w hf hO => zgp Tryz.underlying110 hf rfl rfl) ?_
 refine kn (b' := false) rfl rfl ?_
 refine rc_ rfl fun a w hf hO hm => ?_
 refine ze7 (by kernel_rfl) (by kernel_rfl) hO ?_
 refine zw (fun w hO => zv hf rfl) rfl hf rfl rfl fun a hf => ?_
 refine zw (fun w hO => zbc hf rfl) rfl hf rfl rfl fun a hf => ?_
 refine zw (fun w hO => zaz zjb hf rfl) rfl hf rfl rfl fun a hf => ?_
 refine zw (fun w hO => zb (o := 0) zab (hO.sees (i := 0) rfl) rfl hf rfl) rfl hf rfl rfl fun a hf => ?_
 refine zw (fun w hO => zv hf rfl) rfl hf rfl rfl fun a hf => ?_
 refine zw (fun w hO => zbc hf rfl) rfl hf rfl rfl fun a hf => ?_
 refine zw (fun w hO => zaz zjc hf rfl) rfl hf rfl rfl fun a hf => ?_
 refine zw (fun w hO => zb (o := 1) zo0 (hO.sees (i := 0) rfl) rfl hf rfl) rfl hf rfl rfl fun a hf => ?_
 obtain ⟨s4, hs4, hm⟩ := ob hm
 refine zw (fun w hO => zmy (l := x_c.f_s) Tryz.underlying9 hf rfl rfl hs4) rfl hf rfl rfl fun a hf => ?_
 refine zw (fun w hO => zcY hf rfl) rfl hf rfl rfl fun a hf => ?_
 refine wpQuiet_nil ?_
 intro w hO
 refine S.no tb ?_ hf hO hm
 exact rt Tryz.results96 rfl

theorem zd5 (x_c : scan_Scanner) (R : Bool) (w0 : World) (hG : zt w0) {x_c_b0 : Nat} (hs0 : zaU w0 (some ⟨x_c_b0, 0, none⟩) [str x_c.f_s, int x_c.f_at]) (hm : zaB x_c = some R) :
    Calls Tryz.prog 66 #[ptr x_c_b0 0] w0 (Ret w0 (fun R => .bool R) R) := by
 rw [zaB] at hm
 have hF : zG [] := ze
 have hO : Dk.Own w0 [] w0 [] := Dk.Own.refl w0
 have hO := hO.addShr hs0 (by simp [Res.shared])
 refine S.enter tb Tryz.func66 rfl Tryz.ntmps66 rfl ?_ hO hm
 refine cl c_96 rfl (fun r2 w hr2 hO => zfs x_c r2 _ (hG.own hF hO) (hO.sees (i := 0) rfl) hr2) fun r2 hr2 => ?_
 exact rt Tryz.results66 rfl

theorem zb7 (x_c : scan_Scanner) (R : Int) (w0 : World) (hG : zt w0) {x_c_b0 : Nat} (hs0 : zaU w0 (some ⟨x_c_b0, 0, none⟩) [str x_c.f_s, int x_c.f_at]) (hm : zaW x_c = some R) :
    Calls Tryz.prog 97 #[ptr x_c_b0 0] w0 (Ret w0 (fun R => int R) R) := by
 rw [zaW] at hm
 have hF : zG [] := ze
 have hO : Dk.Own w0 [] w0 [] := Dk.Own.refl w0
 have hO := hO.addShr hs0 (by simp [Res.shared])
 refine S.enter tb Tryz.func97 rfl Tryz.ntmps97 rfl ?_ hO hm
 refine vl rfl rfl (fun a w hf hO => zgp Tryz.underlying110 hf rfl rfl) ?_
 refine kn (b' := false) rfl rfl ?_
 refine vl rfl rfl (fun a w hf hO => zb (o := 1) zo0 (hO.sees (i := 0) rfl) rfl hf rfl) ?_
 exact rt Tryz.results97 rfl

theorem zaQ (x_c : scan_Scanner) (R : UInt8 × Bool) (w0 : World) (hG : zt w0) {x_c_b0 : Nat} (hs0 : zaU w0 (some ⟨x_c_b0, 0, none⟩) [str x_c.f_s, int x_c.f_at]) (hm : zC x_c = some R) :
    Calls Tryz.prog 99 #[ptr x_c_b0 0] w0 (Ret w0 (fun R => .tuple #[zQ R.1, .bool R.2]) R) := by
 rw [zC] at hm
 have hF : zG [] := ze
 have hO : Dk.Own w0 [] w0 [] := Dk.Own.refl w0
 have hO := hO.addShr hs0 (by simp [Res.shared])
 refine S.enter tb Tryz.func99 rfl Tryz.ntmps99 rfl ?_ hO hm
 refine cl c_66 rfl (fun r2 w hr2 hO => zd5 x_c r2 _ (hG.own hF hO) (hO.sees (i := 0) rfl) hr2) fun r2 hr2 => ?_
 refine br rfl (fun hc4 => ?_) fun hc4 => ?_
 exact rt Tryz.results99 rfl
 refine rc_ rfl fun a w hf hO hm => ?_
 refine ze7 (by kernel_rfl) (by kernel_rfl) hO ?_
 refine zw (fun w hO => zv hf rfl) rfl hf rfl rfl fun a hf => ?_
 refine zw (fun w hO => zbc hf rfl) rfl hf rfl rfl fun a hf => ?_
 refine zw (fun w hO => zaz zjb hf rfl) rfl hf rfl rfl fun a hf => ?_
 refine zw (fun w hO => zb (o := 0) zab (hO.sees (i := 0) rfl) rfl hf rfl) rfl hf rfl rfl fun a hf => ?_
 refine zw (fun w hO => zv hf rfl) rfl hf rfl rfl fun a hf => ?_
 refine zw (fun w hO => zbc hf rfl) rfl hf rfl rfl fun a hf => ?_
 refine zw (fun w hO => zaz zjc hf rfl) rfl hf rfl rfl fun a hf => ?_
 refine zw (fun w hO => zb (o := 1) zo0 (hO.sees (i := 0) rfl) rfl hf rfl) rfl hf rfl rfl fun a hf => ?_
 obtain ⟨b7, hb7, hm⟩ := ob hm
 refine zw (fun w hO => zi1 (l := x_c.f_s) Tryz.underlying9 hf rfl rfl hb7) rfl hf rfl rfl fun a hf => ?_
 refine zw (fun w hO => zcY hf rfl) rfl hf rfl rfl fun a hf => ?_
 refine zw (fun w hO => zcY hf rfl) rfl hf rfl rfl fun a hf => ?_
 refine wpQuiet_nil ?_
 intro w hO
 refine S.no tb ?_ hf hO hm
 exact rt Tryz.results99 rfl

theorem zI (x_c : scan_Scanner) (x_b : UInt8) (R : Bool × scan_Scanner) (w0 : World) (hG : zt w0) {x_c_b0 : Nat} {F : List Nat} (hF : zG F) (hO : Dk.Own w0 F w0 [.blk x_c_b0 [str x_c.f_s, int x_c.f_at] 137]) (hm : zg x_c x_b = some R) :
    Calls Tryz.prog 70 #[ptr x_c_b0 0, zQ x_b] w0 fun e w' => e = .returned (.bool R.1) ∧ Dk.Own w0 F w' [.blk x_c_b0 [str R.2.f_s, int R.2.f_at] 137] := by
 rw [zg] at hm
 refine S.enter tb Tryz.func70 rfl Tryz.ntmps70 rfl ?_ hO hm
 refine cl c_99 rfl (fun r2 w hr2 hO => zaQ x_c r2 _ (hG.own hF hO) (hO.blkSees (i := 0) rfl) hr2) fun r2 hr2 => ?_
 refine jn 1 (fun a w => ∃ (t5 : Bool), Fits 26 [(0, ptr x_c_b0 0), (18, .bool t5)] a ∧ Dk.Own w0 F w [.blk x_c_b0 [str x_c.f_s, int x_c.f_at] 137] ∧ zbd x_c t5 = some R) rfl ?_ ?_
 refine br rfl (fun hc4 => ?_) fun hc4 => ?_
 exact en rfl fun a w hf hO hm => ⟨true, hf.sel rfl, hO, hm⟩
 refine vl rfl rfl (fun a w hf hO => zdf (b := r2.1) (c := x_b) hf rfl rfl) ?_
 exact en rfl fun a w hf hO hm => ⟨!(r2.1 == x_b), hf.sel rfl, hO, hm⟩
 rintro a w ⟨t5, hf, hO, hm⟩
 rw [zbd] at hm
 refine S.co tb ?_ hf hO hm
 refine br rfl (fun hc6 => ?_) fun hc6 => ?_
 refine re_ rfl fun a w hf hO hm => ?_
 obtain rfl := Option.some.inj hm
 exact zi Tryz.results70 hf (.tmp rfl .nil) ⟨rfl, hO⟩
 refine vl rfl rfl (fun a w hf hO => zb (o := 1) zo0 (hO.blkSees (i := 0) rfl) rfl hf rfl) ?_
 refine bi rfl fun i9 hi9 => ?_
 refine rw_ rfl fun a w hf hO hm => ?_
 refine zP (i := 0) (o := 1) (v := int i9) sz_3 rfl rfl rfl rfl hf rfl rfl hO fun w hO => ?_
 refine S.op tb ?_ hf hO hm
 refine re_ rfl fun a w hf hO hm => ?_
 obtain rfl := Option.some.inj hm
 exact zi Tryz.results70 hf (.tmp rfl .nil) ⟨rfl, hO⟩

theorem zeO (x_p : commas_splitter) (x_at : Int) (R : commas_splitter) (w0 : World) (hG : zt w0) {x_p_b0 : Nat} {x_p_b1 : Nat} {x_p_p2 : Option Addr} {x_p_c2 : Nat} {F : List Nat} (hF : zG F) (hO : Dk.Own w0 F w0 [.blk x_p_b0 [ptr x_p_b1 0, .slice x_p_p2 x_p.f_out.length x_p_c2, int x_p.f_from, str x_p.f_s] 113, .blk x_p_b1 [str x_p.Scanner.f_s, int x_p.Scanner.f_at] 137, .row (.slice x_p_p2 x_p.f_out.length x_p_c2) 9 1 x_p.f_out.length (cells zd x_p.f_out)]) (hm : zaR x_p x_at = some R) :
    Calls Tryz.prog 68 #[ptr x_p_b0 0, int x_at] w0 fun e w' => ∃ (p0 : Option Addr) (c0 : Nat), e = .returned (.tuple #[]) ∧ Dk.Own w0 F w' [.blk x_p_b0 [ptr x_p_b1 0, .slice p0 R.f_out.length c0, int R.f_from, str R.f_s] 113, .blk x_p_b1 [str R.Scanner.f_s, int R.Scanner.f_at] 137, .row (.slice p0 R.f_out.length c0) 9 1 R.f_out.length (cells zd R.f_out)] := by
 rw [zaR] at hm
 refine S.enter tb Tryz.func68 rfl Tryz.ntmps68 rfl ?_ hO hm
 refine jn 0 (fun a w => ∃ (p10 : Option Addr) (c11 : Nat) (l12 : List Str), Fits 36 [(0, ptr x_p_b0 0)] a ∧ Dk.Own w0 F w [.blk x_p_b0 [ptr x_p_b1 0, .slice p10 l12.length c11, int x_p.f_from, str x_p.f_s] 113, .blk x_p_b1 [str x_p.Scanner.f_s, int x_p.Scanner.f_at] 137, .row (.slice p10 l12.length c11) 9 1 l12.length (cells zd l12)] ∧ zaK x_p l12 = some R) rfl ?_ ?_
 refine rc_ rfl fun a w hf hO hm => ?_
 refine ze7 (by kernel_rfl) (by kernel_rfl) hO ?_
 refine zw (fun w hO => zv hf rfl) rfl hf rfl rfl fun a hf => ?_
 refine zw (fun w hO => zbc hf rfl) rfl hf rfl rfl fun a hf => ?_
 refine zw (fun w hO => zaz zn6 hf rfl) rfl hf rfl rfl fun a hf => ?_
 refine zw (fun w hO => zb (o := 3) zab (hO.blkSees (i := 0) rfl) rfl hf rfl) rfl hf rfl rfl fun a hf => ?_
 refine zw (fun w hO => zv hf rfl) rfl hf rfl rfl fun a hf => ?_
 refine zw (fun w hO => zbc hf rfl) rfl hf rfl rfl fun a hf => ?_
 refine zw (fun w hO => zaz zn5 hf rfl) rfl hf rfl rfl fun a hf => ?_
 refine zw (fun w hO => zb (o := 2) zo0 (hO.blkSees (i := 0) rfl) rfl hf rfl) rfl hf rfl rfl fun a hf => ?_
 refine zw (fun w hO => zv hf rfl) rfl hf rfl rfl fun a hf => ?_
 obtain ⟨s1, hs1, hm⟩ := ob hm
 refine zw (fun w hO => zgq (l := x_p.f_s) Tryz.underlying9 hf rfl rfl rfl hs1) rfl hf rfl rfl fun a hf => ?_
 obtain ⟨r2, hr2, hm⟩ := ob hm
 refine zqK (fun w hO => zr c_91 hf (vs := [str s1, str [32, 9]]) rfl) rfl hf rfl rfl (fun w hO => (zhH s1 [32, 9] r2 _ (hG.own hF hO) hr2).mono fun e w' ⟨he, hb⟩ => ⟨he, hO.grow hb⟩) fun a hf => ?_
 refine zw (fun w hO => zcY hf rfl) rfl hf rfl rfl fun a hf => ?_
 refine wpQuiet_nil ?_
 intro w hO
 refine S.no tb ?_ hf hO hm
 refine br rfl (fun hc5 => ?_) fun hc5 => ?_
 refine vl rfl rfl (fun a w hf hO => zb (o := 1) ag_41 (hO.blkSees (i := 0) rfl) rfl hf rfl) ?_
 refine rw_ rfl fun a w hf hO hm => ?_
 refine zs (vs := [(0, str r2)]) (cs := [str r2]) (e := 9) (sz := 1) hf rfl rfl (fun w => by kernel_rfl) rfl rfl hO fun a b6 w hf hO => ?_
 refine S.op tb ?_ hf hO hm
 refine rw_ rfl fun a w hf hO hm => ?_
 obtain ⟨hg9, hm⟩ := og hm
 refine zbS zlr (enc := zd) (xs := x_p.f_out) (ys := ([r2] : List Str)) (i := 3) (fun _ => rfl) rfl (hO.rowSees (i := 0) rfl) (by simp [cells, zd, Value.oneCell']) hg9 hf rfl rfl rfl hO fun a p7 c8 w hf hO => ?_
 refine S.op tb ?_ hf hO hm
 refine rw_ rfl fun a w hf hO hm => ?_
 refine zP (i := 1) (o := 1) (v := .slice p7 ((x_p.f_out ++ ([r2] : List Str)).length) c8) sz_41 rfl rfl rfl rfl hf rfl rfl hO fun w hO => ?_
 refine S.op tb ?_ hf hO hm
 exact en rfl fun a w hf hO hm => ⟨p7, c8, x_p.f_out ++ ([r2] : List Str), hf.sel rfl, (hO.sub (.cons _ (.cons_cons _ (.cons_cons _ (.cons_cons _ .slnil))))), hm⟩
 exact en rfl fun a w hf hO hm => ⟨x_p_p2, x_p_c2, x_p.f_out, hf.sel rfl, hO, hm⟩
 rintro a w ⟨p10, c11, l12, hf, hO, hm⟩
 rw [zaK] at hm
 refine S.co tb ?_ hf hO hm
 refine vl rfl rfl (fun a w hf hO => zb (o := 0) zbq (hO.blkSees (i := 0) rfl) rfl hf rfl) ?_
 refine cl c_97 rfl (fun r13 w hr13 hO => zb7 x_p.Scanner r13 _ (hG.own hF hO) (hO.blkSees (i := 1) rfl) hr13) fun r13 hr13 => ?_
 refine rw_ rfl fun a w hf hO hm => ?_
 refine zP (i := 0) (o := 2) (v := int r13) sz_3 rfl rfl rfl rfl hf rfl rfl hO fun w hO => ?_
 refine S.op tb ?_ hf hO hm
 refine rn_ rfl fun a w hf hO hm => ?_
 obtain rfl := Option.some.inj hm
 exact zi2 Tryz.results68 hf .nil ⟨p10, c11, rfl, hO⟩

theorem zfY (x_p : commas_splitter) (R : Bool × commas_splitter) (w0 : World) (hG : zt w0) {x_p_b0 : Nat} {x_p_b1 : Nat} {x_p_p2 : Option Addr} {x_p_c2 : Nat} {F : List Nat} (hF : zG F) (hO : Dk.Own w0 F w0 [.blk x_p_b0 [ptr x_p_b1 0, .slice x_p_p2 x_p.f_out.length x_p_c2, int x_p.f_from, str x_p.f_s] 113, .blk x_p_b1 [str x_p.Scanner.f_s, int x_p.Scanner.f_at] 137, .row (.slice x_p_p2 x_p.f_out.length x_p_c2) 9 1 x_p.f_out.length (cells zd x_p.f_out)]) (hm : zaC x_p = some R) :
    Calls Tryz.prog 98 #[ptr x_p_b0 0] w0 fun e w' => ∃ (p0 : Option Addr) (c0 : Nat), e = .returned (.bool R.1) ∧ Dk.Own w0 F w' [.blk x_p_b0 [ptr x_p_b1 0, .slice p0 R.2.f_out.length c0, int R.2.f_from, str R.2.f_s] 113, .blk x_p_b1 [str R.2.Scanner.f_s, int R.2.Scanner.f_at] 137, .row (.slice p0 R.2.f_out.length c0) 9 1 R.2.f_out.length (cells zd R.2.f_out)] := by
 rw [zaC] at hm
 refine S.enter tb Tryz.func98 rfl Tryz.ntmps98 rfl ?_ hO hm
 refine jn 0 (fun a w => ∃ (s33 : Str) (i34 : Int), Fits 52 [] a ∧ Dk.Own w0 F w [.blk x_p_b0 [ptr x_p_b1 0, .slice x_p_p2 x_p.f_out.length x_p_c2, int x_p.f_from, str x_p.f_s] 113, .blk x_p_b1 [str s33, int i34] 137, .row (.slice x_p_p2 x_p.f_out.length x_p_c2) 9 1 x_p.f_out.length (cells zd x_p.f_out)] ∧ zbU x_p s33 i34 = some R) rfl ?_ ?_
 refine lp (fun k a w => ∃ (s3 : Str) (i4 : Int) (i5 : Int), Fits 52 [(0, ptr x_p_b0 0), (3, int i5)] a ∧ Dk.Own w0 F w [.blk x_p_b0 [ptr x_p_b1 0, .slice x_p_p2 x_p.f_out.length x_p_c2, int x_p.f_from, str x_p.f_s] 113, .blk x_p_b1 [str s3, int i4] 137, .row (.slice x_p_p2 x_p.f_out.length x_p_c2) 9 1 x_p.f_out.length (cells zd x_p.f_out)] ∧ zh x_p k s3 i4 i5 = some R) rfl (fun a w hf hO hm => ⟨x_p.Scanner.f_s, x_p.Scanner.f_at, 1, hf.sel rfl, hO, hm⟩) ?_
 rintro n1 a w ⟨s3, i4, i5, hf, hO, hm⟩
 obtain _ | n1 := n1
 rw [zh] at hm
 cases hm
 rw [zh] at hm
 refine S.co tb ?_ hf hO hm
 refine br rfl (fun hc7 => ?_) fun hc7 => ?_
 refine vl rfl rfl (fun a w hf hO => zb (o := 0) zbq (hO.blkSees (i := 0) rfl) rfl hf rfl) ?_
 refine cl c_99 rfl (fun r9 w hr9 hO => zaQ (⟨s3, i4⟩ : scan_Scanner) r9 _ (hG.own hF hO) (hO.blkSees (i := 1) rfl) hr9) fun r9 hr9 => ?_
 refine br rfl (fun hc12 => ?_) fun hc12 => ?_
 refine re_ rfl fun a w hf hO hm => ?_
 obtain rfl := Option.some.inj hm
 exact zi Tryz.results98 hf (.tmp rfl .nil) ⟨x_p_p2, x_p_c2, rfl, hO⟩
 refine vl rfl rfl (fun a w hf hO => zb (o := 0) zbq (hO.blkSees (i := 0) rfl) rfl hf rfl) ?_
 refine rw_ rfl fun a w hf hO hm => ?_
 obtain ⟨r15, hr15, hm⟩ := ob hm
 have hch16 := (show Dk.Own w0 F _ ([.blk x_p_b1 [str s3, int i4] 137] ++ [.blk x_p_b0 [ptr x_p_b1 0, .slice x_p_p2 x_p.f_out.length x_p_c2, int x_p.f_from, str x_p.f_s] 113, .row (.slice x_p_p2 x_p.f_out.length x_p_c2) 9 1 x_p.f_out.length (cells zd x_p.f_out)]) from hO.choose [1, 0, 2] rfl)
 have hfar16 := Dk.Own.far hch16 rfl hF hG.size
 have hlend16 := hch16.lend (S := []) rfl trivial
 have hcl16 := zI (⟨s3, i4⟩ : scan_Scanner) r9.1 r15 _ (hG.own hF hO) hfar16 hlend16 hr15
 refine zo (zr zlu hf (vs := [ptr x_p_b1 0, zQ r9.1]) rfl) rfl hf rfl rfl (hcl16) ?_
 rintro e w' ⟨he, hO'⟩
 refine ⟨_, he, fun a hf => ?_⟩
 have hO := hch16.back rfl hO' rfl
 refine S.op tb ?_ hf hO hm
 refine vl rfl rfl (fun a w hf hO => zL (b := r9.1) (c := 40) hf rfl rfl) ?_
 refine br rfl (fun hc20 => ?_) fun hc20 => ?_
 refine bi rfl fun i21 hi21 => ?_
 exact en rfl fun a w hf hO hm => ⟨_, Nat.lt_succ_self _, r15.2.f_s, r15.2.f_at, i21, hf.sel rfl, (hO.choose [1, 0, 2] rfl), hm⟩
 refine vl rfl rfl (fun a w hf hO => zL (b := r9.1) (c := 41) hf rfl rfl) ?_
 refine br rfl (fun hc23 => ?_) fun hc23 => ?_
 refine bi rfl fun i24 hi24 => ?_
 exact en rfl fun a w hf hO hm => ⟨_, Nat.lt_succ_self _, r15.2.f_s, r15.2.f_at, i24, hf.sel rfl, (hO.choose [1, 0, 2] rfl), hm⟩
 refine vl rfl rfl (fun a w hf hO => zL (b := r9.1) (c := 92) hf rfl rfl) ?_
 refine br rfl (fun hc26 => ?_) fun hc26 => ?_
 refine vl rfl rfl (fun a w hf hO => zb (o := 0) zbq (hO.blkSees (i := 1) rfl) rfl hf rfl) ?_
 refine cl c_99 rfl (fun r27 w hr27 hO => zaQ r15.2 r27 _ (hG.own hF hO) (hO.blkSees (i := 0) rfl) hr27) fun r27 hr27 => ?_
 refine br rfl (fun hc30 => ?_) fun hc30 => ?_
 refine vl rfl rfl (fun a w hf hO => zb (o := 0) zbq (hO.blkSees (i := 1) rfl) rfl hf rfl) ?_
 refine rw_ rfl fun a w hf hO hm => ?_
 obtain ⟨r31, hr31, hm⟩ := ob hm
 have hch32 := (show Dk.Own w0 F _ ([.blk x_p_b1 [str r15.2.f_s, int r15.2.f_at] 137] ++ [.blk x_p_b0 [ptr x_p_b1 0, .slice x_p_p2 x_p.f_out.length x_p_c2, int x_p.f_from, str x_p.f_s] 113, .row (.slice x_p_p2 x_p.f_out.length x_p_c2) 9 1 x_p.f_out.length (cells zd x_p.f_out)]) from hO)
 have hfar32 := Dk.Own.far hch32 rfl hF hG.size
 have hlend32 := hch32.lend (S := []) rfl trivial
 have hcl32 := zI r15.2 r27.1 r31 _ (hG.own hF hO) hfar32 hlend32 hr31
 refine zo (zr zlu hf (vs := [ptr x_p_b1 0, zQ r27.1]) rfl) rfl hf rfl rfl (hcl32) ?_
 rintro e w' ⟨he, hO'⟩
 refine ⟨_, he, fun a hf => ?_⟩
 have hO := hch32.back rfl hO' rfl
 refine S.op tb ?_ hf hO hm
 exact en rfl fun a w hf hO hm => ⟨_, Nat.lt_succ_self _, r31.2.f_s, r31.2.f_at, i5, hf.sel rfl, (hO.choose [1, 0, 2] rfl), hm⟩
 exact en rfl fun a w hf hO hm => ⟨_, Nat.lt_succ_self _, r15.2.f_s, r15.2.f_at, i5, hf.sel rfl, (hO.choose [1, 0, 2] rfl), hm⟩
 exact en rfl fun a w hf hO hm => ⟨_, Nat.lt_succ_self _, r15.2.f_s, r15.2.f_at, i5, hf.sel rfl, (hO.choose [1, 0, 2] rfl), hm⟩
 exact en rfl fun a w hf hO hm => ⟨s3, i4, hf.sel rfl, hO, hm⟩
 rintro a w ⟨s33, i34, hf, hO, hm⟩
 rw [zbU] at hm
 refine S.co tb ?_ hf hO hm
 refine re_ rfl fun a w hf hO hm => ?_
 obtain rfl := Option.some.inj hm
 exact zi Tryz.results98 hf (.tmp rfl .nil) ⟨x_p_p2, x_p_c2, rfl, hO⟩

theorem zjk (x_b : UInt8) (R : Bool) (w0 : World) (hG : zt w0) (hm : zfq x_b = some R) :
    Calls Tryz.prog 173 #[zQ x_b] w0 (Ret w0 (fun R => .bool R) R) := by
 rw [zfq] at hm
 have hF : zG [] := ze
 have hO : Dk.Own w0 [] w0 [] := Dk.Own.refl w0
 refine S.enter tb Tryz.func173 rfl Tryz.ntmps173 rfl ?_ hO hm
 refine jn 0 (fun a w => ∃ (t3 : Bool), Fits 9 [(2, .bool t3)] a ∧ Dk.Own w0 [] w [] ∧ zcL t3 = some R) rfl ?_ ?_
 refine vl rfl rfl (fun a w hf hO => znO (b := x_b) (c := 32) hf rfl rfl) ?_
 refine br rfl (fun hc2 => ?_) fun hc2 => ?_
 refine vl rfl rfl (fun a w hf hO => zqO (b := x_b) (c := 127) hf rfl rfl) ?_
 exact en rfl fun a w hf hO hm => ⟨decide (x_b < 127), hf.sel rfl, hO, hm⟩
 exact en rfl fun a w hf hO hm => ⟨false, hf.sel rfl, hO, hm⟩
 rintro a w ⟨t3, hf, hO, hm⟩
 rw [zcL] at hm
 refine S.co tb ?_ hf hO hm
 exact rt Tryz.results173 rfl

theorem zky (x_b : UInt8) (R : Bool) (w0 : World) (hG : zt w0) (hm : zgg x_b = some R) :
    Calls Tryz.prog 145 #[zQ x_b] w0 (Ret w0 (fun R => .bool R) R) := by
 rw [zgg] at hm
 have hF : zG [] := ze
 have hO : Dk.Own w0 [] w0 [] := Dk.Own.refl w0
 refine S.enter tb Tryz.func145 rfl Tryz.ntmps145 rfl ?_ hO hm
 refine jn 0 (fun a w => ∃ (t3 : Bool), Fits 9 [(2, .bool t3)] a ∧ Dk.Own w0 [] w [] ∧ zdD t3 = some R) rfl ?_ ?_
 refine vl rfl rfl (fun a w hf hO => zL (b := x_b) (c := 32) hf rfl rfl) ?_
 refine br rfl (fun hc2 => ?_) fun hc2 => ?_
 exact en rfl fun a w hf hO hm => ⟨true, hf.sel rfl, hO, hm⟩
 refine vl rfl rfl (fun a w hf hO => zL (b := x_b) (c := 9) hf rfl rfl) ?_
 exact en rfl fun a w hf hO hm => ⟨x_b == 9, hf.sel rfl, hO, hm⟩
 rintro a w ⟨t3, hf, hO, hm⟩
 rw [zdD] at hm
 refine S.co tb ?_ hf hO hm
 exact rt Tryz.results145 rfl

theorem zha (x_b : UInt8) (R : Bool) (w0 : World) (hG : zt w0) (hm : zch x_b = some R) :
    Calls Tryz.prog 144 #[zQ x_b] w0 (Ret w0 (fun R => .bool R) R) := by
 rw [zch] at hm
 have hF : zG [] := ze
 have hO : Dk.Own w0 [] w0 [] := Dk.Own.refl w0
 refine S.enter tb Tryz.func144 rfl Tryz.ntmps144 rfl ?_ hO hm
 refine jn 0 (fun a w => ∃ (t6 : Bool), Fits 13 [(2, .bool t6)] a ∧ Dk.Own w0 [] w [] ∧ zco t6 = some R) rfl ?_ ?_
 refine cl c_173 rfl (fun r2 w hr2 hO => zjk x_b r2 _ (hG.own hF hO) hr2) fun r2 hr2 => ?_
 refine br rfl (fun hc3 => ?_) fun hc3 => ?_
 exact en rfl fun a w hf hO hm => ⟨true, hf.sel rfl, hO, hm⟩
 refine cl c_145 rfl (fun r4 w hr4 hO => zky x_b r4 _ (hG.own hF hO) hr4) fun r4 hr4 => ?_
 refine br rfl (fun hc5 => ?_) fun hc5 => ?_
 exact en rfl fun a w hf hO hm => ⟨true, hf.sel rfl, hO, hm⟩
 refine vl rfl rfl (fun a w hf hO => znO (b := x_b) (c := 127) hf rfl rfl) ?_
 exact en rfl fun a w hf hO hm => ⟨decide (127 < x_b), hf.sel rfl, hO, hm⟩
 rintro a w ⟨t6, hf, hO, hm⟩
 rw [zco] at hm
 refine S.co tb ?_ hf hO hm
 exact rt Tryz.results144 rfl

theorem zhN (x_r : quoted_reader) (R : Bool × quoted_reader) (w0 : World) (hG : zt w0) {x_r_b0 : Nat} {x_r_b1 : Nat} {x_r_p2 : Option Addr} {x_r_c2 : Nat} {F : List Nat} (hF : zG F) (hO : Dk.Own w0 F w0 [.blk x_r_b0 [ptr x_r_b1 0, .slice x_r_p2 x_r.f_out.length x_r_c2] 176, .blk x_r_b1 [str x_r.Scanner.f_s, int x_r.Scanner.f_at] 137, .row (.slice x_r_p2 x_r.f_out.length x_r_c2) 5 1 x_r.f_out.length (cells zbw x_r.f_out)]) (hm : za4 x_r = some R) :
    Calls Tryz.prog 137 #[ptr x_r_b0 0] w0 fun e w' => ∃ (p0 : Option Addr) (c0 : Nat), e = .returned (.bool R.1) ∧ Dk.Own w0 F w' [.blk x_r_b0 [ptr x_r_b1 0, .slice p0 R.2.f_out.length c0] 176, .blk x_r_b1 [str R.2.Scanner.f_s, int R.2.Scanner.f_at] 137, .row (.slice p0 R.2.f_out.length c0) 5 1 R.2.f_out.length (cells zbw R.2.f_out)] := by
 rw [za4] at hm
 refine S.enter tb Tryz.func137 rfl Tryz.ntmps137 rfl ?_ hO hm
 refine vl rfl rfl (fun a w hf hO => zb (o := 0) zbq (hO.blkSees (i := 0) rfl) rfl hf rfl) ?_
 refine rw_ rfl fun a w hf hO hm => ?_
 obtain ⟨r2, hr2, hm⟩ := ob hm
 have hch3 := (show Dk.Own w0 F _ ([.blk x_r_b1 [str x_r.Scanner.f_s, int x_r.Scanner.f_at] 137] ++ [.blk x_r_b0 [ptr x_r_b1 0, .slice x_r_p2 x_r.f_out.length x_r_c2] 176, .row (.slice x_r_p2 x_r.f_out.length x_r_c2) 5 1 x_r.f_out.length (cells zbw x_r.f_out)]) from hO.choose [1, 0, 2] rfl)
 have hfar3 := Dk.Own.far hch3 rfl hF hG.size
 have hlend3 := hch3.lend (S := []) rfl trivial
 have hcl3 := zI x_r.Scanner 92 r2 _ (hG.own hF hO) hfar3 hlend3 hr2
 refine zo (zr zlu hf (vs := [ptr x_r_b1 0, zQ 92]) rfl) rfl hf rfl rfl (hcl3) ?_
 rintro e w' ⟨he, hO'⟩
 refine ⟨_, he, fun a hf => ?_⟩
 have hO := hch3.back rfl hO' rfl
 refine S.op tb ?_ hf hO hm
 refine vl rfl rfl (fun a w hf hO => zb (o := 0) zbq (hO.blkSees (i := 1) rfl) rfl hf rfl) ?_
 refine cl c_99 rfl (fun r5 w hr5 hO => zaQ r2.2 r5 _ (hG.own hF hO) (hO.blkSees (i := 0) rfl) hr5) fun r5 hr5 => ?_
 refine jn 1 (fun a w => ∃ (t9 : Bool), Fits 41 [(0, ptr x_r_b0 0), (3, zQ r5.1), (24, .bool t9)] a ∧ Dk.Own w0 F w [.blk x_r_b1 [str r2.2.f_s, int r2.2.f_at] 137, .blk x_r_b0 [ptr x_r_b1 0, .slice x_r_p2 x_r.f_out.length x_r_c2] 176, .row (.slice x_r_p2 x_r.f_out.length x_r_c2) 5 1 x_r.f_out.length (cells zbw x_r.f_out)] ∧ zaZ x_r r2 r5 t9 = some R) rfl ?_ ?_
 refine br rfl (fun hc7 => ?_) fun hc7 => ?_
 exact en rfl fun a w hf hO hm => ⟨true, hf.sel rfl, hO, hm⟩
 refine cl c_144 rfl (fun r8 w hr8 hO => zha r5.1 r8 _ (hG.own hF hO) hr8) fun r8 hr8 => ?_
 exact en rfl fun a w hf hO hm => ⟨!r8, hf.sel rfl, hO, hm⟩
 rintro a w ⟨t9, hf, hO, hm⟩
 rw [zaZ] at hm
 refine S.co tb ?_ hf hO hm
 refine br rfl (fun hc10 => ?_) fun hc10 => ?_
 refine re_ rfl fun a w hf hO hm => ?_
 obtain rfl := Option.some.inj hm
 exact zi Tryz.results137 hf (.tmp rfl .nil) ⟨x_r_p2, x_r_c2, rfl, (hO.choose [1, 0, 2] rfl)⟩
 refine vl rfl rfl (fun a w hf hO => zb (o := 1) zq6 (hO.blkSees (i := 1) rfl) rfl hf rfl) ?_
 refine rw_ rfl fun a w hf hO hm => ?_
 refine zs (vs := [(0, zQ r5.1)]) (cs := [zQ r5.1]) (e := 5) (sz := 1) hf rfl rfl (fun w => by kernel_rfl) rfl rfl hO fun a b13 w hf hO => ?_
 refine S.op tb ?_ hf hO hm
 refine rw_ rfl fun a w hf hO hm => ?_
 obtain ⟨hg16, hm⟩ := og hm
 refine zbS el_159 (enc := zbw) (xs := x_r.f_out) (ys := [r5.1]) (i := 3) (fun _ => rfl) rfl (hO.rowSees (i := 0) rfl) (by simp [cells, zbw, Value.oneCell']) hg16 hf rfl rfl rfl hO fun a p14 c15 w hf hO => ?_
 refine S.op tb ?_ hf hO hm
 refine rw_ rfl fun a w hf hO hm => ?_
 refine zP (i := 2) (o := 1) (v := .slice p14 ((x_r.f_out ++ [r5.1]).length) c15) sz_159 rfl rfl rfl rfl hf rfl rfl hO fun w hO => ?_
 refine S.op tb ?_ hf hO hm
 refine vl rfl rfl (fun a w hf hO => zb (o := 0) zbq (hO.blkSees (i := 2) rfl) rfl hf rfl) ?_
 refine rw_ rfl fun a w hf hO hm => ?_
 obtain ⟨r18, hr18, hm⟩ := ob hm
 have hch19 := (show Dk.Own w0 F _ ([.blk x_r_b1 [str r2.2.f_s, int r2.2.f_at] 137] ++ [.row (.slice (some ⟨b13, 0, none⟩) ([r5.1].length) 1) 5 1 ([r5.1].length) (cells zbw [r5.1]), .blk x_r_b0 [ptr x_r_b1 0, .slice p14 ((x_r.f_out ++ [r5.1]).length) c15] 176, .row (.slice p14 ((x_r.f_out ++ [r5.1]).length) c15) 5 1 ((x_r.f_out ++ [r5.1]).length) (cells zbw (x_r.f_out ++ [r5.1]))]) from hO.choose [1, 0, 2, 3] rfl)
 have hfar19 := Dk.Own.far hch19 rfl hF hG.size
 have hlend19 := hch19.lend (S := []) rfl trivial
 have hcl19 := zI r2.2 r5.1 r18 _ (hG.own hF hO) hfar19 hlend19 hr18
 refine zo (zr zlu hf (vs := [ptr x_r_b1 0, zQ r5.1]) rfl) rfl hf rfl rfl (hcl19) ?_
 rintro e w' ⟨he, hO'⟩
 refine ⟨_, he, fun a hf => ?_⟩
 have hO := hch19.back rfl hO' rfl
 refine S.op tb ?_ hf hO hm
 refine re_ rfl fun a w hf hO hm => ?_
 obtain rfl := Option.some.inj hm
 exact zi Tryz.results137 hf (.tmp rfl .nil) ⟨p14, c15, rfl, (hO.choose [2, 0, 3] rfl)⟩

end Go.Proofs
end
section
set_option linter.unusedVariables false
set_option maxHeartbeats 1000000
set_option linter.unusedSimpArgs false
set_option maxRecDepth 100000
namespace Go.Proofs
open Go.Dk Go.Dm Go.RowKit

theorem zh3 (x_c : scan_Scanner) (x_at : Int) (R : Bool × scan_Scanner) (w0 : World) (hG : zt w0) {x_c_b0 : Nat} {F : List Nat} (hF : zG F) (hO : Dk.Own w0 F w0 [.blk x_c_b0 [str x_c.f_s, int x_c.f_at] 137]) (hm : zb9 x_c x_at = some R) :
    Calls Tryz.prog 138 #[ptr x_c_b0 0, int x_at] w0 fun e w' => e = .returned (.bool R.1) ∧ Dk.Own w0 F w' [.blk x_c_b0 [str R.2.f_s, int R.2.f_at] 137] := by
 rw [zb9] at hm
 refine S.enter tb Tryz.func138 rfl Tryz.ntmps138 rfl ?_ hO hm
 refine jn 1 (fun a w => ∃ (t4 : Bool), Fits 19 [(0, ptr x_c_b0 0), (1, int x_at), (12, .bool t4)] a ∧ Dk.Own w0 F w [.blk x_c_b0 [str x_c.f_s, int x_c.f_at] 137] ∧ zbe x_c x_at t4 = some R) rfl ?_ ?_
 refine br rfl (fun hc2 => ?_) fun hc2 => ?_
 exact en rfl fun a w hf hO hm => ⟨true, hf.sel rfl, hO, hm⟩
 refine cl c_97 rfl (fun r3 w hr3 hO => zb7 x_c r3 _ (hG.own hF hO) (hO.blkSees (i := 0) rfl) hr3) fun r3 hr3 => ?_
 exact en rfl fun a w hf hO hm => ⟨decide (r3 < x_at), hf.sel rfl, hO, hm⟩
 rintro a w ⟨t4, hf, hO, hm⟩
 rw [zbe] at hm
 refine S.co tb ?_ hf hO hm
 refine br rfl (fun hc5 => ?_) fun hc5 => ?_
 refine re_ rfl fun a w hf hO hm => ?_
 obtain rfl := Option.some.inj hm
 exact zi Tryz.results138 hf (.tmp rfl .nil) ⟨rfl, hO⟩
 refine vl rfl rfl (fun a w hf hO => zmx Tryz.underlying110 hf rfl rfl) ?_
 refine kn (b' := true) rfl rfl ?_
 refine rw_ rfl fun a w hf hO hm => ?_
 refine zP (i := 0) (o := 1) (v := int x_at) sz_3 rfl rfl rfl rfl hf rfl rfl hO fun w hO => ?_
 refine S.op tb ?_ hf hO hm
 refine re_ rfl fun a w hf hO hm => ?_
 obtain rfl := Option.some.inj hm
 exact zi Tryz.results138 hf (.tmp rfl .nil) ⟨rfl, hO⟩

theorem zmn (x_c : scan_Scanner) (R : Str × Bool × scan_Scanner) (w0 : World) (hG : zt w0) {x_c_b0 : Nat} {F : List Nat} (hF : zG F) (hO : Dk.Own w0 F w0 [.blk x_c_b0 [str x_c.f_s, int x_c.f_at] 137]) (hm : zfg x_c = some R) :
    Calls Tryz.prog 100 #[ptr x_c_b0 0] w0 fun e w' => e = .returned (.tuple #[str R.1, .bool R.2.1]) ∧ Dk.Own w0 F w' [.blk x_c_b0 [str R.2.2.f_s, int R.2.2.f_at] 137] := by
 rw [zfg] at hm
 refine S.enter tb Tryz.func100 rfl Tryz.ntmps100 rfl ?_ hO hm
 refine cl c_97 rfl (fun r2 w hr2 hO => zb7 x_c r2 _ (hG.own hF hO) (hO.blkSees (i := 0) rfl) hr2) fun r2 hr2 => ?_
 refine vl rfl rfl (fun a w hf hO => zS (vs := [(0, ptr x_c_b0 0)]) (v := .agg #[ptr x_c_b0 0, .slice none 0 0]) hf rfl (by kernel_rfl)) ?_
 refine rw_ rfl fun a w hf hO hm => ?_
 refine zen (v := .agg #[ptr x_c_b0 0, .slice none 0 0]) (cs := [ptr x_c_b0 0, .slice none 0 0]) rfl hf rfl rfl hO fun a b4 w hf hO => ?_
 have hO := hO.nilRow 5 1
 refine S.op tb ?_ hf hO hm
 refine vl rfl rfl (fun a w hf hO => zb (o := 0) zbq (hO.blkSees (i := 1) rfl) rfl hf rfl) ?_
 refine rw_ rfl fun a w hf hO hm => ?_
 obtain ⟨r6, hr6, hm⟩ := ob hm
 have hch7 := (show Dk.Own w0 F _ ([.blk x_c_b0 [str x_c.f_s, int x_c.f_at] 137] ++ [.row (.slice none 0 0) 5 1 0 (cells zbw []), .blk b4 [ptr x_c_b0 0, .slice none 0 0] 176]) from hO.choose [2, 0, 1] rfl)
 have hfar7 := Dk.Own.far hch7 rfl hF hG.size
 have hlend7 := hch7.lend (S := []) rfl trivial
 have hcl7 := zI x_c 34 r6 _ (hG.own hF hO) hfar7 hlend7 hr6
 refine zo (zr zlu hf (vs := [ptr x_c_b0 0, zQ 34]) rfl) rfl hf rfl rfl (hcl7) ?_
 rintro e w' ⟨he, hO'⟩
 refine ⟨_, he, fun a hf => ?_⟩
 have hO := hch7.back rfl hO' rfl
 refine S.op tb ?_ hf hO hm
 refine jn 0 (fun a w => ∃ (t27 : Bool) (s28 : Str) (i29 : Int) (p30 : Option Addr) (c31 : Nat) (l32 : List UInt8), Fits 41 [(4, int r2), (5, ptr b4 0), (6, .bool t27)] a ∧ Dk.Own w0 F w [.blk x_c_b0 [str s28, int i29] 137, .row (.slice p30 l32.length c31) 5 1 l32.length (cells zbw l32), .blk b4 [ptr x_c_b0 0, .slice p30 l32.length c31] 176] ∧ zdk r2 t27 s28 i29 l32 = some R) rfl ?_ ?_
 refine lp (fun k a w => ∃ (s9 : Str) (i10 : Int) (p11 : Option Addr) (c12 : Nat) (l13 : List UInt8) (t14 : Bool), Fits 41 [(4, int r2), (5, ptr b4 0), (6, .bool t14)] a ∧ Dk.Own w0 F w [.blk x_c_b0 [str s9, int i10] 137, .row (.slice p11 l13.length c12) 5 1 l13.length (cells zbw l13), .blk b4 [ptr x_c_b0 0, .slice p11 l13.length c12] 176] ∧ zad r2 k s9 i10 l13 t14 = some R) rfl (fun a w hf hO hm => ⟨r6.2.f_s, r6.2.f_at, none, 0, [], r6.1, hf.sel rfl, hO, hm⟩) ?_
 rintro n1 a w ⟨s9, i10, p11, c12, l13, t14, hf, hO, hm⟩
 obtain _ | n1 := n1
 rw [zad] at hm
 cases hm
 rw [zad] at hm
 refine S.co tb ?_ hf hO hm
 refine jn 4 (fun a w => ∃ (t18 : Bool) (s19 : Str) (i20 : Int), Fits 41 [(4, int r2), (5, ptr b4 0), (6, .bool t14), (25, .bool t18)] a ∧ Dk.Own w0 F w [.blk x_c_b0 [str s19, int i20] 137, .row (.slice p11 l13.length c12) 5 1 l13.length (cells zbw l13), .blk b4 [ptr x_c_b0 0, .slice p11 l13.length c12] 176] ∧ zcp (zad r2 n1) r2 l13 t14 t18 s19 i20 = some R) rfl ?_ ?_
 refine br rfl (fun hc15 => ?_) fun hc15 => ?_
 refine vl rfl rfl (fun a w hf hO => zb (o := 0) zbq (hO.blkSees (i := 2) rfl) rfl hf rfl) ?_
 refine rw_ rfl fun a w hf hO hm => ?_
 obtain ⟨r16, hr16, hm⟩ := ob hm
 have hch17 := (show Dk.Own w0 F _ ([.blk x_c_b0 [str s9, int i10] 137] ++ [.row (.slice p11 l13.length c12) 5 1 l13.length (cells zbw l13), .blk b4 [ptr x_c_b0 0, .slice p11 l13.length c12] 176]) from hO)
 have hfar17 := Dk.Own.far hch17 rfl hF hG.size
 have hlend17 := hch17.lend (S := []) rfl trivial
 have hcl17 := zI (⟨s9, i10⟩ : scan_Scanner) 34 r16 _ (hG.own hF hO) hfar17 hlend17 hr16
 refine zo (zr zlu hf (vs := [ptr x_c_b0 0, zQ 34]) rfl) rfl hf rfl rfl (hcl17) ?_
 rintro e w' ⟨he, hO'⟩
 refine ⟨_, he, fun a hf => ?_⟩
 have hO := hch17.back rfl hO' rfl
 refine S.op tb ?_ hf hO hm
 refine kn (b' := true) hc15 rfl ?_
 exact en rfl fun a w hf hO hm => ⟨!r16.1, r16.2.f_s, r16.2.f_at, hf.sel rfl, hO, hm⟩
 exact en rfl fun a w hf hO hm => ⟨false, s9, i10, hf.sel rfl, hO, hm⟩
 rintro a w ⟨t18, s19, i20, hf, hO, hm⟩
 rw [zcp] at hm
 refine S.co tb ?_ hf hO hm
 refine br rfl (fun hc21 => ?_) fun hc21 => ?_
 refine rw_ rfl fun a w hf hO hm => ?_
 obtain ⟨r23, hr23, hm⟩ := ob hm
 have hch26 := (show Dk.Own w0 F _ ([.blk b4 [ptr x_c_b0 0, .slice p11 l13.length c12] 176, .blk x_c_b0 [str s19, int i20] 137, .row (.slice p11 l13.length c12) 5 1 l13.length (cells zbw l13)] ++ []) from hO.choose [2, 0, 1] rfl)
 have hfar26 := Dk.Own.far hch26 rfl hF hG.size
 have hlend26 := hch26.lend (S := []) rfl trivial
 have hcl26 := zhN ((⟨(⟨s19, i20⟩ : scan_Scanner), l13⟩ : quoted_reader)) r23 _ (hG.own hF hO) hfar26 hlend26 hr23
 refine zo (zr c_137 hf (vs := [ptr b4 0]) rfl) rfl hf rfl rfl (hcl26) ?_
 rintro e w' ⟨p24, c25, he, hO'⟩
 refine ⟨_, he, fun a hf => ?_⟩
 have hO := hch26.back rfl hO' rfl
 refine S.op tb ?_ hf hO hm
 exact en rfl fun a w hf hO hm => ⟨_, Nat.lt_succ_self _, r23.2.Scanner.f_s, r23.2.Scanner.f_at, p24, c25, r23.2.f_out, r23.1, hf.sel rfl, (hO.choose [1, 2, 0] rfl), hm⟩
 exact en rfl fun a w hf hO hm => ⟨t14, s19, i20, p11, c12, l13, hf.sel rfl, hO, hm⟩
 rintro a w ⟨t27, s28, i29, p30, c31, l32, hf, hO, hm⟩
 rw [zdk] at hm
 refine S.co tb ?_ hf hO hm
 refine br rfl (fun hc34 => ?_) fun hc34 => ?_
 refine vl rfl rfl (fun a w hf hO => zb (o := 0) zbq (hO.blkSees (i := 2) rfl) rfl hf rfl) ?_
 refine rw_ rfl fun a w hf hO hm => ?_
 obtain ⟨r35, hr35, hm⟩ := ob hm
 have hch36 := (show Dk.Own w0 F _ ([.blk x_c_b0 [str s28, int i29] 137] ++ [.row (.slice p30 l32.length c31) 5 1 l32.length (cells zbw l32), .blk b4 [ptr x_c_b0 0, .slice p30 l32.length c31] 176]) from hO)
 have hfar36 := Dk.Own.far hch36 rfl hF hG.size
 have hlend36 := hch36.lend (S := []) rfl trivial
 have hcl36 := zh3 (⟨s28, i29⟩ : scan_Scanner) r2 r35 _ (hG.own hF hO) hfar36 hlend36 hr35
 refine zo (zr c_138 hf (vs := [ptr x_c_b0 0, int r2]) rfl) rfl hf rfl rfl (hcl36) ?_
 rintro e w' ⟨he, hO'⟩
 refine ⟨_, he, fun a hf => ?_⟩
 have hO := hch36.back rfl hO' rfl
 refine S.op tb ?_ hf hO hm
 refine re_ rfl fun a w hf hO hm => ?_
 obtain rfl := Option.some.inj hm
 exact zi Tryz.results100 hf (.tmp rfl (.tmp rfl .nil)) ⟨rfl, (hO.sub (.cons_cons _ (.cons _ (.cons _ .slnil))))⟩
 refine vl rfl rfl (fun a w hf hO => zb (o := 1) zq6 (hO.blkSees (i := 2) rfl) rfl hf rfl) ?_
 refine vl rfl rfl (fun a w hf hO => zoJ (en := zbw) (l := l32) (fun _ => rfl) Tryz.underlying9 Tryz.underlying159 Tryz.underlying5 (hO.rowSees (i := 1) rfl) hf rfl) ?_
 refine re_ rfl fun a w hf hO hm => ?_
 obtain rfl := Option.some.inj hm
 exact zi Tryz.results100 hf (.tmp rfl (.tmp rfl .nil)) ⟨rfl, (hO.sub (.cons_cons _ (.cons _ (.cons _ .slnil))))⟩

theorem zg2 (x_p : commas_splitter) (R : Bool × commas_splitter) (w0 : World) (hG : zt w0) {x_p_b0 : Nat} {x_p_b1 : Nat} {x_p_p2 : Option Addr} {x_p_c2 : Nat} {F : List Nat} (hF : zG F) (hO : Dk.Own w0 F w0 [.blk x_p_b0 [ptr x_p_b1 0, .slice x_p_p2 x_p.f_out.length x_p_c2, int x_p.f_from, str x_p.f_s] 113, .blk x_p_b1 [str x_p.Scanner.f_s, int x_p.Scanner.f_at] 137, .row (.slice x_p_p2 x_p.f_out.length x_p_c2) 9 1 x_p.f_out.length (cells zd x_p.f_out)]) (hm : zV x_p = some R) :
    Calls Tryz.prog 67 #[ptr x_p_b0 0] w0 fun e w' => ∃ (p0 : Option Addr) (c0 : Nat), e = .returned (.bool R.1) ∧ Dk.Own w0 F w' [.blk x_p_b0 [ptr x_p_b1 0, .slice p0 R.2.f_out.length c0, int R.2.f_from, str R.2.f_s] 113, .blk x_p_b1 [str R.2.Scanner.f_s, int R.2.Scanner.f_at] 137, .row (.slice p0 R.2.f_out.length c0) 9 1 R.2.f_out.length (cells zd R.2.f_out)] := by
 rw [zV] at hm
 refine S.enter tb Tryz.func67 rfl Tryz.ntmps67 rfl ?_ hO hm
 refine vl rfl rfl (fun a w hf hO => zb (o := 0) zbq (hO.blkSees (i := 0) rfl) rfl hf rfl) ?_
 refine cl c_97 rfl (fun r2 w hr2 hO => zb7 x_p.Scanner r2 _ (hG.own hF hO) (hO.blkSees (i := 1) rfl) hr2) fun r2 hr2 => ?_
 refine jn 0 (fun a w => ∃ (p32 : Option Addr) (c33 : Nat) (l34 : List Str) (i35 : Int) (s36 : Str) (s37 : Str) (i38 : Int), Fits 55 [] a ∧ Dk.Own w0 F w [.blk x_p_b0 [ptr x_p_b1 0, .slice p32 l34.length c33, int i35, str s36] 113, .blk x_p_b1 [str s37, int i38] 137, .row (.slice p32 l34.length c33) 9 1 l34.length (cells zd l34)] ∧ zbn l34 i35 s36 s37 i38 = some R) rfl ?_ ?_
 refine vl rfl rfl (fun a w hf hO => zb (o := 0) zbq (hO.blkSees (i := 0) rfl) rfl hf rfl) ?_
 refine rw_ rfl fun a w hf hO hm => ?_
 obtain ⟨r4, hr4, hm⟩ := ob hm
 have hch5 := (show Dk.Own w0 F _ ([.blk x_p_b1 [str x_p.Scanner.f_s, int x_p.Scanner.f_at] 137] ++ [.blk x_p_b0 [ptr x_p_b1 0, .slice x_p_p2 x_p.f_out.length x_p_c2, int x_p.f_from, str x_p.f_s] 113, .row (.slice x_p_p2 x_p.f_out.length x_p_c2) 9 1 x_p.f_out.length (cells zd x_p.f_out)]) from hO.choose [1, 0, 2] rfl)
 have hfar5 := Dk.Own.far hch5 rfl hF hG.size
 have hlend5 := hch5.lend (S := []) rfl trivial
 have hcl5 := zI x_p.Scanner 44 r4 _ (hG.own hF hO) hfar5 hlend5 hr4
 refine zo (zr zlu hf (vs := [ptr x_p_b1 0, zQ 44]) rfl) rfl hf rfl rfl (hcl5) ?_
 rintro e w' ⟨he, hO'⟩
 refine ⟨_, he, fun a hf => ?_⟩
 have hO := hch5.back rfl hO' rfl
 refine S.op tb ?_ hf hO hm
 refine br rfl (fun hc7 => ?_) fun hc7 => ?_
 refine rw_ rfl fun a w hf hO hm => ?_
 obtain ⟨r8, hr8, hm⟩ := ob hm
 have hch11 := (show Dk.Own w0 F _ ([.blk x_p_b0 [ptr x_p_b1 0, .slice x_p_p2 x_p.f_out.length x_p_c2, int x_p.f_from, str x_p.f_s] 113, .blk x_p_b1 [str r4.2.f_s, int r4.2.f_at] 137, .row (.slice x_p_p2 x_p.f_out.length x_p_c2) 9 1 x_p.f_out.length (cells zd x_p.f_out)] ++ []) from hO.choose [1, 0, 2] rfl)
 have hfar11 := Dk.Own.far hch11 rfl hF hG.size
 have hlend11 := hch11.lend (S := []) rfl trivial
 have hcl11 := zeO (⟨r4.2, x_p.f_out, x_p.f_from, x_p.f_s⟩ : commas_splitter) r2 r8 _ (hG.own hF hO) hfar11 hlend11 hr8
 refine zo (zr c_68 hf (vs := [ptr x_p_b0 0, int r2]) rfl) rfl hf rfl rfl (hcl11) ?_
 rintro e w' ⟨p9, c10, he, hO'⟩
 refine ⟨_, he, fun a hf => ?_⟩
 have hO := hch11.back rfl hO' rfl
 refine S.op tb ?_ hf hO hm
 exact en rfl fun a w hf hO hm => ⟨p9, c10, r8.f_out, r8.f_from, r8.f_s, r8.Scanner.f_s, r8.Scanner.f_at, hf.sel rfl, hO, hm⟩
 refine vl rfl rfl (fun a w hf hO => zb (o := 0) zbq (hO.blkSees (i := 1) rfl) rfl hf rfl) ?_
 refine rw_ rfl fun a w hf hO hm => ?_
 obtain ⟨r12, hr12, hm⟩ := ob hm
 have hch13 := (show Dk.Own w0 F _ ([.blk x_p_b1 [str r4.2.f_s, int r4.2.f_at] 137] ++ [.blk x_p_b0 [ptr x_p_b1 0, .slice x_p_p2 x_p.f_out.length x_p_c2, int x_p.f_from, str x_p.f_s] 113, .row (.slice x_p_p2 x_p.f_out.length x_p_c2) 9 1 x_p.f_out.length (cells zd x_p.f_out)]) from hO)
 have hfar13 := Dk.Own.far hch13 rfl hF hG.size
 have hlend13 := hch13.lend (S := []) rfl trivial
 have hcl13 := zI r4.2 40 r12 _ (hG.own hF hO) hfar13 hlend13 hr12
 refine zo (zr zlu hf (vs := [ptr x_p_b1 0, zQ 40]) rfl) rfl hf rfl rfl (hcl13) ?_
 rintro e w' ⟨he, hO'⟩
 refine ⟨_, he, fun a hf => ?_⟩
 have hO := hch13.back rfl hO' rfl
 refine S.op tb ?_ hf hO hm
 refine br rfl (fun hc15 => ?_) fun hc15 => ?_
 refine rw_ rfl fun a w hf hO hm => ?_
 obtain ⟨r16, hr16, hm⟩ := ob hm
 have hch19 := (show Dk.Own w0 F _ ([.blk x_p_b0 [ptr x_p_b1 0, .slice x_p_p2 x_p.f_out.length x_p_c2, int x_p.f_from, str x_p.f_s] 113, .blk x_p_b1 [str r12.2.f_s, int r12.2.f_at] 137, .row (.slice x_p_p2 x_p.f_out.length x_p_c2) 9 1 x_p.f_out.length (cells zd x_p.f_out)] ++ []) from hO.choose [1, 0, 2] rfl)
 have hfar19 := Dk.Own.far hch19 rfl hF hG.size
 have hlend19 := hch19.lend (S := []) rfl trivial
 have hcl19 := zfY (⟨r12.2, x_p.f_out, x_p.f_from, x_p.f_s⟩ : commas_splitter) r16 _ (hG.own hF hO) hfar19 hlend19 hr16
 refine zo (zr c_98 hf (vs := [ptr x_p_b0 0]) rfl) rfl hf rfl rfl (hcl19) ?_
 rintro e w' ⟨p17, c18, he, hO'⟩
 refine ⟨_, he, fun a hf => ?_⟩
 have hO := hch19.back rfl hO' rfl
 refine S.op tb ?_ hf hO hm
 refine re_ rfl fun a w hf hO hm => ?_
 obtain rfl := Option.some.inj hm
 exact zi Tryz.results67 hf (.tmp rfl .nil) ⟨p17, c18, rfl, hO⟩
 refine vl rfl rfl (fun a w hf hO => zb (o := 0) zbq (hO.blkSees (i := 1) rfl) rfl hf rfl) ?_
 refine cl c_99 rfl (fun r21 w hr21 hO => zaQ r12.2 r21 _ (hG.own hF hO) (hO.blkSees (i := 0) rfl) hr21) fun r21 hr21 => ?_
 refine vl rfl rfl (fun a w hf hO => zL (b := r21.1) (c := 34) hf rfl rfl) ?_
 refine br rfl (fun hc24 => ?_) fun hc24 => ?_
 refine vl rfl rfl (fun a w hf hO => zb (o := 0) zbq (hO.blkSees (i := 1) rfl) rfl hf rfl) ?_
 refine rw_ rfl fun a w hf hO hm => ?_
 obtain ⟨r25, hr25, hm⟩ := ob hm
 have hch26 := (show Dk.Own w0 F _ ([.blk x_p_b1 [str r12.2.f_s, int r12.2.f_at] 137] ++ [.blk x_p_b0 [ptr x_p_b1 0, .slice x_p_p2 x_p.f_out.length x_p_c2, int x_p.f_from, str x_p.f_s] 113, .row (.slice x_p_p2 x_p.f_out.length x_p_c2) 9 1 x_p.f_out.length (cells zd x_p.f_out)]) from hO)
 have hfar26 := Dk.Own.far hch26 rfl hF hG.size
 have hlend26 := hch26.lend (S := []) rfl trivial
 have hcl26 := zmn r12.2 r25 _ (hG.own hF hO) hfar26 hlend26 hr25
 refine zo (zr c_100 hf (vs := [ptr x_p_b1 0]) rfl) rfl hf rfl rfl (hcl26) ?_
 rintro e w' ⟨he, hO'⟩
 refine ⟨_, he, fun a hf => ?_⟩
 have hO := hch26.back rfl hO' rfl
 refine S.op tb ?_ hf hO hm
 refine re_ rfl fun a w hf hO hm => ?_
 obtain rfl := Option.some.inj hm
 exact zi Tryz.results67 hf (.tmp rfl .nil) ⟨x_p_p2, x_p_c2, rfl, (hO.choose [1, 0, 2] rfl)⟩
 refine vl rfl rfl (fun a w hf hO => zb (o := 0) zbq (hO.blkSees (i := 1) rfl) rfl hf rfl) ?_
 refine rw_ rfl fun a w hf hO hm => ?_
 obtain ⟨r30, hr30, hm⟩ := ob hm
 have hch31 := (show Dk.Own w0 F _ ([.blk x_p_b1 [str r12.2.f_s, int r12.2.f_at] 137] ++ [.blk x_p_b0 [ptr x_p_b1 0, .slice x_p_p2 x_p.f_out.length x_p_c2, int x_p.f_from, str x_p.f_s] 113, .row (.slice x_p_p2 x_p.f_out.length x_p_c2) 9 1 x_p.f_out.length (cells zd x_p.f_out)]) from hO)
 have hfar31 := Dk.Own.far hch31 rfl hF hG.size
 have hlend31 := hch31.lend (S := []) rfl trivial
 have hcl31 := zI r12.2 r21.1 r30 _ (hG.own hF hO) hfar31 hlend31 hr30
 refine zo (zr zlu hf (vs := [ptr x_p_b1 0, zQ r21.1]) rfl) rfl hf rfl rfl (hcl31) ?_
 rintro e w' ⟨he, hO'⟩
 refine ⟨_, he, fun a hf => ?_⟩
 have hO := hch31.back rfl hO' rfl
 refine S.op tb ?_ hf hO hm
 exact en rfl fun a w hf hO hm => ⟨x_p_p2, x_p_c2, x_p.f_out, x_p.f_from, x_p.f_s, r30.2.f_s, r30.2.f_at, hf.sel rfl, (hO.choose [1, 0, 2] rfl), hm⟩
 rintro a w ⟨p32, c33, l34, i35, s36, s37, i38, hf, hO, hm⟩
 rw [zbn] at hm
 refine S.co tb ?_ hf hO hm
 refine re_ rfl fun a w hf hO hm => ?_
 obtain rfl := Option.some.inj hm
 exact zi Tryz.results67 hf (.tmp rfl .nil) ⟨p32, c33, rfl, hO⟩

theorem zlR (x_s : Str) (R : List Str × Int) (w0 : World) (hG : zt w0) (hm : zeu x_s = some R) :
    Calls Tryz.prog 38 #[str x_s] w0 fun e w' => ∃ (p0 : Option Addr) (c0 : Nat), e = .returned (.tuple #[.slice p0 R.1.length c0, int R.2]) ∧ Dk.Own w0 [] w' [.row (.slice p0 R.1.length c0) 9 1 R.1.length (cells zd R.1)] := by
 rw [zeu] at hm
 have hF : zG [] := ze
 have hO : Dk.Own w0 [] w0 [] := Dk.Own.refl w0
 refine S.enter tb Tryz.func38 rfl Tryz.ntmps38 rfl ?_ hO hm
 refine nl 9 1 ?_
 refine rw_ rfl fun a w hf hO hm => ?_
 obtain ⟨r2, hr2, hm⟩ := ob hm
 refine zo (zr c_65 hf (vs := [str x_s]) rfl) rfl hf rfl rfl (zlU x_s r2 _ (hG.own hF hO) hr2) ?_
 rintro e w' ⟨b3, he, hO'⟩
 refine ⟨_, he, fun a hf => ?_⟩
 have hO := hO.call hO' (by simp [Res.shared])
 refine S.op tb ?_ hf hO hm
 refine vl rfl rfl (fun a w hf hO => zS (vs := [(0, ptr b3 0), (3, str x_s)]) (v := .agg #[ptr b3 0, .slice none 0 0, int 0, str x_s]) hf rfl (by kernel_rfl)) ?_
 refine rw_ rfl fun a w hf hO hm => ?_
 refine zen (v := .agg #[ptr b3 0, .slice none 0 0, int 0, str x_s]) (cs := [ptr b3 0, .slice none 0 0, int 0, str x_s]) rfl hf rfl rfl hO fun a b4 w hf hO => ?_
 have hO := hO.nilRow 9 1
 refine S.op tb ?_ hf hO hm
 refine jn 0 (fun a w => ∃ (p24 : Option Addr) (c25 : Nat) (l26 : List Str) (i27 : Int) (s28 : Str) (s29 : Str) (i30 : Int), Fits 27 [(0, str x_s), (4, ptr b4 0)] a ∧ Dk.Own w0 [] w [.row (.slice p24 l26.length c25) 9 1 l26.length (cells zd l26), .blk b4 [ptr b3 0, .slice p24 l26.length c25, int i27, str s28] 113, .blk b3 [str s29, int i30] 137, .row (.slice none 0 0) 9 1 0 (cells zd [])] ∧ zd2 x_s l26 i27 s28 s29 i30 = some R) rfl ?_ ?_
 refine lp (fun k a w => ∃ (p6 : Option Addr) (c7 : Nat) (l8 : List Str) (i9 : Int) (s10 : Str) (s11 : Str) (i12 : Int), Fits 27 [(0, str x_s), (4, ptr b4 0)] a ∧ Dk.Own w0 [] w [.row (.slice p6 l8.length c7) 9 1 l8.length (cells zd l8), .blk b4 [ptr b3 0, .slice p6 l8.length c7, int i9, str s10] 113, .blk b3 [str s11, int i12] 137, .row (.slice none 0 0) 9 1 0 (cells zd [])] ∧ zaX x_s k l8 i9 s10 s11 i12 = some R) rfl (fun a w hf hO hm => ⟨none, 0, [], 0, x_s, r2.f_s, r2.f_at, hf.sel rfl, hO, hm⟩) ?_
 rintro n1 a w ⟨p6, c7, l8, i9, s10, s11, i12, hf, hO, hm⟩
 obtain _ | n1 := n1
 rw [zaX] at hm
 cases hm
 rw [zaX] at hm
 refine S.co tb ?_ hf hO hm
 refine vl rfl rfl (fun a w hf hO => zb (o := 0) zbq (hO.blkSees (i := 1) rfl) rfl hf rfl) ?_
 refine cl c_66 rfl (fun r13 w hr13 hO => zd5 (⟨s11, i12⟩ : scan_Scanner) r13 _ (hG.own hF hO) (hO.blkSees (i := 2) rfl) hr13) fun r13 hr13 => ?_
 refine br rfl (fun hc15 => ?_) fun hc15 => ?_
 refine rw_ rfl fun a w hf hO hm => ?_
 obtain ⟨r17, hr17, hm⟩ := ob hm
 have hch20 := (show Dk.Own w0 [] _ ([.blk b4 [ptr b3 0, .slice p6 l8.length c7, int i9, str s10] 113, .blk b3 [str s11, int i12] 137, .row (.slice p6 l8.length c7) 9 1 l8.length (cells zd l8)] ++ [.row (.slice none 0 0) 9 1 0 (cells zd [])]) from hO.choose [1, 2, 0, 3] rfl)
 have hfar20 := Dk.Own.far hch20 rfl hF hG.size
 have hlend20 := hch20.lend (S := []) rfl trivial
 have hcl20 := zg2 ((⟨(⟨s11, i12⟩ : scan_Scanner), l8, i9, s10⟩ : commas_splitter)) r17 _ (hG.own hF hO) hfar20 hlend20 hr17
 refine zo (zr c_67 hf (vs := [ptr b4 0]) rfl) rfl hf rfl rfl (hcl20) ?_
 rintro e w' ⟨p18, c19, he, hO'⟩
 refine ⟨_, he, fun a hf => ?_⟩
 have hO := hch20.back rfl hO' rfl
 refine S.op tb ?_ hf hO hm
 refine br rfl (fun hc22 => ?_) fun hc22 => ?_
 refine nl 9 1 ?_
 refine re_ rfl fun a w hf hO hm => ?_
 obtain rfl := Option.some.inj hm
 exact zi Tryz.results38 hf (.tmp rfl (.tmp rfl .nil)) ⟨none, 0, rfl, (hO.sub (.cons_cons _ (.cons _ (.cons _ (.cons _ (.cons _ .slnil))))))⟩
 exact en rfl fun a w hf hO hm => ⟨_, Nat.lt_succ_self _, p18, c19, r17.2.f_out, r17.2.f_from, r17.2.f_s, r17.2.Scanner.f_s, r17.2.Scanner.f_at, hf.sel rfl, (hO.choose [2, 0, 1, 3] rfl), hm⟩
 exact en rfl fun a w hf hO hm => ⟨p6, c7, l8, i9, s10, s11, i12, hf.sel rfl, hO, hm⟩
 rintro a w ⟨p24, c25, l26, i27, s28, s29, i30, hf, hO, hm⟩
 rw [zd2] at hm
 refine S.co tb ?_ hf hO hm
 refine rw_ rfl fun a w hf hO hm => ?_
 obtain ⟨r31, hr31, hm⟩ := ob hm
 have hch34 := (show Dk.Own w0 [] _ ([.blk b4 [ptr b3 0, .slice p24 l26.length c25, int i27, str s28] 113, .blk b3 [str s29, int i30] 137, .row (.slice p24 l26.length c25) 9 1 l26.length (cells zd l26)] ++ [.row (.slice none 0 0) 9 1 0 (cells zd [])]) from hO.choose [1, 2, 0, 3] rfl)
 have hfar34 := Dk.Own.far hch34 rfl hF hG.size
 have hlend34 := hch34.lend (S := []) rfl trivial
 have hcl34 := zeO ((⟨(⟨s29, i30⟩ : scan_Scanner), l26, i27, s28⟩ : commas_splitter)) (x_s.length : Int) r31 _ (hG.own hF hO) hfar34 hlend34 hr31
 refine zo (zr c_68 hf (vs := [ptr b4 0, int (x_s.length : Int)]) rfl) rfl hf rfl rfl (hcl34) ?_
 rintro e w' ⟨p32, c33, he, hO'⟩
 refine ⟨_, he, fun a hf => ?_⟩
 have hO := hch34.back rfl hO' rfl
 refine S.op tb ?_ hf hO hm
 refine vl rfl rfl (fun a w hf hO => zb (o := 1) ag_41 (hO.blkSees (i := 0) rfl) rfl hf rfl) ?_
 refine re_ rfl fun a w hf hO hm => ?_
 obtain rfl := Option.some.inj hm
 exact zi Tryz.results38 hf (.tmp rfl (.tmp rfl .nil)) ⟨p32, c33, rfl, (hO.sub (.cons _ (.cons _ (.cons_cons _ (.cons _ .slnil)))))⟩

theorem zfd (x_c : scan_Scanner) (x_is : UInt8 → Option Bool) (R : Str × scan_Scanner) (w0 : World) (hG : zt w0) {x_c_b0 : Nat} {F : List Nat} (hF : zG F) (hO : Dk.Own w0 F w0 [.blk x_c_b0 [str x_c.f_s, int x_c.f_at] 137]) {x_is_f : Nat} {x_is_p x_is_c : Array Value} (x_is_k : zc Tryz.prog x_is_f) (x_is_h : ∀ (y0 : UInt8) (r : Bool) (w : World), zt w → x_is y0 = some r → Calls Tryz.prog x_is_f (x_is_p ++ [zQ y0].toArray ++ x_is_c) w fun e w' => e = .returned (.bool r) ∧ Below w.heap.size w w') (hm : zaw x_c x_is = some R) :
    Calls Tryz.prog 102 #[ptr x_c_b0 0, .func (.func x_is_f) x_is_p x_is_c] w0 fun e w' => e = .returned (str R.1) ∧ Dk.Own w0 F w' [.blk x_c_b0 [str R.2.f_s, int R.2.f_at] 137] := by
 rw [zaw] at hm
 refine S.enter tb Tryz.func102 rfl Tryz.ntmps102 rfl ?_ hO hm
 refine cl c_97 rfl (fun r2 w hr2 hO => zb7 x_c r2 _ (hG.own hF hO) (hO.blkSees (i := 0) rfl) hr2) fun r2 hr2 => ?_
 refine jn 0 (fun a w => ∃ (s14 : Str) (i15 : Int), Fits 42 [(0, ptr x_c_b0 0), (5, int r2)] a ∧ Dk.Own w0 F w [.blk x_c_b0 [str s14, int i15] 137] ∧ za0 r2 s14 i15 = some R) rfl ?_ ?_
 refine lp (fun k a w => ∃ (s4 : Str) (i5 : Int), Fits 42 [(0, ptr x_c_b0 0), (1, .func (.func x_is_f) x_is_p x_is_c), (5, int r2)] a ∧ Dk.Own w0 F w [.blk x_c_b0 [str s4, int i5] 137] ∧ zH x_is r2 k s4 i5 = some R) rfl (fun a w hf hO hm => ⟨x_c.f_s, x_c.f_at, hf.sel rfl, hO, hm⟩) ?_
 rintro n1 a w ⟨s4, i5, hf, hO, hm⟩
 obtain _ | n1 := n1
 rw [zH] at hm
 cases hm
 rw [zH] at hm
 refine S.co tb ?_ hf hO hm
 refine cl c_99 rfl (fun r6 w hr6 hO => zaQ (⟨s4, i5⟩ : scan_Scanner) r6 _ (hG.own hF hO) (hO.blkSees (i := 0) rfl) hr6) fun r6 hr6 => ?_
 refine jn 5 (fun a w => ∃ (t10 : Bool), Fits 42 [(0, ptr x_c_b0 0), (1, .func (.func x_is_f) x_is_p x_is_c), (5, int r2), (22, .bool t10)] a ∧ Dk.Own w0 F w [.blk x_c_b0 [str s4, int i5] 137] ∧ zak (zH x_is r2 n1) r2 s4 i5 t10 = some R) rfl ?_ ?_
 refine br rfl (fun hc8 => ?_) fun hc8 => ?_
 exact en rfl fun a w hf hO hm => ⟨true, hf.sel rfl, hO, hm⟩
 refine rw_ rfl fun a w hf hO hm => ?_
 obtain ⟨r9, hr9, hm⟩ := ob hm
 refine oc (znS x_is_k hf rfl (vs := [zQ r6.1]) rfl) hf rfl (x_is_h r6.1 r9 _ (hG.own hF hO) hr9) hO fun a w' hf hO => ?_
 refine S.op tb ?_ hf hO hm
 refine kn (b' := false) hc8 rfl ?_
 exact en rfl fun a w hf hO hm => ⟨!r9, hf.sel rfl, hO, hm⟩
 rintro a w ⟨t10, hf, hO, hm⟩
 rw [zak] at hm
 refine S.co tb ?_ hf hO hm
 refine br rfl (fun hc11 => ?_) fun hc11 => ?_
 exact en rfl fun a w hf hO hm => ⟨s4, i5, hf.sel rfl, hO, hm⟩
 refine vl rfl rfl (fun a w hf hO => zb (o := 1) zo0 (hO.blkSees (i := 0) rfl) rfl hf rfl) ?_
 refine bi rfl fun i13 hi13 => ?_
 refine rw_ rfl fun a w hf hO hm => ?_
 refine zP (i := 0) (o := 1) (v := int i13) sz_3 rfl rfl rfl rfl hf rfl rfl hO fun w hO => ?_
 refine S.op tb ?_ hf hO hm
 exact en rfl fun a w hf hO hm => ⟨_, Nat.lt_succ_self _, s4, i13, hf.sel rfl, hO, hm⟩
 rintro a w ⟨s14, i15, hf, hO, hm⟩
 rw [za0] at hm
 refine S.co tb ?_ hf hO hm
 refine vl rfl rfl (fun a w hf hO => zgp Tryz.underlying110 hf rfl rfl) ?_
 refine kn (b' := false) rfl rfl ?_
 refine rc_ rfl fun a w hf hO hm => ?_
 refine ze7 (by kernel_rfl) (by kernel_rfl) hO ?_
 refine zw (fun w hO => zv hf rfl) rfl hf rfl rfl fun a hf => ?_
 refine zw (fun w hO => zbc hf rfl) rfl hf rfl rfl fun a hf => ?_
 refine zw (fun w hO => zaz zjb hf rfl) rfl hf rfl rfl fun a hf => ?_
 refine zw (fun w hO => zb (o := 0) zab (hO.blkSees (i := 0) rfl) rfl hf rfl) rfl hf rfl rfl fun a hf => ?_
 refine zw (fun w hO => zv hf rfl) rfl hf rfl rfl fun a hf => ?_
 refine zw (fun w hO => zv hf rfl) rfl hf rfl rfl fun a hf => ?_
 refine zw (fun w hO => zbc hf rfl) rfl hf rfl rfl fun a hf => ?_
 refine zw (fun w hO => zaz zjc hf rfl) rfl hf rfl rfl fun a hf => ?_
 refine zw (fun w hO => zb (o := 1) zo0 (hO.blkSees (i := 0) rfl) rfl hf rfl) rfl hf rfl rfl fun a hf => ?_
 obtain ⟨s18, hs18, hm⟩ := ob hm
 refine zw (fun w hO => zgq (l := s14) Tryz.underlying9 hf rfl rfl rfl hs18) rfl hf rfl rfl fun a hf => ?_
 refine zw (fun w hO => zcY hf rfl) rfl hf rfl rfl fun a hf => ?_
 refine wpQuiet_nil ?_
 intro w hO
 refine S.no tb ?_ hf hO hm
 refine re_ rfl fun a w hf hO hm => ?_
 obtain rfl := Option.some.inj hm
 exact zi Tryz.results102 hf (.tmp rfl .nil) ⟨rfl, hO⟩

theorem zc0 (x_b : UInt8) (R : UInt8) (w0 : World) (hG : zt w0) (hm : zah x_b = some R) :
    Calls Tryz.prog 128 #[zQ x_b] w0 (Ret w0 (fun R => zQ R) R) := by
 rw [zah] at hm
 have hF : zG [] := ze
 have hO : Dk.Own w0 [] w0 [] := Dk.Own.refl w0
 refine S.enter tb Tryz.func128 rfl Tryz.ntmps128 rfl ?_ hO hm
 refine jn 1 (fun a w => ∃ (t3 : Bool), Fits 12 [(0, zQ x_b), (8, .bool t3)] a ∧ Dk.Own w0 [] w [] ∧ zev x_b t3 = some R) rfl ?_ ?_
 refine vl rfl rfl (fun a w hf hO => zht (b := x_b) (c := 65) hf rfl rfl) ?_
 refine br rfl (fun hc2 => ?_) fun hc2 => ?_
 refine vl rfl rfl (fun a w hf hO => ziZ (b := x_b) (c := 90) hf rfl rfl) ?_
 exact en rfl fun a w hf hO hm => ⟨decide (x_b ≤ 90), hf.sel rfl, hO, hm⟩
 exact en rfl fun a w hf hO hm => ⟨false, hf.sel rfl, hO, hm⟩
 rintro a w ⟨t3, hf, hO, hm⟩
 rw [zev] at hm
 refine S.co tb ?_ hf hO hm
 refine br rfl (fun hc4 => ?_) fun hc4 => ?_
 refine vl rfl rfl (fun a w hf hO => zqP (b := x_b) (c := 32) hf rfl rfl) ?_
 exact rt Tryz.results128 rfl
 exact rt Tryz.results128 rfl

theorem zg8 (x_b : UInt8) (R : Bool) (w0 : World) (hG : zt w0) (hm : ze2 x_b = some R) :
    Calls Tryz.prog 158 #[zQ x_b] w0 (Ret w0 (fun R => .bool R) R) := by
 rw [ze2] at hm
 have hF : zG [] := ze
 have hO : Dk.Own w0 [] w0 [] := Dk.Own.refl w0
 refine S.enter tb Tryz.func158 rfl Tryz.ntmps158 rfl ?_ hO hm
 refine jn 0 (fun a w => ∃ (t5 : Bool), Fits 11 [(2, .bool t5)] a ∧ Dk.Own w0 [] w [] ∧ zdE t5 = some R) rfl ?_ ?_
 refine cl zn8 rfl (fun r2 w hr2 hO => zc0 x_b r2 _ (hG.own hF hO) hr2) fun r2 hr2 => ?_
 refine vl rfl rfl (fun a w hf hO => zht (b := r2) (c := 97) hf rfl rfl) ?_
 refine br rfl (fun hc3 => ?_) fun hc3 => ?_
 refine cl zn8 rfl (fun r4 w hr4 hO => zc0 x_b r4 _ (hG.own hF hO) hr4) fun r4 hr4 => ?_
 refine vl rfl rfl (fun a w hf hO => ziZ (b := r4) (c := 122) hf rfl rfl) ?_
 exact en rfl fun a w hf hO hm => ⟨decide (r4 ≤ 122), hf.sel rfl, hO, hm⟩
 exact en rfl fun a w hf hO hm => ⟨false, hf.sel rfl, hO, hm⟩
 rintro a w ⟨t5, hf, hO, hm⟩
 rw [zdE] at hm
 refine S.co tb ?_ hf hO hm
 exact rt Tryz.results158 rfl

theorem zcQ (x_b : UInt8) (R : Bool) (w0 : World) (hG : zt w0) (hm : zam x_b = some R) :
    Calls Tryz.prog 154 #[zQ x_b] w0 (Ret w0 (fun R => .bool R) R) := by
 rw [zam] at hm
 have hF : zG [] := ze
 have hO : Dk.Own w0 [] w0 [] := Dk.Own.refl w0
 refine S.enter tb Tryz.func154 rfl Tryz.ntmps154 rfl ?_ hO hm
 refine jn 0 (fun a w => ∃ (t3 : Bool), Fits 9 [(2, .bool t3)] a ∧ Dk.Own w0 [] w [] ∧ zdF t3 = some R) rfl ?_ ?_
 refine vl rfl rfl (fun a w hf hO => zht (b := x_b) (c := 48) hf rfl rfl) ?_
 refine br rfl (fun hc2 => ?_) fun hc2 => ?_
 refine vl rfl rfl (fun a w hf hO => ziZ (b := x_b) (c := 57) hf rfl rfl) ?_
 exact en rfl fun a w hf hO hm => ⟨decide (x_b ≤ 57), hf.sel rfl, hO, hm⟩
 exact en rfl fun a w hf hO hm => ⟨false, hf.sel rfl, hO, hm⟩
 rintro a w ⟨t3, hf, hO, hm⟩
 rw [zdF] at hm
 refine S.co tb ?_ hf hO hm
 exact rt Tryz.results154 rfl

theorem zhL (x_b : UInt8) (x_l : Str) (R : Bool) (w0 : World) (hG : zt w0) (hm : zgE x_b x_l = some R) :
    Calls Tryz.prog 159 #[zQ x_b, str x_l] w0 (Ret w0 (fun R => .bool R) R) := by
 rw [zgE] at hm
 have hF : zG [] := ze
 have hO : Dk.Own w0 [] w0 [] := Dk.Own.refl w0
 refine S.enter tb Tryz.func159 rfl Tryz.ntmps159 rfl ?_ hO hm
 refine cl c_183 rfl (fun r2 w hr2 hO => zhZ x_l x_b r2 _ (hG.own hF hO) hr2) fun r2 hr2 => ?_
 exact rt Tryz.results159 rfl

theorem zg9 (x_b : UInt8) (R : Bool) (w0 : World) (hG : zt w0) (hm : zbJ x_b = some R) :
    Calls Tryz.prog 124 #[zQ x_b] w0 (Ret w0 (fun R => .bool R) R) := by
 rw [zbJ] at hm
 have hF : zG [] := ze
 have hO : Dk.Own w0 [] w0 [] := Dk.Own.refl w0
 refine S.enter tb Tryz.func124 rfl Tryz.ntmps124 rfl ?_ hO hm
 refine jn 0 (fun a w => ∃ (t7 : Bool), Fits 13 [(2, .bool t7)] a ∧ Dk.Own w0 [] w [] ∧ zcq t7 = some R) rfl ?_ ?_
 refine cl c_158 rfl (fun r2 w hr2 hO => zg8 x_b r2 _ (hG.own hF hO) hr2) fun r2 hr2 => ?_
 refine br rfl (fun hc3 => ?_) fun hc3 => ?_
 exact en rfl fun a w hf hO hm => ⟨true, hf.sel rfl, hO, hm⟩
 refine cl zn9 rfl (fun r4 w hr4 hO => zcQ x_b r4 _ (hG.own hF hO) hr4) fun r4 hr4 => ?_
 refine br rfl (fun hc5 => ?_) fun hc5 => ?_
 exact en rfl fun a w hf hO hm => ⟨true, hf.sel rfl, hO, hm⟩
 refine cl zrj rfl (fun r6 w hr6 hO => zhL x_b [33, 35, 36, 37, 38, 39, 42, 43, 45, 46, 94, 95, 96, 124, 126] r6 _ (hG.own hF hO) hr6) fun r6 hr6 => ?_
 exact en rfl fun a w hf hO hm => ⟨r6, hf.sel rfl, hO, hm⟩
 rintro a w ⟨t7, hf, hO, hm⟩
 rw [zcq] at hm
 refine S.co tb ?_ hf hO hm
 exact rt Tryz.results124 rfl

theorem zfe (x_c : scan_Scanner) (R : Str × Bool × scan_Scanner) (w0 : World) (hG : zt w0) {x_c_b0 : Nat} {F : List Nat} (hF : zG F) (hO : Dk.Own w0 F w0 [.blk x_c_b0 [str x_c.f_s, int x_c.f_at] 137]) (hm : za5 x_c = some R) :
    Calls Tryz.prog 101 #[ptr x_c_b0 0] w0 fun e w' => e = .returned (.tuple #[str R.1, .bool R.2.1]) ∧ Dk.Own w0 F w' [.blk x_c_b0 [str R.2.2.f_s, int R.2.2.f_at] 137] := by
 rw [za5] at hm
 refine S.enter tb Tryz.func101 rfl Tryz.ntmps101 rfl ?_ hO hm
 refine rw_ rfl fun a w hf hO hm => ?_
 obtain ⟨r2, hr2, hm⟩ := ob hm
 have hch3 := (show Dk.Own w0 F _ ([.blk x_c_b0 [str x_c.f_s, int x_c.f_at] 137] ++ []) from hO)
 have hfar3 := Dk.Own.far hch3 rfl hF hG.size
 have hlend3 := hch3.lend (S := []) rfl trivial
 have hcl3 := zfd x_c zbJ r2 _ (hG.own hF hO) hfar3 hlend3 c_124 (fun y0 r w hG h => ziA (zg9 y0 r w hG h)) hr2
 refine zo (zr c_102 hf (vs := [ptr x_c_b0 0, .func (.func 124) #[] #[]]) rfl) rfl hf rfl rfl (hcl3) ?_
 rintro e w' ⟨he, hO'⟩
 refine ⟨_, he, fun a hf => ?_⟩
 have hO := hch3.back rfl hO' rfl
 refine S.op tb ?_ hf hO hm
 refine re_ rfl fun a w hf hO hm => ?_
 obtain rfl := Option.some.inj hm
 exact zi Tryz.results101 hf (.tmp rfl (.tmp rfl .nil)) ⟨rfl, hO⟩

theorem zhe (x_r : via_reader) (x_v : api_Via) (R : Bool × scan_Scanner × api_Via) (w0 : World) (hG : zt w0) {x_r_b0 : Nat} {x_v_b1 : Nat} {F : List Nat} (hF : zG F) (hO : Dk.Own w0 F w0 [.blk x_r_b0 [str x_r.Scanner.f_s, int x_r.Scanner.f_at] 137, .blk x_v_b1 [str x_v.Proto, str x_v.Version, str x_v.By, str x_v.Comment] 23]) (hm : zaS x_r x_v = some R) :
    Calls Tryz.prog 69 #[.agg #[ptr x_r_b0 0], ptr x_v_b1 0] w0 fun e w' => e = .returned (.bool R.1) ∧ Dk.Own w0 F w' [.blk x_r_b0 [str R.2.1.f_s, int R.2.1.f_at] 137, .blk x_v_b1 [str R.2.2.Proto, str R.2.2.Version, str R.2.2.By, str R.2.2.Comment] 23] := by
 rw [zaS] at hm
 refine S.enter tb Tryz.func69 rfl Tryz.ntmps69 rfl ?_ hO hm
 refine rw_ rfl fun a w hf hO hm => ?_
 refine zen (v := .agg #[ptr x_r_b0 0]) (cs := [ptr x_r_b0 0]) rfl hf rfl rfl hO fun a b1 w hf hO => ?_
 refine S.op tb ?_ hf hO hm
 refine vl rfl rfl (fun a w hf hO => zb (o := 0) zbq (hO.blkSees (i := 0) rfl) rfl hf rfl) ?_
 refine rw_ rfl fun a w hf hO hm => ?_
 obtain ⟨r3, hr3, hm⟩ := ob hm
 have hch4 := (show Dk.Own w0 F _ ([.blk x_r_b0 [str x_r.Scanner.f_s, int x_r.Scanner.f_at] 137] ++ [.blk b1 [ptr x_r_b0 0] 116, .blk x_v_b1 [str x_v.Proto, str x_v.Version, str x_v.By, str x_v.Comment] 23]) from hO.choose [1, 0, 2] rfl)
 have hfar4 := Dk.Own.far hch4 rfl hF hG.size
 have hlend4 := hch4.lend (S := []) rfl trivial
 have hcl4 := zfe x_r.Scanner r3 _ (hG.own hF hO) hfar4 hlend4 hr3
 refine zo (zr c_101 hf (vs := [ptr x_r_b0 0]) rfl) rfl hf rfl rfl (hcl4) ?_
 rintro e w' ⟨he, hO'⟩
 refine ⟨_, he, fun a hf => ?_⟩
 have hO := hch4.back rfl hO' rfl
 refine S.op tb ?_ hf hO hm
 refine rw_ rfl fun a w hf hO hm => ?_
 refine zP (i := 2) (o := 1) (v := str r3.1) zd3 rfl rfl rfl rfl hf rfl rfl hO fun w hO => ?_
 refine S.op tb ?_ hf hO hm
 refine jn 0 (fun a w => ∃ (t17 : Bool) (s18 : Str) (i19 : Int) (s20 : Str) (s21 : Str), Fits 37 [(6, .bool t17)] a ∧ Dk.Own w0 F w [.blk x_r_b0 [str s18, int i19] 137, .blk b1 [ptr x_r_b0 0] 116, .blk x_v_b1 [str s20, str s21, str x_v.By, str x_v.Comment] 23] ∧ zaL x_v t17 s18 i19 s20 s21 = some R) rfl ?_ ?_
 refine jn 1 (fun a w => ∃ (t10 : Bool) (s11 : Str) (i12 : Int), Fits 37 [(1, ptr x_v_b1 0), (2, ptr b1 0), (5, str r3.1), (6, .bool r3.2.1), (22, .bool t10)] a ∧ Dk.Own w0 F w [.blk x_r_b0 [str s11, int i12] 137, .blk b1 [ptr x_r_b0 0] 116, .blk x_v_b1 [str x_v.Proto, str r3.1, str x_v.By, str x_v.Comment] 23] ∧ zaM x_v r3 t10 s11 i12 = some R) rfl ?_ ?_
 refine br rfl (fun hc7 => ?_) fun hc7 => ?_
 refine vl rfl rfl (fun a w hf hO => zb (o := 0) zbq (hO.blkSees (i := 1) rfl) rfl hf rfl) ?_
 refine rw_ rfl fun a w hf hO hm => ?_
 obtain ⟨r8, hr8, hm⟩ := ob hm
 have hch9 := (show Dk.Own w0 F _ ([.blk x_r_b0 [str r3.2.2.f_s, int r3.2.2.f_at] 137] ++ [.blk b1 [ptr x_r_b0 0] 116, .blk x_v_b1 [str x_v.Proto, str r3.1, str x_v.By, str x_v.Comment] 23]) from hO)
 have hfar9 := Dk.Own.far hch9 rfl hF hG.size
 have hlend9 := hch9.lend (S := []) rfl trivial
 have hcl9 := zI r3.2.2 47 r8 _ (hG.own hF hO) hfar9 hlend9 hr8
 refine zo (zr zlu hf (vs := [ptr x_r_b0 0, zQ 47]) rfl) rfl hf rfl rfl (hcl9) ?_
 rintro e w' ⟨he, hO'⟩
 refine ⟨_, he, fun a hf => ?_⟩
 have hO := hch9.back rfl hO' rfl
 refine S.op tb ?_ hf hO hm
 refine vl rfl rfl (fun a w hf hO => zpR hf rfl hc7 rfl) ?_
 exact en rfl fun a w hf hO hm => ⟨r8.1, r8.2.f_s, r8.2.f_at, hf.sel rfl, hO, hm⟩
 exact en rfl fun a w hf hO hm => ⟨false, r3.2.2.f_s, r3.2.2.f_at, hf.sel rfl, hO, hm⟩
 rintro a w ⟨t10, s11, i12, hf, hO, hm⟩
 rw [zaM] at hm
 refine S.co tb ?_ hf hO hm
 refine br rfl (fun hc13 => ?_) fun hc13 => ?_
 refine rw_ rfl fun a w hf hO hm => ?_
 refine zP (i := 2) (o := 0) (v := str r3.1) zd3 rfl rfl rfl rfl hf rfl rfl hO fun w hO => ?_
 refine S.op tb ?_ hf hO hm
 refine vl rfl rfl (fun a w hf hO => zb (o := 0) zbq (hO.blkSees (i := 1) rfl) rfl hf rfl) ?_
 refine rw_ rfl fun a w hf hO hm => ?_
 obtain ⟨r15, hr15, hm⟩ := ob hm
 have hch16 := (show Dk.Own w0 F _ ([.blk x_r_b0 [str s11, int i12] 137] ++ [.blk b1 [ptr x_r_b0 0] 116, .blk x_v_b1 [str r3.1, str r3.1, str x_v.By, str x_v.Comment] 23]) from hO)
 have hfar16 := Dk.Own.far hch16 rfl hF hG.size
 have hlend16 := hch16.lend (S := []) rfl trivial
 have hcl16 := zfe (⟨s11, i12⟩ : scan_Scanner) r15 _ (hG.own hF hO) hfar16 hlend16 hr15
 refine zo (zr c_101 hf (vs := [ptr x_r_b0 0]) rfl) rfl hf rfl rfl (hcl16) ?_
 rintro e w' ⟨he, hO'⟩
 refine ⟨_, he, fun a hf => ?_⟩
 have hO := hch16.back rfl hO' rfl
 refine S.op tb ?_ hf hO hm
 refine rw_ rfl fun a w hf hO hm => ?_
 refine zP (i := 2) (o := 1) (v := str r15.1) zd3 rfl rfl rfl rfl hf rfl rfl hO fun w hO => ?_
 refine S.op tb ?_ hf hO hm
 exact en rfl fun a w hf hO hm => ⟨r15.2.1, r15.2.2.f_s, r15.2.2.f_at, r3.1, r15.1, hf.sel rfl, hO, hm⟩
 exact en rfl fun a w hf hO hm => ⟨r3.2.1, s11, i12, x_v.Proto, r3.1, hf.sel rfl, hO, hm⟩
 rintro a w ⟨t17, s18, i19, s20, s21, hf, hO, hm⟩
 rw [zaL] at hm
 refine S.co tb ?_ hf hO hm
 refine re_ rfl fun a w hf hO hm => ?_
 obtain rfl := Option.some.inj hm
 exact zi Tryz.results69 hf (.tmp rfl .nil) ⟨rfl, (hO.sub (.cons_cons _ (.cons _ (.cons_cons _ .slnil))))⟩

end Go.Proofs
end
section
set_option linter.unusedVariables false
set_option maxHeartbeats 1000000
set_option linter.unusedSimpArgs false
set_option maxRecDepth 100000
namespace Go.Proofs
open Go.Dk Go.Dm Go.RowKit

theorem zi9 (x_b : UInt8) (R : Bool) (w0 : World) (hG : zt w0) (hm : zcR x_b = some R) :
    Calls Tryz.prog 103 #[zQ x_b] w0 (Ret w0 (fun R => .bool R) R) := by
 rw [zcR] at hm
 have hF : zG [] := ze
 have hO : Dk.Own w0 [] w0 [] := Dk.Own.refl w0
 refine S.enter tb Tryz.func103 rfl Tryz.ntmps103 rfl ?_ hO hm
 refine vl rfl rfl (fun a w hf hO => zdf (b := x_b) (c := 32) hf rfl rfl) ?_
 exact rt Tryz.results103 rfl

theorem ze9 (x_is : UInt8 → Option Bool) (x_l : List Str) (R : Bool) (w0 : World) (hG : zt w0) {x_is_f : Nat} {x_is_p x_is_c : Array Value} (x_is_k : zc Tryz.prog x_is_f) (x_is_h : ∀ (y0 : UInt8) (r : Bool) (w : World), zt w → x_is y0 = some r → Calls Tryz.prog x_is_f (x_is_p ++ [zQ y0].toArray ++ x_is_c) w fun e w' => e = .returned (.bool r) ∧ Below w.heap.size w w') {x_l_p0 : Option Addr} {x_l_c0 : Nat} (hs0 : zaU w0 x_l_p0 (cells zd x_l)) (hc0 : x_l.length ≤ x_l_c0) (hm : zdG x_is x_l = some R) :
    Calls Tryz.prog 120 #[.func (.func x_is_f) x_is_p x_is_c, .slice x_l_p0 x_l.length x_l_c0] w0 (Ret w0 (fun R => .bool R) R) := by
 rw [zdG] at hm
 have hF : zG [] := ze
 have hO : Dk.Own w0 [] w0 [] := Dk.Own.refl w0
 have hO := hO.addShr hs0 (by simp [Res.shared])
 refine S.enter tb Tryz.func120 rfl Tryz.ntmps120 rfl ?_ hO hm
 refine lp (fun k a w => ∃ (i3 : Int), Fits 27 [(0, .func (.func x_is_f) x_is_p x_is_c), (8, .slice x_l_p0 x_l.length x_l_c0), (9, int (x_l.length : Int)), (10, int i3)] a ∧ Dk.Own w0 [] w [.shr x_l_p0 (cells zd x_l)] ∧ zbC x_is x_l k i3 = some R) rfl (fun a w hf hO hm => ⟨0, hf.sel rfl, hO, hm⟩) ?_
 rintro n1 a w ⟨i3, hf, hO, hm⟩
 obtain _ | n1 := n1
 rw [zbC] at hm
 cases hm
 rw [zbC] at hm
 refine S.co tb ?_ hf hO hm
 refine br rfl (fun hc5 => ?_) fun hc5 => ?_
 refine rw_ rfl fun a w hf hO hm => ?_
 obtain ⟨x7, hx7, hm⟩ := ob hm
 obtain ⟨b8, o9, hix7, hSx7⟩ := zeo (enc := zd) (sz := 1) (xs := x_l) 41 Tryz.underlying41 zd3 (by decide) (fun _ => rfl) (hO.sees (i := 0) rfl) hx7
 refine zbp (zp hix7 hf rfl rfl) rfl hf rfl rfl fun a hf => ?_
 refine S.op tb ?_ hf hO hm
 refine vl rfl rfl (fun a w hf hO => zb (o := 0) zab (hSx7 _ (hO.sees (i := 0) rfl)) rfl hf rfl) ?_
 refine lp (fun k a w => ∃ (i12 : Int), Fits 27 [(0, .func (.func x_is_f) x_is_p x_is_c), (6, str x7), (8, .slice x_l_p0 x_l.length x_l_c0), (9, int (x_l.length : Int)), (10, int i3), (15, int (x7.length : Int)), (16, int i12)] a ∧ Dk.Own w0 [] w [.shr x_l_p0 (cells zd x_l)] ∧ zbB (zbC x_is x_l n1) x_is i3 x7 k i12 = some R) rfl (fun a w hf hO hm => ⟨0, hf.sel rfl, hO, hm⟩) ?_
 rintro n2 a w ⟨i12, hf, hO, hm⟩
 obtain _ | n2 := n2
 rw [zbB] at hm
 cases hm
 rw [zbB] at hm
 refine S.co tb ?_ hf hO hm
 refine br rfl (fun hc14 => ?_) fun hc14 => ?_
 refine bi rfl fun b17 hb17 => ?_
 refine rw_ rfl fun a w hf hO hm => ?_
 obtain ⟨r18, hr18, hm⟩ := ob hm
 refine oc (znS x_is_k hf rfl (vs := [zQ b17]) rfl) hf rfl (x_is_h b17 r18 _ (hG.own hF hO) hr18) hO fun a w' hf hO => ?_
 refine S.op tb ?_ hf hO hm
 refine br rfl (fun hc20 => ?_) fun hc20 => ?_
 exact rt Tryz.results120 rfl
 refine bi rfl fun i23 hi23 => ?_
 exact en rfl fun a w hf hO hm => ⟨_, Nat.lt_succ_self _, i23, hf.sel rfl, hO, hm⟩
 refine bi rfl fun i25 hi25 => ?_
 exact en rfl fun a w hf hO hm => ⟨_, Nat.lt_succ_self _, i25, hf.sel rfl, hO, hm⟩
 exact rt Tryz.results120 rfl

theorem zkp (x_b : UInt8) (R : Int) (w0 : World) (hG : zt w0) (hm : zdT x_b = some R) :
    Calls Tryz.prog 175 #[zQ x_b] w0 (Ret w0 (fun R => int R) R) := by
 rw [zdT] at hm
 have hF : zG [] := ze
 have hO : Dk.Own w0 [] w0 [] := Dk.Own.refl w0
 refine S.enter tb Tryz.func175 rfl Tryz.ntmps175 rfl ?_ hO hm
 refine cl zn9 rfl (fun r2 w hr2 hO => zcQ x_b r2 _ (hG.own hF hO) hr2) fun r2 hr2 => ?_
 refine br rfl (fun hc4 => ?_) fun hc4 => ?_
 refine vl rfl rfl (fun a w hf hO => znP (b := x_b) (c := 48) hf rfl rfl) ?_
 refine vl rfl rfl (fun a w hf hO => zmz Tryz.underlying3 Tryz.underlying5 (znR _) hf (kd := .u8) rfl) ?_
 exact rt Tryz.results175 rfl
 refine cl zn8 rfl (fun r7 w hr7 hO => zc0 x_b r7 _ (hG.own hF hO) hr7) fun r7 hr7 => ?_
 refine vl rfl rfl (fun a w hf hO => znP (b := r7) (c := 97) hf rfl rfl) ?_
 refine vl rfl rfl (fun a w hf hO => zmz Tryz.underlying3 Tryz.underlying5 (znR _) hf (kd := .u8) rfl) ?_
 refine bi rfl fun i8 hi8 => ?_
 exact rt Tryz.results175 rfl

theorem zlk (x_s : Str) (x_base : Int) (x_most : Int) (x_is : UInt8 → Option Bool) (R : Int × Int) (w0 : World) (hG : zt w0) {x_is_f : Nat} {x_is_p x_is_c : Array Value} (x_is_k : zc Tryz.prog x_is_f) (x_is_h : ∀ (y0 : UInt8) (r : Bool) (w : World), zt w → x_is y0 = some r → Calls Tryz.prog x_is_f (x_is_p ++ [zQ y0].toArray ++ x_is_c) w fun e w' => e = .returned (.bool r) ∧ Below w.heap.size w w') (hm : zew x_s x_base x_most x_is = some R) :
    Calls Tryz.prog 153 #[str x_s, int x_base, int x_most, .func (.func x_is_f) x_is_p x_is_c] w0 (Ret w0 (fun R => .tuple #[int R.1, int R.2]) R) := by
 rw [zew] at hm
 have hF : zG [] := ze
 have hO : Dk.Own w0 [] w0 [] := Dk.Own.refl w0
 refine S.enter tb Tryz.func153 rfl Tryz.ntmps153 rfl ?_ hO hm
 refine jn 1 (fun a w => ∃ (t5 : Bool), Fits 50 [(0, str x_s), (1, int x_base), (2, int x_most), (21, .bool t5)] a ∧ Dk.Own w0 [] w [] ∧ zb4 x_s x_base x_most t5 = some R) rfl ?_ ?_
 refine br rfl (fun hc2 => ?_) fun hc2 => ?_
 exact en rfl fun a w hf hO hm => ⟨true, hf.sel rfl, hO, hm⟩
 refine rw_ rfl fun a w hf hO hm => ?_
 refine zs (vs := [(0, str x_s)]) (cs := [str x_s]) (e := 9) (sz := 1) hf rfl rfl (fun w => by kernel_rfl) rfl rfl hO fun a b3 w hf hO => ?_
 refine S.op tb ?_ hf hO hm
 refine kn (b' := false) hc2 rfl ?_
 refine cl zn7 rfl (fun r4 w hr4 hO => ze9 x_is ([x_s] : List Str) r4 _ (hG.own hF hO) x_is_k x_is_h (hO.rowSees (i := 0) rfl) (hO.rowCap (i := 0) rfl) hr4) fun r4 hr4 => ?_
 exact en rfl fun a w hf hO hm => ⟨!r4, hf.sel rfl, (hO.sub (.cons _ .slnil)), hm⟩
 rintro a w ⟨t5, hf, hO, hm⟩
 rw [zb4] at hm
 refine S.co tb ?_ hf hO hm
 refine br rfl (fun hc6 => ?_) fun hc6 => ?_
 exact rt Tryz.results153 rfl
 refine lp (fun k a w => ∃ (i11 : Int) (i12 : Int), Fits 50 [(0, str x_s), (1, int x_base), (2, int x_most), (10, int i11), (23, int (x_s.length : Int)), (24, int i12)] a ∧ Dk.Own w0 [] w [] ∧ zaf x_s x_base x_most k i11 i12 = some R) rfl (fun a w hf hO hm => ⟨0, 0, hf.sel rfl, hO, hm⟩) ?_
 rintro n2 a w ⟨i11, i12, hf, hO, hm⟩
 obtain _ | n2 := n2
 rw [zaf] at hm
 cases hm
 rw [zaf] at hm
 refine S.co tb ?_ hf hO hm
 refine br rfl (fun hc14 => ?_) fun hc14 => ?_
 refine bi rfl fun b17 hb17 => ?_
 refine cl c_175 rfl (fun r18 w hr18 hO => zkp b17 r18 _ (hG.own hF hO) hr18) fun r18 hr18 => ?_
 refine jn 6 (fun a w => ∃ (t23 : Bool), Fits 50 [(0, str x_s), (1, int x_base), (2, int x_most), (10, int i11), (12, int r18), (23, int (x_s.length : Int)), (24, int i12), (42, .bool t23)] a ∧ Dk.Own w0 [] w [] ∧ zb3 (zaf x_s x_base x_most n2) x_base i11 i12 r18 t23 = some R) rfl ?_ ?_
 refine br rfl (fun hc20 => ?_) fun hc20 => ?_
 exact en rfl fun a w hf hO hm => ⟨true, hf.sel rfl, hO, hm⟩
 refine bi rfl fun i21 hi21 => ?_
 refine bi rfl fun i22 hi22 => ?_
 exact en rfl fun a w hf hO hm => ⟨decide (i22 < i11), hf.sel rfl, hO, hm⟩
 rintro a w ⟨t23, hf, hO, hm⟩
 rw [zb3] at hm
 refine S.co tb ?_ hf hO hm
 refine br rfl (fun hc24 => ?_) fun hc24 => ?_
 exact rt Tryz.results153 rfl
 refine bi rfl fun i27 hi27 => ?_
 refine bi rfl fun i28 hi28 => ?_
 refine bi rfl fun i30 hi30 => ?_
 exact en rfl fun a w hf hO hm => ⟨_, Nat.lt_succ_self _, i28, i30, hf.sel rfl, hO, hm⟩
 exact rt Tryz.results153 rfl

theorem zf4 (x_s : Str) (x_most : Int) (R : Int × Int) (w0 : World) (hG : zt w0) (hm : zb5 x_s x_most = some R) :
    Calls Tryz.prog 116 #[str x_s, int x_most] w0 (Ret w0 (fun R => .tuple #[int R.1, int R.2]) R) := by
 rw [zb5] at hm
 have hF : zG [] := ze
 have hO : Dk.Own w0 [] w0 [] := Dk.Own.refl w0
 refine S.enter tb Tryz.func116 rfl Tryz.ntmps116 rfl ?_ hO hm
 refine cl c_153 rfl (fun r2 w hr2 hO => zlk x_s 10 x_most zam r2 _ (hG.own hF hO) zn9 (fun y0 r w hG h => ziA (zcQ y0 r w hG h)) hr2) fun r2 hr2 => ?_
 exact rt Tryz.results116 rfl

theorem zll (x_n : Int) (x_base : Int) (R : Str) (w0 : World) (hG : zbH w0) (hm : zfv x_n x_base = some R) :
    Calls Tryz.prog 155 #[int x_n, int x_base] w0 (Ret w0 (fun R => str R) R) := by
 rw [zfv] at hm
 have hF : zG [] := ze
 have hO : Dk.Own w0 [] w0 [] := Dk.Own.refl w0
 refine S.enter tb Tryz.func155 rfl Tryz.ntmps155 rfl ?_ hO hm
 refine br rfl (fun hc3 => ?_) fun hc3 => ?_
 exact rt Tryz.results155 rfl
 refine cl c_176 rfl (fun r6 w hr6 hO => zh0 x_n x_base r6 _ (hG.own hF hO) hr6) fun r6 hr6 => ?_
 exact rt Tryz.results155 rfl

theorem zlm (x_n : Int) (R : Str) (w0 : World) (hG : zbH w0) (hm : zex x_n = some R) :
    Calls Tryz.prog 117 #[int x_n] w0 (Ret w0 (fun R => str R) R) := by
 rw [zex] at hm
 have hF : zG [] := ze
 have hO : Dk.Own w0 [] w0 [] := Dk.Own.refl w0
 refine S.enter tb Tryz.func117 rfl Tryz.ntmps117 rfl ?_ hO hm
 refine cl c_155 rfl (fun r2 w hr2 hO => zll x_n 10 r2 _ (hG.own hF hO) hr2) fun r2 hr2 => ?_
 exact rt Tryz.results117 rfl

theorem zgu (x_s : Str) (x_most : Int) (R : Bool) (w0 : World) (hG : zbH w0) (hm : zbV x_s x_most = some R) :
    Calls Tryz.prog 80 #[str x_s, int x_most] w0 (Ret w0 (fun R => .bool R) R) := by
 rw [zbV] at hm
 have hF : zG [] := ze
 have hO : Dk.Own w0 [] w0 [] := Dk.Own.refl w0
 refine S.enter tb Tryz.func80 rfl Tryz.ntmps80 rfl ?_ hO hm
 refine cl c_116 rfl (fun r2 w hr2 hO => zf4 x_s x_most r2 _ (hG.own hF hO).1 hr2) fun r2 hr2 => ?_
 refine jn 0 (fun a w => ∃ (t6 : Bool), Fits 21 [(4, .bool t6)] a ∧ Dk.Own w0 [] w [] ∧ zbo t6 = some R) rfl ?_ ?_
 refine br rfl (fun hc4 => ?_) fun hc4 => ?_
 refine cl c_117 rfl (fun r5 w hr5 hO => zlm r2.1 r5 _ (hG.own hF hO) hr5) fun r5 hr5 => ?_
 exact en rfl fun a w hf hO hm => ⟨r5 == x_s, hf.sel rfl, hO, hm⟩
 exact en rfl fun a w hf hO hm => ⟨false, hf.sel rfl, hO, hm⟩
 rintro a w ⟨t6, hf, hO, hm⟩
 rw [zbo] at hm
 refine S.co tb ?_ hf hO hm
 exact rt Tryz.results80 rfl

theorem zg5 (x_s : Str) (R : Bool) (w0 : World) (hG : zbH w0) (hm : zc1 x_s = some R) :
    Calls Tryz.prog 47 #[str x_s] w0 fun e w' => e = .returned (.bool R) ∧ Below w0.heap.size w0 w' := by
  unfold zc1 at hm
  split at hm
  · rename_i hs
    obtain ⟨bs, hbs, hm⟩ := ob hm
    cases hm
    exact zsb (fun x => zbV x 255) (fun x b W hG h => zgu x 255 b W hG h) x_s hs bs hbs w0 hG
  · cases hm

theorem zii (x_b : UInt8) (R : Bool) (w0 : World) (hG : zt w0) (hm : zcC x_b = some R) :
    Calls Tryz.prog 121 #[zQ x_b] w0 (Ret w0 (fun R => .bool R) R) := by
 rw [zcC] at hm
 have hF : zG [] := ze
 have hO : Dk.Own w0 [] w0 [] := Dk.Own.refl w0
 refine S.enter tb Tryz.func121 rfl Tryz.ntmps121 rfl ?_ hO hm
 refine jn 0 (fun a w => ∃ (t7 : Bool), Fits 15 [(2, .bool t7)] a ∧ Dk.Own w0 [] w [] ∧ zdl t7 = some R) rfl ?_ ?_
 refine cl zn9 rfl (fun r2 w hr2 hO => zcQ x_b r2 _ (hG.own hF hO) hr2) fun r2 hr2 => ?_
 refine br rfl (fun hc3 => ?_) fun hc3 => ?_
 exact en rfl fun a w hf hO hm => ⟨true, hf.sel rfl, hO, hm⟩
 refine cl zn8 rfl (fun r4 w hr4 hO => zc0 x_b r4 _ (hG.own hF hO) hr4) fun r4 hr4 => ?_
 refine vl rfl rfl (fun a w hf hO => zht (b := r4) (c := 97) hf rfl rfl) ?_
 refine br rfl (fun hc5 => ?_) fun hc5 => ?_
 refine cl zn8 rfl (fun r6 w hr6 hO => zc0 x_b r6 _ (hG.own hF hO) hr6) fun r6 hr6 => ?_
 refine vl rfl rfl (fun a w hf hO => ziZ (b := r6) (c := 102) hf rfl rfl) ?_
 exact en rfl fun a w hf hO hm => ⟨decide (r6 ≤ 102), hf.sel rfl, hO, hm⟩
 exact en rfl fun a w hf hO hm => ⟨false, hf.sel rfl, hO, hm⟩
 rintro a w ⟨t7, hf, hO, hm⟩
 rw [zdl] at hm
 refine S.co tb ?_ hf hO hm
 exact rt Tryz.results121 rfl

theorem zer (x_s : Str) (x_last : Bool) (R : Int) (w0 : World) (hG : zbH w0) (hm : zbt x_s x_last = some R) :
    Calls Tryz.prog 82 #[str x_s, .bool x_last] w0 (Ret w0 (fun R => int R) R) := by
 rw [zbt] at hm
 have hF : zG [] := ze
 have hO : Dk.Own w0 [] w0 [] := Dk.Own.refl w0
 refine S.enter tb Tryz.func82 rfl Tryz.ntmps82 rfl ?_ hO hm
 refine br rfl (fun hc3 => ?_) fun hc3 => ?_
 exact rt Tryz.results82 rfl
 refine rw_ rfl fun a w hf hO hm => ?_
 obtain ⟨r6, hr6, hm⟩ := ob hm
 refine zo (zr c_119 hf (vs := [str x_s, str [58]]) rfl) rfl hf rfl rfl (zku x_s [58] r6 _ (hG.own hF hO).1 hr6) ?_
 rintro e w' ⟨p7, c8, he, hO'⟩
 refine ⟨_, he, fun a hf => ?_⟩
 have hO := hO.call hO' (by simp [Res.shared])
 refine S.op tb ?_ hf hO hm
 refine lp (fun k a w => ∃ (i12 : Int) (i13 : Int), Fits 53 [(1, .bool x_last), (5, .slice p7 r6.length c8), (6, int i12), (13, .slice p7 r6.length c8), (14, int (r6.length : Int)), (15, int i13)] a ∧ Dk.Own w0 [] w [.row (.slice p7 r6.length c8) 9 1 r6.length (cells zd r6)] ∧ zD x_last r6 k i12 i13 = some R) rfl (fun a w hf hO hm => ⟨0, 0, hf.sel rfl, hO, hm⟩) ?_
 rintro n1 a w ⟨i12, i13, hf, hO, hm⟩
 obtain _ | n1 := n1
 rw [zD] at hm
 cases hm
 rw [zD] at hm
 refine S.co tb ?_ hf hO hm
 refine br rfl (fun hc15 => ?_) fun hc15 => ?_
 refine jn 3 (fun a w => ∃ (i36 : Int), Fits 53 [(1, .bool x_last), (5, .slice p7 r6.length c8), (6, int i36), (13, .slice p7 r6.length c8), (14, int (r6.length : Int)), (15, int i13)] a ∧ Dk.Own w0 [] w [.row (.slice p7 r6.length c8) 9 1 r6.length (cells zd r6)] ∧ za6 (zD x_last r6 n1) i13 i36 = some R) rfl ?_ ?_
 refine rw_ rfl fun a w hf hO hm => ?_
 obtain ⟨x17, hx17, hm⟩ := ob hm
 obtain ⟨b18, o19, hix17, hSx17, hAx17⟩ := zbP (enc := zd) (sz := 1) (xs := r6) 41 Tryz.underlying41 zd3 (by decide) (fun _ => rfl) hO (i := 0) rfl hx17
 refine zbp (zp hix17 hf rfl rfl) rfl hf rfl rfl fun a hf => ?_
 refine S.op tb ?_ hf hO hm
 refine vl rfl rfl (fun a w hf hO => zb (o := 0) zab (hSx17 _ (hO.rowSees (i := 0) rfl)) rfl hf rfl) ?_
 refine jn 6 (fun a w => ∃ (t25 : Bool), Fits 53 [(1, .bool x_last), (5, .slice p7 r6.length c8), (6, int i12), (8, str x17), (13, .slice p7 r6.length c8), (14, int (r6.length : Int)), (15, int i13), (20, .bool t25)] a ∧ Dk.Own w0 [] w [.row (.slice p7 r6.length c8) 9 1 r6.length (cells zd r6)] ∧ zay (zD x_last r6 n1) i12 i13 x17 t25 = some R) rfl ?_ ?_
 refine br rfl (fun hc21 => ?_) fun hc21 => ?_
 refine bi rfl fun i22 hi22 => ?_
 refine br rfl (fun hc23 => ?_) fun hc23 => ?_
 refine cl c_47 rfl (fun r24 w hr24 hO => zg5 x17 r24 _ (hG.own hF hO) hr24) fun r24 hr24 => ?_
 exact en rfl fun a w hf hO hm => ⟨r24, hf.sel rfl, hO, hm⟩
 exact en rfl fun a w hf hO hm => ⟨false, hf.sel rfl, hO, hm⟩
 exact en rfl fun a w hf hO hm => ⟨false, hf.sel rfl, hO, hm⟩
 rintro a w ⟨t25, hf, hO, hm⟩
 rw [zay] at hm
 refine S.co tb ?_ hf hO hm
 refine br rfl (fun hc26 => ?_) fun hc26 => ?_
 refine bi rfl fun i27 hi27 => ?_
 exact en rfl fun a w hf hO hm => ⟨i27, hf.sel rfl, hO, hm⟩
 refine jn 6 (fun a w => ∃ (t32 : Bool), Fits 53 [(1, .bool x_last), (5, .slice p7 r6.length c8), (6, int i12), (13, .slice p7 r6.length c8), (14, int (r6.length : Int)), (15, int i13), (35, .bool t32)] a ∧ Dk.Own w0 [] w [.row (.slice p7 r6.length c8) 9 1 r6.length (cells zd r6)] ∧ zax (zD x_last r6 n1) i12 i13 t32 = some R) rfl ?_ ?_
 refine br rfl (fun hc28 => ?_) fun hc28 => ?_
 refine br rfl (fun hc29 => ?_) fun hc29 => ?_
 refine rw_ rfl fun a w hf hO hm => ?_
 refine zs (vs := [(0, str x17)]) (cs := [str x17]) (e := 9) (sz := 1) hf rfl rfl (fun w => by kernel_rfl) rfl rfl hO fun a b30 w hf hO => ?_
 refine S.op tb ?_ hf hO hm
 refine kn (b' := true) hc29 rfl ?_
 refine cl zn7 rfl (fun r31 w hr31 hO => ze9 zcC ([x17] : List Str) r31 _ (hG.own hF hO).1 c_121 (fun y0 r w hG h => ziA (zii y0 r w hG h)) (hO.rowSees (i := 0) rfl) (hO.rowCap (i := 0) rfl) hr31) fun r31 hr31 => ?_
 exact en rfl fun a w hf hO hm => ⟨r31, hf.sel rfl, (hO.sub (.cons _ (.cons_cons _ .slnil))), hm⟩
 exact en rfl fun a w hf hO hm => ⟨false, hf.sel rfl, hO, hm⟩
 exact en rfl fun a w hf hO hm => ⟨false, hf.sel rfl, hO, hm⟩
 rintro a w ⟨t32, hf, hO, hm⟩
 rw [zax] at hm
 refine S.co tb ?_ hf hO hm
 refine br rfl (fun hc33 => ?_) fun hc33 => ?_
 refine bi rfl fun i34 hi34 => ?_
 exact en rfl fun a w hf hO hm => ⟨i34, hf.sel rfl, hO, hm⟩
 exact rt Tryz.results82 rfl
 rintro a w ⟨i36, hf, hO, hm⟩
 rw [za6] at hm
 refine S.co tb ?_ hf hO hm
 refine bi rfl fun i37 hi37 => ?_
 exact en rfl fun a w hf hO hm => ⟨_, Nat.lt_succ_self _, i36, i37, hf.sel rfl, hO, hm⟩
 exact rt Tryz.results82 rfl

theorem zln (x_s : Str) (R : Bool) (w0 : World) (hG : zbH w0) (hm : zdH x_s = some R) :
    Calls Tryz.prog 48 #[str x_s] w0 (Ret w0 (fun R => .bool R) R) := by
 rw [zdH] at hm
 have hF : zG [] := ze
 have hO : Dk.Own w0 [] w0 [] := Dk.Own.refl w0
 refine S.enter tb Tryz.func48 rfl Tryz.ntmps48 rfl ?_ hO hm
 refine cl c_81 rfl (fun r2 w hr2 hO => zmj x_s [58, 58] r2 _ (hG.own hF hO).1 hr2) fun r2 hr2 => ?_
 refine br rfl (fun hc5 => ?_) fun hc5 => ?_
 refine cl c_82 rfl (fun r6 w hr6 hO => zer x_s true r6 _ (hG.own hF hO) hr6) fun r6 hr6 => ?_
 exact rt Tryz.results48 rfl
 refine cl c_82 rfl (fun r9 w hr9 hO => zer r2.1 false r9 _ (hG.own hF hO) hr9) fun r9 hr9 => ?_
 refine cl c_82 rfl (fun r10 w hr10 hO => zer r2.2.1 true r10 _ (hG.own hF hO) hr10) fun r10 hr10 => ?_
 refine jn 0 (fun a w => ∃ (t15 : Bool), Fits 35 [(2, .bool t15)] a ∧ Dk.Own w0 [] w [] ∧ zaY t15 = some R) rfl ?_ ?_
 refine br rfl (fun hc12 => ?_) fun hc12 => ?_
 refine br rfl (fun hc13 => ?_) fun hc13 => ?_
 refine bi rfl fun i14 hi14 => ?_
 exact en rfl fun a w hf hO hm => ⟨decide (i14 ≤ 7), hf.sel rfl, hO, hm⟩
 exact en rfl fun a w hf hO hm => ⟨false, hf.sel rfl, hO, hm⟩
 exact en rfl fun a w hf hO hm => ⟨false, hf.sel rfl, hO, hm⟩
 rintro a w ⟨t15, hf, hO, hm⟩
 rw [zaY] at hm
 refine S.co tb ?_ hf hO hm
 exact rt Tryz.results48 rfl

end Go.Proofs
end
section
set_option linter.unusedVariables false
set_option maxHeartbeats 1000000
set_option linter.unusedSimpArgs false
set_option maxRecDepth 100000
namespace Go.Proofs
open Go.Dk Go.Dm Go.RowKit

theorem zit (x_s : Str) (R : Bool) (w0 : World) (hG : zt w0) (hm : zdI x_s = some R) :
    Calls Tryz.prog 187 #[str x_s] w0 (Ret w0 (fun R => .bool R) R) := by
 rw [zdI] at hm
 have hF : zG [] := ze
 have hO : Dk.Own w0 [] w0 [] := Dk.Own.refl w0
 refine S.enter tb Tryz.func187 rfl Tryz.ntmps187 rfl ?_ hO hm
 refine jn 0 (fun a w => ∃ (t8 : Bool), Fits 17 [(2, .bool t8)] a ∧ Dk.Own w0 [] w [] ∧ zR t8 = some R) rfl ?_ ?_
 refine br rfl (fun hc2 => ?_) fun hc2 => ?_
 refine bi rfl fun b3 hb3 => ?_
 refine vl rfl rfl (fun a w hf hO => zL (b := b3) (c := 37) hf rfl rfl) ?_
 refine br rfl (fun hc4 => ?_) fun hc4 => ?_
 refine bi rfl fun s5 hs5 => ?_
 refine rw_ rfl fun a w hf hO hm => ?_
 refine zs (vs := [(0, str s5)]) (cs := [str s5]) (e := 9) (sz := 1) hf rfl rfl (fun w => by kernel_rfl) rfl rfl hO fun a b6 w hf hO => ?_
 refine S.op tb ?_ hf hO hm
 refine kn (b' := true) hc4 rfl ?_
 refine cl zn7 rfl (fun r7 w hr7 hO => ze9 zcC ([s5] : List Str) r7 _ (hG.own hF hO) c_121 (fun y0 r w hG h => ziA (zii y0 r w hG h)) (hO.rowSees (i := 0) rfl) (hO.rowCap (i := 0) rfl) hr7) fun r7 hr7 => ?_
 exact en rfl fun a w hf hO hm => ⟨r7, hf.sel rfl, (hO.sub (.cons _ .slnil)), hm⟩
 exact en rfl fun a w hf hO hm => ⟨false, hf.sel rfl, hO, hm⟩
 exact en rfl fun a w hf hO hm => ⟨false, hf.sel rfl, hO, hm⟩
 rintro a w ⟨t8, hf, hO, hm⟩
 rw [zR] at hm
 refine S.co tb ?_ hf hO hm
 exact rt Tryz.results187 rfl

theorem zhi (x_b : UInt8) (R : Bool) (w0 : World) (hG : zt w0) (hm : zbW x_b = some R) :
    Calls Tryz.prog 188 #[zQ x_b] w0 (Ret w0 (fun R => .bool R) R) := by
 rw [zbW] at hm
 have hF : zG [] := ze
 have hO : Dk.Own w0 [] w0 [] := Dk.Own.refl w0
 refine S.enter tb Tryz.func188 rfl Tryz.ntmps188 rfl ?_ hO hm
 refine jn 0 (fun a w => ∃ (t7 : Bool), Fits 13 [(2, .bool t7)] a ∧ Dk.Own w0 [] w [] ∧ za1 t7 = some R) rfl ?_ ?_
 refine cl c_158 rfl (fun r2 w hr2 hO => zg8 x_b r2 _ (hG.own hF hO) hr2) fun r2 hr2 => ?_
 refine br rfl (fun hc3 => ?_) fun hc3 => ?_
 exact en rfl fun a w hf hO hm => ⟨true, hf.sel rfl, hO, hm⟩
 refine cl zn9 rfl (fun r4 w hr4 hO => zcQ x_b r4 _ (hG.own hF hO) hr4) fun r4 hr4 => ?_
 refine br rfl (fun hc5 => ?_) fun hc5 => ?_
 exact en rfl fun a w hf hO hm => ⟨true, hf.sel rfl, hO, hm⟩
 refine cl zrj rfl (fun r6 w hr6 hO => zhL x_b [45, 46, 95, 126] r6 _ (hG.own hF hO) hr6) fun r6 hr6 => ?_
 exact en rfl fun a w hf hO hm => ⟨r6, hf.sel rfl, hO, hm⟩
 rintro a w ⟨t7, hf, hO, hm⟩
 rw [za1] at hm
 refine S.co tb ?_ hf hO hm
 exact rt Tryz.results188 rfl

theorem zlW (x_b : UInt8) (R : Bool) (w0 : World) (hG : zt w0) (hm : zfh x_b = some R) :
    Calls Tryz.prog 189 #[zQ x_b] w0 (Ret w0 (fun R => .bool R) R) := by
 rw [zfh] at hm
 have hF : zG [] := ze
 have hO : Dk.Own w0 [] w0 [] := Dk.Own.refl w0
 refine S.enter tb Tryz.func189 rfl Tryz.ntmps189 rfl ?_ hO hm
 refine cl zrj rfl (fun r2 w hr2 hO => zhL x_b [33, 36, 38, 39, 40, 41, 42, 43, 44, 59, 61] r2 _ (hG.own hF hO) hr2) fun r2 hr2 => ?_
 exact rt Tryz.results189 rfl

theorem zkh (x_s : Str) (R : Bool) (w0 : World) (hG : zt w0) (hm : zdU x_s = some R) :
    Calls Tryz.prog 167 #[str x_s] w0 (Ret w0 (fun R => .bool R) R) := by
 rw [zdU] at hm
 have hF : zG [] := ze
 have hO : Dk.Own w0 [] w0 [] := Dk.Own.refl w0
 refine S.enter tb Tryz.func167 rfl Tryz.ntmps167 rfl ?_ hO hm
 refine br rfl (fun hc3 => ?_) fun hc3 => ?_
 exact rt Tryz.results167 rfl
 refine lp (fun k a w => ∃ (s6 : Str), Fits 23 [(0, str s6)] a ∧ Dk.Own w0 [] w [] ∧ zZ k s6 = some R) rfl (fun a w hf hO hm => ⟨x_s, hf.sel rfl, hO, hm⟩) ?_
 rintro n1 a w ⟨s6, hf, hO, hm⟩
 obtain _ | n1 := n1
 rw [zZ] at hm
 cases hm
 rw [zZ] at hm
 refine S.co tb ?_ hf hO hm
 refine br rfl (fun hc8 => ?_) fun hc8 => ?_
 refine cl c_187 rfl (fun r10 w hr10 hO => zit s6 r10 _ (hG.own hF hO) hr10) fun r10 hr10 => ?_
 refine br rfl (fun hc12 => ?_) fun hc12 => ?_
 refine bi rfl fun s13 hs13 => ?_
 exact en rfl fun a w hf hO hm => ⟨_, Nat.lt_succ_self _, s13, hf.sel rfl, hO, hm⟩
 refine jn 5 (fun a w => ∃ (t19 : Bool), Fits 23 [(0, str s6), (12, .bool t19)] a ∧ Dk.Own w0 [] w [] ∧ zcr (zZ n1) s6 t19 = some R) rfl ?_ ?_
 refine bi rfl fun b14 hb14 => ?_
 refine cl c_188 rfl (fun r15 w hr15 hO => zhi b14 r15 _ (hG.own hF hO) hr15) fun r15 hr15 => ?_
 refine br rfl (fun hc16 => ?_) fun hc16 => ?_
 exact en rfl fun a w hf hO hm => ⟨true, hf.sel rfl, hO, hm⟩
 refine bi rfl fun b17 hb17 => ?_
 refine cl c_189 rfl (fun r18 w hr18 hO => zlW b17 r18 _ (hG.own hF hO) hr18) fun r18 hr18 => ?_
 exact en rfl fun a w hf hO hm => ⟨r18, hf.sel rfl, hO, hm⟩
 rintro a w ⟨t19, hf, hO, hm⟩
 rw [zcr] at hm
 refine S.co tb ?_ hf hO hm
 refine br rfl (fun hc20 => ?_) fun hc20 => ?_
 refine bi rfl fun s21 hs21 => ?_
 exact en rfl fun a w hf hO hm => ⟨_, Nat.lt_succ_self _, s21, hf.sel rfl, hO, hm⟩
 exact rt Tryz.results167 rfl
 exact rt Tryz.results167 rfl

theorem zh5 (x_s : Str) (R : api_Host × Bool) (w0 : World) (hG : zbH w0) (hm : zeb x_s = some R) :
    Calls Tryz.prog 139 #[str x_s] w0 (Ret w0 (fun R => .tuple #[.agg #[int R.1.Kind, str R.1.Name, int R.1.Port], .bool R.2]) R) := by
 rw [zeb] at hm
 have hF : zG [] := ze
 have hO : Dk.Own w0 [] w0 [] := Dk.Own.refl w0
 refine S.enter tb Tryz.func139 rfl Tryz.ntmps139 rfl ?_ hO hm
 refine rw_ rfl fun a w hf hO hm => ?_
 refine zal zge hf rfl hO fun a b1 w hf hO => ?_
 refine S.op tb ?_ hf hO hm
 refine vl rfl rfl (fun a w hf hO => zS (vs := [(1, str x_s), (2, int (-1))]) (v := .agg #[int 0, str x_s, int (-1)]) hf rfl (by kernel_rfl)) ?_
 refine rw_ rfl fun a w hf hO hm => ?_
 refine zal zge hf rfl hO fun a b3 w hf hO => ?_
 refine S.op tb ?_ hf hO hm
 refine rw_ rfl fun a w hf hO hm => ?_
 refine zu (i := 0) (n := 3) zX rfl rfl rfl (by simp [Value.oneCell']) hf rfl rfl hO fun w hO => ?_
 refine S.op tb ?_ hf hO hm
 refine jn 0 (fun a w => ∃ (i24 : Int) (s25 : Str), Fits 51 [(2, ptr b1 0), (4, ptr b3 0)] a ∧ Dk.Own w0 [] w [.blk b3 [int i24, str s25, int (-1)] 105, .blk b1 [int 0, str [], int 0] 105] ∧ zbX i24 s25 = some R) rfl ?_ ?_
 refine jn 2 (fun a w => ∃ (t14 : Bool), Fits 51 [(0, str x_s), (2, ptr b1 0), (4, ptr b3 0), (7, .bool t14)] a ∧ Dk.Own w0 [] w [.blk b3 [int 0, str x_s, int (-1)] 105, .blk b1 [int 0, str [], int 0] 105] ∧ zbf x_s t14 = some R) rfl ?_ ?_
 refine br rfl (fun hc5 => ?_) fun hc5 => ?_
 refine bi rfl fun b6 hb6 => ?_
 refine vl rfl rfl (fun a w hf hO => zL (b := b6) (c := 91) hf rfl rfl) ?_
 refine br rfl (fun hc7 => ?_) fun hc7 => ?_
 refine bi rfl fun i8 hi8 => ?_
 refine bi rfl fun b9 hb9 => ?_
 refine vl rfl rfl (fun a w hf hO => zL (b := b9) (c := 93) hf rfl rfl) ?_
 refine br rfl (fun hc10 => ?_) fun hc10 => ?_
 refine bi rfl fun i11 hi11 => ?_
 refine bi rfl fun s12 hs12 => ?_
 refine cl c_48 rfl (fun r13 w hr13 hO => zln s12 r13 _ (hG.own hF hO) hr13) fun r13 hr13 => ?_
 exact en rfl fun a w hf hO hm => ⟨r13, hf.sel rfl, hO, hm⟩
 exact en rfl fun a w hf hO hm => ⟨false, hf.sel rfl, hO, hm⟩
 exact en rfl fun a w hf hO hm => ⟨false, hf.sel rfl, hO, hm⟩
 exact en rfl fun a w hf hO hm => ⟨false, hf.sel rfl, hO, hm⟩
 rintro a w ⟨t14, hf, hO, hm⟩
 rw [zbf] at hm
 refine S.co tb ?_ hf hO hm
 refine br rfl (fun hc15 => ?_) fun hc15 => ?_
 refine rc_ rfl fun a w hf hO hm => ?_
 obtain ⟨i16, hi16, hm⟩ := ob hm
 obtain ⟨s17, hs17, hm⟩ := ob hm
 refine zfx (S := Unit) (E0 := [(0, str x_s), (2, ptr b1 0), (4, ptr b3 0)]) (by kernel_rfl) (fun k σ w => match k with | 0 => Dk.Own w0 [] w [.blk b3 [int 0, str x_s, int (-1)] 105, .blk b1 [int 0, str [], int 0] 105] | 1 => Dk.Own w0 [] w [.blk b3 [int 3, str x_s, int (-1)] 105, .blk b1 [int 0, str [], int 0] 105] | _ => Dk.Own w0 [] w [.blk b3 [int 3, str s17, int (-1)] 105, .blk b1 [int 0, str [], int 0] 105]) (fun σ => [⟨[(0, str x_s)], some (32, str x_s)⟩, ⟨[(0, str x_s)], some (33, str x_s)⟩, ⟨[(33, str x_s)], some (34, int (x_s.length : Int))⟩, ⟨[(34, int (x_s.length : Int))], some (35, int i16)⟩, ⟨[(32, str x_s), (35, int i16)], some (36, str s17)⟩, ⟨[(4, ptr b3 0)], some (37, ptr b3 0)⟩, ⟨[(37, ptr b3 0)], none⟩, ⟨[(4, ptr b3 0)], some (38, ptr b3 1)⟩, ⟨[(36, str s17), (38, ptr b3 1)], none⟩]) () [6, 8] rfl (fun _ => rfl) (fun _ => rfl) (fun _ => rfl) rfl rfl (by decide) rfl hO.drew (hf.cons rfl (hf.cons rfl (hf.cons rfl hf.nil))) (fun σ => ⟨⟨rfl, trivial⟩, ⟨rfl, trivial⟩, ⟨rfl, trivial⟩, ⟨rfl, trivial⟩, ⟨rfl, rfl, trivial⟩, ⟨rfl, trivial⟩, ⟨rfl, trivial⟩, ⟨rfl, trivial⟩, ⟨rfl, rfl, trivial⟩, trivial⟩) ⟨zj rfl (fun σ => rfl) (fun σ => rfl) (fun σ a w k _ _ _ _ hf => zv hf rfl), zj rfl (fun σ => rfl) (fun σ => rfl) (fun σ a w k _ _ _ _ hf => zv hf rfl), zj rfl (fun σ => rfl) (fun σ => rfl) (fun σ a w k _ _ _ _ hf => zlc (l := x_s) Tryz.underlying9 hf rfl), zj rfl (fun σ => rfl) (fun σ => rfl) (fun σ a w k _ _ _ _ hf => zqL hf rfl rfl hi16), zj rfl (fun σ => rfl) (fun σ => rfl) (fun σ a w k _ _ _ _ hf => zgq (l := x_s) Tryz.underlying9 hf rfl rfl rfl hs17), zj rfl (fun σ => rfl) (fun σ => rfl) (fun σ a w k _ _ _ _ hf => zaz zlt hf rfl), zhR rfl (fun σ => rfl) (fun σ => rfl) rfl (fun σ w (hO : Dk.Own w0 [] w _) => by obtain ⟨w', hO', hr⟩ := zjo (x := (.tmp 37)) (y := (.const (int 3))) (E := [(37, ptr b3 0)]) (i := 0) (o := 0) (v := int 3) zo1 rfl rfl rfl rfl hO rfl rfl; exact ⟨(), w', hO', ⟨.inr rfl, .inr rfl, .inr rfl, .inr rfl, .inr rfl, .inr rfl, .inr rfl, .inr rfl, .inr rfl, trivial⟩, hr⟩), zj rfl (fun σ => rfl) (fun σ => rfl) (fun σ a w k _ _ _ _ hf => zaz zn4 hf rfl), zhR rfl (fun σ => rfl) (fun σ => rfl) rfl (fun σ w (hO : Dk.Own w0 [] w _) => by obtain ⟨w', hO', hr⟩ := zjo (x := (.tmp 38)) (y := (.tmp 36)) (E := [(36, str s17), (38, ptr b3 1)]) (i := 0) (o := 1) (v := str s17) zd3 rfl rfl rfl rfl hO rfl rfl; exact ⟨(), w', hO', ⟨.inr rfl, .inr rfl, .inr rfl, .inr rfl, .inr rfl, .inr rfl, .inr rfl, .inr rfl, .inr rfl, trivial⟩, hr⟩), trivial⟩ ?_
 rintro _ a w hf hO
 have hO : Dk.Own w0 [] w _ := hO
 have hf : Fits 51 [(2, ptr b1 0), (4, ptr b3 0)] a := (hf.cons rfl (hf.cons rfl hf.nil))
 refine S.no tb ?_ hf hO hm
 exact en rfl fun a w hf hO hm => ⟨3, s17, hf.sel rfl, hO, hm⟩
 refine cl c_47 rfl (fun r18 w hr18 hO => zg5 x_s r18 _ (hG.own hF hO) hr18) fun r18 hr18 => ?_
 refine br rfl (fun hc20 => ?_) fun hc20 => ?_
 refine rw_ rfl fun a w hf hO hm => ?_
 refine zP (i := 0) (o := 0) (v := int 2) zo1 rfl rfl rfl rfl hf rfl rfl hO fun w hO => ?_
 refine S.op tb ?_ hf hO hm
 exact en rfl fun a w hf hO hm => ⟨2, x_s, hf.sel rfl, hO, hm⟩
 refine cl c_167 rfl (fun r21 w hr21 hO => zkh x_s r21 _ (hG.own hF hO).1 hr21) fun r21 hr21 => ?_
 refine br rfl (fun hc23 => ?_) fun hc23 => ?_
 refine rw_ rfl fun a w hf hO hm => ?_
 refine zP (i := 0) (o := 0) (v := int 1) zo1 rfl rfl rfl rfl hf rfl rfl hO fun w hO => ?_
 refine S.op tb ?_ hf hO hm
 exact en rfl fun a w hf hO hm => ⟨1, x_s, hf.sel rfl, hO, hm⟩
 exact en rfl fun a w hf hO hm => ⟨0, x_s, hf.sel rfl, hO, hm⟩
 rintro a w ⟨i24, s25, hf, hO, hm⟩
 rw [zbX] at hm
 refine S.co tb ?_ hf hO hm
 refine rc_ rfl fun a w hf hO hm => ?_
 refine zfx (S := Unit) (E0 := [(2, ptr b1 0), (4, ptr b3 0)]) (by kernel_rfl) (fun k σ w => match k with | 0 => Dk.Own w0 [] w [.blk b3 [int i24, str s25, int (-1)] 105, .blk b1 [int 0, str [], int 0] 105] | _ => Dk.Own w0 [] w [.blk b3 [int i24, str s25, int (-1)] 105, .blk b1 [int i24, str s25, int (-1)] 105]) (fun σ => [⟨[(4, ptr b3 0)], some (47, .agg #[int i24, str s25, int (-1)])⟩, ⟨[(4, ptr b3 0)], some (48, ptr b3 0)⟩, ⟨[(48, ptr b3 0)], some (49, int i24)⟩, ⟨[(49, int i24)], some (50, .bool (!(i24 == 0)))⟩, ⟨[(2, ptr b1 0), (47, .agg #[int i24, str s25, int (-1)])], none⟩, ⟨[(50, .bool (!(i24 == 0)))], some (3, .bool (!(i24 == 0)))⟩]) () [4] rfl (fun _ => rfl) (fun _ => rfl) (fun _ => rfl) rfl rfl (by decide) rfl hO.drew (hf.cons rfl (hf.cons rfl hf.nil)) (fun σ => ⟨⟨rfl, trivial⟩, ⟨rfl, trivial⟩, ⟨rfl, trivial⟩, ⟨rfl, trivial⟩, ⟨rfl, rfl, trivial⟩, ⟨rfl, trivial⟩, trivial⟩) ⟨zj rfl (fun σ => rfl) (fun σ => rfl) (fun σ a w k hk hlo hup hst hf => match k, hk, hlo, hup, hst, hf with | 0, _, _, _, hst, hf => have hO : Dk.Own w0 [] w _ := hst; zK (o := 0) (vs := [int i24, str s25, int (-1)]) zcI zX (hO.blkSees (i := 0) rfl) rfl rfl hf rfl | 1, _, _, _, hst, hf => have hO : Dk.Own w0 [] w _ := hst; zK (o := 0) (vs := [int i24, str s25, int (-1)]) zcI zX (hO.blkSees (i := 0) rfl) rfl rfl hf rfl | k + 2, hk, _, _, _, _ => absurd hk (by simp)), zj rfl (fun σ => rfl) (fun σ => rfl) (fun σ a w k _ _ _ _ hf => zaz zlt hf rfl), zj rfl (fun σ => rfl) (fun σ => rfl) (fun σ a w k hk hlo hup hst hf => match k, hk, hlo, hup, hst, hf with | 0, _, _, _, hst, hf => have hO : Dk.Own w0 [] w _ := hst; zb (o := 0) znk (hO.blkSees (i := 0) rfl) rfl hf rfl | 1, _, _, _, hst, hf => have hO : Dk.Own w0 [] w _ := hst; zb (o := 0) znk (hO.blkSees (i := 0) rfl) rfl hf rfl | k + 2, hk, _, _, _, _ => absurd hk (by simp)), zj rfl (fun σ => rfl) (fun σ => rfl) (fun σ a w k _ _ _ _ hf => zqN (m := i24) (n := 0) hf rfl rfl), zhR rfl (fun σ => rfl) (fun σ => rfl) rfl (fun σ w (hO : Dk.Own w0 [] w _) => by obtain ⟨w', hO', hr⟩ := zmp (x := (.tmp 2)) (y := (.tmp 47)) (E := [(2, ptr b1 0), (47, .agg #[int i24, str s25, int (-1)])]) (i := 1) (n := 3) (vs := [int i24, str s25, int (-1)]) zX rfl rfl rfl (by simp [Value.oneCell']) hO rfl rfl; exact ⟨(), w', hO', ⟨.inr rfl, .inr rfl, .inr rfl, .inr rfl, .inr rfl, .inr rfl, trivial⟩, hr⟩), zj rfl (fun σ => rfl) (fun σ => rfl) (fun σ a w k _ _ _ _ hf => zcY hf rfl), trivial⟩ ?_
 rintro _ a w hf hO
 have hO : Dk.Own w0 [] w _ := hO
 have hf : Fits 51 [(2, ptr b1 0), (3, .bool (!(i24 == 0)))] a := (hf.cons rfl (hf.cons rfl hf.nil))
 refine S.no tb ?_ hf hO hm
 refine re_ rfl fun a w hf hO hm => ?_
 obtain rfl := Option.some.inj hm
 exact zi Tryz.results139 hf (.cell rfl (zx (n := 3) (vs := [int i24, str s25, int (-1)]) zcI zX rfl ((hO.blkSees (i := 1) rfl).cells (o := 0) (n := 3) rfl)) (.tmp rfl .nil)) ⟨rfl, hO.below⟩

theorem ze4 (x_s : Str) (x_c : UInt8) (R : Int) (w0 : World) (hG : zt w0) (hm : zaD x_s x_c = some R) :
    Calls Tryz.prog 168 #[str x_s, zQ x_c] w0 (Ret w0 (fun R => int R) R) := by
 rw [zaD] at hm
 have hF : zG [] := ze
 have hO : Dk.Own w0 [] w0 [] := Dk.Own.refl w0
 refine S.enter tb Tryz.func168 rfl Tryz.ntmps168 rfl ?_ hO hm
 refine bi rfl fun i2 hi2 => ?_
 refine lp (fun k a w => ∃ (i4 : Int), Fits 19 [(0, str x_s), (1, zQ x_c), (5, int i4)] a ∧ Dk.Own w0 [] w [] ∧ zE x_s x_c k i4 = some R) rfl (fun a w hf hO hm => ⟨i2, hf.sel rfl, hO, hm⟩) ?_
 rintro n1 a w ⟨i4, hf, hO, hm⟩
 obtain _ | n1 := n1
 rw [zE] at hm
 cases hm
 rw [zE] at hm
 refine S.co tb ?_ hf hO hm
 refine br rfl (fun hc6 => ?_) fun hc6 => ?_
 refine bi rfl fun b8 hb8 => ?_
 refine vl rfl rfl (fun a w hf hO => zL (b := b8) (c := x_c) hf rfl rfl) ?_
 refine br rfl (fun hc10 => ?_) fun hc10 => ?_
 exact rt Tryz.results168 rfl
 refine bi rfl fun i13 hi13 => ?_
 exact en rfl fun a w hf hO hm => ⟨_, Nat.lt_succ_self _, i13, hf.sel rfl, hO, hm⟩
 exact rt Tryz.results168 rfl

theorem zgh (x_s : Str) (x_c : UInt8) (R : Int) (w0 : World) (hG : zt w0) (hm : za2 x_s x_c = some R) :
    Calls Tryz.prog 140 #[str x_s, zQ x_c] w0 (Ret w0 (fun R => int R) R) := by
 rw [za2] at hm
 have hF : zG [] := ze
 have hO : Dk.Own w0 [] w0 [] := Dk.Own.refl w0
 refine S.enter tb Tryz.func140 rfl Tryz.ntmps140 rfl ?_ hO hm
 refine cl c_168 rfl (fun r2 w hr2 hO => ze4 x_s x_c r2 _ (hG.own hF hO) hr2) fun r2 hr2 => ?_
 exact rt Tryz.results140 rfl

theorem zjp (x_s : Str) (R : api_Host × Int) (w0 : World) (hG : zbH w0) (hm : zdm x_s = some R) :
    Calls Tryz.prog 104 #[str x_s] w0 (Ret w0 (fun R => .tuple #[.agg #[int R.1.Kind, str R.1.Name, int R.1.Port], int R.2]) R) := by
 rw [zdm] at hm
 have hF : zG [] := ze
 have hO : Dk.Own w0 [] w0 [] := Dk.Own.refl w0
 refine S.enter tb Tryz.func104 rfl Tryz.ntmps104 rfl ?_ hO hm
 refine rw_ rfl fun a w hf hO hm => ?_
 refine zal zge hf rfl hO fun a b1 w hf hO => ?_
 refine S.op tb ?_ hf hO hm
 refine cl c_139 rfl (fun r3 w hr3 hO => zh5 x_s r3 _ (hG.own hF hO) hr3) fun r3 hr3 => ?_
 refine rw_ rfl fun a w hf hO hm => ?_
 refine zal zge hf rfl hO fun a b4 w hf hO => ?_
 refine S.op tb ?_ hf hO hm
 refine rw_ rfl fun a w hf hO hm => ?_
 refine zu (i := 0) (n := 3) zX rfl rfl rfl (by simp [Value.oneCell']) hf rfl rfl hO fun w hO => ?_
 refine S.op tb ?_ hf hO hm
 refine br rfl (fun hc7 => ?_) fun hc7 => ?_
 refine vl rfl rfl (fun a w hf hO => zK (o := 0) (vs := [int r3.1.Kind, str r3.1.Name, int r3.1.Port]) zcI zX (hO.blkSees (i := 0) rfl) rfl rfl hf rfl) ?_
 refine rw_ rfl fun a w hf hO hm => ?_
 refine zu (i := 1) (n := 3) zX rfl rfl rfl (by simp [Value.oneCell']) hf rfl rfl hO fun w hO => ?_
 refine S.op tb ?_ hf hO hm
 refine re_ rfl fun a w hf hO hm => ?_
 obtain rfl := Option.some.inj hm
 exact zi Tryz.results104 hf (.cell rfl (zx (n := 3) (vs := [int r3.1.Kind, str r3.1.Name, int r3.1.Port]) zcI zX rfl ((hO.blkSees (i := 1) rfl).cells (o := 0) (n := 3) rfl)) (.tmp rfl .nil)) ⟨rfl, hO.below⟩
 refine cl c_140 rfl (fun r10 w hr10 hO => zgh x_s 58 r10 _ (hG.own hF hO).1 hr10) fun r10 hr10 => ?_
 refine br rfl (fun hc13 => ?_) fun hc13 => ?_
 refine vl rfl rfl (fun a w hf hO => zS (vs := []) (v := .agg #[int 0, str [], int 0]) hf rfl (by kernel_rfl)) ?_
 refine rw_ rfl fun a w hf hO hm => ?_
 refine zu (i := 1) (n := 3) zX rfl rfl rfl (by simp [Value.oneCell']) hf rfl rfl hO fun w hO => ?_
 refine S.op tb ?_ hf hO hm
 refine re_ rfl fun a w hf hO hm => ?_
 obtain rfl := Option.some.inj hm
 exact zi Tryz.results104 hf (.cell rfl (zx (n := 3) (vs := [int 0, str [], int 0]) zcI zX rfl ((hO.blkSees (i := 1) rfl).cells (o := 0) (n := 3) rfl)) (.tmp rfl .nil)) ⟨rfl, hO.below⟩
 refine bi rfl fun s16 hs16 => ?_
 refine cl c_139 rfl (fun r17 w hr17 hO => zh5 s16 r17 _ (hG.own hF hO) hr17) fun r17 hr17 => ?_
 refine rw_ rfl fun a w hf hO hm => ?_
 refine zal zge hf rfl hO fun a b18 w hf hO => ?_
 refine S.op tb ?_ hf hO hm
 refine rw_ rfl fun a w hf hO hm => ?_
 refine zu (i := 0) (n := 3) zX rfl rfl rfl (by simp [Value.oneCell']) hf rfl rfl hO fun w hO => ?_
 refine S.op tb ?_ hf hO hm
 refine jn 1 (fun a w => ∃ (t24 : Bool), Fits 49 [(0, str x_s), (2, ptr b1 0), (6, int r10), (7, ptr b18 0), (37, .bool t24)] a ∧ Dk.Own w0 [] w [.blk b18 [int r17.1.Kind, str r17.1.Name, int r17.1.Port] 105, .blk b4 [int r3.1.Kind, str r3.1.Name, int r3.1.Port] 105, .blk b1 [int 0, str [], int 0] 105] ∧ zca x_s r10 r17 t24 = some R) rfl ?_ ?_
 refine br rfl (fun hc20 => ?_) fun hc20 => ?_
 exact en rfl fun a w hf hO hm => ⟨true, hf.sel rfl, hO, hm⟩
 refine bi rfl fun i21 hi21 => ?_
 refine bi rfl fun s22 hs22 => ?_
 refine cl c_80 rfl (fun r23 w hr23 hO => zgu s22 65535 r23 _ (hG.own hF hO) hr23) fun r23 hr23 => ?_
 exact en rfl fun a w hf hO hm => ⟨!r23, hf.sel rfl, hO, hm⟩
 rintro a w ⟨t24, hf, hO, hm⟩
 rw [zca] at hm
 refine S.co tb ?_ hf hO hm
 refine br rfl (fun hc25 => ?_) fun hc25 => ?_
 refine vl rfl rfl (fun a w hf hO => zS (vs := []) (v := .agg #[int 0, str [], int 0]) hf rfl (by kernel_rfl)) ?_
 refine rw_ rfl fun a w hf hO hm => ?_
 refine zu (i := 2) (n := 3) zX rfl rfl rfl (by simp [Value.oneCell']) hf rfl rfl hO fun w hO => ?_
 refine S.op tb ?_ hf hO hm
 refine re_ rfl fun a w hf hO hm => ?_
 obtain rfl := Option.some.inj hm
 exact zi Tryz.results104 hf (.cell rfl (zx (n := 3) (vs := [int 0, str [], int 0]) zcI zX rfl ((hO.blkSees (i := 2) rfl).cells (o := 0) (n := 3) rfl)) (.tmp rfl .nil)) ⟨rfl, hO.below⟩
 refine bi rfl fun i28 hi28 => ?_
 refine bi rfl fun s29 hs29 => ?_
 refine cl c_116 rfl (fun r30 w hr30 hO => zf4 s29 65535 r30 _ (hG.own hF hO).1 hr30) fun r30 hr30 => ?_
 refine rw_ rfl fun a w hf hO hm => ?_
 refine zP (i := 0) (o := 2) (v := int r30.1) sz_3 rfl rfl rfl rfl hf rfl rfl hO fun w hO => ?_
 refine S.op tb ?_ hf hO hm
 refine vl rfl rfl (fun a w hf hO => zK (o := 0) (vs := [int r17.1.Kind, str r17.1.Name, int r30.1]) zcI zX (hO.blkSees (i := 0) rfl) rfl rfl hf rfl) ?_
 refine rw_ rfl fun a w hf hO hm => ?_
 refine zu (i := 2) (n := 3) zX rfl rfl rfl (by simp [Value.oneCell']) hf rfl rfl hO fun w hO => ?_
 refine S.op tb ?_ hf hO hm
 refine re_ rfl fun a w hf hO hm => ?_
 obtain rfl := Option.some.inj hm
 exact zi Tryz.results104 hf (.cell rfl (zx (n := 3) (vs := [int r17.1.Kind, str r17.1.Name, int r30.1]) zcI zX rfl ((hO.blkSees (i := 2) rfl).cells (o := 0) (n := 3) rfl)) (.tmp rfl .nil)) ⟨rfl, hO.below⟩

theorem zlX (x_s : Str) (R : Bool) (w0 : World) (hG : zt w0) (hm : zfi x_s = some R) :
    Calls Tryz.prog 88 #[str x_s] w0 (Ret w0 (fun R => .bool R) R) := by
 rw [zfi] at hm
 have hF : zG [] := ze
 have hO : Dk.Own w0 [] w0 [] := Dk.Own.refl w0
 refine S.enter tb Tryz.func88 rfl Tryz.ntmps88 rfl ?_ hO hm
 refine jn 0 (fun a w => ∃ (t5 : Bool), Fits 10 [(2, .bool t5)] a ∧ Dk.Own w0 [] w [] ∧ zdn t5 = some R) rfl ?_ ?_
 refine br rfl (fun hc2 => ?_) fun hc2 => ?_
 refine rw_ rfl fun a w hf hO hm => ?_
 refine zs (vs := [(0, str x_s)]) (cs := [str x_s]) (e := 9) (sz := 1) hf rfl rfl (fun w => by kernel_rfl) rfl rfl hO fun a b3 w hf hO => ?_
 refine S.op tb ?_ hf hO hm
 refine kn (b' := true) hc2 rfl ?_
 refine cl zn7 rfl (fun r4 w hr4 hO => ze9 zbJ ([x_s] : List Str) r4 _ (hG.own hF hO) c_124 (fun y0 r w hG h => ziA (zg9 y0 r w hG h)) (hO.rowSees (i := 0) rfl) (hO.rowCap (i := 0) rfl) hr4) fun r4 hr4 => ?_
 exact en rfl fun a w hf hO hm => ⟨r4, hf.sel rfl, (hO.sub (.cons _ .slnil)), hm⟩
 exact en rfl fun a w hf hO hm => ⟨false, hf.sel rfl, hO, hm⟩
 rintro a w ⟨t5, hf, hO, hm⟩
 rw [zdn] at hm
 refine S.co tb ?_ hf hO hm
 exact rt Tryz.results88 rfl

theorem zhb (x_s : Str) (x_chars : Str) (R : Bool) (w0 : World) (hG : zt w0) (hm : strings_ContainsAny x_s x_chars = some R) :
    Calls Tryz.prog 105 #[str x_s, str x_chars] w0 (Ret w0 (fun R => .bool R) R) := by
 rw [strings_ContainsAny] at hm
 have hF : zG [] := ze
 have hO : Dk.Own w0 [] w0 [] := Dk.Own.refl w0
 refine S.enter tb Tryz.func105 rfl Tryz.ntmps105 rfl ?_ hO hm
 refine cl c_141 rfl (fun r2 w hr2 hO => ziL x_s x_chars r2 _ (hG.own hF hO) hr2) fun r2 hr2 => ?_
 exact rt Tryz.results105 rfl

theorem zki (x_r : via_reader) (x_v : api_Via) (R : Bool × scan_Scanner × api_Via) (w0 : World) (hG : zbH w0) {x_r_b0 : Nat} {x_v_b1 : Nat} {F : List Nat} (hF : zG F) (hO : Dk.Own w0 F w0 [.blk x_r_b0 [str x_r.Scanner.f_s, int x_r.Scanner.f_at] 137, .blk x_v_b1 [str x_v.Proto, str x_v.Version, str x_v.By, str x_v.Comment] 23]) (hm : ze3 x_r x_v = some R) :
    Calls Tryz.prog 71 #[.agg #[ptr x_r_b0 0], ptr x_v_b1 0] w0 fun e w' => e = .returned (.bool R.1) ∧ Dk.Own w0 F w' [.blk x_r_b0 [str R.2.1.f_s, int R.2.1.f_at] 137, .blk x_v_b1 [str R.2.2.Proto, str R.2.2.Version, str R.2.2.By, str R.2.2.Comment] 23] := by
 rw [ze3] at hm
 refine S.enter tb Tryz.func71 rfl Tryz.ntmps71 rfl ?_ hO hm
 refine rw_ rfl fun a w hf hO hm => ?_
 refine zen (v := .agg #[ptr x_r_b0 0]) (cs := [ptr x_r_b0 0]) rfl hf rfl rfl hO fun a b1 w hf hO => ?_
 refine S.op tb ?_ hf hO hm
 refine vl rfl rfl (fun a w hf hO => zb (o := 0) zbq (hO.blkSees (i := 0) rfl) rfl hf rfl) ?_
 refine rw_ rfl fun a w hf hO hm => ?_
 obtain ⟨r3, hr3, hm⟩ := ob hm
 have hch4 := (show Dk.Own w0 F _ ([.blk x_r_b0 [str x_r.Scanner.f_s, int x_r.Scanner.f_at] 137] ++ [.blk b1 [ptr x_r_b0 0] 116, .blk x_v_b1 [str x_v.Proto, str x_v.Version, str x_v.By, str x_v.Comment] 23]) from hO.choose [1, 0, 2] rfl)
 have hfar4 := Dk.Own.far hch4 rfl hF hG.size
 have hlend4 := hch4.lend (S := []) rfl trivial
 have hcl4 := zfd x_r.Scanner zcR r3 _ (hG.own hF hO).1 hfar4 hlend4 c_103 (fun y0 r w hG h => ziA (zi9 y0 r w hG h)) hr3
 refine zo (zr c_102 hf (vs := [ptr x_r_b0 0, .func (.func 103) #[] #[]]) rfl) rfl hf rfl rfl (hcl4) ?_
 rintro e w' ⟨he, hO'⟩
 refine ⟨_, he, fun a hf => ?_⟩
 have hO := hch4.back rfl hO' rfl
 refine S.op tb ?_ hf hO hm
 refine rw_ rfl fun a w hf hO hm => ?_
 refine zP (i := 2) (o := 2) (v := str r3.1) zd3 rfl rfl rfl rfl hf rfl rfl hO fun w hO => ?_
 refine S.op tb ?_ hf hO hm
 refine vl rfl rfl (fun a w hf hO => zb (o := 2) zab (hO.blkSees (i := 2) rfl) rfl hf rfl) ?_
 refine cl c_104 rfl (fun r6 w hr6 hO => zjp r3.1 r6 _ (hG.own hF hO) hr6) fun r6 hr6 => ?_
 refine rw_ rfl fun a w hf hO hm => ?_
 refine zal zge hf rfl hO fun a b7 w hf hO => ?_
 refine S.op tb ?_ hf hO hm
 refine rw_ rfl fun a w hf hO hm => ?_
 refine zu (i := 0) (n := 3) zX rfl rfl rfl (by simp [Value.oneCell']) hf rfl rfl hO fun w hO => ?_
 refine S.op tb ?_ hf hO hm
 refine jn 0 (fun a w => ∃ (t13 : Bool), Fits 38 [(4, .bool t13)] a ∧ Dk.Own w0 F w [.blk b7 [int r6.1.Kind, str r6.1.Name, int r6.1.Port] 105, .blk x_r_b0 [str r3.2.f_s, int r3.2.f_at] 137, .blk b1 [ptr x_r_b0 0] 116, .blk x_v_b1 [str x_v.Proto, str x_v.Version, str r3.1, str x_v.Comment] 23] ∧ zbQ x_v r3 t13 = some R) rfl ?_ ?_
 refine vl rfl rfl (fun a w hf hO => zb (o := 2) zab (hO.blkSees (i := 3) rfl) rfl hf rfl) ?_
 refine cl c_88 rfl (fun r9 w hr9 hO => zlX r3.1 r9 _ (hG.own hF hO).1 hr9) fun r9 hr9 => ?_
 refine br rfl (fun hc10 => ?_) fun hc10 => ?_
 exact en rfl fun a w hf hO hm => ⟨true, hf.sel rfl, hO, hm⟩
 refine br rfl (fun hc11 => ?_) fun hc11 => ?_
 refine vl rfl rfl (fun a w hf hO => zb (o := 2) zab (hO.blkSees (i := 3) rfl) rfl hf rfl) ?_
 refine cl c_105 rfl (fun r12 w hr12 hO => zhb r3.1 [44, 40, 41] r12 _ (hG.own hF hO).1 hr12) fun r12 hr12 => ?_
 exact en rfl fun a w hf hO hm => ⟨!r12, hf.sel rfl, hO, hm⟩
 exact en rfl fun a w hf hO hm => ⟨false, hf.sel rfl, hO, hm⟩
 rintro a w ⟨t13, hf, hO, hm⟩
 rw [zbQ] at hm
 refine S.co tb ?_ hf hO hm
 refine re_ rfl fun a w hf hO hm => ?_
 obtain rfl := Option.some.inj hm
 exact zi Tryz.results71 hf (.tmp rfl .nil) ⟨rfl, (hO.sub (.cons _ (.cons_cons _ (.cons _ (.cons_cons _ .slnil)))))⟩

theorem zgi (x_s : Str) (x_prefix : Str) (R : Bool) (w0 : World) (hG : zt w0) (hm : stringslite_HasPrefix x_s x_prefix = some R) :
    Calls Tryz.prog 171 #[str x_s, str x_prefix] w0 (Ret w0 (fun R => .bool R) R) := by
 rw [stringslite_HasPrefix] at hm
 have hF : zG [] := ze
 have hO : Dk.Own w0 [] w0 [] := Dk.Own.refl w0
 refine S.enter tb Tryz.func171 rfl Tryz.ntmps171 rfl ?_ hO hm
 refine jn 0 (fun a w => ∃ (t4 : Bool), Fits 18 [(4, .bool t4)] a ∧ Dk.Own w0 [] w [] ∧ z6 t4 = some R) rfl ?_ ?_
 refine br rfl (fun hc2 => ?_) fun hc2 => ?_
 refine bi rfl fun s3 hs3 => ?_
 exact en rfl fun a w hf hO hm => ⟨s3 == x_prefix, hf.sel rfl, hO, hm⟩
 exact en rfl fun a w hf hO hm => ⟨false, hf.sel rfl, hO, hm⟩
 rintro a w ⟨t4, hf, hO, hm⟩
 rw [z6] at hm
 refine S.co tb ?_ hf hO hm
 exact rt Tryz.results171 rfl

end Go.Proofs
end
section
set_option linter.unusedVariables false
set_option maxHeartbeats 1000000
set_option linter.unusedSimpArgs false
set_option maxRecDepth 100000
namespace Go.Proofs
open Go.Dk Go.Dm Go.RowKit

theorem zgr (x_s : Str) (x_prefix : Str) (R : Str × Bool) (w0 : World) (hG : zt w0) (hm : stringslite_CutPrefix x_s x_prefix = some R) :
    Calls Tryz.prog 142 #[str x_s, str x_prefix] w0 (Ret w0 (fun R => .tuple #[str R.1, .bool R.2]) R) := by
 rw [stringslite_CutPrefix] at hm
 have hF : zG [] := ze
 have hO : Dk.Own w0 [] w0 [] := Dk.Own.refl w0
 refine S.enter tb Tryz.func142 rfl Tryz.ntmps142 rfl ?_ hO hm
 refine cl c_171 rfl (fun r2 w hr2 hO => zgi x_s x_prefix r2 _ (hG.own hF hO) hr2) fun r2 hr2 => ?_
 refine br rfl (fun hc4 => ?_) fun hc4 => ?_
 exact rt Tryz.results142 rfl
 refine bi rfl fun s7 hs7 => ?_
 exact rt Tryz.results142 rfl

theorem zhW (x_s : Str) (x_prefix : Str) (R : Str × Bool) (w0 : World) (hG : zt w0) (hm : strings_CutPrefix x_s x_prefix = some R) :
    Calls Tryz.prog 106 #[str x_s, str x_prefix] w0 (Ret w0 (fun R => .tuple #[str R.1, .bool R.2]) R) := by
 rw [strings_CutPrefix] at hm
 have hF : zG [] := ze
 have hO : Dk.Own w0 [] w0 [] := Dk.Own.refl w0
 refine S.enter tb Tryz.func106 rfl Tryz.ntmps106 rfl ?_ hO hm
 refine cl c_142 rfl (fun r2 w hr2 hO => zgr x_s x_prefix r2 _ (hG.own hF hO) hr2) fun r2 hr2 => ?_
 exact rt Tryz.results106 rfl

theorem zgs (x_s : Str) (x_suffix : Str) (R : Bool) (w0 : World) (hG : zt w0) (hm : stringslite_HasSuffix x_s x_suffix = some R) :
    Calls Tryz.prog 172 #[str x_s, str x_suffix] w0 (Ret w0 (fun R => .bool R) R) := by
 rw [stringslite_HasSuffix] at hm
 have hF : zG [] := ze
 have hO : Dk.Own w0 [] w0 [] := Dk.Own.refl w0
 refine S.enter tb Tryz.func172 rfl Tryz.ntmps172 rfl ?_ hO hm
 refine jn 0 (fun a w => ∃ (t5 : Bool), Fits 21 [(4, .bool t5)] a ∧ Dk.Own w0 [] w [] ∧ z7 t5 = some R) rfl ?_ ?_
 refine br rfl (fun hc2 => ?_) fun hc2 => ?_
 refine bi rfl fun i3 hi3 => ?_
 refine bi rfl fun s4 hs4 => ?_
 exact en rfl fun a w hf hO hm => ⟨s4 == x_suffix, hf.sel rfl, hO, hm⟩
 exact en rfl fun a w hf hO hm => ⟨false, hf.sel rfl, hO, hm⟩
 rintro a w ⟨t5, hf, hO, hm⟩
 rw [z7] at hm
 refine S.co tb ?_ hf hO hm
 exact rt Tryz.results172 rfl

theorem zgt (x_s : Str) (x_suffix : Str) (R : Str × Bool) (w0 : World) (hG : zt w0) (hm : stringslite_CutSuffix x_s x_suffix = some R) :
    Calls Tryz.prog 143 #[str x_s, str x_suffix] w0 (Ret w0 (fun R => .tuple #[str R.1, .bool R.2]) R) := by
 rw [stringslite_CutSuffix] at hm
 have hF : zG [] := ze
 have hO : Dk.Own w0 [] w0 [] := Dk.Own.refl w0
 refine S.enter tb Tryz.func143 rfl Tryz.ntmps143 rfl ?_ hO hm
 refine cl c_172 rfl (fun r2 w hr2 hO => zgs x_s x_suffix r2 _ (hG.own hF hO) hr2) fun r2 hr2 => ?_
 refine br rfl (fun hc4 => ?_) fun hc4 => ?_
 exact rt Tryz.results143 rfl
 refine bi rfl fun i7 hi7 => ?_
 refine bi rfl fun s8 hs8 => ?_
 exact rt Tryz.results143 rfl

theorem zhX (x_s : Str) (x_suffix : Str) (R : Str × Bool) (w0 : World) (hG : zt w0) (hm : strings_CutSuffix x_s x_suffix = some R) :
    Calls Tryz.prog 107 #[str x_s, str x_suffix] w0 (Ret w0 (fun R => .tuple #[str R.1, .bool R.2]) R) := by
 rw [strings_CutSuffix] at hm
 have hF : zG [] := ze
 have hO : Dk.Own w0 [] w0 [] := Dk.Own.refl w0
 refine S.enter tb Tryz.func107 rfl Tryz.ntmps107 rfl ?_ hO hm
 refine cl c_143 rfl (fun r2 w hr2 hO => zgt x_s x_suffix r2 _ (hG.own hF hO) hr2) fun r2 hr2 => ?_
 exact rt Tryz.results107 rfl

theorem zld (x_s : Str) (R : Bool) (w0 : World) (hG : zt w0) (hm : zey x_s = some R) :
    Calls Tryz.prog 108 #[str x_s] w0 (Ret w0 (fun R => .bool R) R) := by
 rw [zey] at hm
 have hF : zG [] := ze
 have hO : Dk.Own w0 [] w0 [] := Dk.Own.refl w0
 refine S.enter tb Tryz.func108 rfl Tryz.ntmps108 rfl ?_ hO hm
 refine lp (fun k a w => ∃ (i4 : Int) (i5 : Int), Fits 41 [(0, str x_s), (3, int i4), (4, int i5)] a ∧ Dk.Own w0 [] w [] ∧ zJ x_s k i4 i5 = some R) rfl (fun a w hf hO hm => ⟨0, 0, hf.sel rfl, hO, hm⟩) ?_
 rintro n1 a w ⟨i4, i5, hf, hO, hm⟩
 obtain _ | n1 := n1
 rw [zJ] at hm
 cases hm
 rw [zJ] at hm
 refine S.co tb ?_ hf hO hm
 refine br rfl (fun hc7 => ?_) fun hc7 => ?_
 refine jn 5 (fun a w => ∃ (i20 : Int) (i21 : Int), Fits 41 [(0, str x_s), (3, int i20), (4, int i21)] a ∧ Dk.Own w0 [] w [] ∧ zag (zJ x_s n1) x_s i20 i21 = some R) rfl ?_ ?_
 refine bi rfl fun b9 hb9 => ?_
 refine vl rfl rfl (fun a w hf hO => zL (b := b9) (c := 40) hf rfl rfl) ?_
 refine br rfl (fun hc12 => ?_) fun hc12 => ?_
 refine bi rfl fun i13 hi13 => ?_
 exact en rfl fun a w hf hO hm => ⟨i13, i5, hf.sel rfl, hO, hm⟩
 refine vl rfl rfl (fun a w hf hO => zL (b := b9) (c := 41) hf rfl rfl) ?_
 refine br rfl (fun hc15 => ?_) fun hc15 => ?_
 refine bi rfl fun i16 hi16 => ?_
 exact en rfl fun a w hf hO hm => ⟨i16, i5, hf.sel rfl, hO, hm⟩
 refine vl rfl rfl (fun a w hf hO => zL (b := b9) (c := 92) hf rfl rfl) ?_
 refine br rfl (fun hc18 => ?_) fun hc18 => ?_
 refine bi rfl fun i19 hi19 => ?_
 exact en rfl fun a w hf hO hm => ⟨i4, i19, hf.sel rfl, hO, hm⟩
 exact en rfl fun a w hf hO hm => ⟨i4, i5, hf.sel rfl, hO, hm⟩
 rintro a w ⟨i20, i21, hf, hO, hm⟩
 rw [zag] at hm
 refine S.co tb ?_ hf hO hm
 refine jn 5 (fun a w => ∃ (t23 : Bool), Fits 41 [(0, str x_s), (3, int i20), (4, int i21), (33, .bool t23)] a ∧ Dk.Own w0 [] w [] ∧ zbu (zJ x_s n1) i20 i21 t23 = some R) rfl ?_ ?_
 refine br rfl (fun hc22 => ?_) fun hc22 => ?_
 exact en rfl fun a w hf hO hm => ⟨true, hf.sel rfl, hO, hm⟩
 exact en rfl fun a w hf hO hm => ⟨decide ((x_s.length : Int) ≤ i21), hf.sel rfl, hO, hm⟩
 rintro a w ⟨t23, hf, hO, hm⟩
 rw [zbu] at hm
 refine S.co tb ?_ hf hO hm
 refine br rfl (fun hc24 => ?_) fun hc24 => ?_
 exact rt Tryz.results108 rfl
 refine bi rfl fun i27 hi27 => ?_
 exact en rfl fun a w hf hO hm => ⟨_, Nat.lt_succ_self _, i20, i27, hf.sel rfl, hO, hm⟩
 refine jn 0 (fun a w => ∃ (t32 : Bool), Fits 41 [(2, .bool t32)] a ∧ Dk.Own w0 [] w [] ∧ zcS t32 = some R) rfl ?_ ?_
 refine br rfl (fun hc29 => ?_) fun hc29 => ?_
 refine rw_ rfl fun a w hf hO hm => ?_
 refine zs (vs := [(0, str x_s)]) (cs := [str x_s]) (e := 9) (sz := 1) hf rfl rfl (fun w => by kernel_rfl) rfl rfl hO fun a b30 w hf hO => ?_
 refine S.op tb ?_ hf hO hm
 refine kn (b' := true) hc29 rfl ?_
 refine cl zn7 rfl (fun r31 w hr31 hO => ze9 zch ([x_s] : List Str) r31 _ (hG.own hF hO) c_144 (fun y0 r w hG h => ziA (zha y0 r w hG h)) (hO.rowSees (i := 0) rfl) (hO.rowCap (i := 0) rfl) hr31) fun r31 hr31 => ?_
 exact en rfl fun a w hf hO hm => ⟨r31, hf.sel rfl, (hO.sub (.cons _ .slnil)), hm⟩
 exact en rfl fun a w hf hO hm => ⟨false, hf.sel rfl, hO, hm⟩
 rintro a w ⟨t32, hf, hO, hm⟩
 rw [zcS] at hm
 refine S.co tb ?_ hf hO hm
 exact rt Tryz.results108 rfl

theorem zhv (x_r : via_reader) (x_v : api_Via) (R : Bool × scan_Scanner × api_Via) (w0 : World) (hG : zt w0) {x_r_b0 : Nat} {x_v_b1 : Nat} {F : List Nat} (hF : zG F) (hO : Dk.Own w0 F w0 [.blk x_r_b0 [str x_r.Scanner.f_s, int x_r.Scanner.f_at] 137, .blk x_v_b1 [str x_v.Proto, str x_v.Version, str x_v.By, str x_v.Comment] 23]) (hm : za7 x_r x_v = some R) :
    Calls Tryz.prog 72 #[.agg #[ptr x_r_b0 0], ptr x_v_b1 0] w0 fun e w' => e = .returned (.bool R.1) ∧ Dk.Own w0 F w' [.blk x_r_b0 [str R.2.1.f_s, int R.2.1.f_at] 137, .blk x_v_b1 [str R.2.2.Proto, str R.2.2.Version, str R.2.2.By, str R.2.2.Comment] 23] := by
 rw [za7] at hm
 refine S.enter tb Tryz.func72 rfl Tryz.ntmps72 rfl ?_ hO hm
 refine rw_ rfl fun a w hf hO hm => ?_
 refine zen (v := .agg #[ptr x_r_b0 0]) (cs := [ptr x_r_b0 0]) rfl hf rfl rfl hO fun a b1 w hf hO => ?_
 refine S.op tb ?_ hf hO hm
 refine vl rfl rfl (fun a w hf hO => zb (o := 0) zbq (hO.blkSees (i := 0) rfl) rfl hf rfl) ?_
 refine cl c_66 rfl (fun r3 w hr3 hO => zd5 x_r.Scanner r3 _ (hG.own hF hO) (hO.blkSees (i := 1) rfl) hr3) fun r3 hr3 => ?_
 refine br rfl (fun hc5 => ?_) fun hc5 => ?_
 refine re_ rfl fun a w hf hO hm => ?_
 obtain rfl := Option.some.inj hm
 exact zi Tryz.results72 hf (.tmp rfl .nil) ⟨rfl, (hO.sub (.cons _ (.cons_cons _ (.cons_cons _ .slnil))))⟩
 refine vl rfl rfl (fun a w hf hO => zb (o := 0) zbq (hO.blkSees (i := 0) rfl) rfl hf rfl) ?_
 refine cl c_96 rfl (fun r8 w hr8 hO => zfs x_r.Scanner r8 _ (hG.own hF hO) (hO.blkSees (i := 1) rfl) hr8) fun r8 hr8 => ?_
 refine cl c_106 rfl (fun r9 w hr9 hO => zhW r8 [32, 40] r9 _ (hG.own hF hO) hr9) fun r9 hr9 => ?_
 refine cl c_107 rfl (fun r11 w hr11 hO => zhX r9.1 [41] r11 _ (hG.own hF hO) hr11) fun r11 hr11 => ?_
 refine rw_ rfl fun a w hf hO hm => ?_
 refine zP (i := 2) (o := 3) (v := str r11.1) zd3 rfl rfl rfl rfl hf rfl rfl hO fun w hO => ?_
 refine S.op tb ?_ hf hO hm
 refine jn 0 (fun a w => ∃ (t18 : Bool), Fits 40 [(4, .bool t18)] a ∧ Dk.Own w0 F w [.blk b1 [ptr x_r_b0 0] 116, .blk x_r_b0 [str x_r.Scanner.f_s, int x_r.Scanner.f_at] 137, .blk x_v_b1 [str x_v.Proto, str x_v.Version, str x_v.By, str r11.1] 23] ∧ z8 x_r x_v r11 t18 = some R) rfl ?_ ?_
 refine br rfl (fun hc14 => ?_) fun hc14 => ?_
 refine br rfl (fun hc15 => ?_) fun hc15 => ?_
 refine br rfl (fun hc16 => ?_) fun hc16 => ?_
 refine cl c_108 rfl (fun r17 w hr17 hO => zld r11.1 r17 _ (hG.own hF hO) hr17) fun r17 hr17 => ?_
 exact en rfl fun a w hf hO hm => ⟨r17, hf.sel rfl, hO, hm⟩
 exact en rfl fun a w hf hO hm => ⟨false, hf.sel rfl, hO, hm⟩
 exact en rfl fun a w hf hO hm => ⟨false, hf.sel rfl, hO, hm⟩
 exact en rfl fun a w hf hO hm => ⟨false, hf.sel rfl, hO, hm⟩
 rintro a w ⟨t18, hf, hO, hm⟩
 rw [z8] at hm
 refine S.co tb ?_ hf hO hm
 refine re_ rfl fun a w hf hO hm => ?_
 obtain rfl := Option.some.inj hm
 exact zi Tryz.results72 hf (.tmp rfl .nil) ⟨rfl, (hO.sub (.cons _ (.cons_cons _ (.cons_cons _ .slnil))))⟩

theorem zj3 (x_s : Str) (R : api_Via × Int) (w0 : World) (hG : zbH w0) (hm : zeW x_s = some R) :
    Calls Tryz.prog 39 #[str x_s] w0 (Ret w0 (fun R => .tuple #[.agg #[str R.1.Proto, str R.1.Version, str R.1.By, str R.1.Comment], int R.2]) R) := by
 rw [zeW] at hm
 have hF : zG [] := ze
 have hO : Dk.Own w0 [] w0 [] := Dk.Own.refl w0
 refine S.enter tb Tryz.func39 rfl Tryz.ntmps39 rfl ?_ hO hm
 refine rw_ rfl fun a w hf hO hm => ?_
 refine zal zj6 hf rfl hO fun a b1 w hf hO => ?_
 refine S.op tb ?_ hf hO hm
 refine rw_ rfl fun a w hf hO hm => ?_
 obtain ⟨r3, hr3, hm⟩ := ob hm
 refine zo (zr c_65 hf (vs := [str x_s]) rfl) rfl hf rfl rfl (zlU x_s r3 _ (hG.own hF hO).1 hr3) ?_
 rintro e w' ⟨b4, he, hO'⟩
 refine ⟨_, he, fun a hf => ?_⟩
 have hO := hO.call hO' (by simp [Res.shared])
 refine S.op tb ?_ hf hO hm
 refine vl rfl rfl (fun a w hf hO => zS (vs := [(0, ptr b4 0)]) (v := .agg #[ptr b4 0]) hf rfl (by kernel_rfl)) ?_
 refine rw_ rfl fun a w hf hO hm => ?_
 refine zal al_116 hf rfl hO fun a b5 w hf hO => ?_
 refine S.op tb ?_ hf hO hm
 refine rw_ rfl fun a w hf hO hm => ?_
 refine zu (i := 0) (n := 1) znm rfl rfl rfl (by simp [Value.oneCell']) hf rfl rfl hO fun w hO => ?_
 refine S.op tb ?_ hf hO hm
 refine rw_ rfl fun a w hf hO hm => ?_
 refine zal zj6 hf rfl hO fun a b7 w hf hO => ?_
 refine S.op tb ?_ hf hO hm
 refine jn 1 (fun a w => ∃ (t20 : Bool) (s21 : Str) (i22 : Int) (s23 : Str) (s24 : Str) (s25 : Str) (s26 : Str), Fits 30 [(2, ptr b1 0), (5, ptr b7 0), (27, .bool t20)] a ∧ Dk.Own w0 [] w [.blk b4 [str s21, int i22] 137, .blk b7 [str s23, str s24, str s25, str s26] 23, .blk b5 [ptr b4 0] 116, .blk b1 [str [], str [], str [], str []] 23] ∧ zcM t20 s21 i22 s23 s24 s25 s26 = some R) rfl ?_ ?_
 refine vl rfl rfl (fun a w hf hO => zK (o := 0) (vs := [ptr b4 0]) zoZ znm (hO.blkSees (i := 1) rfl) rfl rfl hf rfl) ?_
 refine rw_ rfl fun a w hf hO hm => ?_
 obtain ⟨r9, hr9, hm⟩ := ob hm
 have hch10 := (show Dk.Own w0 [] _ ([.blk b4 [str r3.f_s, int r3.f_at] 137, .blk b7 [str [], str [], str [], str []] 23] ++ [.blk b5 [ptr b4 0] 116, .blk b1 [str [], str [], str [], str []] 23]) from hO.choose [2, 0, 1, 3] rfl)
 have hfar10 := Dk.Own.far hch10 rfl hF hG.size
 have hlend10 := hch10.lend (S := []) rfl trivial
 have hcl10 := zhe (⟨r3⟩ : via_reader) (⟨[], [], [], []⟩ : api_Via) r9 _ (hG.own hF hO).1 hfar10 hlend10 hr9
 refine zo (zr c_69 hf (vs := [.agg #[ptr b4 0], ptr b7 0]) rfl) rfl hf rfl rfl (hcl10) ?_
 rintro e w' ⟨he, hO'⟩
 refine ⟨_, he, fun a hf => ?_⟩
 have hO := hch10.back rfl hO' rfl
 refine S.op tb ?_ hf hO hm
 refine br rfl (fun hc11 => ?_) fun hc11 => ?_
 exact en rfl fun a w hf hO hm => ⟨true, r9.2.1.f_s, r9.2.1.f_at, r9.2.2.Proto, r9.2.2.Version, r9.2.2.By, r9.2.2.Comment, hf.sel rfl, hO, hm⟩
 refine vl rfl rfl (fun a w hf hO => zb (o := 0) zbq (hO.blkSees (i := 2) rfl) rfl hf rfl) ?_
 refine rw_ rfl fun a w hf hO hm => ?_
 obtain ⟨r12, hr12, hm⟩ := ob hm
 have hch13 := (show Dk.Own w0 [] _ ([.blk b4 [str r9.2.1.f_s, int r9.2.1.f_at] 137] ++ [.blk b7 [str r9.2.2.Proto, str r9.2.2.Version, str r9.2.2.By, str r9.2.2.Comment] 23, .blk b5 [ptr b4 0] 116, .blk b1 [str [], str [], str [], str []] 23]) from hO)
 have hfar13 := Dk.Own.far hch13 rfl hF hG.size
 have hlend13 := hch13.lend (S := []) rfl trivial
 have hcl13 := zI r9.2.1 32 r12 _ (hG.own hF hO).1 hfar13 hlend13 hr12
 refine zo (zr zlu hf (vs := [ptr b4 0, zQ 32]) rfl) rfl hf rfl rfl (hcl13) ?_
 rintro e w' ⟨he, hO'⟩
 refine ⟨_, he, fun a hf => ?_⟩
 have hO := hch13.back rfl hO' rfl
 refine S.op tb ?_ hf hO hm
 refine kn (b' := false) hc11 rfl ?_
 refine br rfl (fun hc14 => ?_) fun hc14 => ?_
 exact en rfl fun a w hf hO hm => ⟨true, r12.2.f_s, r12.2.f_at, r9.2.2.Proto, r9.2.2.Version, r9.2.2.By, r9.2.2.Comment, hf.sel rfl, hO, hm⟩
 refine vl rfl rfl (fun a w hf hO => zK (o := 0) (vs := [ptr b4 0]) zoZ znm (hO.blkSees (i := 2) rfl) rfl rfl hf rfl) ?_
 refine rw_ rfl fun a w hf hO hm => ?_
 obtain ⟨r15, hr15, hm⟩ := ob hm
 have hch16 := (show Dk.Own w0 [] _ ([.blk b4 [str r12.2.f_s, int r12.2.f_at] 137, .blk b7 [str r9.2.2.Proto, str r9.2.2.Version, str r9.2.2.By, str r9.2.2.Comment] 23] ++ [.blk b5 [ptr b4 0] 116, .blk b1 [str [], str [], str [], str []] 23]) from hO)
 have hfar16 := Dk.Own.far hch16 rfl hF hG.size
 have hlend16 := hch16.lend (S := []) rfl trivial
 have hcl16 := zki (⟨r12.2⟩ : via_reader) r9.2.2 r15 _ (hG.own hF hO) hfar16 hlend16 hr15
 refine zo (zr c_71 hf (vs := [.agg #[ptr b4 0], ptr b7 0]) rfl) rfl hf rfl rfl (hcl16) ?_
 rintro e w' ⟨he, hO'⟩
 refine ⟨_, he, fun a hf => ?_⟩
 have hO := hch16.back rfl hO' rfl
 refine S.op tb ?_ hf hO hm
 refine kn (b' := false) hc14 rfl ?_
 refine br rfl (fun hc17 => ?_) fun hc17 => ?_
 exact en rfl fun a w hf hO hm => ⟨true, r15.2.1.f_s, r15.2.1.f_at, r15.2.2.Proto, r15.2.2.Version, r15.2.2.By, r15.2.2.Comment, hf.sel rfl, hO, hm⟩
 refine vl rfl rfl (fun a w hf hO => zK (o := 0) (vs := [ptr b4 0]) zoZ znm (hO.blkSees (i := 2) rfl) rfl rfl hf rfl) ?_
 refine rw_ rfl fun a w hf hO hm => ?_
 obtain ⟨r18, hr18, hm⟩ := ob hm
 have hch19 := (show Dk.Own w0 [] _ ([.blk b4 [str r15.2.1.f_s, int r15.2.1.f_at] 137, .blk b7 [str r15.2.2.Proto, str r15.2.2.Version, str r15.2.2.By, str r15.2.2.Comment] 23] ++ [.blk b5 [ptr b4 0] 116, .blk b1 [str [], str [], str [], str []] 23]) from hO)
 have hfar19 := Dk.Own.far hch19 rfl hF hG.size
 have hlend19 := hch19.lend (S := []) rfl trivial
 have hcl19 := zhv (⟨r15.2.1⟩ : via_reader) r15.2.2 r18 _ (hG.own hF hO).1 hfar19 hlend19 hr18
 refine zo (zr c_72 hf (vs := [.agg #[ptr b4 0], ptr b7 0]) rfl) rfl hf rfl rfl (hcl19) ?_
 rintro e w' ⟨he, hO'⟩
 refine ⟨_, he, fun a hf => ?_⟩
 have hO := hch19.back rfl hO' rfl
 refine S.op tb ?_ hf hO hm
 refine kn (b' := false) hc17 rfl ?_
 exact en rfl fun a w hf hO hm => ⟨!r18.1, r18.2.1.f_s, r18.2.1.f_at, r18.2.2.Proto, r18.2.2.Version, r18.2.2.By, r18.2.2.Comment, hf.sel rfl, hO, hm⟩
 rintro a w ⟨t20, s21, i22, s23, s24, s25, s26, hf, hO, hm⟩
 rw [zcM] at hm
 refine S.co tb ?_ hf hO hm
 refine br rfl (fun hc27 => ?_) fun hc27 => ?_
 refine vl rfl rfl (fun a w hf hO => zS (vs := []) (v := .agg #[str [], str [], str [], str []]) hf rfl (by kernel_rfl)) ?_
 refine rw_ rfl fun a w hf hO hm => ?_
 refine zu (i := 3) (n := 4) zaV rfl rfl rfl (by simp [Value.oneCell']) hf rfl rfl hO fun w hO => ?_
 refine S.op tb ?_ hf hO hm
 refine re_ rfl fun a w hf hO hm => ?_
 obtain rfl := Option.some.inj hm
 exact zi Tryz.results39 hf (.cell rfl (zx (n := 4) (vs := [str [], str [], str [], str []]) zdi zaV rfl ((hO.blkSees (i := 3) rfl).cells (o := 0) (n := 4) rfl)) (.tmp rfl .nil)) ⟨rfl, hO.below⟩
 refine vl rfl rfl (fun a w hf hO => zK (o := 0) (vs := [str s23, str s24, str s25, str s26]) zdi zaV (hO.blkSees (i := 1) rfl) rfl rfl hf rfl) ?_
 refine rw_ rfl fun a w hf hO hm => ?_
 refine zu (i := 3) (n := 4) zaV rfl rfl rfl (by simp [Value.oneCell']) hf rfl rfl hO fun w hO => ?_
 refine S.op tb ?_ hf hO hm
 refine re_ rfl fun a w hf hO hm => ?_
 obtain rfl := Option.some.inj hm
 exact zi Tryz.results39 hf (.cell rfl (zx (n := 4) (vs := [str s23, str s24, str s25, str s26]) zdi zaV rfl ((hO.blkSees (i := 3) rfl).cells (o := 0) (n := 4) rfl)) (.tmp rfl .nil)) ⟨rfl, hO.below⟩

theorem ziB (x_values : List Str) (R : List api_Via × Int) (w0 : World) (hG : zbH w0) {x_values_p0 : Option Addr} {x_values_c0 : Nat} (hs0 : zaU w0 x_values_p0 (cells zd x_values)) (hc0 : x_values.length ≤ x_values_c0) (hm : zfO x_values = some R) :
    Calls Tryz.prog 14 #[.slice x_values_p0 x_values.length x_values_c0] w0 fun e w' => ∃ (p0 : Option Addr) (c0 : Nat), e = .returned (.tuple #[.slice p0 R.1.length c0, int R.2]) ∧ Dk.Own w0 [] w' [.row (.slice p0 R.1.length c0) 23 4 R.1.length (cells zN R.1)] := by
 rw [zfO] at hm
 have hF : zG [] := ze
 have hO : Dk.Own w0 [] w0 [] := Dk.Own.refl w0
 have hO := hO.addShr hs0 (by simp [Res.shared])
 refine S.enter tb Tryz.func14 rfl Tryz.ntmps14 rfl ?_ hO hm
 refine nl 23 4 ?_
 refine nl 23 4 ?_
 refine lp (fun k a w => ∃ (p4 : Option Addr) (c5 : Nat) (l6 : List api_Via) (i7 : Int), Fits 48 [(4, .slice p4 l6.length c5), (13, .slice x_values_p0 x_values.length x_values_c0), (14, int (x_values.length : Int)), (15, int i7)] a ∧ Dk.Own w0 [] w [.row (.slice p4 l6.length c5) 23 4 l6.length (cells zN l6), .row (.slice none 0 0) 23 4 0 (cells zN []), .shr x_values_p0 (cells zd x_values)] ∧ zcb x_values k l6 i7 = some R) rfl (fun a w hf hO hm => ⟨none, 0, [], 0, hf.sel rfl, hO, hm⟩) ?_
 rintro n1 a w ⟨p4, c5, l6, i7, hf, hO, hm⟩
 obtain _ | n1 := n1
 rw [zcb] at hm
 cases hm
 rw [zcb] at hm
 refine S.co tb ?_ hf hO hm
 refine br rfl (fun hc9 => ?_) fun hc9 => ?_
 refine rw_ rfl fun a w hf hO hm => ?_
 obtain ⟨x11, hx11, hm⟩ := ob hm
 obtain ⟨b12, o13, hix11, hSx11⟩ := zeo (enc := zd) (sz := 1) (xs := x_values) 41 Tryz.underlying41 zd3 (by decide) (fun _ => rfl) (hO.sees (i := 2) rfl) hx11
 refine zbp (zp hix11 hf rfl rfl) rfl hf rfl rfl fun a hf => ?_
 refine S.op tb ?_ hf hO hm
 refine vl rfl rfl (fun a w hf hO => zb (o := 0) zab (hSx11 _ (hO.sees (i := 2) rfl)) rfl hf rfl) ?_
 refine rw_ rfl fun a w hf hO hm => ?_
 obtain ⟨r15, hr15, hm⟩ := ob hm
 refine zo (zr c_38 hf (vs := [str x11]) rfl) rfl hf rfl rfl (zlR x11 r15 _ (hG.own hF hO).1 hr15) ?_
 rintro e w' ⟨p16, c17, he, hO'⟩
 refine ⟨_, he, fun a hf => ?_⟩
 have hO := hO.call hO' (by simp [Res.shared])
 refine S.op tb ?_ hf hO hm
 refine br rfl (fun hc20 => ?_) fun hc20 => ?_
 refine nl 23 4 ?_
 refine re_ rfl fun a w hf hO hm => ?_
 obtain rfl := Option.some.inj hm
 exact zi Tryz.results14 hf (.tmp rfl (.tmp rfl .nil)) ⟨none, 0, rfl, (hO.sub (.cons_cons _ (.cons _ (.cons _ (.cons _ (.cons _ .slnil))))))⟩
 refine lp (fun k a w => ∃ (p24 : Option Addr) (c25 : Nat) (l26 : List api_Via) (i27 : Int), Fits 48 [(4, .slice p24 l26.length c25), (13, .slice x_values_p0 x_values.length x_values_c0), (14, int (x_values.length : Int)), (15, int i7), (27, .slice p16 r15.1.length c17), (28, int (r15.1.length : Int)), (29, int i27)] a ∧ Dk.Own w0 [] w [.row (.slice p16 r15.1.length c17) 9 1 r15.1.length (cells zd r15.1), .row (.slice p24 l26.length c25) 23 4 l26.length (cells zN l26), .row (.slice none 0 0) 23 4 0 (cells zN []), .shr x_values_p0 (cells zd x_values)] ∧ zcD (zcb x_values n1) i7 r15 k l26 i27 = some R) rfl (fun a w hf hO hm => ⟨p4, c5, l6, 0, hf.sel rfl, hO, hm⟩) ?_
 rintro n2 a w ⟨p24, c25, l26, i27, hf, hO, hm⟩
 obtain _ | n2 := n2
 rw [zcD] at hm
 cases hm
 rw [zcD] at hm
 refine S.co tb ?_ hf hO hm
 refine br rfl (fun hc29 => ?_) fun hc29 => ?_
 refine rw_ rfl fun a w hf hO hm => ?_
 obtain ⟨x31, hx31, hm⟩ := ob hm
 obtain ⟨b32, o33, hix31, hSx31, hAx31⟩ := zbP (enc := zd) (sz := 1) (xs := r15.1) 41 Tryz.underlying41 zd3 (by decide) (fun _ => rfl) hO (i := 0) rfl hx31
 refine zbp (zp hix31 hf rfl rfl) rfl hf rfl rfl fun a hf => ?_
 refine S.op tb ?_ hf hO hm
 refine vl rfl rfl (fun a w hf hO => zb (o := 0) zab (hSx31 _ (hO.rowSees (i := 0) rfl)) rfl hf rfl) ?_
 refine cl c_39 rfl (fun r35 w hr35 hO => zj3 x31 r35 _ (hG.own hF hO) hr35) fun r35 hr35 => ?_
 refine rw_ rfl fun a w hf hO hm => ?_
 refine zal zj6 hf rfl hO fun a b36 w hf hO => ?_
 refine S.op tb ?_ hf hO hm
 refine rw_ rfl fun a w hf hO hm => ?_
 refine zu (i := 0) (n := 4) zaV rfl rfl rfl (by simp [Value.oneCell']) hf rfl rfl hO fun w hO => ?_
 refine S.op tb ?_ hf hO hm
 refine br rfl (fun hc39 => ?_) fun hc39 => ?_
 refine nl 23 4 ?_
 refine re_ rfl fun a w hf hO hm => ?_
 obtain rfl := Option.some.inj hm
 exact zi Tryz.results14 hf (.tmp rfl (.tmp rfl .nil)) ⟨none, 0, rfl, (hO.sub (.cons_cons _ (.cons _ (.cons _ (.cons _ (.cons _ (.cons _ .slnil)))))))⟩
 refine vl rfl rfl (fun a w hf hO => zK (o := 0) (vs := [str r35.1.Proto, str r35.1.Version, str r35.1.By, str r35.1.Comment]) zdi zaV (hO.blkSees (i := 0) rfl) rfl rfl hf rfl) ?_
 refine rw_ rfl fun a w hf hO hm => ?_
 refine zs (vs := [(0, .agg #[str r35.1.Proto, str r35.1.Version, str r35.1.By, str r35.1.Comment])]) (cs := [str r35.1.Proto, str r35.1.Version, str r35.1.By, str r35.1.Comment]) (e := 23) (sz := 4) hf rfl rfl (fun w => by kernel_rfl) rfl rfl hO fun a b42 w hf hO => ?_
 refine S.op tb ?_ hf hO hm
 refine rw_ rfl fun a w hf hO hm => ?_
 obtain ⟨hg45, hm⟩ := og hm
 refine zbS el_38 (enc := zN) (xs := l26) (ys := [r35.1]) (i := 3) (fun _ => rfl) rfl (hO.rowSees (i := 0) rfl) (by simp [cells, zN, Value.oneCell']) hg45 hf rfl rfl rfl hO fun a p43 c44 w hf hO => ?_
 refine S.op tb ?_ hf hO hm
 refine bi rfl fun i47 hi47 => ?_
 exact en rfl fun a w hf hO hm => ⟨_, Nat.lt_succ_self _, p43, c44, l26 ++ [r35.1], i47, hf.sel rfl, (hO.sub (.cons _ (.cons _ (.cons_cons _ (.cons_cons _ (.cons_cons _ (.cons_cons _ .slnil))))))), hm⟩
 refine bi rfl fun i49 hi49 => ?_
 exact en rfl fun a w hf hO hm => ⟨_, Nat.lt_succ_self _, p24, c25, l26, i49, hf.sel rfl, (hO.sub (.cons _ (.cons_cons _ (.cons_cons _ (.cons_cons _ .slnil))))), hm⟩
 refine re_ rfl fun a w hf hO hm => ?_
 obtain rfl := Option.some.inj hm
 exact zi Tryz.results14 hf (.tmp rfl (.tmp rfl .nil)) ⟨p4, c5, rfl, (hO.sub (.cons_cons _ (.cons _ (.cons _ .slnil))))⟩

theorem zi3 (x_a : List api_Via) (x_b : List api_Via) (R : Bool) (w0 : World) (hG : zt w0) {x_a_p0 : Option Addr} {x_a_c0 : Nat} (hs0 : zaU w0 x_a_p0 (cells zN x_a)) (hc0 : x_a.length ≤ x_a_c0) {x_b_p1 : Option Addr} {x_b_c1 : Nat} (hs1 : zaU w0 x_b_p1 (cells zN x_b)) (hc1 : x_b.length ≤ x_b_c1) (hm : zd6 x_a x_b = some R) :
    Calls Tryz.prog 16 #[.slice x_a_p0 x_a.length x_a_c0, .slice x_b_p1 x_b.length x_b_c1] w0 (Ret w0 (fun R => .bool R) R) := by
 rw [zd6] at hm
 have hF : zG [] := ze
 have hO : Dk.Own w0 [] w0 [] := Dk.Own.refl w0
 have hO := hO.addShr hs0 (by simp [Res.shared])
 have hO := hO.addShr hs1 (by simp [Res.shared])
 refine S.enter tb Tryz.func16 rfl Tryz.ntmps16 rfl ?_ hO hm
 refine br rfl (fun hc3 => ?_) fun hc3 => ?_
 exact rt Tryz.results16 rfl
 refine lp (fun k a w => ∃ (i7 : Int), Fits 26 [(0, .slice x_a_p0 x_a.length x_a_c0), (1, .slice x_b_p1 x_b.length x_b_c1), (5, int i7)] a ∧ Dk.Own w0 [] w [.shr x_b_p1 (cells zN x_b), .shr x_a_p0 (cells zN x_a)] ∧ zbK x_a x_b k i7 = some R) rfl (fun a w hf hO hm => ⟨0, hf.sel rfl, hO, hm⟩) ?_
 rintro n1 a w ⟨i7, hf, hO, hm⟩
 obtain _ | n1 := n1
 rw [zbK] at hm
 cases hm
 rw [zbK] at hm
 refine S.co tb ?_ hf hO hm
 refine br rfl (fun hc9 => ?_) fun hc9 => ?_
 refine rc_ rfl fun a w hf hO hm => ?_
 refine ze7 (by kernel_rfl) (by kernel_rfl) hO ?_
 refine zw (fun w hO => zv hf rfl) rfl hf rfl rfl fun a hf => ?_
 refine zw (fun w hO => zv hf rfl) rfl hf rfl rfl fun a hf => ?_
 obtain ⟨x11, hx11, hm⟩ := ob hm
 obtain ⟨b12, o13, hix11, hSx11⟩ := zeo (enc := zN) (sz := 4) (xs := x_a) 38 Tryz.underlying38 zaV (by decide) (fun _ => rfl) (hO.sees (i := 1) rfl) hx11
 refine zw (fun w hO => zp hix11 hf rfl rfl) rfl hf rfl rfl fun a hf => ?_
 refine zw (fun w hO => zK (o := 0) (vs := [str x11.Proto, str x11.Version, str x11.By, str x11.Comment]) zdi zaV (hSx11 _ (hO.sees (i := 1) rfl)) rfl rfl hf rfl) rfl hf rfl rfl fun a hf => ?_
 refine zw (fun w hO => zv hf rfl) rfl hf rfl rfl fun a hf => ?_
 refine zw (fun w hO => zv hf rfl) rfl hf rfl rfl fun a hf => ?_
 obtain ⟨x14, hx14, hm⟩ := ob hm
 obtain ⟨b15, o16, hix14, hSx14⟩ := zeo (enc := zN) (sz := 4) (xs := x_b) 38 Tryz.underlying38 zaV (by decide) (fun _ => rfl) (hO.sees (i := 0) rfl) hx14
 refine zw (fun w hO => zp hix14 hf rfl rfl) rfl hf rfl rfl fun a hf => ?_
 refine zw (fun w hO => zK (o := 0) (vs := [str x14.Proto, str x14.Version, str x14.By, str x14.Comment]) zdi zaV (hSx14 _ (hO.sees (i := 0) rfl)) rfl rfl hf rfl) rfl hf rfl rfl fun a hf => ?_
 refine zw (fun w hO => zi0 (by kernel_rfl) (zq7 x11 x14) hf rfl rfl) rfl hf rfl rfl fun a hf => ?_
 refine wpQuiet_nil ?_
 intro w hO
 refine S.no tb ?_ hf hO hm
 refine br rfl (fun hc18 => ?_) fun hc18 => ?_
 exact rt Tryz.results16 rfl
 refine bi rfl fun i21 hi21 => ?_
 exact en rfl fun a w hf hO hm => ⟨_, Nat.lt_succ_self _, i21, hf.sel rfl, hO, hm⟩
 exact rt Tryz.results16 rfl

theorem zl7 (R : Bool) (w0 : World) (hG : zbH w0) (hm : zf9 = some R) :
    Calls Tryz.prog 7 #[] w0 (Ret w0 (fun R => .bool R) R) := by
 rw [zf9] at hm
 have hF : zG [] := ze
 have hO : Dk.Own w0 [] w0 [] := Dk.Own.refl w0
 refine S.enter tb Tryz.func7 rfl Tryz.ntmps7 rfl ?_ hO hm
 refine rw_ rfl fun a w hf hO hm => ?_
 refine zs (vs := [(0, str [49, 46, 49, 32, 97, 44, 32, 72, 84, 84, 80, 47, 49, 46, 48, 32, 98, 58, 56, 48, 32, 40, 120, 41])]) (cs := [str [49, 46, 49, 32, 97, 44, 32, 72, 84, 84, 80, 47, 49, 46, 48, 32, 98, 58, 56, 48, 32, 40, 120, 41]]) (e := 9) (sz := 1) hf rfl rfl (fun w => by kernel_rfl) rfl rfl hO fun a b2 w hf hO => ?_
 refine S.op tb ?_ hf hO hm
 refine rw_ rfl fun a w hf hO hm => ?_
 obtain ⟨r3, hr3, hm⟩ := ob hm
 refine zo (zr c_14 hf (vs := [.slice (some ⟨b2, 0, none⟩) (([[49, 46, 49, 32, 97, 44, 32, 72, 84, 84, 80, 47, 49, 46, 48, 32, 98, 58, 56, 48, 32, 40, 120, 41]] : List Str).length) 1]) rfl) rfl hf rfl rfl (ziB ([[49, 46, 49, 32, 97, 44, 32, 72, 84, 84, 80, 47, 49, 46, 48, 32, 98, 58, 56, 48, 32, 40, 120, 41]] : List Str) r3 _ (hG.own hF hO) (hO.rowSees (i := 0) rfl) (hO.rowCap (i := 0) rfl) hr3) ?_
 rintro e w' ⟨p4, c5, he, hO'⟩
 refine ⟨_, he, fun a hf => ?_⟩
 have hO := hO.call hO' (by simp [Res.shared])
 refine S.op tb ?_ hf hO hm
 refine jn 0 (fun a w => ∃ (t10 : Bool), Fits 17 [(0, .bool t10)] a ∧ Dk.Own w0 [] w [.row (.slice p4 r3.1.length c5) 23 4 r3.1.length (cells zN r3.1), .row (.slice (some ⟨b2, 0, none⟩) (([[49, 46, 49, 32, 97, 44, 32, 72, 84, 84, 80, 47, 49, 46, 48, 32, 98, 58, 56, 48, 32, 40, 120, 41]] : List Str).length) 1) 9 1 (([[49, 46, 49, 32, 97, 44, 32, 72, 84, 84, 80, 47, 49, 46, 48, 32, 98, 58, 56, 48, 32, 40, 120, 41]] : List Str).length) (cells zd ([[49, 46, 49, 32, 97, 44, 32, 72, 84, 84, 80, 47, 49, 46, 48, 32, 98, 58, 56, 48, 32, 40, 120, 41]] : List Str))] ∧ zez t10 = some R) rfl ?_ ?_
 refine br rfl (fun hc7 => ?_) fun hc7 => ?_
 refine vl rfl rfl (fun a w hf hO => zS (vs := [(1, str [49, 46, 49]), (2, str [97])]) (v := .agg #[str [], str [49, 46, 49], str [97], str []]) hf rfl (by kernel_rfl)) ?_
 refine vl rfl rfl (fun a w hf hO => zS (vs := [(0, str [72, 84, 84, 80]), (1, str [49, 46, 48]), (2, str [98, 58, 56, 48]), (3, str [120])]) (v := .agg #[str [72, 84, 84, 80], str [49, 46, 48], str [98, 58, 56, 48], str [120]]) hf rfl (by kernel_rfl)) ?_
 refine rw_ rfl fun a w hf hO hm => ?_
 refine zs (vs := [(0, .agg #[str [], str [49, 46, 49], str [97], str []]), (1, .agg #[str [72, 84, 84, 80], str [49, 46, 48], str [98, 58, 56, 48], str [120]])]) (cs := [str [], str [49, 46, 49], str [97], str [], str [72, 84, 84, 80], str [49, 46, 48], str [98, 58, 56, 48], str [120]]) (e := 23) (sz := 4) hf rfl rfl (fun w => by kernel_rfl) rfl rfl hO fun a b8 w hf hO => ?_
 refine S.op tb ?_ hf hO hm
 refine kn (b' := true) hc7 rfl ?_
 refine cl c_16 rfl (fun r9 w hr9 hO => zi3 r3.1 ([(⟨[], [49, 46, 49], [97], []⟩ : api_Via), (⟨[72, 84, 84, 80], [49, 46, 48], [98, 58, 56, 48], [120]⟩ : api_Via)]) r9 _ (hG.own hF hO).1 (hO.rowSees (i := 1) rfl) (hO.rowCap (i := 1) rfl) (hO.rowSees (i := 0) rfl) (hO.rowCap (i := 0) rfl) hr9) fun r9 hr9 => ?_
 exact en rfl fun a w hf hO hm => ⟨r9, hf.sel rfl, (hO.sub (.cons _ (.cons_cons _ (.cons_cons _ .slnil)))), hm⟩
 exact en rfl fun a w hf hO hm => ⟨false, hf.sel rfl, hO, hm⟩
 rintro a w ⟨t10, hf, hO, hm⟩
 rw [zez] at hm
 refine S.co tb ?_ hf hO hm
 exact rt Tryz.results7 rfl

theorem znT (x_v : api_Via) (R : api_Via) (w0 : World) (hG : zt w0) (hm : zgF x_v = some R) :
    Calls Tryz.prog 8 #[.agg #[str x_v.Proto, str x_v.Version, str x_v.By, str x_v.Comment]] w0 (Ret w0 (fun R => .agg #[str R.Proto, str R.Version, str R.By, str R.Comment]) R) := by
 rw [zgF] at hm
 have hF : zG [] := ze
 have hO : Dk.Own w0 [] w0 [] := Dk.Own.refl w0
 refine S.enter tb Tryz.func8 rfl Tryz.ntmps8 rfl ?_ hO hm
 refine rw_ rfl fun a w hf hO hm => ?_
 refine zen (v := .agg #[str x_v.Proto, str x_v.Version, str x_v.By, str x_v.Comment]) (cs := [str x_v.Proto, str x_v.Version, str x_v.By, str x_v.Comment]) rfl hf rfl rfl hO fun a b1 w hf hO => ?_
 refine S.op tb ?_ hf hO hm
 refine rw_ rfl fun a w hf hO hm => ?_
 refine zal zj6 hf rfl hO fun a b2 w hf hO => ?_
 refine S.op tb ?_ hf hO hm
 refine vl rfl rfl (fun a w hf hO => zb (o := 0) zab (hO.blkSees (i := 1) rfl) rfl hf rfl) ?_
 refine vl rfl rfl (fun a w hf hO => zb (o := 1) zab (hO.blkSees (i := 1) rfl) rfl hf rfl) ?_
 refine vl rfl rfl (fun a w hf hO => zb (o := 2) zab (hO.blkSees (i := 1) rfl) rfl hf rfl) ?_
 refine vl rfl rfl (fun a w hf hO => zb (o := 3) zab (hO.blkSees (i := 1) rfl) rfl hf rfl) ?_
 refine vl rfl rfl (fun a w hf hO => zS (vs := [(0, str x_v.Proto), (1, str x_v.Version), (2, str x_v.By), (3, str x_v.Comment)]) (v := .agg #[str x_v.Proto, str x_v.Version, str x_v.By, str x_v.Comment]) hf rfl (by kernel_rfl)) ?_
 refine rw_ rfl fun a w hf hO hm => ?_
 refine zal al_70 hf rfl hO fun a b4 w hf hO => ?_
 refine S.op tb ?_ hf hO hm
 refine rw_ rfl fun a w hf hO hm => ?_
 refine zu (i := 0) (n := 4) sz_70 rfl rfl rfl (by simp [Value.oneCell']) hf rfl rfl hO fun w hO => ?_
 refine S.op tb ?_ hf hO hm
 refine jn 0 (fun a w => ∃ (s22 : Str) (s23 : Str) (s24 : Str) (s25 : Str), Fits 38 [(2, ptr b2 0), (3, ptr b4 0)] a ∧ Dk.Own w0 [] w [.blk b4 [str s22, str s23, str s24, str s25] 70, .blk b2 [str [], str [], str [], str []] 23, .blk b1 [str x_v.Proto, str x_v.Version, str x_v.By, str x_v.Comment] 23] ∧ zg3 s22 s23 s24 s25 = some R) rfl ?_ ?_
 refine lp (fun k a w => ∃ (s7 : Str) (s8 : Str) (s9 : Str) (s10 : Str) (i11 : Int), Fits 38 [(2, ptr b2 0), (3, ptr b4 0), (4, int i11)] a ∧ Dk.Own w0 [] w [.blk b4 [str s7, str s8, str s9, str s10] 70, .blk b2 [str [], str [], str [], str []] 23, .blk b1 [str x_v.Proto, str x_v.Version, str x_v.By, str x_v.Comment] 23] ∧ zbD k s7 s8 s9 s10 i11 = some R) rfl (fun a w hf hO hm => ⟨x_v.Proto, x_v.Version, x_v.By, x_v.Comment, 0, hf.sel rfl, hO, hm⟩) ?_
 rintro n1 a w ⟨s7, s8, s9, s10, i11, hf, hO, hm⟩
 obtain _ | n1 := n1
 rw [zbD] at hm
 cases hm
 rw [zbD] at hm
 refine S.co tb ?_ hf hO hm
 refine br rfl (fun hc13 => ?_) fun hc13 => ?_
 refine rc_ rfl fun a w hf hO hm => ?_
 obtain ⟨x15, hx15, hm⟩ := ob hm
 have hAx15 := zm6 (n := 4) (b := b4) (xs := [s7, s8, s9, s10]) (m := i11) 70 Tryz.underlying70 zd3 rfl hx15
 obtain ⟨x16, hx16, hm⟩ := ob hm
 have hAx16 := zm6 (n := 4) (b := b4) (xs := [s7, s8, s9, s10]) (m := i11) 70 Tryz.underlying70 zd3 rfl hx16
 obtain ⟨s17, hs17, hm⟩ := ob hm
 obtain ⟨x18, hx18, hm⟩ := ob hm
 have hAx18 := zm6 (n := 4) (b := b4) (xs := [s7, s8, s9, s10]) (m := i11) 70 Tryz.underlying70 zd3 rfl hx18
 obtain ⟨r19, hr19, hm⟩ := ob hm
 refine zfx (S := Unit) (E0 := [(2, ptr b2 0), (3, ptr b4 0), (4, int i11)]) (by kernel_rfl) (fun k σ w => match k with | 0 => Dk.Own w0 [] w [.blk b4 [str s7, str s8, str s9, str s10] 70, .blk b2 [str [], str [], str [], str []] 23, .blk b1 [str x_v.Proto, str x_v.Version, str x_v.By, str x_v.Comment] 23] | _ => Dk.Own w0 [] w [.blk b4 [str r19.1, str r19.2.1, str r19.2.2.1, str r19.2.2.2] 70, .blk b2 [str [], str [], str [], str []] 23, .blk b1 [str x_v.Proto, str x_v.Version, str x_v.By, str x_v.Comment] 23]) (fun σ => [⟨[(4, int i11)], some (18, int i11)⟩, ⟨[(4, int i11)], some (19, int i11)⟩, ⟨[(3, ptr b4 0), (19, int i11)], some (20, ptr b4 i11.toNat)⟩, ⟨[(20, ptr b4 i11.toNat)], some (21, str x15)⟩, ⟨[(4, int i11)], some (22, int i11)⟩, ⟨[(3, ptr b4 0), (22, int i11)], some (23, ptr b4 i11.toNat)⟩, ⟨[(23, ptr b4 i11.toNat)], some (24, str x16)⟩, ⟨[(24, str x16)], some (25, int (x16.length : Int))⟩, ⟨[(25, int (x16.length : Int))], some (26, int (min (x16.length : Int) 60))⟩, ⟨[(21, str x15), (26, int (min (x16.length : Int) 60))], some (27, str s17)⟩, ⟨[(3, ptr b4 0), (18, int i11)], some (28, ptr b4 i11.toNat)⟩, ⟨[(27, str s17), (28, ptr b4 i11.toNat)], none⟩]) () [11] rfl (fun _ => rfl) (fun _ => rfl) (fun _ => rfl) rfl rfl (by decide) rfl hO.drew (hf.cons rfl (hf.cons rfl (hf.cons rfl hf.nil))) (fun σ => ⟨⟨rfl, trivial⟩, ⟨rfl, trivial⟩, ⟨rfl, rfl, trivial⟩, ⟨rfl, trivial⟩, ⟨rfl, trivial⟩, ⟨rfl, rfl, trivial⟩, ⟨rfl, trivial⟩, ⟨rfl, trivial⟩, ⟨rfl, trivial⟩, ⟨rfl, rfl, trivial⟩, ⟨rfl, rfl, trivial⟩, ⟨rfl, rfl, trivial⟩, trivial⟩) ⟨zj rfl (fun σ => rfl) (fun σ => rfl) (fun σ a w k _ _ _ _ hf => zv hf rfl), zj rfl (fun σ => rfl) (fun σ => rfl) (fun σ a w k _ _ _ _ hf => zv hf rfl), zj rfl (fun σ => rfl) (fun σ => rfl) (fun σ a w k _ _ _ _ hf => zce hAx15.1 hf rfl rfl), zj rfl (fun σ => rfl) (fun σ => rfl) (fun σ a w k hk hlo hup hst hf => match k, hk, hlo, hup, hst, hf with | 0, _, _, _, hst, hf => have hO : Dk.Own w0 [] w _ := hst; zb (o := 0) zab ((fun w h => hAx15.2 w h) _ (hO.blkSees (i := 0) rfl)) rfl hf rfl | 1, _, _, hup, _, _ => absurd (hup 0 (by decide) (by kernel_rfl)) (by decide) | k + 2, hk, _, _, _, _ => absurd hk (by simp)), zj rfl (fun σ => rfl) (fun σ => rfl) (fun σ a w k _ _ _ _ hf => zv hf rfl), zj rfl (fun σ => rfl) (fun σ => rfl) (fun σ a w k _ _ _ _ hf => zce hAx16.1 hf rfl rfl), zj rfl (fun σ => rfl) (fun σ => rfl) (fun σ a w k hk hlo hup hst hf => match k, hk, hlo, hup, hst, hf with | 0, _, _, _, hst, hf => have hO : Dk.Own w0 [] w _ := hst; zb (o := 0) zab ((fun w h => hAx16.2 w h) _ (hO.blkSees (i := 0) rfl)) rfl hf rfl | 1, _, _, hup, _, _ => absurd (hup 0 (by decide) (by kernel_rfl)) (by decide) | k + 2, hk, _, _, _, _ => absurd hk (by simp)), zj rfl (fun σ => rfl) (fun σ => rfl) (fun σ a w k _ _ _ _ hf => zlc (l := x16) Tryz.underlying9 hf rfl), zj rfl (fun σ => rfl) (fun σ => rfl) (fun σ a w k _ _ _ _ hf => zqW (m := (x16.length : Int)) (n := 60) hf rfl rfl), zj rfl (fun σ => rfl) (fun σ => rfl) (fun σ a w k _ _ _ _ hf => znd (l := x15) Tryz.underlying9 hf rfl rfl hs17), zj rfl (fun σ => rfl) (fun σ => rfl) (fun σ a w k _ _ _ _ hf => zce hAx18.1 hf rfl rfl), zhR rfl (fun σ => rfl) (fun σ => rfl) rfl (fun σ w (hO : Dk.Own w0 [] w _) => by obtain ⟨w', hO', hr⟩ := znJ (x := (.tmp 28)) (y := (.tmp 27)) (E := [(27, str s17), (28, ptr b4 i11.toNat)]) (i := 0) (xs := [s7, s8, s9, s10]) (ys := [r19.1, r19.2.1, r19.2.2.1, r19.2.2.2]) (m := i11) (v := s17) zd3 rfl (zpA hr19) hO rfl rfl; exact ⟨(), w', hO', ⟨.inr rfl, .inr rfl, .inr rfl, .inr rfl, .inr rfl, .inr rfl, .inr rfl, .inr rfl, .inr rfl, .inr rfl, .inr rfl, .inr rfl, trivial⟩, hr⟩), trivial⟩ ?_
 rintro _ a w hf hO
 have hO : Dk.Own w0 [] w _ := hO
 have hf : Fits 38 [(2, ptr b2 0), (3, ptr b4 0), (4, int i11)] a := (hf.cons rfl (hf.cons rfl (hf.cons rfl hf.nil)))
 refine S.no tb ?_ hf hO hm
 refine bi rfl fun i21 hi21 => ?_
 exact en rfl fun a w hf hO hm => ⟨_, Nat.lt_succ_self _, r19.1, r19.2.1, r19.2.2.1, r19.2.2.2, i21, hf.sel rfl, hO, hm⟩
 exact en rfl fun a w hf hO hm => ⟨s7, s8, s9, s10, hf.sel rfl, hO, hm⟩
 rintro a w ⟨s22, s23, s24, s25, hf, hO, hm⟩
 rw [zg3] at hm
 refine S.co tb ?_ hf hO hm
 refine rw_ rfl fun a w hf hO hm => ?_
 refine zbp (zce (zrZ _) hf rfl rfl) rfl hf rfl rfl fun a hf => ?_
 refine S.op tb ?_ hf hO hm
 refine vl rfl rfl (fun a w hf hO => zb (o := 0) zab (hO.blkSees (i := 0) rfl) rfl hf rfl) ?_
 refine rw_ rfl fun a w hf hO hm => ?_
 refine zbp (zce (zr0 _) hf rfl rfl) rfl hf rfl rfl fun a hf => ?_
 refine S.op tb ?_ hf hO hm
 refine vl rfl rfl (fun a w hf hO => zb (o := 1) zab (hO.blkSees (i := 0) rfl) rfl hf rfl) ?_
 refine rw_ rfl fun a w hf hO hm => ?_
 refine zbp (zce (zr1 _) hf rfl rfl) rfl hf rfl rfl fun a hf => ?_
 refine S.op tb ?_ hf hO hm
 refine vl rfl rfl (fun a w hf hO => zb (o := 2) zab (hO.blkSees (i := 0) rfl) rfl hf rfl) ?_
 refine rw_ rfl fun a w hf hO hm => ?_
 refine zbp (zce (zr2 _) hf rfl rfl) rfl hf rfl rfl fun a hf => ?_
 refine S.op tb ?_ hf hO hm
 refine vl rfl rfl (fun a w hf hO => zb (o := 3) zab (hO.blkSees (i := 0) rfl) rfl hf rfl) ?_
 refine vl rfl rfl (fun a w hf hO => zS (vs := [(0, str s22), (1, str s23), (2, str s24), (3, str s25)]) (v := .agg #[str s22, str s23, str s24, str s25]) hf rfl (by kernel_rfl)) ?_
 refine rw_ rfl fun a w hf hO hm => ?_
 refine zu (i := 1) (n := 4) zaV rfl rfl rfl (by simp [Value.oneCell']) hf rfl rfl hO fun w hO => ?_
 refine S.op tb ?_ hf hO hm
 refine re_ rfl fun a w hf hO hm => ?_
 obtain rfl := Option.some.inj hm
 exact zi Tryz.results8 hf (.cell rfl (zx (n := 4) (vs := [str s22, str s23, str s24, str s25]) zdi zaV rfl ((hO.blkSees (i := 1) rfl).cells (o := 0) (n := 4) rfl)) .nil) ⟨rfl, hO.below⟩

end Go.Proofs
end
