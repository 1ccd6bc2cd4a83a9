/-
  Walks, written by a program (wip/gen): what its model says, the function returns; what was there before is as it was.
-/
import Derived.Test.YtinncambjiffoaaGreatDoorLib
import Derived.Test.YtinncambjiffoaaGreatDoorW5
import Derived.Test.YtinncambjiffoaaGreatDoorW9
import Derived.Test.YtinncambjiffoaaGreatDoorW11
import Derived.Test.YtinncambjiffoaaGreatDoorW16
set_option linter.unusedVariables false
set_option maxHeartbeats 1000000
set_option linter.unusedSimpArgs false
set_option maxRecDepth 100000
namespace Go.Proofs
open Go.Dk Go.Dm Go.RowKit

theorem zi0 (x_values : List Str) (R : List (List api_Param) × Int) (w0 : World) (hG : zt w0) {x_values_p0 : Option Addr} {x_values_c0 : Nat} (hs0 : zy w0 x_values_p0 (cells zg x_values)) (hc0 : x_values.length ≤ x_values_c0) (hm : zeD x_values = some R) :
    Calls Tryz.prog 14 #[.slice x_values_p0 x_values.length x_values_c0] w0 fun e w' => ∃ (p0 : Option Addr) (c0 : Nat) (g0 : List (Option Addr × Nat × Nat)), e = .returned (.tuple #[.slice p0 R.1.length c0, int R.2]) ∧ Dk.Own w0 [] w' [.nst (.slice p0 R.1.length c0) 73 g0 (R.1.map List.length) (R.1.map (cells zx))] := by
 rw [zeD] at hm
 have hF : zu [] := zf
 have hO : Dk.Own w0 [] w0 [] := Dk.Own.refl w0
 have hO := hO.addShr hs0 (by simp [Res.shared])
 refine S.enter tb Tryz.func14 rfl Tryz.ntmps14 rfl ?_ hO hm
 refine nn 73 ?_
 refine nn 73 ?_
 refine lv [13, 14] [1, 2] (fun J E L k => ∃ (p4 : Option Addr) (c5 : Nat) (l6 : List (List api_Param)) (g7 : List (Option Addr × Nat × Nat)) (i8 : Int), J ((4, .slice p4 l6.length c5) :: (15, int i8) :: E) (.nst (.slice p4 l6.length c5) 73 g7 (l6.map List.length) (l6.map (cells zx)) :: L) (zaJ x_values k l6 i8)) rfl (fun _ _ j => ⟨none, 0, [], [], 0, j rfl⟩) ?_
 rintro n1 a w ⟨p4, c5, l6, g7, i8, hf, hO, hm⟩
 obtain _ | n1 := n1
 rw [zaJ] at hm
 cases hm
 rw [zaJ] at hm
 refine S.co tb ?_ hf hO hm
 refine br rfl (fun hc10 => ?_) fun hc10 => ?_
 refine rw_ rfl fun a w hf hO hm => ?_
 obtain ⟨x12, hx12, hm⟩ := ob hm
 obtain ⟨b13, o14, hix12, hSx12⟩ := zaK (enc := zg) (sz := 1) (xs := x_values) 42 Tryz.underlying42 zfZ (by decide) (fun _ => rfl) (hO.sees (i := 2) rfl) hx12
 refine zS (zk hix12 hf rfl rfl) rfl hf rfl rfl fun a hf => ?_
 refine S.op tb ?_ hf hO hm
 refine vl rfl rfl (fun a w hf hO => ze (o := 0) z7 (hSx12 _ (hO.sees (i := 2) rfl)) rfl hf rfl) ?_
 refine rw_ rfl fun a w hf hO hm => ?_
 obtain ⟨r16, hr16, hm⟩ := ob hm
 refine zj (zh c_33 hf (vs := [str x12]) rfl) rfl hf rfl rfl (zgy x12 r16 _ (hG.own hF hO) hr16) ?_
 rintro e w' ⟨p17, c18, he, hO'⟩
 refine ⟨_, he, fun a hf => ?_⟩
 have hO := hO.call hO' (by simp [Res.shared])
 refine S.op tb ?_ hf hO hm
 refine br rfl (fun hc21 => ?_) fun hc21 => ?_
 refine nn 73 ?_
 refine re_ rfl fun a w hf hO hm => ?_
 obtain rfl := Option.some.inj hm
 exact zi Tryz.results14 hf (.tmp rfl (.tmp rfl .nil)) ⟨none, 0, [], rfl, (hO.sub (.cons_cons _ (.cons _ (.cons _ (.cons _ (.cons _ .slnil))))))⟩
 refine ch [1, 0, 2, 3] rfl rfl ?_
 refine lv [13, 14, 15, 27, 28] [1, 2, 3] (fun J E L k => ∃ (p25 : Option Addr) (c26 : Nat) (l27 : List (List api_Param)) (g28 : List (Option Addr × Nat × Nat)) (i29 : Int), J ((4, .slice p25 l27.length c26) :: (29, int i29) :: E) (.nst (.slice p25 l27.length c26) 73 g28 (l27.map List.length) (l27.map (cells zx)) :: L) (zbv (zaJ x_values n1) i8 r16 k l27 i29)) rfl (fun _ _ j => ⟨p4, c5, l6, g7, 0, j rfl⟩) ?_
 rintro n2 a w ⟨p25, c26, l27, g28, i29, hf, hO, hm⟩
 obtain _ | n2 := n2
 rw [zbv] at hm
 cases hm
 rw [zbv] at hm
 refine S.co tb ?_ hf hO hm
 refine br rfl (fun hc31 => ?_) fun hc31 => ?_
 refine rw_ rfl fun a w hf hO hm => ?_
 obtain ⟨x33, hx33, hm⟩ := ob hm
 obtain ⟨b34, o35, hix33, hSx33, hAx33⟩ := zaw (enc := zg) (sz := 1) (xs := r16.1) 42 Tryz.underlying42 zfZ (by decide) (fun _ => rfl) hO (i := 1) rfl hx33
 refine zS (zk hix33 hf rfl rfl) rfl hf rfl rfl fun a hf => ?_
 refine S.op tb ?_ hf hO hm
 refine vl rfl rfl (fun a w hf hO => ze (o := 0) z7 (hSx33 _ (hO.rowSees (i := 1) rfl)) rfl hf rfl) ?_
 refine rw_ rfl fun a w hf hO hm => ?_
 obtain ⟨r37, hr37, hm⟩ := ob hm
 refine zj (zh c_36 hf (vs := [str x33]) rfl) rfl hf rfl rfl (zl7 x33 r37 _ (hG.own hF hO) hr37) ?_
 rintro e w' ⟨p38, c39, he, hO'⟩
 refine ⟨_, he, fun a hf => ?_⟩
 have hO := hO.call hO' (by simp [Res.shared])
 refine S.op tb ?_ hf hO hm
 refine br rfl (fun hc42 => ?_) fun hc42 => ?_
 refine nn 73 ?_
 refine re_ rfl fun a w hf hO hm => ?_
 obtain rfl := Option.some.inj hm
 exact zi Tryz.results14 hf (.tmp rfl (.tmp rfl .nil)) ⟨none, 0, [], rfl, (hO.sub (.cons_cons _ (.cons _ (.cons _ (.cons _ (.cons _ (.cons _ .slnil)))))))⟩
 refine rw_ rfl fun a w hf hO hm => ?_
 refine zm (vs := [(0, .slice p38 r37.1.length c39)]) (cs := [.slice p38 r37.1.length c39]) (e := 73) (sz := 1) hf rfl rfl (fun w => by kernel_rfl) rfl rfl hO fun a b45 w hf hO => ?_
 refine S.op tb ?_ hf hO hm
 refine rw_ rfl fun a w hf hO hm => ?_
 obtain ⟨hg48, hm⟩ := og hm
 refine zs7 el_47 (enc := zx) (xss := l27) (z := r37.1) (i := 2) (j := 1) [0, 3, 4, 5] rfl rfl (fun w hO => hO.rowSees (i := 0) rfl) hg48 hf rfl rfl rfl hO fun a p46 c47 w hf hO => ?_
 refine S.op tb ?_ hf hO hm
 refine bi rfl fun i50 hi50 => ?_
 exact ec [0, 2, 3, 4] rfl rfl rfl fun _ _ j => ⟨_, Nat.lt_succ_self _, p46, c47, l27 ++ [r37.1], g28 ++ [(p38, r37.1.length, c39)], i50, j rfl⟩
 refine bi rfl fun i52 hi52 => ?_
 exact ec [0, 2, 3] rfl rfl rfl fun _ _ j => ⟨_, Nat.lt_succ_self _, p25, c26, l27, g28, i52, j rfl⟩
 refine re_ rfl fun a w hf hO hm => ?_
 obtain rfl := Option.some.inj hm
 exact zi Tryz.results14 hf (.tmp rfl (.tmp rfl .nil)) ⟨p4, c5, g7, rfl, (hO.sub (.cons_cons _ (.cons _ (.cons _ .slnil))))⟩

theorem zvr (x_s : Str) (R : Bool) (w0 : World) (hG : zaG w0) (hm : zo1 x_s = some R) :
    Calls Tryz.prog 37 #[str x_s] w0 (Ret w0 (fun R => .bool R) R) := by
 rw [zo1] at hm
 have hF : zu [] := zf
 have hO : Dk.Own w0 [] w0 [] := Dk.Own.refl w0
 refine S.enter tb Tryz.func37 rfl Tryz.ntmps37 rfl ?_ hO hm
 refine cl c_69 rfl (fun r2 w hr2 hO => zds x_s [91] r2 _ (hG.own hF hO).1 hr2) fun r2 hr2 => ?_
 refine cl c_70 rfl (fun r4 w hr4 hO => ze8 r2.1 [93] r4 _ (hG.own hF hO).1 hr4) fun r4 hr4 => ?_
 refine jv 0 [] [] (fun J E L => ∃ (t15 : Bool), J ((2, .bool t15) :: E) (L) (zfT t15)) rfl ?_ ?_
 refine cl c_50 rfl (fun r6 w hr6 hO => zpo x_s r6 _ (hG.own hF hO) hr6) fun r6 hr6 => ?_
 refine br rfl (fun hc7 => ?_) fun hc7 => ?_
 exact en rfl fun _ _ j => ⟨true, j rfl⟩
 refine br rfl (fun hc8 => ?_) fun hc8 => ?_
 refine br rfl (fun hc9 => ?_) fun hc9 => ?_
 refine cl c_71 rfl (fun r10 w hr10 hO => zf6 r4.1 r10 _ (hG.own hF hO) hr10) fun r10 hr10 => ?_
 refine br rfl (fun hc11 => ?_) fun hc11 => ?_
 exact en rfl fun _ _ j => ⟨true, j rfl⟩
 refine cl zp0 rfl (fun r12 w hr12 hO => zbZ x_s [117, 110, 107, 110, 111, 119, 110] r12 _ (hG.own hF hO).1 hr12) fun r12 hr12 => ?_
 exact en rfl fun _ _ j => ⟨r12, j rfl⟩
 refine cl zp0 rfl (fun r13 w hr13 hO => zbZ x_s [117, 110, 107, 110, 111, 119, 110] r13 _ (hG.own hF hO).1 hr13) fun r13 hr13 => ?_
 exact en rfl fun _ _ j => ⟨r13, j rfl⟩
 refine cl zp0 rfl (fun r14 w hr14 hO => zbZ x_s [117, 110, 107, 110, 111, 119, 110] r14 _ (hG.own hF hO).1 hr14) fun r14 hr14 => ?_
 exact en rfl fun _ _ j => ⟨r14, j rfl⟩
 rintro a w ⟨t15, hf, hO, hm⟩
 rw [zfT] at hm
 refine S.co tb ?_ hf hO hm
 exact rt Tryz.results37 rfl

theorem zov (x_values : List Str) (R : List Str × Int) (w0 : World) (hG : zaG w0) {x_values_p0 : Option Addr} {x_values_c0 : Nat} (hs0 : zy w0 x_values_p0 (cells zg x_values)) (hc0 : x_values.length ≤ x_values_c0) (hm : zjh x_values = some R) :
    Calls Tryz.prog 15 #[.slice x_values_p0 x_values.length x_values_c0] w0 fun e w' => ∃ (p0 : Option Addr) (c0 : Nat), e = .returned (.tuple #[.slice p0 R.1.length c0, int R.2]) ∧ Dk.Own w0 [] w' [.row (.slice p0 R.1.length c0) 9 1 R.1.length (cells zg R.1)] := by
 rw [zjh] at hm
 have hF : zu [] := zf
 have hO : Dk.Own w0 [] w0 [] := Dk.Own.refl w0
 have hO := hO.addShr hs0 (by simp [Res.shared])
 refine S.enter tb Tryz.func15 rfl Tryz.ntmps15 rfl ?_ hO hm
 refine nl 9 1 ?_
 refine nl 9 1 ?_
 refine lv [11, 12] [1, 2] (fun J E L k => ∃ (p4 : Option Addr) (c5 : Nat) (l6 : List Str) (i7 : Int), J ((4, .slice p4 l6.length c5) :: (13, int i7) :: E) (.row (.slice p4 l6.length c5) 9 1 l6.length (cells zg l6) :: L) (zdL x_values k l6 i7)) rfl (fun _ _ j => ⟨none, 0, [], 0, j rfl⟩) ?_
 rintro n1 a w ⟨p4, c5, l6, i7, hf, hO, hm⟩
 obtain _ | n1 := n1
 rw [zdL] at hm
 cases hm
 rw [zdL] at hm
 refine S.co tb ?_ hf hO hm
 refine br rfl (fun hc9 => ?_) fun hc9 => ?_
 refine rw_ rfl fun a w hf hO hm => ?_
 obtain ⟨x11, hx11, hm⟩ := ob hm
 obtain ⟨b12, o13, hix11, hSx11⟩ := zaK (enc := zg) (sz := 1) (xs := x_values) 42 Tryz.underlying42 zfZ (by decide) (fun _ => rfl) (hO.sees (i := 2) rfl) hx11
 refine zS (zk hix11 hf rfl rfl) rfl hf rfl rfl fun a hf => ?_
 refine S.op tb ?_ hf hO hm
 refine vl rfl rfl (fun a w hf hO => ze (o := 0) z7 (hSx11 _ (hO.sees (i := 2) rfl)) rfl hf rfl) ?_
 refine rw_ rfl fun a w hf hO hm => ?_
 obtain ⟨r15, hr15, hm⟩ := ob hm
 refine zj (zh c_33 hf (vs := [str x11]) rfl) rfl hf rfl rfl (zgy x11 r15 _ (hG.own hF hO).1 hr15) ?_
 rintro e w' ⟨p16, c17, he, hO'⟩
 refine ⟨_, he, fun a hf => ?_⟩
 have hO := hO.call hO' (by simp [Res.shared])
 refine S.op tb ?_ hf hO hm
 refine br rfl (fun hc20 => ?_) fun hc20 => ?_
 refine nl 9 1 ?_
 refine re_ rfl fun a w hf hO hm => ?_
 obtain rfl := Option.some.inj hm
 exact zi Tryz.results15 hf (.tmp rfl (.tmp rfl .nil)) ⟨none, 0, rfl, (hO.sub (.cons_cons _ (.cons _ (.cons _ (.cons _ (.cons _ .slnil))))))⟩
 refine lv [4, 7, 11, 12, 13, 25, 26] [0, 1, 2, 3] (fun J E L k => ∃ (i24 : Int), J ((27, int i24) :: E) (L) (zdK (zdL x_values n1) l6 i7 r15 k i24)) rfl (fun _ _ j => ⟨0, j rfl⟩) ?_
 rintro n2 a w ⟨i24, hf, hO, hm⟩
 obtain _ | n2 := n2
 rw [zdK] at hm
 cases hm
 rw [zdK] at hm
 refine S.co tb ?_ hf hO hm
 refine br rfl (fun hc26 => ?_) fun hc26 => ?_
 refine rw_ rfl fun a w hf hO hm => ?_
 obtain ⟨x28, hx28, hm⟩ := ob hm
 obtain ⟨b29, o30, hix28, hSx28, hAx28⟩ := zaw (enc := zg) (sz := 1) (xs := r15.1) 42 Tryz.underlying42 zfZ (by decide) (fun _ => rfl) hO (i := 0) rfl hx28
 refine zS (zk hix28 hf rfl rfl) rfl hf rfl rfl fun a hf => ?_
 refine S.op tb ?_ hf hO hm
 refine vl rfl rfl (fun a w hf hO => ze (o := 0) z7 (hSx28 _ (hO.rowSees (i := 0) rfl)) rfl hf rfl) ?_
 refine cl c_37 rfl (fun r32 w hr32 hO => zvr x28 r32 _ (hG.own hF hO) hr32) fun r32 hr32 => ?_
 refine br rfl (fun hc34 => ?_) fun hc34 => ?_
 refine nl 9 1 ?_
 refine re_ rfl fun a w hf hO hm => ?_
 obtain rfl := Option.some.inj hm
 exact zi Tryz.results15 hf (.tmp rfl (.tmp rfl .nil)) ⟨none, 0, rfl, (hO.sub (.cons_cons _ (.cons _ (.cons _ (.cons _ (.cons _ .slnil))))))⟩
 refine bi rfl fun i37 hi37 => ?_
 exact en rfl fun _ _ j => ⟨_, Nat.lt_succ_self _, i37, j rfl⟩
 refine rw_ rfl fun a w hf hO hm => ?_
 obtain ⟨hg41, hm⟩ := og hm
 refine zfH ziE (enc := zg) (xs := l6) (ys := r15.1) (i := 1) (fun _ => rfl) rfl (hO.rowSees (i := 0) rfl) (by simp [zg, Value.oneCell']) hg41 hf rfl rfl rfl hO fun a p39 c40 w hf hO => ?_
 refine S.op tb ?_ hf hO hm
 refine bi rfl fun i43 hi43 => ?_
 exact ec [1, 2, 3] rfl rfl rfl fun _ _ j => ⟨_, Nat.lt_succ_self _, p39, c40, l6 ++ r15.1, i43, j rfl⟩
 refine re_ rfl fun a w hf hO hm => ?_
 obtain rfl := Option.some.inj hm
 exact zi Tryz.results15 hf (.tmp rfl (.tmp rfl .nil)) ⟨p4, c5, rfl, (hO.sub (.cons_cons _ (.cons _ (.cons _ .slnil))))⟩

theorem zl8 (x_a0 : api_Env) (x_a1 : Int) (x_a2 : api_Head) (R : Bool) (w0 : World) (hG : zaG w0) {x_a0_p0 : Option Addr} {x_a0_c0 : Nat} (hs0 : zy w0 x_a0_p0 (cells zb x_a0.Domains)) (hc0 : x_a0.Domains.length ≤ x_a0_c0) {x_a0_p1 : Option Addr} {x_a0_c1 : Nat} (hs1 : zy w0 x_a0_p1 (cells zb x_a0.Locations)) (hc1 : x_a0.Locations.length ≤ x_a0_c1) {x_a2_p2 : Option Addr} {x_a2_c2 : Nat} (hs2 : zy w0 x_a2_p2 (cells za x_a2.Fields)) (hc2 : x_a2.Fields.length ≤ x_a2_c2) (hm : zfz x_a0 x_a1 x_a2 = some R) :
    Calls Tryz.prog 4 #[.agg #[str x_a0.Client, str x_a0.Host, str x_a0.Scheme, str x_a0.By, .slice x_a0_p0 x_a0.Domains.length x_a0_c0, .slice x_a0_p1 x_a0.Locations.length x_a0_c1], int x_a1, .agg #[int x_a2.Kind, str x_a2.Method, str x_a2.Target, int x_a2.Code, str x_a2.Reason, int x_a2.Minor, .slice x_a2_p2 x_a2.Fields.length x_a2_c2]] w0 (Ret w0 (fun R => .bool R) R) := by
 rw [zfz] at hm
 have hF : zu [] := zf
 have hO : Dk.Own w0 [] w0 [] := Dk.Own.refl w0
 have hO := hO.addShr hs0 (by simp [Res.shared])
 have hO := hO.addShr hs1 (by simp [Res.shared])
 have hO := hO.addShr hs2 (by simp [Res.shared])
 refine S.enter tb Tryz.func4 rfl Tryz.ntmps4 rfl ?_ hO hm
 refine bo rfl fun b1 => ?_
 refine bo rfl fun b2 => ?_
 refine cl c_5 rfl (fun r4 w hr4 hO => zpD r4 _ (hG.own hF hO) hr4) fun r4 hr4 => ?_
 refine br rfl (fun hc6 => ?_) fun hc6 => ?_
 exact rt Tryz.results4 rfl
 refine rc_ rfl fun a w hf hO hm => ?_
 obtain ⟨r9, hr9, hm⟩ := ob hm
 obtain ⟨r14, hr14, hm⟩ := ob hm
 refine zaV (S := Option Addr × Nat × Option Addr × Nat × Option Addr × Nat) (E0 := [(1, int x_a1), (3, ptr b1 0), (5, ptr b2 0)]) (by kernel_rfl) (fun k σ w => match k with | 0 => Dk.Own w0 [] w [.blk b2 [int x_a2.Kind, str x_a2.Method, str x_a2.Target, int x_a2.Code, str x_a2.Reason, int x_a2.Minor, .slice x_a2_p2 x_a2.Fields.length x_a2_c2] 28, .blk b1 [str x_a0.Client, str x_a0.Host, str x_a0.Scheme, str x_a0.By, .slice x_a0_p0 x_a0.Domains.length x_a0_c0, .slice x_a0_p1 x_a0.Locations.length x_a0_c1] 24, .shr x_a2_p2 (cells za x_a2.Fields), .shr x_a0_p1 (cells zb x_a0.Locations), .shr x_a0_p0 (cells zb x_a0.Domains)] | 1 => Dk.Own w0 [] w [.row (.slice (σ.1) r9.Domains.length (σ.2.1)) 98 2 r9.Domains.length (cells zb r9.Domains), .row (.slice (σ.2.2.1) r9.Locations.length (σ.2.2.2.1)) 98 2 r9.Locations.length (cells zb r9.Locations), .blk b2 [int x_a2.Kind, str x_a2.Method, str x_a2.Target, int x_a2.Code, str x_a2.Reason, int x_a2.Minor, .slice x_a2_p2 x_a2.Fields.length x_a2_c2] 28, .blk b1 [str x_a0.Client, str x_a0.Host, str x_a0.Scheme, str x_a0.By, .slice x_a0_p0 x_a0.Domains.length x_a0_c0, .slice x_a0_p1 x_a0.Locations.length x_a0_c1] 24, .shr x_a2_p2 (cells za x_a2.Fields), .shr x_a0_p1 (cells zb x_a0.Locations), .shr x_a0_p0 (cells zb x_a0.Domains)] | 2 => Dk.Own w0 [] w [.row (.slice (σ.2.2.2.2.1) r14.Fields.length (σ.2.2.2.2.2)) 54 2 r14.Fields.length (cells za r14.Fields), .row (.slice (σ.1) r9.Domains.length (σ.2.1)) 98 2 r9.Domains.length (cells zb r9.Domains), .row (.slice (σ.2.2.1) r9.Locations.length (σ.2.2.2.1)) 98 2 r9.Locations.length (cells zb r9.Locations), .blk b2 [int x_a2.Kind, str x_a2.Method, str x_a2.Target, int x_a2.Code, str x_a2.Reason, int x_a2.Minor, .slice x_a2_p2 x_a2.Fields.length x_a2_c2] 28, .blk b1 [str x_a0.Client, str x_a0.Host, str x_a0.Scheme, str x_a0.By, .slice x_a0_p0 x_a0.Domains.length x_a0_c0, .slice x_a0_p1 x_a0.Locations.length x_a0_c1] 24, .shr x_a2_p2 (cells za x_a2.Fields), .shr x_a0_p1 (cells zb x_a0.Locations), .shr x_a0_p0 (cells zb x_a0.Domains)] | 3 => Dk.Own w0 [] w [.row (.slice (σ.2.2.2.2.1) r14.Fields.length (σ.2.2.2.2.2)) 54 2 r14.Fields.length (cells za r14.Fields), .row (.slice (σ.1) r9.Domains.length (σ.2.1)) 98 2 r9.Domains.length (cells zb r9.Domains), .row (.slice (σ.2.2.1) r9.Locations.length (σ.2.2.2.1)) 98 2 r9.Locations.length (cells zb r9.Locations), .blk b2 [int x_a2.Kind, str x_a2.Method, str x_a2.Target, int x_a2.Code, str x_a2.Reason, int x_a2.Minor, .slice x_a2_p2 x_a2.Fields.length x_a2_c2] 28, .blk b1 [str r9.Client, str r9.Host, str r9.Scheme, str r9.By, .slice (σ.1) r9.Domains.length (σ.2.1), .slice (σ.2.2.1) r9.Locations.length (σ.2.2.2.1)] 24, .shr x_a2_p2 (cells za x_a2.Fields), .shr x_a0_p1 (cells zb x_a0.Locations), .shr x_a0_p0 (cells zb x_a0.Domains)] | _ => Dk.Own w0 [] w [.row (.slice (σ.2.2.2.2.1) r14.Fields.length (σ.2.2.2.2.2)) 54 2 r14.Fields.length (cells za r14.Fields), .row (.slice (σ.1) r9.Domains.length (σ.2.1)) 98 2 r9.Domains.length (cells zb r9.Domains), .row (.slice (σ.2.2.1) r9.Locations.length (σ.2.2.2.1)) 98 2 r9.Locations.length (cells zb r9.Locations), .blk b2 [int r14.Kind, str r14.Method, str r14.Target, int r14.Code, str r14.Reason, int r14.Minor, .slice (σ.2.2.2.2.1) r14.Fields.length (σ.2.2.2.2.2)] 28, .blk b1 [str r9.Client, str r9.Host, str r9.Scheme, str r9.By, .slice (σ.1) r9.Domains.length (σ.2.1), .slice (σ.2.2.1) r9.Locations.length (σ.2.2.2.1)] 24, .shr x_a2_p2 (cells za x_a2.Fields), .shr x_a0_p1 (cells zb x_a0.Locations), .shr x_a0_p0 (cells zb x_a0.Domains)]) (fun σ => [⟨[(3, ptr b1 0)], some (23, .agg #[str x_a0.Client, str x_a0.Host, str x_a0.Scheme, str x_a0.By, .slice x_a0_p0 x_a0.Domains.length x_a0_c0, .slice x_a0_p1 x_a0.Locations.length x_a0_c1])⟩, ⟨[(23, .agg #[str x_a0.Client, str x_a0.Host, str x_a0.Scheme, str x_a0.By, .slice x_a0_p0 x_a0.Domains.length x_a0_c0, .slice x_a0_p1 x_a0.Locations.length x_a0_c1])], some (24, .agg #[str r9.Client, str r9.Host, str r9.Scheme, str r9.By, .slice (σ.1) r9.Domains.length (σ.2.1), .slice (σ.2.2.1) r9.Locations.length (σ.2.2.2.1)])⟩, ⟨[(5, ptr b2 0)], some (25, .agg #[int x_a2.Kind, str x_a2.Method, str x_a2.Target, int x_a2.Code, str x_a2.Reason, int x_a2.Minor, .slice x_a2_p2 x_a2.Fields.length x_a2_c2])⟩, ⟨[(25, .agg #[int x_a2.Kind, str x_a2.Method, str x_a2.Target, int x_a2.Code, str x_a2.Reason, int x_a2.Minor, .slice x_a2_p2 x_a2.Fields.length x_a2_c2])], some (26, .agg #[int r14.Kind, str r14.Method, str r14.Target, int r14.Code, str r14.Reason, int r14.Minor, .slice (σ.2.2.2.2.1) r14.Fields.length (σ.2.2.2.2.2)])⟩, ⟨[(3, ptr b1 0), (24, .agg #[str r9.Client, str r9.Host, str r9.Scheme, str r9.By, .slice (σ.1) r9.Domains.length (σ.2.1), .slice (σ.2.2.1) r9.Locations.length (σ.2.2.2.1)])], none⟩, ⟨[(5, ptr b2 0), (26, .agg #[int r14.Kind, str r14.Method, str r14.Target, int r14.Code, str r14.Reason, int r14.Minor, .slice (σ.2.2.2.2.1) r14.Fields.length (σ.2.2.2.2.2)])], none⟩]) (none, 0, none, 0, none, 0) [1, 3, 4, 5] rfl (fun _ => rfl) (fun _ => rfl) (fun _ => rfl) rfl rfl (by decide) rfl hO.drew (hf.cons rfl (hf.cons rfl (hf.cons rfl hf.nil))) (fun σ => ⟨⟨rfl, trivial⟩, ⟨rfl, trivial⟩, ⟨rfl, trivial⟩, ⟨rfl, trivial⟩, ⟨rfl, rfl, trivial⟩, ⟨rfl, rfl, trivial⟩, trivial⟩) ⟨zc rfl (fun σ => rfl) (fun σ => rfl) (fun σ a w k hk hlo hup hst hf => match k, hk, hlo, hup, hst, hf with | 0, _, _, _, hst, hf => have hO : Dk.Own w0 [] w _ := hst; zo (o := 0) (vs := [str x_a0.Client, str x_a0.Host, str x_a0.Scheme, str x_a0.By, .slice x_a0_p0 x_a0.Domains.length x_a0_c0, .slice x_a0_p1 x_a0.Locations.length x_a0_c1]) zkK zjV (hO.blkSees (i := 1) rfl) rfl rfl hf rfl | 1, _, _, _, hst, hf => have hO : Dk.Own w0 [] w _ := hst; zo (o := 0) (vs := [str x_a0.Client, str x_a0.Host, str x_a0.Scheme, str x_a0.By, .slice x_a0_p0 x_a0.Domains.length x_a0_c0, .slice x_a0_p1 x_a0.Locations.length x_a0_c1]) zkK zjV (hO.blkSees (i := 3) rfl) rfl rfl hf rfl | 2, _, _, _, hst, hf => have hO : Dk.Own w0 [] w _ := hst; zo (o := 0) (vs := [str x_a0.Client, str x_a0.Host, str x_a0.Scheme, str x_a0.By, .slice x_a0_p0 x_a0.Domains.length x_a0_c0, .slice x_a0_p1 x_a0.Locations.length x_a0_c1]) zkK zjV (hO.blkSees (i := 4) rfl) rfl rfl hf rfl | 3, _, _, hup, _, _ => absurd (hup 0 (by decide) (by kernel_rfl)) (by decide) | 4, _, _, hup, _, _ => absurd (hup 0 (by decide) (by kernel_rfl)) (by decide) | k + 5, hk, _, _, _, _ => absurd hk (by simp)), zbg rfl (fun σ => rfl) (fun σ => rfl) rfl (fun σ a w (_ : _) hf => zh c_6 hf (vs := [.agg #[str x_a0.Client, str x_a0.Host, str x_a0.Scheme, str x_a0.By, .slice x_a0_p0 x_a0.Domains.length x_a0_c0, .slice x_a0_p1 x_a0.Locations.length x_a0_c1]]) rfl) (fun σ w (hO : Dk.Own w0 [] w _) => (zrI x_a0 r9 _ (hG.own hF hO).1 (hO.sees (i := 4) rfl) hc0 (hO.sees (i := 3) rfl) hc1 hr9).mono fun e w' h => by obtain ⟨p10, c11, p12, c13, he, hO'⟩ := h; exact ⟨(p10, c11, p12, c13, (σ.2.2.2.2.1), (σ.2.2.2.2.2)), he, hO.call hO' (by simp [Res.shared]), .inr rfl, .inl rfl, .inr rfl, .inr rfl, .inl rfl, .inr rfl, trivial⟩), zc rfl (fun σ => rfl) (fun σ => rfl) (fun σ a w k hk hlo hup hst hf => match k, hk, hlo, hup, hst, hf with | 0, _, _, _, hst, hf => have hO : Dk.Own w0 [] w _ := hst; zo (o := 0) (vs := [int x_a2.Kind, str x_a2.Method, str x_a2.Target, int x_a2.Code, str x_a2.Reason, int x_a2.Minor, .slice x_a2_p2 x_a2.Fields.length x_a2_c2]) zfi ze4 (hO.blkSees (i := 0) rfl) rfl rfl hf rfl | 1, _, _, _, hst, hf => have hO : Dk.Own w0 [] w _ := hst; zo (o := 0) (vs := [int x_a2.Kind, str x_a2.Method, str x_a2.Target, int x_a2.Code, str x_a2.Reason, int x_a2.Minor, .slice x_a2_p2 x_a2.Fields.length x_a2_c2]) zfi ze4 (hO.blkSees (i := 2) rfl) rfl rfl hf rfl | 2, _, _, _, hst, hf => have hO : Dk.Own w0 [] w _ := hst; zo (o := 0) (vs := [int x_a2.Kind, str x_a2.Method, str x_a2.Target, int x_a2.Code, str x_a2.Reason, int x_a2.Minor, .slice x_a2_p2 x_a2.Fields.length x_a2_c2]) zfi ze4 (hO.blkSees (i := 3) rfl) rfl rfl hf rfl | 3, _, _, _, hst, hf => have hO : Dk.Own w0 [] w _ := hst; zo (o := 0) (vs := [int x_a2.Kind, str x_a2.Method, str x_a2.Target, int x_a2.Code, str x_a2.Reason, int x_a2.Minor, .slice x_a2_p2 x_a2.Fields.length x_a2_c2]) zfi ze4 (hO.blkSees (i := 3) rfl) rfl rfl hf rfl | 4, _, _, hup, _, _ => absurd (hup 1 (by decide) (by kernel_rfl)) (by decide) | k + 5, hk, _, _, _, _ => absurd hk (by simp)), zbg rfl (fun σ => rfl) (fun σ => rfl) rfl (fun σ a w (_ : _) hf => zh c_7 hf (vs := [.agg #[int x_a2.Kind, str x_a2.Method, str x_a2.Target, int x_a2.Code, str x_a2.Reason, int x_a2.Minor, .slice x_a2_p2 x_a2.Fields.length x_a2_c2]]) rfl) (fun σ w (hO : Dk.Own w0 [] w _) => (zrJ x_a2 r14 _ (hG.own hF hO).1 (hO.sees (i := 4) rfl) hc2 hr14).mono fun e w' h => by obtain ⟨p15, c16, he, hO'⟩ := h; exact ⟨((σ.1), (σ.2.1), (σ.2.2.1), (σ.2.2.2.1), p15, c16), he, hO.call hO' (by simp [Res.shared]), .inr rfl, .inr rfl, .inr rfl, .inl rfl, .inr rfl, .inl rfl, trivial⟩), zce rfl (fun σ => rfl) (fun σ => rfl) rfl (fun σ w (hO : Dk.Own w0 [] w _) => by obtain ⟨w', hO', hr⟩ := zeI (x := (.tmp 3)) (y := (.tmp 24)) (E := [(3, ptr b1 0), (24, .agg #[str r9.Client, str r9.Host, str r9.Scheme, str r9.By, .slice (σ.1) r9.Domains.length (σ.2.1), .slice (σ.2.2.1) r9.Locations.length (σ.2.2.2.1)])]) (i := 4) (n := 6) (vs := [str r9.Client, str r9.Host, str r9.Scheme, str r9.By, .slice (σ.1) r9.Domains.length (σ.2.1), .slice (σ.2.2.1) r9.Locations.length (σ.2.2.2.1)]) zjV rfl rfl rfl (by simp [Value.oneCell']) hO rfl rfl; exact ⟨((σ.1), (σ.2.1), (σ.2.2.1), (σ.2.2.2.1), (σ.2.2.2.2.1), (σ.2.2.2.2.2)), w', hO', ⟨.inr rfl, .inr rfl, .inr rfl, .inr rfl, .inr rfl, .inr rfl, trivial⟩, hr⟩), zce rfl (fun σ => rfl) (fun σ => rfl) rfl (fun σ w (hO : Dk.Own w0 [] w _) => by obtain ⟨w', hO', hr⟩ := zeI (x := (.tmp 5)) (y := (.tmp 26)) (E := [(5, ptr b2 0), (26, .agg #[int r14.Kind, str r14.Method, str r14.Target, int r14.Code, str r14.Reason, int r14.Minor, .slice (σ.2.2.2.2.1) r14.Fields.length (σ.2.2.2.2.2)])]) (i := 3) (n := 7) (vs := [int r14.Kind, str r14.Method, str r14.Target, int r14.Code, str r14.Reason, int r14.Minor, .slice (σ.2.2.2.2.1) r14.Fields.length (σ.2.2.2.2.2)]) ze4 rfl rfl rfl (by simp [Value.oneCell']) hO rfl rfl; exact ⟨((σ.1), (σ.2.1), (σ.2.2.1), (σ.2.2.2.1), (σ.2.2.2.2.1), (σ.2.2.2.2.2)), w', hO', ⟨.inr rfl, .inr rfl, .inr rfl, .inr rfl, .inr rfl, .inr rfl, trivial⟩, hr⟩), trivial⟩ ?_
 rintro ⟨p10, c11, p12, c13, p15, c16⟩ a w hf hO
 have hO : Dk.Own w0 [] w _ := hO
 have hf : Fits 148 [(1, int x_a1), (3, ptr b1 0), (5, ptr b2 0)] a := (hf.cons rfl (hf.cons rfl (hf.cons rfl hf.nil)))
 refine S.no tb ?_ hf hO hm
 refine ld 4 rfl rfl ?_
 refine ld 3 rfl rfl ?_
 refine rw_ rfl fun a w hf hO hm => ?_
 obtain ⟨r18, hr18, hm⟩ := ob hm
 refine zj (zh c_8 hf (vs := [.agg #[str r9.Client, str r9.Host, str r9.Scheme, str r9.By, .slice p10 r9.Domains.length c11, .slice p12 r9.Locations.length c13], int x_a1, .agg #[int r14.Kind, str r14.Method, str r14.Target, int r14.Code, str r14.Reason, int r14.Minor, .slice p15 r14.Fields.length c16]]) rfl) rfl hf rfl rfl (zl9 r9 x_a1 r14 r18 _ (hG.own hF hO) (hO.rowSees (i := 1) rfl) (hO.rowCap (i := 1) rfl) (hO.rowSees (i := 2) rfl) (hO.rowCap (i := 2) rfl) (hO.rowSees (i := 0) rfl) (hO.rowCap (i := 0) rfl) hr18) ?_
 rintro e w' ⟨p19, c20, he, hO'⟩
 refine ⟨_, he, fun a hf => ?_⟩
 have hO := hO.call hO' (by simp [Res.shared])
 refine S.op tb ?_ hf hO hm
 refine al zpe rfl fun b21 => ?_
 refine nl 54 2 ?_
 refine st 1 rfl rfl ?_
 refine br rfl (fun hc24 => ?_) fun hc24 => ?_
 refine ld 1 rfl rfl ?_
 refine vl rfl rfl (fun a w hf hO => zB (vs := []) (v := .agg #[int 0, str [], str [], int 0, str [], int 0, .slice none 0 0]) hf rfl (by kernel_rfl)) ?_
 refine cl c_10 rfl (fun r25 w hr25 hO => zqL r18.1 (⟨0, [], [], 0, [], 0, []⟩ : api_Head) r25 _ (hG.own hF hO).1 (hO.rowSees (i := 2) rfl) (hO.rowCap (i := 2) rfl) (zy.nil _) (Nat.zero_le _) hr25) fun r25 hr25 => ?_
 exact rt Tryz.results4 rfl
 refine ld 6 rfl rfl ?_
 refine rw_ rfl fun a w hf hO hm => ?_
 obtain ⟨r28, hr28, hm⟩ := ob hm
 refine zj (zh ztv hf (vs := [.slice p15 r14.Fields.length c16, str [118, 105, 97]]) rfl) rfl hf rfl rfl (zcM r14.Fields [118, 105, 97] r28 _ (hG.own hF hO).1 (hO.rowSees (i := 3) rfl) (hO.rowCap (i := 3) rfl) hr28) ?_
 rintro e w' ⟨p29, c30, he, hO'⟩
 refine ⟨_, he, fun a hf => ?_⟩
 have hO := hO.call hO' (by simp [Res.shared])
 refine S.op tb ?_ hf hO hm
 refine rw_ rfl fun a w hf hO hm => ?_
 obtain ⟨r31, hr31, hm⟩ := ob hm
 refine zj (zh c_11 hf (vs := [.slice p29 r28.length c30]) rfl) rfl hf rfl rfl (zot r28 r31 _ (hG.own hF hO) (hO.rowSees (i := 0) rfl) (hO.rowCap (i := 0) rfl) hr31) ?_
 rintro e w' ⟨p32, c33, he, hO'⟩
 refine ⟨_, he, fun a hf => ?_⟩
 have hO := hO.call hO' (by simp [Res.shared])
 refine S.op tb ?_ hf hO hm
 refine ld 3 rfl rfl ?_
 refine rw_ rfl fun a w hf hO hm => ?_
 obtain ⟨r35, hr35, hm⟩ := ob hm
 refine zj (zh ztv hf (vs := [.slice p19 r18.1.Fields.length c20, str [118, 105, 97]]) rfl) rfl hf rfl rfl (zcM r18.1.Fields [118, 105, 97] r35 _ (hG.own hF hO).1 (hO.rowSees (i := 4) rfl) (hO.rowCap (i := 4) rfl) hr35) ?_
 rintro e w' ⟨p36, c37, he, hO'⟩
 refine ⟨_, he, fun a hf => ?_⟩
 have hO := hO.call hO' (by simp [Res.shared])
 refine S.op tb ?_ hf hO hm
 refine rw_ rfl fun a w hf hO hm => ?_
 obtain ⟨r38, hr38, hm⟩ := ob hm
 refine zj (zh c_11 hf (vs := [.slice p36 r35.length c37]) rfl) rfl hf rfl rfl (zot r35 r38 _ (hG.own hF hO) (hO.rowSees (i := 0) rfl) (hO.rowCap (i := 0) rfl) hr38) ?_
 rintro e w' ⟨p39, c40, he, hO'⟩
 refine ⟨_, he, fun a hf => ?_⟩
 have hO := hO.call hO' (by simp [Res.shared])
 refine S.op tb ?_ hf hO hm
 refine jv 1 [5, 7] [0, 1, 2, 3, 4, 5, 6, 7, 8, 9, 10, 11, 12, 13, 14] (fun J E L => ∃ (t54 : Bool), J ((86, .bool t54) :: E) (L) (zG r14 r18 t54)) rfl ?_ ?_
 refine rc_ rfl fun a w hf hO hm => ?_
 refine zd1 (by kernel_rfl) (by kernel_rfl) hO ?_
 refine zn (fun w hO => zl hf rfl) rfl hf rfl rfl fun a hf => ?_
 refine zn (fun w hO => zvk (m := r31.2) (n := 0) hf rfl rfl) rfl hf rfl rfl fun a hf => ?_
 refine zn (fun w hO => zl hf rfl) rfl hf rfl rfl fun a hf => ?_
 rcases zga (r31.2 == 0) with hc42 | hc42
 have hm := it hc42 hm
 refine zU rfl hf rfl rfl (hc42) ?_
 refine zn (fun w hO => zl hf rfl) rfl hf rfl rfl fun a hf => ?_
 refine zU rfl hf rfl rfl (hc42) ?_
 refine zn (fun w hO => zqG (m := r38.2) (n := 0) hf rfl rfl) rfl hf rfl rfl fun a hf => ?_
 refine zU rfl hf rfl rfl (hc42) ?_
 refine zn (fun w hO => zl hf rfl) rfl hf rfl rfl fun a hf => ?_
 rcases zga (!(r38.2 == 0)) with hc43 | hc43
 have hm := it hc43 hm
 refine zK rfl hf rfl rfl (hc43) rfl rfl fun a hf => ?_
 refine zK rfl hf rfl rfl (hc43) rfl rfl fun a hf => ?_
 refine zK rfl hf rfl rfl (hc43) rfl rfl fun a hf => ?_
 refine zK rfl hf rfl rfl (hc43) rfl rfl fun a hf => ?_
 refine zK rfl hf rfl rfl (hc43) rfl rfl fun a hf => ?_
 refine zK rfl hf rfl rfl (hc43) rfl rfl fun a hf => ?_
 refine zU rfl hf rfl rfl (hc42) ?_
 refine zn (fun w hO => zbb hf rfl hc43 rfl) rfl hf rfl rfl fun a hf => ?_
 refine zU rfl hf rfl rfl (hc42) ?_
 refine zn (fun w hO => zl hf rfl) rfl hf rfl rfl fun a hf => ?_
 refine zK rfl hf rfl rfl (rfl) rfl rfl fun a hf => ?_
 refine zK rfl hf rfl rfl (rfl) rfl rfl fun a hf => ?_
 refine zK rfl hf rfl rfl (rfl) rfl rfl fun a hf => ?_
 refine zK rfl hf rfl rfl (rfl) rfl rfl fun a hf => ?_
 refine zK rfl hf rfl rfl (rfl) rfl rfl fun a hf => ?_
 refine zK rfl hf rfl rfl (rfl) rfl rfl fun a hf => ?_
 refine zK rfl hf rfl rfl (rfl) rfl rfl fun a hf => ?_
 refine zU rfl hf rfl rfl (hc42) ?_
 refine zn (fun w hO => zbb hf rfl rfl rfl) rfl hf rfl rfl fun a hf => ?_
 refine zU rfl hf rfl rfl (hc42) ?_
 refine zn (fun w hO => zl hf rfl) rfl hf rfl rfl fun a hf => ?_
 refine zK rfl hf rfl rfl (rfl) rfl rfl fun a hf => ?_
 refine zK rfl hf rfl rfl (rfl) rfl rfl fun a hf => ?_
 refine zK rfl hf rfl rfl (rfl) rfl rfl fun a hf => ?_
 refine zK rfl hf rfl rfl (rfl) rfl rfl fun a hf => ?_
 refine zK rfl hf rfl rfl (rfl) rfl rfl fun a hf => ?_
 refine zK rfl hf rfl rfl (rfl) rfl rfl fun a hf => ?_
 refine zK rfl hf rfl rfl (rfl) rfl rfl fun a hf => ?_
 refine zK rfl hf rfl rfl (rfl) rfl rfl fun a hf => ?_
 refine zK rfl hf rfl rfl (rfl) rfl rfl fun a hf => ?_
 refine zU rfl hf rfl rfl (hc42) ?_
 refine zn (fun w hO => zbb hf rfl rfl rfl) rfl hf rfl rfl fun a hf => ?_
 refine zn (fun w hO => zbb hf rfl hc42 rfl) rfl hf rfl rfl fun a hf => ?_
 refine wpQuiet_nil ?_
 intro w hO
 refine S.no tb ?_ hf hO hm
 exact en rfl fun _ _ j => ⟨true, j rfl⟩
 have hm := ie hc43 hm
 refine zU rfl hf rfl rfl (hc43) ?_
 refine zn (fun w hO => zl hf rfl) rfl hf rfl rfl fun a hf => ?_
 refine zU rfl hf rfl rfl (hc43) ?_
 refine zn (fun w hO => zj9 Tryz.underlying39 hf rfl) rfl hf rfl rfl fun a hf => ?_
 refine zU rfl hf rfl rfl (hc43) ?_
 refine zn (fun w hO => zl hf rfl) rfl hf rfl rfl fun a hf => ?_
 refine zU rfl hf rfl rfl (hc43) ?_
 refine zn (fun w hO => zj9 Tryz.underlying39 hf rfl) rfl hf rfl rfl fun a hf => ?_
 refine zU rfl hf rfl rfl (hc43) ?_
 obtain ⟨i44, hi44, hm⟩ := ob hm
 refine zn (fun w hO => zsV hf rfl rfl hi44) rfl hf rfl rfl fun a hf => ?_
 refine zU rfl hf rfl rfl (hc43) ?_
 refine zn (fun w hO => zqG (m := (r38.1.length : Int)) (n := i44) hf rfl rfl) rfl hf rfl rfl fun a hf => ?_
 refine zU rfl hf rfl rfl (hc42) ?_
 refine zn (fun w hO => zec hf rfl hc43 rfl) rfl hf rfl rfl fun a hf => ?_
 refine zU rfl hf rfl rfl (hc42) ?_
 refine zn (fun w hO => zl hf rfl) rfl hf rfl rfl fun a hf => ?_
 rcases zga (!((r38.1.length : Int) == i44)) with hc45 | hc45
 have hm := it hc45 hm
 refine zK rfl hf rfl rfl (hc45) rfl rfl fun a hf => ?_
 refine zK rfl hf rfl rfl (hc45) rfl rfl fun a hf => ?_
 refine zK rfl hf rfl rfl (hc45) rfl rfl fun a hf => ?_
 refine zK rfl hf rfl rfl (hc45) rfl rfl fun a hf => ?_
 refine zK rfl hf rfl rfl (hc45) rfl rfl fun a hf => ?_
 refine zK rfl hf rfl rfl (hc45) rfl rfl fun a hf => ?_
 refine zK rfl hf rfl rfl (hc45) rfl rfl fun a hf => ?_
 refine zU rfl hf rfl rfl (hc42) ?_
 refine zn (fun w hO => zbb hf rfl hc45 rfl) rfl hf rfl rfl fun a hf => ?_
 refine zU rfl hf rfl rfl (hc42) ?_
 refine zn (fun w hO => zl hf rfl) rfl hf rfl rfl fun a hf => ?_
 refine zK rfl hf rfl rfl (rfl) rfl rfl fun a hf => ?_
 refine zK rfl hf rfl rfl (rfl) rfl rfl fun a hf => ?_
 refine zK rfl hf rfl rfl (rfl) rfl rfl fun a hf => ?_
 refine zK rfl hf rfl rfl (rfl) rfl rfl fun a hf => ?_
 refine zK rfl hf rfl rfl (rfl) rfl rfl fun a hf => ?_
 refine zK rfl hf rfl rfl (rfl) rfl rfl fun a hf => ?_
 refine zK rfl hf rfl rfl (rfl) rfl rfl fun a hf => ?_
 refine zK rfl hf rfl rfl (rfl) rfl rfl fun a hf => ?_
 refine zK rfl hf rfl rfl (rfl) rfl rfl fun a hf => ?_
 refine zU rfl hf rfl rfl (hc42) ?_
 refine zn (fun w hO => zbb hf rfl rfl rfl) rfl hf rfl rfl fun a hf => ?_
 refine zn (fun w hO => zbb hf rfl hc42 rfl) rfl hf rfl rfl fun a hf => ?_
 refine wpQuiet_nil ?_
 intro w hO
 refine S.no tb ?_ hf hO hm
 exact en rfl fun _ _ j => ⟨true, j rfl⟩
 have hm := ie hc45 hm
 refine zU rfl hf rfl rfl (hc45) ?_
 refine zn (fun w hO => zl hf rfl) rfl hf rfl rfl fun a hf => ?_
 refine zU rfl hf rfl rfl (hc45) ?_
 refine zn (fun w hO => zl hf rfl) rfl hf rfl rfl fun a hf => ?_
 refine zU rfl hf rfl rfl (hc45) ?_
 refine zn (fun w hO => zj9 Tryz.underlying39 hf rfl) rfl hf rfl rfl fun a hf => ?_
 refine zU rfl hf rfl rfl (hc45) ?_
 obtain ⟨l46, hl46, hm⟩ := ob hm
 obtain ⟨p47, c48, hrl46, hVl46, hCl46, _⟩ := ztS (enc := zcb) (xs := r38.1) 39 Tryz.underlying39 zmF (fun _ => rfl) (hO.rowSees (i := 0) rfl) (hO.rowCap (i := 0) rfl) hl46
 refine zn (fun w hO => zlI Tryz.underlying39 hrl46 hf rfl rfl) rfl hf rfl rfl fun a hf => ?_
 refine zU rfl hf rfl rfl (hc45) ?_
 refine zn (fun w hO => zl hf rfl) rfl hf rfl rfl fun a hf => ?_
 refine zU rfl hf rfl rfl (hc45) ?_
 obtain ⟨r49, hr49, hm⟩ := ob hm
 refine ztn (fun w hO => zh c_13 hf (vs := [.slice p47 l46.length c48, .slice p32 r31.1.length c33]) rfl) rfl hf rfl rfl (fun w hO => (zqM l46 r31.1 r49 _ (hG.own hF hO).1 (hVl46 _ (hO.rowSees (i := 0) rfl)) hCl46 (hO.rowSees (i := 2) rfl) (hO.rowCap (i := 2) rfl) hr49).mono fun e w' ⟨he, hb⟩ => ⟨he, hO.grow hb⟩) fun a hf => ?_
 refine zU rfl hf rfl rfl (hc45) ?_
 refine zn (fun w hO => zvj hf rfl) rfl hf rfl rfl fun a hf => ?_
 refine zU rfl hf rfl rfl (hc42) ?_
 refine zn (fun w hO => zec hf rfl hc45 rfl) rfl hf rfl rfl fun a hf => ?_
 refine zU rfl hf rfl rfl (hc42) ?_
 refine zn (fun w hO => zl hf rfl) rfl hf rfl rfl fun a hf => ?_
 rcases zga (!r49) with hc50 | hc50
 have hm := it hc50 hm
 refine zK rfl hf rfl rfl (hc50) rfl rfl fun a hf => ?_
 refine zK rfl hf rfl rfl (hc50) rfl rfl fun a hf => ?_
 refine zK rfl hf rfl rfl (hc50) rfl rfl fun a hf => ?_
 refine zK rfl hf rfl rfl (hc50) rfl rfl fun a hf => ?_
 refine zK rfl hf rfl rfl (hc50) rfl rfl fun a hf => ?_
 refine zK rfl hf rfl rfl (hc50) rfl rfl fun a hf => ?_
 refine zK rfl hf rfl rfl (hc50) rfl rfl fun a hf => ?_
 refine zK rfl hf rfl rfl (hc50) rfl rfl fun a hf => ?_
 refine zK rfl hf rfl rfl (hc50) rfl rfl fun a hf => ?_
 refine zU rfl hf rfl rfl (hc42) ?_
 refine zn (fun w hO => zbb hf rfl hc50 rfl) rfl hf rfl rfl fun a hf => ?_
 refine zn (fun w hO => zbb hf rfl hc42 rfl) rfl hf rfl rfl fun a hf => ?_
 refine wpQuiet_nil ?_
 intro w hO
 refine S.no tb ?_ hf hO hm
 exact en rfl fun _ _ j => ⟨true, j rfl⟩
 have hm := ie hc50 hm
 refine zU rfl hf rfl rfl (hc50) ?_
 refine zn (fun w hO => zl hf rfl) rfl hf rfl rfl fun a hf => ?_
 refine zU rfl hf rfl rfl (hc50) ?_
 refine zn (fun w hO => zl hf rfl) rfl hf rfl rfl fun a hf => ?_
 refine zU rfl hf rfl rfl (hc50) ?_
 refine zn (fun w hO => zj9 Tryz.underlying39 hf rfl) rfl hf rfl rfl fun a hf => ?_
 refine zU rfl hf rfl rfl (hc50) ?_
 obtain ⟨x51, hx51, hm⟩ := ob hm
 obtain ⟨b52, o53, hix51, hSx51⟩ := zaK (enc := zcb) (sz := 4) (xs := r38.1) 39 Tryz.underlying39 zmF (by decide) (fun _ => rfl) (hO.rowSees (i := 0) rfl) hx51
 refine zn (fun w hO => zk hix51 hf rfl rfl) rfl hf rfl rfl fun a hf => ?_
 refine zU rfl hf rfl rfl (hc50) ?_
 refine zn (fun w hO => zw zt0 hf rfl) rfl hf rfl rfl fun a hf => ?_
 refine zU rfl hf rfl rfl (hc50) ?_
 refine zn (fun w hO => ze (o := 2) z7 (hSx51 _ (hO.rowSees (i := 0) rfl)) rfl hf rfl) rfl hf rfl rfl fun a hf => ?_
 refine zU rfl hf rfl rfl (hc50) ?_
 refine zn (fun w hO => zw zrf hf rfl) rfl hf rfl rfl fun a hf => ?_
 refine zU rfl hf rfl rfl (hc50) ?_
 refine zn (fun w hO => ze (o := 3) z7 (hO.blkSees (i := 11) rfl) rfl hf rfl) rfl hf rfl rfl fun a hf => ?_
 refine zU rfl hf rfl rfl (hc50) ?_
 refine zn (fun w hO => zrB (l := x51.By) (m := r9.By) hf rfl rfl) rfl hf rfl rfl fun a hf => ?_
 refine zU rfl hf rfl rfl (hc42) ?_
 refine zn (fun w hO => zec hf rfl hc50 rfl) rfl hf rfl rfl fun a hf => ?_
 refine zn (fun w hO => zbb hf rfl hc42 rfl) rfl hf rfl rfl fun a hf => ?_
 refine wpQuiet_nil ?_
 intro w hO
 refine S.no tb ?_ hf hO hm
 exact en rfl fun _ _ j => ⟨!(x51.By == r9.By), j rfl⟩
 have hm := ie hc42 hm
 refine zK rfl hf rfl rfl (hc42) rfl rfl fun a hf => ?_
 refine zK rfl hf rfl rfl (hc42) rfl rfl fun a hf => ?_
 refine zK rfl hf rfl rfl (hc42) rfl rfl fun a hf => ?_
 refine zbM rfl hf rfl rfl rfl rfl fun a hf => ?_
 refine zbM rfl hf rfl rfl rfl rfl fun a hf => ?_
 refine zbM rfl hf rfl rfl rfl rfl fun a hf => ?_
 refine zbM rfl hf rfl rfl rfl rfl fun a hf => ?_
 refine zbM rfl hf rfl rfl rfl rfl fun a hf => ?_
 refine zbM rfl hf rfl rfl rfl rfl fun a hf => ?_
 refine zK rfl hf rfl rfl (hc42) rfl rfl fun a hf => ?_
 refine zK rfl hf rfl rfl (hc42) rfl rfl fun a hf => ?_
 refine zbM rfl hf rfl rfl rfl rfl fun a hf => ?_
 refine zbM rfl hf rfl rfl rfl rfl fun a hf => ?_
 refine zbM rfl hf rfl rfl rfl rfl fun a hf => ?_
 refine zbM rfl hf rfl rfl rfl rfl fun a hf => ?_
 refine zbM rfl hf rfl rfl rfl rfl fun a hf => ?_
 refine zbM rfl hf rfl rfl rfl rfl fun a hf => ?_
 refine zbM rfl hf rfl rfl rfl rfl fun a hf => ?_
 refine zK rfl hf rfl rfl (hc42) rfl rfl fun a hf => ?_
 refine zK rfl hf rfl rfl (hc42) rfl rfl fun a hf => ?_
 refine zbM rfl hf rfl rfl rfl rfl fun a hf => ?_
 refine zbM rfl hf rfl rfl rfl rfl fun a hf => ?_
 refine zbM rfl hf rfl rfl rfl rfl fun a hf => ?_
 refine zbM rfl hf rfl rfl rfl rfl fun a hf => ?_
 refine zbM rfl hf rfl rfl rfl rfl fun a hf => ?_
 refine zbM rfl hf rfl rfl rfl rfl fun a hf => ?_
 refine zbM rfl hf rfl rfl rfl rfl fun a hf => ?_
 refine zbM rfl hf rfl rfl rfl rfl fun a hf => ?_
 refine zbM rfl hf rfl rfl rfl rfl fun a hf => ?_
 refine zK rfl hf rfl rfl (hc42) rfl rfl fun a hf => ?_
 refine zn (fun w hO => zec hf rfl hc42 rfl) rfl hf rfl rfl fun a hf => ?_
 refine wpQuiet_nil ?_
 intro w hO
 refine S.no tb ?_ hf hO hm
 exact en rfl fun _ _ j => ⟨false, j rfl⟩
 rintro a w ⟨t54, hf, hO, hm⟩
 rw [zG] at hm
 refine S.co tb ?_ hf hO hm
 refine br rfl (fun hc55 => ?_) fun hc55 => ?_
 exact rt Tryz.results4 rfl
 refine ld 10 rfl rfl ?_
 refine br rfl (fun hc59 => ?_) fun hc59 => ?_
 exact rt Tryz.results4 rfl
 refine ld 10 rfl rfl ?_
 refine rw_ rfl fun a w hf hO hm => ?_
 obtain ⟨r62, hr62, hm⟩ := ob hm
 refine zj (zh ztv hf (vs := [.slice p15 r14.Fields.length c16, str [102, 111, 114, 119, 97, 114, 100, 101, 100]]) rfl) rfl hf rfl rfl (zcM r14.Fields [102, 111, 114, 119, 97, 114, 100, 101, 100] r62 _ (hG.own hF hO).1 (hO.rowSees (i := 7) rfl) (hO.rowCap (i := 7) rfl) hr62) ?_
 rintro e w' ⟨p63, c64, he, hO'⟩
 refine ⟨_, he, fun a hf => ?_⟩
 have hO := hO.call hO' (by simp [Res.shared])
 refine S.op tb ?_ hf hO hm
 refine rw_ rfl fun a w hf hO hm => ?_
 obtain ⟨r65, hr65, hm⟩ := ob hm
 refine zj (zh c_14 hf (vs := [.slice p63 r62.length c64]) rfl) rfl hf rfl rfl (zi0 r62 r65 _ (hG.own hF hO).1 (hO.rowSees (i := 0) rfl) (hO.rowCap (i := 0) rfl) hr65) ?_
 rintro e w' ⟨p66, c67, g68, he, hO'⟩
 refine ⟨_, he, fun a hf => ?_⟩
 have hO := hO.call hO' (by simp [Res.shared])
 refine S.op tb ?_ hf hO hm
 refine ld 7 rfl rfl ?_
 refine rw_ rfl fun a w hf hO hm => ?_
 obtain ⟨r70, hr70, hm⟩ := ob hm
 refine zj (zh ztv hf (vs := [.slice p19 r18.1.Fields.length c20, str [102, 111, 114, 119, 97, 114, 100, 101, 100]]) rfl) rfl hf rfl rfl (zcM r18.1.Fields [102, 111, 114, 119, 97, 114, 100, 101, 100] r70 _ (hG.own hF hO).1 (hO.rowSees (i := 8) rfl) (hO.rowCap (i := 8) rfl) hr70) ?_
 rintro e w' ⟨p71, c72, he, hO'⟩
 refine ⟨_, he, fun a hf => ?_⟩
 have hO := hO.call hO' (by simp [Res.shared])
 refine S.op tb ?_ hf hO hm
 refine rw_ rfl fun a w hf hO hm => ?_
 obtain ⟨r73, hr73, hm⟩ := ob hm
 refine zj (zh c_14 hf (vs := [.slice p71 r70.length c72]) rfl) rfl hf rfl rfl (zi0 r70 r73 _ (hG.own hF hO).1 (hO.rowSees (i := 0) rfl) (hO.rowCap (i := 0) rfl) hr73) ?_
 rintro e w' ⟨p74, c75, g76, he, hO'⟩
 refine ⟨_, he, fun a hf => ?_⟩
 have hO := hO.call hO' (by simp [Res.shared])
 refine S.op tb ?_ hf hO hm
 refine ld 14 rfl rfl ?_
 refine rw_ rfl fun a w hf hO hm => ?_
 obtain ⟨r78, hr78, hm⟩ := ob hm
 refine zj (zh ztv hf (vs := [.slice p15 r14.Fields.length c16, str [120, 45, 102, 111, 114, 119, 97, 114, 100, 101, 100, 45, 102, 111, 114]]) rfl) rfl hf rfl rfl (zcM r14.Fields [120, 45, 102, 111, 114, 119, 97, 114, 100, 101, 100, 45, 102, 111, 114] r78 _ (hG.own hF hO).1 (hO.rowSees (i := 11) rfl) (hO.rowCap (i := 11) rfl) hr78) ?_
 rintro e w' ⟨p79, c80, he, hO'⟩
 refine ⟨_, he, fun a hf => ?_⟩
 have hO := hO.call hO' (by simp [Res.shared])
 refine S.op tb ?_ hf hO hm
 refine rw_ rfl fun a w hf hO hm => ?_
 obtain ⟨r81, hr81, hm⟩ := ob hm
 refine zj (zh c_15 hf (vs := [.slice p79 r78.length c80]) rfl) rfl hf rfl rfl (zov r78 r81 _ (hG.own hF hO) (hO.rowSees (i := 0) rfl) (hO.rowCap (i := 0) rfl) hr81) ?_
 rintro e w' ⟨p82, c83, he, hO'⟩
 refine ⟨_, he, fun a hf => ?_⟩
 have hO := hO.call hO' (by simp [Res.shared])
 refine S.op tb ?_ hf hO hm
 refine ld 11 rfl rfl ?_
 refine rw_ rfl fun a w hf hO hm => ?_
 obtain ⟨r85, hr85, hm⟩ := ob hm
 refine zj (zh ztv hf (vs := [.slice p19 r18.1.Fields.length c20, str [120, 45, 102, 111, 114, 119, 97, 114, 100, 101, 100, 45, 102, 111, 114]]) rfl) rfl hf rfl rfl (zcM r18.1.Fields [120, 45, 102, 111, 114, 119, 97, 114, 100, 101, 100, 45, 102, 111, 114] r85 _ (hG.own hF hO).1 (hO.rowSees (i := 12) rfl) (hO.rowCap (i := 12) rfl) hr85) ?_
 rintro e w' ⟨p86, c87, he, hO'⟩
 refine ⟨_, he, fun a hf => ?_⟩
 have hO := hO.call hO' (by simp [Res.shared])
 refine S.op tb ?_ hf hO hm
 refine rw_ rfl fun a w hf hO hm => ?_
 obtain ⟨r88, hr88, hm⟩ := ob hm
 refine zj (zh c_15 hf (vs := [.slice p86 r85.length c87]) rfl) rfl hf rfl rfl (zov r85 r88 _ (hG.own hF hO) (hO.rowSees (i := 0) rfl) (hO.rowCap (i := 0) rfl) hr88) ?_
 rintro e w' ⟨p89, c90, he, hO'⟩
 refine ⟨_, he, fun a hf => ?_⟩
 have hO := hO.call hO' (by simp [Res.shared])
 refine S.op tb ?_ hf hO hm
 refine jv 0 [] [0, 1, 2, 3, 4, 5, 6, 7, 8, 9, 10, 11, 12, 13, 14, 15, 16, 17, 18, 19, 20, 21, 22] (fun J E L => ∃ (t102 : Bool), J ((6, .bool t102) :: E) (L) (zO t102)) rfl ?_ ?_
 refine br rfl (fun hc92 => ?_) fun hc92 => ?_
 refine br rfl (fun hc93 => ?_) fun hc93 => ?_
 exact en rfl fun _ _ j => ⟨true, j rfl⟩
 refine br rfl (fun hc94 => ?_) fun hc94 => ?_
 refine bi rfl fun i95 hi95 => ?_
 exact en rfl fun _ _ j => ⟨(r88.1.length : Int) == i95, j rfl⟩
 exact en rfl fun _ _ j => ⟨false, j rfl⟩
 refine br rfl (fun hc96 => ?_) fun hc96 => ?_
 refine bi rfl fun i97 hi97 => ?_
 refine br rfl (fun hc98 => ?_) fun hc98 => ?_
 refine br rfl (fun hc99 => ?_) fun hc99 => ?_
 exact en rfl fun _ _ j => ⟨true, j rfl⟩
 refine br rfl (fun hc100 => ?_) fun hc100 => ?_
 refine bi rfl fun i101 hi101 => ?_
 exact en rfl fun _ _ j => ⟨(r88.1.length : Int) == i101, j rfl⟩
 exact en rfl fun _ _ j => ⟨false, j rfl⟩
 exact en rfl fun _ _ j => ⟨false, j rfl⟩
 exact en rfl fun _ _ j => ⟨false, j rfl⟩
 rintro a w ⟨t102, hf, hO, hm⟩
 rw [zO] at hm
 refine S.co tb ?_ hf hO hm
 exact rt Tryz.results4 rfl

end Go.Proofs
