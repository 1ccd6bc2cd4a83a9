/-
  Walks, written by a program (wip/gen): what its model says, the function returns; what was there before is as it was.
-/
import Derived.Test.YtbebpdfhbpedjaaGreatDoorLib
import Derived.Test.YtbebpdfhbpedjaaGreatDoorW10
set_option linter.unusedVariables false
set_option maxHeartbeats 1000000
set_option linter.unusedSimpArgs false
set_option maxRecDepth 100000
namespace Go.Proofs
open Go.Dk Go.Dm Go.RowKit

theorem zfx (x_s : Str) (R : Str) (w0 : World) (hG : zr w0) (hm : zde x_s = some R) :
    Calls Tryz.prog 84 #[str x_s] w0 (Ret w0 (fun R => str R) R) := by
 rw [zde] at hm
 have hF : zC [] := ze
 have hO : Dk.Own w0 [] w0 [] := Dk.Own.refl w0
 refine S.enter tb Tryz.func84 rfl Tryz.ntmps84 rfl ?_ hO hm
 refine lv [] [] (fun J E L k => ∃ (s2 : Str), J ((0, str s2) :: E) (L) (zao k s2)) rfl (fun _ _ j => ⟨x_s, j rfl⟩) ?_
 rintro n1 a w ⟨s2, hf, hO, hm⟩
 obtain _ | n1 := n1
 rw [zao] at hm
 cases hm
 rw [zao] at hm
 refine S.co tb ?_ hf hO hm
 refine jv 4 [0] [] (fun J E L => ∃ (t6 : Bool), J ((10, .bool t6) :: E) (L) (zbZ (zao n1) s2 t6)) rfl ?_ ?_
 refine br rfl (fun hc3 => ?_) fun hc3 => ?_
 refine bi rfl fun b4 hb4 => ?_
 refine cl c_64 rfl (fun r5 w hr5 hO => zdv b4 r5 _ (hG.own hF hO) hr5) fun r5 hr5 => ?_
 exact en rfl fun _ _ j => ⟨r5, j rfl⟩
 exact en rfl fun _ _ j => ⟨false, j rfl⟩
 rintro a w ⟨t6, hf, hO, hm⟩
 rw [zbZ] at hm
 refine S.co tb ?_ hf hO hm
 refine br rfl (fun hc7 => ?_) fun hc7 => ?_
 refine bi rfl fun s9 hs9 => ?_
 exact en rfl fun _ _ j => ⟨_, Nat.lt_succ_self _, s9, j rfl⟩
 exact rt Tryz.results84 rfl

theorem zhs (x_a0 : Str) (R : List api_Param × Int) (w0 : World) (hG : zr w0) (hm : zcM x_a0 = some R) :
    Calls Tryz.prog 49 #[str x_a0] w0 fun e w' => ∃ (p0 : Option Addr) (c0 : Nat), e = .returned (.tuple #[.slice p0 R.1.length c0, int R.2]) ∧ Dk.Own w0 [] w' [.row (.slice p0 R.1.length c0) 57 2 R.1.length (cells zc R.1)] := by
 rw [zcM] at hm
 have hF : zC [] := ze
 have hO : Dk.Own w0 [] w0 [] := Dk.Own.refl w0
 refine S.enter tb Tryz.func49 rfl Tryz.ntmps49 rfl ?_ hO hm
 refine nl 57 2 ?_
 refine nl 57 2 ?_
 refine lv [] [1] (fun J E L k => ∃ (s3 : Str) (p4 : Option Addr) (c5 : Nat) (l6 : List api_Param), J ((0, str s3) :: (4, .slice p4 l6.length c5) :: E) (.row (.slice p4 l6.length c5) 57 2 l6.length (cells zc l6) :: L) (zx k s3 l6)) rfl (fun _ _ j => ⟨x_a0, none, 0, [], j rfl⟩) ?_
 rintro n1 a w ⟨s3, p4, c5, l6, hf, hO, hm⟩
 obtain _ | n1 := n1
 rw [zx] at hm
 cases hm
 rw [zx] at hm
 refine S.co tb ?_ hf hO hm
 refine lv [0, 4] [0, 1] (fun J E L k => ∃ (i8 : Int), J ((5, int i8) :: E) (L) (z8 (zx n1) s3 l6 k i8)) rfl (fun _ _ j => ⟨0, j rfl⟩) ?_
 rintro n2 a w ⟨i8, hf, hO, hm⟩
 obtain _ | n2 := n2
 rw [z8] at hm
 cases hm
 rw [z8] at hm
 refine S.co tb ?_ hf hO hm
 refine jv 7 [0, 4, 5] [0, 1] (fun J E L => ∃ (t12 : Bool), J ((17, .bool t12) :: E) (L) (zbH (zx n1) (z8 (zx n1) s3 l6 n2) s3 l6 i8 t12)) rfl ?_ ?_
 refine br rfl (fun hc9 => ?_) fun hc9 => ?_
 refine bi rfl fun b10 hb10 => ?_
 refine cl c_74 rfl (fun r11 w hr11 hO => zgf b10 r11 _ (hG.own hF hO) hr11) fun r11 hr11 => ?_
 exact en rfl fun _ _ j => ⟨r11, j rfl⟩
 exact en rfl fun _ _ j => ⟨false, j rfl⟩
 rintro a w ⟨t12, hf, hO, hm⟩
 rw [zbH] at hm
 refine S.co tb ?_ hf hO hm
 refine br rfl (fun hc13 => ?_) fun hc13 => ?_
 refine bi rfl fun i15 hi15 => ?_
 exact en rfl fun _ _ j => ⟨_, Nat.lt_succ_self _, i15, j rfl⟩
 refine jv 4 [0, 4, 5] [0, 1] (fun J E L => ∃ (t20 : Bool), J ((33, .bool t20) :: E) (L) (zaM (zx n1) s3 l6 i8 t20)) rfl ?_ ?_
 refine br rfl (fun hc17 => ?_) fun hc17 => ?_
 exact en rfl fun _ _ j => ⟨true, j rfl⟩
 refine br rfl (fun hc18 => ?_) fun hc18 => ?_
 exact en rfl fun _ _ j => ⟨true, j rfl⟩
 refine bi rfl fun b19 hb19 => ?_
 refine vl rfl rfl (fun a w hf hO => zeq (b := b19) (c := 61) hf rfl rfl) ?_
 exact en rfl fun _ _ j => ⟨!(b19 == 61), j rfl⟩
 rintro a w ⟨t20, hf, hO, hm⟩
 rw [zaM] at hm
 refine S.co tb ?_ hf hO hm
 refine br rfl (fun hc21 => ?_) fun hc21 => ?_
 refine nl 57 2 ?_
 refine re_ rfl fun a w hf hO hm => ?_
 obtain rfl := Option.some.inj hm
 exact zh Tryz.results49 hf (.tmp rfl (.tmp rfl .nil)) ⟨none, 0, rfl, (hO.sub (.cons_cons _ (.cons _ (.cons _ .slnil))))⟩
 refine bi rfl fun i24 hi24 => ?_
 refine bi rfl fun s25 hs25 => ?_
 refine cl c_83 rfl (fun r26 w hr26 hO => zhV s25 r26 _ (hG.own hF hO) hr26) fun r26 hr26 => ?_
 refine br rfl (fun hc29 => ?_) fun hc29 => ?_
 refine nl 57 2 ?_
 refine re_ rfl fun a w hf hO hm => ?_
 obtain rfl := Option.some.inj hm
 exact zh Tryz.results49 hf (.tmp rfl (.tmp rfl .nil)) ⟨none, 0, rfl, (hO.sub (.cons_cons _ (.cons _ (.cons _ .slnil))))⟩
 refine bi rfl fun s32 hs32 => ?_
 refine vl rfl rfl (fun a w hf hO => zaT (vs := [(0, str s32), (1, str r26.1)]) (v := .agg #[str s32, str r26.1]) hf rfl (by kernel_rfl)) ?_
 refine rw_ rfl fun a w hf hO hm => ?_
 refine zi (vs := [(0, .agg #[str s32, str r26.1])]) (cs := [str s32, str r26.1]) (e := 57) (sz := 2) hf rfl rfl (fun w => by kernel_rfl) rfl rfl hO fun a b33 w hf hO => ?_
 refine S.op tb ?_ hf hO hm
 refine rw_ rfl fun a w hf hO hm => ?_
 obtain ⟨hg36, hm⟩ := og hm
 refine zak zjd (enc := zc) (xs := l6) (ys := [(⟨s32, r26.1⟩ : api_Param)]) (i := 1) (fun _ => rfl) rfl (hO.rowSees (i := 0) rfl) (by simp [cells, zc, Value.oneCell']) hg36 hf rfl rfl rfl hO fun a p34 c35 w hf hO => ?_
 refine S.op tb ?_ hf hO hm
 refine bi rfl fun i38 hi38 => ?_
 refine bi rfl fun i39 hi39 => ?_
 refine bi rfl fun s40 hs40 => ?_
 refine br rfl (fun hc43 => ?_) fun hc43 => ?_
 refine re_ rfl fun a w hf hO hm => ?_
 obtain rfl := Option.some.inj hm
 exact zh Tryz.results49 hf (.tmp rfl (.tmp rfl .nil)) ⟨p34, c35, rfl, (hO.sub (.cons _ (.cons_cons _ (.cons _ .slnil))))⟩
 refine cl c_84 rfl (fun r46 w hr46 hO => zfx s40 r46 _ (hG.own hF hO) hr46) fun r46 hr46 => ?_
 refine jv 4 [0, 4] [0, 1, 2] (fun J E L => ∃ (t50 : Bool), J ((69, .bool t50) :: E) (L) (zbG (zx n1) l6 r26 s32 r46 t50)) rfl ?_ ?_
 refine br rfl (fun hc48 => ?_) fun hc48 => ?_
 exact en rfl fun _ _ j => ⟨true, j rfl⟩
 refine bi rfl fun b49 hb49 => ?_
 refine vl rfl rfl (fun a w hf hO => zeq (b := b49) (c := 59) hf rfl rfl) ?_
 exact en rfl fun _ _ j => ⟨!(b49 == 59), j rfl⟩
 rintro a w ⟨t50, hf, hO, hm⟩
 rw [zbG] at hm
 refine S.co tb ?_ hf hO hm
 refine br rfl (fun hc51 => ?_) fun hc51 => ?_
 refine nl 57 2 ?_
 refine re_ rfl fun a w hf hO hm => ?_
 obtain rfl := Option.some.inj hm
 exact zh Tryz.results49 hf (.tmp rfl (.tmp rfl .nil)) ⟨none, 0, rfl, (hO.sub (.cons_cons _ (.cons _ (.cons _ (.cons _ .slnil)))))⟩
 refine bi rfl fun s54 hs54 => ?_
 refine cl c_84 rfl (fun r55 w hr55 hO => zfx s54 r55 _ (hG.own hF hO) hr55) fun r55 hr55 => ?_
 exact ec [1, 2] rfl rfl rfl fun _ _ j => ⟨_, Nat.lt_succ_self _, r55, p34, c35, l6 ++ [(⟨s32, r26.1⟩ : api_Param)], j rfl⟩

theorem zht (x_l : List api_Param) (x_name : Str) (x_from : Int) (R : Int) (w0 : World) (hG : zr w0) {x_l_p0 : Option Addr} {x_l_c0 : Nat} (hs0 : zF w0 x_l_p0 (cells zc x_l)) (hc0 : x_l.length ≤ x_l_c0) (hm : zdt x_l x_name x_from = some R) :
    Calls Tryz.prog 50 #[.slice x_l_p0 x_l.length x_l_c0, str x_name, int x_from] w0 (Ret w0 (fun R => int R) R) := by
 rw [zdt] at hm
 have hF : zC [] := ze
 have hO : Dk.Own w0 [] w0 [] := Dk.Own.refl w0
 have hO := hO.addShr hs0 (by simp [Res.shared])
 refine S.enter tb Tryz.func50 rfl Tryz.ntmps50 rfl ?_ hO hm
 refine lv [0, 1] [0] (fun J E L k => ∃ (i3 : Int), J ((7, int i3) :: E) (L) (zaN x_l x_name k i3)) rfl (fun _ _ j => ⟨x_from, j rfl⟩) ?_
 rintro n1 a w ⟨i3, hf, hO, hm⟩
 obtain _ | n1 := n1
 rw [zaN] at hm
 cases hm
 rw [zaN] at hm
 refine S.co tb ?_ hf hO hm
 refine br rfl (fun hc5 => ?_) fun hc5 => ?_
 refine rw_ rfl fun a w hf hO hm => ?_
 obtain ⟨x7, hx7, hm⟩ := ob hm
 obtain ⟨b8, o9, hix7, hSx7⟩ := zcP (enc := zc) (sz := 2) (xs := x_l) 49 Tryz.underlying49 zcU (by decide) (fun _ => rfl) (hO.sees (i := 0) rfl) hx7
 refine zbA (zm hix7 hf rfl rfl) rfl hf rfl rfl fun a hf => ?_
 refine S.op tb ?_ hf hO hm
 refine vl rfl rfl (fun a w hf hO => zo (o := 0) zdE (hSx7 _ (hO.sees (i := 0) rfl)) rfl hf rfl) ?_
 refine cl c_62 rfl (fun r10 w hr10 hO => zfz x7.Name r10 _ (hG.own hF hO) hr10) fun r10 hr10 => ?_
 refine cl c_62 rfl (fun r11 w hr11 hO => zfz x_name r11 _ (hG.own hF hO) hr11) fun r11 hr11 => ?_
 refine br rfl (fun hc13 => ?_) fun hc13 => ?_
 exact rt Tryz.results50 rfl
 refine bi rfl fun i16 hi16 => ?_
 exact en rfl fun _ _ j => ⟨_, Nat.lt_succ_self _, i16, j rfl⟩
 exact rt Tryz.results50 rfl

theorem zeQ (x_s : Str) (R : List api_Param × Int) (w0 : World) (hG : zr w0) (hm : zcb x_s = some R) :
    Calls Tryz.prog 25 #[str x_s] w0 fun e w' => ∃ (p0 : Option Addr) (c0 : Nat), e = .returned (.tuple #[.slice p0 R.1.length c0, int R.2]) ∧ Dk.Own w0 [] w' [.row (.slice p0 R.1.length c0) 57 2 R.1.length (cells zc R.1)] := by
 rw [zcb] at hm
 have hF : zC [] := ze
 have hO : Dk.Own w0 [] w0 [] := Dk.Own.refl w0
 refine S.enter tb Tryz.func25 rfl Tryz.ntmps25 rfl ?_ hO hm
 refine nl 57 2 ?_
 refine rw_ rfl fun a w hf hO hm => ?_
 obtain ⟨r2, hr2, hm⟩ := ob hm
 refine zj (zl c_49 hf (vs := [str x_s]) rfl) rfl hf rfl rfl (zhs x_s r2 _ (hG.own hF hO) hr2) ?_
 rintro e w' ⟨p3, c4, he, hO'⟩
 refine ⟨_, he, fun a hf => ?_⟩
 have hO := hO.call hO' (by simp [Res.shared])
 refine S.op tb ?_ hf hO hm
 refine br rfl (fun hc7 => ?_) fun hc7 => ?_
 refine nl 57 2 ?_
 refine re_ rfl fun a w hf hO hm => ?_
 obtain rfl := Option.some.inj hm
 exact zh Tryz.results25 hf (.tmp rfl (.tmp rfl .nil)) ⟨none, 0, rfl, (hO.sub (.cons_cons _ (.cons _ (.cons _ .slnil))))⟩
 refine lv [4] [0, 1] (fun J E L k => ∃ (i11 : Int), J ((6, int i11) :: E) (L) (zau r2 k i11)) rfl (fun _ _ j => ⟨0, j rfl⟩) ?_
 rintro n1 a w ⟨i11, hf, hO, hm⟩
 obtain _ | n1 := n1
 rw [zau] at hm
 cases hm
 rw [zau] at hm
 refine S.co tb ?_ hf hO hm
 refine br rfl (fun hc13 => ?_) fun hc13 => ?_
 refine rw_ rfl fun a w hf hO hm => ?_
 obtain ⟨x15, hx15, hm⟩ := ob hm
 obtain ⟨b16, o17, hix15, hSx15, hAx15⟩ := zbq (enc := zc) (sz := 2) (xs := r2.1) 49 Tryz.underlying49 zcU (by decide) (fun _ => rfl) hO (i := 0) rfl hx15
 refine zbA (zm hix15 hf rfl rfl) rfl hf rfl rfl fun a hf => ?_
 refine S.op tb ?_ hf hO hm
 refine vl rfl rfl (fun a w hf hO => zo (o := 0) zdE (hSx15 _ (hO.rowSees (i := 0) rfl)) rfl hf rfl) ?_
 refine bi rfl fun i18 hi18 => ?_
 refine cl c_50 rfl (fun r19 w hr19 hO => zht r2.1 x15.Name i18 r19 _ (hG.own hF hO) (hO.rowSees (i := 0) rfl) (hO.rowCap (i := 0) rfl) hr19) fun r19 hr19 => ?_
 refine br rfl (fun hc21 => ?_) fun hc21 => ?_
 refine nl 57 2 ?_
 refine re_ rfl fun a w hf hO hm => ?_
 obtain rfl := Option.some.inj hm
 exact zh Tryz.results25 hf (.tmp rfl (.tmp rfl .nil)) ⟨none, 0, rfl, (hO.sub (.cons_cons _ (.cons _ (.cons _ .slnil))))⟩
 refine bi rfl fun i24 hi24 => ?_
 exact en rfl fun _ _ j => ⟨_, Nat.lt_succ_self _, i24, j rfl⟩
 refine re_ rfl fun a w hf hO hm => ?_
 obtain rfl := Option.some.inj hm
 exact zh Tryz.results25 hf (.tmp rfl (.tmp rfl .nil)) ⟨p3, c4, rfl, (hO.sub (.cons_cons _ (.cons _ .slnil)))⟩

theorem zfZ (x_values : List Str) (R : List (List api_Param) × Int) (w0 : World) (hG : zr w0) {x_values_p0 : Option Addr} {x_values_c0 : Nat} (hs0 : zF w0 x_values_p0 (cells zd x_values)) (hc0 : x_values.length ≤ x_values_c0) (hm : zct x_values = some R) :
    Calls Tryz.prog 26 #[.slice x_values_p0 x_values.length x_values_c0] w0 fun e w' => ∃ (p0 : Option Addr) (c0 : Nat) (g0 : List (Option Addr × Nat × Nat)), e = .returned (.tuple #[.slice p0 R.1.length c0, int R.2]) ∧ Dk.Own w0 [] w' [.nst (.slice p0 R.1.length c0) 49 g0 (R.1.map List.length) (R.1.map (cells zc))] := by
 rw [zct] at hm
 have hF : zC [] := ze
 have hO : Dk.Own w0 [] w0 [] := Dk.Own.refl w0
 have hO := hO.addShr hs0 (by simp [Res.shared])
 refine S.enter tb Tryz.func26 rfl Tryz.ntmps26 rfl ?_ hO hm
 refine nn 49 ?_
 refine nn 49 ?_
 refine lv [13, 14] [1, 2] (fun J E L k => ∃ (p4 : Option Addr) (c5 : Nat) (l6 : List (List api_Param)) (g7 : List (Option Addr × Nat × Nat)) (i8 : Int), J ((4, .slice p4 l6.length c5) :: (15, int i8) :: E) (.nst (.slice p4 l6.length c5) 49 g7 (l6.map List.length) (l6.map (cells zc)) :: L) (zG x_values k l6 i8)) rfl (fun _ _ j => ⟨none, 0, [], [], 0, j rfl⟩) ?_
 rintro n1 a w ⟨p4, c5, l6, g7, i8, hf, hO, hm⟩
 obtain _ | n1 := n1
 rw [zG] at hm
 cases hm
 rw [zG] at hm
 refine S.co tb ?_ hf hO hm
 refine br rfl (fun hc10 => ?_) fun hc10 => ?_
 refine rw_ rfl fun a w hf hO hm => ?_
 obtain ⟨x12, hx12, hm⟩ := ob hm
 obtain ⟨b13, o14, hix12, hSx12⟩ := zcP (enc := zd) (sz := 1) (xs := x_values) 41 Tryz.underlying41 zhq (by decide) (fun _ => rfl) (hO.sees (i := 2) rfl) hx12
 refine zbA (zm hix12 hf rfl rfl) rfl hf rfl rfl fun a hf => ?_
 refine S.op tb ?_ hf hO hm
 refine vl rfl rfl (fun a w hf hO => zo (o := 0) zdE (hSx12 _ (hO.sees (i := 2) rfl)) rfl hf rfl) ?_
 refine rw_ rfl fun a w hf hO hm => ?_
 obtain ⟨r16, hr16, hm⟩ := ob hm
 refine zj (zl c_38 hf (vs := [str x12]) rfl) rfl hf rfl rfl (zhf x12 r16 _ (hG.own hF hO) hr16) ?_
 rintro e w' ⟨p17, c18, he, hO'⟩
 refine ⟨_, he, fun a hf => ?_⟩
 have hO := hO.call hO' (by simp [Res.shared])
 refine S.op tb ?_ hf hO hm
 refine br rfl (fun hc21 => ?_) fun hc21 => ?_
 refine nn 49 ?_
 refine re_ rfl fun a w hf hO hm => ?_
 obtain rfl := Option.some.inj hm
 exact zh Tryz.results26 hf (.tmp rfl (.tmp rfl .nil)) ⟨none, 0, [], rfl, (hO.sub (.cons_cons _ (.cons _ (.cons _ (.cons _ (.cons _ .slnil))))))⟩
 refine ch [1, 0, 2, 3] rfl rfl ?_
 refine lv [13, 14, 15, 27, 28] [1, 2, 3] (fun J E L k => ∃ (p25 : Option Addr) (c26 : Nat) (l27 : List (List api_Param)) (g28 : List (Option Addr × Nat × Nat)) (i29 : Int), J ((4, .slice p25 l27.length c26) :: (29, int i29) :: E) (.nst (.slice p25 l27.length c26) 49 g28 (l27.map List.length) (l27.map (cells zc)) :: L) (zaa (zG x_values n1) i8 r16 k l27 i29)) rfl (fun _ _ j => ⟨p4, c5, l6, g7, 0, j rfl⟩) ?_
 rintro n2 a w ⟨p25, c26, l27, g28, i29, hf, hO, hm⟩
 obtain _ | n2 := n2
 rw [zaa] at hm
 cases hm
 rw [zaa] at hm
 refine S.co tb ?_ hf hO hm
 refine br rfl (fun hc31 => ?_) fun hc31 => ?_
 refine rw_ rfl fun a w hf hO hm => ?_
 obtain ⟨x33, hx33, hm⟩ := ob hm
 obtain ⟨b34, o35, hix33, hSx33, hAx33⟩ := zbq (enc := zd) (sz := 1) (xs := r16.1) 41 Tryz.underlying41 zhq (by decide) (fun _ => rfl) hO (i := 1) rfl hx33
 refine zbA (zm hix33 hf rfl rfl) rfl hf rfl rfl fun a hf => ?_
 refine S.op tb ?_ hf hO hm
 refine vl rfl rfl (fun a w hf hO => zo (o := 0) zdE (hSx33 _ (hO.rowSees (i := 1) rfl)) rfl hf rfl) ?_
 refine rw_ rfl fun a w hf hO hm => ?_
 obtain ⟨r37, hr37, hm⟩ := ob hm
 refine zj (zl c_21 hf (vs := [str x33]) rfl) rfl hf rfl rfl (zdj x33 r37 _ (hG.own hF hO) hr37) ?_
 rintro e w' ⟨p38, c39, he, hO'⟩
 refine ⟨_, he, fun a hf => ?_⟩
 have hO := hO.call hO' (by simp [Res.shared])
 refine S.op tb ?_ hf hO hm
 refine br rfl (fun hc42 => ?_) fun hc42 => ?_
 refine nn 49 ?_
 refine re_ rfl fun a w hf hO hm => ?_
 obtain rfl := Option.some.inj hm
 exact zh Tryz.results26 hf (.tmp rfl (.tmp rfl .nil)) ⟨none, 0, [], rfl, (hO.sub (.cons_cons _ (.cons _ (.cons _ (.cons _ (.cons _ (.cons _ .slnil)))))))⟩
 refine rw_ rfl fun a w hf hO hm => ?_
 refine zi (vs := [(0, .slice p38 r37.1.length c39)]) (cs := [.slice p38 r37.1.length c39]) (e := 49) (sz := 1) hf rfl rfl (fun w => by kernel_rfl) rfl rfl hO fun a b45 w hf hO => ?_
 refine S.op tb ?_ hf hO hm
 refine rw_ rfl fun a w hf hO hm => ?_
 obtain ⟨hg48, hm⟩ := og hm
 refine zhg el_61 (enc := zc) (xss := l27) (z := r37.1) (i := 2) (j := 1) [0, 3, 4, 5] rfl rfl (fun w hO => hO.rowSees (i := 0) rfl) hg48 hf rfl rfl rfl hO fun a p46 c47 w hf hO => ?_
 refine S.op tb ?_ hf hO hm
 refine bi rfl fun i50 hi50 => ?_
 exact ec [0, 2, 3, 4] rfl rfl rfl fun _ _ j => ⟨_, Nat.lt_succ_self _, p46, c47, l27 ++ [r37.1], g28 ++ [(p38, r37.1.length, c39)], i50, j rfl⟩
 refine bi rfl fun i52 hi52 => ?_
 exact ec [0, 2, 3] rfl rfl rfl fun _ _ j => ⟨_, Nat.lt_succ_self _, p25, c26, l27, g28, i52, j rfl⟩
 refine re_ rfl fun a w hf hO hm => ?_
 obtain rfl := Option.some.inj hm
 exact zh Tryz.results26 hf (.tmp rfl (.tmp rfl .nil)) ⟨p4, c5, g7, rfl, (hO.sub (.cons_cons _ (.cons _ (.cons _ .slnil))))⟩

theorem zhu (x_s : Str) (R : Int) (w0 : World) (hG : zr w0) (hm : zcN x_s = some R) :
    Calls Tryz.prog 85 #[str x_s] w0 (Ret w0 (fun R => int R) R) := by
 rw [zcN] at hm
 have hF : zC [] := ze
 have hO : Dk.Own w0 [] w0 [] := Dk.Own.refl w0
 refine S.enter tb Tryz.func85 rfl Tryz.ntmps85 rfl ?_ hO hm
 refine bi rfl fun b2 hb2 => ?_
 refine vl rfl rfl (fun a w hf hO => zJ (b := b2) (c := 34) hf rfl rfl) ?_
 refine br rfl (fun hc4 => ?_) fun hc4 => ?_
 refine cl c_122 rfl (fun r5 w hr5 hO => zeN x_s r5 _ (hG.own hF hO) hr5) fun r5 hr5 => ?_
 exact rt Tryz.results85 rfl
 refine lv [0] [] (fun J E L k => ∃ (i11 : Int) (i12 : Int), J ((5, int i11) :: (6, int i12) :: E) (L) (zu x_s k i11 i12)) rfl (fun _ _ j => ⟨0, 0, j rfl⟩) ?_
 rintro n1 a w ⟨i11, i12, hf, hO, hm⟩
 obtain _ | n1 := n1
 rw [zu] at hm
 cases hm
 rw [zu] at hm
 refine S.co tb ?_ hf hO hm
 refine br rfl (fun hc14 => ?_) fun hc14 => ?_
 refine jv 5 [0] [] (fun J E L => ∃ (i27 : Int) (i28 : Int), J ((5, int i27) :: (6, int i28) :: E) (L) (zQ (zu x_s n1) i27 i28)) rfl ?_ ?_
 refine bi rfl fun b16 hb16 => ?_
 refine vl rfl rfl (fun a w hf hO => zJ (b := b16) (c := 40) hf rfl rfl) ?_
 refine br rfl (fun hc19 => ?_) fun hc19 => ?_
 refine bi rfl fun i20 hi20 => ?_
 exact en rfl fun _ _ j => ⟨i20, i12, j rfl⟩
 refine vl rfl rfl (fun a w hf hO => zJ (b := b16) (c := 41) hf rfl rfl) ?_
 refine br rfl (fun hc22 => ?_) fun hc22 => ?_
 refine bi rfl fun i23 hi23 => ?_
 exact en rfl fun _ _ j => ⟨i23, i12, j rfl⟩
 refine vl rfl rfl (fun a w hf hO => zJ (b := b16) (c := 92) hf rfl rfl) ?_
 refine br rfl (fun hc25 => ?_) fun hc25 => ?_
 refine bi rfl fun i26 hi26 => ?_
 exact en rfl fun _ _ j => ⟨i11, i26, j rfl⟩
 exact en rfl fun _ _ j => ⟨i11, i12, j rfl⟩
 rintro a w ⟨i27, i28, hf, hO, hm⟩
 rw [zQ] at hm
 refine S.co tb ?_ hf hO hm
 refine br rfl (fun hc30 => ?_) fun hc30 => ?_
 refine bi rfl fun i31 hi31 => ?_
 exact rt Tryz.results85 rfl
 refine bi rfl fun i34 hi34 => ?_
 exact en rfl fun _ _ j => ⟨_, Nat.lt_succ_self _, i27, i34, j rfl⟩
 exact rt Tryz.results85 rfl

theorem zfy (x_s : Str) (R : Str) (w0 : World) (hG : zr w0) (hm : zcE x_s = some R) :
    Calls Tryz.prog 86 #[str x_s] w0 (Ret w0 (fun R => str R) R) := by
 rw [zcE] at hm
 have hF : zC [] := ze
 have hO : Dk.Own w0 [] w0 [] := Dk.Own.refl w0
 refine S.enter tb Tryz.func86 rfl Tryz.ntmps86 rfl ?_ hO hm
 refine lv [] [] (fun J E L k => ∃ (s2 : Str), J ((0, str s2) :: E) (L) (zZ k s2)) rfl (fun _ _ j => ⟨x_s, j rfl⟩) ?_
 rintro n1 a w ⟨s2, hf, hO, hm⟩
 obtain _ | n1 := n1
 rw [zZ] at hm
 cases hm
 rw [zZ] at hm
 refine S.co tb ?_ hf hO hm
 refine jv 4 [0] [] (fun J E L => ∃ (t6 : Bool), J ((10, .bool t6) :: E) (L) (zbu (zZ n1) s2 t6)) rfl ?_ ?_
 refine br rfl (fun hc3 => ?_) fun hc3 => ?_
 refine bi rfl fun b4 hb4 => ?_
 refine cl c_64 rfl (fun r5 w hr5 hO => zdv b4 r5 _ (hG.own hF hO) hr5) fun r5 hr5 => ?_
 exact en rfl fun _ _ j => ⟨r5, j rfl⟩
 exact en rfl fun _ _ j => ⟨false, j rfl⟩
 rintro a w ⟨t6, hf, hO, hm⟩
 rw [zbu] at hm
 refine S.co tb ?_ hf hO hm
 refine br rfl (fun hc7 => ?_) fun hc7 => ?_
 refine bi rfl fun s9 hs9 => ?_
 exact en rfl fun _ _ j => ⟨_, Nat.lt_succ_self _, s9, j rfl⟩
 refine lv [] [] (fun J E L k => ∃ (s11 : Str), J ((0, str s11) :: E) (L) (zY k s11)) rfl (fun _ _ j => ⟨s2, j rfl⟩) ?_
 rintro n3 a w ⟨s11, hf, hO, hm⟩
 obtain _ | n3 := n3
 rw [zY] at hm
 cases hm
 rw [zY] at hm
 refine S.co tb ?_ hf hO hm
 refine jv 4 [0] [] (fun J E L => ∃ (t16 : Bool), J ((23, .bool t16) :: E) (L) (zbt (zY n3) s11 t16)) rfl ?_ ?_
 refine br rfl (fun hc12 => ?_) fun hc12 => ?_
 refine bi rfl fun i13 hi13 => ?_
 refine bi rfl fun b14 hb14 => ?_
 refine cl c_64 rfl (fun r15 w hr15 hO => zdv b14 r15 _ (hG.own hF hO) hr15) fun r15 hr15 => ?_
 exact en rfl fun _ _ j => ⟨r15, j rfl⟩
 exact en rfl fun _ _ j => ⟨false, j rfl⟩
 rintro a w ⟨t16, hf, hO, hm⟩
 rw [zbt] at hm
 refine S.co tb ?_ hf hO hm
 refine br rfl (fun hc17 => ?_) fun hc17 => ?_
 refine bi rfl fun i19 hi19 => ?_
 refine bi rfl fun s20 hs20 => ?_
 exact en rfl fun _ _ j => ⟨_, Nat.lt_succ_self _, s20, j rfl⟩
 exact rt Tryz.results86 rfl

theorem zhv (x_a0 : Str) (R : List Str × Int) (w0 : World) (hG : zr w0) (hm : zcO x_a0 = some R) :
    Calls Tryz.prog 51 #[str x_a0] w0 fun e w' => ∃ (p0 : Option Addr) (c0 : Nat), e = .returned (.tuple #[.slice p0 R.1.length c0, int R.2]) ∧ Dk.Own w0 [] w' [.row (.slice p0 R.1.length c0) 9 1 R.1.length (cells zd R.1)] := by
 rw [zcO] at hm
 have hF : zC [] := ze
 have hO : Dk.Own w0 [] w0 [] := Dk.Own.refl w0
 refine S.enter tb Tryz.func51 rfl Tryz.ntmps51 rfl ?_ hO hm
 refine nl 9 1 ?_
 refine nl 9 1 ?_
 refine lv [0] [1] (fun J E L k => ∃ (p5 : Option Addr) (c6 : Nat) (l7 : List Str) (i8 : Int) (i9 : Int), J ((4, .slice p5 l7.length c6) :: (5, int i8) :: (6, int i9) :: E) (.row (.slice p5 l7.length c6) 9 1 l7.length (cells zd l7) :: L) (zz x_a0 k l7 i8 i9)) rfl (fun _ _ j => ⟨none, 0, [], 0, 0, j rfl⟩) ?_
 rintro n1 a w ⟨p5, c6, l7, i8, i9, hf, hO, hm⟩
 obtain _ | n1 := n1
 rw [zz] at hm
 cases hm
 rw [zz] at hm
 refine S.co tb ?_ hf hO hm
 refine br rfl (fun hc11 => ?_) fun hc11 => ?_
 refine jv 5 [0, 4, 5, 6] [0, 1] (fun J E L => ∃ (t16 : Bool), J ((23, .bool t16) :: E) (L) (zav (zz x_a0 n1) x_a0 l7 i8 i9 t16)) rfl ?_ ?_
 refine bi rfl fun b13 hb13 => ?_
 refine vl rfl rfl (fun a w hf hO => zJ (b := b13) (c := 34) hf rfl rfl) ?_
 refine br rfl (fun hc14 => ?_) fun hc14 => ?_
 exact en rfl fun _ _ j => ⟨true, j rfl⟩
 refine bi rfl fun b15 hb15 => ?_
 refine vl rfl rfl (fun a w hf hO => zJ (b := b15) (c := 40) hf rfl rfl) ?_
 exact en rfl fun _ _ j => ⟨b15 == 40, j rfl⟩
 rintro a w ⟨t16, hf, hO, hm⟩
 rw [zav] at hm
 refine S.co tb ?_ hf hO hm
 refine br rfl (fun hc17 => ?_) fun hc17 => ?_
 refine bi rfl fun s18 hs18 => ?_
 refine cl c_85 rfl (fun r19 w hr19 hO => zhu s18 r19 _ (hG.own hF hO) hr19) fun r19 hr19 => ?_
 refine br rfl (fun hc22 => ?_) fun hc22 => ?_
 refine nl 9 1 ?_
 refine re_ rfl fun a w hf hO hm => ?_
 obtain rfl := Option.some.inj hm
 exact zh Tryz.results51 hf (.tmp rfl (.tmp rfl .nil)) ⟨none, 0, rfl, (hO.sub (.cons_cons _ (.cons _ (.cons _ .slnil))))⟩
 refine bi rfl fun i25 hi25 => ?_
 exact en rfl fun _ _ j => ⟨_, Nat.lt_succ_self _, p5, c6, l7, i8, i25, j rfl⟩
 refine jv 4 [0, 6] [1] (fun J E L => ∃ (p39 : Option Addr) (c40 : Nat) (l41 : List Str) (i42 : Int), J ((4, .slice p39 l41.length c40) :: (5, int i42) :: E) (.row (.slice p39 l41.length c40) 9 1 l41.length (cells zd l41) :: L) (zbI (zz x_a0 n1) i9 l41 i42)) rfl ?_ ?_
 refine bi rfl fun b28 hb28 => ?_
 refine vl rfl rfl (fun a w hf hO => zJ (b := b28) (c := 44) hf rfl rfl) ?_
 refine br rfl (fun hc30 => ?_) fun hc30 => ?_
 refine bi rfl fun s31 hs31 => ?_
 refine cl c_86 rfl (fun r32 w hr32 hO => zfy s31 r32 _ (hG.own hF hO) hr32) fun r32 hr32 => ?_
 refine rw_ rfl fun a w hf hO hm => ?_
 refine zi (vs := [(0, str r32)]) (cs := [str r32]) (e := 9) (sz := 1) hf rfl rfl (fun w => by kernel_rfl) rfl rfl hO fun a b33 w hf hO => ?_
 refine S.op tb ?_ hf hO hm
 refine rw_ rfl fun a w hf hO hm => ?_
 obtain ⟨hg36, hm⟩ := og hm
 refine zak zhP (enc := zd) (xs := l7) (ys := ([r32] : List Str)) (i := 1) (fun _ => rfl) rfl (hO.rowSees (i := 0) rfl) (by simp [cells, zd, Value.oneCell']) hg36 hf rfl rfl rfl hO fun a p34 c35 w hf hO => ?_
 refine S.op tb ?_ hf hO hm
 refine bi rfl fun i38 hi38 => ?_
 exact ec [1, 2] rfl rfl rfl fun _ _ j => ⟨p34, c35, l7 ++ ([r32] : List Str), i38, j rfl⟩
 exact en rfl fun _ _ j => ⟨p5, c6, l7, i8, j rfl⟩
 rintro a w ⟨p39, c40, l41, i42, hf, hO, hm⟩
 rw [zbI] at hm
 refine S.co tb ?_ hf hO hm
 refine bi rfl fun i43 hi43 => ?_
 exact en rfl fun _ _ j => ⟨_, Nat.lt_succ_self _, p39, c40, l41, i42, i43, j rfl⟩
 refine bi rfl fun s45 hs45 => ?_
 refine cl c_86 rfl (fun r46 w hr46 hO => zfy s45 r46 _ (hG.own hF hO) hr46) fun r46 hr46 => ?_
 refine rw_ rfl fun a w hf hO hm => ?_
 refine zi (vs := [(0, str r46)]) (cs := [str r46]) (e := 9) (sz := 1) hf rfl rfl (fun w => by kernel_rfl) rfl rfl hO fun a b47 w hf hO => ?_
 refine S.op tb ?_ hf hO hm
 refine rw_ rfl fun a w hf hO hm => ?_
 obtain ⟨hg50, hm⟩ := og hm
 refine zak zhP (enc := zd) (xs := l7) (ys := ([r46] : List Str)) (i := 1) (fun _ => rfl) rfl (hO.rowSees (i := 0) rfl) (by simp [cells, zd, Value.oneCell']) hg50 hf rfl rfl rfl hO fun a p48 c49 w hf hO => ?_
 refine S.op tb ?_ hf hO hm
 refine nl 9 1 ?_
 refine lv [4] [1, 2, 3] (fun J E L k => ∃ (p54 : Option Addr) (c55 : Nat) (l56 : List Str) (i57 : Int), J ((8, .slice p54 l56.length c55) :: (9, int i57) :: E) (.row (.slice p54 l56.length c55) 9 1 l56.length (cells zd l56) :: L) (zR l7 r46 k l56 i57)) rfl (fun _ _ j => ⟨none, 0, [], 0, j rfl⟩) ?_
 rintro n4 a w ⟨p54, c55, l56, i57, hf, hO, hm⟩
 obtain _ | n4 := n4
 rw [zR] at hm
 cases hm
 rw [zR] at hm
 refine S.co tb ?_ hf hO hm
 refine br rfl (fun hc59 => ?_) fun hc59 => ?_
 refine jv 3 [4, 9] [1, 2, 3] (fun J E L => ∃ (p73 : Option Addr) (c74 : Nat) (l75 : List Str), J ((8, .slice p73 l75.length c74) :: E) (.row (.slice p73 l75.length c74) 9 1 l75.length (cells zd l75) :: L) (zbJ (zR l7 r46 n4) i57 l75)) rfl ?_ ?_
 refine rw_ rfl fun a w hf hO hm => ?_
 obtain ⟨x61, hx61, hm⟩ := ob hm
 obtain ⟨b62, o63, hix61, hSx61, hAx61⟩ := zbq (enc := zd) (sz := 1) (xs := l7 ++ ([r46] : List Str)) 41 Tryz.underlying41 zhq (by decide) (fun _ => rfl) hO (i := 2) rfl hx61
 refine zbA (zm hix61 hf rfl rfl) rfl hf rfl rfl fun a hf => ?_
 refine S.op tb ?_ hf hO hm
 refine vl rfl rfl (fun a w hf hO => zo (o := 0) zdE (hSx61 _ (hO.rowSees (i := 2) rfl)) rfl hf rfl) ?_
 refine br rfl (fun hc65 => ?_) fun hc65 => ?_
 refine rw_ rfl fun a w hf hO hm => ?_
 obtain ⟨x66, hx66, hm⟩ := ob hm
 obtain ⟨b67, o68, hix66, hSx66, hAx66⟩ := zbq (enc := zd) (sz := 1) (xs := l7 ++ ([r46] : List Str)) 41 Tryz.underlying41 zhq (by decide) (fun _ => rfl) hO (i := 2) rfl hx66
 refine zbA (zm hix66 hf rfl rfl) rfl hf rfl rfl fun a hf => ?_
 refine S.op tb ?_ hf hO hm
 refine vl rfl rfl (fun a w hf hO => zo (o := 0) zdE (hSx66 _ (hO.rowSees (i := 2) rfl)) rfl hf rfl) ?_
 refine rw_ rfl fun a w hf hO hm => ?_
 refine zi (vs := [(0, str x66)]) (cs := [str x66]) (e := 9) (sz := 1) hf rfl rfl (fun w => by kernel_rfl) rfl rfl hO fun a b69 w hf hO => ?_
 refine S.op tb ?_ hf hO hm
 refine rw_ rfl fun a w hf hO hm => ?_
 obtain ⟨hg72, hm⟩ := og hm
 refine zak zhP (enc := zd) (xs := l56) (ys := ([x66] : List Str)) (i := 1) (fun _ => rfl) rfl (hO.rowSees (i := 0) rfl) (by simp [cells, zd, Value.oneCell']) hg72 hf rfl rfl rfl hO fun a p70 c71 w hf hO => ?_
 refine S.op tb ?_ hf hO hm
 exact ec [1, 2, 3, 4] rfl rfl rfl fun _ _ j => ⟨p70, c71, l56 ++ ([x66] : List Str), j rfl⟩
 exact en rfl fun _ _ j => ⟨p54, c55, l56, j rfl⟩
 rintro a w ⟨p73, c74, l75, hf, hO, hm⟩
 rw [zbJ] at hm
 refine S.co tb ?_ hf hO hm
 refine bi rfl fun i76 hi76 => ?_
 exact en rfl fun _ _ j => ⟨_, Nat.lt_succ_self _, p73, c74, l75, i76, j rfl⟩
 refine re_ rfl fun a w hf hO hm => ?_
 obtain rfl := Option.some.inj hm
 exact zh Tryz.results51 hf (.tmp rfl (.tmp rfl .nil)) ⟨p54, c55, rfl, (hO.sub (.cons_cons _ (.cons _ (.cons _ (.cons _ .slnil)))))⟩

theorem zh5 (x_values : List Str) (R : List (List api_Param) × Int) (w0 : World) (hG : zr w0) {x_values_p0 : Option Addr} {x_values_c0 : Nat} (hs0 : zF w0 x_values_p0 (cells zd x_values)) (hc0 : x_values.length ≤ x_values_c0) (hm : zd4 x_values = some R) :
    Calls Tryz.prog 27 #[.slice x_values_p0 x_values.length x_values_c0] w0 fun e w' => ∃ (p0 : Option Addr) (c0 : Nat) (g0 : List (Option Addr × Nat × Nat)), e = .returned (.tuple #[.slice p0 R.1.length c0, int R.2]) ∧ Dk.Own w0 [] w' [.nst (.slice p0 R.1.length c0) 49 g0 (R.1.map List.length) (R.1.map (cells zc))] := by
 rw [zd4] at hm
 have hF : zC [] := ze
 have hO : Dk.Own w0 [] w0 [] := Dk.Own.refl w0
 have hO := hO.addShr hs0 (by simp [Res.shared])
 refine S.enter tb Tryz.func27 rfl Tryz.ntmps27 rfl ?_ hO hm
 refine nn 49 ?_
 refine nn 49 ?_
 refine lv [0] [1, 2] (fun J E L k => ∃ (p4 : Option Addr) (c5 : Nat) (l6 : List (List api_Param)) (g7 : List (Option Addr × Nat × Nat)) (i8 : Int), J ((4, .slice p4 l6.length c5) :: (5, int i8) :: E) (.nst (.slice p4 l6.length c5) 49 g7 (l6.map List.length) (l6.map (cells zc)) :: L) (zap x_values k l6 i8)) rfl (fun _ _ j => ⟨none, 0, [], [], 0, j rfl⟩) ?_
 rintro n1 a w ⟨p4, c5, l6, g7, i8, hf, hO, hm⟩
 obtain _ | n1 := n1
 rw [zap] at hm
 cases hm
 rw [zap] at hm
 refine S.co tb ?_ hf hO hm
 refine br rfl (fun hc10 => ?_) fun hc10 => ?_
 refine rw_ rfl fun a w hf hO hm => ?_
 obtain ⟨x12, hx12, hm⟩ := ob hm
 obtain ⟨b13, o14, hix12, hSx12⟩ := zcP (enc := zd) (sz := 1) (xs := x_values) 41 Tryz.underlying41 zhq (by decide) (fun _ => rfl) (hO.sees (i := 2) rfl) hx12
 refine zbA (zm hix12 hf rfl rfl) rfl hf rfl rfl fun a hf => ?_
 refine S.op tb ?_ hf hO hm
 refine vl rfl rfl (fun a w hf hO => zo (o := 0) zdE (hSx12 _ (hO.sees (i := 2) rfl)) rfl hf rfl) ?_
 refine rw_ rfl fun a w hf hO hm => ?_
 obtain ⟨r15, hr15, hm⟩ := ob hm
 refine zj (zl c_51 hf (vs := [str x12]) rfl) rfl hf rfl rfl (zhv x12 r15 _ (hG.own hF hO) hr15) ?_
 rintro e w' ⟨p16, c17, he, hO'⟩
 refine ⟨_, he, fun a hf => ?_⟩
 have hO := hO.call hO' (by simp [Res.shared])
 refine S.op tb ?_ hf hO hm
 refine br rfl (fun hc20 => ?_) fun hc20 => ?_
 refine nn 49 ?_
 refine re_ rfl fun a w hf hO hm => ?_
 obtain rfl := Option.some.inj hm
 exact zh Tryz.results27 hf (.tmp rfl (.tmp rfl .nil)) ⟨none, 0, [], rfl, (hO.sub (.cons_cons _ (.cons _ (.cons _ (.cons _ (.cons _ .slnil))))))⟩
 refine ch [1, 0, 2, 3] rfl rfl ?_
 refine lv [0, 5, 6] [1, 2, 3] (fun J E L k => ∃ (p24 : Option Addr) (c25 : Nat) (l26 : List (List api_Param)) (g27 : List (Option Addr × Nat × Nat)) (i28 : Int), J ((4, .slice p24 l26.length c25) :: (8, int i28) :: E) (.nst (.slice p24 l26.length c25) 49 g27 (l26.map List.length) (l26.map (cells zc)) :: L) (za5 (zap x_values n1) i8 r15 k l26 i28)) rfl (fun _ _ j => ⟨p4, c5, l6, g7, 0, j rfl⟩) ?_
 rintro n2 a w ⟨p24, c25, l26, g27, i28, hf, hO, hm⟩
 obtain _ | n2 := n2
 rw [za5] at hm
 cases hm
 rw [za5] at hm
 refine S.co tb ?_ hf hO hm
 refine br rfl (fun hc30 => ?_) fun hc30 => ?_
 refine rw_ rfl fun a w hf hO hm => ?_
 obtain ⟨x32, hx32, hm⟩ := ob hm
 obtain ⟨b33, o34, hix32, hSx32, hAx32⟩ := zbq (enc := zd) (sz := 1) (xs := r15.1) 41 Tryz.underlying41 zhq (by decide) (fun _ => rfl) hO (i := 1) rfl hx32
 refine zbA (zm hix32 hf rfl rfl) rfl hf rfl rfl fun a hf => ?_
 refine S.op tb ?_ hf hO hm
 refine vl rfl rfl (fun a w hf hO => zo (o := 0) zdE (hSx32 _ (hO.rowSees (i := 1) rfl)) rfl hf rfl) ?_
 refine rw_ rfl fun a w hf hO hm => ?_
 obtain ⟨r35, hr35, hm⟩ := ob hm
 refine zj (zl c_25 hf (vs := [str x32]) rfl) rfl hf rfl rfl (zeQ x32 r35 _ (hG.own hF hO) hr35) ?_
 rintro e w' ⟨p36, c37, he, hO'⟩
 refine ⟨_, he, fun a hf => ?_⟩
 have hO := hO.call hO' (by simp [Res.shared])
 refine S.op tb ?_ hf hO hm
 refine br rfl (fun hc40 => ?_) fun hc40 => ?_
 refine nn 49 ?_
 refine re_ rfl fun a w hf hO hm => ?_
 obtain rfl := Option.some.inj hm
 exact zh Tryz.results27 hf (.tmp rfl (.tmp rfl .nil)) ⟨none, 0, [], rfl, (hO.sub (.cons_cons _ (.cons _ (.cons _ (.cons _ (.cons _ (.cons _ .slnil)))))))⟩
 refine rw_ rfl fun a w hf hO hm => ?_
 refine zi (vs := [(0, .slice p36 r35.1.length c37)]) (cs := [.slice p36 r35.1.length c37]) (e := 49) (sz := 1) hf rfl rfl (fun w => by kernel_rfl) rfl rfl hO fun a b43 w hf hO => ?_
 refine S.op tb ?_ hf hO hm
 refine rw_ rfl fun a w hf hO hm => ?_
 obtain ⟨hg46, hm⟩ := og hm
 refine zhg el_61 (enc := zc) (xss := l26) (z := r35.1) (i := 2) (j := 1) [0, 3, 4, 5] rfl rfl (fun w hO => hO.rowSees (i := 0) rfl) hg46 hf rfl rfl rfl hO fun a p44 c45 w hf hO => ?_
 refine S.op tb ?_ hf hO hm
 refine bi rfl fun i48 hi48 => ?_
 exact ec [0, 2, 3, 4] rfl rfl rfl fun _ _ j => ⟨_, Nat.lt_succ_self _, p44, c45, l26 ++ [r35.1], g27 ++ [(p36, r35.1.length, c37)], i48, j rfl⟩
 refine bi rfl fun i50 hi50 => ?_
 exact ec [0, 2, 3] rfl rfl rfl fun _ _ j => ⟨_, Nat.lt_succ_self _, p24, c25, l26, g27, i50, j rfl⟩
 refine re_ rfl fun a w hf hO hm => ?_
 obtain rfl := Option.some.inj hm
 exact zh Tryz.results27 hf (.tmp rfl (.tmp rfl .nil)) ⟨p4, c5, g7, rfl, (hO.sub (.cons_cons _ (.cons _ (.cons _ .slnil))))⟩

theorem zh6 (x_a : List (List api_Param)) (x_b : List (List api_Param)) (R : Bool) (w0 : World) (hG : zr w0) {x_a_p1 : Option Addr} {x_a_c1 : Nat} {x_a_s2 : List (Option Addr × Nat × Nat)} (hn0 : (Res.nst (.slice x_a_p1 x_a.length x_a_c1) 49 x_a_s2 (x_a.map List.length) (x_a.map (cells zc))).holds w0 0) {x_b_p3 : Option Addr} {x_b_c3 : Nat} {x_b_s4 : List (Option Addr × Nat × Nat)} (hn1 : (Res.nst (.slice x_b_p3 x_b.length x_b_c3) 49 x_b_s4 (x_b.map List.length) (x_b.map (cells zc))).holds w0 0) (hm : zdf x_a x_b = some R) :
    Calls Tryz.prog 28 #[.slice x_a_p1 x_a.length x_a_c1, .slice x_b_p3 x_b.length x_b_c3] w0 (Ret w0 (fun R => .bool R) R) := by
 rw [zdf] at hm
 have hF : zC [] := ze
 have hO : Dk.Own w0 [] w0 [] := Dk.Own.refl w0
 refine S.enter tb Tryz.func28 rfl Tryz.ntmps28 rfl ?_ hO hm
 refine br rfl (fun hc3 => ?_) fun hc3 => ?_
 exact rt Tryz.results28 rfl
 refine lv [0, 1] [] (fun J E L k => ∃ (i7 : Int), J ((5, int i7) :: E) (L) (zaF x_a x_b k i7)) rfl (fun _ _ j => ⟨0, j rfl⟩) ?_
 rintro n1 a w ⟨i7, hf, hO, hm⟩
 obtain _ | n1 := n1
 rw [zaF] at hm
 cases hm
 rw [zaF] at hm
 refine S.co tb ?_ hf hO hm
 refine br rfl (fun hc9 => ?_) fun hc9 => ?_
 refine rc_ rfl fun a w hf hO hm => ?_
 refine zbV (by kernel_rfl) (by kernel_rfl) hO ?_
 refine zk (fun w hO => zs hf rfl) rfl hf rfl rfl fun a hf => ?_
 refine zk (fun w hO => zs hf rfl) rfl hf rfl rfl fun a hf => ?_
 obtain ⟨x11, hx11, hm⟩ := ob hm
 obtain ⟨b12, o13, p14, c15, hix11, hSx11, hVx11, hCx11⟩ := zjl (enc := zc) (xss := x_a) 61 Tryz.underlying61 sz_49 (hO.at0 hn0) hx11
 refine zk (fun w hO => zm hix11 hf rfl rfl) rfl hf rfl rfl fun a hf => ?_
 refine zk (fun w hO => zo (o := 0) ag_49 (hSx11 _ (hO.at0 hn0)) rfl hf rfl) rfl hf rfl rfl fun a hf => ?_
 refine zk (fun w hO => zs hf rfl) rfl hf rfl rfl fun a hf => ?_
 refine zk (fun w hO => zs hf rfl) rfl hf rfl rfl fun a hf => ?_
 obtain ⟨x16, hx16, hm⟩ := ob hm
 obtain ⟨b17, o18, p19, c20, hix16, hSx16, hVx16, hCx16⟩ := zjl (enc := zc) (xss := x_b) 61 Tryz.underlying61 sz_49 (hO.at0 hn1) hx16
 refine zk (fun w hO => zm hix16 hf rfl rfl) rfl hf rfl rfl fun a hf => ?_
 refine zk (fun w hO => zo (o := 0) ag_49 (hSx16 _ (hO.at0 hn1)) rfl hf rfl) rfl hf rfl rfl fun a hf => ?_
 obtain ⟨r21, hr21, hm⟩ := ob hm
 refine ziW (fun w hO => zl c_22 hf (vs := [.slice p14 x11.length c15, .slice p19 x16.length c20]) rfl) rfl hf rfl rfl (fun w hO => (zfg x11 x16 r21 _ (hG.own hF hO) (hVx11 _ (hO.at0 hn0)) hCx11 (hVx16 _ (hO.at0 hn1)) hCx16 hr21).mono fun e w' ⟨he, hb⟩ => ⟨he, hO.grow hb⟩) fun a hf => ?_
 refine zk (fun w hO => zkj hf rfl) rfl hf rfl rfl fun a hf => ?_
 refine wpQuiet_nil ?_
 intro w hO
 refine S.no tb ?_ hf hO hm
 refine br rfl (fun hc23 => ?_) fun hc23 => ?_
 exact rt Tryz.results28 rfl
 refine bi rfl fun i26 hi26 => ?_
 exact en rfl fun _ _ j => ⟨_, Nat.lt_succ_self _, i26, j rfl⟩
 exact rt Tryz.results28 rfl

theorem zdR (x_a0 : Str) (x_a1 : Str) (R : Bool) (w0 : World) (hG : za6 w0) (hm : zaY x_a0 x_a1 = some R) :
    Calls Tryz.prog 5 #[str x_a0, str x_a1] w0 (Ret w0 (fun R => .bool R) R) := by
 rw [zaY] at hm
 have hF : zC [] := ze
 have hO : Dk.Own w0 [] w0 [] := Dk.Own.refl w0
 refine S.enter tb Tryz.func5 rfl Tryz.ntmps5 rfl ?_ hO hm
 refine cl c_17 rfl (fun r2 w hr2 hO => zhx r2 _ (hG.own hF hO) hr2) fun r2 hr2 => ?_
 refine br rfl (fun hc4 => ?_) fun hc4 => ?_
 exact rt Tryz.results5 rfl
 refine rc_ rfl fun a w hf hO hm => ?_
 refine zbV (by kernel_rfl) (by kernel_rfl) hO ?_
 refine zk (fun w hO => zs hf rfl) rfl hf rfl rfl fun a hf => ?_
 refine zk (fun w hO => zs hf rfl) rfl hf rfl rfl fun a hf => ?_
 refine zk (fun w hO => zg0 (l := x_a0) Tryz.underlying9 hf rfl) rfl hf rfl rfl fun a hf => ?_
 refine zk (fun w hO => zkq (m := (x_a0.length : Int)) (n := 200) hf rfl rfl) rfl hf rfl rfl fun a hf => ?_
 obtain ⟨s7, hs7, hm⟩ := ob hm
 refine zk (fun w hO => zhZ (l := x_a0) Tryz.underlying9 hf rfl rfl hs7) rfl hf rfl rfl fun a hf => ?_
 refine zk (fun w hO => zs hf rfl) rfl hf rfl rfl fun a hf => ?_
 refine zk (fun w hO => zs hf rfl) rfl hf rfl rfl fun a hf => ?_
 refine zk (fun w hO => zg0 (l := x_a1) Tryz.underlying9 hf rfl) rfl hf rfl rfl fun a hf => ?_
 refine zk (fun w hO => zkq (m := (x_a1.length : Int)) (n := 200) hf rfl rfl) rfl hf rfl rfl fun a hf => ?_
 obtain ⟨s8, hs8, hm⟩ := ob hm
 refine zk (fun w hO => zhZ (l := x_a1) Tryz.underlying9 hf rfl rfl hs8) rfl hf rfl rfl fun a hf => ?_
 refine zk (fun w hO => zba hf rfl) rfl hf rfl rfl fun a hf => ?_
 refine zk (fun w hO => zba hf rfl) rfl hf rfl rfl fun a hf => ?_
 refine wpQuiet_nil ?_
 intro w hO
 refine S.no tb ?_ hf hO hm
 refine rw_ rfl fun a w hf hO hm => ?_
 obtain ⟨r10, hr10, hm⟩ := ob hm
 refine zj (zl c_21 hf (vs := [str s7]) rfl) rfl hf rfl rfl (zdj s7 r10 _ (hG.own hF hO).1 hr10) ?_
 rintro e w' ⟨p11, c12, he, hO'⟩
 refine ⟨_, he, fun a hf => ?_⟩
 have hO := hO.call hO' (by simp [Res.shared])
 refine S.op tb ?_ hf hO hm
 refine rw_ rfl fun a w hf hO hm => ?_
 obtain ⟨r14, hr14, hm⟩ := ob hm
 refine zj (zl c_25 hf (vs := [str s7]) rfl) rfl hf rfl rfl (zeQ s7 r14 _ (hG.own hF hO).1 hr14) ?_
 rintro e w' ⟨p15, c16, he, hO'⟩
 refine ⟨_, he, fun a hf => ?_⟩
 have hO := hO.call hO' (by simp [Res.shared])
 refine S.op tb ?_ hf hO hm
 refine rw_ rfl fun a w hf hO hm => ?_
 refine zi (vs := [(0, str s7), (1, str s8)]) (cs := [str s7, str s8]) (e := 9) (sz := 1) hf rfl rfl (fun w => by kernel_rfl) rfl rfl hO fun a b18 w hf hO => ?_
 refine S.op tb ?_ hf hO hm
 refine rw_ rfl fun a w hf hO hm => ?_
 obtain ⟨r19, hr19, hm⟩ := ob hm
 refine zj (zl c_26 hf (vs := [.slice (some ⟨b18, 0, none⟩) (([s7, s8] : List Str).length) 2]) rfl) rfl hf rfl rfl (zfZ ([s7, s8] : List Str) r19 _ (hG.own hF hO).1 (hO.rowSees (i := 0) rfl) (hO.rowCap (i := 0) rfl) hr19) ?_
 rintro e w' ⟨p20, c21, g22, he, hO'⟩
 refine ⟨_, he, fun a hf => ?_⟩
 have hO := hO.call hO' (by simp [Res.shared])
 refine S.op tb ?_ hf hO hm
 refine rw_ rfl fun a w hf hO hm => ?_
 refine zi (vs := [(0, str s7), (1, str s8)]) (cs := [str s7, str s8]) (e := 9) (sz := 1) hf rfl rfl (fun w => by kernel_rfl) rfl rfl hO fun a b24 w hf hO => ?_
 refine S.op tb ?_ hf hO hm
 refine rw_ rfl fun a w hf hO hm => ?_
 obtain ⟨r25, hr25, hm⟩ := ob hm
 refine zj (zl c_27 hf (vs := [.slice (some ⟨b24, 0, none⟩) (([s7, s8] : List Str).length) 2]) rfl) rfl hf rfl rfl (zh5 ([s7, s8] : List Str) r25 _ (hG.own hF hO).1 (hO.rowSees (i := 0) rfl) (hO.rowCap (i := 0) rfl) hr25) ?_
 rintro e w' ⟨p26, c27, g28, he, hO'⟩
 refine ⟨_, he, fun a hf => ?_⟩
 have hO := hO.call hO' (by simp [Res.shared])
 refine S.op tb ?_ hf hO hm
 refine jv 0 [] [0, 1, 2, 3, 4, 5] (fun J E L => ∃ (t35 : Bool), J ((4, .bool t35) :: E) (L) (zA t35)) rfl ?_ ?_
 refine cl c_22 rfl (fun r30 w hr30 hO => zfg r10.1 r14.1 r30 _ (hG.own hF hO).1 (hO.rowSees (i := 5) rfl) (hO.rowCap (i := 5) rfl) (hO.rowSees (i := 4) rfl) (hO.rowCap (i := 4) rfl) hr30) fun r30 hr30 => ?_
 refine br rfl (fun hc31 => ?_) fun hc31 => ?_
 refine br rfl (fun hc32 => ?_) fun hc32 => ?_
 refine cl c_28 rfl (fun r33 w hr33 hO => zh6 r19.1 r25.1 r33 _ (hG.own hF hO).1 (hO.get (i := 2) rfl) (hO.get (i := 0) rfl) hr33) fun r33 hr33 => ?_
 refine br rfl (fun hc34 => ?_) fun hc34 => ?_
 exact en rfl fun _ _ j => ⟨r19.2 == r25.2, j rfl⟩
 exact en rfl fun _ _ j => ⟨false, j rfl⟩
 exact en rfl fun _ _ j => ⟨false, j rfl⟩
 exact en rfl fun _ _ j => ⟨false, j rfl⟩
 rintro a w ⟨t35, hf, hO, hm⟩
 rw [zA] at hm
 refine S.co tb ?_ hf hO hm
 exact rt Tryz.results5 rfl

end Go.Proofs
