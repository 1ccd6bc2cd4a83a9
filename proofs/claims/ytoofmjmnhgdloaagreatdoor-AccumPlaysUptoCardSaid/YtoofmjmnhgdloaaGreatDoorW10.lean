/-
  Walks, written by a program (wip/gen): what its model says, the function returns; what was there before is as it was.
-/
import Derived.Test.YtoofmjmnhgdloaaGreatDoorLib
import Derived.Test.YtoofmjmnhgdloaaGreatDoorW4
import Derived.Test.YtoofmjmnhgdloaaGreatDoorW8
import Derived.Test.YtoofmjmnhgdloaaGreatDoorW9
set_option linter.unusedVariables false
set_option maxHeartbeats 1000000
set_option linter.unusedSimpArgs false
set_option maxRecDepth 100000
namespace Go.Proofs
open Go.Dk Go.Dm Go.RowKit

theorem znA (x_l : List api_Field) (x_name : Str) (R : List Str) (w0 : World) (hG : zD w0) {x_l_p0 : Option Addr} {x_l_c0 : Nat} (hs0 : zaw w0 x_l_p0 (cells za x_l)) (hc0 : x_l.length ≤ x_l_c0) (hm : zeL x_l x_name = some R) :
    Calls Tryz.prog 79 #[.slice x_l_p0 x_l.length x_l_c0, str x_name] w0 fun e w' => ∃ (p0 : Option Addr) (c0 : Nat), e = .returned (.slice p0 R.length c0) ∧ Dk.Own w0 [] w' [.row (.slice p0 R.length c0) 9 1 R.length (cells zj R)] := by
 rw [zeL] at hm
 have hF : zG [] := zg
 have hO : Dk.Own w0 [] w0 [] := Dk.Own.refl w0
 have hO := hO.addShr hs0 (by simp [Res.shared])
 refine S.enter tb Tryz.func79 rfl Tryz.ntmps79 rfl ?_ hO hm
 refine nl 9 1 ?_
 refine nl 9 1 ?_
 refine lp (fun k a w => ∃ (p4 : Option Addr) (c5 : Nat) (l6 : List Str) (i7 : Int), Fits 28 [(0, .slice x_l_p0 x_l.length x_l_c0), (1, str x_name), (5, .slice p4 l6.length c5), (6, int i7)] a ∧ Dk.Own w0 [] w [.row (.slice p4 l6.length c5) 9 1 l6.length (cells zj l6), .row (.slice none 0 0) 9 1 0 (cells zj []), .shr x_l_p0 (cells za x_l)] ∧ za0 x_l x_name k l6 i7 = some R) rfl (fun a w hf hO hm => ⟨none, 0, [], 0, hf.sel rfl, hO, hm⟩) ?_
 rintro n1 a w ⟨p4, c5, l6, i7, hf, hO, hm⟩
 obtain _ | n1 := n1
 rw [za0] at hm
 cases hm
 rw [za0] at hm
 refine S.co tb ?_ hf hO hm
 refine br rfl (fun hc9 => ?_) fun hc9 => ?_
 refine jn 3 (fun a w => ∃ (p24 : Option Addr) (c25 : Nat) (l26 : List Str), Fits 28 [(0, .slice x_l_p0 x_l.length x_l_c0), (1, str x_name), (5, .slice p24 l26.length c25), (6, int i7)] a ∧ Dk.Own w0 [] w [.row (.slice p24 l26.length c25) 9 1 l26.length (cells zj l26), .row (.slice none 0 0) 9 1 0 (cells zj []), .shr x_l_p0 (cells za x_l)] ∧ zdL (za0 x_l x_name n1) i7 l26 = some R) rfl ?_ ?_
 refine rw_ rfl fun a w hf hO hm => ?_
 obtain ⟨x11, hx11, hm⟩ := ob hm
 obtain ⟨b12, o13, hix11, hSx11⟩ := zh1 (enc := za) (sz := 2) (xs := x_l) 33 Tryz.underlying33 zbt (by decide) (fun _ => rfl) (hO.sees (i := 2) rfl) hx11
 refine zaL (zw hix11 hf rfl rfl) rfl hf rfl rfl fun a hf => ?_
 refine S.op tb ?_ hf hO hm
 refine vl rfl rfl (fun a w hf hO => zu (o := 0) (vs := [str x11.Name, str x11.Value]) zf3 zbt (hSx11 _ (hO.sees (i := 2) rfl)) rfl rfl hf rfl) ?_
 refine cl c_125 rfl (fun r14 w hr14 hO => zqW x11 x_name r14 _ (hG.own hF hO) hr14) fun r14 hr14 => ?_
 refine br rfl (fun hc16 => ?_) fun hc16 => ?_
 refine rw_ rfl fun a w hf hO hm => ?_
 obtain ⟨x17, hx17, hm⟩ := ob hm
 obtain ⟨b18, o19, hix17, hSx17⟩ := zh1 (enc := za) (sz := 2) (xs := x_l) 33 Tryz.underlying33 zbt (by decide) (fun _ => rfl) (hO.sees (i := 2) rfl) hx17
 refine zaL (zw hix17 hf rfl rfl) rfl hf rfl rfl fun a hf => ?_
 refine S.op tb ?_ hf hO hm
 refine vl rfl rfl (fun a w hf hO => zb (o := 1) za6 (hSx17 _ (hO.sees (i := 2) rfl)) rfl hf rfl) ?_
 refine rw_ rfl fun a w hf hO hm => ?_
 refine zS (vs := [(0, str x17.Value)]) (cs := [str x17.Value]) (e := 9) (sz := 1) hf rfl rfl (fun w => by kernel_rfl) rfl rfl hO fun a b20 w hf hO => ?_
 refine S.op tb ?_ hf hO hm
 refine rw_ rfl fun a w hf hO hm => ?_
 obtain ⟨hg23, hm⟩ := og hm
 refine zdD zoE (enc := zj) (xs := l6) (ys := ([x17.Value] : List Str)) (i := 1) (fun _ => rfl) rfl (hO.rowSees (i := 0) rfl) (by simp [cells, zj, Value.oneCell']) hg23 hf rfl rfl rfl hO fun a p21 c22 w hf hO => ?_
 refine S.op tb ?_ hf hO hm
 exact en rfl fun a w hf hO hm => ⟨p21, c22, l6 ++ ([x17.Value] : List Str), hf.sel rfl, (hO.sub (.cons _ (.cons_cons _ (.cons_cons _ (.cons_cons _ .slnil))))), hm⟩
 exact en rfl fun a w hf hO hm => ⟨p4, c5, l6, hf.sel rfl, hO, hm⟩
 rintro a w ⟨p24, c25, l26, hf, hO, hm⟩
 rw [zdL] at hm
 refine S.co tb ?_ hf hO hm
 refine bi rfl fun i27 hi27 => ?_
 exact en rfl fun a w hf hO hm => ⟨_, Nat.lt_succ_self _, p24, c25, l26, i27, hf.sel rfl, hO, hm⟩
 refine re_ rfl fun a w hf hO hm => ?_
 obtain rfl := Option.some.inj hm
 exact zf Tryz.results79 hf (.tmp rfl .nil) ⟨p4, c5, rfl, (hO.sub (.cons_cons _ (.cons _ (.cons _ .slnil))))⟩

theorem zoa (x_h : api_Head) (R : Int) (w0 : World) (hG : zD w0) {x_h_p0 : Option Addr} {x_h_c0 : Nat} (hs0 : zaw w0 x_h_p0 (cells za x_h.Fields)) (hc0 : x_h.Fields.length ≤ x_h_c0) (hm : zgD x_h = some R) :
    Calls Tryz.prog 45 #[.agg #[int x_h.Kind, str x_h.Method, str x_h.Target, int x_h.Code, str x_h.Reason, int x_h.Minor, .slice x_h_p0 x_h.Fields.length x_h_c0]] w0 (Ret w0 (fun R => int R) R) := by
 rw [zgD] at hm
 have hF : zG [] := zg
 have hO : Dk.Own w0 [] w0 [] := Dk.Own.refl w0
 have hO := hO.addShr hs0 (by simp [Res.shared])
 refine S.enter tb Tryz.func45 rfl Tryz.ntmps45 rfl ?_ hO hm
 refine rw_ rfl fun a w hf hO hm => ?_
 refine zeA (v := .agg #[int x_h.Kind, str x_h.Method, str x_h.Target, int x_h.Code, str x_h.Reason, int x_h.Minor, .slice x_h_p0 x_h.Fields.length x_h_c0]) (cs := [int x_h.Kind, str x_h.Method, str x_h.Target, int x_h.Code, str x_h.Reason, int x_h.Minor, .slice x_h_p0 x_h.Fields.length x_h_c0]) rfl hf rfl rfl hO fun a b1 w hf hO => ?_
 refine S.op tb ?_ hf hO hm
 refine vl rfl rfl (fun a w hf hO => zb (o := 6) zkf (hO.blkSees (i := 0) rfl) rfl hf rfl) ?_
 refine br rfl (fun hc4 => ?_) fun hc4 => ?_
 exact rt Tryz.results45 rfl
 refine vl rfl rfl (fun a w hf hO => zb (o := 0) znu (hO.blkSees (i := 0) rfl) rfl hf rfl) ?_
 refine br rfl (fun hc8 => ?_) fun hc8 => ?_
 exact rt Tryz.results45 rfl
 refine vl rfl rfl (fun a w hf hO => zb (o := 6) zkf (hO.blkSees (i := 0) rfl) rfl hf rfl) ?_
 refine rw_ rfl fun a w hf hO hm => ?_
 obtain ⟨r11, hr11, hm⟩ := ob hm
 refine zv (zt c_79 hf (vs := [.slice x_h_p0 x_h.Fields.length x_h_c0, str [104, 111, 115, 116]]) rfl) rfl hf rfl rfl (znA x_h.Fields [104, 111, 115, 116] r11 _ (hG.own hF hO) (hO.sees (i := 1) rfl) hc0 hr11) ?_
 rintro e w' ⟨p12, c13, he, hO'⟩
 refine ⟨_, he, fun a hf => ?_⟩
 have hO := hO.call hO' (by simp [Res.shared])
 refine S.op tb ?_ hf hO hm
 refine jn 1 (fun a w => ∃ (t17 : Bool), Fits 46 [(3, .slice p12 r11.length c13), (28, .bool t17)] a ∧ Dk.Own w0 [] w [.row (.slice p12 r11.length c13) 9 1 r11.length (cells zj r11), .blk b1 [int x_h.Kind, str x_h.Method, str x_h.Target, int x_h.Code, str x_h.Reason, int x_h.Minor, .slice x_h_p0 x_h.Fields.length x_h_c0] 35, .shr x_h_p0 (cells za x_h.Fields)] ∧ zat r11 t17 = some R) rfl ?_ ?_
 refine br rfl (fun hc15 => ?_) fun hc15 => ?_
 exact en rfl fun a w hf hO hm => ⟨true, hf.sel rfl, hO, hm⟩
 refine vl rfl rfl (fun a w hf hO => zb (o := 5) zfz (hO.blkSees (i := 1) rfl) rfl hf rfl) ?_
 refine br rfl (fun hc16 => ?_) fun hc16 => ?_
 exact en rfl fun a w hf hO hm => ⟨(r11.length : Int) == 0, hf.sel rfl, hO, hm⟩
 exact en rfl fun a w hf hO hm => ⟨false, hf.sel rfl, hO, hm⟩
 rintro a w ⟨t17, hf, hO, hm⟩
 rw [zat] at hm
 refine S.co tb ?_ hf hO hm
 refine br rfl (fun hc18 => ?_) fun hc18 => ?_
 exact rt Tryz.results45 rfl
 refine jn 1 (fun a w => ∃ (t25 : Bool), Fits 46 [(3, .slice p12 r11.length c13), (37, .bool t25)] a ∧ Dk.Own w0 [] w [.row (.slice p12 r11.length c13) 9 1 r11.length (cells zj r11), .blk b1 [int x_h.Kind, str x_h.Method, str x_h.Target, int x_h.Code, str x_h.Reason, int x_h.Minor, .slice x_h_p0 x_h.Fields.length x_h_c0] 35, .shr x_h_p0 (cells za x_h.Fields)] ∧ zex r11 t25 = some R) rfl ?_ ?_
 refine br rfl (fun hc21 => ?_) fun hc21 => ?_
 refine rw_ rfl fun a w hf hO hm => ?_
 obtain ⟨x22, hx22, hm⟩ := ob hm
 obtain ⟨b23, o24, hix22, hSx22, hAx22⟩ := zae (enc := zj) (sz := 1) (xs := r11) 31 Tryz.underlying31 zeB (by decide) (fun _ => rfl) hO (i := 0) rfl hx22
 refine zaL (zw hix22 hf rfl rfl) rfl hf rfl rfl fun a hf => ?_
 refine S.op tb ?_ hf hO hm
 refine kn (b' := true) hc21 rfl ?_
 refine vl rfl rfl (fun a w hf hO => zb (o := 0) za6 (hSx22 _ (hO.rowSees (i := 0) rfl)) rfl hf rfl) ?_
 exact en rfl fun a w hf hO hm => ⟨!(x22 == []), hf.sel rfl, hO, hm⟩
 exact en rfl fun a w hf hO hm => ⟨false, hf.sel rfl, hO, hm⟩
 rintro a w ⟨t25, hf, hO, hm⟩
 rw [zex] at hm
 refine S.co tb ?_ hf hO hm
 refine br rfl (fun hc26 => ?_) fun hc26 => ?_
 refine rw_ rfl fun a w hf hO hm => ?_
 obtain ⟨x27, hx27, hm⟩ := ob hm
 obtain ⟨b28, o29, hix27, hSx27, hAx27⟩ := zae (enc := zj) (sz := 1) (xs := r11) 31 Tryz.underlying31 zeB (by decide) (fun _ => rfl) hO (i := 0) rfl hx27
 refine zaL (zw hix27 hf rfl rfl) rfl hf rfl rfl fun a hf => ?_
 refine S.op tb ?_ hf hO hm
 refine vl rfl rfl (fun a w hf hO => zb (o := 0) za6 (hSx27 _ (hO.rowSees (i := 0) rfl)) rfl hf rfl) ?_
 refine cl c_80 rfl (fun r30 w hr30 hO => zhX x27 r30 _ (hG.own hF hO) hr30) fun r30 hr30 => ?_
 refine rw_ rfl fun a w hf hO hm => ?_
 refine zx zfU hf rfl hO fun a b31 w hf hO => ?_
 refine S.op tb ?_ hf hO hm
 refine rw_ rfl fun a w hf hO hm => ?_
 refine zd (i := 0) (n := 3) zW rfl rfl rfl (by simp [Value.oneCell']) hf rfl rfl hO fun w hO => ?_
 refine S.op tb ?_ hf hO hm
 exact rt Tryz.results45 rfl
 exact rt Tryz.results45 rfl

theorem zob (x_a0 : Int) (x_a1 : Str) (x_a2 : Int) (R : api_Head × Int) (w0 : World) (hG : zD w0) (hm : zgE x_a0 x_a1 x_a2 = some R) :
    Calls Tryz.prog 25 #[int x_a0, str x_a1, int x_a2] w0 fun e w' => ∃ (p0 : Option Addr) (c0 : Nat), e = .returned (.tuple #[.agg #[int R.1.Kind, str R.1.Method, str R.1.Target, int R.1.Code, str R.1.Reason, int R.1.Minor, .slice p0 R.1.Fields.length c0], int R.2]) ∧ Dk.Own w0 [] w' [.row (.slice p0 R.1.Fields.length c0) 69 2 R.1.Fields.length (cells za R.1.Fields)] := by
 rw [zgE] at hm
 have hF : zG [] := zg
 have hO : Dk.Own w0 [] w0 [] := Dk.Own.refl w0
 refine S.enter tb Tryz.func25 rfl Tryz.ntmps25 rfl ?_ hO hm
 refine rw_ rfl fun a w hf hO hm => ?_
 refine zx zgH hf rfl hO fun a b1 w hf hO => ?_
 have hO := hO.nilRow 69 2
 refine S.op tb ?_ hf hO hm
 refine jn 1 (fun a w => ∃ (t4 : Bool), Fits 95 [(0, int x_a0), (1, str x_a1), (2, int x_a2), (6, ptr b1 0), (23, .bool t4)] a ∧ Dk.Own w0 [] w [.row (.slice none 0 0) 69 2 0 (cells za []), .blk b1 [int 0, str [], str [], int 0, str [], int 0, .slice none 0 0] 35] ∧ zdm x_a0 x_a1 x_a2 t4 = some R) rfl ?_ ?_
 refine br rfl (fun hc3 => ?_) fun hc3 => ?_
 exact en rfl fun a w hf hO hm => ⟨!(x_a0 == 2), hf.sel rfl, hO, hm⟩
 exact en rfl fun a w hf hO hm => ⟨false, hf.sel rfl, hO, hm⟩
 rintro a w ⟨t4, hf, hO, hm⟩
 rw [zdm] at hm
 refine S.co tb ?_ hf hO hm
 refine br rfl (fun hc5 => ?_) fun hc5 => ?_
 refine vl rfl rfl (fun a w hf hO => zo (vs := []) (v := .agg #[int 0, str [], str [], int 0, str [], int 0, .slice none 0 0]) hf rfl (by kernel_rfl)) ?_
 refine rw_ rfl fun a w hf hO hm => ?_
 refine zd (i := 1) (n := 7) zA rfl rfl rfl (by simp [Value.oneCell']) hf rfl rfl hO fun w hO => ?_
 have hO := hO.nilRow 69 2
 refine S.op tb ?_ hf hO hm
 refine re_ rfl fun a w hf hO hm => ?_
 obtain rfl := Option.some.inj hm
 exact zf Tryz.results25 hf (.cell rfl (zc (n := 7) (vs := [int 0, str [], str [], int 0, str [], int 0, .slice none 0 0]) zau zA rfl ((hO.blkSees (i := 2) rfl).cells (o := 0) (n := 7) rfl)) (.tmp rfl .nil)) ⟨none, 0, rfl, (hO.sub (.cons_cons _ (.cons _ (.cons _ .slnil))))⟩
 refine br rfl (fun hc9 => ?_) fun hc9 => ?_
 refine vl rfl rfl (fun a w hf hO => zo (vs := []) (v := .agg #[int 0, str [], str [], int 0, str [], int 0, .slice none 0 0]) hf rfl (by kernel_rfl)) ?_
 refine rw_ rfl fun a w hf hO hm => ?_
 refine zd (i := 1) (n := 7) zA rfl rfl rfl (by simp [Value.oneCell']) hf rfl rfl hO fun w hO => ?_
 have hO := hO.nilRow 69 2
 refine S.op tb ?_ hf hO hm
 refine re_ rfl fun a w hf hO hm => ?_
 obtain rfl := Option.some.inj hm
 exact zf Tryz.results25 hf (.cell rfl (zc (n := 7) (vs := [int 0, str [], str [], int 0, str [], int 0, .slice none 0 0]) zau zA rfl ((hO.blkSees (i := 2) rfl).cells (o := 0) (n := 7) rfl)) (.tmp rfl .nil)) ⟨none, 0, rfl, (hO.sub (.cons_cons _ (.cons _ (.cons _ .slnil))))⟩
 refine jn 1 (fun a w => ∃ (t14 : Bool), Fits 95 [(0, int x_a0), (1, str x_a1), (6, ptr b1 0), (39, .bool t14)] a ∧ Dk.Own w0 [] w [.row (.slice none 0 0) 69 2 0 (cells za []), .blk b1 [int 0, str [], str [], int 0, str [], int 0, .slice none 0 0] 35] ∧ zdl x_a0 x_a1 t14 = some R) rfl ?_ ?_
 refine br rfl (fun hc12 => ?_) fun hc12 => ?_
 exact en rfl fun a w hf hO hm => ⟨true, hf.sel rfl, hO, hm⟩
 refine cl c_48 rfl (fun r13 w hr13 hO => zqc x_a1 r13 _ (hG.own hF hO) hr13) fun r13 hr13 => ?_
 exact en rfl fun a w hf hO hm => ⟨!(r13 == (x_a1.length : Int)), hf.sel rfl, hO, hm⟩
 rintro a w ⟨t14, hf, hO, hm⟩
 rw [zdl] at hm
 refine S.co tb ?_ hf hO hm
 refine br rfl (fun hc15 => ?_) fun hc15 => ?_
 refine vl rfl rfl (fun a w hf hO => zo (vs := []) (v := .agg #[int 0, str [], str [], int 0, str [], int 0, .slice none 0 0]) hf rfl (by kernel_rfl)) ?_
 refine rw_ rfl fun a w hf hO hm => ?_
 refine zd (i := 1) (n := 7) zA rfl rfl rfl (by simp [Value.oneCell']) hf rfl rfl hO fun w hO => ?_
 have hO := hO.nilRow 69 2
 refine S.op tb ?_ hf hO hm
 refine re_ rfl fun a w hf hO hm => ?_
 obtain rfl := Option.some.inj hm
 exact zf Tryz.results25 hf (.cell rfl (zc (n := 7) (vs := [int 0, str [], str [], int 0, str [], int 0, .slice none 0 0]) zau zA rfl ((hO.blkSees (i := 2) rfl).cells (o := 0) (n := 7) rfl)) (.tmp rfl .nil)) ⟨none, 0, rfl, (hO.sub (.cons_cons _ (.cons _ (.cons _ .slnil))))⟩
 refine vl rfl rfl (fun a w hf hO => zo (vs := []) (v := .agg #[int 0, str [], str [], int 0, str [], int 0, .slice none 0 0]) hf rfl (by kernel_rfl)) ?_
 refine rw_ rfl fun a w hf hO hm => ?_
 refine zx zgH hf rfl hO fun a b18 w hf hO => ?_
 have hO := hO.nilRow 69 2
 refine S.op tb ?_ hf hO hm
 refine rw_ rfl fun a w hf hO hm => ?_
 refine zd (i := 1) (n := 7) zA rfl rfl rfl (by simp [Value.oneCell']) hf rfl rfl hO fun w hO => ?_
 have hO := hO.nilRow 69 2
 refine S.op tb ?_ hf hO hm
 refine jn 0 (fun a w => ∃ (i85 : Int) (s86 : Str) (s87 : Str) (i88 : Int) (s89 : Str) (i90 : Int) (p91 : Option Addr) (c92 : Nat) (l93 : List api_Field), Fits 95 [(6, ptr b1 0), (8, ptr b18 0)] a ∧ Dk.Own w0 [] w [.row (.slice p91 l93.length c92) 69 2 l93.length (cells za l93), .row (.slice none 0 0) 69 2 0 (cells za []), .blk b18 [int i85, str s86, str s87, int i88, str s89, int i90, .slice p91 l93.length c92] 35, .row (.slice none 0 0) 69 2 0 (cells za []), .blk b1 [int 0, str [], str [], int 0, str [], int 0, .slice none 0 0] 35] ∧ zey i85 s86 s87 i88 s89 i90 l93 = some R) rfl ?_ ?_
 refine lp (fun k a w => ∃ (p23 : Option Addr) (c24 : Nat) (l25 : List api_Field) (i26 : Int) (s27 : Str) (s28 : Str) (i29 : Int) (s30 : Str) (i31 : Int) (t32 : Bool) (i33 : Int) (i34 : Int), Fits 95 [(0, int x_a0), (1, str x_a1), (6, ptr b1 0), (8, ptr b18 0), (9, .bool t32), (10, int i33), (11, int i34)] a ∧ Dk.Own w0 [] w [.row (.slice p23 l25.length c24) 69 2 l25.length (cells za l25), .row (.slice none 0 0) 69 2 0 (cells za []), .blk b18 [int i26, str s27, str s28, int i29, str s30, int i31, .slice p23 l25.length c24] 35, .row (.slice none 0 0) 69 2 0 (cells za []), .blk b1 [int 0, str [], str [], int 0, str [], int 0, .slice none 0 0] 35] ∧ zI x_a0 x_a1 k l25 i26 s27 s28 i29 s30 i31 t32 i33 i34 = some R) rfl (fun a w hf hO hm => ⟨none, 0, [], 0, [], [], 0, [], 0, true, 0, 0, hf.sel rfl, hO, hm⟩) ?_
 rintro n3 a w ⟨p23, c24, l25, i26, s27, s28, i29, s30, i31, t32, i33, i34, hf, hO, hm⟩
 obtain _ | n3 := n3
 rw [zI] at hm
 cases hm
 rw [zI] at hm
 refine S.co tb ?_ hf hO hm
 refine bi rfl fun i35 hi35 => ?_
 refine br rfl (fun hc37 => ?_) fun hc37 => ?_
 refine jn 3 (fun a w => ∃ (t73 : Bool) (i74 : Int) (i75 : Int) (s76 : Str) (s77 : Str) (i78 : Int) (s79 : Str) (i80 : Int) (p81 : Option Addr) (c82 : Nat) (l83 : List api_Field), Fits 95 [(0, int x_a0), (1, str x_a1), (6, ptr b1 0), (8, ptr b18 0), (9, .bool t73), (10, int i74), (11, int i34)] a ∧ Dk.Own w0 [] w [.row (.slice none 0 0) 69 2 0 (cells za []), .blk b18 [int i75, str s76, str s77, int i78, str s79, int i80, .slice p81 l83.length c82] 35, .row (.slice none 0 0) 69 2 0 (cells za []), .blk b1 [int 0, str [], str [], int 0, str [], int 0, .slice none 0 0] 35, .row (.slice p81 l83.length c82) 69 2 l83.length (cells za l83)] ∧ zcH (zI x_a0 x_a1 n3) i34 t73 i74 i75 s76 s77 i78 s79 i80 l83 = some R) rfl ?_ ?_
 refine bi rfl fun i39 hi39 => ?_
 refine bi rfl fun s40 hs40 => ?_
 refine br rfl (fun hc42 => ?_) fun hc42 => ?_
 exact en rfl fun a w hf hO hm => ⟨t32, i33, i26, s27, s28, i29, s30, i31, p23, c24, l25, hf.sel rfl, (hO.choose [1, 2, 3, 4, 0] rfl), hm⟩
 refine bi rfl fun s44 hs44 => ?_
 refine bi rfl fun i46 hi46 => ?_
 refine br rfl (fun hc49 => ?_) fun hc49 => ?_
 refine rw_ rfl fun a w hf hO hm => ?_
 obtain ⟨r50, hr50, hm⟩ := ob hm
 refine zv (zt c_35 hf (vs := [int x_a0, str s44]) rfl) rfl hf rfl rfl (zka x_a0 s44 r50 _ (hG.own hF hO) hr50) ?_
 rintro e w' ⟨p51, c52, he, hO'⟩
 refine ⟨_, he, fun a hf => ?_⟩
 have hO := hO.call hO' (by simp [Res.shared])
 refine S.op tb ?_ hf hO hm
 refine rw_ rfl fun a w hf hO hm => ?_
 refine zx zgH hf rfl hO fun a b53 w hf hO => ?_
 have hO := hO.nilRow 69 2
 refine S.op tb ?_ hf hO hm
 refine rw_ rfl fun a w hf hO hm => ?_
 refine zd (i := 1) (n := 7) zA rfl rfl rfl (by simp [Value.oneCell']) hf rfl rfl hO fun w hO => ?_
 refine S.op tb ?_ hf hO hm
 refine br rfl (fun hc56 => ?_) fun hc56 => ?_
 refine vl rfl rfl (fun a w hf hO => zo (vs := []) (v := .agg #[int 0, str [], str [], int 0, str [], int 0, .slice none 0 0]) hf rfl (by kernel_rfl)) ?_
 refine rw_ rfl fun a w hf hO hm => ?_
 refine zd (i := 7) (n := 7) zA rfl rfl rfl (by simp [Value.oneCell']) hf rfl rfl hO fun w hO => ?_
 have hO := hO.nilRow 69 2
 refine S.op tb ?_ hf hO hm
 refine re_ rfl fun a w hf hO hm => ?_
 obtain rfl := Option.some.inj hm
 exact zf Tryz.results25 hf (.cell rfl (zc (n := 7) (vs := [int 0, str [], str [], int 0, str [], int 0, .slice none 0 0]) zau zA rfl ((hO.blkSees (i := 8) rfl).cells (o := 0) (n := 7) rfl)) (.tmp rfl .nil)) ⟨none, 0, rfl, (hO.sub (.cons_cons _ (.cons _ (.cons _ (.cons _ (.cons _ (.cons _ (.cons _ (.cons _ (.cons _ .slnil))))))))))⟩
 refine vl rfl rfl (fun a w hf hO => zu (o := 0) (vs := [int r50.1.Kind, str r50.1.Method, str r50.1.Target, int r50.1.Code, str r50.1.Reason, int r50.1.Minor, .slice p51 r50.1.Fields.length c52]) zau zA (hO.blkSees (i := 1) rfl) rfl rfl hf rfl) ?_
 refine rw_ rfl fun a w hf hO hm => ?_
 refine zd (i := 5) (n := 7) zA rfl rfl rfl (by simp [Value.oneCell']) hf rfl rfl hO fun w hO => ?_
 refine S.op tb ?_ hf hO hm
 exact en rfl fun a w hf hO hm => ⟨false, i46, r50.1.Kind, r50.1.Method, r50.1.Target, r50.1.Code, r50.1.Reason, r50.1.Minor, p51, c52, r50.1.Fields, hf.sel rfl, (hO.choose [4, 5, 6, 7, 2] rfl), hm⟩
 refine cl c_36 rfl (fun r62 w hr62 hO => zkb s44 r62 _ (hG.own hF hO) hr62) fun r62 hr62 => ?_
 refine rw_ rfl fun a w hf hO hm => ?_
 refine zx zoD hf rfl hO fun a b63 w hf hO => ?_
 refine S.op tb ?_ hf hO hm
 refine rw_ rfl fun a w hf hO hm => ?_
 refine zd (i := 0) (n := 2) zbt rfl rfl rfl (by simp [Value.oneCell']) hf rfl rfl hO fun w hO => ?_
 refine S.op tb ?_ hf hO hm
 refine br rfl (fun hc66 => ?_) fun hc66 => ?_
 refine vl rfl rfl (fun a w hf hO => zo (vs := []) (v := .agg #[int 0, str [], str [], int 0, str [], int 0, .slice none 0 0]) hf rfl (by kernel_rfl)) ?_
 refine rw_ rfl fun a w hf hO hm => ?_
 refine zd (i := 5) (n := 7) zA rfl rfl rfl (by simp [Value.oneCell']) hf rfl rfl hO fun w hO => ?_
 have hO := hO.nilRow 69 2
 refine S.op tb ?_ hf hO hm
 refine re_ rfl fun a w hf hO hm => ?_
 obtain rfl := Option.some.inj hm
 exact zf Tryz.results25 hf (.cell rfl (zc (n := 7) (vs := [int 0, str [], str [], int 0, str [], int 0, .slice none 0 0]) zau zA rfl ((hO.blkSees (i := 6) rfl).cells (o := 0) (n := 7) rfl)) (.tmp rfl .nil)) ⟨none, 0, rfl, (hO.sub (.cons_cons _ (.cons _ (.cons _ (.cons _ (.cons _ (.cons _ (.cons _ .slnil))))))))⟩
 refine vl rfl rfl (fun a w hf hO => zb (o := 6) zkf (hO.blkSees (i := 3) rfl) rfl hf rfl) ?_
 refine vl rfl rfl (fun a w hf hO => zu (o := 0) (vs := [str r62.1.Name, str r62.1.Value]) zf3 zbt (hO.blkSees (i := 0) rfl) rfl rfl hf rfl) ?_
 refine rw_ rfl fun a w hf hO hm => ?_
 refine zS (vs := [(0, .agg #[str r62.1.Name, str r62.1.Value])]) (cs := [str r62.1.Name, str r62.1.Value]) (e := 69) (sz := 2) hf rfl rfl (fun w => by kernel_rfl) rfl rfl hO fun a b69 w hf hO => ?_
 refine S.op tb ?_ hf hO hm
 refine rw_ rfl fun a w hf hO hm => ?_
 obtain ⟨hg72, hm⟩ := og hm
 refine zdD zrG (enc := za) (xs := l25) (ys := [r62.1]) (i := 2) (fun _ => rfl) rfl (hO.rowSees (i := 0) rfl) (by simp [cells, za, Value.oneCell']) hg72 hf rfl rfl rfl hO fun a p70 c71 w hf hO => ?_
 refine S.op tb ?_ hf hO hm
 refine rw_ rfl fun a w hf hO hm => ?_
 refine zV (i := 4) (o := 6) (v := .slice p70 ((l25 ++ [r62.1]).length) c71) ztu rfl rfl rfl rfl hf rfl rfl hO fun w hO => ?_
 refine S.op tb ?_ hf hO hm
 exact en rfl fun a w hf hO hm => ⟨t32, i46, i26, s27, s28, i29, s30, i31, p70, c71, l25 ++ [r62.1], hf.sel rfl, (hO.choose [3, 4, 5, 6, 2] rfl), hm⟩
 rintro a w ⟨t73, i74, i75, s76, s77, i78, s79, i80, p81, c82, l83, hf, hO, hm⟩
 rw [zcH] at hm
 refine S.co tb ?_ hf hO hm
 refine bi rfl fun i84 hi84 => ?_
 exact en rfl fun a w hf hO hm => ⟨_, Nat.lt_succ_self _, p81, c82, l83, i75, s76, s77, i78, s79, i80, t73, i74, i84, hf.sel rfl, (hO.choose [4, 0, 1, 2, 3] rfl), hm⟩
 exact en rfl fun a w hf hO hm => ⟨i26, s27, s28, i29, s30, i31, p23, c24, l25, hf.sel rfl, hO, hm⟩
 rintro a w ⟨i85, s86, s87, i88, s89, i90, p91, c92, l93, hf, hO, hm⟩
 rw [zey] at hm
 refine S.co tb ?_ hf hO hm
 refine vl rfl rfl (fun a w hf hO => zu (o := 0) (vs := [int i85, str s86, str s87, int i88, str s89, int i90, .slice p91 l93.length c92]) zau zA (hO.blkSees (i := 2) rfl) rfl rfl hf rfl) ?_
 refine cl c_45 rfl (fun r94 w hr94 hO => zoa (⟨i85, s86, s87, i88, s89, i90, l93⟩ : api_Head) r94 _ (hG.own hF hO) (hO.rowSees (i := 0) rfl) (hO.rowCap (i := 0) rfl) hr94) fun r94 hr94 => ?_
 refine br rfl (fun hc97 => ?_) fun hc97 => ?_
 refine vl rfl rfl (fun a w hf hO => zo (vs := []) (v := .agg #[int 0, str [], str [], int 0, str [], int 0, .slice none 0 0]) hf rfl (by kernel_rfl)) ?_
 refine rw_ rfl fun a w hf hO hm => ?_
 refine zd (i := 4) (n := 7) zA rfl rfl rfl (by simp [Value.oneCell']) hf rfl rfl hO fun w hO => ?_
 have hO := hO.nilRow 69 2
 refine S.op tb ?_ hf hO hm
 refine re_ rfl fun a w hf hO hm => ?_
 obtain rfl := Option.some.inj hm
 exact zf Tryz.results25 hf (.cell rfl (zc (n := 7) (vs := [int 0, str [], str [], int 0, str [], int 0, .slice none 0 0]) zau zA rfl ((hO.blkSees (i := 5) rfl).cells (o := 0) (n := 7) rfl)) (.tmp rfl .nil)) ⟨none, 0, rfl, (hO.sub (.cons_cons _ (.cons _ (.cons _ (.cons _ (.cons _ (.cons _ .slnil)))))))⟩
 refine vl rfl rfl (fun a w hf hO => zu (o := 0) (vs := [int i85, str s86, str s87, int i88, str s89, int i90, .slice p91 l93.length c92]) zau zA (hO.blkSees (i := 2) rfl) rfl rfl hf rfl) ?_
 refine rw_ rfl fun a w hf hO hm => ?_
 refine zd (i := 4) (n := 7) zA rfl rfl rfl (by simp [Value.oneCell']) hf rfl rfl hO fun w hO => ?_
 refine S.op tb ?_ hf hO hm
 refine re_ rfl fun a w hf hO hm => ?_
 obtain rfl := Option.some.inj hm
 exact zf Tryz.results25 hf (.cell rfl (zc (n := 7) (vs := [int i85, str s86, str s87, int i88, str s89, int i90, .slice p91 l93.length c92]) zau zA rfl ((hO.blkSees (i := 4) rfl).cells (o := 0) (n := 7) rfl)) (.tmp rfl .nil)) ⟨p91, c92, rfl, (hO.sub (.cons_cons _ (.cons _ (.cons _ (.cons _ (.cons _ .slnil))))))⟩

theorem zrg (x_a0 : Int) (x_a1 : Int) (x_a2 : Str) (R : ref16_Fate) (w0 : World) (hG : zD w0) (hm : zkX x_a0 x_a1 x_a2 = some R) :
    Calls Tryz.prog 16 #[int x_a0, int x_a1, str x_a2] w0 fun e w' => ∃ (p0 : Option Addr) (c0 : Nat), e = .returned (.agg #[int R.At, int R.Err, int R.Head.Kind, str R.Head.Method, str R.Head.Target, int R.Head.Code, str R.Head.Reason, int R.Head.Minor, .slice p0 R.Head.Fields.length c0]) ∧ Dk.Own w0 [] w' [.row (.slice p0 R.Head.Fields.length c0) 69 2 R.Head.Fields.length (cells za R.Head.Fields)] := by
 rw [zkX] at hm
 have hF : zG [] := zg
 have hO : Dk.Own w0 [] w0 [] := Dk.Own.refl w0
 refine S.enter tb Tryz.func16 rfl Tryz.ntmps16 rfl ?_ hO hm
 refine rw_ rfl fun a w hf hO hm => ?_
 refine zx al_44 hf rfl hO fun a b1 w hf hO => ?_
 have hO := hO.nilRow 69 2
 refine S.op tb ?_ hf hO hm
 refine lp (fun k a w => ∃ (i5 : Int) (i6 : Int), Fits 109 [(0, int x_a0), (1, int x_a1), (2, str x_a2), (6, ptr b1 0), (7, int i5), (8, int i6)] a ∧ Dk.Own w0 [] w [.row (.slice none 0 0) 69 2 0 (cells za []), .blk b1 [int 0, int 0, int 0, str [], str [], int 0, str [], int 0, .slice none 0 0] 44] ∧ zaK x_a0 x_a1 x_a2 k i5 i6 = some R) rfl (fun a w hf hO hm => ⟨0, 0, hf.sel rfl, hO, hm⟩) ?_
 rintro n1 a w ⟨i5, i6, hf, hO, hm⟩
 obtain _ | n1 := n1
 rw [zaK] at hm
 cases hm
 rw [zaK] at hm
 refine S.co tb ?_ hf hO hm
 refine br rfl (fun hc8 => ?_) fun hc8 => ?_
 refine jn 3 (fun a w => ∃ (i67 : Int), Fits 109 [(0, int x_a0), (1, int x_a1), (2, str x_a2), (6, ptr b1 0), (7, int i67), (8, int i6)] a ∧ Dk.Own w0 [] w [.row (.slice none 0 0) 69 2 0 (cells za []), .blk b1 [int 0, int 0, int 0, str [], str [], int 0, str [], int 0, .slice none 0 0] 44] ∧ zfu (zaK x_a0 x_a1 x_a2 n1) i6 i67 = some R) rfl ?_ ?_
 refine br rfl (fun hc11 => ?_) fun hc11 => ?_
 refine bi rfl fun i12 hi12 => ?_
 refine vl rfl rfl (fun a w hf hO => zo (vs := [(0, int i12), (1, int 3)]) (v := .agg #[int i12, int 3, int 0, str [], str [], int 0, str [], int 0, .slice none 0 0]) hf rfl (by kernel_rfl)) ?_
 refine rw_ rfl fun a w hf hO hm => ?_
 refine zd (i := 1) (n := 9) zjz rfl rfl rfl (by simp [Value.oneCell']) hf rfl rfl hO fun w hO => ?_
 have hO := hO.nilRow 69 2
 refine S.op tb ?_ hf hO hm
 refine re_ rfl fun a w hf hO hm => ?_
 obtain rfl := Option.some.inj hm
 exact zf Tryz.results16 hf (.cell rfl (zc (n := 9) (vs := [int i12, int 3, int 0, str [], str [], int 0, str [], int 0, .slice none 0 0]) zqq zjz rfl ((hO.blkSees (i := 2) rfl).cells (o := 0) (n := 9) rfl)) .nil) ⟨none, 0, rfl, (hO.sub (.cons_cons _ (.cons _ (.cons _ .slnil))))⟩
 refine jn 5 (fun a w => ∃ (t18 : Bool), Fits 109 [(0, int x_a0), (1, int x_a1), (2, str x_a2), (6, ptr b1 0), (7, int i5), (8, int i6), (9, .bool t18)] a ∧ Dk.Own w0 [] w [.row (.slice none 0 0) 69 2 0 (cells za []), .blk b1 [int 0, int 0, int 0, str [], str [], int 0, str [], int 0, .slice none 0 0] 44] ∧ zez (zaK x_a0 x_a1 x_a2 n1) x_a0 x_a1 x_a2 i5 i6 t18 = some R) rfl ?_ ?_
 refine br rfl (fun hc15 => ?_) fun hc15 => ?_
 refine bi rfl fun i16 hi16 => ?_
 refine bi rfl fun b17 hb17 => ?_
 refine vl rfl rfl (fun a w hf hO => zU (b := b17) (c := 13) hf rfl rfl) ?_
 exact en rfl fun a w hf hO hm => ⟨b17 == 13, hf.sel rfl, hO, hm⟩
 exact en rfl fun a w hf hO hm => ⟨false, hf.sel rfl, hO, hm⟩
 rintro a w ⟨t18, hf, hO, hm⟩
 rw [zez] at hm
 refine S.co tb ?_ hf hO hm
 refine jn 6 (fun a w => ∃ (t26 : Bool), Fits 109 [(0, int x_a0), (1, int x_a1), (2, str x_a2), (6, ptr b1 0), (7, int i5), (8, int i6), (55, .bool t26)] a ∧ Dk.Own w0 [] w [.row (.slice none 0 0) 69 2 0 (cells za []), .blk b1 [int 0, int 0, int 0, str [], str [], int 0, str [], int 0, .slice none 0 0] 44] ∧ zcY (zaK x_a0 x_a1 x_a2 n1) x_a0 x_a1 x_a2 i5 i6 t26 = some R) rfl ?_ ?_
 refine bi rfl fun b19 hb19 => ?_
 refine vl rfl rfl (fun a w hf hO => zU (b := b19) (c := 10) hf rfl rfl) ?_
 refine br rfl (fun hc20 => ?_) fun hc20 => ?_
 refine br rfl (fun hc21 => ?_) fun hc21 => ?_
 exact en rfl fun a w hf hO hm => ⟨true, hf.sel rfl, hO, hm⟩
 refine bi rfl fun b22 hb22 => ?_
 refine vl rfl rfl (fun a w hf hO => zcJ (b := b22) (c := 10) hf rfl rfl) ?_
 refine br rfl (fun hc23 => ?_) fun hc23 => ?_
 exact en rfl fun a w hf hO hm => ⟨t18, hf.sel rfl, hO, hm⟩
 exact en rfl fun a w hf hO hm => ⟨false, hf.sel rfl, hO, hm⟩
 refine bi rfl fun b24 hb24 => ?_
 refine vl rfl rfl (fun a w hf hO => zcJ (b := b24) (c := 10) hf rfl rfl) ?_
 refine br rfl (fun hc25 => ?_) fun hc25 => ?_
 exact en rfl fun a w hf hO hm => ⟨t18, hf.sel rfl, hO, hm⟩
 exact en rfl fun a w hf hO hm => ⟨false, hf.sel rfl, hO, hm⟩
 rintro a w ⟨t26, hf, hO, hm⟩
 rw [zcY] at hm
 refine S.co tb ?_ hf hO hm
 refine br rfl (fun hc27 => ?_) fun hc27 => ?_
 refine bi rfl fun i28 hi28 => ?_
 refine vl rfl rfl (fun a w hf hO => zo (vs := [(0, int i28), (1, int 24)]) (v := .agg #[int i28, int 24, int 0, str [], str [], int 0, str [], int 0, .slice none 0 0]) hf rfl (by kernel_rfl)) ?_
 refine rw_ rfl fun a w hf hO hm => ?_
 refine zd (i := 1) (n := 9) zjz rfl rfl rfl (by simp [Value.oneCell']) hf rfl rfl hO fun w hO => ?_
 have hO := hO.nilRow 69 2
 refine S.op tb ?_ hf hO hm
 refine re_ rfl fun a w hf hO hm => ?_
 obtain rfl := Option.some.inj hm
 exact zf Tryz.results16 hf (.cell rfl (zc (n := 9) (vs := [int i28, int 24, int 0, str [], str [], int 0, str [], int 0, .slice none 0 0]) zqq zjz rfl ((hO.blkSees (i := 2) rfl).cells (o := 0) (n := 9) rfl)) .nil) ⟨none, 0, rfl, (hO.sub (.cons_cons _ (.cons _ (.cons _ .slnil))))⟩
 refine bi rfl fun b31 hb31 => ?_
 refine vl rfl rfl (fun a w hf hO => zcJ (b := b31) (c := 10) hf rfl rfl) ?_
 refine br rfl (fun hc33 => ?_) fun hc33 => ?_
 exact en rfl fun a w hf hO hm => ⟨i5, hf.sel rfl, hO, hm⟩
 refine bi rfl fun i35 hi35 => ?_
 refine bi rfl fun s36 hs36 => ?_
 refine jn 5 (fun a w => ∃ (i60 : Int), Fits 109 [(0, int x_a0), (1, int x_a1), (2, str x_a2), (6, ptr b1 0), (8, int i6), (11, int i60)] a ∧ Dk.Own w0 [] w [.row (.slice none 0 0) 69 2 0 (cells za []), .blk b1 [int 0, int 0, int 0, str [], str [], int 0, str [], int 0, .slice none 0 0] 44] ∧ zfv (zaK x_a0 x_a1 x_a2 n1) i6 i60 = some R) rfl ?_ ?_
 refine br rfl (fun hc40 => ?_) fun hc40 => ?_
 refine rw_ rfl fun a w hf hO hm => ?_
 obtain ⟨r41, hr41, hm⟩ := ob hm
 refine zv (zt c_35 hf (vs := [int x_a0, str s36]) rfl) rfl hf rfl rfl (zka x_a0 s36 r41 _ (hG.own hF hO) hr41) ?_
 rintro e w' ⟨p42, c43, he, hO'⟩
 refine ⟨_, he, fun a hf => ?_⟩
 have hO := hO.call hO' (by simp [Res.shared])
 refine S.op tb ?_ hf hO hm
 refine rw_ rfl fun a w hf hO hm => ?_
 refine zx zgH hf rfl hO fun a b44 w hf hO => ?_
 have hO := hO.nilRow 69 2
 refine S.op tb ?_ hf hO hm
 refine rw_ rfl fun a w hf hO hm => ?_
 refine zd (i := 1) (n := 7) zA rfl rfl rfl (by simp [Value.oneCell']) hf rfl rfl hO fun w hO => ?_
 refine S.op tb ?_ hf hO hm
 exact en rfl fun a w hf hO hm => ⟨r41.2, hf.sel rfl, (hO.sub (.cons _ (.cons _ (.cons _ (.cons_cons _ (.cons_cons _ .slnil)))))), hm⟩
 refine br rfl (fun hc47 => ?_) fun hc47 => ?_
 refine cl c_36 rfl (fun r48 w hr48 hO => zkb s36 r48 _ (hG.own hF hO) hr48) fun r48 hr48 => ?_
 refine rw_ rfl fun a w hf hO hm => ?_
 refine zx zoD hf rfl hO fun a b49 w hf hO => ?_
 refine S.op tb ?_ hf hO hm
 refine rw_ rfl fun a w hf hO hm => ?_
 refine zd (i := 0) (n := 2) zbt rfl rfl rfl (by simp [Value.oneCell']) hf rfl rfl hO fun w hO => ?_
 refine S.op tb ?_ hf hO hm
 exact en rfl fun a w hf hO hm => ⟨r48.2, hf.sel rfl, (hO.sub (.cons _ (.cons_cons _ (.cons_cons _ .slnil)))), hm⟩
 refine bi rfl fun i51 hi51 => ?_
 refine bi rfl fun s52 hs52 => ?_
 refine rw_ rfl fun a w hf hO hm => ?_
 obtain ⟨r53, hr53, hm⟩ := ob hm
 refine zv (zt c_25 hf (vs := [int x_a0, str s52, int x_a1]) rfl) rfl hf rfl rfl (zob x_a0 s52 x_a1 r53 _ (hG.own hF hO) hr53) ?_
 rintro e w' ⟨p54, c55, he, hO'⟩
 refine ⟨_, he, fun a hf => ?_⟩
 have hO := hO.call hO' (by simp [Res.shared])
 refine S.op tb ?_ hf hO hm
 refine rw_ rfl fun a w hf hO hm => ?_
 refine zx zgH hf rfl hO fun a b56 w hf hO => ?_
 have hO := hO.nilRow 69 2
 refine S.op tb ?_ hf hO hm
 refine rw_ rfl fun a w hf hO hm => ?_
 refine zd (i := 1) (n := 7) zA rfl rfl rfl (by simp [Value.oneCell']) hf rfl rfl hO fun w hO => ?_
 refine S.op tb ?_ hf hO hm
 refine bi rfl fun i58 hi58 => ?_
 refine vl rfl rfl (fun a w hf hO => zu (o := 0) (vs := [int r53.1.Kind, str r53.1.Method, str r53.1.Target, int r53.1.Code, str r53.1.Reason, int r53.1.Minor, .slice p54 r53.1.Fields.length c55]) zau zA (hO.blkSees (i := 1) rfl) rfl rfl hf rfl) ?_
 refine vl rfl rfl (fun a w hf hO => zo (vs := [(0, int i58), (1, int r53.2), (2, .agg #[int r53.1.Kind, str r53.1.Method, str r53.1.Target, int r53.1.Code, str r53.1.Reason, int r53.1.Minor, .slice p54 r53.1.Fields.length c55])]) (v := .agg #[int i58, int r53.2, int r53.1.Kind, str r53.1.Method, str r53.1.Target, int r53.1.Code, str r53.1.Reason, int r53.1.Minor, .slice p54 r53.1.Fields.length c55]) hf rfl (by kernel_rfl)) ?_
 refine rw_ rfl fun a w hf hO hm => ?_
 refine zd (i := 4) (n := 9) zjz rfl rfl rfl (by simp [Value.oneCell']) hf rfl rfl hO fun w hO => ?_
 refine S.op tb ?_ hf hO hm
 refine re_ rfl fun a w hf hO hm => ?_
 obtain rfl := Option.some.inj hm
 exact zf Tryz.results16 hf (.cell rfl (zc (n := 9) (vs := [int i58, int r53.2, int r53.1.Kind, str r53.1.Method, str r53.1.Target, int r53.1.Code, str r53.1.Reason, int r53.1.Minor, .slice p54 r53.1.Fields.length c55]) zqq zjz rfl ((hO.blkSees (i := 4) rfl).cells (o := 0) (n := 9) rfl)) .nil) ⟨p54, c55, rfl, (hO.sub (.cons _ (.cons _ (.cons_cons _ (.cons _ (.cons _ .slnil))))))⟩
 rintro a w ⟨i60, hf, hO, hm⟩
 rw [zfv] at hm
 refine S.co tb ?_ hf hO hm
 refine br rfl (fun hc62 => ?_) fun hc62 => ?_
 refine bi rfl fun i63 hi63 => ?_
 refine vl rfl rfl (fun a w hf hO => zo (vs := [(0, int i63), (1, int i60)]) (v := .agg #[int i63, int i60, int 0, str [], str [], int 0, str [], int 0, .slice none 0 0]) hf rfl (by kernel_rfl)) ?_
 refine rw_ rfl fun a w hf hO hm => ?_
 refine zd (i := 1) (n := 9) zjz rfl rfl rfl (by simp [Value.oneCell']) hf rfl rfl hO fun w hO => ?_
 have hO := hO.nilRow 69 2
 refine S.op tb ?_ hf hO hm
 refine re_ rfl fun a w hf hO hm => ?_
 obtain rfl := Option.some.inj hm
 exact zf Tryz.results16 hf (.cell rfl (zc (n := 9) (vs := [int i63, int i60, int 0, str [], str [], int 0, str [], int 0, .slice none 0 0]) zqq zjz rfl ((hO.blkSees (i := 2) rfl).cells (o := 0) (n := 9) rfl)) .nil) ⟨none, 0, rfl, (hO.sub (.cons_cons _ (.cons _ (.cons _ .slnil))))⟩
 refine bi rfl fun i66 hi66 => ?_
 exact en rfl fun a w hf hO hm => ⟨i66, hf.sel rfl, hO, hm⟩
 rintro a w ⟨i67, hf, hO, hm⟩
 rw [zfu] at hm
 refine S.co tb ?_ hf hO hm
 refine bi rfl fun i68 hi68 => ?_
 exact en rfl fun a w hf hO hm => ⟨_, Nat.lt_succ_self _, i67, i68, hf.sel rfl, hO, hm⟩
 refine vl rfl rfl (fun a w hf hO => zo (vs := []) (v := .agg #[int 0, int 0, int 0, str [], str [], int 0, str [], int 0, .slice none 0 0]) hf rfl (by kernel_rfl)) ?_
 refine rw_ rfl fun a w hf hO hm => ?_
 refine zd (i := 1) (n := 9) zjz rfl rfl rfl (by simp [Value.oneCell']) hf rfl rfl hO fun w hO => ?_
 have hO := hO.nilRow 69 2
 refine S.op tb ?_ hf hO hm
 refine re_ rfl fun a w hf hO hm => ?_
 obtain rfl := Option.some.inj hm
 exact zf Tryz.results16 hf (.cell rfl (zc (n := 9) (vs := [int 0, int 0, int 0, str [], str [], int 0, str [], int 0, .slice none 0 0]) zqq zjz rfl ((hO.blkSees (i := 2) rfl).cells (o := 0) (n := 9) rfl)) .nil) ⟨none, 0, rfl, (hO.sub (.cons_cons _ (.cons _ (.cons _ .slnil))))⟩

theorem zkC (x_a : accum_Accum) (R : Int) (w0 : World) (hG : zD w0) {x_a_b0 : Nat} {x_a_p1 : Option Addr} {x_a_c1 : Nat} {x_a_p2 : Option Addr} {x_a_c2 : Nat} (hs0 : zaw w0 (some ⟨x_a_b0, 0, none⟩) [int x_a.f_kind, int x_a.f_limit, .slice x_a_p1 x_a.f_buf.length x_a_c1, int x_a.f_from, .bool x_a.f_took, int x_a.f_bad, .bool x_a.f_whole, int x_a.f_got.Kind, str x_a.f_got.Method, str x_a.f_got.Target, int x_a.f_got.Code, str x_a.f_got.Reason, int x_a.f_got.Minor, .slice x_a_p2 x_a.f_got.Fields.length x_a_c2]) (hs1 : zaw w0 x_a_p1 (cells zh x_a.f_buf)) (hc1 : x_a.f_buf.length ≤ x_a_c1) (hs2 : zaw w0 x_a_p2 (cells za x_a.f_got.Fields)) (hc2 : x_a.f_got.Fields.length ≤ x_a_c2) (hm : zdn x_a = some R) :
    Calls Tryz.prog 17 #[ptr x_a_b0 0] w0 (Ret w0 (fun R => int R) R) := by
 rw [zdn] at hm
 have hF : zG [] := zg
 have hO : Dk.Own w0 [] w0 [] := Dk.Own.refl w0
 have hO := hO.addShr hs0 (by simp [Res.shared])
 have hO := hO.addShr hs1 (by simp [Res.shared])
 have hO := hO.addShr hs2 (by simp [Res.shared])
 refine S.enter tb Tryz.func17 rfl Tryz.ntmps17 rfl ?_ hO hm
 refine vl rfl rfl (fun a w hf hO => zdo Tryz.underlying25 hf rfl rfl) ?_
 refine kn (b' := false) rfl rfl ?_
 refine vl rfl rfl (fun a w hf hO => zb (o := 2) zjy (hO.sees (i := 2) rfl) rfl hf rfl) ?_
 exact rt Tryz.results17 rfl

theorem zmb (x_b : Bool) (R : Int) (w0 : World) (hG : zD w0) (hm : zg2 x_b = some R) :
    Calls Tryz.prog 18 #[.bool x_b] w0 (Ret w0 (fun R => int R) R) := by
 rw [zg2] at hm
 have hF : zG [] := zg
 have hO : Dk.Own w0 [] w0 [] := Dk.Own.refl w0
 refine S.enter tb Tryz.func18 rfl Tryz.ntmps18 rfl ?_ hO hm
 refine br rfl (fun hc3 => ?_) fun hc3 => ?_
 exact rt Tryz.results18 rfl
 exact rt Tryz.results18 rfl

theorem zkD (x_a0 : Int) (x_a1 : Int) (x_a2 : Str × Str) (R : Bool) (w0 : World) (hG : zbB w0) (hm : zeM x_a0 x_a1 x_a2 = some R) :
    Calls Tryz.prog 4 #[int x_a0, int x_a1, .agg #[str x_a2.1, str x_a2.2]] w0 (Ret w0 (fun R => .bool R) R) := by
 rw [zeM] at hm
 have hF : zG [] := zg
 have hO : Dk.Own w0 [] w0 [] := Dk.Own.refl w0
 refine S.enter tb Tryz.func4 rfl Tryz.ntmps4 rfl ?_ hO hm
 refine rw_ rfl fun a w hf hO hm => ?_
 refine zeA (v := .agg #[str x_a2.1, str x_a2.2]) (cs := [str x_a2.1, str x_a2.2]) rfl hf rfl rfl hO fun a b1 w hf hO => ?_
 refine S.op tb ?_ hf hO hm
 refine cl c_8 rfl (fun r3 w hr3 hO => znV r3 _ (hG.own hF hO) hr3) fun r3 hr3 => ?_
 refine br rfl (fun hc5 => ?_) fun hc5 => ?_
 exact rt Tryz.results4 rfl
 refine rw_ rfl fun a w hf hO hm => ?_
 refine zaL (zgo (zrM _) hf rfl rfl) rfl hf rfl rfl fun a hf => ?_
 refine S.op tb ?_ hf hO hm
 refine vl rfl rfl (fun a w hf hO => zb (o := 0) za6 (hO.blkSees (i := 0) rfl) rfl hf rfl) ?_
 refine rw_ rfl fun a w hf hO hm => ?_
 refine zaL (zgo (zrM _) hf rfl rfl) rfl hf rfl rfl fun a hf => ?_
 refine S.op tb ?_ hf hO hm
 refine vl rfl rfl (fun a w hf hO => zb (o := 0) za6 (hO.blkSees (i := 0) rfl) rfl hf rfl) ?_
 refine vl rfl rfl (fun a w hf hO => zrt (m := (x_a2.1.length : Int)) (n := 3000) hf rfl rfl) ?_
 refine bi rfl fun s8 hs8 => ?_
 refine jn 0 (fun a w => (∃ (i18 : Int), Fits 207 [(0, int x_a0), (1, int x_a1), (5, ptr b1 0), (7, str s8), (8, .pointer none), (9, int i18)] a ∧ Dk.Own w0 [] w [.blk b1 [str x_a2.1, str x_a2.2] 42] ∧ zcf x_a0 x_a1 i18 = some R) ∨ (∃ (b29 : Nat) (i30 : Int) (i31 : Int) (i32 : Int) (p33 : Option Addr) (c34 : Nat) (l35 : List UInt8) (i36 : Int) (t37 : Bool) (i38 : Int) (t39 : Bool) (i40 : Int) (s41 : Str) (s42 : Str) (i43 : Int) (s44 : Str) (i45 : Int) (p46 : Option Addr) (c47 : Nat) (l48 : List api_Field), Fits 207 [(0, int x_a0), (1, int x_a1), (5, ptr b1 0), (7, str s8), (8, ptr b29 0), (9, int i30)] a ∧ Dk.Own w0 [] w [.blk b29 [int i31, int i32, .slice p33 l35.length c34, int i36, .bool t37, int i38, .bool t39, int i40, str s41, str s42, int i43, str s44, int i45, .slice p46 l48.length c47] 61, .row (.slice p33 l35.length c34) 5 1 l35.length (cells zh l35), .row (.slice p46 l48.length c47) 69 2 l48.length (cells za l48), .blk b1 [str x_a2.1, str x_a2.2] 42] ∧ zcg x_a0 x_a1 x_a2 s8 i30 i31 i32 l35 i36 t37 i38 t39 i40 s41 s42 i43 s44 i45 l48 = some R)) rfl ?_ ?_
 refine rw_ rfl fun a w hf hO hm => ?_
 obtain ⟨r10, hr10, hm⟩ := ob hm
 refine zv (zt c_9 hf (vs := [int x_a0, int x_a1]) rfl) rfl hf rfl rfl (zma x_a0 x_a1 r10 _ (hG.own hF hO).1 hr10) ?_
 rintro e w' hpost11
 rcases hopt11 : r10.1 with _ | x12
 have hm := zta hopt11 hm
 obtain ⟨he, hb⟩ := zrE hopt11 hpost11
 refine ⟨_, he, fun a hf => ?_⟩
 have hO := hO.grow hb
 refine S.op tb ?_ hf hO hm
 refine en rfl fun a w hf hO hm => ?_
 exact Or.inl ⟨r10.2, hf.sel rfl, hO, hm⟩
 have hm := ztb hopt11 hm
 obtain ⟨b13, p14, c15, p16, c17, he, hO'⟩ := zrF hopt11 hpost11
 refine ⟨_, he, fun a hf => ?_⟩
 have hO := hO.call hO' (by simp [Res.shared])
 refine S.op tb ?_ hf hO hm
 refine en rfl fun a w hf hO hm => ?_
 exact Or.inr (⟨b13, r10.2, x12.f_kind, x12.f_limit, p14, c15, x12.f_buf, x12.f_from, x12.f_took, x12.f_bad, x12.f_whole, x12.f_got.Kind, x12.f_got.Method, x12.f_got.Target, x12.f_got.Code, x12.f_got.Reason, x12.f_got.Minor, p16, c17, x12.f_got.Fields, hf.sel rfl, hO, hm⟩)
 rintro a w (⟨i18, hf, hO, hm⟩ | ⟨b29, i30, i31, i32, p33, c34, l35, i36, t37, i38, t39, i40, s41, s42, i43, s44, i45, p46, c47, l48, hf, hO, hm⟩)
 rw [zcf] at hm
 refine S.co tb ?_ hf hO hm
 refine jn 1 (fun a w => ∃ (t23 : Bool), Fits 207 [(0, int x_a0), (1, int x_a1), (5, ptr b1 0), (7, str s8), (8, .pointer none), (9, int i18), (52, .bool t23)] a ∧ Dk.Own w0 [] w [.blk b1 [str x_a2.1, str x_a2.2] 42] ∧ zaA i18 t23 = some R) rfl ?_ ?_
 refine br rfl (fun hc19 => ?_) fun hc19 => ?_
 refine br rfl (fun hc20 => ?_) fun hc20 => ?_
 exact en rfl fun a w hf hO hm => ⟨true, hf.sel rfl, hO, hm⟩
 refine br rfl (fun hc21 => ?_) fun hc21 => ?_
 exact en rfl fun a w hf hO hm => ⟨true, hf.sel rfl, hO, hm⟩
 exact en rfl fun a w hf hO hm => ⟨decide (65536 < x_a1), hf.sel rfl, hO, hm⟩
 refine br rfl (fun hc22 => ?_) fun hc22 => ?_
 exact en rfl fun a w hf hO hm => ⟨true, hf.sel rfl, hO, hm⟩
 exact en rfl fun a w hf hO hm => ⟨decide (65536 < x_a1), hf.sel rfl, hO, hm⟩
 rintro a w ⟨t23, hf, hO, hm⟩
 rw [zaA] at hm
 refine S.co tb ?_ hf hO hm
 refine br rfl (fun hc24 => ?_) fun hc24 => ?_
 refine vl rfl rfl (fun a w hf hO => zlO Tryz.underlying25 hf rfl rfl) ?_
 refine kn (b' := true) rfl rfl ?_
 exact rt Tryz.results4 rfl
 refine vl rfl rfl (fun a w hf hO => zlO Tryz.underlying25 hf rfl rfl) ?_
 refine kn (b' := true) rfl rfl ?_
 exact rt Tryz.results4 rfl
 rw [zcg] at hm
 refine S.co tb ?_ hf hO hm
 refine jn 1 (fun a w => ∃ (t53 : Bool), Fits 207 [(0, int x_a0), (1, int x_a1), (5, ptr b1 0), (7, str s8), (8, ptr b29 0), (9, int i30), (52, .bool t53)] a ∧ Dk.Own w0 [] w [.blk b29 [int i31, int i32, .slice p33 l35.length c34, int i36, .bool t37, int i38, .bool t39, int i40, str s41, str s42, int i43, str s44, int i45, .slice p46 l48.length c47] 61, .row (.slice p33 l35.length c34) 5 1 l35.length (cells zh l35), .row (.slice p46 l48.length c47) 69 2 l48.length (cells za l48), .blk b1 [str x_a2.1, str x_a2.2] 42] ∧ zaj x_a0 x_a1 x_a2 s8 i30 i31 i32 l35 i36 t37 i38 t39 i40 s41 s42 i43 s44 i45 l48 t53 = some R) rfl ?_ ?_
 refine br rfl (fun hc49 => ?_) fun hc49 => ?_
 refine br rfl (fun hc50 => ?_) fun hc50 => ?_
 exact en rfl fun a w hf hO hm => ⟨true, hf.sel rfl, hO, hm⟩
 refine br rfl (fun hc51 => ?_) fun hc51 => ?_
 exact en rfl fun a w hf hO hm => ⟨true, hf.sel rfl, hO, hm⟩
 exact en rfl fun a w hf hO hm => ⟨decide (65536 < x_a1), hf.sel rfl, hO, hm⟩
 refine br rfl (fun hc52 => ?_) fun hc52 => ?_
 exact en rfl fun a w hf hO hm => ⟨true, hf.sel rfl, hO, hm⟩
 exact en rfl fun a w hf hO hm => ⟨decide (65536 < x_a1), hf.sel rfl, hO, hm⟩
 rintro a w ⟨t53, hf, hO, hm⟩
 rw [zaj] at hm
 refine S.co tb ?_ hf hO hm
 refine br rfl (fun hc54 => ?_) fun hc54 => ?_
 refine vl rfl rfl (fun a w hf hO => zdo Tryz.underlying25 hf rfl rfl) ?_
 refine kn (b' := false) rfl rfl ?_
 exact rt Tryz.results4 rfl
 refine jn 1 (fun a w => ∃ (t59 : Bool), Fits 207 [(0, int x_a0), (1, int x_a1), (5, ptr b1 0), (7, str s8), (8, ptr b29 0), (69, .bool t59)] a ∧ Dk.Own w0 [] w [.blk b29 [int i31, int i32, .slice p33 l35.length c34, int i36, .bool t37, int i38, .bool t39, int i40, str s41, str s42, int i43, str s44, int i45, .slice p46 l48.length c47] 61, .row (.slice p33 l35.length c34) 5 1 l35.length (cells zh l35), .row (.slice p46 l48.length c47) 69 2 l48.length (cells za l48), .blk b1 [str x_a2.1, str x_a2.2] 42] ∧ zby x_a0 x_a1 x_a2 s8 i31 i32 l35 i36 t37 i38 t39 i40 s41 s42 i43 s44 i45 l48 t59 = some R) rfl ?_ ?_
 refine vl rfl rfl (fun a w hf hO => zdo Tryz.underlying25 hf rfl rfl) ?_
 refine kn (b' := false) rfl rfl ?_
 refine br rfl (fun hc57 => ?_) fun hc57 => ?_
 exact en rfl fun a w hf hO hm => ⟨true, hf.sel rfl, hO, hm⟩
 refine cl c_15 rfl (fun r58 w hr58 hO => zeO ((⟨i31, i32, l35, i36, t37, i38, t39, (⟨i40, s41, s42, i43, s44, i45, l48⟩ : api_Head)⟩ : accum_Accum)) r58 _ (hG.own hF hO).1 (hO.blkSees (i := 0) rfl) (hO.rowSees (i := 1) rfl) (hO.rowCap (i := 1) rfl) (hO.rowSees (i := 2) rfl) (hO.rowCap (i := 2) rfl) hr58) fun r58 hr58 => ?_
 exact en rfl fun a w hf hO hm => ⟨!r58, hf.sel rfl, hO, hm⟩
 rintro a w ⟨t59, hf, hO, hm⟩
 rw [zby] at hm
 refine S.co tb ?_ hf hO hm
 refine br rfl (fun hc60 => ?_) fun hc60 => ?_
 exact rt Tryz.results4 rfl
 refine rw_ rfl fun a w hf hO hm => ?_
 obtain ⟨r63, hr63, hm⟩ := ob hm
 refine zv (zt c_16 hf (vs := [int x_a0, int x_a1, str s8]) rfl) rfl hf rfl rfl (zrg x_a0 x_a1 s8 r63 _ (hG.own hF hO).1 hr63) ?_
 rintro e w' ⟨p64, c65, he, hO'⟩
 refine ⟨_, he, fun a hf => ?_⟩
 have hO := hO.call hO' (by simp [Res.shared])
 refine S.op tb ?_ hf hO hm
 refine rw_ rfl fun a w hf hO hm => ?_
 refine zx al_44 hf rfl hO fun a b66 w hf hO => ?_
 have hO := hO.nilRow 69 2
 refine S.op tb ?_ hf hO hm
 refine rw_ rfl fun a w hf hO hm => ?_
 refine zd (i := 1) (n := 9) zjz rfl rfl rfl (by simp [Value.oneCell']) hf rfl rfl hO fun w hO => ?_
 refine S.op tb ?_ hf hO hm
 refine rw_ rfl fun a w hf hO hm => ?_
 refine zaL (zgo (zrN _) hf rfl rfl) rfl hf rfl rfl fun a hf => ?_
 refine S.op tb ?_ hf hO hm
 refine vl rfl rfl (fun a w hf hO => zb (o := 1) za6 (hO.blkSees (i := 6) rfl) rfl hf rfl) ?_
 refine rw_ rfl fun a w hf hO hm => ?_
 refine zaL (zgo (zrN _) hf rfl rfl) rfl hf rfl rfl fun a hf => ?_
 refine S.op tb ?_ hf hO hm
 refine vl rfl rfl (fun a w hf hO => zb (o := 1) za6 (hO.blkSees (i := 6) rfl) rfl hf rfl) ?_
 refine vl rfl rfl (fun a w hf hO => zrt (m := (x_a2.2.length : Int)) (n := 60) hf rfl rfl) ?_
 refine bi rfl fun s69 hs69 => ?_
 refine rw_ rfl fun a w hf hO hm => ?_
 refine ztM (en := zh) (l := s69) (fun _ => rfl) Tryz.underlying9 Tryz.underlying23 Tryz.underlying5 hf rfl rfl hO fun a b70 c71 w hcbb70 hf hO => ?_
 refine S.op tb ?_ hf hO hm
 refine rw_ rfl fun a w hf hO hm => ?_
 obtain ⟨r72, hr72, hm⟩ := ob hm
 refine zv (zt c_11 hf (vs := [str s8, .slice (some ⟨b70, 0, none⟩) s69.length c71]) rfl) rfl hf rfl rfl (zpL s8 s69 r72 _ (hG.own hF hO).1 (hO.sees (i := 0) rfl) hcbb70 hr72) ?_
 rintro e w' ⟨p73, c74, he, hO'⟩
 refine ⟨_, he, fun a hf => ?_⟩
 have hO := hO.call hO' (by simp [Res.shared])
 refine S.op tb ?_ hf hO hm
 refine jn 0 (fun a w => ∃ (i176 : Int) (i177 : Int) (p178 : Option Addr) (c179 : Nat) (l180 : List UInt8) (i181 : Int) (t182 : Bool) (i183 : Int) (t184 : Bool) (i185 : Int) (s186 : Str) (s187 : Str) (i188 : Int) (s189 : Str) (i190 : Int) (p191 : Option Addr) (c192 : Nat) (l193 : List api_Field), Fits 207 [(8, ptr b29 0), (10, ptr b66 0)] a ∧ Dk.Own w0 [] w [.row (.slice p73 r72.length c74) 9 1 r72.length (cells zj r72), .shr (some ⟨b70, 0, none⟩) (cells zh s69), .row (.slice none 0 0) 69 2 0 (cells za []), .blk b66 [int r63.At, int r63.Err, int r63.Head.Kind, str r63.Head.Method, str r63.Head.Target, int r63.Head.Code, str r63.Head.Reason, int r63.Head.Minor, .slice p64 r63.Head.Fields.length c65] 44, .row (.slice p64 r63.Head.Fields.length c65) 69 2 r63.Head.Fields.length (cells za r63.Head.Fields), .blk b29 [int i176, int i177, .slice p178 l180.length c179, int i181, .bool t182, int i183, .bool t184, int i185, str s186, str s187, int i188, str s189, int i190, .slice p191 l193.length c192] 61, .row (.slice p178 l180.length c179) 5 1 l180.length (cells zh l180), .row (.slice p191 l193.length c192) 69 2 l193.length (cells za l193), .blk b1 [str x_a2.1, str x_a2.2] 42] ∧ zcZ r63 i176 i177 l180 i181 t182 i183 t184 i185 s186 s187 i188 s189 i190 l193 = some R) rfl ?_ ?_
 refine lp (fun k a w => ∃ (i77 : Int) (i78 : Int) (p79 : Option Addr) (c80 : Nat) (l81 : List UInt8) (i82 : Int) (t83 : Bool) (i84 : Int) (t85 : Bool) (i86 : Int) (s87 : Str) (s88 : Str) (i89 : Int) (s90 : Str) (i91 : Int) (p92 : Option Addr) (c93 : Nat) (l94 : List api_Field) (i95 : Int) (i96 : Int), Fits 207 [(1, int x_a1), (8, ptr b29 0), (10, ptr b66 0), (11, int i95), (12, .slice p73 r72.length c74), (13, int i96)] a ∧ Dk.Own w0 [] w [.row (.slice p73 r72.length c74) 9 1 r72.length (cells zj r72), .shr (some ⟨b70, 0, none⟩) (cells zh s69), .row (.slice none 0 0) 69 2 0 (cells za []), .blk b66 [int r63.At, int r63.Err, int r63.Head.Kind, str r63.Head.Method, str r63.Head.Target, int r63.Head.Code, str r63.Head.Reason, int r63.Head.Minor, .slice p64 r63.Head.Fields.length c65] 44, .row (.slice p64 r63.Head.Fields.length c65) 69 2 r63.Head.Fields.length (cells za r63.Head.Fields), .blk b29 [int i77, int i78, .slice p79 l81.length c80, int i82, .bool t83, int i84, .bool t85, int i86, str s87, str s88, int i89, str s90, int i91, .slice p92 l94.length c93] 61, .row (.slice p79 l81.length c80) 5 1 l81.length (cells zh l81), .row (.slice p92 l94.length c93) 69 2 l94.length (cells za l94), .blk b1 [str x_a2.1, str x_a2.2] 42] ∧ zs x_a1 r63 r72 k i77 i78 l81 i82 t83 i84 t85 i86 s87 s88 i89 s90 i91 l94 i95 i96 = some R) rfl (fun a w hf hO hm => ⟨i31, i32, p33, c34, l35, i36, t37, i38, t39, i40, s41, s42, i43, s44, i45, p46, c47, l48, 0, 0, hf.sel rfl, hO, hm⟩) ?_
 rintro n6 a w ⟨i77, i78, p79, c80, l81, i82, t83, i84, t85, i86, s87, s88, i89, s90, i91, p92, c93, l94, i95, i96, hf, hO, hm⟩
 obtain _ | n6 := n6
 rw [zs] at hm
 cases hm
 rw [zs] at hm
 refine S.co tb ?_ hf hO hm
 refine br rfl (fun hc98 => ?_) fun hc98 => ?_
 refine jn 3 (fun a w => ∃ (i156 : Int) (i157 : Int) (i158 : Int) (p159 : Option Addr) (c160 : Nat) (l161 : List UInt8) (i162 : Int) (t163 : Bool) (i164 : Int) (t165 : Bool) (i166 : Int) (s167 : Str) (s168 : Str) (i169 : Int) (s170 : Str) (i171 : Int) (p172 : Option Addr) (c173 : Nat) (l174 : List api_Field), Fits 207 [(1, int x_a1), (8, ptr b29 0), (10, ptr b66 0), (11, int i156), (12, .slice p73 r72.length c74), (13, int i96)] a ∧ Dk.Own w0 [] w [.blk b29 [int i157, int i158, .slice p159 l161.length c160, int i162, .bool t163, int i164, .bool t165, int i166, str s167, str s168, int i169, str s170, int i171, .slice p172 l174.length c173] 61, .row (.slice p159 l161.length c160) 5 1 l161.length (cells zh l161), .row (.slice p172 l174.length c173) 69 2 l174.length (cells za l174), .row (.slice p73 r72.length c74) 9 1 r72.length (cells zj r72), .shr (some ⟨b70, 0, none⟩) (cells zh s69), .row (.slice none 0 0) 69 2 0 (cells za []), .blk b66 [int r63.At, int r63.Err, int r63.Head.Kind, str r63.Head.Method, str r63.Head.Target, int r63.Head.Code, str r63.Head.Reason, int r63.Head.Minor, .slice p64 r63.Head.Fields.length c65] 44, .row (.slice p64 r63.Head.Fields.length c65) 69 2 r63.Head.Fields.length (cells za r63.Head.Fields), .blk b1 [str x_a2.1, str x_a2.2] 42] ∧ zbe (zs x_a1 r63 r72 n6) i96 i156 i157 i158 l161 i162 t163 i164 t165 i166 s167 s168 i169 s170 i171 l174 = some R) rfl ?_ ?_
 refine rw_ rfl fun a w hf hO hm => ?_
 obtain ⟨x100, hx100, hm⟩ := ob hm
 obtain ⟨b101, o102, hix100, hSx100, hAx100⟩ := zae (enc := zj) (sz := 1) (xs := r72) 31 Tryz.underlying31 zeB (by decide) (fun _ => rfl) hO (i := 0) rfl hx100
 refine zaL (zw hix100 hf rfl rfl) rfl hf rfl rfl fun a hf => ?_
 refine S.op tb ?_ hf hO hm
 refine vl rfl rfl (fun a w hf hO => zb (o := 0) za6 (hSx100 _ (hO.rowSees (i := 0) rfl)) rfl hf rfl) ?_
 refine rw_ rfl fun a w hf hO hm => ?_
 obtain ⟨r103, hr103, hm⟩ := ob hm
 have hch108 := (show Dk.Own w0 [] _ ([.blk b29 [int i77, int i78, .slice p79 l81.length c80, int i82, .bool t83, int i84, .bool t85, int i86, str s87, str s88, int i89, str s90, int i91, .slice p92 l94.length c93] 61, .row (.slice p79 l81.length c80) 5 1 l81.length (cells zh l81), .row (.slice p92 l94.length c93) 69 2 l94.length (cells za l94)] ++ [.row (.slice p73 r72.length c74) 9 1 r72.length (cells zj r72), .shr (some ⟨b70, 0, none⟩) (cells zh s69), .row (.slice none 0 0) 69 2 0 (cells za []), .blk b66 [int r63.At, int r63.Err, int r63.Head.Kind, str r63.Head.Method, str r63.Head.Target, int r63.Head.Code, str r63.Head.Reason, int r63.Head.Minor, .slice p64 r63.Head.Fields.length c65] 44, .row (.slice p64 r63.Head.Fields.length c65) 69 2 r63.Head.Fields.length (cells za r63.Head.Fields), .blk b1 [str x_a2.1, str x_a2.2] 42]) from hO.choose [5, 6, 7, 0, 1, 2, 3, 4, 8] rfl)
 have hfar108 := Dk.Own.far hch108 rfl hF hG.size
 have hlend108 := hch108.lend (S := []) rfl trivial
 have hcl108 := zfg ((⟨i77, i78, l81, i82, t83, i84, t85, (⟨i86, s87, s88, i89, s90, i91, l94⟩ : api_Head)⟩ : accum_Accum)) x100 r103 _ (hG.own hF hO) hfar108 hlend108 hr103
 refine zv (zt c_10 hf (vs := [ptr b29 0, str x100]) rfl) rfl hf rfl rfl (hcl108) ?_
 rintro e w' ⟨p104, c105, p106, c107, he, hO'⟩
 refine ⟨_, he, fun a hf => ?_⟩
 have hO := hch108.back rfl hO' rfl
 refine S.op tb ?_ hf hO hm
 refine jn 5 (fun a w => ∃ (t111 : Bool), Fits 207 [(1, int x_a1), (8, ptr b29 0), (10, ptr b66 0), (11, int i95), (12, .slice p73 r72.length c74), (13, int i96), (14, int r103.1), (15, .bool r103.2.1), (16, int r103.2.2.1), (17, .bool t111)] a ∧ Dk.Own w0 [] w [.blk b29 [int r103.2.2.2.f_kind, int r103.2.2.2.f_limit, .slice p104 r103.2.2.2.f_buf.length c105, int r103.2.2.2.f_from, .bool r103.2.2.2.f_took, int r103.2.2.2.f_bad, .bool r103.2.2.2.f_whole, int r103.2.2.2.f_got.Kind, str r103.2.2.2.f_got.Method, str r103.2.2.2.f_got.Target, int r103.2.2.2.f_got.Code, str r103.2.2.2.f_got.Reason, int r103.2.2.2.f_got.Minor, .slice p106 r103.2.2.2.f_got.Fields.length c107] 61, .row (.slice p104 r103.2.2.2.f_buf.length c105) 5 1 r103.2.2.2.f_buf.length (cells zh r103.2.2.2.f_buf), .row (.slice p106 r103.2.2.2.f_got.Fields.length c107) 69 2 r103.2.2.2.f_got.Fields.length (cells za r103.2.2.2.f_got.Fields), .row (.slice p73 r72.length c74) 9 1 r72.length (cells zj r72), .shr (some ⟨b70, 0, none⟩) (cells zh s69), .row (.slice none 0 0) 69 2 0 (cells za []), .blk b66 [int r63.At, int r63.Err, int r63.Head.Kind, str r63.Head.Method, str r63.Head.Target, int r63.Head.Code, str r63.Head.Reason, int r63.Head.Minor, .slice p64 r63.Head.Fields.length c65] 44, .row (.slice p64 r63.Head.Fields.length c65) 69 2 r63.Head.Fields.length (cells za r63.Head.Fields), .blk b1 [str x_a2.1, str x_a2.2] 42] ∧ zaB (zs x_a1 r63 r72 n6) x_a1 r63 r72 i95 i96 r103 t111 = some R) rfl ?_ ?_
 refine vl rfl rfl (fun a w hf hO => zb (o := 0) zfz (hO.blkSees (i := 6) rfl) rfl hf rfl) ?_
 refine br rfl (fun hc110 => ?_) fun hc110 => ?_
 refine vl rfl rfl (fun a w hf hO => zb (o := 0) zfz (hO.blkSees (i := 6) rfl) rfl hf rfl) ?_
 exact en rfl fun a w hf hO hm => ⟨decide (r63.At ≤ i95), hf.sel rfl, hO, hm⟩
 exact en rfl fun a w hf hO hm => ⟨false, hf.sel rfl, hO, hm⟩
 rintro a w ⟨t111, hf, hO, hm⟩
 rw [zaB] at hm
 refine S.co tb ?_ hf hO hm
 refine br rfl (fun hc113 => ?_) fun hc113 => ?_
 refine jn 7 (fun a w => ∃ (t116 : Bool), Fits 207 [(1, int x_a1), (8, ptr b29 0), (10, ptr b66 0), (11, int i95), (12, .slice p73 r72.length c74), (13, int i96), (118, .bool t116)] a ∧ Dk.Own w0 [] w [.blk b29 [int r103.2.2.2.f_kind, int r103.2.2.2.f_limit, .slice p104 r103.2.2.2.f_buf.length c105, int r103.2.2.2.f_from, .bool r103.2.2.2.f_took, int r103.2.2.2.f_bad, .bool r103.2.2.2.f_whole, int r103.2.2.2.f_got.Kind, str r103.2.2.2.f_got.Method, str r103.2.2.2.f_got.Target, int r103.2.2.2.f_got.Code, str r103.2.2.2.f_got.Reason, int r103.2.2.2.f_got.Minor, .slice p106 r103.2.2.2.f_got.Fields.length c107] 61, .row (.slice p104 r103.2.2.2.f_buf.length c105) 5 1 r103.2.2.2.f_buf.length (cells zh r103.2.2.2.f_buf), .row (.slice p106 r103.2.2.2.f_got.Fields.length c107) 69 2 r103.2.2.2.f_got.Fields.length (cells za r103.2.2.2.f_got.Fields), .row (.slice p73 r72.length c74) 9 1 r72.length (cells zj r72), .shr (some ⟨b70, 0, none⟩) (cells zh s69), .row (.slice none 0 0) 69 2 0 (cells za []), .blk b66 [int r63.At, int r63.Err, int r63.Head.Kind, str r63.Head.Method, str r63.Head.Target, int r63.Head.Code, str r63.Head.Reason, int r63.Head.Minor, .slice p64 r63.Head.Fields.length c65] 44, .row (.slice p64 r63.Head.Fields.length c65) 69 2 r63.Head.Fields.length (cells za r63.Head.Fields), .blk b1 [str x_a2.1, str x_a2.2] 42] ∧ zbx (zs x_a1 r63 r72 n6) i95 i96 r103 t116 = some R) rfl ?_ ?_
 refine br rfl (fun hc114 => ?_) fun hc114 => ?_
 exact en rfl fun a w hf hO hm => ⟨true, hf.sel rfl, hO, hm⟩
 refine br rfl (fun hc115 => ?_) fun hc115 => ?_
 exact en rfl fun a w hf hO hm => ⟨true, hf.sel rfl, hO, hm⟩
 exact en rfl fun a w hf hO hm => ⟨!(r103.2.2.1 == 8), hf.sel rfl, hO, hm⟩
 rintro a w ⟨t116, hf, hO, hm⟩
 rw [zbx] at hm
 refine S.co tb ?_ hf hO hm
 refine br rfl (fun hc117 => ?_) fun hc117 => ?_
 exact rt Tryz.results4 rfl
 exact en rfl fun a w hf hO hm => ⟨i95, r103.2.2.2.f_kind, r103.2.2.2.f_limit, p104, c105, r103.2.2.2.f_buf, r103.2.2.2.f_from, r103.2.2.2.f_took, r103.2.2.2.f_bad, r103.2.2.2.f_whole, r103.2.2.2.f_got.Kind, r103.2.2.2.f_got.Method, r103.2.2.2.f_got.Target, r103.2.2.2.f_got.Code, r103.2.2.2.f_got.Reason, r103.2.2.2.f_got.Minor, p106, c107, r103.2.2.2.f_got.Fields, hf.sel rfl, hO, hm⟩
 refine rw_ rfl fun a w hf hO hm => ?_
 obtain ⟨x121, hx121, hm⟩ := ob hm
 obtain ⟨b122, o123, hix121, hSx121, hAx121⟩ := zae (enc := zj) (sz := 1) (xs := r72) 31 Tryz.underlying31 zeB (by decide) (fun _ => rfl) hO (i := 3) rfl hx121
 refine zaL (zw hix121 hf rfl rfl) rfl hf rfl rfl fun a hf => ?_
 refine S.op tb ?_ hf hO hm
 refine vl rfl rfl (fun a w hf hO => zb (o := 0) za6 (hSx121 _ (hO.rowSees (i := 3) rfl)) rfl hf rfl) ?_
 refine jn 5 (fun a w => ∃ (t127 : Bool), Fits 207 [(1, int x_a1), (8, ptr b29 0), (10, ptr b66 0), (11, int i95), (12, .slice p73 r72.length c74), (13, int i96), (14, int r103.1), (15, .bool r103.2.1), (16, int r103.2.2.1), (18, int (x121.length : Int)), (19, .bool t127)] a ∧ Dk.Own w0 [] w [.blk b29 [int r103.2.2.2.f_kind, int r103.2.2.2.f_limit, .slice p104 r103.2.2.2.f_buf.length c105, int r103.2.2.2.f_from, .bool r103.2.2.2.f_took, int r103.2.2.2.f_bad, .bool r103.2.2.2.f_whole, int r103.2.2.2.f_got.Kind, str r103.2.2.2.f_got.Method, str r103.2.2.2.f_got.Target, int r103.2.2.2.f_got.Code, str r103.2.2.2.f_got.Reason, int r103.2.2.2.f_got.Minor, .slice p106 r103.2.2.2.f_got.Fields.length c107] 61, .row (.slice p104 r103.2.2.2.f_buf.length c105) 5 1 r103.2.2.2.f_buf.length (cells zh r103.2.2.2.f_buf), .row (.slice p106 r103.2.2.2.f_got.Fields.length c107) 69 2 r103.2.2.2.f_got.Fields.length (cells za r103.2.2.2.f_got.Fields), .row (.slice p73 r72.length c74) 9 1 r72.length (cells zj r72), .shr (some ⟨b70, 0, none⟩) (cells zh s69), .row (.slice none 0 0) 69 2 0 (cells za []), .blk b66 [int r63.At, int r63.Err, int r63.Head.Kind, str r63.Head.Method, str r63.Head.Target, int r63.Head.Code, str r63.Head.Reason, int r63.Head.Minor, .slice p64 r63.Head.Fields.length c65] 44, .row (.slice p64 r63.Head.Fields.length c65) 69 2 r63.Head.Fields.length (cells za r63.Head.Fields), .blk b1 [str x_a2.1, str x_a2.2] 42] ∧ zai (zs x_a1 r63 r72 n6) x_a1 r63 i95 i96 r103 x121 t127 = some R) rfl ?_ ?_
 refine vl rfl rfl (fun a w hf hO => zb (o := 0) zfz (hO.blkSees (i := 6) rfl) rfl hf rfl) ?_
 refine br rfl (fun hc125 => ?_) fun hc125 => ?_
 refine bi rfl fun i126 hi126 => ?_
 refine vl rfl rfl (fun a w hf hO => zb (o := 0) zfz (hO.blkSees (i := 6) rfl) rfl hf rfl) ?_
 exact en rfl fun a w hf hO hm => ⟨decide (r63.At ≤ i126), hf.sel rfl, hO, hm⟩
 exact en rfl fun a w hf hO hm => ⟨false, hf.sel rfl, hO, hm⟩
 rintro a w ⟨t127, hf, hO, hm⟩
 rw [zai] at hm
 refine S.co tb ?_ hf hO hm
 refine jn 5 (fun a w => ∃ (i131 : Int), Fits 207 [(1, int x_a1), (8, ptr b29 0), (10, ptr b66 0), (11, int i95), (12, .slice p73 r72.length c74), (13, int i96), (14, int r103.1), (15, .bool r103.2.1), (16, int r103.2.2.1), (18, int i131), (19, .bool t127)] a ∧ Dk.Own w0 [] w [.blk b29 [int r103.2.2.2.f_kind, int r103.2.2.2.f_limit, .slice p104 r103.2.2.2.f_buf.length c105, int r103.2.2.2.f_from, .bool r103.2.2.2.f_took, int r103.2.2.2.f_bad, .bool r103.2.2.2.f_whole, int r103.2.2.2.f_got.Kind, str r103.2.2.2.f_got.Method, str r103.2.2.2.f_got.Target, int r103.2.2.2.f_got.Code, str r103.2.2.2.f_got.Reason, int r103.2.2.2.f_got.Minor, .slice p106 r103.2.2.2.f_got.Fields.length c107] 61, .row (.slice p104 r103.2.2.2.f_buf.length c105) 5 1 r103.2.2.2.f_buf.length (cells zh r103.2.2.2.f_buf), .row (.slice p106 r103.2.2.2.f_got.Fields.length c107) 69 2 r103.2.2.2.f_got.Fields.length (cells za r103.2.2.2.f_got.Fields), .row (.slice p73 r72.length c74) 9 1 r72.length (cells zj r72), .shr (some ⟨b70, 0, none⟩) (cells zh s69), .row (.slice none 0 0) 69 2 0 (cells za []), .blk b66 [int r63.At, int r63.Err, int r63.Head.Kind, str r63.Head.Method, str r63.Head.Target, int r63.Head.Code, str r63.Head.Reason, int r63.Head.Minor, .slice p64 r63.Head.Fields.length c65] 44, .row (.slice p64 r63.Head.Fields.length c65) 69 2 r63.Head.Fields.length (cells za r63.Head.Fields), .blk b1 [str x_a2.1, str x_a2.2] 42] ∧ zbg (zs x_a1 r63 r72 n6) x_a1 r63 i95 i96 r103 t127 i131 = some R) rfl ?_ ?_
 refine br rfl (fun hc129 => ?_) fun hc129 => ?_
 refine vl rfl rfl (fun a w hf hO => zb (o := 0) zfz (hO.blkSees (i := 6) rfl) rfl hf rfl) ?_
 refine bi rfl fun i130 hi130 => ?_
 exact en rfl fun a w hf hO hm => ⟨i130, hf.sel rfl, hO, hm⟩
 exact en rfl fun a w hf hO hm => ⟨(x121.length : Int), hf.sel rfl, hO, hm⟩
 rintro a w ⟨i131, hf, hO, hm⟩
 rw [zbg] at hm
 refine S.co tb ?_ hf hO hm
 refine bi rfl fun i132 hi132 => ?_
 refine jn 5 (fun a w => ∃ (i137 : Int), Fits 207 [(1, int x_a1), (8, ptr b29 0), (10, ptr b66 0), (11, int i132), (12, .slice p73 r72.length c74), (13, int i96), (14, int r103.1), (15, .bool r103.2.1), (16, int r103.2.2.1), (18, int i131), (19, .bool t127), (20, int i137)] a ∧ Dk.Own w0 [] w [.blk b29 [int r103.2.2.2.f_kind, int r103.2.2.2.f_limit, .slice p104 r103.2.2.2.f_buf.length c105, int r103.2.2.2.f_from, .bool r103.2.2.2.f_took, int r103.2.2.2.f_bad, .bool r103.2.2.2.f_whole, int r103.2.2.2.f_got.Kind, str r103.2.2.2.f_got.Method, str r103.2.2.2.f_got.Target, int r103.2.2.2.f_got.Code, str r103.2.2.2.f_got.Reason, int r103.2.2.2.f_got.Minor, .slice p106 r103.2.2.2.f_got.Fields.length c107] 61, .row (.slice p104 r103.2.2.2.f_buf.length c105) 5 1 r103.2.2.2.f_buf.length (cells zh r103.2.2.2.f_buf), .row (.slice p106 r103.2.2.2.f_got.Fields.length c107) 69 2 r103.2.2.2.f_got.Fields.length (cells za r103.2.2.2.f_got.Fields), .row (.slice p73 r72.length c74) 9 1 r72.length (cells zj r72), .shr (some ⟨b70, 0, none⟩) (cells zh s69), .row (.slice none 0 0) 69 2 0 (cells za []), .blk b66 [int r63.At, int r63.Err, int r63.Head.Kind, str r63.Head.Method, str r63.Head.Target, int r63.Head.Code, str r63.Head.Reason, int r63.Head.Minor, .slice p64 r63.Head.Fields.length c65] 44, .row (.slice p64 r63.Head.Fields.length c65) 69 2 r63.Head.Fields.length (cells za r63.Head.Fields), .blk b1 [str x_a2.1, str x_a2.2] 42] ∧ zbf (zs x_a1 r63 r72 n6) x_a1 r63 i96 r103 t127 i131 i132 i137 = some R) rfl ?_ ?_
 refine br rfl (fun hc136 => ?_) fun hc136 => ?_
 exact en rfl fun a w hf hO hm => ⟨0, hf.sel rfl, hO, hm⟩
 exact en rfl fun a w hf hO hm => ⟨i132, hf.sel rfl, hO, hm⟩
 rintro a w ⟨i137, hf, hO, hm⟩
 rw [zbf] at hm
 refine S.co tb ?_ hf hO hm
 refine jn 5 (fun a w => ∃ (t153 : Bool), Fits 207 [(1, int x_a1), (8, ptr b29 0), (10, ptr b66 0), (11, int i132), (12, .slice p73 r72.length c74), (13, int i96), (184, .bool t153)] a ∧ Dk.Own w0 [] w [.blk b29 [int r103.2.2.2.f_kind, int r103.2.2.2.f_limit, .slice p104 r103.2.2.2.f_buf.length c105, int r103.2.2.2.f_from, .bool r103.2.2.2.f_took, int r103.2.2.2.f_bad, .bool r103.2.2.2.f_whole, int r103.2.2.2.f_got.Kind, str r103.2.2.2.f_got.Method, str r103.2.2.2.f_got.Target, int r103.2.2.2.f_got.Code, str r103.2.2.2.f_got.Reason, int r103.2.2.2.f_got.Minor, .slice p106 r103.2.2.2.f_got.Fields.length c107] 61, .row (.slice p104 r103.2.2.2.f_buf.length c105) 5 1 r103.2.2.2.f_buf.length (cells zh r103.2.2.2.f_buf), .row (.slice p106 r103.2.2.2.f_got.Fields.length c107) 69 2 r103.2.2.2.f_got.Fields.length (cells za r103.2.2.2.f_got.Fields), .row (.slice p73 r72.length c74) 9 1 r72.length (cells zj r72), .shr (some ⟨b70, 0, none⟩) (cells zh s69), .row (.slice none 0 0) 69 2 0 (cells za []), .blk b66 [int r63.At, int r63.Err, int r63.Head.Kind, str r63.Head.Method, str r63.Head.Target, int r63.Head.Code, str r63.Head.Reason, int r63.Head.Minor, .slice p64 r63.Head.Fields.length c65] 44, .row (.slice p64 r63.Head.Fields.length c65) 69 2 r63.Head.Fields.length (cells za r63.Head.Fields), .blk b1 [str x_a2.1, str x_a2.2] 42] ∧ zF (zs x_a1 r63 r72 n6) i96 r103 i132 t153 = some R) rfl ?_ ?_
 refine rc_ rfl fun a w hf hO hm => ?_
 refine zfT (by kernel_rfl) (by kernel_rfl) hO ?_
 refine zn (fun w hO => zp hf rfl) rfl hf rfl rfl fun a hf => ?_
 refine zn (fun w hO => zp hf rfl) rfl hf rfl rfl fun a hf => ?_
 refine zn (fun w hO => zlN (m := r103.1) (n := i131) hf rfl rfl) rfl hf rfl rfl fun a hf => ?_
 refine zn (fun w hO => zp hf rfl) rfl hf rfl rfl fun a hf => ?_
 rcases zbN (!(r103.1 == i131)) with hc138 | hc138
 have hm := it hc138 hm
 refine zq rfl hf rfl rfl (hc138) rfl rfl fun a hf => ?_
 refine zq rfl hf rfl rfl (hc138) rfl rfl fun a hf => ?_
 refine zq rfl hf rfl rfl (hc138) rfl rfl fun a hf => ?_
 refine zq rfl hf rfl rfl (hc138) rfl rfl fun a hf => ?_
 refine zn (fun w hO => zaF hf rfl hc138 rfl) rfl hf rfl rfl fun a hf => ?_
 refine zn (fun w hO => zp hf rfl) rfl hf rfl rfl fun a hf => ?_
 refine zq rfl hf rfl rfl (rfl) rfl rfl fun a hf => ?_
 refine zq rfl hf rfl rfl (rfl) rfl rfl fun a hf => ?_
 refine zq rfl hf rfl rfl (rfl) rfl rfl fun a hf => ?_
 refine zn (fun w hO => zaF hf rfl rfl rfl) rfl hf rfl rfl fun a hf => ?_
 refine zn (fun w hO => zp hf rfl) rfl hf rfl rfl fun a hf => ?_
 refine zq rfl hf rfl rfl (rfl) rfl rfl fun a hf => ?_
 refine zq rfl hf rfl rfl (rfl) rfl rfl fun a hf => ?_
 refine zq rfl hf rfl rfl (rfl) rfl rfl fun a hf => ?_
 refine zgW rfl hf rfl rfl rfl rfl fun a hf => ?_
 refine zgW rfl hf rfl rfl rfl rfl fun a hf => ?_
 refine zgW rfl hf rfl rfl rfl rfl fun a hf => ?_
 refine zq rfl hf rfl rfl (rfl) rfl rfl fun a hf => ?_
 refine zq rfl hf rfl rfl (rfl) rfl rfl fun a hf => ?_
 refine zn (fun w hO => zaF hf rfl rfl rfl) rfl hf rfl rfl fun a hf => ?_
 refine zn (fun w hO => zp hf rfl) rfl hf rfl rfl fun a hf => ?_
 refine zq rfl hf rfl rfl (rfl) rfl rfl fun a hf => ?_
 refine zq rfl hf rfl rfl (rfl) rfl rfl fun a hf => ?_
 refine zq rfl hf rfl rfl (rfl) rfl rfl fun a hf => ?_
 refine zq rfl hf rfl rfl (rfl) rfl rfl fun a hf => ?_
 refine zq rfl hf rfl rfl (rfl) rfl rfl fun a hf => ?_
 refine zq rfl hf rfl rfl (rfl) rfl rfl fun a hf => ?_
 refine zq rfl hf rfl rfl (rfl) rfl rfl fun a hf => ?_
 refine zn (fun w hO => zaF hf rfl rfl rfl) rfl hf rfl rfl fun a hf => ?_
 refine zn (fun w hO => zp hf rfl) rfl hf rfl rfl fun a hf => ?_
 refine zq rfl hf rfl rfl (rfl) rfl rfl fun a hf => ?_
 refine zq rfl hf rfl rfl (rfl) rfl rfl fun a hf => ?_
 refine zq rfl hf rfl rfl (rfl) rfl rfl fun a hf => ?_
 refine zq rfl hf rfl rfl (rfl) rfl rfl fun a hf => ?_
 refine zq rfl hf rfl rfl (rfl) rfl rfl fun a hf => ?_
 refine zn (fun w hO => zaF hf rfl rfl rfl) rfl hf rfl rfl fun a hf => ?_
 refine wpQuiet_nil ?_
 intro w hO
 refine S.no tb ?_ hf hO hm
 exact en rfl fun a w hf hO hm => ⟨true, hf.sel rfl, hO, hm⟩
 have hm := ie hc138 hm
 refine zQ rfl hf rfl rfl (hc138) ?_
 refine zn (fun w hO => zp hf rfl) rfl hf rfl rfl fun a hf => ?_
 refine zQ rfl hf rfl rfl (hc138) ?_
 obtain ⟨r139, hr139, hm⟩ := ob hm
 refine zlB (fun w hO => zt c_17 hf (vs := [ptr b29 0]) rfl) rfl hf rfl rfl (fun w hO => (zkC r103.2.2.2 r139 _ (hG.own hF hO).1 (hO.blkSees (i := 0) rfl) (hO.rowSees (i := 1) rfl) (hO.rowCap (i := 1) rfl) (hO.rowSees (i := 2) rfl) (hO.rowCap (i := 2) rfl) hr139).mono fun e w' ⟨he, hb⟩ => ⟨he, hO.grow hb⟩) fun a hf => ?_
 refine zQ rfl hf rfl rfl (hc138) ?_
 refine zn (fun w hO => zp hf rfl) rfl hf rfl rfl fun a hf => ?_
 refine zQ rfl hf rfl rfl (hc138) ?_
 refine zn (fun w hO => zlN (m := r139) (n := i137) hf rfl rfl) rfl hf rfl rfl fun a hf => ?_
 refine zn (fun w hO => zd1 hf rfl hc138 rfl) rfl hf rfl rfl fun a hf => ?_
 refine zn (fun w hO => zp hf rfl) rfl hf rfl rfl fun a hf => ?_
 rcases zbN (!(r139 == i137)) with hc140 | hc140
 have hm := it hc140 hm
 refine zq rfl hf rfl rfl (hc140) rfl rfl fun a hf => ?_
 refine zq rfl hf rfl rfl (hc140) rfl rfl fun a hf => ?_
 refine zq rfl hf rfl rfl (hc140) rfl rfl fun a hf => ?_
 refine zn (fun w hO => zaF hf rfl hc140 rfl) rfl hf rfl rfl fun a hf => ?_
 refine zn (fun w hO => zp hf rfl) rfl hf rfl rfl fun a hf => ?_
 refine zq rfl hf rfl rfl (rfl) rfl rfl fun a hf => ?_
 refine zq rfl hf rfl rfl (rfl) rfl rfl fun a hf => ?_
 refine zq rfl hf rfl rfl (rfl) rfl rfl fun a hf => ?_
 refine zgW rfl hf rfl rfl rfl rfl fun a hf => ?_
 refine zgW rfl hf rfl rfl rfl rfl fun a hf => ?_
 refine zgW rfl hf rfl rfl rfl rfl fun a hf => ?_
 refine zq rfl hf rfl rfl (rfl) rfl rfl fun a hf => ?_
 refine zq rfl hf rfl rfl (rfl) rfl rfl fun a hf => ?_
 refine zn (fun w hO => zaF hf rfl rfl rfl) rfl hf rfl rfl fun a hf => ?_
 refine zn (fun w hO => zp hf rfl) rfl hf rfl rfl fun a hf => ?_
 refine zq rfl hf rfl rfl (rfl) rfl rfl fun a hf => ?_
 refine zq rfl hf rfl rfl (rfl) rfl rfl fun a hf => ?_
 refine zq rfl hf rfl rfl (rfl) rfl rfl fun a hf => ?_
 refine zq rfl hf rfl rfl (rfl) rfl rfl fun a hf => ?_
 refine zq rfl hf rfl rfl (rfl) rfl rfl fun a hf => ?_
 refine zq rfl hf rfl rfl (rfl) rfl rfl fun a hf => ?_
 refine zq rfl hf rfl rfl (rfl) rfl rfl fun a hf => ?_
 refine zn (fun w hO => zaF hf rfl rfl rfl) rfl hf rfl rfl fun a hf => ?_
 refine zn (fun w hO => zp hf rfl) rfl hf rfl rfl fun a hf => ?_
 refine zq rfl hf rfl rfl (rfl) rfl rfl fun a hf => ?_
 refine zq rfl hf rfl rfl (rfl) rfl rfl fun a hf => ?_
 refine zq rfl hf rfl rfl (rfl) rfl rfl fun a hf => ?_
 refine zq rfl hf rfl rfl (rfl) rfl rfl fun a hf => ?_
 refine zq rfl hf rfl rfl (rfl) rfl rfl fun a hf => ?_
 refine zn (fun w hO => zaF hf rfl rfl rfl) rfl hf rfl rfl fun a hf => ?_
 refine wpQuiet_nil ?_
 intro w hO
 refine S.no tb ?_ hf hO hm
 exact en rfl fun a w hf hO hm => ⟨true, hf.sel rfl, hO, hm⟩
 have hm := ie hc140 hm
 refine zQ rfl hf rfl rfl (hc140) ?_
 refine zn (fun w hO => zp hf rfl) rfl hf rfl rfl fun a hf => ?_
 refine zQ rfl hf rfl rfl (hc140) ?_
 refine zn (fun w hO => zp hf rfl) rfl hf rfl rfl fun a hf => ?_
 refine zQ rfl hf rfl rfl (hc140) ?_
 refine zn (fun w hO => ztX (m := i137) (n := x_a1) hf rfl rfl) rfl hf rfl rfl fun a hf => ?_
 refine zn (fun w hO => zd1 hf rfl hc140 rfl) rfl hf rfl rfl fun a hf => ?_
 refine zn (fun w hO => zp hf rfl) rfl hf rfl rfl fun a hf => ?_
 rcases zbN (decide (x_a1 < i137)) with hc141 | hc141
 have hm := it hc141 hm
 refine zq rfl hf rfl rfl (hc141) rfl rfl fun a hf => ?_
 refine zq rfl hf rfl rfl (hc141) rfl rfl fun a hf => ?_
 refine zq rfl hf rfl rfl (hc141) rfl rfl fun a hf => ?_
 refine zgW rfl hf rfl rfl rfl rfl fun a hf => ?_
 refine zgW rfl hf rfl rfl rfl rfl fun a hf => ?_
 refine zgW rfl hf rfl rfl rfl rfl fun a hf => ?_
 refine zq rfl hf rfl rfl (hc141) rfl rfl fun a hf => ?_
 refine zq rfl hf rfl rfl (hc141) rfl rfl fun a hf => ?_
 refine zn (fun w hO => zaF hf rfl hc141 rfl) rfl hf rfl rfl fun a hf => ?_
 refine zn (fun w hO => zp hf rfl) rfl hf rfl rfl fun a hf => ?_
 refine zq rfl hf rfl rfl (rfl) rfl rfl fun a hf => ?_
 refine zq rfl hf rfl rfl (rfl) rfl rfl fun a hf => ?_
 refine zq rfl hf rfl rfl (rfl) rfl rfl fun a hf => ?_
 refine zq rfl hf rfl rfl (rfl) rfl rfl fun a hf => ?_
 refine zq rfl hf rfl rfl (rfl) rfl rfl fun a hf => ?_
 refine zq rfl hf rfl rfl (rfl) rfl rfl fun a hf => ?_
 refine zq rfl hf rfl rfl (rfl) rfl rfl fun a hf => ?_
 refine zn (fun w hO => zaF hf rfl rfl rfl) rfl hf rfl rfl fun a hf => ?_
 refine zn (fun w hO => zp hf rfl) rfl hf rfl rfl fun a hf => ?_
 refine zq rfl hf rfl rfl (rfl) rfl rfl fun a hf => ?_
 refine zq rfl hf rfl rfl (rfl) rfl rfl fun a hf => ?_
 refine zq rfl hf rfl rfl (rfl) rfl rfl fun a hf => ?_
 refine zq rfl hf rfl rfl (rfl) rfl rfl fun a hf => ?_
 refine zq rfl hf rfl rfl (rfl) rfl rfl fun a hf => ?_
 refine zn (fun w hO => zaF hf rfl rfl rfl) rfl hf rfl rfl fun a hf => ?_
 refine wpQuiet_nil ?_
 intro w hO
 refine S.no tb ?_ hf hO hm
 exact en rfl fun a w hf hO hm => ⟨true, hf.sel rfl, hO, hm⟩
 have hm := ie hc141 hm
 refine zQ rfl hf rfl rfl (hc141) ?_
 refine zn (fun w hO => zp hf rfl) rfl hf rfl rfl fun a hf => ?_
 refine zQ rfl hf rfl rfl (hc141) ?_
 refine zn (fun w hO => zp hf rfl) rfl hf rfl rfl fun a hf => ?_
 refine zQ rfl hf rfl rfl (hc141) ?_
 refine zn (fun w hO => zp hf rfl) rfl hf rfl rfl fun a hf => ?_
 rcases zbN (t127) with hc142 | hc142
 have hm := it hc142 hm
 refine zQ rfl hf rfl rfl (hc142) ?_
 refine zn (fun w hO => zao zmz hf rfl) rfl hf rfl rfl fun a hf => ?_
 refine zQ rfl hf rfl rfl (hc142) ?_
 refine zn (fun w hO => zb (o := 1) zfz (hO.blkSees (i := 6) rfl) rfl hf rfl) rfl hf rfl rfl fun a hf => ?_
 refine zQ rfl hf rfl rfl (hc142) ?_
 refine zn (fun w hO => zpF (m := r63.Err) (n := 0) hf rfl rfl) rfl hf rfl rfl fun a hf => ?_
 refine zQ rfl hf rfl rfl (hc141) ?_
 refine zn (fun w hO => zaF hf rfl hc142 rfl) rfl hf rfl rfl fun a hf => ?_
 refine zQ rfl hf rfl rfl (hc141) ?_
 refine zn (fun w hO => zjK Tryz.underlying4 hf rfl rfl) rfl hf rfl rfl fun a hf => ?_
 refine zn (fun w hO => zd1 hf rfl hc141 rfl) rfl hf rfl rfl fun a hf => ?_
 refine zn (fun w hO => zp hf rfl) rfl hf rfl rfl fun a hf => ?_
 rcases zbN (!(r103.2.1 == (r63.Err == 0))) with hc143 | hc143
 have hm := it hc143 hm
 refine zq rfl hf rfl rfl (hc143) rfl rfl fun a hf => ?_
 refine zq rfl hf rfl rfl (hc143) rfl rfl fun a hf => ?_
 refine zq rfl hf rfl rfl (hc143) rfl rfl fun a hf => ?_
 refine zq rfl hf rfl rfl (hc143) rfl rfl fun a hf => ?_
 refine zq rfl hf rfl rfl (hc143) rfl rfl fun a hf => ?_
 refine zq rfl hf rfl rfl (hc143) rfl rfl fun a hf => ?_
 refine zq rfl hf rfl rfl (hc143) rfl rfl fun a hf => ?_
 refine zn (fun w hO => zaF hf rfl hc143 rfl) rfl hf rfl rfl fun a hf => ?_
 refine zn (fun w hO => zp hf rfl) rfl hf rfl rfl fun a hf => ?_
 refine zq rfl hf rfl rfl (rfl) rfl rfl fun a hf => ?_
 refine zq rfl hf rfl rfl (rfl) rfl rfl fun a hf => ?_
 refine zq rfl hf rfl rfl (rfl) rfl rfl fun a hf => ?_
 refine zq rfl hf rfl rfl (rfl) rfl rfl fun a hf => ?_
 refine zq rfl hf rfl rfl (rfl) rfl rfl fun a hf => ?_
 refine zn (fun w hO => zaF hf rfl rfl rfl) rfl hf rfl rfl fun a hf => ?_
 refine wpQuiet_nil ?_
 intro w hO
 refine S.no tb ?_ hf hO hm
 exact en rfl fun a w hf hO hm => ⟨true, hf.sel rfl, hO, hm⟩
 have hm := ie hc143 hm
 refine zQ rfl hf rfl rfl (hc143) ?_
 refine zn (fun w hO => zp hf rfl) rfl hf rfl rfl fun a hf => ?_
 refine zQ rfl hf rfl rfl (hc143) ?_
 refine zn (fun w hO => zao zmz hf rfl) rfl hf rfl rfl fun a hf => ?_
 refine zQ rfl hf rfl rfl (hc143) ?_
 refine zn (fun w hO => zb (o := 1) zfz (hO.blkSees (i := 6) rfl) rfl hf rfl) rfl hf rfl rfl fun a hf => ?_
 refine zQ rfl hf rfl rfl (hc143) ?_
 refine zn (fun w hO => zp hf rfl) rfl hf rfl rfl fun a hf => ?_
 refine zQ rfl hf rfl rfl (hc143) ?_
 obtain ⟨r144, hr144, hm⟩ := ob hm
 refine zlB (fun w hO => zt c_18 hf (vs := [.bool t127]) rfl) rfl hf rfl rfl (fun w hO => (zmb t127 r144 _ (hG.own hF hO).1 hr144).mono fun e w' ⟨he, hb⟩ => ⟨he, hO.grow hb⟩) fun a hf => ?_
 refine zQ rfl hf rfl rfl (hc143) ?_
 obtain ⟨i145, hi145, hm⟩ := ob hm
 refine zn (fun w hO => zrm hf rfl rfl hi145) rfl hf rfl rfl fun a hf => ?_
 refine zQ rfl hf rfl rfl (hc143) ?_
 refine zn (fun w hO => zlN (m := r103.2.2.1) (n := i145) hf rfl rfl) rfl hf rfl rfl fun a hf => ?_
 refine zn (fun w hO => zd1 hf rfl hc143 rfl) rfl hf rfl rfl fun a hf => ?_
 refine zn (fun w hO => zp hf rfl) rfl hf rfl rfl fun a hf => ?_
 rcases zbN (!(r103.2.2.1 == i145)) with hc146 | hc146
 have hm := it hc146 hm
 refine zq rfl hf rfl rfl (hc146) rfl rfl fun a hf => ?_
 refine zq rfl hf rfl rfl (hc146) rfl rfl fun a hf => ?_
 refine zq rfl hf rfl rfl (hc146) rfl rfl fun a hf => ?_
 refine zq rfl hf rfl rfl (hc146) rfl rfl fun a hf => ?_
 refine zq rfl hf rfl rfl (hc146) rfl rfl fun a hf => ?_
 refine zn (fun w hO => zaF hf rfl hc146 rfl) rfl hf rfl rfl fun a hf => ?_
 refine wpQuiet_nil ?_
 intro w hO
 refine S.no tb ?_ hf hO hm
 exact en rfl fun a w hf hO hm => ⟨true, hf.sel rfl, hO, hm⟩
 have hm := ie hc146 hm
 refine zQ rfl hf rfl rfl (hc146) ?_
 refine zn (fun w hO => zp hf rfl) rfl hf rfl rfl fun a hf => ?_
 refine zQ rfl hf rfl rfl (hc146) ?_
 obtain ⟨r147, hr147, hm⟩ := ob hm
 refine zlB (fun w hO => zt c_15 hf (vs := [ptr b29 0]) rfl) rfl hf rfl rfl (fun w hO => (zeO r103.2.2.2 r147 _ (hG.own hF hO).1 (hO.blkSees (i := 0) rfl) (hO.rowSees (i := 1) rfl) (hO.rowCap (i := 1) rfl) (hO.rowSees (i := 2) rfl) (hO.rowCap (i := 2) rfl) hr147).mono fun e w' ⟨he, hb⟩ => ⟨he, hO.grow hb⟩) fun a hf => ?_
 refine zQ rfl hf rfl rfl (hc146) ?_
 refine zn (fun w hO => zp hf rfl) rfl hf rfl rfl fun a hf => ?_
 refine zQ rfl hf rfl rfl (hc146) ?_
 refine zn (fun w hO => zpF (m := i132) (n := 0) hf rfl rfl) rfl hf rfl rfl fun a hf => ?_
 refine zQ rfl hf rfl rfl (hc146) ?_
 refine zn (fun w hO => zjK Tryz.underlying4 hf rfl rfl) rfl hf rfl rfl fun a hf => ?_
 refine zn (fun w hO => zd1 hf rfl hc146 rfl) rfl hf rfl rfl fun a hf => ?_
 refine wpQuiet_nil ?_
 intro w hO
 refine S.no tb ?_ hf hO hm
 exact en rfl fun a w hf hO hm => ⟨!(r147 == (i132 == 0)), hf.sel rfl, hO, hm⟩
 have hm := ie hc142 hm
 refine zq rfl hf rfl rfl (hc142) rfl rfl fun a hf => ?_
 refine zq rfl hf rfl rfl (hc142) rfl rfl fun a hf => ?_
 refine zq rfl hf rfl rfl (hc142) rfl rfl fun a hf => ?_
 refine zQ rfl hf rfl rfl (hc141) ?_
 refine zn (fun w hO => zd1 hf rfl hc142 rfl) rfl hf rfl rfl fun a hf => ?_
 refine zQ rfl hf rfl rfl (hc141) ?_
 refine zn (fun w hO => zjK Tryz.underlying4 hf rfl rfl) rfl hf rfl rfl fun a hf => ?_
 refine zn (fun w hO => zd1 hf rfl hc141 rfl) rfl hf rfl rfl fun a hf => ?_
 refine zn (fun w hO => zp hf rfl) rfl hf rfl rfl fun a hf => ?_
 rcases zbN (!(r103.2.1 == false)) with hc148 | hc148
 have hm := it hc148 hm
 refine zq rfl hf rfl rfl (hc148) rfl rfl fun a hf => ?_
 refine zq rfl hf rfl rfl (hc148) rfl rfl fun a hf => ?_
 refine zq rfl hf rfl rfl (hc148) rfl rfl fun a hf => ?_
 refine zq rfl hf rfl rfl (hc148) rfl rfl fun a hf => ?_
 refine zq rfl hf rfl rfl (hc148) rfl rfl fun a hf => ?_
 refine zq rfl hf rfl rfl (hc148) rfl rfl fun a hf => ?_
 refine zq rfl hf rfl rfl (hc148) rfl rfl fun a hf => ?_
 refine zn (fun w hO => zaF hf rfl hc148 rfl) rfl hf rfl rfl fun a hf => ?_
 refine zn (fun w hO => zp hf rfl) rfl hf rfl rfl fun a hf => ?_
 refine zq rfl hf rfl rfl (rfl) rfl rfl fun a hf => ?_
 refine zq rfl hf rfl rfl (rfl) rfl rfl fun a hf => ?_
 refine zq rfl hf rfl rfl (rfl) rfl rfl fun a hf => ?_
 refine zq rfl hf rfl rfl (rfl) rfl rfl fun a hf => ?_
 refine zq rfl hf rfl rfl (rfl) rfl rfl fun a hf => ?_
 refine zn (fun w hO => zaF hf rfl rfl rfl) rfl hf rfl rfl fun a hf => ?_
 refine wpQuiet_nil ?_
 intro w hO
 refine S.no tb ?_ hf hO hm
 exact en rfl fun a w hf hO hm => ⟨true, hf.sel rfl, hO, hm⟩
 have hm := ie hc148 hm
 refine zQ rfl hf rfl rfl (hc148) ?_
 refine zn (fun w hO => zp hf rfl) rfl hf rfl rfl fun a hf => ?_
 refine zQ rfl hf rfl rfl (hc148) ?_
 refine zn (fun w hO => zao zmz hf rfl) rfl hf rfl rfl fun a hf => ?_
 refine zQ rfl hf rfl rfl (hc148) ?_
 refine zn (fun w hO => zb (o := 1) zfz (hO.blkSees (i := 6) rfl) rfl hf rfl) rfl hf rfl rfl fun a hf => ?_
 refine zQ rfl hf rfl rfl (hc148) ?_
 refine zn (fun w hO => zp hf rfl) rfl hf rfl rfl fun a hf => ?_
 refine zQ rfl hf rfl rfl (hc148) ?_
 obtain ⟨r149, hr149, hm⟩ := ob hm
 refine zlB (fun w hO => zt c_18 hf (vs := [.bool t127]) rfl) rfl hf rfl rfl (fun w hO => (zmb t127 r149 _ (hG.own hF hO).1 hr149).mono fun e w' ⟨he, hb⟩ => ⟨he, hO.grow hb⟩) fun a hf => ?_
 refine zQ rfl hf rfl rfl (hc148) ?_
 obtain ⟨i150, hi150, hm⟩ := ob hm
 refine zn (fun w hO => zrm hf rfl rfl hi150) rfl hf rfl rfl fun a hf => ?_
 refine zQ rfl hf rfl rfl (hc148) ?_
 refine zn (fun w hO => zlN (m := r103.2.2.1) (n := i150) hf rfl rfl) rfl hf rfl rfl fun a hf => ?_
 refine zn (fun w hO => zd1 hf rfl hc148 rfl) rfl hf rfl rfl fun a hf => ?_
 refine zn (fun w hO => zp hf rfl) rfl hf rfl rfl fun a hf => ?_
 rcases zbN (!(r103.2.2.1 == i150)) with hc151 | hc151
 have hm := it hc151 hm
 refine zq rfl hf rfl rfl (hc151) rfl rfl fun a hf => ?_
 refine zq rfl hf rfl rfl (hc151) rfl rfl fun a hf => ?_
 refine zq rfl hf rfl rfl (hc151) rfl rfl fun a hf => ?_
 refine zq rfl hf rfl rfl (hc151) rfl rfl fun a hf => ?_
 refine zq rfl hf rfl rfl (hc151) rfl rfl fun a hf => ?_
 refine zn (fun w hO => zaF hf rfl hc151 rfl) rfl hf rfl rfl fun a hf => ?_
 refine wpQuiet_nil ?_
 intro w hO
 refine S.no tb ?_ hf hO hm
 exact en rfl fun a w hf hO hm => ⟨true, hf.sel rfl, hO, hm⟩
 have hm := ie hc151 hm
 refine zQ rfl hf rfl rfl (hc151) ?_
 refine zn (fun w hO => zp hf rfl) rfl hf rfl rfl fun a hf => ?_
 refine zQ rfl hf rfl rfl (hc151) ?_
 obtain ⟨r152, hr152, hm⟩ := ob hm
 refine zlB (fun w hO => zt c_15 hf (vs := [ptr b29 0]) rfl) rfl hf rfl rfl (fun w hO => (zeO r103.2.2.2 r152 _ (hG.own hF hO).1 (hO.blkSees (i := 0) rfl) (hO.rowSees (i := 1) rfl) (hO.rowCap (i := 1) rfl) (hO.rowSees (i := 2) rfl) (hO.rowCap (i := 2) rfl) hr152).mono fun e w' ⟨he, hb⟩ => ⟨he, hO.grow hb⟩) fun a hf => ?_
 refine zQ rfl hf rfl rfl (hc151) ?_
 refine zn (fun w hO => zp hf rfl) rfl hf rfl rfl fun a hf => ?_
 refine zQ rfl hf rfl rfl (hc151) ?_
 refine zn (fun w hO => zpF (m := i132) (n := 0) hf rfl rfl) rfl hf rfl rfl fun a hf => ?_
 refine zQ rfl hf rfl rfl (hc151) ?_
 refine zn (fun w hO => zjK Tryz.underlying4 hf rfl rfl) rfl hf rfl rfl fun a hf => ?_
 refine zn (fun w hO => zd1 hf rfl hc151 rfl) rfl hf rfl rfl fun a hf => ?_
 refine wpQuiet_nil ?_
 intro w hO
 refine S.no tb ?_ hf hO hm
 exact en rfl fun a w hf hO hm => ⟨!(r152 == (i132 == 0)), hf.sel rfl, hO, hm⟩
 rintro a w ⟨t153, hf, hO, hm⟩
 rw [zF] at hm
 refine S.co tb ?_ hf hO hm
 refine br rfl (fun hc154 => ?_) fun hc154 => ?_
 exact rt Tryz.results4 rfl
 exact en rfl fun a w hf hO hm => ⟨i132, r103.2.2.2.f_kind, r103.2.2.2.f_limit, p104, c105, r103.2.2.2.f_buf, r103.2.2.2.f_from, r103.2.2.2.f_took, r103.2.2.2.f_bad, r103.2.2.2.f_whole, r103.2.2.2.f_got.Kind, r103.2.2.2.f_got.Method, r103.2.2.2.f_got.Target, r103.2.2.2.f_got.Code, r103.2.2.2.f_got.Reason, r103.2.2.2.f_got.Minor, p106, c107, r103.2.2.2.f_got.Fields, hf.sel rfl, hO, hm⟩
 rintro a w ⟨i156, i157, i158, p159, c160, l161, i162, t163, i164, t165, i166, s167, s168, i169, s170, i171, p172, c173, l174, hf, hO, hm⟩
 rw [zbe] at hm
 refine S.co tb ?_ hf hO hm
 refine bi rfl fun i175 hi175 => ?_
 exact en rfl fun a w hf hO hm => ⟨_, Nat.lt_succ_self _, i157, i158, p159, c160, l161, i162, t163, i164, t165, i166, s167, s168, i169, s170, i171, p172, c173, l174, i156, i175, hf.sel rfl, (hO.choose [3, 4, 5, 6, 7, 0, 1, 2, 8] rfl), hm⟩
 exact en rfl fun a w hf hO hm => ⟨i77, i78, p79, c80, l81, i82, t83, i84, t85, i86, s87, s88, i89, s90, i91, p92, c93, l94, hf.sel rfl, hO, hm⟩
 rintro a w ⟨i176, i177, p178, c179, l180, i181, t182, i183, t184, i185, s186, s187, i188, s189, i190, p191, c192, l193, hf, hO, hm⟩
 rw [zcZ] at hm
 refine S.co tb ?_ hf hO hm
 refine rw_ rfl fun a w hf hO hm => ?_
 obtain ⟨r194, hr194, hm⟩ := ob hm
 refine zv (zt c_12 hf (vs := [ptr b29 0]) rfl) rfl hf rfl rfl (zg6 ((⟨i176, i177, l180, i181, t182, i183, t184, (⟨i185, s186, s187, i188, s189, i190, l193⟩ : api_Head)⟩ : accum_Accum)) r194 _ (hG.own hF hO).1 (hO.blkSees (i := 5) rfl) (hO.rowSees (i := 6) rfl) (hO.rowCap (i := 6) rfl) (hO.rowSees (i := 7) rfl) (hO.rowCap (i := 7) rfl) hr194) ?_
 rintro e w' ⟨p195, c196, he, hO'⟩
 refine ⟨_, he, fun a hf => ?_⟩
 have hO := hO.call hO' (by simp [Res.shared])
 refine S.op tb ?_ hf hO hm
 refine rw_ rfl fun a w hf hO hm => ?_
 refine zx zgH hf rfl hO fun a b197 w hf hO => ?_
 have hO := hO.nilRow 69 2
 refine S.op tb ?_ hf hO hm
 refine rw_ rfl fun a w hf hO hm => ?_
 refine zd (i := 1) (n := 7) zA rfl rfl rfl (by simp [Value.oneCell']) hf rfl rfl hO fun w hO => ?_
 refine S.op tb ?_ hf hO hm
 refine jn 0 (fun a w => ∃ (t200 : Bool), Fits 207 [(10, ptr b66 0), (21, ptr b197 0), (22, .bool r194.2), (23, .bool t200)] a ∧ Dk.Own w0 [] w [.row (.slice none 0 0) 69 2 0 (cells za []), .blk b197 [int r194.1.Kind, str r194.1.Method, str r194.1.Target, int r194.1.Code, str r194.1.Reason, int r194.1.Minor, .slice p195 r194.1.Fields.length c196] 35, .row (.slice p195 r194.1.Fields.length c196) 69 2 r194.1.Fields.length (cells za r194.1.Fields), .row (.slice p73 r72.length c74) 9 1 r72.length (cells zj r72), .shr (some ⟨b70, 0, none⟩) (cells zh s69), .row (.slice none 0 0) 69 2 0 (cells za []), .blk b66 [int r63.At, int r63.Err, int r63.Head.Kind, str r63.Head.Method, str r63.Head.Target, int r63.Head.Code, str r63.Head.Reason, int r63.Head.Minor, .slice p64 r63.Head.Fields.length c65] 44, .row (.slice p64 r63.Head.Fields.length c65) 69 2 r63.Head.Fields.length (cells za r63.Head.Fields), .blk b29 [int i176, int i177, .slice p178 l180.length c179, int i181, .bool t182, int i183, .bool t184, int i185, str s186, str s187, int i188, str s189, int i190, .slice p191 l193.length c192] 61, .row (.slice p178 l180.length c179) 5 1 l180.length (cells zh l180), .row (.slice p191 l193.length c192) 69 2 l193.length (cells za l193), .blk b1 [str x_a2.1, str x_a2.2] 42] ∧ zbh r63 r194 t200 = some R) rfl ?_ ?_
 refine vl rfl rfl (fun a w hf hO => zb (o := 0) zfz (hO.blkSees (i := 6) rfl) rfl hf rfl) ?_
 refine br rfl (fun hc199 => ?_) fun hc199 => ?_
 refine vl rfl rfl (fun a w hf hO => zb (o := 1) zfz (hO.blkSees (i := 6) rfl) rfl hf rfl) ?_
 exact en rfl fun a w hf hO hm => ⟨r63.Err == 0, hf.sel rfl, hO, hm⟩
 exact en rfl fun a w hf hO hm => ⟨false, hf.sel rfl, hO, hm⟩
 rintro a w ⟨t200, hf, hO, hm⟩
 rw [zbh] at hm
 refine S.co tb ?_ hf hO hm
 refine jn 0 (fun a w => ∃ (t203 : Bool), Fits 207 [(6, .bool t203)] a ∧ Dk.Own w0 [] w [.row (.slice none 0 0) 69 2 0 (cells za []), .blk b197 [int r194.1.Kind, str r194.1.Method, str r194.1.Target, int r194.1.Code, str r194.1.Reason, int r194.1.Minor, .slice p195 r194.1.Fields.length c196] 35, .row (.slice p195 r194.1.Fields.length c196) 69 2 r194.1.Fields.length (cells za r194.1.Fields), .row (.slice p73 r72.length c74) 9 1 r72.length (cells zj r72), .shr (some ⟨b70, 0, none⟩) (cells zh s69), .row (.slice none 0 0) 69 2 0 (cells za []), .blk b66 [int r63.At, int r63.Err, int r63.Head.Kind, str r63.Head.Method, str r63.Head.Target, int r63.Head.Code, str r63.Head.Reason, int r63.Head.Minor, .slice p64 r63.Head.Fields.length c65] 44, .row (.slice p64 r63.Head.Fields.length c65) 69 2 r63.Head.Fields.length (cells za r63.Head.Fields), .blk b29 [int i176, int i177, .slice p178 l180.length c179, int i181, .bool t182, int i183, .bool t184, int i185, str s186, str s187, int i188, str s189, int i190, .slice p191 l193.length c192] 61, .row (.slice p178 l180.length c179) 5 1 l180.length (cells zh l180), .row (.slice p191 l193.length c192) 69 2 l193.length (cells za l193), .blk b1 [str x_a2.1, str x_a2.2] 42] ∧ zb1 t203 = some R) rfl ?_ ?_
 refine vl rfl rfl (fun a w hf hO => zt2 Tryz.underlying4 hf rfl rfl) ?_
 refine br rfl (fun hc201 => ?_) fun hc201 => ?_
 refine vl rfl rfl (fun a w hf hO => zu (o := 0) (vs := [int r194.1.Kind, str r194.1.Method, str r194.1.Target, int r194.1.Code, str r194.1.Reason, int r194.1.Minor, .slice p195 r194.1.Fields.length c196]) zau zA (hO.blkSees (i := 1) rfl) rfl rfl hf rfl) ?_
 refine vl rfl rfl (fun a w hf hO => zu (o := 2) (vs := [int r63.Head.Kind, str r63.Head.Method, str r63.Head.Target, int r63.Head.Code, str r63.Head.Reason, int r63.Head.Minor, .slice p64 r63.Head.Fields.length c65]) zau zA (hO.blkSees (i := 6) rfl) rfl rfl hf rfl) ?_
 refine cl c_13 rfl (fun r202 w hr202 hO => zoV r194.1 r63.Head r202 _ (hG.own hF hO).1 (hO.rowSees (i := 2) rfl) (hO.rowCap (i := 2) rfl) (hO.rowSees (i := 7) rfl) (hO.rowCap (i := 7) rfl) hr202) fun r202 hr202 => ?_
 exact en rfl fun a w hf hO hm => ⟨r202, hf.sel rfl, hO, hm⟩
 exact en rfl fun a w hf hO hm => ⟨false, hf.sel rfl, hO, hm⟩
 rintro a w ⟨t203, hf, hO, hm⟩
 rw [zb1] at hm
 refine S.co tb ?_ hf hO hm
 exact rt Tryz.results4 rfl

end Go.Proofs
