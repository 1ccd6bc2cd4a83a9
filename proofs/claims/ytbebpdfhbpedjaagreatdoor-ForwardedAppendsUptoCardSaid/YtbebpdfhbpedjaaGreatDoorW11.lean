/-
  Walks, written by a program (wip/gen): what its model says, the function returns; what was there before is as it was.
  Walks, written by a program (wip/gen): what its model says, the function returns; what was there before is as it was.
  Walks, written by a program (wip/gen): what its model says, the function returns; what was there before is as it was.
-/
import Derived.Test.YtbebpdfhbpedjaaGreatDoorLib
import Derived.Test.YtbebpdfhbpedjaaGreatDoorW8
section
set_option linter.unusedVariables false
set_option maxHeartbeats 1000000
set_option linter.unusedSimpArgs false
set_option maxRecDepth 100000
namespace Go.Proofs
open Go.Dk Go.Dm Go.RowKit

theorem ziQ (x_client : Str) (R : Str) (w0 : World) (hG : zbZ w0) (hm : zcU x_client = some R) :
    Calls Tryz.prog 24 #[str x_client] w0 (Ret w0 (fun R => str R) R) := by
 rw [zcU] at hm
 have hF : zG [] := zf
 have hO : Dk.Own w0 [] w0 [] := Dk.Own.refl w0
 refine S.enter tb Tryz.func24 rfl Tryz.ntmps24 rfl ?_ hO hm
 refine cl c_47 rfl (fun r2 w hr2 hO => zga x_client r2 _ (hG.own hF hO) hr2) fun r2 hr2 => ?_
 refine br rfl (fun hc4 => ?_) fun hc4 => ?_
 exact rt Tryz.results24 rfl
 refine cl c_48 rfl (fun r6 w hr6 hO => zj8 x_client r6 _ (hG.own hF hO) hr6) fun r6 hr6 => ?_
 refine br rfl (fun hc8 => ?_) fun hc8 => ?_
 refine bi rfl fun s9 hs9 => ?_
 refine bi rfl fun s10 hs10 => ?_
 exact rt Tryz.results24 rfl
 exact rt Tryz.results24 rfl

theorem ziR (x_env : api_Env) (R : List api_Param) (w0 : World) (hG : zbZ w0) {x_env_p0 : Option Addr} {x_env_c0 : Nat} (hs0 : zH w0 x_env_p0 (cells za x_env.Domains)) (hc0 : x_env.Domains.length ≤ x_env_c0) {x_env_p1 : Option Addr} {x_env_c1 : Nat} (hs1 : zH w0 x_env_p1 (cells za x_env.Locations)) (hc1 : x_env.Locations.length ≤ x_env_c1) (hm : zcV x_env = some R) :
    Calls Tryz.prog 19 #[.agg #[str x_env.Client, str x_env.Host, str x_env.Scheme, str x_env.By, .slice x_env_p0 x_env.Domains.length x_env_c0, .slice x_env_p1 x_env.Locations.length x_env_c1]] w0 fun e w' => ∃ (p0 : Option Addr) (c0 : Nat), e = .returned (.slice p0 R.length c0) ∧ Dk.Own w0 [] w' [.row (.slice p0 R.length c0) 57 2 R.length (cells zd R)] := by
 rw [zcV] at hm
 have hF : zG [] := zf
 have hO : Dk.Own w0 [] w0 [] := Dk.Own.refl w0
 have hO := hO.addShr hs0 (by simp [Res.shared])
 have hO := hO.addShr hs1 (by simp [Res.shared])
 refine S.enter tb Tryz.func19 rfl Tryz.ntmps19 rfl ?_ hO hm
 refine bo rfl fun b1 => ?_
 refine nl 57 2 ?_
 refine ld 1 rfl rfl ?_
 refine cl c_24 rfl (fun r3 w hr3 hO => ziQ x_env.Client r3 _ (hG.own hF hO) hr3) fun r3 hr3 => ?_
 refine vl rfl rfl (fun a w hf hO => z6 (vs := [(0, str [102, 111, 114]), (1, str r3)]) (v := .agg #[str [102, 111, 114], str r3]) hf rfl (by kernel_rfl)) ?_
 refine rw_ rfl fun a w hf hO hm => ?_
 refine zn (vs := [(0, .agg #[str [102, 111, 114], str r3])]) (cs := [str [102, 111, 114], str r3]) (e := 57) (sz := 2) hf rfl rfl (fun w => by kernel_rfl) rfl rfl hO fun a b4 w hf hO => ?_
 refine S.op tb ?_ hf hO hm
 refine jv 0 [1] [1, 2, 3, 4] (fun J E L => ∃ (p12 : Option Addr) (c13 : Nat) (l14 : List api_Param), J ((3, .slice p12 l14.length c13) :: E) (.row (.slice p12 l14.length c13) 57 2 l14.length (cells zd l14) :: L) (zbT x_env l14)) rfl ?_ ?_
 refine ld 2 rfl rfl ?_
 refine br rfl (fun hc7 => ?_) fun hc7 => ?_
 refine ld 2 rfl rfl ?_
 refine vl rfl rfl (fun a w hf hO => z6 (vs := [(0, str [104, 111, 115, 116]), (1, str x_env.Host)]) (v := .agg #[str [104, 111, 115, 116], str x_env.Host]) hf rfl (by kernel_rfl)) ?_
 refine rw_ rfl fun a w hf hO hm => ?_
 refine zn (vs := [(0, .agg #[str [104, 111, 115, 116], str x_env.Host])]) (cs := [str [104, 111, 115, 116], str x_env.Host]) (e := 57) (sz := 2) hf rfl rfl (fun w => by kernel_rfl) rfl rfl hO fun a b8 w hf hO => ?_
 refine S.op tb ?_ hf hO hm
 refine rw_ rfl fun a w hf hO hm => ?_
 obtain ⟨hg11, hm⟩ := og hm
 refine z8 zmL (enc := zd) (xs := [(⟨[102, 111, 114], r3⟩ : api_Param)]) (ys := [(⟨[104, 111, 115, 116], x_env.Host⟩ : api_Param)]) (i := 1) (fun _ => rfl) rfl (hO.rowSees (i := 0) rfl) (by simp [cells, zd, Value.oneCell']) hg11 hf rfl rfl rfl hO fun a p9 c10 w hf hO => ?_
 refine S.op tb ?_ hf hO hm
 exact ec [1, 2, 3, 4, 5] rfl rfl rfl fun _ _ j => ⟨p9, c10, ([(⟨[102, 111, 114], r3⟩ : api_Param)]) ++ [(⟨[104, 111, 115, 116], x_env.Host⟩ : api_Param)], j rfl⟩
 exact en rfl fun _ _ j => ⟨some ⟨b4, 0, none⟩, 1, [(⟨[102, 111, 114], r3⟩ : api_Param)], j rfl⟩
 rintro a w ⟨p12, c13, l14, hf, hO, hm⟩
 rw [zbT] at hm
 refine S.co tb ?_ hf hO hm
 refine jv 0 [] [1, 2, 3, 4] (fun J E L => ∃ (p21 : Option Addr) (c22 : Nat) (l23 : List api_Param), J ((3, .slice p21 l23.length c22) :: E) (.row (.slice p21 l23.length c22) 57 2 l23.length (cells zd l23) :: L) (zbS l23)) rfl ?_ ?_
 refine ld 2 rfl rfl ?_
 refine br rfl (fun hc16 => ?_) fun hc16 => ?_
 refine ld 2 rfl rfl ?_
 refine vl rfl rfl (fun a w hf hO => z6 (vs := [(0, str [112, 114, 111, 116, 111]), (1, str x_env.Scheme)]) (v := .agg #[str [112, 114, 111, 116, 111], str x_env.Scheme]) hf rfl (by kernel_rfl)) ?_
 refine rw_ rfl fun a w hf hO hm => ?_
 refine zn (vs := [(0, .agg #[str [112, 114, 111, 116, 111], str x_env.Scheme])]) (cs := [str [112, 114, 111, 116, 111], str x_env.Scheme]) (e := 57) (sz := 2) hf rfl rfl (fun w => by kernel_rfl) rfl rfl hO fun a b17 w hf hO => ?_
 refine S.op tb ?_ hf hO hm
 refine rw_ rfl fun a w hf hO hm => ?_
 obtain ⟨hg20, hm⟩ := og hm
 refine z8 zmL (enc := zd) (xs := l14) (ys := [(⟨[112, 114, 111, 116, 111], x_env.Scheme⟩ : api_Param)]) (i := 1) (fun _ => rfl) rfl (hO.rowSees (i := 0) rfl) (by simp [cells, zd, Value.oneCell']) hg20 hf rfl rfl rfl hO fun a p18 c19 w hf hO => ?_
 refine S.op tb ?_ hf hO hm
 exact ec [1, 2, 3, 4, 5] rfl rfl rfl fun _ _ j => ⟨p18, c19, l14 ++ [(⟨[112, 114, 111, 116, 111], x_env.Scheme⟩ : api_Param)], j rfl⟩
 exact en rfl fun _ _ j => ⟨p12, c13, l14, j rfl⟩
 rintro a w ⟨p21, c22, l23, hf, hO, hm⟩
 rw [zbS] at hm
 refine S.co tb ?_ hf hO hm
 refine re_ rfl fun a w hf hO hm => ?_
 obtain rfl := Option.some.inj hm
 exact zs Tryz.results19 hf (.tmp rfl .nil) ⟨p21, c22, rfl, (hO.sub (.cons_cons _ (.cons _ (.cons _ (.cons _ (.cons _ .slnil))))))⟩

theorem zko (x_s : Str) (R : Str × Int) (w0 : World) (hG : zw w0) (hm : zd1 x_s = some R) :
    Calls Tryz.prog 123 #[str x_s] w0 (Ret w0 (fun R => .tuple #[str R.1, int R.2]) R) := by
 rw [zd1] at hm
 have hF : zG [] := zf
 have hO : Dk.Own w0 [] w0 [] := Dk.Own.refl w0
 refine S.enter tb Tryz.func123 rfl Tryz.ntmps123 rfl ?_ hO hm
 refine rw_ rfl fun a w hf hO hm => ?_
 refine zn (vs := [(0, str x_s)]) (cs := [str x_s]) (e := 9) (sz := 1) hf rfl rfl (fun w => by kernel_rfl) rfl rfl hO fun a b2 w hf hO => ?_
 refine S.op tb ?_ hf hO hm
 refine cl znS rfl (fun r3 w hr3 hO => zfj zbY ([x_s] : List Str) r3 _ (hG.own hF hO) c_144 (fun y0 r w hG h => ziD (zgg y0 r w hG h)) (hO.rowSees (i := 0) rfl) (hO.rowCap (i := 0) rfl) hr3) fun r3 hr3 => ?_
 refine br rfl (fun hc5 => ?_) fun hc5 => ?_
 exact rt Tryz.results123 rfl
 refine rw_ rfl fun a w hf hO hm => ?_
 refine zn (vs := [(0, zR 34)]) (cs := [zR 34]) (e := 5) (sz := 1) hf rfl rfl (fun w => by kernel_rfl) rfl rfl hO fun a b8 w hf hO => ?_
 refine S.op tb ?_ hf hO hm
 refine lv [0, 12] [1] (fun J E L k => ∃ (p11 : Option Addr) (c12 : Nat) (l13 : List UInt8) (i14 : Int), J ((4, .slice p11 l13.length c12) :: (13, int i14) :: E) (.row (.slice p11 l13.length c12) 5 1 l13.length (cells zW l13) :: L) (zL x_s k l13 i14)) rfl (fun _ _ j => ⟨some ⟨b8, 0, none⟩, 1, [34], 0, j rfl⟩) ?_
 rintro n1 a w ⟨p11, c12, l13, i14, hf, hO, hm⟩
 obtain _ | n1 := n1
 rw [zL] at hm
 cases hm
 rw [zL] at hm
 refine S.co tb ?_ hf hO hm
 refine br rfl (fun hc16 => ?_) fun hc16 => ?_
 refine jv 5 [0, 5, 12, 13] [1] (fun J E L => ∃ (p28 : Option Addr) (c29 : Nat) (l30 : List UInt8), J ((4, .slice p28 l30.length c29) :: E) (.row (.slice p28 l30.length c29) 5 1 l30.length (cells zW l30) :: L) (zbI (zL x_s n1) x_s i14 l30)) rfl ?_ ?_
 refine jv 6 [0, 4, 5, 12, 13] [0, 1] (fun J E L => ∃ (t22 : Bool), J ((25, .bool t22) :: E) (L) (zbJ (zL x_s n1) x_s l13 i14 t22)) rfl ?_ ?_
 refine bi rfl fun b19 hb19 => ?_
 refine vl rfl rfl (fun a w hf hO => zaC (b := b19) (c := 34) hf rfl rfl) ?_
 refine br rfl (fun hc20 => ?_) fun hc20 => ?_
 exact en rfl fun _ _ j => ⟨true, j rfl⟩
 refine bi rfl fun b21 hb21 => ?_
 refine vl rfl rfl (fun a w hf hO => zaC (b := b21) (c := 92) hf rfl rfl) ?_
 exact en rfl fun _ _ j => ⟨b21 == 92, j rfl⟩
 rintro a w ⟨t22, hf, hO, hm⟩
 rw [zbJ] at hm
 refine S.co tb ?_ hf hO hm
 refine br rfl (fun hc23 => ?_) fun hc23 => ?_
 refine rw_ rfl fun a w hf hO hm => ?_
 refine zn (vs := [(0, zR 92)]) (cs := [zR 92]) (e := 5) (sz := 1) hf rfl rfl (fun w => by kernel_rfl) rfl rfl hO fun a b24 w hf hO => ?_
 refine S.op tb ?_ hf hO hm
 refine rw_ rfl fun a w hf hO hm => ?_
 obtain ⟨hg27, hm⟩ := og hm
 refine z8 zlY (enc := zW) (xs := l13) (ys := [92]) (i := 1) (fun _ => rfl) rfl (hO.rowSees (i := 0) rfl) (by simp [cells, zW, Value.oneCell']) hg27 hf rfl rfl rfl hO fun a p25 c26 w hf hO => ?_
 refine S.op tb ?_ hf hO hm
 exact ec [1, 2] rfl rfl rfl fun _ _ j => ⟨p25, c26, l13 ++ [92], j rfl⟩
 exact en rfl fun _ _ j => ⟨p11, c12, l13, j rfl⟩
 rintro a w ⟨p28, c29, l30, hf, hO, hm⟩
 rw [zbI] at hm
 refine S.co tb ?_ hf hO hm
 refine bi rfl fun b31 hb31 => ?_
 refine rw_ rfl fun a w hf hO hm => ?_
 refine zn (vs := [(0, zR b31)]) (cs := [zR b31]) (e := 5) (sz := 1) hf rfl rfl (fun w => by kernel_rfl) rfl rfl hO fun a b32 w hf hO => ?_
 refine S.op tb ?_ hf hO hm
 refine rw_ rfl fun a w hf hO hm => ?_
 obtain ⟨hg35, hm⟩ := og hm
 refine z8 zlY (enc := zW) (xs := l30) (ys := [b31]) (i := 1) (fun _ => rfl) rfl (hO.rowSees (i := 0) rfl) (by simp [cells, zW, Value.oneCell']) hg35 hf rfl rfl rfl hO fun a p33 c34 w hf hO => ?_
 refine S.op tb ?_ hf hO hm
 refine bi rfl fun i37 hi37 => ?_
 exact ec [1, 2] rfl rfl rfl fun _ _ j => ⟨_, Nat.lt_succ_self _, p33, c34, l30 ++ [b31], i37, j rfl⟩
 refine rw_ rfl fun a w hf hO hm => ?_
 refine zn (vs := [(0, zR 34)]) (cs := [zR 34]) (e := 5) (sz := 1) hf rfl rfl (fun w => by kernel_rfl) rfl rfl hO fun a b39 w hf hO => ?_
 refine S.op tb ?_ hf hO hm
 refine rw_ rfl fun a w hf hO hm => ?_
 obtain ⟨hg42, hm⟩ := og hm
 refine z8 zlY (enc := zW) (xs := l13) (ys := [34]) (i := 1) (fun _ => rfl) rfl (hO.rowSees (i := 0) rfl) (by simp [cells, zW, Value.oneCell']) hg42 hf rfl rfl rfl hO fun a p40 c41 w hf hO => ?_
 refine S.op tb ?_ hf hO hm
 refine vl rfl rfl (fun a w hf hO => zjU (en := zW) (l := l13 ++ [34]) (fun _ => rfl) Tryz.underlying9 Tryz.underlying159 Tryz.underlying5 (hO.rowSees (i := 1) rfl) hf rfl) ?_
 exact rt Tryz.results123 rfl

theorem zjo (x_s : Str) (R : Str × Int) (w0 : World) (hG : zw w0) (hm : zdj x_s = some R) :
    Calls Tryz.prog 87 #[str x_s] w0 (Ret w0 (fun R => .tuple #[str R.1, int R.2]) R) := by
 rw [zdj] at hm
 have hF : zG [] := zf
 have hO : Dk.Own w0 [] w0 [] := Dk.Own.refl w0
 refine S.enter tb Tryz.func87 rfl Tryz.ntmps87 rfl ?_ hO hm
 refine cl c_88 rfl (fun r2 w hr2 hO => zg6 x_s r2 _ (hG.own hF hO) hr2) fun r2 hr2 => ?_
 refine br rfl (fun hc4 => ?_) fun hc4 => ?_
 exact rt Tryz.results87 rfl
 refine cl c_123 rfl (fun r7 w hr7 hO => zko x_s r7 _ (hG.own hF hO) hr7) fun r7 hr7 => ?_
 exact rt Tryz.results87 rfl

theorem zkW (x_l : List api_Param) (R : Str × Int) (w0 : World) (hG : zw w0) {x_l_p0 : Option Addr} {x_l_c0 : Nat} (hs0 : zH w0 x_l_p0 (cells zd x_l)) (hc0 : x_l.length ≤ x_l_c0) (hm : zfp x_l = some R) :
    Calls Tryz.prog 52 #[.slice x_l_p0 x_l.length x_l_c0] w0 (Ret w0 (fun R => .tuple #[str R.1, int R.2]) R) := by
 rw [zfp] at hm
 have hF : zG [] := zf
 have hO : Dk.Own w0 [] w0 [] := Dk.Own.refl w0
 have hO := hO.addShr hs0 (by simp [Res.shared])
 refine S.enter tb Tryz.func52 rfl Tryz.ntmps52 rfl ?_ hO hm
 refine nl 9 1 ?_
 refine lv [9, 10] [1] (fun J E L k => ∃ (p4 : Option Addr) (c5 : Nat) (l6 : List Str) (i7 : Int), J ((4, .slice p4 l6.length c5) :: (11, int i7) :: E) (.row (.slice p4 l6.length c5) 9 1 l6.length (cells zg l6) :: L) (zaF x_l k l6 i7)) rfl (fun _ _ j => ⟨none, 0, [], 0, j rfl⟩) ?_
 rintro n1 a w ⟨p4, c5, l6, i7, hf, hO, hm⟩
 obtain _ | n1 := n1
 rw [zaF] at hm
 cases hm
 rw [zaF] at hm
 refine S.co tb ?_ hf hO hm
 refine br rfl (fun hc9 => ?_) fun hc9 => ?_
 refine rw_ rfl fun a w hf hO hm => ?_
 obtain ⟨x11, hx11, hm⟩ := ob hm
 obtain ⟨b12, o13, hix11, hSx11⟩ := zbD (enc := zd) (sz := 2) (xs := x_l) 49 Tryz.underlying49 zex (by decide) (fun _ => rfl) (hO.sees (i := 1) rfl) hx11
 refine zaB (zk hix11 hf rfl rfl) rfl hf rfl rfl fun a hf => ?_
 refine S.op tb ?_ hf hO hm
 refine vl rfl rfl (fun a w hf hO => zae (o := 0) (vs := [str x11.Name, str x11.Value]) zi6 zex (hSx11 _ (hO.sees (i := 1) rfl)) rfl rfl hf rfl) ?_
 refine al zmJ rfl fun b14 => ?_
 refine st 0 rfl rfl ?_
 refine ld 0 rfl rfl ?_
 refine cl c_87 rfl (fun r16 w hr16 hO => zjo x11.Value r16 _ (hG.own hF hO) hr16) fun r16 hr16 => ?_
 refine jv 6 [4, 6, 7, 9, 10, 11] [0, 1, 2] (fun J E L => ∃ (t20 : Bool), J ((28, .bool t20) :: E) (L) (zcW (zaF x_l n1) l6 i7 x11 r16 t20)) rfl ?_ ?_
 refine br rfl (fun hc18 => ?_) fun hc18 => ?_
 exact en rfl fun _ _ j => ⟨true, j rfl⟩
 refine ld 0 rfl rfl ?_
 refine cl c_88 rfl (fun r19 w hr19 hO => zg6 x11.Name r19 _ (hG.own hF hO) hr19) fun r19 hr19 => ?_
 exact en rfl fun _ _ j => ⟨!r19, j rfl⟩
 rintro a w ⟨t20, hf, hO, hm⟩
 rw [zcW] at hm
 refine S.co tb ?_ hf hO hm
 refine br rfl (fun hc21 => ?_) fun hc21 => ?_
 exact rt Tryz.results52 rfl
 refine ld 0 rfl rfl ?_
 refine bi rfl fun s24 hs24 => ?_
 refine bi rfl fun s25 hs25 => ?_
 refine rw_ rfl fun a w hf hO hm => ?_
 refine zn (vs := [(0, str s25)]) (cs := [str s25]) (e := 9) (sz := 1) hf rfl rfl (fun w => by kernel_rfl) rfl rfl hO fun a b26 w hf hO => ?_
 refine S.op tb ?_ hf hO hm
 refine rw_ rfl fun a w hf hO hm => ?_
 obtain ⟨hg29, hm⟩ := og hm
 refine z8 zlq (enc := zg) (xs := l6) (ys := ([s25] : List Str)) (i := 2) (fun _ => rfl) rfl (hO.rowSees (i := 0) rfl) (by simp [cells, zg, Value.oneCell']) hg29 hf rfl rfl rfl hO fun a p27 c28 w hf hO => ?_
 refine S.op tb ?_ hf hO hm
 refine bi rfl fun i31 hi31 => ?_
 exact ec [2, 3] rfl rfl rfl fun _ _ j => ⟨_, Nat.lt_succ_self _, p27, c28, l6 ++ ([s25] : List Str), i31, j rfl⟩
 refine br rfl (fun hc34 => ?_) fun hc34 => ?_
 exact rt Tryz.results52 rfl
 refine cl c_53 rfl (fun r37 w hr37 hO => zil [59] l6 r37 _ (hG.own hF hO) (hO.rowSees (i := 0) rfl) (hO.rowCap (i := 0) rfl) hr37) fun r37 hr37 => ?_
 exact rt Tryz.results52 rfl

theorem ze5 (x_env : api_Env) (x_l : List api_Field) (R : List api_Field × Int) (w0 : World) (hG : zbZ w0) {x_env_p0 : Option Addr} {x_env_c0 : Nat} (hs0 : zH w0 x_env_p0 (cells za x_env.Domains)) (hc0 : x_env.Domains.length ≤ x_env_c0) {x_env_p1 : Option Addr} {x_env_c1 : Nat} (hs1 : zH w0 x_env_p1 (cells za x_env.Locations)) (hc1 : x_env.Locations.length ≤ x_env_c1) {x_l_p2 : Option Addr} {x_l_c2 : Nat} (hs2 : zH w0 x_l_p2 (cells zb x_l)) (hc2 : x_l.length ≤ x_l_c2) (hm : zbz x_env x_l = some R) :
    Calls Tryz.prog 29 #[.agg #[str x_env.Client, str x_env.Host, str x_env.Scheme, str x_env.By, .slice x_env_p0 x_env.Domains.length x_env_c0, .slice x_env_p1 x_env.Locations.length x_env_c1], .slice x_l_p2 x_l.length x_l_c2] w0 fun e w' => ∃ (p0 : Option Addr) (c0 : Nat), e = .returned (.tuple #[.slice p0 R.1.length c0, int R.2]) ∧ Dk.Own w0 [] w' [.row (.slice p0 R.1.length c0) 71 2 R.1.length (cells zb R.1)] := by
 rw [zbz] at hm
 have hF : zG [] := zf
 have hO : Dk.Own w0 [] w0 [] := Dk.Own.refl w0
 have hO := hO.addShr hs0 (by simp [Res.shared])
 have hO := hO.addShr hs1 (by simp [Res.shared])
 have hO := hO.addShr hs2 (by simp [Res.shared])
 refine S.enter tb Tryz.func29 rfl Tryz.ntmps29 rfl ?_ hO hm
 refine bo rfl fun b1 => ?_
 refine nl 71 2 ?_
 refine ld 1 rfl rfl ?_
 refine rw_ rfl fun a w hf hO hm => ?_
 obtain ⟨r3, hr3, hm⟩ := ob hm
 refine zo (zp c_19 hf (vs := [.agg #[str x_env.Client, str x_env.Host, str x_env.Scheme, str x_env.By, .slice x_env_p0 x_env.Domains.length x_env_c0, .slice x_env_p1 x_env.Locations.length x_env_c1]]) rfl) rfl hf rfl rfl (ziR x_env r3 _ (hG.own hF hO) (hO.sees (i := 4) rfl) hc0 (hO.sees (i := 3) rfl) hc1 hr3) ?_
 rintro e w' ⟨p4, c5, he, hO'⟩
 refine ⟨_, he, fun a hf => ?_⟩
 have hO := hO.call hO' (by simp [Res.shared])
 refine S.op tb ?_ hf hO hm
 refine cl c_52 rfl (fun r6 w hr6 hO => zkW r3 r6 _ (hG.own hF hO).1 (hO.rowSees (i := 0) rfl) (hO.rowCap (i := 0) rfl) hr6) fun r6 hr6 => ?_
 refine br rfl (fun hc9 => ?_) fun hc9 => ?_
 refine nl 71 2 ?_
 refine re_ rfl fun a w hf hO hm => ?_
 obtain rfl := Option.some.inj hm
 exact zs Tryz.results29 hf (.tmp rfl (.tmp rfl .nil)) ⟨none, 0, rfl, (hO.sub (.cons_cons _ (.cons _ (.cons _ (.cons _ (.cons _ (.cons _ (.cons _ .slnil))))))))⟩
 refine rw_ rfl fun a w hf hO hm => ?_
 obtain ⟨r12, hr12, hm⟩ := ob hm
 refine zo (zp c_32 hf (vs := [.slice x_l_p2 x_l.length x_l_c2]) rfl) rfl hf rfl rfl (zoG x_l r12 _ (hG.own hF hO).1 (hO.sees (i := 3) rfl) hc2 hr12) ?_
 rintro e w' ⟨b13, p14, c15, he, hO'⟩
 refine ⟨_, he, fun a hf => ?_⟩
 have hO := hO.call hO' (by simp [Res.shared])
 refine S.op tb ?_ hf hO hm
 refine rw_ rfl fun a w hf hO hm => ?_
 obtain ⟨r17, hr17, hm⟩ := ob hm
 have hch20 := (show Dk.Own w0 [] _ ([.blk b13 [.slice p14 r12.f_l.length c15] 100, .row (.slice p14 r12.f_l.length c15) 71 2 r12.f_l.length (cells zb r12.f_l)] ++ [.row (.slice p4 r3.length c5) 57 2 r3.length (cells zd r3), .row (.slice none 0 0) 71 2 0 (cells zb []), .blk b1 [str x_env.Client, str x_env.Host, str x_env.Scheme, str x_env.By, .slice x_env_p0 x_env.Domains.length x_env_c0, .slice x_env_p1 x_env.Locations.length x_env_c1] 47, .shr x_l_p2 (cells zb x_l), .shr x_env_p1 (cells za x_env.Locations), .shr x_env_p0 (cells za x_env.Domains)]) from hO)
 have hfar20 := Dk.Own.far hch20 rfl hF hG.size
 have hlend20 := hch20.lend (S := []) rfl trivial
 have hcl20 := ziT r12 [70, 111, 114, 119, 97, 114, 100, 101, 100] r6.1 r17 _ (hG.own hF hO).1 hfar20 hlend20 hr17
 refine zo (zp c_33 hf (vs := [ptr b13 0, str [70, 111, 114, 119, 97, 114, 100, 101, 100], str r6.1]) rfl) rfl hf rfl rfl (hcl20) ?_
 rintro e w' ⟨p18, c19, he, hO'⟩
 refine ⟨_, he, fun a hf => ?_⟩
 have hO := hch20.back rfl hO' rfl
 refine S.op tb ?_ hf hO hm
 refine rw_ rfl fun a w hf hO hm => ?_
 obtain ⟨r22, hr22, hm⟩ := ob hm
 refine zo (zp c_34 hf (vs := [ptr b13 0]) rfl) rfl hf rfl rfl (zjS r17 r22 _ (hG.own hF hO).1 (hO.blkSees (i := 0) rfl) (hO.rowSees (i := 1) rfl) (hO.rowCap (i := 1) rfl) hr22) ?_
 rintro e w' ⟨p23, c24, he, hO'⟩
 refine ⟨_, he, fun a hf => ?_⟩
 have hO := hO.call hO' (by simp [Res.shared])
 refine S.op tb ?_ hf hO hm
 refine re_ rfl fun a w hf hO hm => ?_
 obtain rfl := Option.some.inj hm
 exact zs Tryz.results29 hf (.tmp rfl (.tmp rfl .nil)) ⟨p23, c24, rfl, (hO.sub (.cons_cons _ (.cons _ (.cons _ (.cons _ (.cons _ (.cons _ (.cons _ (.cons _ (.cons _ .slnil))))))))))⟩

theorem zkX (R : Bool) (w0 : World) (hG : zbZ w0) (hm : zfq = some R) :
    Calls Tryz.prog 17 #[] w0 (Ret w0 (fun R => .bool R) R) := by
 rw [zfq] at hm
 have hF : zG [] := zf
 have hO : Dk.Own w0 [] w0 [] := Dk.Own.refl w0
 refine S.enter tb Tryz.func17 rfl Tryz.ntmps17 rfl ?_ hO hm
 refine vl rfl rfl (fun a w hf hO => z6 (vs := [(0, str [58, 58, 49]), (1, str [97, 58, 56, 48]), (2, str [104, 116, 116, 112])]) (v := .agg #[str [58, 58, 49], str [97, 58, 56, 48], str [104, 116, 116, 112], str [], .slice none 0 0, .slice none 0 0]) hf rfl (by kernel_rfl)) ?_
 refine rw_ rfl fun a w hf hO hm => ?_
 obtain ⟨r2, hr2, hm⟩ := ob hm
 refine zo (zp c_29 hf (vs := [.agg #[str [58, 58, 49], str [97, 58, 56, 48], str [104, 116, 116, 112], str [], .slice none 0 0, .slice none 0 0], .slice none 0 0]) rfl) rfl hf rfl rfl (ze5 (⟨[58, 58, 49], [97, 58, 56, 48], [104, 116, 116, 112], [], [], []⟩ : api_Env) [] r2 _ (hG.own hF hO) (zH.nil _) (Nat.zero_le _) (zH.nil _) (Nat.zero_le _) (zH.nil _) (Nat.zero_le _) hr2) ?_
 rintro e w' ⟨p3, c4, he, hO'⟩
 refine ⟨_, he, fun a hf => ?_⟩
 have hO := hO.call hO' (by simp [Res.shared])
 refine S.op tb ?_ hf hO hm
 refine jv 0 [] [0] (fun J E L => ∃ (t9 : Bool), J ((0, .bool t9) :: E) (L) (zd2 t9)) rfl ?_ ?_
 refine br rfl (fun hc6 => ?_) fun hc6 => ?_
 refine vl rfl rfl (fun a w hf hO => z6 (vs := [(0, str [70, 111, 114, 119, 97, 114, 100, 101, 100]), (1, str [102, 111, 114, 61, 34, 91, 58, 58, 49, 93, 34, 59, 104, 111, 115, 116, 61, 34, 97, 58, 56, 48, 34, 59, 112, 114, 111, 116, 111, 61, 104, 116, 116, 112])]) (v := .agg #[str [70, 111, 114, 119, 97, 114, 100, 101, 100], str [102, 111, 114, 61, 34, 91, 58, 58, 49, 93, 34, 59, 104, 111, 115, 116, 61, 34, 97, 58, 56, 48, 34, 59, 112, 114, 111, 116, 111, 61, 104, 116, 116, 112]]) hf rfl (by kernel_rfl)) ?_
 refine rw_ rfl fun a w hf hO hm => ?_
 refine zn (vs := [(0, .agg #[str [70, 111, 114, 119, 97, 114, 100, 101, 100], str [102, 111, 114, 61, 34, 91, 58, 58, 49, 93, 34, 59, 104, 111, 115, 116, 61, 34, 97, 58, 56, 48, 34, 59, 112, 114, 111, 116, 111, 61, 104, 116, 116, 112]])]) (cs := [str [70, 111, 114, 119, 97, 114, 100, 101, 100], str [102, 111, 114, 61, 34, 91, 58, 58, 49, 93, 34, 59, 104, 111, 115, 116, 61, 34, 97, 58, 56, 48, 34, 59, 112, 114, 111, 116, 111, 61, 104, 116, 116, 112]]) (e := 71) (sz := 2) hf rfl rfl (fun w => by kernel_rfl) rfl rfl hO fun a b7 w hf hO => ?_
 refine S.op tb ?_ hf hO hm
 refine kn (b' := true) hc6 rfl ?_
 refine cl c_12 rfl (fun r8 w hr8 hO => zik r2.1 ([(⟨[70, 111, 114, 119, 97, 114, 100, 101, 100], [102, 111, 114, 61, 34, 91, 58, 58, 49, 93, 34, 59, 104, 111, 115, 116, 61, 34, 97, 58, 56, 48, 34, 59, 112, 114, 111, 116, 111, 61, 104, 116, 116, 112]⟩ : api_Field)]) r8 _ (hG.own hF hO).1 (hO.rowSees (i := 1) rfl) (hO.rowCap (i := 1) rfl) (hO.rowSees (i := 0) rfl) (hO.rowCap (i := 0) rfl) hr8) fun r8 hr8 => ?_
 exact ec [1] rfl rfl rfl fun _ _ j => ⟨r8, j rfl⟩
 exact en rfl fun _ _ j => ⟨false, j rfl⟩
 rintro a w ⟨t9, hf, hO, hm⟩
 rw [zd2] at hm
 refine S.co tb ?_ hf hO hm
 exact rt Tryz.results17 rfl

theorem zie (x_x : api_Swap) (R : api_Swap) (w0 : World) (hG : zw w0) (hm : zen x_x = some R) :
    Calls Tryz.prog 40 #[.agg #[str x_x.From, str x_x.To]] w0 (Ret w0 (fun R => .agg #[str R.From, str R.To]) R) := by
 rw [zen] at hm
 have hF : zG [] := zf
 have hO : Dk.Own w0 [] w0 [] := Dk.Own.refl w0
 refine S.enter tb Tryz.func40 rfl Tryz.ntmps40 rfl ?_ hO hm
 refine bo rfl fun b1 => ?_
 refine al al_87 rfl fun b2 => ?_
 refine rc_ rfl fun a w hf hO hm => ?_
 obtain ⟨s4, hs4, hm⟩ := ob hm
 obtain ⟨s5, hs5, hm⟩ := ob hm
 refine zeW (S := Unit) (E0 := [(1, ptr b1 0), (2, ptr b2 0)]) (by kernel_rfl) (fun k σ w => match k with | 0 => Dk.Own w0 [] w [.blk b2 [str [], str []] 87, .blk b1 [str x_x.From, str x_x.To] 87] | _ => Dk.Own w0 [] w [.blk b2 [str s4, str s5] 87, .blk b1 [str x_x.From, str x_x.To] 87]) (fun σ => [⟨[(1, ptr b1 0)], some (3, ptr b1 0)⟩, ⟨[(3, ptr b1 0)], some (4, str x_x.From)⟩, ⟨[(1, ptr b1 0)], some (5, ptr b1 0)⟩, ⟨[(5, ptr b1 0)], some (6, str x_x.From)⟩, ⟨[(6, str x_x.From)], some (7, int (x_x.From.length : Int))⟩, ⟨[(7, int (x_x.From.length : Int))], some (8, int (min (x_x.From.length : Int) 60))⟩, ⟨[(4, str x_x.From), (8, int (min (x_x.From.length : Int) 60))], some (9, str s4)⟩, ⟨[(1, ptr b1 0)], some (10, ptr b1 1)⟩, ⟨[(10, ptr b1 1)], some (11, str x_x.To)⟩, ⟨[(1, ptr b1 0)], some (12, ptr b1 1)⟩, ⟨[(12, ptr b1 1)], some (13, str x_x.To)⟩, ⟨[(13, str x_x.To)], some (14, int (x_x.To.length : Int))⟩, ⟨[(14, int (x_x.To.length : Int))], some (15, int (min (x_x.To.length : Int) 60))⟩, ⟨[(11, str x_x.To), (15, int (min (x_x.To.length : Int) 60))], some (16, str s5)⟩, ⟨[(9, str s4), (16, str s5)], some (17, .agg #[str s4, str s5])⟩, ⟨[(2, ptr b2 0), (17, .agg #[str s4, str s5])], none⟩]) () [15] rfl (fun _ => rfl) (fun _ => rfl) (fun _ => rfl) rfl rfl (by decide) rfl hO.drew (hf.cons rfl (hf.cons rfl hf.nil)) (fun σ => ⟨⟨rfl, trivial⟩, ⟨rfl, trivial⟩, ⟨rfl, trivial⟩, ⟨rfl, trivial⟩, ⟨rfl, trivial⟩, ⟨rfl, trivial⟩, ⟨rfl, rfl, trivial⟩, ⟨rfl, trivial⟩, ⟨rfl, trivial⟩, ⟨rfl, trivial⟩, ⟨rfl, trivial⟩, ⟨rfl, trivial⟩, ⟨rfl, trivial⟩, ⟨rfl, rfl, trivial⟩, ⟨rfl, rfl, trivial⟩, ⟨rfl, rfl, trivial⟩, trivial⟩) ⟨zi rfl (fun σ => rfl) (fun σ => rfl) (fun σ a w k _ _ _ _ hf => zK zl0 hf rfl), zi rfl (fun σ => rfl) (fun σ => rfl) (fun σ a w k hk hlo hup hst hf => match k, hk, hlo, hup, hst, hf with | 0, _, _, _, hst, hf => have hO : Dk.Own w0 [] w _ := hst; ze (o := 0) zbE (hO.blkSees (i := 1) rfl) rfl hf rfl | 1, _, _, _, hst, hf => have hO : Dk.Own w0 [] w _ := hst; ze (o := 0) zbE (hO.blkSees (i := 1) rfl) rfl hf rfl | k + 2, hk, _, _, _, _ => absurd hk (by simp)), zi rfl (fun σ => rfl) (fun σ => rfl) (fun σ a w k _ _ _ _ hf => zK zl0 hf rfl), zi rfl (fun σ => rfl) (fun σ => rfl) (fun σ a w k hk hlo hup hst hf => match k, hk, hlo, hup, hst, hf with | 0, _, _, _, hst, hf => have hO : Dk.Own w0 [] w _ := hst; ze (o := 0) zbE (hO.blkSees (i := 1) rfl) rfl hf rfl | 1, _, _, _, hst, hf => have hO : Dk.Own w0 [] w _ := hst; ze (o := 0) zbE (hO.blkSees (i := 1) rfl) rfl hf rfl | k + 2, hk, _, _, _, _ => absurd hk (by simp)), zi rfl (fun σ => rfl) (fun σ => rfl) (fun σ a w k _ _ _ _ hf => zh0 (l := x_x.From) Tryz.underlying9 hf rfl), zi rfl (fun σ => rfl) (fun σ => rfl) (fun σ a w k _ _ _ _ hf => zlQ (m := (x_x.From.length : Int)) (n := 60) hf rfl rfl), zi rfl (fun σ => rfl) (fun σ => rfl) (fun σ a w k _ _ _ _ hf => zjw (l := x_x.From) Tryz.underlying9 hf rfl rfl hs4), zi rfl (fun σ => rfl) (fun σ => rfl) (fun σ a w k _ _ _ _ hf => zK zl1 hf rfl), zi rfl (fun σ => rfl) (fun σ => rfl) (fun σ a w k hk hlo hup hst hf => match k, hk, hlo, hup, hst, hf with | 0, _, _, _, hst, hf => have hO : Dk.Own w0 [] w _ := hst; ze (o := 1) zbE (hO.blkSees (i := 1) rfl) rfl hf rfl | 1, _, _, _, hst, hf => have hO : Dk.Own w0 [] w _ := hst; ze (o := 1) zbE (hO.blkSees (i := 1) rfl) rfl hf rfl | k + 2, hk, _, _, _, _ => absurd hk (by simp)), zi rfl (fun σ => rfl) (fun σ => rfl) (fun σ a w k _ _ _ _ hf => zK zl1 hf rfl), zi rfl (fun σ => rfl) (fun σ => rfl) (fun σ a w k hk hlo hup hst hf => match k, hk, hlo, hup, hst, hf with | 0, _, _, _, hst, hf => have hO : Dk.Own w0 [] w _ := hst; ze (o := 1) zbE (hO.blkSees (i := 1) rfl) rfl hf rfl | 1, _, _, _, hst, hf => have hO : Dk.Own w0 [] w _ := hst; ze (o := 1) zbE (hO.blkSees (i := 1) rfl) rfl hf rfl | k + 2, hk, _, _, _, _ => absurd hk (by simp)), zi rfl (fun σ => rfl) (fun σ => rfl) (fun σ a w k _ _ _ _ hf => zh0 (l := x_x.To) Tryz.underlying9 hf rfl), zi rfl (fun σ => rfl) (fun σ => rfl) (fun σ a w k _ _ _ _ hf => zlQ (m := (x_x.To.length : Int)) (n := 60) hf rfl rfl), zi rfl (fun σ => rfl) (fun σ => rfl) (fun σ a w k _ _ _ _ hf => zjw (l := x_x.To) Tryz.underlying9 hf rfl rfl hs5), zi rfl (fun σ => rfl) (fun σ => rfl) (fun σ a w k _ _ _ _ hf => z6 (vs := [(0, str s4), (1, str s5)]) (v := .agg #[str s4, str s5]) hf rfl (by kernel_rfl)), zhK rfl (fun σ => rfl) (fun σ => rfl) rfl (fun σ w (hO : Dk.Own w0 [] w _) => by obtain ⟨w', hO', hr⟩ := zn2 (x := (.tmp 2)) (y := (.tmp 17)) (E := [(2, ptr b2 0), (17, .agg #[str s4, str s5])]) (i := 0) (n := 2) (vs := [str s4, str s5]) zfl rfl rfl rfl (by simp [Value.oneCell']) hO rfl rfl; exact ⟨(), w', hO', ⟨.inr rfl, .inr rfl, .inr rfl, .inr rfl, .inr rfl, .inr rfl, .inr rfl, .inr rfl, .inr rfl, .inr rfl, .inr rfl, .inr rfl, .inr rfl, .inr rfl, .inr rfl, .inr rfl, trivial⟩, hr⟩), trivial⟩ ?_
 rintro _ a w hf hO
 have hO : Dk.Own w0 [] w _ := hO
 have hf : Fits 18 [(2, ptr b2 0)] a := (hf.cons rfl hf.nil)
 refine S.no tb ?_ hf hO hm
 refine re_ rfl fun a w hf hO hm => ?_
 obtain rfl := Option.some.inj hm
 exact zs Tryz.results40 hf (.cell rfl (zcZ (n := 2) (vs := [str s4, str s5]) zgE zfl rfl ((hO.blkSees (i := 0) rfl).cells (o := 0) (n := 2) rfl)) .nil) ⟨rfl, hO.below⟩

theorem zm0 (x_a0 : api_Env) (R : api_Env) (w0 : World) (hG : zw w0) {x_a0_p0 : Option Addr} {x_a0_c0 : Nat} (hs0 : zH w0 x_a0_p0 (cells za x_a0.Domains)) (hc0 : x_a0.Domains.length ≤ x_a0_c0) {x_a0_p1 : Option Addr} {x_a0_c1 : Nat} (hs1 : zH w0 x_a0_p1 (cells za x_a0.Locations)) (hc1 : x_a0.Locations.length ≤ x_a0_c1) (hm : zfN x_a0 = some R) :
    Calls Tryz.prog 18 #[.agg #[str x_a0.Client, str x_a0.Host, str x_a0.Scheme, str x_a0.By, .slice x_a0_p0 x_a0.Domains.length x_a0_c0, .slice x_a0_p1 x_a0.Locations.length x_a0_c1]] w0 fun e w' => ∃ (p0 : Option Addr) (c0 : Nat) (p1 : Option Addr) (c1 : Nat), e = .returned (.agg #[str R.Client, str R.Host, str R.Scheme, str R.By, .slice p0 R.Domains.length c0, .slice p1 R.Locations.length c1]) ∧ Dk.Own w0 [] w' [.row (.slice p0 R.Domains.length c0) 87 2 R.Domains.length (cells za R.Domains), .row (.slice p1 R.Locations.length c1) 87 2 R.Locations.length (cells za R.Locations)] := by
 rw [zfN] at hm
 have hF : zG [] := zf
 have hO : Dk.Own w0 [] w0 [] := Dk.Own.refl w0
 have hO := hO.addShr hs0 (by simp [Res.shared])
 have hO := hO.addShr hs1 (by simp [Res.shared])
 refine S.enter tb Tryz.func18 rfl Tryz.ntmps18 rfl ?_ hO hm
 refine bo rfl fun b1 => ?_
 refine al al_47 rfl fun b2 => ?_
 refine nl 87 2 ?_
 refine nl 87 2 ?_
 refine ld 3 rfl rfl ?_
 refine ld 3 rfl rfl ?_
 refine ld 3 rfl rfl ?_
 refine ld 3 rfl rfl ?_
 refine vl rfl rfl (fun a w hf hO => z6 (vs := [(0, str x_a0.Client), (1, str x_a0.Host), (2, str x_a0.Scheme), (3, str x_a0.By)]) (v := .agg #[str x_a0.Client, str x_a0.Host, str x_a0.Scheme, str x_a0.By]) hf rfl (by kernel_rfl)) ?_
 refine al al_70 rfl fun b4 => ?_
 refine st 0 rfl rfl ?_
 refine jv 0 [1, 2, 3] [1, 2, 3, 4, 5, 6] (fun J E L => ∃ (s22 : Str) (s23 : Str) (s24 : Str) (s25 : Str), J (E) (.blk b4 [str s22, str s23, str s24, str s25] 70 :: L) (zeV x_a0 s22 s23 s24 s25)) rfl ?_ ?_
 refine lv [1, 2, 3] [1, 2, 3, 4, 5, 6] (fun J E L k => ∃ (s7 : Str) (s8 : Str) (s9 : Str) (s10 : Str) (i11 : Int), J ((4, int i11) :: E) (.blk b4 [str s7, str s8, str s9, str s10] 70 :: L) (zaZ x_a0 k s7 s8 s9 s10 i11)) rfl (fun _ _ j => ⟨x_a0.Client, x_a0.Host, x_a0.Scheme, x_a0.By, 0, j rfl⟩) ?_
 rintro n1 a w ⟨s7, s8, s9, s10, i11, hf, hO, hm⟩
 obtain _ | n1 := n1
 rw [zaZ] at hm
 cases hm
 rw [zaZ] at hm
 refine S.co tb ?_ hf hO hm
 refine br rfl (fun hc13 => ?_) fun hc13 => ?_
 refine rc_ rfl fun a w hf hO hm => ?_
 obtain ⟨x15, hx15, hm⟩ := ob hm
 have hAx15 := zlN (n := 4) (b := b4) (xs := [s7, s8, s9, s10]) (m := i11) 70 Tryz.underlying70 zgF rfl hx15
 obtain ⟨x16, hx16, hm⟩ := ob hm
 have hAx16 := zlN (n := 4) (b := b4) (xs := [s7, s8, s9, s10]) (m := i11) 70 Tryz.underlying70 zgF rfl hx16
 obtain ⟨s17, hs17, hm⟩ := ob hm
 obtain ⟨x18, hx18, hm⟩ := ob hm
 have hAx18 := zlN (n := 4) (b := b4) (xs := [s7, s8, s9, s10]) (m := i11) 70 Tryz.underlying70 zgF rfl hx18
 obtain ⟨r19, hr19, hm⟩ := ob hm
 refine zeW (S := Unit) (E0 := [(1, ptr b1 0), (2, ptr b2 0), (3, ptr b4 0), (4, int i11)]) (by kernel_rfl) (fun k σ w => match k with | 0 => Dk.Own w0 [] w [.blk b4 [str s7, str s8, str s9, str s10] 70, .row (.slice none 0 0) 87 2 0 (cells za []), .row (.slice none 0 0) 87 2 0 (cells za []), .blk b2 [str [], str [], str [], str [], .slice none 0 0, .slice none 0 0] 47, .blk b1 [str x_a0.Client, str x_a0.Host, str x_a0.Scheme, str x_a0.By, .slice x_a0_p0 x_a0.Domains.length x_a0_c0, .slice x_a0_p1 x_a0.Locations.length x_a0_c1] 47, .shr x_a0_p1 (cells za x_a0.Locations), .shr x_a0_p0 (cells za x_a0.Domains)] | _ => Dk.Own w0 [] w [.blk b4 [str r19.1, str r19.2.1, str r19.2.2.1, str r19.2.2.2] 70, .row (.slice none 0 0) 87 2 0 (cells za []), .row (.slice none 0 0) 87 2 0 (cells za []), .blk b2 [str [], str [], str [], str [], .slice none 0 0, .slice none 0 0] 47, .blk b1 [str x_a0.Client, str x_a0.Host, str x_a0.Scheme, str x_a0.By, .slice x_a0_p0 x_a0.Domains.length x_a0_c0, .slice x_a0_p1 x_a0.Locations.length x_a0_c1] 47, .shr x_a0_p1 (cells za x_a0.Locations), .shr x_a0_p0 (cells za x_a0.Domains)]) (fun σ => [⟨[(4, int i11)], some (21, int i11)⟩, ⟨[(4, int i11)], some (22, int i11)⟩, ⟨[(3, ptr b4 0), (22, int i11)], some (23, ptr b4 i11.toNat)⟩, ⟨[(23, ptr b4 i11.toNat)], some (24, str x15)⟩, ⟨[(4, int i11)], some (25, int i11)⟩, ⟨[(3, ptr b4 0), (25, int i11)], some (26, ptr b4 i11.toNat)⟩, ⟨[(26, ptr b4 i11.toNat)], some (27, str x16)⟩, ⟨[(27, str x16)], some (28, int (x16.length : Int))⟩, ⟨[(28, int (x16.length : Int))], some (29, int (min (x16.length : Int) 60))⟩, ⟨[(24, str x15), (29, int (min (x16.length : Int) 60))], some (30, str s17)⟩, ⟨[(3, ptr b4 0), (21, int i11)], some (31, ptr b4 i11.toNat)⟩, ⟨[(30, str s17), (31, ptr b4 i11.toNat)], none⟩]) () [11] rfl (fun _ => rfl) (fun _ => rfl) (fun _ => rfl) rfl rfl (by decide) rfl hO.drew (hf.cons rfl (hf.cons rfl (hf.cons rfl (hf.cons rfl hf.nil)))) (fun σ => ⟨⟨rfl, trivial⟩, ⟨rfl, trivial⟩, ⟨rfl, rfl, trivial⟩, ⟨rfl, trivial⟩, ⟨rfl, trivial⟩, ⟨rfl, rfl, trivial⟩, ⟨rfl, trivial⟩, ⟨rfl, trivial⟩, ⟨rfl, trivial⟩, ⟨rfl, rfl, trivial⟩, ⟨rfl, rfl, trivial⟩, ⟨rfl, rfl, trivial⟩, trivial⟩) ⟨zi rfl (fun σ => rfl) (fun σ => rfl) (fun σ a w k _ _ _ _ hf => zu hf rfl), zi rfl (fun σ => rfl) (fun σ => rfl) (fun σ a w k _ _ _ _ hf => zu hf rfl), zi rfl (fun σ => rfl) (fun σ => rfl) (fun σ a w k _ _ _ _ hf => zbU hAx15.1 hf rfl rfl), zi rfl (fun σ => rfl) (fun σ => rfl) (fun σ a w k hk hlo hup hst hf => match k, hk, hlo, hup, hst, hf with | 0, _, _, _, hst, hf => have hO : Dk.Own w0 [] w _ := hst; ze (o := 0) zbE ((fun w h => hAx15.2 w h) _ (hO.blkSees (i := 0) rfl)) rfl hf rfl | 1, _, _, hup, _, _ => absurd (hup 0 (by decide) (by kernel_rfl)) (by decide) | k + 2, hk, _, _, _, _ => absurd hk (by simp)), zi rfl (fun σ => rfl) (fun σ => rfl) (fun σ a w k _ _ _ _ hf => zu hf rfl), zi rfl (fun σ => rfl) (fun σ => rfl) (fun σ a w k _ _ _ _ hf => zbU hAx16.1 hf rfl rfl), zi rfl (fun σ => rfl) (fun σ => rfl) (fun σ a w k hk hlo hup hst hf => match k, hk, hlo, hup, hst, hf with | 0, _, _, _, hst, hf => have hO : Dk.Own w0 [] w _ := hst; ze (o := 0) zbE ((fun w h => hAx16.2 w h) _ (hO.blkSees (i := 0) rfl)) rfl hf rfl | 1, _, _, hup, _, _ => absurd (hup 0 (by decide) (by kernel_rfl)) (by decide) | k + 2, hk, _, _, _, _ => absurd hk (by simp)), zi rfl (fun σ => rfl) (fun σ => rfl) (fun σ a w k _ _ _ _ hf => zh0 (l := x16) Tryz.underlying9 hf rfl), zi rfl (fun σ => rfl) (fun σ => rfl) (fun σ a w k _ _ _ _ hf => zlQ (m := (x16.length : Int)) (n := 60) hf rfl rfl), zi rfl (fun σ => rfl) (fun σ => rfl) (fun σ a w k _ _ _ _ hf => zjw (l := x15) Tryz.underlying9 hf rfl rfl hs17), zi rfl (fun σ => rfl) (fun σ => rfl) (fun σ a w k _ _ _ _ hf => zbU hAx18.1 hf rfl rfl), zhK rfl (fun σ => rfl) (fun σ => rfl) rfl (fun σ w (hO : Dk.Own w0 [] w _) => by obtain ⟨w', hO', hr⟩ := zmt (x := (.tmp 31)) (y := (.tmp 30)) (E := [(30, str s17), (31, ptr b4 i11.toNat)]) (i := 0) (xs := [s7, s8, s9, s10]) (ys := [r19.1, r19.2.1, r19.2.2.1, r19.2.2.2]) (m := i11) (v := s17) zgF rfl (zn8 hr19) hO rfl rfl; exact ⟨(), w', hO', ⟨.inr rfl, .inr rfl, .inr rfl, .inr rfl, .inr rfl, .inr rfl, .inr rfl, .inr rfl, .inr rfl, .inr rfl, .inr rfl, .inr rfl, trivial⟩, hr⟩), trivial⟩ ?_
 rintro _ a w hf hO
 have hO : Dk.Own w0 [] w _ := hO
 have hf : Fits 86 [(1, ptr b1 0), (2, ptr b2 0), (3, ptr b4 0), (4, int i11)] a := (hf.cons rfl (hf.cons rfl (hf.cons rfl (hf.cons rfl hf.nil))))
 refine S.no tb ?_ hf hO hm
 refine bi rfl fun i21 hi21 => ?_
 exact en rfl fun _ _ j => ⟨_, Nat.lt_succ_self _, r19.1, r19.2.1, r19.2.2.1, r19.2.2.2, i21, j rfl⟩
 exact en rfl fun _ _ j => ⟨s7, s8, s9, s10, j rfl⟩
 rintro a w ⟨s22, s23, s24, s25, hf, hO, hm⟩
 rw [zeV] at hm
 refine S.co tb ?_ hf hO hm
 refine rw_ rfl fun a w hf hO hm => ?_
 refine zaB (zbU (zqn _) hf rfl rfl) rfl hf rfl rfl fun a hf => ?_
 refine S.op tb ?_ hf hO hm
 refine ld 0 rfl rfl ?_
 refine rw_ rfl fun a w hf hO hm => ?_
 refine zaB (zbU (zqo _) hf rfl rfl) rfl hf rfl rfl fun a hf => ?_
 refine S.op tb ?_ hf hO hm
 refine ld 0 rfl rfl ?_
 refine rw_ rfl fun a w hf hO hm => ?_
 refine zaB (zbU (zqp _) hf rfl rfl) rfl hf rfl rfl fun a hf => ?_
 refine S.op tb ?_ hf hO hm
 refine ld 0 rfl rfl ?_
 refine rw_ rfl fun a w hf hO hm => ?_
 refine zaB (zbU (zqq _) hf rfl rfl) rfl hf rfl rfl fun a hf => ?_
 refine S.op tb ?_ hf hO hm
 refine ld 0 rfl rfl ?_
 refine vl rfl rfl (fun a w hf hO => z6 (vs := [(0, str s22), (1, str s23), (2, str s24), (3, str s25)]) (v := .agg #[str s22, str s23, str s24, str s25, .slice none 0 0, .slice none 0 0]) hf rfl (by kernel_rfl)) ?_
 refine al al_47 rfl fun b26 => ?_
 refine nl 87 2 ?_
 refine nl 87 2 ?_
 refine st 2 rfl rfl ?_
 refine nl 87 2 ?_
 refine nl 87 2 ?_
 refine jv 0 [1, 2, 5] [2, 3, 5, 6, 7, 8, 9, 10, 11] (fun J E L => ∃ (s54 : Str) (s55 : Str) (s56 : Str) (s57 : Str) (p58 : Option Addr) (c59 : Nat) (l60 : List api_Swap) (p61 : Option Addr) (c62 : Nat) (l63 : List api_Swap), J (E) (.row (.slice p61 l63.length c62) 87 2 l63.length (cells za l63) :: .row (.slice p58 l60.length c59) 87 2 l60.length (cells za l60) :: .blk b26 [str s54, str s55, str s56, str s57, .slice p58 l60.length c59, .slice p61 l63.length c62] 47 :: L) (zeU x_a0 s54 s55 s56 s57 l60 l63)) rfl ?_ ?_
 refine ch [0, 1, 4, 2, 3, 5, 6, 7, 8, 9, 10, 11] rfl rfl ?_
 refine lv [1, 2, 5] [3, 4, 5, 6, 7, 8, 9, 10, 11] (fun J E L k => ∃ (p29 : Option Addr) (c30 : Nat) (l31 : List api_Swap) (s32 : Str) (s33 : Str) (s34 : Str) (s35 : Str) (p36 : Option Addr) (c37 : Nat) (l38 : List api_Swap) (i39 : Int), J ((6, int i39) :: E) (.row (.slice p36 l38.length c37) 87 2 l38.length (cells za l38) :: .row (.slice p29 l31.length c30) 87 2 l31.length (cells za l31) :: .blk b26 [str s32, str s33, str s34, str s35, .slice p29 l31.length c30, .slice p36 l38.length c37] 47 :: L) (zbq x_a0 k l31 s32 s33 s34 s35 l38 i39)) rfl (fun _ _ j => ⟨none, 0, [], s22, s23, s24, s25, none, 0, [], 0, j rfl⟩) ?_
 rintro n3 a w ⟨p29, c30, l31, s32, s33, s34, s35, p36, c37, l38, i39, hf, hO, hm⟩
 obtain _ | n3 := n3
 rw [zbq] at hm
 cases hm
 rw [zbq] at hm
 refine S.co tb ?_ hf hO hm
 refine jv 4 [1, 2, 5, 6] [0, 1, 2, 3, 4, 5, 6, 7, 8, 9, 10, 11] (fun J E L => ∃ (t41 : Bool), J ((49, .bool t41) :: E) (L) (zd4 (zbq x_a0 n3) x_a0 l31 s32 s33 s34 s35 l38 i39 t41)) rfl ?_ ?_
 refine ld 9 rfl rfl ?_
 refine br rfl (fun hc40 => ?_) fun hc40 => ?_
 exact en rfl fun _ _ j => ⟨decide (i39 < 6), j rfl⟩
 exact en rfl fun _ _ j => ⟨false, j rfl⟩
 rintro a w ⟨t41, hf, hO, hm⟩
 rw [zd4] at hm
 refine S.co tb ?_ hf hO hm
 refine br rfl (fun hc42 => ?_) fun hc42 => ?_
 refine rc_ rfl fun a w hf hO hm => ?_
 obtain ⟨x44, hx44, hm⟩ := ob hm
 obtain ⟨b45, o46, hix44, hSx44⟩ := zbD (enc := za) (sz := 2) (xs := x_a0.Domains) 45 Tryz.underlying45 zfl (by decide) (fun _ => rfl) (hO.sees (i := 11) rfl) hx44
 obtain ⟨r47, hr47, hm⟩ := ob hm
 obtain ⟨hg51, hm⟩ := og hm
 refine zeW (S := Nat × Option Addr × Nat) (E0 := [(1, ptr b1 0), (2, ptr b2 0), (5, ptr b26 0), (6, int i39)]) (by kernel_rfl) (fun k σ w => match k with | 0 => Dk.Own w0 [] w [.row (.slice p36 l38.length c37) 87 2 l38.length (cells za l38), .row (.slice p29 l31.length c30) 87 2 l31.length (cells za l31), .blk b26 [str s32, str s33, str s34, str s35, .slice p29 l31.length c30, .slice p36 l38.length c37] 47, .row (.slice none 0 0) 87 2 0 (cells za []), .row (.slice none 0 0) 87 2 0 (cells za []), .blk b4 [str s22, str s23, str s24, str s25] 70, .row (.slice none 0 0) 87 2 0 (cells za []), .row (.slice none 0 0) 87 2 0 (cells za []), .blk b2 [str [], str [], str [], str [], .slice none 0 0, .slice none 0 0] 47, .blk b1 [str x_a0.Client, str x_a0.Host, str x_a0.Scheme, str x_a0.By, .slice x_a0_p0 x_a0.Domains.length x_a0_c0, .slice x_a0_p1 x_a0.Locations.length x_a0_c1] 47, .shr x_a0_p1 (cells za x_a0.Locations), .shr x_a0_p0 (cells za x_a0.Domains)] | 1 => Dk.Own w0 [] w [.row (.slice p36 l38.length c37) 87 2 l38.length (cells za l38), .row (.slice p29 l31.length c30) 87 2 l31.length (cells za l31), .blk b26 [str s32, str s33, str s34, str s35, .slice p29 l31.length c30, .slice p36 l38.length c37] 47, .row (.slice none 0 0) 87 2 0 (cells za []), .row (.slice none 0 0) 87 2 0 (cells za []), .blk b4 [str s22, str s23, str s24, str s25] 70, .row (.slice none 0 0) 87 2 0 (cells za []), .row (.slice none 0 0) 87 2 0 (cells za []), .blk b2 [str [], str [], str [], str [], .slice none 0 0, .slice none 0 0] 47, .blk b1 [str x_a0.Client, str x_a0.Host, str x_a0.Scheme, str x_a0.By, .slice x_a0_p0 x_a0.Domains.length x_a0_c0, .slice x_a0_p1 x_a0.Locations.length x_a0_c1] 47, .shr x_a0_p1 (cells za x_a0.Locations), .shr x_a0_p0 (cells za x_a0.Domains)] | 2 => Dk.Own w0 [] w [.row (.slice (some ⟨(σ.1), 0, none⟩) ([r47].length) 1) 87 2 ([r47].length) (cells za [r47]), .row (.slice p36 l38.length c37) 87 2 l38.length (cells za l38), .row (.slice p29 l31.length c30) 87 2 l31.length (cells za l31), .blk b26 [str s32, str s33, str s34, str s35, .slice p29 l31.length c30, .slice p36 l38.length c37] 47, .row (.slice none 0 0) 87 2 0 (cells za []), .row (.slice none 0 0) 87 2 0 (cells za []), .blk b4 [str s22, str s23, str s24, str s25] 70, .row (.slice none 0 0) 87 2 0 (cells za []), .row (.slice none 0 0) 87 2 0 (cells za []), .blk b2 [str [], str [], str [], str [], .slice none 0 0, .slice none 0 0] 47, .blk b1 [str x_a0.Client, str x_a0.Host, str x_a0.Scheme, str x_a0.By, .slice x_a0_p0 x_a0.Domains.length x_a0_c0, .slice x_a0_p1 x_a0.Locations.length x_a0_c1] 47, .shr x_a0_p1 (cells za x_a0.Locations), .shr x_a0_p0 (cells za x_a0.Domains)] | 3 => Dk.Own w0 [] w [.row (.slice (some ⟨(σ.1), 0, none⟩) ([r47].length) 1) 87 2 ([r47].length) (cells za [r47]), .row (.slice p36 l38.length c37) 87 2 l38.length (cells za l38), .row (.slice (σ.2.1) ((l31 ++ [r47]).length) (σ.2.2)) 87 2 ((l31 ++ [r47]).length) (cells za (l31 ++ [r47])), .blk b26 [str s32, str s33, str s34, str s35, .slice p29 l31.length c30, .slice p36 l38.length c37] 47, .row (.slice none 0 0) 87 2 0 (cells za []), .row (.slice none 0 0) 87 2 0 (cells za []), .blk b4 [str s22, str s23, str s24, str s25] 70, .row (.slice none 0 0) 87 2 0 (cells za []), .row (.slice none 0 0) 87 2 0 (cells za []), .blk b2 [str [], str [], str [], str [], .slice none 0 0, .slice none 0 0] 47, .blk b1 [str x_a0.Client, str x_a0.Host, str x_a0.Scheme, str x_a0.By, .slice x_a0_p0 x_a0.Domains.length x_a0_c0, .slice x_a0_p1 x_a0.Locations.length x_a0_c1] 47, .shr x_a0_p1 (cells za x_a0.Locations), .shr x_a0_p0 (cells za x_a0.Domains)] | _ => Dk.Own w0 [] w [.row (.slice (some ⟨(σ.1), 0, none⟩) ([r47].length) 1) 87 2 ([r47].length) (cells za [r47]), .row (.slice p36 l38.length c37) 87 2 l38.length (cells za l38), .row (.slice (σ.2.1) ((l31 ++ [r47]).length) (σ.2.2)) 87 2 ((l31 ++ [r47]).length) (cells za (l31 ++ [r47])), .blk b26 [str s32, str s33, str s34, str s35, .slice (σ.2.1) ((l31 ++ [r47]).length) (σ.2.2), .slice p36 l38.length c37] 47, .row (.slice none 0 0) 87 2 0 (cells za []), .row (.slice none 0 0) 87 2 0 (cells za []), .blk b4 [str s22, str s23, str s24, str s25] 70, .row (.slice none 0 0) 87 2 0 (cells za []), .row (.slice none 0 0) 87 2 0 (cells za []), .blk b2 [str [], str [], str [], str [], .slice none 0 0, .slice none 0 0] 47, .blk b1 [str x_a0.Client, str x_a0.Host, str x_a0.Scheme, str x_a0.By, .slice x_a0_p0 x_a0.Domains.length x_a0_c0, .slice x_a0_p1 x_a0.Locations.length x_a0_c1] 47, .shr x_a0_p1 (cells za x_a0.Locations), .shr x_a0_p0 (cells za x_a0.Domains)]) (fun σ => [⟨[(5, ptr b26 0)], some (52, ptr b26 4)⟩, ⟨[(52, ptr b26 4)], some (53, .slice p29 l31.length c30)⟩, ⟨[(1, ptr b1 0)], some (54, ptr b1 4)⟩, ⟨[(54, ptr b1 4)], some (55, .slice x_a0_p0 x_a0.Domains.length x_a0_c0)⟩, ⟨[(6, int i39)], some (56, int i39)⟩, ⟨[(55, .slice x_a0_p0 x_a0.Domains.length x_a0_c0), (56, int i39)], some (57, ptr b45 o46)⟩, ⟨[(57, ptr b45 o46)], some (58, .agg #[str x44.From, str x44.To])⟩, ⟨[(58, .agg #[str x44.From, str x44.To])], some (59, .agg #[str r47.From, str r47.To])⟩, ⟨[(59, .agg #[str r47.From, str r47.To])], some (60, .slice (some ⟨(σ.1), 0, none⟩) ([r47].length) 1)⟩, ⟨[(53, .slice p29 l31.length c30), (60, .slice (some ⟨(σ.1), 0, none⟩) ([r47].length) 1)], some (61, .slice (σ.2.1) ((l31 ++ [r47]).length) (σ.2.2))⟩, ⟨[(5, ptr b26 0)], some (62, ptr b26 4)⟩, ⟨[(61, .slice (σ.2.1) ((l31 ++ [r47]).length) (σ.2.2)), (62, ptr b26 4)], none⟩]) (0, none, 0) [7, 8, 9, 11] rfl (fun _ => rfl) (fun _ => rfl) (fun _ => rfl) rfl rfl (by decide) rfl hO.drew (hf.cons rfl (hf.cons rfl (hf.cons rfl (hf.cons rfl hf.nil)))) (fun σ => ⟨⟨rfl, trivial⟩, ⟨rfl, trivial⟩, ⟨rfl, trivial⟩, ⟨rfl, trivial⟩, ⟨rfl, trivial⟩, ⟨rfl, rfl, trivial⟩, ⟨rfl, trivial⟩, ⟨rfl, trivial⟩, ⟨rfl, trivial⟩, ⟨rfl, rfl, trivial⟩, ⟨rfl, trivial⟩, ⟨rfl, rfl, trivial⟩, trivial⟩) ⟨zi rfl (fun σ => rfl) (fun σ => rfl) (fun σ a w k _ _ _ _ hf => zK zjy hf rfl), zi rfl (fun σ => rfl) (fun σ => rfl) (fun σ a w k hk hlo hup hst hf => match k, hk, hlo, hup, hst, hf with | 0, _, _, _, hst, hf => have hO : Dk.Own w0 [] w _ := hst; ze (o := 4) zdN (hO.blkSees (i := 2) rfl) rfl hf rfl | 1, _, _, _, hst, hf => have hO : Dk.Own w0 [] w _ := hst; ze (o := 4) zdN (hO.blkSees (i := 2) rfl) rfl hf rfl | 2, _, _, _, hst, hf => have hO : Dk.Own w0 [] w _ := hst; ze (o := 4) zdN (hO.blkSees (i := 3) rfl) rfl hf rfl | 3, _, _, _, hst, hf => have hO : Dk.Own w0 [] w _ := hst; ze (o := 4) zdN (hO.blkSees (i := 3) rfl) rfl hf rfl | 4, _, _, hup, _, _ => absurd (hup 2 (by decide) (by kernel_rfl)) (by decide) | k + 5, hk, _, _, _, _ => absurd hk (by simp)), zi rfl (fun σ => rfl) (fun σ => rfl) (fun σ a w k _ _ _ _ hf => zK zjy hf rfl), zi rfl (fun σ => rfl) (fun σ => rfl) (fun σ a w k hk hlo hup hst hf => match k, hk, hlo, hup, hst, hf with | 0, _, _, _, hst, hf => have hO : Dk.Own w0 [] w _ := hst; ze (o := 4) zdN (hO.blkSees (i := 9) rfl) rfl hf rfl | 1, _, _, _, hst, hf => have hO : Dk.Own w0 [] w _ := hst; ze (o := 4) zdN (hO.blkSees (i := 9) rfl) rfl hf rfl | 2, _, _, _, hst, hf => have hO : Dk.Own w0 [] w _ := hst; ze (o := 4) zdN (hO.blkSees (i := 10) rfl) rfl hf rfl | 3, _, _, _, hst, hf => have hO : Dk.Own w0 [] w _ := hst; ze (o := 4) zdN (hO.blkSees (i := 10) rfl) rfl hf rfl | 4, _, _, _, hst, hf => have hO : Dk.Own w0 [] w _ := hst; ze (o := 4) zdN (hO.blkSees (i := 10) rfl) rfl hf rfl | k + 5, hk, _, _, _, _ => absurd hk (by simp)), zi rfl (fun σ => rfl) (fun σ => rfl) (fun σ a w k _ _ _ _ hf => zu hf rfl), zi rfl (fun σ => rfl) (fun σ => rfl) (fun σ a w k _ _ _ _ hf => zk hix44 hf rfl rfl), zi rfl (fun σ => rfl) (fun σ => rfl) (fun σ a w k hk hlo hup hst hf => match k, hk, hlo, hup, hst, hf with | 0, _, _, _, hst, hf => have hO : Dk.Own w0 [] w _ := hst; zae (o := 0) (vs := [str x44.From, str x44.To]) zgE zfl (hSx44 _ (hO.sees (i := 11) rfl)) rfl rfl hf rfl | 1, _, _, _, hst, hf => have hO : Dk.Own w0 [] w _ := hst; zae (o := 0) (vs := [str x44.From, str x44.To]) zgE zfl (hSx44 _ (hO.sees (i := 11) rfl)) rfl rfl hf rfl | 2, _, _, _, hst, hf => have hO : Dk.Own w0 [] w _ := hst; zae (o := 0) (vs := [str x44.From, str x44.To]) zgE zfl (hSx44 _ (hO.sees (i := 12) rfl)) rfl rfl hf rfl | 3, _, _, _, hst, hf => have hO : Dk.Own w0 [] w _ := hst; zae (o := 0) (vs := [str x44.From, str x44.To]) zgE zfl (hSx44 _ (hO.sees (i := 12) rfl)) rfl rfl hf rfl | 4, _, _, _, hst, hf => have hO : Dk.Own w0 [] w _ := hst; zae (o := 0) (vs := [str x44.From, str x44.To]) zgE zfl (hSx44 _ (hO.sees (i := 12) rfl)) rfl rfl hf rfl | k + 5, hk, _, _, _, _ => absurd hk (by simp)), zhJ rfl (fun σ => rfl) (fun σ => rfl) rfl (fun σ a w (_ : _) hf => zp c_40 hf (vs := [.agg #[str x44.From, str x44.To]]) rfl) (fun σ w (hO : Dk.Own w0 [] w _) => (zie x44 r47 _ (hG.own hF hO) hr47).mono fun e w' h => by obtain ⟨he, hb⟩ := h; exact ⟨((σ.1), (σ.2.1), (σ.2.2)), he, hO.grow hb, .inr rfl, .inr rfl, .inr rfl, .inr rfl, .inr rfl, .inr rfl, .inr rfl, .inr rfl, .inr rfl, .inr rfl, .inr rfl, .inr rfl, trivial⟩), zhq rfl (fun σ => rfl) (fun σ => rfl) rfl (fun σ w (hO : Dk.Own w0 [] w _) => by obtain ⟨b48, w', hO', hr⟩ := zeq (E := [(59, .agg #[str r47.From, str r47.To])]) (parts := #[(0, (.tmp 59))]) (t' := 45) (n := 1) (vs := [(0, .agg #[str r47.From, str r47.To])]) (cs := [str r47.From, str r47.To]) (e := 87) (sz := 2) (fun w => by kernel_rfl) rfl rfl hO rfl; exact ⟨(b48, (σ.2.1), (σ.2.2)), w', hO', ⟨.inr rfl, .inr rfl, .inr rfl, .inr rfl, .inr rfl, .inr rfl, .inr rfl, .inr rfl, .inl rfl, .inl rfl, .inr rfl, .inr rfl, trivial⟩, hr⟩), zhq rfl (fun σ => rfl) (fun σ => rfl) rfl (fun σ w (hO : Dk.Own w0 [] w _) => by obtain ⟨p49, c50, w', hO', hr⟩ := ziv (E := [(53, .slice p29 l31.length c30), (60, .slice (some ⟨(σ.1), 0, none⟩) ([r47].length) 1)]) (x := (.tmp 53)) (y := (.tmp 60)) el_45 (enc := za) (xs := l31) (ys := [r47]) (i := 2) (fun _ => rfl) rfl (hO.rowSees (i := 0) rfl) (by simp [cells, za, Value.oneCell']) hg51 hO rfl rfl; exact ⟨((σ.1), p49, c50), w', hO', ⟨.inr rfl, .inr rfl, .inr rfl, .inr rfl, .inr rfl, .inr rfl, .inr rfl, .inr rfl, .inr rfl, .inl rfl, .inr rfl, .inl rfl, trivial⟩, hr⟩), zi rfl (fun σ => rfl) (fun σ => rfl) (fun σ a w k _ _ _ _ hf => zK zjy hf rfl), zhK rfl (fun σ => rfl) (fun σ => rfl) rfl (fun σ w (hO : Dk.Own w0 [] w _) => by obtain ⟨w', hO', hr⟩ := ziu (x := (.tmp 62)) (y := (.tmp 61)) (E := [(61, .slice (σ.2.1) ((l31 ++ [r47]).length) (σ.2.2)), (62, ptr b26 4)]) (i := 3) (o := 4) (v := .slice (σ.2.1) ((l31 ++ [r47]).length) (σ.2.2)) sz_45 rfl rfl rfl rfl hO rfl rfl; exact ⟨((σ.1), (σ.2.1), (σ.2.2)), w', hO', ⟨.inr rfl, .inr rfl, .inr rfl, .inr rfl, .inr rfl, .inr rfl, .inr rfl, .inr rfl, .inr rfl, .inr rfl, .inr rfl, .inr rfl, trivial⟩, hr⟩), trivial⟩ ?_
 rintro ⟨b48, p49, c50⟩ a w hf hO
 have hO : Dk.Own w0 [] w _ := hO
 have hf : Fits 86 [(1, ptr b1 0), (2, ptr b2 0), (5, ptr b26 0), (6, int i39)] a := (hf.cons rfl (hf.cons rfl (hf.cons rfl (hf.cons rfl hf.nil))))
 refine S.no tb ?_ hf hO hm
 refine bi rfl fun i53 hi53 => ?_
 exact ec [1, 2, 3, 4, 5, 6, 7, 8, 9, 10, 11, 12] rfl rfl rfl fun _ _ j => ⟨_, Nat.lt_succ_self _, p49, c50, l31 ++ [r47], s32, s33, s34, s35, p36, c37, l38, i53, j rfl⟩
 exact en rfl fun _ _ j => ⟨s32, s33, s34, s35, p29, c30, l31, p36, c37, l38, j rfl⟩
 rintro a w ⟨s54, s55, s56, s57, p58, c59, l60, p61, c62, l63, hf, hO, hm⟩
 rw [zeU] at hm
 refine S.co tb ?_ hf hO hm
 refine jv 0 [2, 5] [3, 4, 5, 6, 7, 8, 9, 10, 11] (fun J E L => ∃ (s90 : Str) (s91 : Str) (s92 : Str) (s93 : Str) (p94 : Option Addr) (c95 : Nat) (l96 : List api_Swap) (p97 : Option Addr) (c98 : Nat) (l99 : List api_Swap), J (E) (.row (.slice p97 l99.length c98) 87 2 l99.length (cells za l99) :: .row (.slice p94 l96.length c95) 87 2 l96.length (cells za l96) :: .blk b26 [str s90, str s91, str s92, str s93, .slice p94 l96.length c95, .slice p97 l99.length c98] 47 :: L) (zeT s90 s91 s92 s93 l96 l99)) rfl ?_ ?_
 refine lv [1, 2, 5] [3, 4, 5, 6, 7, 8, 9, 10, 11] (fun J E L k => ∃ (p65 : Option Addr) (c66 : Nat) (l67 : List api_Swap) (s68 : Str) (s69 : Str) (s70 : Str) (s71 : Str) (p72 : Option Addr) (c73 : Nat) (l74 : List api_Swap) (i75 : Int), J ((7, int i75) :: E) (.row (.slice p65 l67.length c66) 87 2 l67.length (cells za l67) :: .row (.slice p72 l74.length c73) 87 2 l74.length (cells za l74) :: .blk b26 [str s68, str s69, str s70, str s71, .slice p72 l74.length c73, .slice p65 l67.length c66] 47 :: L) (zaY x_a0 k l67 s68 s69 s70 s71 l74 i75)) rfl (fun _ _ j => ⟨p61, c62, l63, s54, s55, s56, s57, p58, c59, l60, 0, j rfl⟩) ?_
 rintro n6 a w ⟨p65, c66, l67, s68, s69, s70, s71, p72, c73, l74, i75, hf, hO, hm⟩
 obtain _ | n6 := n6
 rw [zaY] at hm
 cases hm
 rw [zaY] at hm
 refine S.co tb ?_ hf hO hm
 refine jv 4 [1, 2, 5, 7] [0, 1, 2, 3, 4, 5, 6, 7, 8, 9, 10, 11] (fun J E L => ∃ (t77 : Bool), J ((71, .bool t77) :: E) (L) (zd3 (zaY x_a0 n6) x_a0 l67 s68 s69 s70 s71 l74 i75 t77)) rfl ?_ ?_
 refine ld 9 rfl rfl ?_
 refine br rfl (fun hc76 => ?_) fun hc76 => ?_
 exact en rfl fun _ _ j => ⟨decide (i75 < 6), j rfl⟩
 exact en rfl fun _ _ j => ⟨false, j rfl⟩
 rintro a w ⟨t77, hf, hO, hm⟩
 rw [zd3] at hm
 refine S.co tb ?_ hf hO hm
 refine br rfl (fun hc78 => ?_) fun hc78 => ?_
 refine rc_ rfl fun a w hf hO hm => ?_
 obtain ⟨x80, hx80, hm⟩ := ob hm
 obtain ⟨b81, o82, hix80, hSx80⟩ := zbD (enc := za) (sz := 2) (xs := x_a0.Locations) 45 Tryz.underlying45 zfl (by decide) (fun _ => rfl) (hO.sees (i := 10) rfl) hx80
 obtain ⟨r83, hr83, hm⟩ := ob hm
 obtain ⟨hg87, hm⟩ := og hm
 refine zeW (S := Nat × Option Addr × Nat) (E0 := [(1, ptr b1 0), (2, ptr b2 0), (5, ptr b26 0), (7, int i75)]) (by kernel_rfl) (fun k σ w => match k with | 0 => Dk.Own w0 [] w [.row (.slice p65 l67.length c66) 87 2 l67.length (cells za l67), .row (.slice p72 l74.length c73) 87 2 l74.length (cells za l74), .blk b26 [str s68, str s69, str s70, str s71, .slice p72 l74.length c73, .slice p65 l67.length c66] 47, .row (.slice none 0 0) 87 2 0 (cells za []), .row (.slice none 0 0) 87 2 0 (cells za []), .blk b4 [str s22, str s23, str s24, str s25] 70, .row (.slice none 0 0) 87 2 0 (cells za []), .row (.slice none 0 0) 87 2 0 (cells za []), .blk b2 [str [], str [], str [], str [], .slice none 0 0, .slice none 0 0] 47, .blk b1 [str x_a0.Client, str x_a0.Host, str x_a0.Scheme, str x_a0.By, .slice x_a0_p0 x_a0.Domains.length x_a0_c0, .slice x_a0_p1 x_a0.Locations.length x_a0_c1] 47, .shr x_a0_p1 (cells za x_a0.Locations), .shr x_a0_p0 (cells za x_a0.Domains)] | 1 => Dk.Own w0 [] w [.row (.slice p65 l67.length c66) 87 2 l67.length (cells za l67), .row (.slice p72 l74.length c73) 87 2 l74.length (cells za l74), .blk b26 [str s68, str s69, str s70, str s71, .slice p72 l74.length c73, .slice p65 l67.length c66] 47, .row (.slice none 0 0) 87 2 0 (cells za []), .row (.slice none 0 0) 87 2 0 (cells za []), .blk b4 [str s22, str s23, str s24, str s25] 70, .row (.slice none 0 0) 87 2 0 (cells za []), .row (.slice none 0 0) 87 2 0 (cells za []), .blk b2 [str [], str [], str [], str [], .slice none 0 0, .slice none 0 0] 47, .blk b1 [str x_a0.Client, str x_a0.Host, str x_a0.Scheme, str x_a0.By, .slice x_a0_p0 x_a0.Domains.length x_a0_c0, .slice x_a0_p1 x_a0.Locations.length x_a0_c1] 47, .shr x_a0_p1 (cells za x_a0.Locations), .shr x_a0_p0 (cells za x_a0.Domains)] | 2 => Dk.Own w0 [] w [.row (.slice (some ⟨(σ.1), 0, none⟩) ([r83].length) 1) 87 2 ([r83].length) (cells za [r83]), .row (.slice p65 l67.length c66) 87 2 l67.length (cells za l67), .row (.slice p72 l74.length c73) 87 2 l74.length (cells za l74), .blk b26 [str s68, str s69, str s70, str s71, .slice p72 l74.length c73, .slice p65 l67.length c66] 47, .row (.slice none 0 0) 87 2 0 (cells za []), .row (.slice none 0 0) 87 2 0 (cells za []), .blk b4 [str s22, str s23, str s24, str s25] 70, .row (.slice none 0 0) 87 2 0 (cells za []), .row (.slice none 0 0) 87 2 0 (cells za []), .blk b2 [str [], str [], str [], str [], .slice none 0 0, .slice none 0 0] 47, .blk b1 [str x_a0.Client, str x_a0.Host, str x_a0.Scheme, str x_a0.By, .slice x_a0_p0 x_a0.Domains.length x_a0_c0, .slice x_a0_p1 x_a0.Locations.length x_a0_c1] 47, .shr x_a0_p1 (cells za x_a0.Locations), .shr x_a0_p0 (cells za x_a0.Domains)] | 3 => Dk.Own w0 [] w [.row (.slice (some ⟨(σ.1), 0, none⟩) ([r83].length) 1) 87 2 ([r83].length) (cells za [r83]), .row (.slice (σ.2.1) ((l67 ++ [r83]).length) (σ.2.2)) 87 2 ((l67 ++ [r83]).length) (cells za (l67 ++ [r83])), .row (.slice p72 l74.length c73) 87 2 l74.length (cells za l74), .blk b26 [str s68, str s69, str s70, str s71, .slice p72 l74.length c73, .slice p65 l67.length c66] 47, .row (.slice none 0 0) 87 2 0 (cells za []), .row (.slice none 0 0) 87 2 0 (cells za []), .blk b4 [str s22, str s23, str s24, str s25] 70, .row (.slice none 0 0) 87 2 0 (cells za []), .row (.slice none 0 0) 87 2 0 (cells za []), .blk b2 [str [], str [], str [], str [], .slice none 0 0, .slice none 0 0] 47, .blk b1 [str x_a0.Client, str x_a0.Host, str x_a0.Scheme, str x_a0.By, .slice x_a0_p0 x_a0.Domains.length x_a0_c0, .slice x_a0_p1 x_a0.Locations.length x_a0_c1] 47, .shr x_a0_p1 (cells za x_a0.Locations), .shr x_a0_p0 (cells za x_a0.Domains)] | _ => Dk.Own w0 [] w [.row (.slice (some ⟨(σ.1), 0, none⟩) ([r83].length) 1) 87 2 ([r83].length) (cells za [r83]), .row (.slice (σ.2.1) ((l67 ++ [r83]).length) (σ.2.2)) 87 2 ((l67 ++ [r83]).length) (cells za (l67 ++ [r83])), .row (.slice p72 l74.length c73) 87 2 l74.length (cells za l74), .blk b26 [str s68, str s69, str s70, str s71, .slice p72 l74.length c73, .slice (σ.2.1) ((l67 ++ [r83]).length) (σ.2.2)] 47, .row (.slice none 0 0) 87 2 0 (cells za []), .row (.slice none 0 0) 87 2 0 (cells za []), .blk b4 [str s22, str s23, str s24, str s25] 70, .row (.slice none 0 0) 87 2 0 (cells za []), .row (.slice none 0 0) 87 2 0 (cells za []), .blk b2 [str [], str [], str [], str [], .slice none 0 0, .slice none 0 0] 47, .blk b1 [str x_a0.Client, str x_a0.Host, str x_a0.Scheme, str x_a0.By, .slice x_a0_p0 x_a0.Domains.length x_a0_c0, .slice x_a0_p1 x_a0.Locations.length x_a0_c1] 47, .shr x_a0_p1 (cells za x_a0.Locations), .shr x_a0_p0 (cells za x_a0.Domains)]) (fun σ => [⟨[(5, ptr b26 0)], some (74, ptr b26 5)⟩, ⟨[(74, ptr b26 5)], some (75, .slice p65 l67.length c66)⟩, ⟨[(1, ptr b1 0)], some (76, ptr b1 5)⟩, ⟨[(76, ptr b1 5)], some (77, .slice x_a0_p1 x_a0.Locations.length x_a0_c1)⟩, ⟨[(7, int i75)], some (78, int i75)⟩, ⟨[(77, .slice x_a0_p1 x_a0.Locations.length x_a0_c1), (78, int i75)], some (79, ptr b81 o82)⟩, ⟨[(79, ptr b81 o82)], some (80, .agg #[str x80.From, str x80.To])⟩, ⟨[(80, .agg #[str x80.From, str x80.To])], some (81, .agg #[str r83.From, str r83.To])⟩, ⟨[(81, .agg #[str r83.From, str r83.To])], some (82, .slice (some ⟨(σ.1), 0, none⟩) ([r83].length) 1)⟩, ⟨[(75, .slice p65 l67.length c66), (82, .slice (some ⟨(σ.1), 0, none⟩) ([r83].length) 1)], some (83, .slice (σ.2.1) ((l67 ++ [r83]).length) (σ.2.2))⟩, ⟨[(5, ptr b26 0)], some (84, ptr b26 5)⟩, ⟨[(83, .slice (σ.2.1) ((l67 ++ [r83]).length) (σ.2.2)), (84, ptr b26 5)], none⟩]) (0, none, 0) [7, 8, 9, 11] rfl (fun _ => rfl) (fun _ => rfl) (fun _ => rfl) rfl rfl (by decide) rfl hO.drew (hf.cons rfl (hf.cons rfl (hf.cons rfl (hf.cons rfl hf.nil)))) (fun σ => ⟨⟨rfl, trivial⟩, ⟨rfl, trivial⟩, ⟨rfl, trivial⟩, ⟨rfl, trivial⟩, ⟨rfl, trivial⟩, ⟨rfl, rfl, trivial⟩, ⟨rfl, trivial⟩, ⟨rfl, trivial⟩, ⟨rfl, trivial⟩, ⟨rfl, rfl, trivial⟩, ⟨rfl, trivial⟩, ⟨rfl, rfl, trivial⟩, trivial⟩) ⟨zi rfl (fun σ => rfl) (fun σ => rfl) (fun σ a w k _ _ _ _ hf => zK zjz hf rfl), zi rfl (fun σ => rfl) (fun σ => rfl) (fun σ a w k hk hlo hup hst hf => match k, hk, hlo, hup, hst, hf with | 0, _, _, _, hst, hf => have hO : Dk.Own w0 [] w _ := hst; ze (o := 5) zdN (hO.blkSees (i := 2) rfl) rfl hf rfl | 1, _, _, _, hst, hf => have hO : Dk.Own w0 [] w _ := hst; ze (o := 5) zdN (hO.blkSees (i := 2) rfl) rfl hf rfl | 2, _, _, _, hst, hf => have hO : Dk.Own w0 [] w _ := hst; ze (o := 5) zdN (hO.blkSees (i := 3) rfl) rfl hf rfl | 3, _, _, _, hst, hf => have hO : Dk.Own w0 [] w _ := hst; ze (o := 5) zdN (hO.blkSees (i := 3) rfl) rfl hf rfl | 4, _, _, hup, _, _ => absurd (hup 2 (by decide) (by kernel_rfl)) (by decide) | k + 5, hk, _, _, _, _ => absurd hk (by simp)), zi rfl (fun σ => rfl) (fun σ => rfl) (fun σ a w k _ _ _ _ hf => zK zjz hf rfl), zi rfl (fun σ => rfl) (fun σ => rfl) (fun σ a w k hk hlo hup hst hf => match k, hk, hlo, hup, hst, hf with | 0, _, _, _, hst, hf => have hO : Dk.Own w0 [] w _ := hst; ze (o := 5) zdN (hO.blkSees (i := 9) rfl) rfl hf rfl | 1, _, _, _, hst, hf => have hO : Dk.Own w0 [] w _ := hst; ze (o := 5) zdN (hO.blkSees (i := 9) rfl) rfl hf rfl | 2, _, _, _, hst, hf => have hO : Dk.Own w0 [] w _ := hst; ze (o := 5) zdN (hO.blkSees (i := 10) rfl) rfl hf rfl | 3, _, _, _, hst, hf => have hO : Dk.Own w0 [] w _ := hst; ze (o := 5) zdN (hO.blkSees (i := 10) rfl) rfl hf rfl | 4, _, _, _, hst, hf => have hO : Dk.Own w0 [] w _ := hst; ze (o := 5) zdN (hO.blkSees (i := 10) rfl) rfl hf rfl | k + 5, hk, _, _, _, _ => absurd hk (by simp)), zi rfl (fun σ => rfl) (fun σ => rfl) (fun σ a w k _ _ _ _ hf => zu hf rfl), zi rfl (fun σ => rfl) (fun σ => rfl) (fun σ a w k _ _ _ _ hf => zk hix80 hf rfl rfl), zi rfl (fun σ => rfl) (fun σ => rfl) (fun σ a w k hk hlo hup hst hf => match k, hk, hlo, hup, hst, hf with | 0, _, _, _, hst, hf => have hO : Dk.Own w0 [] w _ := hst; zae (o := 0) (vs := [str x80.From, str x80.To]) zgE zfl (hSx80 _ (hO.sees (i := 10) rfl)) rfl rfl hf rfl | 1, _, _, _, hst, hf => have hO : Dk.Own w0 [] w _ := hst; zae (o := 0) (vs := [str x80.From, str x80.To]) zgE zfl (hSx80 _ (hO.sees (i := 10) rfl)) rfl rfl hf rfl | 2, _, _, _, hst, hf => have hO : Dk.Own w0 [] w _ := hst; zae (o := 0) (vs := [str x80.From, str x80.To]) zgE zfl (hSx80 _ (hO.sees (i := 11) rfl)) rfl rfl hf rfl | 3, _, _, _, hst, hf => have hO : Dk.Own w0 [] w _ := hst; zae (o := 0) (vs := [str x80.From, str x80.To]) zgE zfl (hSx80 _ (hO.sees (i := 11) rfl)) rfl rfl hf rfl | 4, _, _, _, hst, hf => have hO : Dk.Own w0 [] w _ := hst; zae (o := 0) (vs := [str x80.From, str x80.To]) zgE zfl (hSx80 _ (hO.sees (i := 11) rfl)) rfl rfl hf rfl | k + 5, hk, _, _, _, _ => absurd hk (by simp)), zhJ rfl (fun σ => rfl) (fun σ => rfl) rfl (fun σ a w (_ : _) hf => zp c_40 hf (vs := [.agg #[str x80.From, str x80.To]]) rfl) (fun σ w (hO : Dk.Own w0 [] w _) => (zie x80 r83 _ (hG.own hF hO) hr83).mono fun e w' h => by obtain ⟨he, hb⟩ := h; exact ⟨((σ.1), (σ.2.1), (σ.2.2)), he, hO.grow hb, .inr rfl, .inr rfl, .inr rfl, .inr rfl, .inr rfl, .inr rfl, .inr rfl, .inr rfl, .inr rfl, .inr rfl, .inr rfl, .inr rfl, trivial⟩), zhq rfl (fun σ => rfl) (fun σ => rfl) rfl (fun σ w (hO : Dk.Own w0 [] w _) => by obtain ⟨b84, w', hO', hr⟩ := zeq (E := [(81, .agg #[str r83.From, str r83.To])]) (parts := #[(0, (.tmp 81))]) (t' := 45) (n := 1) (vs := [(0, .agg #[str r83.From, str r83.To])]) (cs := [str r83.From, str r83.To]) (e := 87) (sz := 2) (fun w => by kernel_rfl) rfl rfl hO rfl; exact ⟨(b84, (σ.2.1), (σ.2.2)), w', hO', ⟨.inr rfl, .inr rfl, .inr rfl, .inr rfl, .inr rfl, .inr rfl, .inr rfl, .inr rfl, .inl rfl, .inl rfl, .inr rfl, .inr rfl, trivial⟩, hr⟩), zhq rfl (fun σ => rfl) (fun σ => rfl) rfl (fun σ w (hO : Dk.Own w0 [] w _) => by obtain ⟨p85, c86, w', hO', hr⟩ := ziv (E := [(75, .slice p65 l67.length c66), (82, .slice (some ⟨(σ.1), 0, none⟩) ([r83].length) 1)]) (x := (.tmp 75)) (y := (.tmp 82)) el_45 (enc := za) (xs := l67) (ys := [r83]) (i := 1) (fun _ => rfl) rfl (hO.rowSees (i := 0) rfl) (by simp [cells, za, Value.oneCell']) hg87 hO rfl rfl; exact ⟨((σ.1), p85, c86), w', hO', ⟨.inr rfl, .inr rfl, .inr rfl, .inr rfl, .inr rfl, .inr rfl, .inr rfl, .inr rfl, .inr rfl, .inl rfl, .inr rfl, .inl rfl, trivial⟩, hr⟩), zi rfl (fun σ => rfl) (fun σ => rfl) (fun σ a w k _ _ _ _ hf => zK zjz hf rfl), zhK rfl (fun σ => rfl) (fun σ => rfl) rfl (fun σ w (hO : Dk.Own w0 [] w _) => by obtain ⟨w', hO', hr⟩ := ziu (x := (.tmp 84)) (y := (.tmp 83)) (E := [(83, .slice (σ.2.1) ((l67 ++ [r83]).length) (σ.2.2)), (84, ptr b26 5)]) (i := 3) (o := 5) (v := .slice (σ.2.1) ((l67 ++ [r83]).length) (σ.2.2)) sz_45 rfl rfl rfl rfl hO rfl rfl; exact ⟨((σ.1), (σ.2.1), (σ.2.2)), w', hO', ⟨.inr rfl, .inr rfl, .inr rfl, .inr rfl, .inr rfl, .inr rfl, .inr rfl, .inr rfl, .inr rfl, .inr rfl, .inr rfl, .inr rfl, trivial⟩, hr⟩), trivial⟩ ?_
 rintro ⟨b84, p85, c86⟩ a w hf hO
 have hO : Dk.Own w0 [] w _ := hO
 have hf : Fits 86 [(1, ptr b1 0), (2, ptr b2 0), (5, ptr b26 0), (7, int i75)] a := (hf.cons rfl (hf.cons rfl (hf.cons rfl (hf.cons rfl hf.nil))))
 refine S.no tb ?_ hf hO hm
 refine bi rfl fun i89 hi89 => ?_
 exact ec [1, 2, 3, 4, 5, 6, 7, 8, 9, 10, 11, 12] rfl rfl rfl fun _ _ j => ⟨_, Nat.lt_succ_self _, p85, c86, l67 ++ [r83], s68, s69, s70, s71, p72, c73, l74, i89, j rfl⟩
 exact en rfl fun _ _ j => ⟨s68, s69, s70, s71, p72, c73, l74, p65, c66, l67, j rfl⟩
 rintro a w ⟨s90, s91, s92, s93, p94, c95, l96, p97, c98, l99, hf, hO, hm⟩
 rw [zeT] at hm
 refine S.co tb ?_ hf hO hm
 refine ld 2 rfl rfl ?_
 refine st 8 rfl rfl ?_
 refine re_ rfl fun a w hf hO hm => ?_
 obtain rfl := Option.some.inj hm
 exact zs Tryz.results18 hf (.cell rfl (zcZ (n := 6) (vs := [str s90, str s91, str s92, str s93, .slice p94 l96.length c95, .slice p97 l99.length c98]) ag_47 sz_47 rfl ((hO.blkSees (i := 8) rfl).cells (o := 0) (n := 6) rfl)) .nil) ⟨p94, c95, p97, c98, rfl, (hO.choose [1, 0] rfl)⟩

theorem zkY (x_s : Str) (R : Str × Int) (w0 : World) (hG : zw w0) (hm : zfr x_s = some R) :
    Calls Tryz.prog 73 #[str x_s] w0 (Ret w0 (fun R => .tuple #[str R.1, int R.2]) R) := by
 rw [zfr] at hm
 have hF : zG [] := zf
 have hO : Dk.Own w0 [] w0 [] := Dk.Own.refl w0
 refine S.enter tb Tryz.func73 rfl Tryz.ntmps73 rfl ?_ hO hm
 refine lv [0] [] (fun J E L k => ∃ (s4 : Str) (i5 : Int), J ((4, str s4) :: (5, int i5) :: E) (L) (zN x_s k s4 i5)) rfl (fun _ _ j => ⟨[34], 0, j rfl⟩) ?_
 rintro n1 a w ⟨s4, i5, hf, hO, hm⟩
 obtain _ | n1 := n1
 rw [zN] at hm
 cases hm
 rw [zN] at hm
 refine S.co tb ?_ hf hO hm
 refine br rfl (fun hc7 => ?_) fun hc7 => ?_
 refine bi rfl fun b9 hb9 => ?_
 refine cl c_95 rfl (fun r10 w hr10 hO => zkV b9 r10 _ (hG.own hF hO) hr10) fun r10 hr10 => ?_
 refine br rfl (fun hc12 => ?_) fun hc12 => ?_
 exact rt Tryz.results73 rfl
 refine jv 5 [0, 5] [] (fun J E L => ∃ (s21 : Str), J ((4, str s21) :: E) (L) (zb9 (zN x_s n1) x_s i5 s21)) rfl ?_ ?_
 refine jv 6 [0, 4, 5] [] (fun J E L => ∃ (t18 : Bool), J ((26, .bool t18) :: E) (L) (zca (zN x_s n1) x_s s4 i5 t18)) rfl ?_ ?_
 refine bi rfl fun b15 hb15 => ?_
 refine vl rfl rfl (fun a w hf hO => zaC (b := b15) (c := 34) hf rfl rfl) ?_
 refine br rfl (fun hc16 => ?_) fun hc16 => ?_
 exact en rfl fun _ _ j => ⟨true, j rfl⟩
 refine bi rfl fun b17 hb17 => ?_
 refine vl rfl rfl (fun a w hf hO => zaC (b := b17) (c := 92) hf rfl rfl) ?_
 exact en rfl fun _ _ j => ⟨b17 == 92, j rfl⟩
 rintro a w ⟨t18, hf, hO, hm⟩
 rw [zca] at hm
 refine S.co tb ?_ hf hO hm
 refine br rfl (fun hc19 => ?_) fun hc19 => ?_
 refine bi rfl fun s20 hs20 => ?_
 exact en rfl fun _ _ j => ⟨s20, j rfl⟩
 exact en rfl fun _ _ j => ⟨s4, j rfl⟩
 rintro a w ⟨s21, hf, hO, hm⟩
 rw [zb9] at hm
 refine S.co tb ?_ hf hO hm
 refine bi rfl fun i22 hi22 => ?_
 refine bi rfl fun s23 hs23 => ?_
 refine bi rfl fun s24 hs24 => ?_
 refine bi rfl fun i26 hi26 => ?_
 exact en rfl fun _ _ j => ⟨_, Nat.lt_succ_self _, s24, i26, j rfl⟩
 refine bi rfl fun s28 hs28 => ?_
 exact rt Tryz.results73 rfl

theorem zkp (x_s : Str) (R : Str × Int) (w0 : World) (hG : zw w0) (hm : zd5 x_s = some R) :
    Calls Tryz.prog 41 #[str x_s] w0 (Ret w0 (fun R => .tuple #[str R.1, int R.2]) R) := by
 rw [zd5] at hm
 have hF : zG [] := zf
 have hO : Dk.Own w0 [] w0 [] := Dk.Own.refl w0
 refine S.enter tb Tryz.func41 rfl Tryz.ntmps41 rfl ?_ hO hm
 refine cl c_42 rfl (fun r2 w hr2 hO => zhi x_s r2 _ (hG.own hF hO) hr2) fun r2 hr2 => ?_
 refine br rfl (fun hc4 => ?_) fun hc4 => ?_
 exact rt Tryz.results41 rfl
 refine cl c_73 rfl (fun r7 w hr7 hO => zkY x_s r7 _ (hG.own hF hO) hr7) fun r7 hr7 => ?_
 exact rt Tryz.results41 rfl

theorem zl6 (x_l : List api_Param) (R : Str × Int) (w0 : World) (hG : zw w0) {x_l_p0 : Option Addr} {x_l_c0 : Nat} (hs0 : zH w0 x_l_p0 (cells zd x_l)) (hc0 : x_l.length ≤ x_l_c0) (hm : zf7 x_l = some R) :
    Calls Tryz.prog 20 #[.slice x_l_p0 x_l.length x_l_c0] w0 (Ret w0 (fun R => .tuple #[str R.1, int R.2]) R) := by
 rw [zf7] at hm
 have hF : zG [] := zf
 have hO : Dk.Own w0 [] w0 [] := Dk.Own.refl w0
 have hO := hO.addShr hs0 (by simp [Res.shared])
 refine S.enter tb Tryz.func20 rfl Tryz.ntmps20 rfl ?_ hO hm
 refine lv [0] [0] (fun J E L k => ∃ (s4 : Str) (i5 : Int), J ((4, str s4) :: (5, int i5) :: E) (L) (zah x_l k s4 i5)) rfl (fun _ _ j => ⟨[], 0, j rfl⟩) ?_
 rintro n1 a w ⟨s4, i5, hf, hO, hm⟩
 obtain _ | n1 := n1
 rw [zah] at hm
 cases hm
 rw [zah] at hm
 refine S.co tb ?_ hf hO hm
 refine br rfl (fun hc7 => ?_) fun hc7 => ?_
 refine rw_ rfl fun a w hf hO hm => ?_
 obtain ⟨x9, hx9, hm⟩ := ob hm
 obtain ⟨b10, o11, hix9, hSx9⟩ := zbD (enc := zd) (sz := 2) (xs := x_l) 49 Tryz.underlying49 zex (by decide) (fun _ => rfl) (hO.sees (i := 0) rfl) hx9
 refine zaB (zk hix9 hf rfl rfl) rfl hf rfl rfl fun a hf => ?_
 refine S.op tb ?_ hf hO hm
 refine vl rfl rfl (fun a w hf hO => ze (o := 1) zbE (hSx9 _ (hO.sees (i := 0) rfl)) rfl hf rfl) ?_
 refine cl c_41 rfl (fun r12 w hr12 hO => zkp x9.Value r12 _ (hG.own hF hO) hr12) fun r12 hr12 => ?_
 refine jv 6 [0, 4, 5, 6] [0] (fun J E L => ∃ (t19 : Bool), J ((33, .bool t19) :: E) (L) (zdk (zah x_l n1) x_l s4 i5 r12 t19)) rfl ?_ ?_
 refine br rfl (fun hc14 => ?_) fun hc14 => ?_
 exact en rfl fun _ _ j => ⟨true, j rfl⟩
 refine rw_ rfl fun a w hf hO hm => ?_
 obtain ⟨x15, hx15, hm⟩ := ob hm
 obtain ⟨b16, o17, hix15, hSx15⟩ := zbD (enc := zd) (sz := 2) (xs := x_l) 49 Tryz.underlying49 zex (by decide) (fun _ => rfl) (hO.sees (i := 0) rfl) hx15
 refine zaB (zk hix15 hf rfl rfl) rfl hf rfl rfl fun a hf => ?_
 refine S.op tb ?_ hf hO hm
 refine kn (b' := false) hc14 rfl ?_
 refine vl rfl rfl (fun a w hf hO => ze (o := 0) zbE (hSx15 _ (hO.sees (i := 0) rfl)) rfl hf rfl) ?_
 refine cl c_42 rfl (fun r18 w hr18 hO => zhi x15.Name r18 _ (hG.own hF hO) hr18) fun r18 hr18 => ?_
 exact en rfl fun _ _ j => ⟨!r18, j rfl⟩
 rintro a w ⟨t19, hf, hO, hm⟩
 rw [zdk] at hm
 refine S.co tb ?_ hf hO hm
 refine br rfl (fun hc20 => ?_) fun hc20 => ?_
 exact rt Tryz.results20 rfl
 refine jv 5 [0, 5, 6] [0] (fun J E L => ∃ (s26 : Str), J ((4, str s26) :: E) (L) (zcy (zah x_l n1) x_l i5 r12 s26)) rfl ?_ ?_
 refine br rfl (fun hc24 => ?_) fun hc24 => ?_
 refine bi rfl fun s25 hs25 => ?_
 exact en rfl fun _ _ j => ⟨s25, j rfl⟩
 exact en rfl fun _ _ j => ⟨s4, j rfl⟩
 rintro a w ⟨s26, hf, hO, hm⟩
 rw [zcy] at hm
 refine S.co tb ?_ hf hO hm
 refine rw_ rfl fun a w hf hO hm => ?_
 obtain ⟨x27, hx27, hm⟩ := ob hm
 obtain ⟨b28, o29, hix27, hSx27⟩ := zbD (enc := zd) (sz := 2) (xs := x_l) 49 Tryz.underlying49 zex (by decide) (fun _ => rfl) (hO.sees (i := 0) rfl) hx27
 refine zaB (zk hix27 hf rfl rfl) rfl hf rfl rfl fun a hf => ?_
 refine S.op tb ?_ hf hO hm
 refine vl rfl rfl (fun a w hf hO => ze (o := 0) zbE (hSx27 _ (hO.sees (i := 0) rfl)) rfl hf rfl) ?_
 refine bi rfl fun s30 hs30 => ?_
 refine bi rfl fun s31 hs31 => ?_
 refine bi rfl fun s32 hs32 => ?_
 refine bi rfl fun i34 hi34 => ?_
 exact en rfl fun _ _ j => ⟨_, Nat.lt_succ_self _, s32, i34, j rfl⟩
 refine br rfl (fun hc37 => ?_) fun hc37 => ?_
 exact rt Tryz.results20 rfl
 exact rt Tryz.results20 rfl

end Go.Proofs
end
section
set_option linter.unusedVariables false
set_option maxHeartbeats 1000000
set_option linter.unusedSimpArgs false
set_option maxRecDepth 100000
namespace Go.Proofs
open Go.Dk Go.Dm Go.RowKit

theorem zkM (x_c : scan_Scanner) (R : Str × Bool × scan_Scanner) (w0 : World) (hG : zw w0) {x_c_b0 : Nat} {F : List Nat} (hF : zG F) (hO : Dk.Own w0 F w0 [.blk x_c_b0 [str x_c.f_s, int x_c.f_at] 137]) (hm : za8 x_c = some R) :
    Calls Tryz.prog 110 #[ptr x_c_b0 0] w0 fun e w' => e = .returned (.tuple #[str R.1, .bool R.2.1]) ∧ Dk.Own w0 F w' [.blk x_c_b0 [str R.2.2.f_s, int R.2.2.f_at] 137] := by
 rw [za8] at hm
 refine S.enter tb Tryz.func110 rfl Tryz.ntmps110 rfl ?_ hO hm
 refine rw_ rfl fun a w hf hO hm => ?_
 obtain ⟨r2, hr2, hm⟩ := ob hm
 have hch3 := (show Dk.Own w0 F _ ([.blk x_c_b0 [str x_c.f_s, int x_c.f_at] 137] ++ []) from hO)
 have hfar3 := Dk.Own.far hch3 rfl hF hG.size
 have hlend3 := hch3.lend (S := []) rfl trivial
 have hcl3 := zeD x_c r2 _ (hG.own hF hO) hfar3 hlend3 hr2
 refine zo (zp c_101 hf (vs := [ptr x_c_b0 0]) rfl) rfl hf rfl rfl (hcl3) ?_
 rintro e w' ⟨he, hO'⟩
 refine ⟨_, he, fun a hf => ?_⟩
 have hO := hch3.back rfl hO' rfl
 refine S.op tb ?_ hf hO hm
 refine br rfl (fun hc6 => ?_) fun hc6 => ?_
 refine re_ rfl fun a w hf hO hm => ?_
 obtain rfl := Option.some.inj hm
 exact zs Tryz.results110 hf (.tmp rfl (.tmp rfl .nil)) ⟨rfl, hO⟩
 refine rw_ rfl fun a w hf hO hm => ?_
 obtain ⟨r9, hr9, hm⟩ := ob hm
 have hch10 := (show Dk.Own w0 F _ ([.blk x_c_b0 [str r2.2.2.f_s, int r2.2.2.f_at] 137] ++ []) from hO)
 have hfar10 := Dk.Own.far hch10 rfl hF hG.size
 have hlend10 := hch10.lend (S := []) rfl trivial
 have hcl10 := zhm r2.2.2 r9 _ (hG.own hF hO) hfar10 hlend10 hr9
 refine zo (zp c_100 hf (vs := [ptr x_c_b0 0]) rfl) rfl hf rfl rfl (hcl10) ?_
 rintro e w' ⟨he, hO'⟩
 refine ⟨_, he, fun a hf => ?_⟩
 have hO := hch10.back rfl hO' rfl
 refine S.op tb ?_ hf hO hm
 refine re_ rfl fun a w hf hO hm => ?_
 obtain rfl := Option.some.inj hm
 exact zs Tryz.results110 hf (.tmp rfl (.tmp rfl .nil)) ⟨rfl, hO⟩

theorem zgZ (x_r : params_reader) (R : api_Param × Bool × scan_Scanner) (w0 : World) (hG : zw w0) {x_r_b0 : Nat} {F : List Nat} (hF : zG F) (hO : Dk.Own w0 F w0 [.blk x_r_b0 [str x_r.Scanner.f_s, int x_r.Scanner.f_at] 137]) (hm : zJ x_r = some R) :
    Calls Tryz.prog 75 #[.agg #[ptr x_r_b0 0]] w0 fun e w' => e = .returned (.tuple #[.agg #[str R.1.Name, str R.1.Value], .bool R.2.1]) ∧ Dk.Own w0 F w' [.blk x_r_b0 [str R.2.2.f_s, int R.2.2.f_at] 137] := by
 rw [zJ] at hm
 refine S.enter tb Tryz.func75 rfl Tryz.ntmps75 rfl ?_ hO hm
 refine bo rfl fun b1 => ?_
 refine al zmJ rfl fun b2 => ?_
 refine ld 1 rfl rfl ?_
 refine rw_ rfl fun a w hf hO hm => ?_
 obtain ⟨r4, hr4, hm⟩ := ob hm
 have hch5 := (show Dk.Own w0 F _ ([.blk x_r_b0 [str x_r.Scanner.f_s, int x_r.Scanner.f_at] 137] ++ [.blk b2 [str [], str []] 57, .blk b1 [ptr x_r_b0 0] 119]) from hO.choose [2, 0, 1] rfl)
 have hfar5 := Dk.Own.far hch5 rfl hF hG.size
 have hlend5 := hch5.lend (S := []) rfl trivial
 have hcl5 := zeD x_r.Scanner r4 _ (hG.own hF hO) hfar5 hlend5 hr4
 refine zo (zp c_101 hf (vs := [ptr x_r_b0 0]) rfl) rfl hf rfl rfl (hcl5) ?_
 rintro e w' ⟨he, hO'⟩
 refine ⟨_, he, fun a hf => ?_⟩
 have hO := hch5.back rfl hO' rfl
 refine S.op tb ?_ hf hO hm
 refine jv 1 [1, 2, 4] [1, 2] (fun J E L => ∃ (t10 : Bool) (s11 : Str) (i12 : Int), J ((20, .bool t10) :: E) (.blk x_r_b0 [str s11, int i12] 137 :: L) (zav r4 t10 s11 i12)) rfl ?_ ?_
 refine br rfl (fun hc7 => ?_) fun hc7 => ?_
 exact en rfl fun _ _ j => ⟨true, r4.2.2.f_s, r4.2.2.f_at, j rfl⟩
 refine ld 2 rfl rfl ?_
 refine rw_ rfl fun a w hf hO hm => ?_
 obtain ⟨r8, hr8, hm⟩ := ob hm
 have hch9 := (show Dk.Own w0 F _ ([.blk x_r_b0 [str r4.2.2.f_s, int r4.2.2.f_at] 137] ++ [.blk b2 [str [], str []] 57, .blk b1 [ptr x_r_b0 0] 119]) from hO)
 have hfar9 := Dk.Own.far hch9 rfl hF hG.size
 have hlend9 := hch9.lend (S := []) rfl trivial
 have hcl9 := zF r4.2.2 61 r8 _ (hG.own hF hO) hfar9 hlend9 hr8
 refine zo (zp zkd hf (vs := [ptr x_r_b0 0, zR 61]) rfl) rfl hf rfl rfl (hcl9) ?_
 rintro e w' ⟨he, hO'⟩
 refine ⟨_, he, fun a hf => ?_⟩
 have hO := hch9.back rfl hO' rfl
 refine S.op tb ?_ hf hO hm
 refine kn (b' := false) hc7 rfl ?_
 exact en rfl fun _ _ j => ⟨!r8.1, r8.2.f_s, r8.2.f_at, j rfl⟩
 rintro a w ⟨t10, s11, i12, hf, hO, hm⟩
 rw [zav] at hm
 refine S.co tb ?_ hf hO hm
 refine br rfl (fun hc13 => ?_) fun hc13 => ?_
 refine vl rfl rfl (fun a w hf hO => z6 (vs := []) (v := .agg #[str [], str []]) hf rfl (by kernel_rfl)) ?_
 refine st 1 rfl rfl ?_
 refine re_ rfl fun a w hf hO hm => ?_
 obtain rfl := Option.some.inj hm
 exact zs Tryz.results75 hf (.cell rfl (zcZ (n := 2) (vs := [str [], str []]) zi6 zex rfl ((hO.blkSees (i := 1) rfl).cells (o := 0) (n := 2) rfl)) (.tmp rfl .nil)) ⟨rfl, (hO.sub (.cons_cons _ (.cons _ (.cons _ .slnil))))⟩
 refine ld 2 rfl rfl ?_
 refine rw_ rfl fun a w hf hO hm => ?_
 obtain ⟨r16, hr16, hm⟩ := ob hm
 have hch17 := (show Dk.Own w0 F _ ([.blk x_r_b0 [str s11, int i12] 137] ++ [.blk b2 [str [], str []] 57, .blk b1 [ptr x_r_b0 0] 119]) from hO)
 have hfar17 := Dk.Own.far hch17 rfl hF hG.size
 have hlend17 := hch17.lend (S := []) rfl trivial
 have hcl17 := zkM (⟨s11, i12⟩ : scan_Scanner) r16 _ (hG.own hF hO) hfar17 hlend17 hr16
 refine zo (zp c_110 hf (vs := [ptr x_r_b0 0]) rfl) rfl hf rfl rfl (hcl17) ?_
 rintro e w' ⟨he, hO'⟩
 refine ⟨_, he, fun a hf => ?_⟩
 have hO := hch17.back rfl hO' rfl
 refine S.op tb ?_ hf hO hm
 refine vl rfl rfl (fun a w hf hO => z6 (vs := [(0, str r4.1), (1, str r16.1)]) (v := .agg #[str r4.1, str r16.1]) hf rfl (by kernel_rfl)) ?_
 refine st 1 rfl rfl ?_
 refine re_ rfl fun a w hf hO hm => ?_
 obtain rfl := Option.some.inj hm
 exact zs Tryz.results75 hf (.cell rfl (zcZ (n := 2) (vs := [str r4.1, str r16.1]) zi6 zex rfl ((hO.blkSees (i := 1) rfl).cells (o := 0) (n := 2) rfl)) (.tmp rfl .nil)) ⟨rfl, (hO.sub (.cons_cons _ (.cons _ (.cons _ .slnil))))⟩

theorem zd8 (x_c : scan_Scanner) (R : Str × scan_Scanner) (w0 : World) (hG : zw w0) {x_c_b0 : Nat} {F : List Nat} (hF : zG F) (hO : Dk.Own w0 F w0 [.blk x_c_b0 [str x_c.f_s, int x_c.f_at] 137]) (hm : zT x_c = some R) :
    Calls Tryz.prog 111 #[ptr x_c_b0 0] w0 fun e w' => e = .returned (str R.1) ∧ Dk.Own w0 F w' [.blk x_c_b0 [str R.2.f_s, int R.2.f_at] 137] := by
 rw [zT] at hm
 refine S.enter tb Tryz.func111 rfl Tryz.ntmps111 rfl ?_ hO hm
 refine rw_ rfl fun a w hf hO hm => ?_
 obtain ⟨r2, hr2, hm⟩ := ob hm
 have hch3 := (show Dk.Own w0 F _ ([.blk x_c_b0 [str x_c.f_s, int x_c.f_at] 137] ++ []) from hO)
 have hfar3 := Dk.Own.far hch3 rfl hF hG.size
 have hlend3 := hch3.lend (S := []) rfl trivial
 have hcl3 := zeC x_c zbX r2 _ (hG.own hF hO) hfar3 hlend3 c_145 (fun y0 r w hG h => ziD (zgf y0 r w hG h)) hr2
 refine zo (zp c_102 hf (vs := [ptr x_c_b0 0, .func (.func 145) #[] #[]]) rfl) rfl hf rfl rfl (hcl3) ?_
 rintro e w' ⟨he, hO'⟩
 refine ⟨_, he, fun a hf => ?_⟩
 have hO := hch3.back rfl hO' rfl
 refine S.op tb ?_ hf hO hm
 refine re_ rfl fun a w hf hO hm => ?_
 obtain rfl := Option.some.inj hm
 exact zs Tryz.results111 hf (.tmp rfl .nil) ⟨rfl, hO⟩

theorem zgq (x_r : params_reader) (R : Bool × scan_Scanner) (w0 : World) (hG : zw w0) {x_r_b0 : Nat} {F : List Nat} (hF : zG F) (hO : Dk.Own w0 F w0 [.blk x_r_b0 [str x_r.Scanner.f_s, int x_r.Scanner.f_at] 137]) (hm : zar x_r = some R) :
    Calls Tryz.prog 76 #[.agg #[ptr x_r_b0 0]] w0 fun e w' => e = .returned (.bool R.1) ∧ Dk.Own w0 F w' [.blk x_r_b0 [str R.2.f_s, int R.2.f_at] 137] := by
 rw [zar] at hm
 refine S.enter tb Tryz.func76 rfl Tryz.ntmps76 rfl ?_ hO hm
 refine bo rfl fun b1 => ?_
 refine ld 0 rfl rfl ?_
 refine rw_ rfl fun a w hf hO hm => ?_
 obtain ⟨r3, hr3, hm⟩ := ob hm
 have hch4 := (show Dk.Own w0 F _ ([.blk x_r_b0 [str x_r.Scanner.f_s, int x_r.Scanner.f_at] 137] ++ [.blk b1 [ptr x_r_b0 0] 119]) from hO.choose [1, 0] rfl)
 have hfar4 := Dk.Own.far hch4 rfl hF hG.size
 have hlend4 := hch4.lend (S := []) rfl trivial
 have hcl4 := zd8 x_r.Scanner r3 _ (hG.own hF hO) hfar4 hlend4 hr3
 refine zo (zp c_111 hf (vs := [ptr x_r_b0 0]) rfl) rfl hf rfl rfl (hcl4) ?_
 rintro e w' ⟨he, hO'⟩
 refine ⟨_, he, fun a hf => ?_⟩
 have hO := hch4.back rfl hO' rfl
 refine S.op tb ?_ hf hO hm
 refine ld 1 rfl rfl ?_
 refine rw_ rfl fun a w hf hO hm => ?_
 obtain ⟨r6, hr6, hm⟩ := ob hm
 have hch7 := (show Dk.Own w0 F _ ([.blk x_r_b0 [str r3.2.f_s, int r3.2.f_at] 137] ++ [.blk b1 [ptr x_r_b0 0] 119]) from hO)
 have hfar7 := Dk.Own.far hch7 rfl hF hG.size
 have hlend7 := hch7.lend (S := []) rfl trivial
 have hcl7 := zF r3.2 59 r6 _ (hG.own hF hO) hfar7 hlend7 hr6
 refine zo (zp zkd hf (vs := [ptr x_r_b0 0, zR 59]) rfl) rfl hf rfl rfl (hcl7) ?_
 rintro e w' ⟨he, hO'⟩
 refine ⟨_, he, fun a hf => ?_⟩
 have hO := hch7.back rfl hO' rfl
 refine S.op tb ?_ hf hO hm
 refine br rfl (fun hc9 => ?_) fun hc9 => ?_
 refine re_ rfl fun a w hf hO hm => ?_
 obtain rfl := Option.some.inj hm
 exact zs Tryz.results76 hf (.tmp rfl .nil) ⟨rfl, (hO.sub (.cons_cons _ (.cons _ .slnil)))⟩
 refine ld 1 rfl rfl ?_
 refine rw_ rfl fun a w hf hO hm => ?_
 obtain ⟨r12, hr12, hm⟩ := ob hm
 have hch13 := (show Dk.Own w0 F _ ([.blk x_r_b0 [str r6.2.f_s, int r6.2.f_at] 137] ++ [.blk b1 [ptr x_r_b0 0] 119]) from hO)
 have hfar13 := Dk.Own.far hch13 rfl hF hG.size
 have hlend13 := hch13.lend (S := []) rfl trivial
 have hcl13 := zd8 r6.2 r12 _ (hG.own hF hO) hfar13 hlend13 hr12
 refine zo (zp c_111 hf (vs := [ptr x_r_b0 0]) rfl) rfl hf rfl rfl (hcl13) ?_
 rintro e w' ⟨he, hO'⟩
 refine ⟨_, he, fun a hf => ?_⟩
 have hO := hch13.back rfl hO' rfl
 refine S.op tb ?_ hf hO hm
 refine re_ rfl fun a w hf hO hm => ?_
 obtain rfl := Option.some.inj hm
 exact zs Tryz.results76 hf (.tmp rfl .nil) ⟨rfl, (hO.sub (.cons_cons _ (.cons _ .slnil)))⟩

theorem zjP (x_s : Str) (R : List api_Param × Int) (w0 : World) (hG : zw w0) (hm : zck x_s = some R) :
    Calls Tryz.prog 43 #[str x_s] w0 fun e w' => ∃ (p0 : Option Addr) (c0 : Nat), e = .returned (.tuple #[.slice p0 R.1.length c0, int R.2]) ∧ Dk.Own w0 [] w' [.row (.slice p0 R.1.length c0) 57 2 R.1.length (cells zd R.1)] := by
 rw [zck] at hm
 have hF : zG [] := zf
 have hO : Dk.Own w0 [] w0 [] := Dk.Own.refl w0
 refine S.enter tb Tryz.func43 rfl Tryz.ntmps43 rfl ?_ hO hm
 refine nl 57 2 ?_
 refine rw_ rfl fun a w hf hO hm => ?_
 obtain ⟨r2, hr2, hm⟩ := ob hm
 refine zo (zp c_65 hf (vs := [str x_s]) rfl) rfl hf rfl rfl (zkJ x_s r2 _ (hG.own hF hO) hr2) ?_
 rintro e w' ⟨b3, he, hO'⟩
 refine ⟨_, he, fun a hf => ?_⟩
 have hO := hO.call hO' (by simp [Res.shared])
 refine S.op tb ?_ hf hO hm
 refine vl rfl rfl (fun a w hf hO => z6 (vs := [(0, ptr b3 0)]) (v := .agg #[ptr b3 0]) hf rfl (by kernel_rfl)) ?_
 refine al al_119 rfl fun b4 => ?_
 refine st 0 rfl rfl ?_
 refine nl 57 2 ?_
 refine ch [0, 2, 1, 3] rfl rfl ?_
 refine lv [4] [2, 3] (fun J E L k => ∃ (p7 : Option Addr) (c8 : Nat) (l9 : List api_Param) (s10 : Str) (i11 : Int), J ((5, .slice p7 l9.length c8) :: E) (.row (.slice p7 l9.length c8) 57 2 l9.length (cells zd l9) :: .blk b3 [str s10, int i11] 137 :: L) (zZ k l9 s10 i11)) rfl (fun _ _ j => ⟨none, 0, [], r2.f_s, r2.f_at, j rfl⟩) ?_
 rintro n1 a w ⟨p7, c8, l9, s10, i11, hf, hO, hm⟩
 obtain _ | n1 := n1
 rw [zZ] at hm
 cases hm
 rw [zZ] at hm
 refine S.co tb ?_ hf hO hm
 refine ld 2 rfl rfl ?_
 refine rw_ rfl fun a w hf hO hm => ?_
 obtain ⟨r12, hr12, hm⟩ := ob hm
 have hch13 := (show Dk.Own w0 [] _ ([.blk b3 [str s10, int i11] 137] ++ [.row (.slice p7 l9.length c8) 57 2 l9.length (cells zd l9), .blk b4 [ptr b3 0] 119, .row (.slice none 0 0) 57 2 0 (cells zd [])]) from hO.choose [1, 0, 2, 3] rfl)
 have hfar13 := Dk.Own.far hch13 rfl hF hG.size
 have hlend13 := hch13.lend (S := []) rfl trivial
 have hcl13 := zgZ ((⟨(⟨s10, i11⟩ : scan_Scanner)⟩ : params_reader)) r12 _ (hG.own hF hO) hfar13 hlend13 hr12
 refine zo (zp c_75 hf (vs := [.agg #[ptr b3 0]]) rfl) rfl hf rfl rfl (hcl13) ?_
 rintro e w' ⟨he, hO'⟩
 refine ⟨_, he, fun a hf => ?_⟩
 have hO := hch13.back rfl hO' rfl
 refine S.op tb ?_ hf hO hm
 refine al zmJ rfl fun b14 => ?_
 refine st 0 rfl rfl ?_
 refine br rfl (fun hc17 => ?_) fun hc17 => ?_
 refine nl 57 2 ?_
 refine re_ rfl fun a w hf hO hm => ?_
 obtain rfl := Option.some.inj hm
 exact zs Tryz.results43 hf (.tmp rfl (.tmp rfl .nil)) ⟨none, 0, rfl, (hO.sub (.cons_cons _ (.cons _ (.cons _ (.cons _ (.cons _ (.cons _ .slnil)))))))⟩
 refine ld 0 rfl rfl ?_
 refine rw_ rfl fun a w hf hO hm => ?_
 refine zn (vs := [(0, .agg #[str r12.1.Name, str r12.1.Value])]) (cs := [str r12.1.Name, str r12.1.Value]) (e := 57) (sz := 2) hf rfl rfl (fun w => by kernel_rfl) rfl rfl hO fun a b20 w hf hO => ?_
 refine S.op tb ?_ hf hO hm
 refine rw_ rfl fun a w hf hO hm => ?_
 obtain ⟨hg23, hm⟩ := og hm
 refine z8 zmL (enc := zd) (xs := l9) (ys := [r12.1]) (i := 3) (fun _ => rfl) rfl (hO.rowSees (i := 0) rfl) (by simp [cells, zd, Value.oneCell']) hg23 hf rfl rfl rfl hO fun a p21 c22 w hf hO => ?_
 refine S.op tb ?_ hf hO hm
 refine ld 4 rfl rfl ?_
 refine cl c_66 rfl (fun r25 w hr25 hO => zdr r12.2.2 r25 _ (hG.own hF hO) (hO.blkSees (i := 2) rfl) hr25) fun r25 hr25 => ?_
 refine br rfl (fun hc27 => ?_) fun hc27 => ?_
 refine re_ rfl fun a w hf hO hm => ?_
 obtain rfl := Option.some.inj hm
 exact zs Tryz.results43 hf (.tmp rfl (.tmp rfl .nil)) ⟨p21, c22, rfl, (hO.sub (.cons _ (.cons _ (.cons _ (.cons_cons _ (.cons _ (.cons _ .slnil)))))))⟩
 refine ld 4 rfl rfl ?_
 refine rw_ rfl fun a w hf hO hm => ?_
 obtain ⟨r30, hr30, hm⟩ := ob hm
 have hch31 := (show Dk.Own w0 [] _ ([.blk b3 [str r12.2.2.f_s, int r12.2.2.f_at] 137] ++ [.row (.slice (some ⟨b20, 0, none⟩) ([r12.1].length) 1) 57 2 ([r12.1].length) (cells zd [r12.1]), .blk b14 [str r12.1.Name, str r12.1.Value] 57, .row (.slice p21 ((l9 ++ [r12.1]).length) c22) 57 2 ((l9 ++ [r12.1]).length) (cells zd (l9 ++ [r12.1])), .blk b4 [ptr b3 0] 119, .row (.slice none 0 0) 57 2 0 (cells zd [])]) from hO.choose [2, 0, 1, 3, 4, 5] rfl)
 have hfar31 := Dk.Own.far hch31 rfl hF hG.size
 have hlend31 := hch31.lend (S := []) rfl trivial
 have hcl31 := zgq (⟨r12.2.2⟩ : params_reader) r30 _ (hG.own hF hO) hfar31 hlend31 hr30
 refine zo (zp c_76 hf (vs := [.agg #[ptr b3 0]]) rfl) rfl hf rfl rfl (hcl31) ?_
 rintro e w' ⟨he, hO'⟩
 refine ⟨_, he, fun a hf => ?_⟩
 have hO := hch31.back rfl hO' rfl
 refine S.op tb ?_ hf hO hm
 refine br rfl (fun hc33 => ?_) fun hc33 => ?_
 refine nl 57 2 ?_
 refine re_ rfl fun a w hf hO hm => ?_
 obtain rfl := Option.some.inj hm
 exact zs Tryz.results43 hf (.tmp rfl (.tmp rfl .nil)) ⟨none, 0, rfl, (hO.sub (.cons_cons _ (.cons _ (.cons _ (.cons _ (.cons _ (.cons _ (.cons _ .slnil))))))))⟩
 exact ec [3, 0, 4, 5] rfl rfl rfl fun _ _ j => ⟨_, Nat.lt_succ_self _, p21, c22, l9 ++ [r12.1], r30.2.f_s, r30.2.f_at, j rfl⟩

theorem zlG (x_name : Str) (x_l : List api_Param) (R : Str × Bool) (w0 : World) (hG : zw w0) {x_l_p0 : Option Addr} {x_l_c0 : Nat} (hs0 : zH w0 x_l_p0 (cells zd x_l)) (hc0 : x_l.length ≤ x_l_c0) (hm : zfc x_name x_l = some R) :
    Calls Tryz.prog 44 #[str x_name, .slice x_l_p0 x_l.length x_l_c0] w0 (Ret w0 (fun R => .tuple #[str R.1, .bool R.2]) R) := by
 rw [zfc] at hm
 have hF : zG [] := zf
 have hO : Dk.Own w0 [] w0 [] := Dk.Own.refl w0
 have hO := hO.addShr hs0 (by simp [Res.shared])
 refine S.enter tb Tryz.func44 rfl Tryz.ntmps44 rfl ?_ hO hm
 refine lv [0, 8, 9] [0] (fun J E L k => ∃ (i3 : Int), J ((10, int i3) :: E) (L) (za0 x_name x_l k i3)) rfl (fun _ _ j => ⟨0, j rfl⟩) ?_
 rintro n1 a w ⟨i3, hf, hO, hm⟩
 obtain _ | n1 := n1
 rw [za0] at hm
 cases hm
 rw [za0] at hm
 refine S.co tb ?_ hf hO hm
 refine br rfl (fun hc5 => ?_) fun hc5 => ?_
 refine rw_ rfl fun a w hf hO hm => ?_
 obtain ⟨x7, hx7, hm⟩ := ob hm
 obtain ⟨b8, o9, hix7, hSx7⟩ := zbD (enc := zd) (sz := 2) (xs := x_l) 49 Tryz.underlying49 zex (by decide) (fun _ => rfl) (hO.sees (i := 0) rfl) hx7
 refine zaB (zk hix7 hf rfl rfl) rfl hf rfl rfl fun a hf => ?_
 refine S.op tb ?_ hf hO hm
 refine vl rfl rfl (fun a w hf hO => zae (o := 0) (vs := [str x7.Name, str x7.Value]) zi6 zex (hSx7 _ (hO.sees (i := 0) rfl)) rfl rfl hf rfl) ?_
 refine al zmJ rfl fun b10 => ?_
 refine st 0 rfl rfl ?_
 refine ld 0 rfl rfl ?_
 refine cl c_55 rfl (fun r12 w hr12 hO => zin x7.Name x_name r12 _ (hG.own hF hO) hr12) fun r12 hr12 => ?_
 refine br rfl (fun hc14 => ?_) fun hc14 => ?_
 refine ld 0 rfl rfl ?_
 exact rt Tryz.results44 rfl
 refine bi rfl fun i17 hi17 => ?_
 exact ec [1] rfl rfl rfl fun _ _ j => ⟨_, Nat.lt_succ_self _, i17, j rfl⟩
 exact rt Tryz.results44 rfl

theorem zhT (x_s : Str) (R : List api_Param × Int) (w0 : World) (hG : zw w0) (hm : zbg x_s = some R) :
    Calls Tryz.prog 21 #[str x_s] w0 fun e w' => ∃ (p0 : Option Addr) (c0 : Nat), e = .returned (.tuple #[.slice p0 R.1.length c0, int R.2]) ∧ Dk.Own w0 [] w' [.row (.slice p0 R.1.length c0) 57 2 R.1.length (cells zd R.1)] := by
 rw [zbg] at hm
 have hF : zG [] := zf
 have hO : Dk.Own w0 [] w0 [] := Dk.Own.refl w0
 refine S.enter tb Tryz.func21 rfl Tryz.ntmps21 rfl ?_ hO hm
 refine nl 57 2 ?_
 refine rw_ rfl fun a w hf hO hm => ?_
 obtain ⟨r2, hr2, hm⟩ := ob hm
 refine zo (zp c_43 hf (vs := [str x_s]) rfl) rfl hf rfl rfl (zjP x_s r2 _ (hG.own hF hO) hr2) ?_
 rintro e w' ⟨p3, c4, he, hO'⟩
 refine ⟨_, he, fun a hf => ?_⟩
 have hO := hO.call hO' (by simp [Res.shared])
 refine S.op tb ?_ hf hO hm
 refine br rfl (fun hc7 => ?_) fun hc7 => ?_
 refine nl 57 2 ?_
 refine re_ rfl fun a w hf hO hm => ?_
 obtain rfl := Option.some.inj hm
 exact zs Tryz.results21 hf (.tmp rfl (.tmp rfl .nil)) ⟨none, 0, rfl, (hO.sub (.cons_cons _ (.cons _ (.cons _ .slnil))))⟩
 refine lv [4, 18, 19] [0, 1] (fun J E L k => ∃ (i11 : Int), J ((20, int i11) :: E) (L) (zE r2 k i11)) rfl (fun _ _ j => ⟨0, j rfl⟩) ?_
 rintro n1 a w ⟨i11, hf, hO, hm⟩
 obtain _ | n1 := n1
 rw [zE] at hm
 cases hm
 rw [zE] at hm
 refine S.co tb ?_ hf hO hm
 refine br rfl (fun hc13 => ?_) fun hc13 => ?_
 refine rw_ rfl fun a w hf hO hm => ?_
 obtain ⟨x15, hx15, hm⟩ := ob hm
 obtain ⟨b16, o17, hix15, hSx15, hAx15⟩ := zbF (enc := zd) (sz := 2) (xs := r2.1) 49 Tryz.underlying49 zex (by decide) (fun _ => rfl) hO (i := 0) rfl hx15
 refine zaB (zk hix15 hf rfl rfl) rfl hf rfl rfl fun a hf => ?_
 refine S.op tb ?_ hf hO hm
 refine vl rfl rfl (fun a w hf hO => zae (o := 0) (vs := [str x15.Name, str x15.Value]) zi6 zex (hSx15 _ (hO.rowSees (i := 0) rfl)) rfl rfl hf rfl) ?_
 refine al zmJ rfl fun b18 => ?_
 refine st 0 rfl rfl ?_
 refine rc_ rfl fun a w hf hO hm => ?_
 refine zdd (by kernel_rfl) (by kernel_rfl) hO ?_
 refine zr (fun w hO => zK znQ hf rfl) rfl hf rfl rfl fun a hf => ?_
 refine zr (fun w hO => ze (o := 0) zbE (hO.blkSees (i := 0) rfl) rfl hf rfl) rfl hf rfl rfl fun a hf => ?_
 refine zr (fun w hO => zu hf rfl) rfl hf rfl rfl fun a hf => ?_
 refine zr (fun w hO => zu hf rfl) rfl hf rfl rfl fun a hf => ?_
 obtain ⟨l20, hl20, hm⟩ := ob hm
 obtain ⟨p21, c22, hrl20, hVl20, hCl20, _⟩ := zp7 (enc := zd) (xs := r2.1) 49 Tryz.underlying49 zex (fun _ => rfl) (hO.rowSees (i := 1) rfl) (hO.rowCap (i := 1) rfl) hl20
 refine zr (fun w hO => znq Tryz.underlying49 hrl20 hf rfl rfl) rfl hf rfl rfl fun a hf => ?_
 obtain ⟨r23, hr23, hm⟩ := ob hm
 refine zlP (fun w hO => zp c_44 hf (vs := [str x15.Name, .slice p21 l20.length c22]) rfl) rfl hf rfl rfl (fun w hO => (zlG x15.Name l20 r23 _ (hG.own hF hO) (hVl20 _ (hO.rowSees (i := 1) rfl)) hCl20 hr23).mono fun e w' ⟨he, hb⟩ => ⟨he, hO.grow hb⟩) fun a hf => ?_
 refine zr (fun w hO => zu hf rfl) rfl hf rfl rfl fun a hf => ?_
 refine zr (fun w hO => zhx hf rfl rfl) rfl hf rfl rfl fun a hf => ?_
 refine zr (fun w hO => zhx hf rfl rfl) rfl hf rfl rfl fun a hf => ?_
 refine zr (fun w hO => zb1 hf rfl) rfl hf rfl rfl fun a hf => ?_
 refine zr (fun w hO => zb1 hf rfl) rfl hf rfl rfl fun a hf => ?_
 refine wpQuiet_nil ?_
 intro w hO
 refine S.no tb ?_ hf hO hm
 refine br rfl (fun hc26 => ?_) fun hc26 => ?_
 refine nl 57 2 ?_
 refine re_ rfl fun a w hf hO hm => ?_
 obtain rfl := Option.some.inj hm
 exact zs Tryz.results21 hf (.tmp rfl (.tmp rfl .nil)) ⟨none, 0, rfl, (hO.sub (.cons_cons _ (.cons _ (.cons _ (.cons _ .slnil)))))⟩
 refine bi rfl fun i29 hi29 => ?_
 exact ec [1, 2] rfl rfl rfl fun _ _ j => ⟨_, Nat.lt_succ_self _, i29, j rfl⟩
 refine re_ rfl fun a w hf hO hm => ?_
 obtain rfl := Option.some.inj hm
 exact zs Tryz.results21 hf (.tmp rfl (.tmp rfl .nil)) ⟨p3, c4, rfl, (hO.sub (.cons_cons _ (.cons _ .slnil)))⟩

theorem zhU (x_env : api_Env) (R : List api_Param) (w0 : World) (hG : zw w0) {x_env_p0 : Option Addr} {x_env_c0 : Nat} (hs0 : zH w0 x_env_p0 (cells za x_env.Domains)) (hc0 : x_env.Domains.length ≤ x_env_c0) {x_env_p1 : Option Addr} {x_env_c1 : Nat} (hs1 : zH w0 x_env_p1 (cells za x_env.Locations)) (hc1 : x_env.Locations.length ≤ x_env_c1) (hm : zeo x_env = some R) :
    Calls Tryz.prog 23 #[.agg #[str x_env.Client, str x_env.Host, str x_env.Scheme, str x_env.By, .slice x_env_p0 x_env.Domains.length x_env_c0, .slice x_env_p1 x_env.Locations.length x_env_c1]] w0 fun e w' => ∃ (p0 : Option Addr) (c0 : Nat), e = .returned (.slice p0 R.length c0) ∧ Dk.Own w0 [] w' [.row (.slice p0 R.length c0) 57 2 R.length (cells zd R)] := by
 rw [zeo] at hm
 have hF : zG [] := zf
 have hO : Dk.Own w0 [] w0 [] := Dk.Own.refl w0
 have hO := hO.addShr hs0 (by simp [Res.shared])
 have hO := hO.addShr hs1 (by simp [Res.shared])
 refine S.enter tb Tryz.func23 rfl Tryz.ntmps23 rfl ?_ hO hm
 refine bo rfl fun b1 => ?_
 refine nl 57 2 ?_
 refine jv 0 [1] [0, 1, 2, 3] (fun J E L => ∃ (s9 : Str), J ((3, str s9) :: E) (L) (zcA x_env s9)) rfl ?_ ?_
 refine ld 1 rfl rfl ?_
 refine cl c_45 rfl (fun r4 w hr4 hO => zmT x_env.Client r4 _ (hG.own hF hO) hr4) fun r4 hr4 => ?_
 refine br rfl (fun hc6 => ?_) fun hc6 => ?_
 refine ld 1 rfl rfl ?_
 refine bi rfl fun s7 hs7 => ?_
 refine bi rfl fun s8 hs8 => ?_
 exact en rfl fun _ _ j => ⟨s8, j rfl⟩
 exact en rfl fun _ _ j => ⟨[117, 110, 107, 110, 111, 119, 110], j rfl⟩
 rintro a w ⟨s9, hf, hO, hm⟩
 rw [zcA] at hm
 refine S.co tb ?_ hf hO hm
 refine jv 0 [1] [0, 1, 2, 3] (fun J E L => ∃ (s13 : Str), J ((3, str s13) :: E) (L) (zcz x_env s13)) rfl ?_ ?_
 refine ld 1 rfl rfl ?_
 refine cl c_46 rfl (fun r10 w hr10 hO => zhX x_env.Client r10 _ (hG.own hF hO) hr10) fun r10 hr10 => ?_
 refine br rfl (fun hc12 => ?_) fun hc12 => ?_
 refine ld 1 rfl rfl ?_
 exact en rfl fun _ _ j => ⟨x_env.Client, j rfl⟩
 exact en rfl fun _ _ j => ⟨s9, j rfl⟩
 rintro a w ⟨s13, hf, hO, hm⟩
 rw [zcz] at hm
 refine S.co tb ?_ hf hO hm
 refine vl rfl rfl (fun a w hf hO => z6 (vs := [(0, str [102, 111, 114]), (1, str s13)]) (v := .agg #[str [102, 111, 114], str s13]) hf rfl (by kernel_rfl)) ?_
 refine rw_ rfl fun a w hf hO hm => ?_
 refine zn (vs := [(0, .agg #[str [102, 111, 114], str s13])]) (cs := [str [102, 111, 114], str s13]) (e := 57) (sz := 2) hf rfl rfl (fun w => by kernel_rfl) rfl rfl hO fun a b14 w hf hO => ?_
 refine S.op tb ?_ hf hO hm
 refine jv 0 [1] [1, 2, 3, 4] (fun J E L => ∃ (p22 : Option Addr) (c23 : Nat) (l24 : List api_Param), J ((4, .slice p22 l24.length c23) :: E) (.row (.slice p22 l24.length c23) 57 2 l24.length (cells zd l24) :: L) (zdm x_env l24)) rfl ?_ ?_
 refine ld 2 rfl rfl ?_
 refine br rfl (fun hc17 => ?_) fun hc17 => ?_
 refine ld 2 rfl rfl ?_
 refine vl rfl rfl (fun a w hf hO => z6 (vs := [(0, str [104, 111, 115, 116]), (1, str x_env.Host)]) (v := .agg #[str [104, 111, 115, 116], str x_env.Host]) hf rfl (by kernel_rfl)) ?_
 refine rw_ rfl fun a w hf hO hm => ?_
 refine zn (vs := [(0, .agg #[str [104, 111, 115, 116], str x_env.Host])]) (cs := [str [104, 111, 115, 116], str x_env.Host]) (e := 57) (sz := 2) hf rfl rfl (fun w => by kernel_rfl) rfl rfl hO fun a b18 w hf hO => ?_
 refine S.op tb ?_ hf hO hm
 refine rw_ rfl fun a w hf hO hm => ?_
 obtain ⟨hg21, hm⟩ := og hm
 refine z8 zmL (enc := zd) (xs := [(⟨[102, 111, 114], s13⟩ : api_Param)]) (ys := [(⟨[104, 111, 115, 116], x_env.Host⟩ : api_Param)]) (i := 1) (fun _ => rfl) rfl (hO.rowSees (i := 0) rfl) (by simp [cells, zd, Value.oneCell']) hg21 hf rfl rfl rfl hO fun a p19 c20 w hf hO => ?_
 refine S.op tb ?_ hf hO hm
 exact ec [1, 2, 3, 4, 5] rfl rfl rfl fun _ _ j => ⟨p19, c20, ([(⟨[102, 111, 114], s13⟩ : api_Param)]) ++ [(⟨[104, 111, 115, 116], x_env.Host⟩ : api_Param)], j rfl⟩
 exact en rfl fun _ _ j => ⟨some ⟨b14, 0, none⟩, 1, [(⟨[102, 111, 114], s13⟩ : api_Param)], j rfl⟩
 rintro a w ⟨p22, c23, l24, hf, hO, hm⟩
 rw [zdm] at hm
 refine S.co tb ?_ hf hO hm
 refine jv 0 [] [1, 2, 3, 4] (fun J E L => ∃ (p31 : Option Addr) (c32 : Nat) (l33 : List api_Param), J ((4, .slice p31 l33.length c32) :: E) (.row (.slice p31 l33.length c32) 57 2 l33.length (cells zd l33) :: L) (zdl l33)) rfl ?_ ?_
 refine ld 2 rfl rfl ?_
 refine br rfl (fun hc26 => ?_) fun hc26 => ?_
 refine ld 2 rfl rfl ?_
 refine vl rfl rfl (fun a w hf hO => z6 (vs := [(0, str [112, 114, 111, 116, 111]), (1, str x_env.Scheme)]) (v := .agg #[str [112, 114, 111, 116, 111], str x_env.Scheme]) hf rfl (by kernel_rfl)) ?_
 refine rw_ rfl fun a w hf hO hm => ?_
 refine zn (vs := [(0, .agg #[str [112, 114, 111, 116, 111], str x_env.Scheme])]) (cs := [str [112, 114, 111, 116, 111], str x_env.Scheme]) (e := 57) (sz := 2) hf rfl rfl (fun w => by kernel_rfl) rfl rfl hO fun a b27 w hf hO => ?_
 refine S.op tb ?_ hf hO hm
 refine rw_ rfl fun a w hf hO hm => ?_
 obtain ⟨hg30, hm⟩ := og hm
 refine z8 zmL (enc := zd) (xs := l24) (ys := [(⟨[112, 114, 111, 116, 111], x_env.Scheme⟩ : api_Param)]) (i := 1) (fun _ => rfl) rfl (hO.rowSees (i := 0) rfl) (by simp [cells, zd, Value.oneCell']) hg30 hf rfl rfl rfl hO fun a p28 c29 w hf hO => ?_
 refine S.op tb ?_ hf hO hm
 exact ec [1, 2, 3, 4, 5] rfl rfl rfl fun _ _ j => ⟨p28, c29, l24 ++ [(⟨[112, 114, 111, 116, 111], x_env.Scheme⟩ : api_Param)], j rfl⟩
 exact en rfl fun _ _ j => ⟨p22, c23, l24, j rfl⟩
 rintro a w ⟨p31, c32, l33, hf, hO, hm⟩
 rw [zdl] at hm
 refine S.co tb ?_ hf hO hm
 refine re_ rfl fun a w hf hO hm => ?_
 obtain rfl := Option.some.inj hm
 exact zs Tryz.results23 hf (.tmp rfl .nil) ⟨p31, c32, rfl, (hO.sub (.cons_cons _ (.cons _ (.cons _ (.cons _ (.cons _ .slnil))))))⟩

theorem zlH (x_a : List api_Param) (x_b : List api_Param) (R : Bool) (w0 : World) (hG : zw w0) {x_a_p0 : Option Addr} {x_a_c0 : Nat} (hs0 : zH w0 x_a_p0 (cells zd x_a)) (hc0 : x_a.length ≤ x_a_c0) {x_b_p1 : Option Addr} {x_b_c1 : Nat} (hs1 : zH w0 x_b_p1 (cells zd x_b)) (hc1 : x_b.length ≤ x_b_c1) (hm : zfd x_a x_b = some R) :
    Calls Tryz.prog 22 #[.slice x_a_p0 x_a.length x_a_c0, .slice x_b_p1 x_b.length x_b_c1] w0 (Ret w0 (fun R => .bool R) R) := by
 rw [zfd] at hm
 have hF : zG [] := zf
 have hO : Dk.Own w0 [] w0 [] := Dk.Own.refl w0
 have hO := hO.addShr hs0 (by simp [Res.shared])
 have hO := hO.addShr hs1 (by simp [Res.shared])
 refine S.enter tb Tryz.func22 rfl Tryz.ntmps22 rfl ?_ hO hm
 refine br rfl (fun hc3 => ?_) fun hc3 => ?_
 exact rt Tryz.results22 rfl
 refine lv [0, 1] [0, 1] (fun J E L k => ∃ (i7 : Int), J ((5, int i7) :: E) (L) (zbx x_a x_b k i7)) rfl (fun _ _ j => ⟨0, j rfl⟩) ?_
 rintro n1 a w ⟨i7, hf, hO, hm⟩
 obtain _ | n1 := n1
 rw [zbx] at hm
 cases hm
 rw [zbx] at hm
 refine S.co tb ?_ hf hO hm
 refine br rfl (fun hc9 => ?_) fun hc9 => ?_
 refine rc_ rfl fun a w hf hO hm => ?_
 refine zdd (by kernel_rfl) (by kernel_rfl) hO ?_
 refine zr (fun w hO => zu hf rfl) rfl hf rfl rfl fun a hf => ?_
 refine zr (fun w hO => zu hf rfl) rfl hf rfl rfl fun a hf => ?_
 obtain ⟨x11, hx11, hm⟩ := ob hm
 obtain ⟨b12, o13, hix11, hSx11⟩ := zbD (enc := zd) (sz := 2) (xs := x_a) 49 Tryz.underlying49 zex (by decide) (fun _ => rfl) (hO.sees (i := 1) rfl) hx11
 refine zr (fun w hO => zk hix11 hf rfl rfl) rfl hf rfl rfl fun a hf => ?_
 refine zr (fun w hO => zae (o := 0) (vs := [str x11.Name, str x11.Value]) zi6 zex (hSx11 _ (hO.sees (i := 1) rfl)) rfl rfl hf rfl) rfl hf rfl rfl fun a hf => ?_
 refine zr (fun w hO => zu hf rfl) rfl hf rfl rfl fun a hf => ?_
 refine zr (fun w hO => zu hf rfl) rfl hf rfl rfl fun a hf => ?_
 obtain ⟨x14, hx14, hm⟩ := ob hm
 obtain ⟨b15, o16, hix14, hSx14⟩ := zbD (enc := zd) (sz := 2) (xs := x_b) 49 Tryz.underlying49 zex (by decide) (fun _ => rfl) (hO.sees (i := 0) rfl) hx14
 refine zr (fun w hO => zk hix14 hf rfl rfl) rfl hf rfl rfl fun a hf => ?_
 refine zr (fun w hO => zae (o := 0) (vs := [str x14.Name, str x14.Value]) zi6 zex (hSx14 _ (hO.sees (i := 0) rfl)) rfl rfl hf rfl) rfl hf rfl rfl fun a hf => ?_
 refine zr (fun w hO => zmx (by kernel_rfl) (eq_57 x11 x14) hf rfl rfl) rfl hf rfl rfl fun a hf => ?_
 refine wpQuiet_nil ?_
 intro w hO
 refine S.no tb ?_ hf hO hm
 refine br rfl (fun hc18 => ?_) fun hc18 => ?_
 exact rt Tryz.results22 rfl
 refine bi rfl fun i21 hi21 => ?_
 exact en rfl fun _ _ j => ⟨_, Nat.lt_succ_self _, i21, j rfl⟩
 exact rt Tryz.results22 rfl

end Go.Proofs
end
section
set_option linter.unusedVariables false
set_option maxHeartbeats 1000000
set_option linter.unusedSimpArgs false
set_option maxRecDepth 100000
namespace Go.Proofs
open Go.Dk Go.Dm Go.RowKit

theorem zfF (x_values : List Str) (R : List (List api_Param) × Int) (w0 : World) (hG : zw w0) {x_values_p0 : Option Addr} {x_values_c0 : Nat} (hs0 : zH w0 x_values_p0 (cells zg x_values)) (hc0 : x_values.length ≤ x_values_c0) (hm : zcX x_values = some R) :
    Calls Tryz.prog 26 #[.slice x_values_p0 x_values.length x_values_c0] w0 fun e w' => ∃ (p0 : Option Addr) (c0 : Nat) (g0 : List (Option Addr × Nat × Nat)), e = .returned (.tuple #[.slice p0 R.1.length c0, int R.2]) ∧ Dk.Own w0 [] w' [.nst (.slice p0 R.1.length c0) 49 g0 (R.1.map List.length) (R.1.map (cells zd))] := by
 rw [zcX] at hm
 have hF : zG [] := zf
 have hO : Dk.Own w0 [] w0 [] := Dk.Own.refl w0
 have hO := hO.addShr hs0 (by simp [Res.shared])
 refine S.enter tb Tryz.func26 rfl Tryz.ntmps26 rfl ?_ hO hm
 refine nn 49 ?_
 refine nn 49 ?_
 refine lv [13, 14] [1, 2] (fun J E L k => ∃ (p4 : Option Addr) (c5 : Nat) (l6 : List (List api_Param)) (g7 : List (Option Addr × Nat × Nat)) (i8 : Int), J ((4, .slice p4 l6.length c5) :: (15, int i8) :: E) (.nst (.slice p4 l6.length c5) 49 g7 (l6.map List.length) (l6.map (cells zd)) :: L) (zU x_values k l6 i8)) rfl (fun _ _ j => ⟨none, 0, [], [], 0, j rfl⟩) ?_
 rintro n1 a w ⟨p4, c5, l6, g7, i8, hf, hO, hm⟩
 obtain _ | n1 := n1
 rw [zU] at hm
 cases hm
 rw [zU] at hm
 refine S.co tb ?_ hf hO hm
 refine br rfl (fun hc10 => ?_) fun hc10 => ?_
 refine rw_ rfl fun a w hf hO hm => ?_
 obtain ⟨x12, hx12, hm⟩ := ob hm
 obtain ⟨b13, o14, hix12, hSx12⟩ := zbD (enc := zg) (sz := 1) (xs := x_values) 41 Tryz.underlying41 zgF (by decide) (fun _ => rfl) (hO.sees (i := 2) rfl) hx12
 refine zaB (zk hix12 hf rfl rfl) rfl hf rfl rfl fun a hf => ?_
 refine S.op tb ?_ hf hO hm
 refine vl rfl rfl (fun a w hf hO => ze (o := 0) zbE (hSx12 _ (hO.sees (i := 2) rfl)) rfl hf rfl) ?_
 refine rw_ rfl fun a w hf hO hm => ?_
 obtain ⟨r16, hr16, hm⟩ := ob hm
 refine zo (zp c_38 hf (vs := [str x12]) rfl) rfl hf rfl rfl (zkB x12 r16 _ (hG.own hF hO) hr16) ?_
 rintro e w' ⟨p17, c18, he, hO'⟩
 refine ⟨_, he, fun a hf => ?_⟩
 have hO := hO.call hO' (by simp [Res.shared])
 refine S.op tb ?_ hf hO hm
 refine br rfl (fun hc21 => ?_) fun hc21 => ?_
 refine nn 49 ?_
 refine re_ rfl fun a w hf hO hm => ?_
 obtain rfl := Option.some.inj hm
 exact zs Tryz.results26 hf (.tmp rfl (.tmp rfl .nil)) ⟨none, 0, [], rfl, (hO.sub (.cons_cons _ (.cons _ (.cons _ (.cons _ (.cons _ .slnil))))))⟩
 refine ch [1, 0, 2, 3] rfl rfl ?_
 refine lv [13, 14, 15, 27, 28] [1, 2, 3] (fun J E L k => ∃ (p25 : Option Addr) (c26 : Nat) (l27 : List (List api_Param)) (g28 : List (Option Addr × Nat × Nat)) (i29 : Int), J ((4, .slice p25 l27.length c26) :: (29, int i29) :: E) (.nst (.slice p25 l27.length c26) 49 g28 (l27.map List.length) (l27.map (cells zd)) :: L) (zaG (zU x_values n1) i8 r16 k l27 i29)) rfl (fun _ _ j => ⟨p4, c5, l6, g7, 0, j rfl⟩) ?_
 rintro n2 a w ⟨p25, c26, l27, g28, i29, hf, hO, hm⟩
 obtain _ | n2 := n2
 rw [zaG] at hm
 cases hm
 rw [zaG] at hm
 refine S.co tb ?_ hf hO hm
 refine br rfl (fun hc31 => ?_) fun hc31 => ?_
 refine rw_ rfl fun a w hf hO hm => ?_
 obtain ⟨x33, hx33, hm⟩ := ob hm
 obtain ⟨b34, o35, hix33, hSx33, hAx33⟩ := zbF (enc := zg) (sz := 1) (xs := r16.1) 41 Tryz.underlying41 zgF (by decide) (fun _ => rfl) hO (i := 1) rfl hx33
 refine zaB (zk hix33 hf rfl rfl) rfl hf rfl rfl fun a hf => ?_
 refine S.op tb ?_ hf hO hm
 refine vl rfl rfl (fun a w hf hO => ze (o := 0) zbE (hSx33 _ (hO.rowSees (i := 1) rfl)) rfl hf rfl) ?_
 refine rw_ rfl fun a w hf hO hm => ?_
 obtain ⟨r37, hr37, hm⟩ := ob hm
 refine zo (zp c_21 hf (vs := [str x33]) rfl) rfl hf rfl rfl (zhT x33 r37 _ (hG.own hF hO) hr37) ?_
 rintro e w' ⟨p38, c39, he, hO'⟩
 refine ⟨_, he, fun a hf => ?_⟩
 have hO := hO.call hO' (by simp [Res.shared])
 refine S.op tb ?_ hf hO hm
 refine br rfl (fun hc42 => ?_) fun hc42 => ?_
 refine nn 49 ?_
 refine re_ rfl fun a w hf hO hm => ?_
 obtain rfl := Option.some.inj hm
 exact zs Tryz.results26 hf (.tmp rfl (.tmp rfl .nil)) ⟨none, 0, [], rfl, (hO.sub (.cons_cons _ (.cons _ (.cons _ (.cons _ (.cons _ (.cons _ .slnil)))))))⟩
 refine rw_ rfl fun a w hf hO hm => ?_
 refine zn (vs := [(0, .slice p38 r37.1.length c39)]) (cs := [.slice p38 r37.1.length c39]) (e := 49) (sz := 1) hf rfl rfl (fun w => by kernel_rfl) rfl rfl hO fun a b45 w hf hO => ?_
 refine S.op tb ?_ hf hO hm
 refine rw_ rfl fun a w hf hO hm => ?_
 obtain ⟨hg48, hm⟩ := og hm
 refine zkD el_61 (enc := zd) (xss := l27) (z := r37.1) (i := 2) (j := 1) [0, 3, 4, 5] rfl rfl (fun w hO => hO.rowSees (i := 0) rfl) hg48 hf rfl rfl rfl hO fun a p46 c47 w hf hO => ?_
 refine S.op tb ?_ hf hO hm
 refine bi rfl fun i50 hi50 => ?_
 exact ec [0, 2, 3, 4] rfl rfl rfl fun _ _ j => ⟨_, Nat.lt_succ_self _, p46, c47, l27 ++ [r37.1], g28 ++ [(p38, r37.1.length, c39)], i50, j rfl⟩
 refine bi rfl fun i52 hi52 => ?_
 exact ec [0, 2, 3] rfl rfl rfl fun _ _ j => ⟨_, Nat.lt_succ_self _, p25, c26, l27, g28, i52, j rfl⟩
 refine re_ rfl fun a w hf hO hm => ?_
 obtain rfl := Option.some.inj hm
 exact zs Tryz.results26 hf (.tmp rfl (.tmp rfl .nil)) ⟨p4, c5, g7, rfl, (hO.sub (.cons_cons _ (.cons _ (.cons _ .slnil))))⟩

theorem zl4 (x_a : List (List api_Param)) (x_b : List (List api_Param)) (R : Bool) (w0 : World) (hG : zw w0) {x_a_p1 : Option Addr} {x_a_c1 : Nat} {x_a_s2 : List (Option Addr × Nat × Nat)} (hn0 : (Res.nst (.slice x_a_p1 x_a.length x_a_c1) 49 x_a_s2 (x_a.map List.length) (x_a.map (cells zd))).holds w0 0) {x_b_p3 : Option Addr} {x_b_c3 : Nat} {x_b_s4 : List (Option Addr × Nat × Nat)} (hn1 : (Res.nst (.slice x_b_p3 x_b.length x_b_c3) 49 x_b_s4 (x_b.map List.length) (x_b.map (cells zd))).holds w0 0) (hm : zep x_a x_b = some R) :
    Calls Tryz.prog 28 #[.slice x_a_p1 x_a.length x_a_c1, .slice x_b_p3 x_b.length x_b_c3] w0 (Ret w0 (fun R => .bool R) R) := by
 rw [zep] at hm
 have hF : zG [] := zf
 have hO : Dk.Own w0 [] w0 [] := Dk.Own.refl w0
 refine S.enter tb Tryz.func28 rfl Tryz.ntmps28 rfl ?_ hO hm
 refine br rfl (fun hc3 => ?_) fun hc3 => ?_
 exact rt Tryz.results28 rfl
 refine lv [0, 1] [] (fun J E L k => ∃ (i7 : Int), J ((5, int i7) :: E) (L) (zby x_a x_b k i7)) rfl (fun _ _ j => ⟨0, j rfl⟩) ?_
 rintro n1 a w ⟨i7, hf, hO, hm⟩
 obtain _ | n1 := n1
 rw [zby] at hm
 cases hm
 rw [zby] at hm
 refine S.co tb ?_ hf hO hm
 refine br rfl (fun hc9 => ?_) fun hc9 => ?_
 refine rc_ rfl fun a w hf hO hm => ?_
 refine zdd (by kernel_rfl) (by kernel_rfl) hO ?_
 refine zr (fun w hO => zu hf rfl) rfl hf rfl rfl fun a hf => ?_
 refine zr (fun w hO => zu hf rfl) rfl hf rfl rfl fun a hf => ?_
 obtain ⟨x11, hx11, hm⟩ := ob hm
 obtain ⟨b12, o13, p14, c15, hix11, hSx11, hVx11, hCx11⟩ := znZ (enc := zd) (xss := x_a) 61 Tryz.underlying61 sz_49 (hO.at0 hn0) hx11
 refine zr (fun w hO => zk hix11 hf rfl rfl) rfl hf rfl rfl fun a hf => ?_
 refine zr (fun w hO => ze (o := 0) ag_49 (hSx11 _ (hO.at0 hn0)) rfl hf rfl) rfl hf rfl rfl fun a hf => ?_
 refine zr (fun w hO => zu hf rfl) rfl hf rfl rfl fun a hf => ?_
 refine zr (fun w hO => zu hf rfl) rfl hf rfl rfl fun a hf => ?_
 obtain ⟨x16, hx16, hm⟩ := ob hm
 obtain ⟨b17, o18, p19, c20, hix16, hSx16, hVx16, hCx16⟩ := znZ (enc := zd) (xss := x_b) 61 Tryz.underlying61 sz_49 (hO.at0 hn1) hx16
 refine zr (fun w hO => zk hix16 hf rfl rfl) rfl hf rfl rfl fun a hf => ?_
 refine zr (fun w hO => ze (o := 0) ag_49 (hSx16 _ (hO.at0 hn1)) rfl hf rfl) rfl hf rfl rfl fun a hf => ?_
 obtain ⟨r21, hr21, hm⟩ := ob hm
 refine zlP (fun w hO => zp c_22 hf (vs := [.slice p14 x11.length c15, .slice p19 x16.length c20]) rfl) rfl hf rfl rfl (fun w hO => (zlH x11 x16 r21 _ (hG.own hF hO) (hVx11 _ (hO.at0 hn0)) hCx11 (hVx16 _ (hO.at0 hn1)) hCx16 hr21).mono fun e w' ⟨he, hb⟩ => ⟨he, hO.grow hb⟩) fun a hf => ?_
 refine zr (fun w hO => zo8 hf rfl) rfl hf rfl rfl fun a hf => ?_
 refine wpQuiet_nil ?_
 intro w hO
 refine S.no tb ?_ hf hO hm
 refine br rfl (fun hc23 => ?_) fun hc23 => ?_
 exact rt Tryz.results28 rfl
 refine bi rfl fun i26 hi26 => ?_
 exact en rfl fun _ _ j => ⟨_, Nat.lt_succ_self _, i26, j rfl⟩
 exact rt Tryz.results28 rfl

theorem zfs (x_a0 : api_Env) (x_a1 : List api_Field) (R : Bool) (w0 : World) (hG : zbZ w0) {x_a0_p0 : Option Addr} {x_a0_c0 : Nat} (hs0 : zH w0 x_a0_p0 (cells za x_a0.Domains)) (hc0 : x_a0.Domains.length ≤ x_a0_c0) {x_a0_p1 : Option Addr} {x_a0_c1 : Nat} (hs1 : zH w0 x_a0_p1 (cells za x_a0.Locations)) (hc1 : x_a0.Locations.length ≤ x_a0_c1) {x_a1_p2 : Option Addr} {x_a1_c2 : Nat} (hs2 : zH w0 x_a1_p2 (cells zb x_a1)) (hc2 : x_a1.length ≤ x_a1_c2) (hm : zbr x_a0 x_a1 = some R) :
    Calls Tryz.prog 6 #[.agg #[str x_a0.Client, str x_a0.Host, str x_a0.Scheme, str x_a0.By, .slice x_a0_p0 x_a0.Domains.length x_a0_c0, .slice x_a0_p1 x_a0.Locations.length x_a0_c1], .slice x_a1_p2 x_a1.length x_a1_c2] w0 (Ret w0 (fun R => .bool R) R) := by
 rw [zbr] at hm
 have hF : zG [] := zf
 have hO : Dk.Own w0 [] w0 [] := Dk.Own.refl w0
 have hO := hO.addShr hs0 (by simp [Res.shared])
 have hO := hO.addShr hs1 (by simp [Res.shared])
 have hO := hO.addShr hs2 (by simp [Res.shared])
 refine S.enter tb Tryz.func6 rfl Tryz.ntmps6 rfl ?_ hO hm
 refine bo rfl fun b1 => ?_
 refine cl c_17 rfl (fun r3 w hr3 hO => zkX r3 _ (hG.own hF hO) hr3) fun r3 hr3 => ?_
 refine br rfl (fun hc5 => ?_) fun hc5 => ?_
 exact rt Tryz.results6 rfl
 refine ld 0 rfl rfl ?_
 refine rw_ rfl fun a w hf hO hm => ?_
 obtain ⟨r8, hr8, hm⟩ := ob hm
 refine zo (zp c_18 hf (vs := [.agg #[str x_a0.Client, str x_a0.Host, str x_a0.Scheme, str x_a0.By, .slice x_a0_p0 x_a0.Domains.length x_a0_c0, .slice x_a0_p1 x_a0.Locations.length x_a0_c1]]) rfl) rfl hf rfl rfl (zm0 x_a0 r8 _ (hG.own hF hO).1 (hO.sees (i := 3) rfl) hc0 (hO.sees (i := 2) rfl) hc1 hr8) ?_
 rintro e w' ⟨p9, c10, p11, c12, he, hO'⟩
 refine ⟨_, he, fun a hf => ?_⟩
 have hO := hO.call hO' (by simp [Res.shared])
 refine S.op tb ?_ hf hO hm
 refine vl rfl rfl (fun a w hf hO => z6 (vs := [(6, .slice x_a1_p2 x_a1.length x_a1_c2)]) (v := .agg #[int 0, str [], str [], int 0, str [], int 0, .slice x_a1_p2 x_a1.length x_a1_c2]) hf rfl (by kernel_rfl)) ?_
 refine rw_ rfl fun a w hf hO hm => ?_
 obtain ⟨r13, hr13, hm⟩ := ob hm
 refine zo (zp c_9 hf (vs := [.agg #[int 0, str [], str [], int 0, str [], int 0, .slice x_a1_p2 x_a1.length x_a1_c2]]) rfl) rfl hf rfl rfl (znb (⟨0, [], [], 0, [], 0, x_a1⟩ : api_Head) r13 _ (hG.own hF hO).1 (hO.sees (i := 3) rfl) hc2 hr13) ?_
 rintro e w' ⟨p14, c15, he, hO'⟩
 refine ⟨_, he, fun a hf => ?_⟩
 have hO := hO.call hO' (by simp [Res.shared])
 refine S.op tb ?_ hf hO hm
 refine vl rfl rfl (fun a w hf hO => zom (v := .slice p14 r13.Fields.length c15) hf rfl (by kernel_rfl)) ?_
 refine st 3 rfl rfl ?_
 refine ld 3 rfl rfl ?_
 refine rw_ rfl fun a w hf hO hm => ?_
 obtain ⟨r17, hr17, hm⟩ := ob hm
 refine zo (zp c_29 hf (vs := [.agg #[str r8.Client, str r8.Host, str r8.Scheme, str r8.By, .slice p9 r8.Domains.length c10, .slice p11 r8.Locations.length c12], .slice p14 r13.Fields.length c15]) rfl) rfl hf rfl rfl (ze5 r8 r13.Fields r17 _ (hG.own hF hO) (hO.rowSees (i := 1) rfl) (hO.rowCap (i := 1) rfl) (hO.rowSees (i := 2) rfl) (hO.rowCap (i := 2) rfl) (hO.rowSees (i := 0) rfl) (hO.rowCap (i := 0) rfl) hr17) ?_
 rintro e w' ⟨p18, c19, he, hO'⟩
 refine ⟨_, he, fun a hf => ?_⟩
 have hO := hO.call hO' (by simp [Res.shared])
 refine S.op tb ?_ hf hO hm
 refine ld 4 rfl rfl ?_
 refine rw_ rfl fun a w hf hO hm => ?_
 obtain ⟨r21, hr21, hm⟩ := ob hm
 refine zo (zp c_23 hf (vs := [.agg #[str r8.Client, str r8.Host, str r8.Scheme, str r8.By, .slice p9 r8.Domains.length c10, .slice p11 r8.Locations.length c12]]) rfl) rfl hf rfl rfl (zhU r8 r21 _ (hG.own hF hO).1 (hO.rowSees (i := 2) rfl) (hO.rowCap (i := 2) rfl) (hO.rowSees (i := 3) rfl) (hO.rowCap (i := 3) rfl) hr21) ?_
 rintro e w' ⟨p22, c23, he, hO'⟩
 refine ⟨_, he, fun a hf => ?_⟩
 have hO := hO.call hO' (by simp [Res.shared])
 refine S.op tb ?_ hf hO hm
 refine cl c_20 rfl (fun r24 w hr24 hO => zl6 r21 r24 _ (hG.own hF hO).1 (hO.rowSees (i := 0) rfl) (hO.rowCap (i := 0) rfl) hr24) fun r24 hr24 => ?_
 refine br rfl (fun hc27 => ?_) fun hc27 => ?_
 refine jv 1 [] [0, 1, 2, 3, 4, 5, 6, 7, 8] (fun J E L => ∃ (t29 : Bool), J ((4, .bool t29) :: E) (L) (zaP t29)) rfl ?_ ?_
 refine br rfl (fun hc28 => ?_) fun hc28 => ?_
 exact en rfl fun _ _ j => ⟨r17.2 == r24.2, j rfl⟩
 exact en rfl fun _ _ j => ⟨false, j rfl⟩
 rintro a w ⟨t29, hf, hO, hm⟩
 rw [zaP] at hm
 refine S.co tb ?_ hf hO hm
 exact rt Tryz.results6 rfl
 refine jv 1 [1, 2, 5] [0, 1, 2, 3, 4, 5, 6, 7, 8] (fun J E L => ∃ (t36 : Bool), J ((52, .bool t36) :: E) (L) (z7 r8 r13 r17 t36)) rfl ?_ ?_
 refine br rfl (fun hc31 => ?_) fun hc31 => ?_
 exact en rfl fun _ _ j => ⟨true, j rfl⟩
 refine rw_ rfl fun a w hf hO hm => ?_
 obtain ⟨r32, hr32, hm⟩ := ob hm
 refine zo (zp c_13 hf (vs := [.slice p14 r13.Fields.length c15, str [70, 111, 114, 119, 97, 114, 100, 101, 100], str r24.1]) rfl) rfl hf rfl rfl (zkA r13.Fields [70, 111, 114, 119, 97, 114, 100, 101, 100] r24.1 r32 _ (hG.own hF hO).1 (hO.rowSees (i := 2) rfl) (hO.rowCap (i := 2) rfl) hr32) ?_
 rintro e w' ⟨p33, c34, he, hO'⟩
 refine ⟨_, he, fun a hf => ?_⟩
 have hO := hO.call hO' (by simp [Res.shared])
 refine S.op tb ?_ hf hO hm
 refine kn (b' := false) hc31 rfl ?_
 refine cl c_12 rfl (fun r35 w hr35 hO => zik r17.1 r32 r35 _ (hG.own hF hO).1 (hO.rowSees (i := 2) rfl) (hO.rowCap (i := 2) rfl) (hO.rowSees (i := 0) rfl) (hO.rowCap (i := 0) rfl) hr35) fun r35 hr35 => ?_
 exact ec [1, 2, 3, 4, 5, 6, 7, 8, 9] rfl rfl rfl fun _ _ j => ⟨!r35, j rfl⟩
 rintro a w ⟨t36, hf, hO, hm⟩
 rw [z7] at hm
 refine S.co tb ?_ hf hO hm
 refine br rfl (fun hc37 => ?_) fun hc37 => ?_
 exact rt Tryz.results6 rfl
 refine rw_ rfl fun a w hf hO hm => ?_
 obtain ⟨r40, hr40, hm⟩ := ob hm
 refine zo (zp c_15 hf (vs := [.slice p14 r13.Fields.length c15, str [102, 111, 114, 119, 97, 114, 100, 101, 100]]) rfl) rfl hf rfl rfl (zgM r13.Fields [102, 111, 114, 119, 97, 114, 100, 101, 100] r40 _ (hG.own hF hO).1 (hO.rowSees (i := 2) rfl) (hO.rowCap (i := 2) rfl) hr40) ?_
 rintro e w' ⟨p41, c42, he, hO'⟩
 refine ⟨_, he, fun a hf => ?_⟩
 have hO := hO.call hO' (by simp [Res.shared])
 refine S.op tb ?_ hf hO hm
 refine rw_ rfl fun a w hf hO hm => ?_
 obtain ⟨r43, hr43, hm⟩ := ob hm
 refine zo (zp c_26 hf (vs := [.slice p41 r40.length c42]) rfl) rfl hf rfl rfl (zfF r40 r43 _ (hG.own hF hO).1 (hO.rowSees (i := 0) rfl) (hO.rowCap (i := 0) rfl) hr43) ?_
 rintro e w' ⟨p44, c45, g46, he, hO'⟩
 refine ⟨_, he, fun a hf => ?_⟩
 have hO := hO.call hO' (by simp [Res.shared])
 refine S.op tb ?_ hf hO hm
 refine rw_ rfl fun a w hf hO hm => ?_
 obtain ⟨r48, hr48, hm⟩ := ob hm
 refine zo (zp c_15 hf (vs := [.slice p18 r17.1.length c19, str [102, 111, 114, 119, 97, 114, 100, 101, 100]]) rfl) rfl hf rfl rfl (zgM r17.1 [102, 111, 114, 119, 97, 114, 100, 101, 100] r48 _ (hG.own hF hO).1 (hO.rowSees (i := 3) rfl) (hO.rowCap (i := 3) rfl) hr48) ?_
 rintro e w' ⟨p49, c50, he, hO'⟩
 refine ⟨_, he, fun a hf => ?_⟩
 have hO := hO.call hO' (by simp [Res.shared])
 refine S.op tb ?_ hf hO hm
 refine rw_ rfl fun a w hf hO hm => ?_
 obtain ⟨r51, hr51, hm⟩ := ob hm
 refine zo (zp c_26 hf (vs := [.slice p49 r48.length c50]) rfl) rfl hf rfl rfl (zfF r48 r51 _ (hG.own hF hO).1 (hO.rowSees (i := 0) rfl) (hO.rowCap (i := 0) rfl) hr51) ?_
 rintro e w' ⟨p52, c53, g54, he, hO'⟩
 refine ⟨_, he, fun a hf => ?_⟩
 have hO := hO.call hO' (by simp [Res.shared])
 refine S.op tb ?_ hf hO hm
 refine ld 9 rfl rfl ?_
 refine rw_ rfl fun a w hf hO hm => ?_
 obtain ⟨r56, hr56, hm⟩ := ob hm
 refine zo (zp c_23 hf (vs := [.agg #[str r8.Client, str r8.Host, str r8.Scheme, str r8.By, .slice p9 r8.Domains.length c10, .slice p11 r8.Locations.length c12]]) rfl) rfl hf rfl rfl (zhU r8 r56 _ (hG.own hF hO).1 (hO.rowSees (i := 7) rfl) (hO.rowCap (i := 7) rfl) (hO.rowSees (i := 8) rfl) (hO.rowCap (i := 8) rfl) hr56) ?_
 rintro e w' ⟨p57, c58, he, hO'⟩
 refine ⟨_, he, fun a hf => ?_⟩
 have hO := hO.call hO' (by simp [Res.shared])
 refine S.op tb ?_ hf hO hm
 refine rw_ rfl fun a w hf hO hm => ?_
 refine zn (vs := [(0, .slice p57 r56.length c58)]) (cs := [.slice p57 r56.length c58]) (e := 49) (sz := 1) hf rfl rfl (fun w => by kernel_rfl) rfl rfl hO fun a b59 w hf hO => ?_
 refine S.op tb ?_ hf hO hm
 refine rw_ rfl fun a w hf hO hm => ?_
 obtain ⟨hg62, hm⟩ := og hm
 refine zkD el_61 (enc := zd) (xss := r43.1) (z := r56) (i := 4) (j := 1) [0, 2, 3, 5, 6, 7, 8, 9, 10, 11, 12, 13, 14] rfl rfl (fun w hO => hO.rowSees (i := 0) rfl) hg62 hf rfl rfl rfl hO fun a p60 c61 w hf hO => ?_
 refine S.op tb ?_ hf hO hm
 refine jv 0 [] [0, 1, 2, 3, 4, 5, 6, 7, 8, 9, 10, 11, 12, 13] (fun J E L => ∃ (t67 : Bool), J ((4, .bool t67) :: E) (L) (zQ t67)) rfl ?_ ?_
 refine br rfl (fun hc64 => ?_) fun hc64 => ?_
 exact en rfl fun _ _ j => ⟨true, j rfl⟩
 refine br rfl (fun hc65 => ?_) fun hc65 => ?_
 refine cl c_28 rfl (fun r66 w hr66 hO => zl4 r51.1 (r43.1 ++ [r56]) r66 _ (hG.own hF hO).1 (hO.get (i := 2) rfl) (hO.get (i := 0) rfl) hr66) fun r66 hr66 => ?_
 exact en rfl fun _ _ j => ⟨r66, j rfl⟩
 exact en rfl fun _ _ j => ⟨false, j rfl⟩
 rintro a w ⟨t67, hf, hO, hm⟩
 rw [zQ] at hm
 refine S.co tb ?_ hf hO hm
 exact rt Tryz.results6 rfl

end Go.Proofs
end
