/-
  Walks, written by a program (wip/gen): what its model says, the function returns; what was there before is as it was.
  Walks, written by a program (wip/gen): what its model says, the function returns; what was there before is as it was.
-/
import Derived.Test.YtbebpdfhbpedjaaGreatDoorLib
import Derived.Test.YtbebpdfhbpedjaaGreatDoorW8
section
set_option linter.unusedVariables false
set_option maxHeartbeats 1000000
set_option linter.unusedSimpArgs false
set_option maxRecDepth 100000
namespace Go.Proofs
open Go.Dk Go.Dm Go.RowKit

theorem zbh (x_client : Str) (R : Str) (w0 : World) (hG : zbf w0) (hm : zbp x_client = some R) :
    Calls Tryz.prog 24 #[str x_client] w0 (Ret w0 (fun R => str R) R) := by
 rw [zbp] at hm
 have hF : zI [] := zg
 have hO : Dk.Own w0 [] w0 [] := Dk.Own.refl w0
 refine S.enter tb Tryz.func24 rfl Tryz.ntmps24 rfl ?_ hO hm
 refine cl c_47 rfl (fun r2 w hr2 hO => zeu x_client r2 _ (hG.own hF hO) hr2) fun r2 hr2 => ?_
 refine br rfl (fun hc4 => ?_) fun hc4 => ?_
 exact rt Tryz.results24 rfl
 refine cl c_48 rfl (fun r6 w hr6 hO => zhF x_client r6 _ (hG.own hF hO) hr6) fun r6 hr6 => ?_
 refine br rfl (fun hc8 => ?_) fun hc8 => ?_
 refine bi rfl fun s9 hs9 => ?_
 refine bi rfl fun s10 hs10 => ?_
 exact rt Tryz.results24 rfl
 exact rt Tryz.results24 rfl

theorem zd6 (x_env : api_Env) (R : List api_Param) (w0 : World) (hG : zbf w0) {x_env_p0 : Option Addr} {x_env_c0 : Nat} (hs0 : zL w0 x_env_p0 (cells za x_env.Domains)) (hc0 : x_env.Domains.length ≤ x_env_c0) {x_env_p1 : Option Addr} {x_env_c1 : Nat} (hs1 : zL w0 x_env_p1 (cells za x_env.Locations)) (hc1 : x_env.Locations.length ≤ x_env_c1) (hm : zbq x_env = some R) :
    Calls Tryz.prog 19 #[.agg #[str x_env.Client, str x_env.Host, str x_env.Scheme, str x_env.By, .slice x_env_p0 x_env.Domains.length x_env_c0, .slice x_env_p1 x_env.Locations.length x_env_c1]] w0 fun e w' => ∃ (p0 : Option Addr) (c0 : Nat), e = .returned (.slice p0 R.length c0) ∧ Dk.Own w0 [] w' [.row (.slice p0 R.length c0) 57 2 R.length (cells zb R)] := by
 rw [zbq] at hm
 have hF : zI [] := zg
 have hO : Dk.Own w0 [] w0 [] := Dk.Own.refl w0
 have hO := hO.addShr hs0 (by simp [Res.shared])
 have hO := hO.addShr hs1 (by simp [Res.shared])
 refine S.enter tb Tryz.func19 rfl Tryz.ntmps19 rfl ?_ hO hm
 refine bo rfl fun b1 => ?_
 refine nl 57 2 ?_
 refine ld 1 rfl rfl ?_
 refine cl c_24 rfl (fun r3 w hr3 hO => zbh x_env.Client r3 _ (hG.own hF hO) hr3) fun r3 hr3 => ?_
 refine vl rfl rfl (fun a w hf hO => zai (vs := [(0, str [102, 111, 114]), (1, str r3)]) (v := .agg #[str [102, 111, 114], str r3]) hf rfl (by kernel_rfl)) ?_
 refine rw_ rfl fun a w hf hO hm => ?_
 refine zo (vs := [(0, .agg #[str [102, 111, 114], str r3])]) (cs := [str [102, 111, 114], str r3]) (e := 57) (sz := 2) hf rfl rfl (fun w => by kernel_rfl) rfl rfl hO fun a b4 w hf hO => ?_
 refine S.op tb ?_ hf hO hm
 refine jv 0 [1] [1, 2, 3, 4] (fun J E L => ∃ (p12 : Option Addr) (c13 : Nat) (l14 : List api_Param), J ((3, .slice p12 l14.length c13) :: E) (.row (.slice p12 l14.length c13) 57 2 l14.length (cells zb l14) :: L) (za8 x_env l14)) rfl ?_ ?_
 refine ld 2 rfl rfl ?_
 refine br rfl (fun hc7 => ?_) fun hc7 => ?_
 refine ld 2 rfl rfl ?_
 refine vl rfl rfl (fun a w hf hO => zai (vs := [(0, str [104, 111, 115, 116]), (1, str x_env.Host)]) (v := .agg #[str [104, 111, 115, 116], str x_env.Host]) hf rfl (by kernel_rfl)) ?_
 refine rw_ rfl fun a w hf hO hm => ?_
 refine zo (vs := [(0, .agg #[str [104, 111, 115, 116], str x_env.Host])]) (cs := [str [104, 111, 115, 116], str x_env.Host]) (e := 57) (sz := 2) hf rfl rfl (fun w => by kernel_rfl) rfl rfl hO fun a b8 w hf hO => ?_
 refine S.op tb ?_ hf hO hm
 refine rw_ rfl fun a w hf hO hm => ?_
 obtain ⟨hg11, hm⟩ := og hm
 refine zaA zjN (enc := zb) (xs := [(⟨[102, 111, 114], r3⟩ : api_Param)]) (ys := [(⟨[104, 111, 115, 116], x_env.Host⟩ : api_Param)]) (i := 1) (fun _ => rfl) rfl (hO.rowSees (i := 0) rfl) (by simp [cells, zb, Value.oneCell']) hg11 hf rfl rfl rfl hO fun a p9 c10 w hf hO => ?_
 refine S.op tb ?_ hf hO hm
 exact ec [1, 2, 3, 4, 5] rfl rfl rfl fun _ _ j => ⟨p9, c10, ([(⟨[102, 111, 114], r3⟩ : api_Param)]) ++ [(⟨[104, 111, 115, 116], x_env.Host⟩ : api_Param)], j rfl⟩
 exact en rfl fun _ _ j => ⟨some ⟨b4, 0, none⟩, 1, [(⟨[102, 111, 114], r3⟩ : api_Param)], j rfl⟩
 rintro a w ⟨p12, c13, l14, hf, hO, hm⟩
 rw [za8] at hm
 refine S.co tb ?_ hf hO hm
 refine jv 0 [] [1, 2, 3, 4] (fun J E L => ∃ (p21 : Option Addr) (c22 : Nat) (l23 : List api_Param), J ((3, .slice p21 l23.length c22) :: E) (.row (.slice p21 l23.length c22) 57 2 l23.length (cells zb l23) :: L) (za7 l23)) rfl ?_ ?_
 refine ld 2 rfl rfl ?_
 refine br rfl (fun hc16 => ?_) fun hc16 => ?_
 refine ld 2 rfl rfl ?_
 refine vl rfl rfl (fun a w hf hO => zai (vs := [(0, str [112, 114, 111, 116, 111]), (1, str x_env.Scheme)]) (v := .agg #[str [112, 114, 111, 116, 111], str x_env.Scheme]) hf rfl (by kernel_rfl)) ?_
 refine rw_ rfl fun a w hf hO hm => ?_
 refine zo (vs := [(0, .agg #[str [112, 114, 111, 116, 111], str x_env.Scheme])]) (cs := [str [112, 114, 111, 116, 111], str x_env.Scheme]) (e := 57) (sz := 2) hf rfl rfl (fun w => by kernel_rfl) rfl rfl hO fun a b17 w hf hO => ?_
 refine S.op tb ?_ hf hO hm
 refine rw_ rfl fun a w hf hO hm => ?_
 obtain ⟨hg20, hm⟩ := og hm
 refine zaA zjN (enc := zb) (xs := l14) (ys := [(⟨[112, 114, 111, 116, 111], x_env.Scheme⟩ : api_Param)]) (i := 1) (fun _ => rfl) rfl (hO.rowSees (i := 0) rfl) (by simp [cells, zb, Value.oneCell']) hg20 hf rfl rfl rfl hO fun a p18 c19 w hf hO => ?_
 refine S.op tb ?_ hf hO hm
 exact ec [1, 2, 3, 4, 5] rfl rfl rfl fun _ _ j => ⟨p18, c19, l14 ++ [(⟨[112, 114, 111, 116, 111], x_env.Scheme⟩ : api_Param)], j rfl⟩
 exact en rfl fun _ _ j => ⟨p12, c13, l14, j rfl⟩
 rintro a w ⟨p21, c22, l23, hf, hO, hm⟩
 rw [za7] at hm
 refine S.co tb ?_ hf hO hm
 refine re_ rfl fun a w hf hO hm => ?_
 obtain rfl := Option.some.inj hm
 exact zt Tryz.results19 hf (.tmp rfl .nil) ⟨p21, c22, rfl, (hO.sub (.cons_cons _ (.cons _ (.cons _ (.cons _ (.cons _ .slnil))))))⟩

theorem zhS (x_s : Str) (R : Str × Int) (w0 : World) (hG : zA w0) (hm : zeq x_s = some R) :
    Calls Tryz.prog 123 #[str x_s] w0 (Ret w0 (fun R => .tuple #[str R.1, int R.2]) R) := by
 rw [zeq] at hm
 have hF : zI [] := zg
 have hO : Dk.Own w0 [] w0 [] := Dk.Own.refl w0
 refine S.enter tb Tryz.func123 rfl Tryz.ntmps123 rfl ?_ hO hm
 refine rw_ rfl fun a w hf hO hm => ?_
 refine zo (vs := [(0, str x_s)]) (cs := [str x_s]) (e := 9) (sz := 1) hf rfl rfl (fun w => by kernel_rfl) rfl rfl hO fun a b2 w hf hO => ?_
 refine S.op tb ?_ hf hO hm
 refine cl zkF rfl (fun r3 w hr3 hO => zdK zbd ([x_s] : List Str) r3 _ (hG.own hF hO) c_144 (fun y0 r w hG h => zgs (zeA y0 r w hG h)) (hO.rowSees (i := 0) rfl) (hO.rowCap (i := 0) rfl) hr3) fun r3 hr3 => ?_
 refine br rfl (fun hc5 => ?_) fun hc5 => ?_
 exact rt Tryz.results123 rfl
 refine rw_ rfl fun a w hf hO hm => ?_
 refine zo (vs := [(0, zM 34)]) (cs := [zM 34]) (e := 5) (sz := 1) hf rfl rfl (fun w => by kernel_rfl) rfl rfl hO fun a b8 w hf hO => ?_
 refine S.op tb ?_ hf hO hm
 refine lv [0, 12] [1] (fun J E L k => ∃ (p11 : Option Addr) (c12 : Nat) (l13 : List UInt8) (i14 : Int), J ((4, .slice p11 l13.length c12) :: (13, int i14) :: E) (.row (.slice p11 l13.length c12) 5 1 l13.length (cells zN l13) :: L) (zag x_s k l13 i14)) rfl (fun _ _ j => ⟨some ⟨b8, 0, none⟩, 1, [34], 0, j rfl⟩) ?_
 rintro n1 a w ⟨p11, c12, l13, i14, hf, hO, hm⟩
 obtain _ | n1 := n1
 rw [zag] at hm
 cases hm
 rw [zag] at hm
 refine S.co tb ?_ hf hO hm
 refine br rfl (fun hc16 => ?_) fun hc16 => ?_
 refine jv 5 [0, 5, 12, 13] [1] (fun J E L => ∃ (p28 : Option Addr) (c29 : Nat) (l30 : List UInt8), J ((4, .slice p28 l30.length c29) :: E) (.row (.slice p28 l30.length c29) 5 1 l30.length (cells zN l30) :: L) (zcf (zag x_s n1) x_s i14 l30)) rfl ?_ ?_
 refine jv 6 [0, 4, 5, 12, 13] [0, 1] (fun J E L => ∃ (t22 : Bool), J ((25, .bool t22) :: E) (L) (zcg (zag x_s n1) x_s l13 i14 t22)) rfl ?_ ?_
 refine bi rfl fun b19 hb19 => ?_
 refine vl rfl rfl (fun a w hf hO => zby (b := b19) (c := 34) hf rfl rfl) ?_
 refine br rfl (fun hc20 => ?_) fun hc20 => ?_
 exact en rfl fun _ _ j => ⟨true, j rfl⟩
 refine bi rfl fun b21 hb21 => ?_
 refine vl rfl rfl (fun a w hf hO => zby (b := b21) (c := 92) hf rfl rfl) ?_
 exact en rfl fun _ _ j => ⟨b21 == 92, j rfl⟩
 rintro a w ⟨t22, hf, hO, hm⟩
 rw [zcg] at hm
 refine S.co tb ?_ hf hO hm
 refine br rfl (fun hc23 => ?_) fun hc23 => ?_
 refine rw_ rfl fun a w hf hO hm => ?_
 refine zo (vs := [(0, zM 92)]) (cs := [zM 92]) (e := 5) (sz := 1) hf rfl rfl (fun w => by kernel_rfl) rfl rfl hO fun a b24 w hf hO => ?_
 refine S.op tb ?_ hf hO hm
 refine rw_ rfl fun a w hf hO hm => ?_
 obtain ⟨hg27, hm⟩ := og hm
 refine zaA zi8 (enc := zN) (xs := l13) (ys := [92]) (i := 1) (fun _ => rfl) rfl (hO.rowSees (i := 0) rfl) (by simp [cells, zN, Value.oneCell']) hg27 hf rfl rfl rfl hO fun a p25 c26 w hf hO => ?_
 refine S.op tb ?_ hf hO hm
 exact ec [1, 2] rfl rfl rfl fun _ _ j => ⟨p25, c26, l13 ++ [92], j rfl⟩
 exact en rfl fun _ _ j => ⟨p11, c12, l13, j rfl⟩
 rintro a w ⟨p28, c29, l30, hf, hO, hm⟩
 rw [zcf] at hm
 refine S.co tb ?_ hf hO hm
 refine bi rfl fun b31 hb31 => ?_
 refine rw_ rfl fun a w hf hO hm => ?_
 refine zo (vs := [(0, zM b31)]) (cs := [zM b31]) (e := 5) (sz := 1) hf rfl rfl (fun w => by kernel_rfl) rfl rfl hO fun a b32 w hf hO => ?_
 refine S.op tb ?_ hf hO hm
 refine rw_ rfl fun a w hf hO hm => ?_
 obtain ⟨hg35, hm⟩ := og hm
 refine zaA zi8 (enc := zN) (xs := l30) (ys := [b31]) (i := 1) (fun _ => rfl) rfl (hO.rowSees (i := 0) rfl) (by simp [cells, zN, Value.oneCell']) hg35 hf rfl rfl rfl hO fun a p33 c34 w hf hO => ?_
 refine S.op tb ?_ hf hO hm
 refine bi rfl fun i37 hi37 => ?_
 exact ec [1, 2] rfl rfl rfl fun _ _ j => ⟨_, Nat.lt_succ_self _, p33, c34, l30 ++ [b31], i37, j rfl⟩
 refine rw_ rfl fun a w hf hO hm => ?_
 refine zo (vs := [(0, zM 34)]) (cs := [zM 34]) (e := 5) (sz := 1) hf rfl rfl (fun w => by kernel_rfl) rfl rfl hO fun a b39 w hf hO => ?_
 refine S.op tb ?_ hf hO hm
 refine rw_ rfl fun a w hf hO hm => ?_
 obtain ⟨hg42, hm⟩ := og hm
 refine zaA zi8 (enc := zN) (xs := l13) (ys := [34]) (i := 1) (fun _ => rfl) rfl (hO.rowSees (i := 0) rfl) (by simp [cells, zN, Value.oneCell']) hg42 hf rfl rfl rfl hO fun a p40 c41 w hf hO => ?_
 refine S.op tb ?_ hf hO hm
 refine vl rfl rfl (fun a w hf hO => zhr (en := zN) (l := l13 ++ [34]) (fun _ => rfl) Tryz.underlying9 Tryz.underlying159 Tryz.underlying5 (hO.rowSees (i := 1) rfl) hf rfl) ?_
 exact rt Tryz.results123 rfl

theorem zg1 (x_s : Str) (R : Str × Int) (w0 : World) (hG : zA w0) (hm : zdW x_s = some R) :
    Calls Tryz.prog 87 #[str x_s] w0 (Ret w0 (fun R => .tuple #[str R.1, int R.2]) R) := by
 rw [zdW] at hm
 have hF : zI [] := zg
 have hO : Dk.Own w0 [] w0 [] := Dk.Own.refl w0
 refine S.enter tb Tryz.func87 rfl Tryz.ntmps87 rfl ?_ hO hm
 refine cl c_88 rfl (fun r2 w hr2 hO => zfc x_s r2 _ (hG.own hF hO) hr2) fun r2 hr2 => ?_
 refine br rfl (fun hc4 => ?_) fun hc4 => ?_
 exact rt Tryz.results87 rfl
 refine cl c_123 rfl (fun r7 w hr7 hO => zhS x_s r7 _ (hG.own hF hO) hr7) fun r7 hr7 => ?_
 exact rt Tryz.results87 rfl

theorem zie (x_l : List api_Param) (R : Str × Int) (w0 : World) (hG : zA w0) {x_l_p0 : Option Addr} {x_l_c0 : Nat} (hs0 : zL w0 x_l_p0 (cells zb x_l)) (hc0 : x_l.length ≤ x_l_c0) (hm : zeZ x_l = some R) :
    Calls Tryz.prog 52 #[.slice x_l_p0 x_l.length x_l_c0] w0 (Ret w0 (fun R => .tuple #[str R.1, int R.2]) R) := by
 rw [zeZ] at hm
 have hF : zI [] := zg
 have hO : Dk.Own w0 [] w0 [] := Dk.Own.refl w0
 have hO := hO.addShr hs0 (by simp [Res.shared])
 refine S.enter tb Tryz.func52 rfl Tryz.ntmps52 rfl ?_ hO hm
 refine nl 9 1 ?_
 refine lv [9, 10] [1] (fun J E L k => ∃ (p4 : Option Addr) (c5 : Nat) (l6 : List Str) (i7 : Int), J ((4, .slice p4 l6.length c5) :: (11, int i7) :: E) (.row (.slice p4 l6.length c5) 9 1 l6.length (cells zp l6) :: L) (zaQ x_l k l6 i7)) rfl (fun _ _ j => ⟨none, 0, [], 0, j rfl⟩) ?_
 rintro n1 a w ⟨p4, c5, l6, i7, hf, hO, hm⟩
 obtain _ | n1 := n1
 rw [zaQ] at hm
 cases hm
 rw [zaQ] at hm
 refine S.co tb ?_ hf hO hm
 refine br rfl (fun hc9 => ?_) fun hc9 => ?_
 refine rw_ rfl fun a w hf hO hm => ?_
 obtain ⟨x11, hx11, hm⟩ := ob hm
 obtain ⟨b12, o13, hix11, hSx11⟩ := zcV (enc := zb) (sz := 2) (xs := x_l) 49 Tryz.underlying49 zcT (by decide) (fun _ => rfl) (hO.sees (i := 1) rfl) hx11
 refine zaU (zk hix11 hf rfl rfl) rfl hf rfl rfl fun a hf => ?_
 refine S.op tb ?_ hf hO hm
 refine vl rfl rfl (fun a w hf hO => zr (o := 0) (vs := [str x11.Name, str x11.Value]) zgO zcT (hSx11 _ (hO.sees (i := 1) rfl)) rfl rfl hf rfl) ?_
 refine al zjM rfl fun b14 => ?_
 refine st 0 rfl rfl ?_
 refine ld 0 rfl rfl ?_
 refine cl c_87 rfl (fun r16 w hr16 hO => zg1 x11.Value r16 _ (hG.own hF hO) hr16) fun r16 hr16 => ?_
 refine jv 6 [4, 6, 7, 9, 10, 11] [0, 1, 2] (fun J E L => ∃ (t20 : Bool), J ((28, .bool t20) :: E) (L) (zcL (zaQ x_l n1) l6 i7 x11 r16 t20)) rfl ?_ ?_
 refine br rfl (fun hc18 => ?_) fun hc18 => ?_
 exact en rfl fun _ _ j => ⟨true, j rfl⟩
 refine ld 0 rfl rfl ?_
 refine cl c_88 rfl (fun r19 w hr19 hO => zfc x11.Name r19 _ (hG.own hF hO) hr19) fun r19 hr19 => ?_
 exact en rfl fun _ _ j => ⟨!r19, j rfl⟩
 rintro a w ⟨t20, hf, hO, hm⟩
 rw [zcL] at hm
 refine S.co tb ?_ hf hO hm
 refine br rfl (fun hc21 => ?_) fun hc21 => ?_
 exact rt Tryz.results52 rfl
 refine ld 0 rfl rfl ?_
 refine bi rfl fun s24 hs24 => ?_
 refine bi rfl fun s25 hs25 => ?_
 refine rw_ rfl fun a w hf hO hm => ?_
 refine zo (vs := [(0, str s25)]) (cs := [str s25]) (e := 9) (sz := 1) hf rfl rfl (fun w => by kernel_rfl) rfl rfl hO fun a b26 w hf hO => ?_
 refine S.op tb ?_ hf hO hm
 refine rw_ rfl fun a w hf hO hm => ?_
 obtain ⟨hg29, hm⟩ := og hm
 refine zaA zkD (enc := zp) (xs := l6) (ys := ([s25] : List Str)) (i := 2) (fun _ => rfl) rfl (hO.rowSees (i := 0) rfl) (by simp [cells, zp, Value.oneCell']) hg29 hf rfl rfl rfl hO fun a p27 c28 w hf hO => ?_
 refine S.op tb ?_ hf hO hm
 refine bi rfl fun i31 hi31 => ?_
 exact ec [2, 3] rfl rfl rfl fun _ _ j => ⟨_, Nat.lt_succ_self _, p27, c28, l6 ++ ([s25] : List Str), i31, j rfl⟩
 refine br rfl (fun hc34 => ?_) fun hc34 => ?_
 exact rt Tryz.results52 rfl
 refine cl c_53 rfl (fun r37 w hr37 hO => zgd [59] l6 r37 _ (hG.own hF hO) (hO.rowSees (i := 0) rfl) (hO.rowCap (i := 0) rfl) hr37) fun r37 hr37 => ?_
 exact rt Tryz.results52 rfl

theorem zfz (x_env : api_Env) (x_l : List api_Field) (R : List api_Field × Int) (w0 : World) (hG : zbf w0) {x_env_p0 : Option Addr} {x_env_c0 : Nat} (hs0 : zL w0 x_env_p0 (cells za x_env.Domains)) (hc0 : x_env.Domains.length ≤ x_env_c0) {x_env_p1 : Option Addr} {x_env_c1 : Nat} (hs1 : zL w0 x_env_p1 (cells za x_env.Locations)) (hc1 : x_env.Locations.length ≤ x_env_c1) {x_l_p2 : Option Addr} {x_l_c2 : Nat} (hs2 : zL w0 x_l_p2 (cells zd x_l)) (hc2 : x_l.length ≤ x_l_c2) (hm : zc0 x_env x_l = some R) :
    Calls Tryz.prog 29 #[.agg #[str x_env.Client, str x_env.Host, str x_env.Scheme, str x_env.By, .slice x_env_p0 x_env.Domains.length x_env_c0, .slice x_env_p1 x_env.Locations.length x_env_c1], .slice x_l_p2 x_l.length x_l_c2] w0 fun e w' => ∃ (p0 : Option Addr) (c0 : Nat), e = .returned (.tuple #[.slice p0 R.1.length c0, int R.2]) ∧ Dk.Own w0 [] w' [.row (.slice p0 R.1.length c0) 71 2 R.1.length (cells zd R.1)] := by
 rw [zc0] at hm
 have hF : zI [] := zg
 have hO : Dk.Own w0 [] w0 [] := Dk.Own.refl w0
 have hO := hO.addShr hs0 (by simp [Res.shared])
 have hO := hO.addShr hs1 (by simp [Res.shared])
 have hO := hO.addShr hs2 (by simp [Res.shared])
 refine S.enter tb Tryz.func29 rfl Tryz.ntmps29 rfl ?_ hO hm
 refine bo rfl fun b1 => ?_
 refine nl 71 2 ?_
 refine ld 1 rfl rfl ?_
 refine rw_ rfl fun a w hf hO hm => ?_
 obtain ⟨r3, hr3, hm⟩ := ob hm
 refine zw (zn c_19 hf (vs := [.agg #[str x_env.Client, str x_env.Host, str x_env.Scheme, str x_env.By, .slice x_env_p0 x_env.Domains.length x_env_c0, .slice x_env_p1 x_env.Locations.length x_env_c1]]) rfl) rfl hf rfl rfl (zd6 x_env r3 _ (hG.own hF hO) (hO.sees (i := 4) rfl) hc0 (hO.sees (i := 3) rfl) hc1 hr3) ?_
 rintro e w' ⟨p4, c5, he, hO'⟩
 refine ⟨_, he, fun a hf => ?_⟩
 have hO := hO.call hO' (by simp [Res.shared])
 refine S.op tb ?_ hf hO hm
 refine cl c_52 rfl (fun r6 w hr6 hO => zie r3 r6 _ (hG.own hF hO).1 (hO.rowSees (i := 0) rfl) (hO.rowCap (i := 0) rfl) hr6) fun r6 hr6 => ?_
 refine br rfl (fun hc9 => ?_) fun hc9 => ?_
 refine nl 71 2 ?_
 refine re_ rfl fun a w hf hO hm => ?_
 obtain rfl := Option.some.inj hm
 exact zt Tryz.results29 hf (.tmp rfl (.tmp rfl .nil)) ⟨none, 0, rfl, (hO.sub (.cons_cons _ (.cons _ (.cons _ (.cons _ (.cons _ (.cons _ (.cons _ .slnil))))))))⟩
 refine rw_ rfl fun a w hf hO hm => ?_
 obtain ⟨r12, hr12, hm⟩ := ob hm
 refine zw (zn c_32 hf (vs := [.slice x_l_p2 x_l.length x_l_c2]) rfl) rfl hf rfl rfl (zld x_l r12 _ (hG.own hF hO).1 (hO.sees (i := 3) rfl) hc2 hr12) ?_
 rintro e w' ⟨b13, p14, c15, he, hO'⟩
 refine ⟨_, he, fun a hf => ?_⟩
 have hO := hO.call hO' (by simp [Res.shared])
 refine S.op tb ?_ hf hO hm
 refine rw_ rfl fun a w hf hO hm => ?_
 obtain ⟨r17, hr17, hm⟩ := ob hm
 have hch20 := (show Dk.Own w0 [] _ ([.blk b13 [.slice p14 r12.f_l.length c15] 100, .row (.slice p14 r12.f_l.length c15) 71 2 r12.f_l.length (cells zd r12.f_l)] ++ [.row (.slice p4 r3.length c5) 57 2 r3.length (cells zb r3), .row (.slice none 0 0) 71 2 0 (cells zd []), .blk b1 [str x_env.Client, str x_env.Host, str x_env.Scheme, str x_env.By, .slice x_env_p0 x_env.Domains.length x_env_c0, .slice x_env_p1 x_env.Locations.length x_env_c1] 47, .shr x_l_p2 (cells zd x_l), .shr x_env_p1 (cells za x_env.Locations), .shr x_env_p0 (cells za x_env.Domains)]) from hO)
 have hfar20 := Dk.Own.far hch20 rfl hF hG.size
 have hlend20 := hch20.lend (S := []) rfl trivial
 have hcl20 := zgG r12 [70, 111, 114, 119, 97, 114, 100, 101, 100] r6.1 r17 _ (hG.own hF hO).1 hfar20 hlend20 hr17
 refine zw (zn c_33 hf (vs := [ptr b13 0, str [70, 111, 114, 119, 97, 114, 100, 101, 100], str r6.1]) rfl) rfl hf rfl rfl (hcl20) ?_
 rintro e w' ⟨p18, c19, he, hO'⟩
 refine ⟨_, he, fun a hf => ?_⟩
 have hO := hch20.back rfl hO' rfl
 refine S.op tb ?_ hf hO hm
 refine rw_ rfl fun a w hf hO hm => ?_
 obtain ⟨r22, hr22, hm⟩ := ob hm
 refine zw (zn c_34 hf (vs := [ptr b13 0]) rfl) rfl hf rfl rfl (zhp r17 r22 _ (hG.own hF hO).1 (hO.blkSees (i := 0) rfl) (hO.rowSees (i := 1) rfl) (hO.rowCap (i := 1) rfl) hr22) ?_
 rintro e w' ⟨p23, c24, he, hO'⟩
 refine ⟨_, he, fun a hf => ?_⟩
 have hO := hO.call hO' (by simp [Res.shared])
 refine S.op tb ?_ hf hO hm
 refine re_ rfl fun a w hf hO hm => ?_
 obtain rfl := Option.some.inj hm
 exact zt Tryz.results29 hf (.tmp rfl (.tmp rfl .nil)) ⟨p23, c24, rfl, (hO.sub (.cons_cons _ (.cons _ (.cons _ (.cons _ (.cons _ (.cons _ (.cons _ (.cons _ (.cons _ .slnil))))))))))⟩

theorem zif (R : Bool) (w0 : World) (hG : zbf w0) (hm : zdQ = some R) :
    Calls Tryz.prog 17 #[] w0 (Ret w0 (fun R => .bool R) R) := by
 rw [zdQ] at hm
 have hF : zI [] := zg
 have hO : Dk.Own w0 [] w0 [] := Dk.Own.refl w0
 refine S.enter tb Tryz.func17 rfl Tryz.ntmps17 rfl ?_ hO hm
 refine vl rfl rfl (fun a w hf hO => zai (vs := [(0, str [58, 58, 49]), (1, str [97, 58, 56, 48]), (2, str [104, 116, 116, 112])]) (v := .agg #[str [58, 58, 49], str [97, 58, 56, 48], str [104, 116, 116, 112], str [], .slice none 0 0, .slice none 0 0]) hf rfl (by kernel_rfl)) ?_
 refine rw_ rfl fun a w hf hO hm => ?_
 obtain ⟨r2, hr2, hm⟩ := ob hm
 refine zw (zn c_29 hf (vs := [.agg #[str [58, 58, 49], str [97, 58, 56, 48], str [104, 116, 116, 112], str [], .slice none 0 0, .slice none 0 0], .slice none 0 0]) rfl) rfl hf rfl rfl (zfz (⟨[58, 58, 49], [97, 58, 56, 48], [104, 116, 116, 112], [], [], []⟩ : api_Env) [] r2 _ (hG.own hF hO) (zL.nil _) (Nat.zero_le _) (zL.nil _) (Nat.zero_le _) (zL.nil _) (Nat.zero_le _) hr2) ?_
 rintro e w' ⟨p3, c4, he, hO'⟩
 refine ⟨_, he, fun a hf => ?_⟩
 have hO := hO.call hO' (by simp [Res.shared])
 refine S.op tb ?_ hf hO hm
 refine jv 0 [] [0] (fun J E L => ∃ (t9 : Bool), J ((0, .bool t9) :: E) (L) (zcM t9)) rfl ?_ ?_
 refine br rfl (fun hc6 => ?_) fun hc6 => ?_
 refine vl rfl rfl (fun a w hf hO => zai (vs := [(0, str [70, 111, 114, 119, 97, 114, 100, 101, 100]), (1, str [102, 111, 114, 61, 34, 91, 58, 58, 49, 93, 34, 59, 104, 111, 115, 116, 61, 34, 97, 58, 56, 48, 34, 59, 112, 114, 111, 116, 111, 61, 104, 116, 116, 112])]) (v := .agg #[str [70, 111, 114, 119, 97, 114, 100, 101, 100], str [102, 111, 114, 61, 34, 91, 58, 58, 49, 93, 34, 59, 104, 111, 115, 116, 61, 34, 97, 58, 56, 48, 34, 59, 112, 114, 111, 116, 111, 61, 104, 116, 116, 112]]) hf rfl (by kernel_rfl)) ?_
 refine rw_ rfl fun a w hf hO hm => ?_
 refine zo (vs := [(0, .agg #[str [70, 111, 114, 119, 97, 114, 100, 101, 100], str [102, 111, 114, 61, 34, 91, 58, 58, 49, 93, 34, 59, 104, 111, 115, 116, 61, 34, 97, 58, 56, 48, 34, 59, 112, 114, 111, 116, 111, 61, 104, 116, 116, 112]])]) (cs := [str [70, 111, 114, 119, 97, 114, 100, 101, 100], str [102, 111, 114, 61, 34, 91, 58, 58, 49, 93, 34, 59, 104, 111, 115, 116, 61, 34, 97, 58, 56, 48, 34, 59, 112, 114, 111, 116, 111, 61, 104, 116, 116, 112]]) (e := 71) (sz := 2) hf rfl rfl (fun w => by kernel_rfl) rfl rfl hO fun a b7 w hf hO => ?_
 refine S.op tb ?_ hf hO hm
 refine kn (b' := true) hc6 rfl ?_
 refine cl c_12 rfl (fun r8 w hr8 hO => zjl r2.1 ([(⟨[70, 111, 114, 119, 97, 114, 100, 101, 100], [102, 111, 114, 61, 34, 91, 58, 58, 49, 93, 34, 59, 104, 111, 115, 116, 61, 34, 97, 58, 56, 48, 34, 59, 112, 114, 111, 116, 111, 61, 104, 116, 116, 112]⟩ : api_Field)]) r8 _ (hG.own hF hO).1 (hO.rowSees (i := 1) rfl) (hO.rowCap (i := 1) rfl) (hO.rowSees (i := 0) rfl) (hO.rowCap (i := 0) rfl) hr8) fun r8 hr8 => ?_
 exact ec [1] rfl rfl rfl fun _ _ j => ⟨r8, j rfl⟩
 exact en rfl fun _ _ j => ⟨false, j rfl⟩
 rintro a w ⟨t9, hf, hO, hm⟩
 rw [zcM] at hm
 refine S.co tb ?_ hf hO hm
 exact rt Tryz.results17 rfl

theorem zf9 (x_x : api_Swap) (R : api_Swap) (w0 : World) (hG : zA w0) (hm : zc1 x_x = some R) :
    Calls Tryz.prog 40 #[.agg #[str x_x.From, str x_x.To]] w0 (Ret w0 (fun R => .agg #[str R.From, str R.To]) R) := by
 rw [zc1] at hm
 have hF : zI [] := zg
 have hO : Dk.Own w0 [] w0 [] := Dk.Own.refl w0
 refine S.enter tb Tryz.func40 rfl Tryz.ntmps40 rfl ?_ hO hm
 refine bo rfl fun b1 => ?_
 refine al al_87 rfl fun b2 => ?_
 refine rc_ rfl fun a w hf hO hm => ?_
 obtain ⟨s4, hs4, hm⟩ := ob hm
 obtain ⟨s5, hs5, hm⟩ := ob hm
 refine zdX (S := Unit) (E0 := [(1, ptr b1 0), (2, ptr b2 0)]) (by kernel_rfl) (fun k σ w => match k with | 0 => Dk.Own w0 [] w [.blk b2 [str [], str []] 87, .blk b1 [str x_x.From, str x_x.To] 87] | _ => Dk.Own w0 [] w [.blk b2 [str s4, str s5] 87, .blk b1 [str x_x.From, str x_x.To] 87]) (fun σ => [⟨[(1, ptr b1 0)], some (3, ptr b1 0)⟩, ⟨[(3, ptr b1 0)], some (4, str x_x.From)⟩, ⟨[(1, ptr b1 0)], some (5, ptr b1 0)⟩, ⟨[(5, ptr b1 0)], some (6, str x_x.From)⟩, ⟨[(6, str x_x.From)], some (7, int (x_x.From.length : Int))⟩, ⟨[(7, int (x_x.From.length : Int))], some (8, int (min (x_x.From.length : Int) 60))⟩, ⟨[(4, str x_x.From), (8, int (min (x_x.From.length : Int) 60))], some (9, str s4)⟩, ⟨[(1, ptr b1 0)], some (10, ptr b1 1)⟩, ⟨[(10, ptr b1 1)], some (11, str x_x.To)⟩, ⟨[(1, ptr b1 0)], some (12, ptr b1 1)⟩, ⟨[(12, ptr b1 1)], some (13, str x_x.To)⟩, ⟨[(13, str x_x.To)], some (14, int (x_x.To.length : Int))⟩, ⟨[(14, int (x_x.To.length : Int))], some (15, int (min (x_x.To.length : Int) 60))⟩, ⟨[(11, str x_x.To), (15, int (min (x_x.To.length : Int) 60))], some (16, str s5)⟩, ⟨[(9, str s4), (16, str s5)], some (17, .agg #[str s4, str s5])⟩, ⟨[(2, ptr b2 0), (17, .agg #[str s4, str s5])], none⟩]) () [15] rfl (fun _ => rfl) (fun _ => rfl) (fun _ => rfl) rfl rfl (by decide) rfl hO.drew (hf.cons rfl (hf.cons rfl hf.nil)) (fun σ => ⟨⟨rfl, trivial⟩, ⟨rfl, trivial⟩, ⟨rfl, trivial⟩, ⟨rfl, trivial⟩, ⟨rfl, trivial⟩, ⟨rfl, trivial⟩, ⟨rfl, rfl, trivial⟩, ⟨rfl, trivial⟩, ⟨rfl, trivial⟩, ⟨rfl, trivial⟩, ⟨rfl, trivial⟩, ⟨rfl, trivial⟩, ⟨rfl, trivial⟩, ⟨rfl, rfl, trivial⟩, ⟨rfl, rfl, trivial⟩, ⟨rfl, rfl, trivial⟩, trivial⟩) ⟨zc rfl (fun σ => rfl) (fun σ => rfl) (fun σ a w k _ _ _ _ hf => zC zja hf rfl), zc rfl (fun σ => rfl) (fun σ => rfl) (fun σ a w k hk hlo hup hst hf => match k, hk, hlo, hup, hst, hf with | 0, _, _, _, hst, hf => have hO : Dk.Own w0 [] w _ := hst; ze (o := 0) zV (hO.blkSees (i := 1) rfl) rfl hf rfl | 1, _, _, _, hst, hf => have hO : Dk.Own w0 [] w _ := hst; ze (o := 0) zV (hO.blkSees (i := 1) rfl) rfl hf rfl | k + 2, hk, _, _, _, _ => absurd hk (by simp)), zc rfl (fun σ => rfl) (fun σ => rfl) (fun σ a w k _ _ _ _ hf => zC zja hf rfl), zc rfl (fun σ => rfl) (fun σ => rfl) (fun σ a w k hk hlo hup hst hf => match k, hk, hlo, hup, hst, hf with | 0, _, _, _, hst, hf => have hO : Dk.Own w0 [] w _ := hst; ze (o := 0) zV (hO.blkSees (i := 1) rfl) rfl hf rfl | 1, _, _, _, hst, hf => have hO : Dk.Own w0 [] w _ := hst; ze (o := 0) zV (hO.blkSees (i := 1) rfl) rfl hf rfl | k + 2, hk, _, _, _, _ => absurd hk (by simp)), zc rfl (fun σ => rfl) (fun σ => rfl) (fun σ a w k _ _ _ _ hf => zfT (l := x_x.From) Tryz.underlying9 hf rfl), zc rfl (fun σ => rfl) (fun σ => rfl) (fun σ a w k _ _ _ _ hf => zko (m := (x_x.From.length : Int)) (n := 60) hf rfl rfl), zc rfl (fun σ => rfl) (fun σ => rfl) (fun σ a w k _ _ _ _ hf => zg7 (l := x_x.From) Tryz.underlying9 hf rfl rfl hs4), zc rfl (fun σ => rfl) (fun σ => rfl) (fun σ a w k _ _ _ _ hf => zC zjb hf rfl), zc rfl (fun σ => rfl) (fun σ => rfl) (fun σ a w k hk hlo hup hst hf => match k, hk, hlo, hup, hst, hf with | 0, _, _, _, hst, hf => have hO : Dk.Own w0 [] w _ := hst; ze (o := 1) zV (hO.blkSees (i := 1) rfl) rfl hf rfl | 1, _, _, _, hst, hf => have hO : Dk.Own w0 [] w _ := hst; ze (o := 1) zV (hO.blkSees (i := 1) rfl) rfl hf rfl | k + 2, hk, _, _, _, _ => absurd hk (by simp)), zc rfl (fun σ => rfl) (fun σ => rfl) (fun σ a w k _ _ _ _ hf => zC zjb hf rfl), zc rfl (fun σ => rfl) (fun σ => rfl) (fun σ a w k hk hlo hup hst hf => match k, hk, hlo, hup, hst, hf with | 0, _, _, _, hst, hf => have hO : Dk.Own w0 [] w _ := hst; ze (o := 1) zV (hO.blkSees (i := 1) rfl) rfl hf rfl | 1, _, _, _, hst, hf => have hO : Dk.Own w0 [] w _ := hst; ze (o := 1) zV (hO.blkSees (i := 1) rfl) rfl hf rfl | k + 2, hk, _, _, _, _ => absurd hk (by simp)), zc rfl (fun σ => rfl) (fun σ => rfl) (fun σ a w k _ _ _ _ hf => zfT (l := x_x.To) Tryz.underlying9 hf rfl), zc rfl (fun σ => rfl) (fun σ => rfl) (fun σ a w k _ _ _ _ hf => zko (m := (x_x.To.length : Int)) (n := 60) hf rfl rfl), zc rfl (fun σ => rfl) (fun σ => rfl) (fun σ a w k _ _ _ _ hf => zg7 (l := x_x.To) Tryz.underlying9 hf rfl rfl hs5), zc rfl (fun σ => rfl) (fun σ => rfl) (fun σ a w k _ _ _ _ hf => zai (vs := [(0, str s4), (1, str s5)]) (v := .agg #[str s4, str s5]) hf rfl (by kernel_rfl)), zfG rfl (fun σ => rfl) (fun σ => rfl) rfl (fun σ w (hO : Dk.Own w0 [] w _) => by obtain ⟨w', hO', hr⟩ := zkM (x := (.tmp 2)) (y := (.tmp 17)) (E := [(2, ptr b2 0), (17, .agg #[str s4, str s5])]) (i := 0) (n := 2) (vs := [str s4, str s5]) zdM rfl rfl rfl (by simp [Value.oneCell']) hO rfl rfl; exact ⟨(), w', hO', ⟨.inr rfl, .inr rfl, .inr rfl, .inr rfl, .inr rfl, .inr rfl, .inr rfl, .inr rfl, .inr rfl, .inr rfl, .inr rfl, .inr rfl, .inr rfl, .inr rfl, .inr rfl, .inr rfl, trivial⟩, hr⟩), trivial⟩ ?_
 rintro _ a w hf hO
 have hO : Dk.Own w0 [] w _ := hO
 have hf : Fits 18 [(2, ptr b2 0)] a := (hf.cons rfl hf.nil)
 refine S.no tb ?_ hf hO hm
 refine re_ rfl fun a w hf hO hm => ?_
 obtain rfl := Option.some.inj hm
 exact zt Tryz.results40 hf (.cell rfl (zcw (n := 2) (vs := [str s4, str s5]) zeS zdM rfl ((hO.blkSees (i := 0) rfl).cells (o := 0) (n := 2) rfl)) .nil) ⟨rfl, hO.below⟩

theorem zjW (x_a0 : api_Env) (R : api_Env) (w0 : World) (hG : zA w0) {x_a0_p0 : Option Addr} {x_a0_c0 : Nat} (hs0 : zL w0 x_a0_p0 (cells za x_a0.Domains)) (hc0 : x_a0.Domains.length ≤ x_a0_c0) {x_a0_p1 : Option Addr} {x_a0_c1 : Nat} (hs1 : zL w0 x_a0_p1 (cells za x_a0.Locations)) (hc1 : x_a0.Locations.length ≤ x_a0_c1) (hm : zeb x_a0 = some R) :
    Calls Tryz.prog 18 #[.agg #[str x_a0.Client, str x_a0.Host, str x_a0.Scheme, str x_a0.By, .slice x_a0_p0 x_a0.Domains.length x_a0_c0, .slice x_a0_p1 x_a0.Locations.length x_a0_c1]] w0 fun e w' => ∃ (p0 : Option Addr) (c0 : Nat) (p1 : Option Addr) (c1 : Nat), e = .returned (.agg #[str R.Client, str R.Host, str R.Scheme, str R.By, .slice p0 R.Domains.length c0, .slice p1 R.Locations.length c1]) ∧ Dk.Own w0 [] w' [.row (.slice p0 R.Domains.length c0) 87 2 R.Domains.length (cells za R.Domains), .row (.slice p1 R.Locations.length c1) 87 2 R.Locations.length (cells za R.Locations)] := by
 rw [zeb] at hm
 have hF : zI [] := zg
 have hO : Dk.Own w0 [] w0 [] := Dk.Own.refl w0
 have hO := hO.addShr hs0 (by simp [Res.shared])
 have hO := hO.addShr hs1 (by simp [Res.shared])
 refine S.enter tb Tryz.func18 rfl Tryz.ntmps18 rfl ?_ hO hm
 refine bo rfl fun b1 => ?_
 refine al al_47 rfl fun b2 => ?_
 refine nl 87 2 ?_
 refine nl 87 2 ?_
 refine ld 3 rfl rfl ?_
 refine ld 3 rfl rfl ?_
 refine ld 3 rfl rfl ?_
 refine ld 3 rfl rfl ?_
 refine vl rfl rfl (fun a w hf hO => zai (vs := [(0, str x_a0.Client), (1, str x_a0.Host), (2, str x_a0.Scheme), (3, str x_a0.By)]) (v := .agg #[str x_a0.Client, str x_a0.Host, str x_a0.Scheme, str x_a0.By]) hf rfl (by kernel_rfl)) ?_
 refine al al_70 rfl fun b4 => ?_
 refine st 0 rfl rfl ?_
 refine jv 0 [1, 2, 3] [1, 2, 3, 4, 5, 6] (fun J E L => ∃ (s22 : Str) (s23 : Str) (s24 : Str) (s25 : Str), J (E) (.blk b4 [str s22, str s23, str s24, str s25] 70 :: L) (zdp x_a0 s22 s23 s24 s25)) rfl ?_ ?_
 refine lv [1, 2, 3] [1, 2, 3, 4, 5, 6] (fun J E L k => ∃ (s7 : Str) (s8 : Str) (s9 : Str) (s10 : Str) (i11 : Int), J ((4, int i11) :: E) (.blk b4 [str s7, str s8, str s9, str s10] 70 :: L) (zar x_a0 k s7 s8 s9 s10 i11)) rfl (fun _ _ j => ⟨x_a0.Client, x_a0.Host, x_a0.Scheme, x_a0.By, 0, j rfl⟩) ?_
 rintro n1 a w ⟨s7, s8, s9, s10, i11, hf, hO, hm⟩
 obtain _ | n1 := n1
 rw [zar] at hm
 cases hm
 rw [zar] at hm
 refine S.co tb ?_ hf hO hm
 refine br rfl (fun hc13 => ?_) fun hc13 => ?_
 refine rc_ rfl fun a w hf hO hm => ?_
 obtain ⟨x15, hx15, hm⟩ := ob hm
 have hAx15 := ziY (n := 4) (b := b4) (xs := [s7, s8, s9, s10]) (m := i11) 70 Tryz.underlying70 zf6 rfl hx15
 obtain ⟨x16, hx16, hm⟩ := ob hm
 have hAx16 := ziY (n := 4) (b := b4) (xs := [s7, s8, s9, s10]) (m := i11) 70 Tryz.underlying70 zf6 rfl hx16
 obtain ⟨s17, hs17, hm⟩ := ob hm
 obtain ⟨x18, hx18, hm⟩ := ob hm
 have hAx18 := ziY (n := 4) (b := b4) (xs := [s7, s8, s9, s10]) (m := i11) 70 Tryz.underlying70 zf6 rfl hx18
 obtain ⟨r19, hr19, hm⟩ := ob hm
 refine zdX (S := Unit) (E0 := [(1, ptr b1 0), (2, ptr b2 0), (3, ptr b4 0), (4, int i11)]) (by kernel_rfl) (fun k σ w => match k with | 0 => Dk.Own w0 [] w [.blk b4 [str s7, str s8, str s9, str s10] 70, .row (.slice none 0 0) 87 2 0 (cells za []), .row (.slice none 0 0) 87 2 0 (cells za []), .blk b2 [str [], str [], str [], str [], .slice none 0 0, .slice none 0 0] 47, .blk b1 [str x_a0.Client, str x_a0.Host, str x_a0.Scheme, str x_a0.By, .slice x_a0_p0 x_a0.Domains.length x_a0_c0, .slice x_a0_p1 x_a0.Locations.length x_a0_c1] 47, .shr x_a0_p1 (cells za x_a0.Locations), .shr x_a0_p0 (cells za x_a0.Domains)] | _ => Dk.Own w0 [] w [.blk b4 [str r19.1, str r19.2.1, str r19.2.2.1, str r19.2.2.2] 70, .row (.slice none 0 0) 87 2 0 (cells za []), .row (.slice none 0 0) 87 2 0 (cells za []), .blk b2 [str [], str [], str [], str [], .slice none 0 0, .slice none 0 0] 47, .blk b1 [str x_a0.Client, str x_a0.Host, str x_a0.Scheme, str x_a0.By, .slice x_a0_p0 x_a0.Domains.length x_a0_c0, .slice x_a0_p1 x_a0.Locations.length x_a0_c1] 47, .shr x_a0_p1 (cells za x_a0.Locations), .shr x_a0_p0 (cells za x_a0.Domains)]) (fun σ => [⟨[(4, int i11)], some (21, int i11)⟩, ⟨[(4, int i11)], some (22, int i11)⟩, ⟨[(3, ptr b4 0), (22, int i11)], some (23, ptr b4 i11.toNat)⟩, ⟨[(23, ptr b4 i11.toNat)], some (24, str x15)⟩, ⟨[(4, int i11)], some (25, int i11)⟩, ⟨[(3, ptr b4 0), (25, int i11)], some (26, ptr b4 i11.toNat)⟩, ⟨[(26, ptr b4 i11.toNat)], some (27, str x16)⟩, ⟨[(27, str x16)], some (28, int (x16.length : Int))⟩, ⟨[(28, int (x16.length : Int))], some (29, int (min (x16.length : Int) 60))⟩, ⟨[(24, str x15), (29, int (min (x16.length : Int) 60))], some (30, str s17)⟩, ⟨[(3, ptr b4 0), (21, int i11)], some (31, ptr b4 i11.toNat)⟩, ⟨[(30, str s17), (31, ptr b4 i11.toNat)], none⟩]) () [11] rfl (fun _ => rfl) (fun _ => rfl) (fun _ => rfl) rfl rfl (by decide) rfl hO.drew (hf.cons rfl (hf.cons rfl (hf.cons rfl (hf.cons rfl hf.nil)))) (fun σ => ⟨⟨rfl, trivial⟩, ⟨rfl, trivial⟩, ⟨rfl, rfl, trivial⟩, ⟨rfl, trivial⟩, ⟨rfl, trivial⟩, ⟨rfl, rfl, trivial⟩, ⟨rfl, trivial⟩, ⟨rfl, trivial⟩, ⟨rfl, trivial⟩, ⟨rfl, rfl, trivial⟩, ⟨rfl, rfl, trivial⟩, ⟨rfl, rfl, trivial⟩, trivial⟩) ⟨zc rfl (fun σ => rfl) (fun σ => rfl) (fun σ a w k _ _ _ _ hf => zh hf rfl), zc rfl (fun σ => rfl) (fun σ => rfl) (fun σ a w k _ _ _ _ hf => zh hf rfl), zc rfl (fun σ => rfl) (fun σ => rfl) (fun σ a w k _ _ _ _ hf => zba hAx15.1 hf rfl rfl), zc rfl (fun σ => rfl) (fun σ => rfl) (fun σ a w k hk hlo hup hst hf => match k, hk, hlo, hup, hst, hf with | 0, _, _, _, hst, hf => have hO : Dk.Own w0 [] w _ := hst; ze (o := 0) zV ((fun w h => hAx15.2 w h) _ (hO.blkSees (i := 0) rfl)) rfl hf rfl | 1, _, _, hup, _, _ => absurd (hup 0 (by decide) (by kernel_rfl)) (by decide) | k + 2, hk, _, _, _, _ => absurd hk (by simp)), zc rfl (fun σ => rfl) (fun σ => rfl) (fun σ a w k _ _ _ _ hf => zh hf rfl), zc rfl (fun σ => rfl) (fun σ => rfl) (fun σ a w k _ _ _ _ hf => zba hAx16.1 hf rfl rfl), zc rfl (fun σ => rfl) (fun σ => rfl) (fun σ a w k hk hlo hup hst hf => match k, hk, hlo, hup, hst, hf with | 0, _, _, _, hst, hf => have hO : Dk.Own w0 [] w _ := hst; ze (o := 0) zV ((fun w h => hAx16.2 w h) _ (hO.blkSees (i := 0) rfl)) rfl hf rfl | 1, _, _, hup, _, _ => absurd (hup 0 (by decide) (by kernel_rfl)) (by decide) | k + 2, hk, _, _, _, _ => absurd hk (by simp)), zc rfl (fun σ => rfl) (fun σ => rfl) (fun σ a w k _ _ _ _ hf => zfT (l := x16) Tryz.underlying9 hf rfl), zc rfl (fun σ => rfl) (fun σ => rfl) (fun σ a w k _ _ _ _ hf => zko (m := (x16.length : Int)) (n := 60) hf rfl rfl), zc rfl (fun σ => rfl) (fun σ => rfl) (fun σ a w k _ _ _ _ hf => zg7 (l := x15) Tryz.underlying9 hf rfl rfl hs17), zc rfl (fun σ => rfl) (fun σ => rfl) (fun σ a w k _ _ _ _ hf => zba hAx18.1 hf rfl rfl), zfG rfl (fun σ => rfl) (fun σ => rfl) rfl (fun σ w (hO : Dk.Own w0 [] w _) => by obtain ⟨w', hO', hr⟩ := zjA (x := (.tmp 31)) (y := (.tmp 30)) (E := [(30, str s17), (31, ptr b4 i11.toNat)]) (i := 0) (xs := [s7, s8, s9, s10]) (ys := [r19.1, r19.2.1, r19.2.2.1, r19.2.2.2]) (m := i11) (v := s17) zf6 rfl (zkN hr19) hO rfl rfl; exact ⟨(), w', hO', ⟨.inr rfl, .inr rfl, .inr rfl, .inr rfl, .inr rfl, .inr rfl, .inr rfl, .inr rfl, .inr rfl, .inr rfl, .inr rfl, .inr rfl, trivial⟩, hr⟩), trivial⟩ ?_
 rintro _ a w hf hO
 have hO : Dk.Own w0 [] w _ := hO
 have hf : Fits 86 [(1, ptr b1 0), (2, ptr b2 0), (3, ptr b4 0), (4, int i11)] a := (hf.cons rfl (hf.cons rfl (hf.cons rfl (hf.cons rfl hf.nil))))
 refine S.no tb ?_ hf hO hm
 refine bi rfl fun i21 hi21 => ?_
 exact en rfl fun _ _ j => ⟨_, Nat.lt_succ_self _, r19.1, r19.2.1, r19.2.2.1, r19.2.2.2, i21, j rfl⟩
 exact en rfl fun _ _ j => ⟨s7, s8, s9, s10, j rfl⟩
 rintro a w ⟨s22, s23, s24, s25, hf, hO, hm⟩
 rw [zdp] at hm
 refine S.co tb ?_ hf hO hm
 refine rw_ rfl fun a w hf hO hm => ?_
 refine zaU (zba (zmF _) hf rfl rfl) rfl hf rfl rfl fun a hf => ?_
 refine S.op tb ?_ hf hO hm
 refine ld 0 rfl rfl ?_
 refine rw_ rfl fun a w hf hO hm => ?_
 refine zaU (zba (zmG _) hf rfl rfl) rfl hf rfl rfl fun a hf => ?_
 refine S.op tb ?_ hf hO hm
 refine ld 0 rfl rfl ?_
 refine rw_ rfl fun a w hf hO hm => ?_
 refine zaU (zba (zmH _) hf rfl rfl) rfl hf rfl rfl fun a hf => ?_
 refine S.op tb ?_ hf hO hm
 refine ld 0 rfl rfl ?_
 refine rw_ rfl fun a w hf hO hm => ?_
 refine zaU (zba (zmI _) hf rfl rfl) rfl hf rfl rfl fun a hf => ?_
 refine S.op tb ?_ hf hO hm
 refine ld 0 rfl rfl ?_
 refine vl rfl rfl (fun a w hf hO => zai (vs := [(0, str s22), (1, str s23), (2, str s24), (3, str s25)]) (v := .agg #[str s22, str s23, str s24, str s25, .slice none 0 0, .slice none 0 0]) hf rfl (by kernel_rfl)) ?_
 refine al al_47 rfl fun b26 => ?_
 refine nl 87 2 ?_
 refine nl 87 2 ?_
 refine st 2 rfl rfl ?_
 refine nl 87 2 ?_
 refine nl 87 2 ?_
 refine jv 0 [1, 2, 5] [2, 3, 5, 6, 7, 8, 9, 10, 11] (fun J E L => ∃ (s54 : Str) (s55 : Str) (s56 : Str) (s57 : Str) (p58 : Option Addr) (c59 : Nat) (l60 : List api_Swap) (p61 : Option Addr) (c62 : Nat) (l63 : List api_Swap), J (E) (.row (.slice p61 l63.length c62) 87 2 l63.length (cells za l63) :: .row (.slice p58 l60.length c59) 87 2 l60.length (cells za l60) :: .blk b26 [str s54, str s55, str s56, str s57, .slice p58 l60.length c59, .slice p61 l63.length c62] 47 :: L) (zdo x_a0 s54 s55 s56 s57 l60 l63)) rfl ?_ ?_
 refine ch [0, 1, 4, 2, 3, 5, 6, 7, 8, 9, 10, 11] rfl rfl ?_
 refine lv [1, 2, 5] [3, 4, 5, 6, 7, 8, 9, 10, 11] (fun J E L k => ∃ (p29 : Option Addr) (c30 : Nat) (l31 : List api_Swap) (s32 : Str) (s33 : Str) (s34 : Str) (s35 : Str) (p36 : Option Addr) (c37 : Nat) (l38 : List api_Swap) (i39 : Int), J ((6, int i39) :: E) (.row (.slice p36 l38.length c37) 87 2 l38.length (cells za l38) :: .row (.slice p29 l31.length c30) 87 2 l31.length (cells za l31) :: .blk b26 [str s32, str s33, str s34, str s35, .slice p29 l31.length c30, .slice p36 l38.length c37] 47 :: L) (zaJ x_a0 k l31 s32 s33 s34 s35 l38 i39)) rfl (fun _ _ j => ⟨none, 0, [], s22, s23, s24, s25, none, 0, [], 0, j rfl⟩) ?_
 rintro n3 a w ⟨p29, c30, l31, s32, s33, s34, s35, p36, c37, l38, i39, hf, hO, hm⟩
 obtain _ | n3 := n3
 rw [zaJ] at hm
 cases hm
 rw [zaJ] at hm
 refine S.co tb ?_ hf hO hm
 refine jv 4 [1, 2, 5, 6] [0, 1, 2, 3, 4, 5, 6, 7, 8, 9, 10, 11] (fun J E L => ∃ (t41 : Bool), J ((49, .bool t41) :: E) (L) (zcO (zaJ x_a0 n3) x_a0 l31 s32 s33 s34 s35 l38 i39 t41)) rfl ?_ ?_
 refine ld 9 rfl rfl ?_
 refine br rfl (fun hc40 => ?_) fun hc40 => ?_
 exact en rfl fun _ _ j => ⟨decide (i39 < 6), j rfl⟩
 exact en rfl fun _ _ j => ⟨false, j rfl⟩
 rintro a w ⟨t41, hf, hO, hm⟩
 rw [zcO] at hm
 refine S.co tb ?_ hf hO hm
 refine br rfl (fun hc42 => ?_) fun hc42 => ?_
 refine rc_ rfl fun a w hf hO hm => ?_
 obtain ⟨x44, hx44, hm⟩ := ob hm
 obtain ⟨b45, o46, hix44, hSx44⟩ := zcV (enc := za) (sz := 2) (xs := x_a0.Domains) 45 Tryz.underlying45 zdM (by decide) (fun _ => rfl) (hO.sees (i := 11) rfl) hx44
 obtain ⟨r47, hr47, hm⟩ := ob hm
 obtain ⟨hg51, hm⟩ := og hm
 refine zdX (S := Nat × Option Addr × Nat) (E0 := [(1, ptr b1 0), (2, ptr b2 0), (5, ptr b26 0), (6, int i39)]) (by kernel_rfl) (fun k σ w => match k with | 0 => Dk.Own w0 [] w [.row (.slice p36 l38.length c37) 87 2 l38.length (cells za l38), .row (.slice p29 l31.length c30) 87 2 l31.length (cells za l31), .blk b26 [str s32, str s33, str s34, str s35, .slice p29 l31.length c30, .slice p36 l38.length c37] 47, .row (.slice none 0 0) 87 2 0 (cells za []), .row (.slice none 0 0) 87 2 0 (cells za []), .blk b4 [str s22, str s23, str s24, str s25] 70, .row (.slice none 0 0) 87 2 0 (cells za []), .row (.slice none 0 0) 87 2 0 (cells za []), .blk b2 [str [], str [], str [], str [], .slice none 0 0, .slice none 0 0] 47, .blk b1 [str x_a0.Client, str x_a0.Host, str x_a0.Scheme, str x_a0.By, .slice x_a0_p0 x_a0.Domains.length x_a0_c0, .slice x_a0_p1 x_a0.Locations.length x_a0_c1] 47, .shr x_a0_p1 (cells za x_a0.Locations), .shr x_a0_p0 (cells za x_a0.Domains)] | 1 => Dk.Own w0 [] w [.row (.slice p36 l38.length c37) 87 2 l38.length (cells za l38), .row (.slice p29 l31.length c30) 87 2 l31.length (cells za l31), .blk b26 [str s32, str s33, str s34, str s35, .slice p29 l31.length c30, .slice p36 l38.length c37] 47, .row (.slice none 0 0) 87 2 0 (cells za []), .row (.slice none 0 0) 87 2 0 (cells za []), .blk b4 [str s22, str s23, str s24, str s25] 70, .row (.slice none 0 0) 87 2 0 (cells za []), .row (.slice none 0 0) 87 2 0 (cells za []), .blk b2 [str [], str [], str [], str [], .slice none 0 0, .slice none 0 0] 47, .blk b1 [str x_a0.Client, str x_a0.Host, str x_a0.Scheme, str x_a0.By, .slice x_a0_p0 x_a0.Domains.length x_a0_c0, .slice x_a0_p1 x_a0.Locations.length x_a0_c1] 47, .shr x_a0_p1 (cells za x_a0.Locations), .shr x_a0_p0 (cells za x_a0.Domains)] | 2 => Dk.Own w0 [] w [.row (.slice (some ⟨(σ.1), 0, none⟩) ([r47].length) 1) 87 2 ([r47].length) (cells za [r47]), .row (.slice p36 l38.length c37) 87 2 l38.length (cells za l38), .row (.slice p29 l31.length c30) 87 2 l31.length (cells za l31), .blk b26 [str s32, str s33, str s34, str s35, .slice p29 l31.length c30, .slice p36 l38.length c37] 47, .row (.slice none 0 0) 87 2 0 (cells za []), .row (.slice none 0 0) 87 2 0 (cells za []), .blk b4 [str s22, str s23, str s24, str s25] 70, .row (.slice none 0 0) 87 2 0 (cells za []), .row (.slice none 0 0) 87 2 0 (cells za []), .blk b2 [str [], str [], str [], str [], .slice none 0 0, .slice none 0 0] 47, .blk b1 [str x_a0.Client, str x_a0.Host, str x_a0.Scheme, str x_a0.By, .slice x_a0_p0 x_a0.Domains.length x_a0_c0, .slice x_a0_p1 x_a0.Locations.length x_a0_c1] 47, .shr x_a0_p1 (cells za x_a0.Locations), .shr x_a0_p0 (cells za x_a0.Domains)] | 3 => Dk.Own w0 [] w [.row (.slice (some ⟨(σ.1), 0, none⟩) ([r47].length) 1) 87 2 ([r47].length) (cells za [r47]), .row (.slice p36 l38.length c37) 87 2 l38.length (cells za l38), .row (.slice (σ.2.1) ((l31 ++ [r47]).length) (σ.2.2)) 87 2 ((l31 ++ [r47]).length) (cells za (l31 ++ [r47])), .blk b26 [str s32, str s33, str s34, str s35, .slice p29 l31.length c30, .slice p36 l38.length c37] 47, .row (.slice none 0 0) 87 2 0 (cells za []), .row (.slice none 0 0) 87 2 0 (cells za []), .blk b4 [str s22, str s23, str s24, str s25] 70, .row (.slice none 0 0) 87 2 0 (cells za []), .row (.slice none 0 0) 87 2 0 (cells za []), .blk b2 [str [], str [], str [], str [], .slice none 0 0, .slice none 0 0] 47, .blk b1 [str x_a0.Client, str x_a0.Host, str x_a0.Scheme, str x_a0.By, .slice x_a0_p0 x_a0.Domains.length x_a0_c0, .slice x_a0_p1 x_a0.Locations.length x_a0_c1] 47, .shr x_a0_p1 (cells za x_a0.Locations), .shr x_a0_p0 (cells za x_a0.Domains)] | _ => Dk.Own w0 [] w [.row (.slice (some ⟨(σ.1), 0, none⟩) ([r47].length) 1) 87 2 ([r47].length) (cells za [r47]), .row (.slice p36 l38.length c37) 87 2 l38.length (cells za l38), .row (.slice (σ.2.1) ((l31 ++ [r47]).length) (σ.2.2)) 87 2 ((l31 ++ [r47]).length) (cells za (l31 ++ [r47])), .blk b26 [str s32, str s33, str s34, str s35, .slice (σ.2.1) ((l31 ++ [r47]).length) (σ.2.2), .slice p36 l38.length c37] 47, .row (.slice none 0 0) 87 2 0 (cells za []), .row (.slice none 0 0) 87 2 0 (cells za []), .blk b4 [str s22, str s23, str s24, str s25] 70, .row (.slice none 0 0) 87 2 0 (cells za []), .row (.slice none 0 0) 87 2 0 (cells za []), .blk b2 [str [], str [], str [], str [], .slice none 0 0, .slice none 0 0] 47, .blk b1 [str x_a0.Client, str x_a0.Host, str x_a0.Scheme, str x_a0.By, .slice x_a0_p0 x_a0.Domains.length x_a0_c0, .slice x_a0_p1 x_a0.Locations.length x_a0_c1] 47, .shr x_a0_p1 (cells za x_a0.Locations), .shr x_a0_p0 (cells za x_a0.Domains)]) (fun σ => [⟨[(5, ptr b26 0)], some (52, ptr b26 4)⟩, ⟨[(52, ptr b26 4)], some (53, .slice p29 l31.length c30)⟩, ⟨[(1, ptr b1 0)], some (54, ptr b1 4)⟩, ⟨[(54, ptr b1 4)], some (55, .slice x_a0_p0 x_a0.Domains.length x_a0_c0)⟩, ⟨[(6, int i39)], some (56, int i39)⟩, ⟨[(55, .slice x_a0_p0 x_a0.Domains.length x_a0_c0), (56, int i39)], some (57, ptr b45 o46)⟩, ⟨[(57, ptr b45 o46)], some (58, .agg #[str x44.From, str x44.To])⟩, ⟨[(58, .agg #[str x44.From, str x44.To])], some (59, .agg #[str r47.From, str r47.To])⟩, ⟨[(59, .agg #[str r47.From, str r47.To])], some (60, .slice (some ⟨(σ.1), 0, none⟩) ([r47].length) 1)⟩, ⟨[(53, .slice p29 l31.length c30), (60, .slice (some ⟨(σ.1), 0, none⟩) ([r47].length) 1)], some (61, .slice (σ.2.1) ((l31 ++ [r47]).length) (σ.2.2))⟩, ⟨[(5, ptr b26 0)], some (62, ptr b26 4)⟩, ⟨[(61, .slice (σ.2.1) ((l31 ++ [r47]).length) (σ.2.2)), (62, ptr b26 4)], none⟩]) (0, none, 0) [7, 8, 9, 11] rfl (fun _ => rfl) (fun _ => rfl) (fun _ => rfl) rfl rfl (by decide) rfl hO.drew (hf.cons rfl (hf.cons rfl (hf.cons rfl (hf.cons rfl hf.nil)))) (fun σ => ⟨⟨rfl, trivial⟩, ⟨rfl, trivial⟩, ⟨rfl, trivial⟩, ⟨rfl, trivial⟩, ⟨rfl, trivial⟩, ⟨rfl, rfl, trivial⟩, ⟨rfl, trivial⟩, ⟨rfl, trivial⟩, ⟨rfl, trivial⟩, ⟨rfl, rfl, trivial⟩, ⟨rfl, trivial⟩, ⟨rfl, rfl, trivial⟩, trivial⟩) ⟨zc rfl (fun σ => rfl) (fun σ => rfl) (fun σ a w k _ _ _ _ hf => zC zg8 hf rfl), zc rfl (fun σ => rfl) (fun σ => rfl) (fun σ a w k hk hlo hup hst hf => match k, hk, hlo, hup, hst, hf with | 0, _, _, _, hst, hf => have hO : Dk.Own w0 [] w _ := hst; ze (o := 4) zcA (hO.blkSees (i := 2) rfl) rfl hf rfl | 1, _, _, _, hst, hf => have hO : Dk.Own w0 [] w _ := hst; ze (o := 4) zcA (hO.blkSees (i := 2) rfl) rfl hf rfl | 2, _, _, _, hst, hf => have hO : Dk.Own w0 [] w _ := hst; ze (o := 4) zcA (hO.blkSees (i := 3) rfl) rfl hf rfl | 3, _, _, _, hst, hf => have hO : Dk.Own w0 [] w _ := hst; ze (o := 4) zcA (hO.blkSees (i := 3) rfl) rfl hf rfl | 4, _, _, hup, _, _ => absurd (hup 2 (by decide) (by kernel_rfl)) (by decide) | k + 5, hk, _, _, _, _ => absurd hk (by simp)), zc rfl (fun σ => rfl) (fun σ => rfl) (fun σ a w k _ _ _ _ hf => zC zg8 hf rfl), zc rfl (fun σ => rfl) (fun σ => rfl) (fun σ a w k hk hlo hup hst hf => match k, hk, hlo, hup, hst, hf with | 0, _, _, _, hst, hf => have hO : Dk.Own w0 [] w _ := hst; ze (o := 4) zcA (hO.blkSees (i := 9) rfl) rfl hf rfl | 1, _, _, _, hst, hf => have hO : Dk.Own w0 [] w _ := hst; ze (o := 4) zcA (hO.blkSees (i := 9) rfl) rfl hf rfl | 2, _, _, _, hst, hf => have hO : Dk.Own w0 [] w _ := hst; ze (o := 4) zcA (hO.blkSees (i := 10) rfl) rfl hf rfl | 3, _, _, _, hst, hf => have hO : Dk.Own w0 [] w _ := hst; ze (o := 4) zcA (hO.blkSees (i := 10) rfl) rfl hf rfl | 4, _, _, _, hst, hf => have hO : Dk.Own w0 [] w _ := hst; ze (o := 4) zcA (hO.blkSees (i := 10) rfl) rfl hf rfl | k + 5, hk, _, _, _, _ => absurd hk (by simp)), zc rfl (fun σ => rfl) (fun σ => rfl) (fun σ a w k _ _ _ _ hf => zh hf rfl), zc rfl (fun σ => rfl) (fun σ => rfl) (fun σ a w k _ _ _ _ hf => zk hix44 hf rfl rfl), zc rfl (fun σ => rfl) (fun σ => rfl) (fun σ a w k hk hlo hup hst hf => match k, hk, hlo, hup, hst, hf with | 0, _, _, _, hst, hf => have hO : Dk.Own w0 [] w _ := hst; zr (o := 0) (vs := [str x44.From, str x44.To]) zeS zdM (hSx44 _ (hO.sees (i := 11) rfl)) rfl rfl hf rfl | 1, _, _, _, hst, hf => have hO : Dk.Own w0 [] w _ := hst; zr (o := 0) (vs := [str x44.From, str x44.To]) zeS zdM (hSx44 _ (hO.sees (i := 11) rfl)) rfl rfl hf rfl | 2, _, _, _, hst, hf => have hO : Dk.Own w0 [] w _ := hst; zr (o := 0) (vs := [str x44.From, str x44.To]) zeS zdM (hSx44 _ (hO.sees (i := 12) rfl)) rfl rfl hf rfl | 3, _, _, _, hst, hf => have hO : Dk.Own w0 [] w _ := hst; zr (o := 0) (vs := [str x44.From, str x44.To]) zeS zdM (hSx44 _ (hO.sees (i := 12) rfl)) rfl rfl hf rfl | 4, _, _, _, hst, hf => have hO : Dk.Own w0 [] w _ := hst; zr (o := 0) (vs := [str x44.From, str x44.To]) zeS zdM (hSx44 _ (hO.sees (i := 12) rfl)) rfl rfl hf rfl | k + 5, hk, _, _, _, _ => absurd hk (by simp)), zaS rfl (fun σ => rfl) (fun σ => rfl) rfl (fun σ a w (_ : _) hf => zn c_40 hf (vs := [.agg #[str x44.From, str x44.To]]) rfl) (fun σ w (hO : Dk.Own w0 [] w _) => (zf9 x44 r47 _ (hG.own hF hO) hr47).mono fun e w' h => by obtain ⟨he, hb⟩ := h; exact ⟨((σ.1), (σ.2.1), (σ.2.2)), he, hO.grow hb, .inr rfl, .inr rfl, .inr rfl, .inr rfl, .inr rfl, .inr rfl, .inr rfl, .inr rfl, .inr rfl, .inr rfl, .inr rfl, .inr rfl, trivial⟩), zhd rfl (fun σ => rfl) (fun σ => rfl) rfl (fun σ w (hO : Dk.Own w0 [] w _) => by obtain ⟨b48, w', hO', hr⟩ := zdS (E := [(59, .agg #[str r47.From, str r47.To])]) (parts := #[(0, (.tmp 59))]) (t' := 45) (n := 1) (vs := [(0, .agg #[str r47.From, str r47.To])]) (cs := [str r47.From, str r47.To]) (e := 87) (sz := 2) (fun w => by kernel_rfl) rfl rfl hO rfl; exact ⟨(b48, (σ.2.1), (σ.2.2)), w', hO', ⟨.inr rfl, .inr rfl, .inr rfl, .inr rfl, .inr rfl, .inr rfl, .inr rfl, .inr rfl, .inl rfl, .inl rfl, .inr rfl, .inr rfl, trivial⟩, hr⟩), zhd rfl (fun σ => rfl) (fun σ => rfl) rfl (fun σ w (hO : Dk.Own w0 [] w _) => by obtain ⟨p49, c50, w', hO', hr⟩ := zir (E := [(53, .slice p29 l31.length c30), (60, .slice (some ⟨(σ.1), 0, none⟩) ([r47].length) 1)]) (x := (.tmp 53)) (y := (.tmp 60)) el_45 (enc := za) (xs := l31) (ys := [r47]) (i := 2) (fun _ => rfl) rfl (hO.rowSees (i := 0) rfl) (by simp [cells, za, Value.oneCell']) hg51 hO rfl rfl; exact ⟨((σ.1), p49, c50), w', hO', ⟨.inr rfl, .inr rfl, .inr rfl, .inr rfl, .inr rfl, .inr rfl, .inr rfl, .inr rfl, .inr rfl, .inl rfl, .inr rfl, .inl rfl, trivial⟩, hr⟩), zc rfl (fun σ => rfl) (fun σ => rfl) (fun σ a w k _ _ _ _ hf => zC zg8 hf rfl), zfG rfl (fun σ => rfl) (fun σ => rfl) rfl (fun σ w (hO : Dk.Own w0 [] w _) => by obtain ⟨w', hO', hr⟩ := zgm (x := (.tmp 62)) (y := (.tmp 61)) (E := [(61, .slice (σ.2.1) ((l31 ++ [r47]).length) (σ.2.2)), (62, ptr b26 4)]) (i := 3) (o := 4) (v := .slice (σ.2.1) ((l31 ++ [r47]).length) (σ.2.2)) sz_45 rfl rfl rfl rfl hO rfl rfl; exact ⟨((σ.1), (σ.2.1), (σ.2.2)), w', hO', ⟨.inr rfl, .inr rfl, .inr rfl, .inr rfl, .inr rfl, .inr rfl, .inr rfl, .inr rfl, .inr rfl, .inr rfl, .inr rfl, .inr rfl, trivial⟩, hr⟩), trivial⟩ ?_
 rintro ⟨b48, p49, c50⟩ a w hf hO
 have hO : Dk.Own w0 [] w _ := hO
 have hf : Fits 86 [(1, ptr b1 0), (2, ptr b2 0), (5, ptr b26 0), (6, int i39)] a := (hf.cons rfl (hf.cons rfl (hf.cons rfl (hf.cons rfl hf.nil))))
 refine S.no tb ?_ hf hO hm
 refine bi rfl fun i53 hi53 => ?_
 exact ec [1, 2, 3, 4, 5, 6, 7, 8, 9, 10, 11, 12] rfl rfl rfl fun _ _ j => ⟨_, Nat.lt_succ_self _, p49, c50, l31 ++ [r47], s32, s33, s34, s35, p36, c37, l38, i53, j rfl⟩
 exact en rfl fun _ _ j => ⟨s32, s33, s34, s35, p29, c30, l31, p36, c37, l38, j rfl⟩
 rintro a w ⟨s54, s55, s56, s57, p58, c59, l60, p61, c62, l63, hf, hO, hm⟩
 rw [zdo] at hm
 refine S.co tb ?_ hf hO hm
 refine jv 0 [2, 5] [3, 4, 5, 6, 7, 8, 9, 10, 11] (fun J E L => ∃ (s90 : Str) (s91 : Str) (s92 : Str) (s93 : Str) (p94 : Option Addr) (c95 : Nat) (l96 : List api_Swap) (p97 : Option Addr) (c98 : Nat) (l99 : List api_Swap), J (E) (.row (.slice p97 l99.length c98) 87 2 l99.length (cells za l99) :: .row (.slice p94 l96.length c95) 87 2 l96.length (cells za l96) :: .blk b26 [str s90, str s91, str s92, str s93, .slice p94 l96.length c95, .slice p97 l99.length c98] 47 :: L) (zdn s90 s91 s92 s93 l96 l99)) rfl ?_ ?_
 refine lv [1, 2, 5] [3, 4, 5, 6, 7, 8, 9, 10, 11] (fun J E L k => ∃ (p65 : Option Addr) (c66 : Nat) (l67 : List api_Swap) (s68 : Str) (s69 : Str) (s70 : Str) (s71 : Str) (p72 : Option Addr) (c73 : Nat) (l74 : List api_Swap) (i75 : Int), J ((7, int i75) :: E) (.row (.slice p65 l67.length c66) 87 2 l67.length (cells za l67) :: .row (.slice p72 l74.length c73) 87 2 l74.length (cells za l74) :: .blk b26 [str s68, str s69, str s70, str s71, .slice p72 l74.length c73, .slice p65 l67.length c66] 47 :: L) (zaq x_a0 k l67 s68 s69 s70 s71 l74 i75)) rfl (fun _ _ j => ⟨p61, c62, l63, s54, s55, s56, s57, p58, c59, l60, 0, j rfl⟩) ?_
 rintro n6 a w ⟨p65, c66, l67, s68, s69, s70, s71, p72, c73, l74, i75, hf, hO, hm⟩
 obtain _ | n6 := n6
 rw [zaq] at hm
 cases hm
 rw [zaq] at hm
 refine S.co tb ?_ hf hO hm
 refine jv 4 [1, 2, 5, 7] [0, 1, 2, 3, 4, 5, 6, 7, 8, 9, 10, 11] (fun J E L => ∃ (t77 : Bool), J ((71, .bool t77) :: E) (L) (zcN (zaq x_a0 n6) x_a0 l67 s68 s69 s70 s71 l74 i75 t77)) rfl ?_ ?_
 refine ld 9 rfl rfl ?_
 refine br rfl (fun hc76 => ?_) fun hc76 => ?_
 exact en rfl fun _ _ j => ⟨decide (i75 < 6), j rfl⟩
 exact en rfl fun _ _ j => ⟨false, j rfl⟩
 rintro a w ⟨t77, hf, hO, hm⟩
 rw [zcN] at hm
 refine S.co tb ?_ hf hO hm
 refine br rfl (fun hc78 => ?_) fun hc78 => ?_
 refine rc_ rfl fun a w hf hO hm => ?_
 obtain ⟨x80, hx80, hm⟩ := ob hm
 obtain ⟨b81, o82, hix80, hSx80⟩ := zcV (enc := za) (sz := 2) (xs := x_a0.Locations) 45 Tryz.underlying45 zdM (by decide) (fun _ => rfl) (hO.sees (i := 10) rfl) hx80
 obtain ⟨r83, hr83, hm⟩ := ob hm
 obtain ⟨hg87, hm⟩ := og hm
 refine zdX (S := Nat × Option Addr × Nat) (E0 := [(1, ptr b1 0), (2, ptr b2 0), (5, ptr b26 0), (7, int i75)]) (by kernel_rfl) (fun k σ w => match k with | 0 => Dk.Own w0 [] w [.row (.slice p65 l67.length c66) 87 2 l67.length (cells za l67), .row (.slice p72 l74.length c73) 87 2 l74.length (cells za l74), .blk b26 [str s68, str s69, str s70, str s71, .slice p72 l74.length c73, .slice p65 l67.length c66] 47, .row (.slice none 0 0) 87 2 0 (cells za []), .row (.slice none 0 0) 87 2 0 (cells za []), .blk b4 [str s22, str s23, str s24, str s25] 70, .row (.slice none 0 0) 87 2 0 (cells za []), .row (.slice none 0 0) 87 2 0 (cells za []), .blk b2 [str [], str [], str [], str [], .slice none 0 0, .slice none 0 0] 47, .blk b1 [str x_a0.Client, str x_a0.Host, str x_a0.Scheme, str x_a0.By, .slice x_a0_p0 x_a0.Domains.length x_a0_c0, .slice x_a0_p1 x_a0.Locations.length x_a0_c1] 47, .shr x_a0_p1 (cells za x_a0.Locations), .shr x_a0_p0 (cells za x_a0.Domains)] | 1 => Dk.Own w0 [] w [.row (.slice p65 l67.length c66) 87 2 l67.length (cells za l67), .row (.slice p72 l74.length c73) 87 2 l74.length (cells za l74), .blk b26 [str s68, str s69, str s70, str s71, .slice p72 l74.length c73, .slice p65 l67.length c66] 47, .row (.slice none 0 0) 87 2 0 (cells za []), .row (.slice none 0 0) 87 2 0 (cells za []), .blk b4 [str s22, str s23, str s24, str s25] 70, .row (.slice none 0 0) 87 2 0 (cells za []), .row (.slice none 0 0) 87 2 0 (cells za []), .blk b2 [str [], str [], str [], str [], .slice none 0 0, .slice none 0 0] 47, .blk b1 [str x_a0.Client, str x_a0.Host, str x_a0.Scheme, str x_a0.By, .slice x_a0_p0 x_a0.Domains.length x_a0_c0, .slice x_a0_p1 x_a0.Locations.length x_a0_c1] 47, .shr x_a0_p1 (cells za x_a0.Locations), .shr x_a0_p0 (cells za x_a0.Domains)] | 2 => Dk.Own w0 [] w [.row (.slice (some ⟨(σ.1), 0, none⟩) ([r83].length) 1) 87 2 ([r83].length) (cells za [r83]), .row (.slice p65 l67.length c66) 87 2 l67.length (cells za l67), .row (.slice p72 l74.length c73) 87 2 l74.length (cells za l74), .blk b26 [str s68, str s69, str s70, str s71, .slice p72 l74.length c73, .slice p65 l67.length c66] 47, .row (.slice none 0 0) 87 2 0 (cells za []), .row (.slice none 0 0) 87 2 0 (cells za []), .blk b4 [str s22, str s23, str s24, str s25] 70, .row (.slice none 0 0) 87 2 0 (cells za []), .row (.slice none 0 0) 87 2 0 (cells za []), .blk b2 [str [], str [], str [], str [], .slice none 0 0, .slice none 0 0] 47, .blk b1 [str x_a0.Client, str x_a0.Host, str x_a0.Scheme, str x_a0.By, .slice x_a0_p0 x_a0.Domains.length x_a0_c0, .slice x_a0_p1 x_a0.Locations.length x_a0_c1] 47, .shr x_a0_p1 (cells za x_a0.Locations), .shr x_a0_p0 (cells za x_a0.Domains)] | 3 => Dk.Own w0 [] w [.row (.slice (some ⟨(σ.1), 0, none⟩) ([r83].length) 1) 87 2 ([r83].length) (cells za [r83]), .row (.slice (σ.2.1) ((l67 ++ [r83]).length) (σ.2.2)) 87 2 ((l67 ++ [r83]).length) (cells za (l67 ++ [r83])), .row (.slice p72 l74.length c73) 87 2 l74.length (cells za l74), .blk b26 [str s68, str s69, str s70, str s71, .slice p72 l74.length c73, .slice p65 l67.length c66] 47, .row (.slice none 0 0) 87 2 0 (cells za []), .row (.slice none 0 0) 87 2 0 (cells za []), .blk b4 [str s22, str s23, str s24, str s25] 70, .row (.slice none 0 0) 87 2 0 (cells za []), .row (.slice none 0 0) 87 2 0 (cells za []), .blk b2 [str [], str [], str [], str [], .slice none 0 0, .slice none 0 0] 47, .blk b1 [str x_a0.Client, str x_a0.Host, str x_a0.Scheme, str x_a0.By, .slice x_a0_p0 x_a0.Domains.length x_a0_c0, .slice x_a0_p1 x_a0.Locations.length x_a0_c1] 47, .shr x_a0_p1 (cells za x_a0.Locations), .shr x_a0_p0 (cells za x_a0.Domains)] | _ => Dk.Own w0 [] w [.row (.slice (some ⟨(σ.1), 0, none⟩) ([r83].length) 1) 87 2 ([r83].length) (cells za [r83]), .row (.slice (σ.2.1) ((l67 ++ [r83]).length) (σ.2.2)) 87 2 ((l67 ++ [r83]).length) (cells za (l67 ++ [r83])), .row (.slice p72 l74.length c73) 87 2 l74.length (cells za l74), .blk b26 [str s68, str s69, str s70, str s71, .slice p72 l74.length c73, .slice (σ.2.1) ((l67 ++ [r83]).length) (σ.2.2)] 47, .row (.slice none 0 0) 87 2 0 (cells za []), .row (.slice none 0 0) 87 2 0 (cells za []), .blk b4 [str s22, str s23, str s24, str s25] 70, .row (.slice none 0 0) 87 2 0 (cells za []), .row (.slice none 0 0) 87 2 0 (cells za []), .blk b2 [str [], str [], str [], str [], .slice none 0 0, .slice none 0 0] 47, .blk b1 [str x_a0.Client, str x_a0.Host, str x_a0.Scheme, str x_a0.By, .slice x_a0_p0 x_a0.Domains.length x_a0_c0, .slice x_a0_p1 x_a0.Locations.length x_a0_c1] 47, .shr x_a0_p1 (cells za x_a0.Locations), .shr x_a0_p0 (cells za x_a0.Domains)]) (fun σ => [⟨[(5, ptr b26 0)], some (74, ptr b26 5)⟩, ⟨[(74, ptr b26 5)], some (75, .slice p65 l67.length c66)⟩, ⟨[(1, ptr b1 0)], some (76, ptr b1 5)⟩, ⟨[(76, ptr b1 5)], some (77, .slice x_a0_p1 x_a0.Locations.length x_a0_c1)⟩, ⟨[(7, int i75)], some (78, int i75)⟩, ⟨[(77, .slice x_a0_p1 x_a0.Locations.length x_a0_c1), (78, int i75)], some (79, ptr b81 o82)⟩, ⟨[(79, ptr b81 o82)], some (80, .agg #[str x80.From, str x80.To])⟩, ⟨[(80, .agg #[str x80.From, str x80.To])], some (81, .agg #[str r83.From, str r83.To])⟩, ⟨[(81, .agg #[str r83.From, str r83.To])], some (82, .slice (some ⟨(σ.1), 0, none⟩) ([r83].length) 1)⟩, ⟨[(75, .slice p65 l67.length c66), (82, .slice (some ⟨(σ.1), 0, none⟩) ([r83].length) 1)], some (83, .slice (σ.2.1) ((l67 ++ [r83]).length) (σ.2.2))⟩, ⟨[(5, ptr b26 0)], some (84, ptr b26 5)⟩, ⟨[(83, .slice (σ.2.1) ((l67 ++ [r83]).length) (σ.2.2)), (84, ptr b26 5)], none⟩]) (0, none, 0) [7, 8, 9, 11] rfl (fun _ => rfl) (fun _ => rfl) (fun _ => rfl) rfl rfl (by decide) rfl hO.drew (hf.cons rfl (hf.cons rfl (hf.cons rfl (hf.cons rfl hf.nil)))) (fun σ => ⟨⟨rfl, trivial⟩, ⟨rfl, trivial⟩, ⟨rfl, trivial⟩, ⟨rfl, trivial⟩, ⟨rfl, trivial⟩, ⟨rfl, rfl, trivial⟩, ⟨rfl, trivial⟩, ⟨rfl, trivial⟩, ⟨rfl, trivial⟩, ⟨rfl, rfl, trivial⟩, ⟨rfl, trivial⟩, ⟨rfl, rfl, trivial⟩, trivial⟩) ⟨zc rfl (fun σ => rfl) (fun σ => rfl) (fun σ a w k _ _ _ _ hf => zC zg9 hf rfl), zc rfl (fun σ => rfl) (fun σ => rfl) (fun σ a w k hk hlo hup hst hf => match k, hk, hlo, hup, hst, hf with | 0, _, _, _, hst, hf => have hO : Dk.Own w0 [] w _ := hst; ze (o := 5) zcA (hO.blkSees (i := 2) rfl) rfl hf rfl | 1, _, _, _, hst, hf => have hO : Dk.Own w0 [] w _ := hst; ze (o := 5) zcA (hO.blkSees (i := 2) rfl) rfl hf rfl | 2, _, _, _, hst, hf => have hO : Dk.Own w0 [] w _ := hst; ze (o := 5) zcA (hO.blkSees (i := 3) rfl) rfl hf rfl | 3, _, _, _, hst, hf => have hO : Dk.Own w0 [] w _ := hst; ze (o := 5) zcA (hO.blkSees (i := 3) rfl) rfl hf rfl | 4, _, _, hup, _, _ => absurd (hup 2 (by decide) (by kernel_rfl)) (by decide) | k + 5, hk, _, _, _, _ => absurd hk (by simp)), zc rfl (fun σ => rfl) (fun σ => rfl) (fun σ a w k _ _ _ _ hf => zC zg9 hf rfl), zc rfl (fun σ => rfl) (fun σ => rfl) (fun σ a w k hk hlo hup hst hf => match k, hk, hlo, hup, hst, hf with | 0, _, _, _, hst, hf => have hO : Dk.Own w0 [] w _ := hst; ze (o := 5) zcA (hO.blkSees (i := 9) rfl) rfl hf rfl | 1, _, _, _, hst, hf => have hO : Dk.Own w0 [] w _ := hst; ze (o := 5) zcA (hO.blkSees (i := 9) rfl) rfl hf rfl | 2, _, _, _, hst, hf => have hO : Dk.Own w0 [] w _ := hst; ze (o := 5) zcA (hO.blkSees (i := 10) rfl) rfl hf rfl | 3, _, _, _, hst, hf => have hO : Dk.Own w0 [] w _ := hst; ze (o := 5) zcA (hO.blkSees (i := 10) rfl) rfl hf rfl | 4, _, _, _, hst, hf => have hO : Dk.Own w0 [] w _ := hst; ze (o := 5) zcA (hO.blkSees (i := 10) rfl) rfl hf rfl | k + 5, hk, _, _, _, _ => absurd hk (by simp)), zc rfl (fun σ => rfl) (fun σ => rfl) (fun σ a w k _ _ _ _ hf => zh hf rfl), zc rfl (fun σ => rfl) (fun σ => rfl) (fun σ a w k _ _ _ _ hf => zk hix80 hf rfl rfl), zc rfl (fun σ => rfl) (fun σ => rfl) (fun σ a w k hk hlo hup hst hf => match k, hk, hlo, hup, hst, hf with | 0, _, _, _, hst, hf => have hO : Dk.Own w0 [] w _ := hst; zr (o := 0) (vs := [str x80.From, str x80.To]) zeS zdM (hSx80 _ (hO.sees (i := 10) rfl)) rfl rfl hf rfl | 1, _, _, _, hst, hf => have hO : Dk.Own w0 [] w _ := hst; zr (o := 0) (vs := [str x80.From, str x80.To]) zeS zdM (hSx80 _ (hO.sees (i := 10) rfl)) rfl rfl hf rfl | 2, _, _, _, hst, hf => have hO : Dk.Own w0 [] w _ := hst; zr (o := 0) (vs := [str x80.From, str x80.To]) zeS zdM (hSx80 _ (hO.sees (i := 11) rfl)) rfl rfl hf rfl | 3, _, _, _, hst, hf => have hO : Dk.Own w0 [] w _ := hst; zr (o := 0) (vs := [str x80.From, str x80.To]) zeS zdM (hSx80 _ (hO.sees (i := 11) rfl)) rfl rfl hf rfl | 4, _, _, _, hst, hf => have hO : Dk.Own w0 [] w _ := hst; zr (o := 0) (vs := [str x80.From, str x80.To]) zeS zdM (hSx80 _ (hO.sees (i := 11) rfl)) rfl rfl hf rfl | k + 5, hk, _, _, _, _ => absurd hk (by simp)), zaS rfl (fun σ => rfl) (fun σ => rfl) rfl (fun σ a w (_ : _) hf => zn c_40 hf (vs := [.agg #[str x80.From, str x80.To]]) rfl) (fun σ w (hO : Dk.Own w0 [] w _) => (zf9 x80 r83 _ (hG.own hF hO) hr83).mono fun e w' h => by obtain ⟨he, hb⟩ := h; exact ⟨((σ.1), (σ.2.1), (σ.2.2)), he, hO.grow hb, .inr rfl, .inr rfl, .inr rfl, .inr rfl, .inr rfl, .inr rfl, .inr rfl, .inr rfl, .inr rfl, .inr rfl, .inr rfl, .inr rfl, trivial⟩), zhd rfl (fun σ => rfl) (fun σ => rfl) rfl (fun σ w (hO : Dk.Own w0 [] w _) => by obtain ⟨b84, w', hO', hr⟩ := zdS (E := [(81, .agg #[str r83.From, str r83.To])]) (parts := #[(0, (.tmp 81))]) (t' := 45) (n := 1) (vs := [(0, .agg #[str r83.From, str r83.To])]) (cs := [str r83.From, str r83.To]) (e := 87) (sz := 2) (fun w => by kernel_rfl) rfl rfl hO rfl; exact ⟨(b84, (σ.2.1), (σ.2.2)), w', hO', ⟨.inr rfl, .inr rfl, .inr rfl, .inr rfl, .inr rfl, .inr rfl, .inr rfl, .inr rfl, .inl rfl, .inl rfl, .inr rfl, .inr rfl, trivial⟩, hr⟩), zhd rfl (fun σ => rfl) (fun σ => rfl) rfl (fun σ w (hO : Dk.Own w0 [] w _) => by obtain ⟨p85, c86, w', hO', hr⟩ := zir (E := [(75, .slice p65 l67.length c66), (82, .slice (some ⟨(σ.1), 0, none⟩) ([r83].length) 1)]) (x := (.tmp 75)) (y := (.tmp 82)) el_45 (enc := za) (xs := l67) (ys := [r83]) (i := 1) (fun _ => rfl) rfl (hO.rowSees (i := 0) rfl) (by simp [cells, za, Value.oneCell']) hg87 hO rfl rfl; exact ⟨((σ.1), p85, c86), w', hO', ⟨.inr rfl, .inr rfl, .inr rfl, .inr rfl, .inr rfl, .inr rfl, .inr rfl, .inr rfl, .inr rfl, .inl rfl, .inr rfl, .inl rfl, trivial⟩, hr⟩), zc rfl (fun σ => rfl) (fun σ => rfl) (fun σ a w k _ _ _ _ hf => zC zg9 hf rfl), zfG rfl (fun σ => rfl) (fun σ => rfl) rfl (fun σ w (hO : Dk.Own w0 [] w _) => by obtain ⟨w', hO', hr⟩ := zgm (x := (.tmp 84)) (y := (.tmp 83)) (E := [(83, .slice (σ.2.1) ((l67 ++ [r83]).length) (σ.2.2)), (84, ptr b26 5)]) (i := 3) (o := 5) (v := .slice (σ.2.1) ((l67 ++ [r83]).length) (σ.2.2)) sz_45 rfl rfl rfl rfl hO rfl rfl; exact ⟨((σ.1), (σ.2.1), (σ.2.2)), w', hO', ⟨.inr rfl, .inr rfl, .inr rfl, .inr rfl, .inr rfl, .inr rfl, .inr rfl, .inr rfl, .inr rfl, .inr rfl, .inr rfl, .inr rfl, trivial⟩, hr⟩), trivial⟩ ?_
 rintro ⟨b84, p85, c86⟩ a w hf hO
 have hO : Dk.Own w0 [] w _ := hO
 have hf : Fits 86 [(1, ptr b1 0), (2, ptr b2 0), (5, ptr b26 0), (7, int i75)] a := (hf.cons rfl (hf.cons rfl (hf.cons rfl (hf.cons rfl hf.nil))))
 refine S.no tb ?_ hf hO hm
 refine bi rfl fun i89 hi89 => ?_
 exact ec [1, 2, 3, 4, 5, 6, 7, 8, 9, 10, 11, 12] rfl rfl rfl fun _ _ j => ⟨_, Nat.lt_succ_self _, p85, c86, l67 ++ [r83], s68, s69, s70, s71, p72, c73, l74, i89, j rfl⟩
 exact en rfl fun _ _ j => ⟨s68, s69, s70, s71, p72, c73, l74, p65, c66, l67, j rfl⟩
 rintro a w ⟨s90, s91, s92, s93, p94, c95, l96, p97, c98, l99, hf, hO, hm⟩
 rw [zdn] at hm
 refine S.co tb ?_ hf hO hm
 refine ld 2 rfl rfl ?_
 refine st 8 rfl rfl ?_
 refine re_ rfl fun a w hf hO hm => ?_
 obtain rfl := Option.some.inj hm
 exact zt Tryz.results18 hf (.cell rfl (zcw (n := 6) (vs := [str s90, str s91, str s92, str s93, .slice p94 l96.length c95, .slice p97 l99.length c98]) zb1 zb2 rfl ((hO.blkSees (i := 8) rfl).cells (o := 0) (n := 6) rfl)) .nil) ⟨p94, c95, p97, c98, rfl, (hO.choose [1, 0] rfl)⟩

theorem zig (x_s : Str) (R : Str × Int) (w0 : World) (hG : zA w0) (hm : zdR x_s = some R) :
    Calls Tryz.prog 73 #[str x_s] w0 (Ret w0 (fun R => .tuple #[str R.1, int R.2]) R) := by
 rw [zdR] at hm
 have hF : zI [] := zg
 have hO : Dk.Own w0 [] w0 [] := Dk.Own.refl w0
 refine S.enter tb Tryz.func73 rfl Tryz.ntmps73 rfl ?_ hO hm
 refine lv [0] [] (fun J E L k => ∃ (s4 : Str) (i5 : Int), J ((4, str s4) :: (5, int i5) :: E) (L) (zG x_s k s4 i5)) rfl (fun _ _ j => ⟨[34], 0, j rfl⟩) ?_
 rintro n1 a w ⟨s4, i5, hf, hO, hm⟩
 obtain _ | n1 := n1
 rw [zG] at hm
 cases hm
 rw [zG] at hm
 refine S.co tb ?_ hf hO hm
 refine br rfl (fun hc7 => ?_) fun hc7 => ?_
 refine bi rfl fun b9 hb9 => ?_
 refine cl c_95 rfl (fun r10 w hr10 hO => zid b9 r10 _ (hG.own hF hO) hr10) fun r10 hr10 => ?_
 refine br rfl (fun hc12 => ?_) fun hc12 => ?_
 exact rt Tryz.results73 rfl
 refine jv 5 [0, 5] [] (fun J E L => ∃ (s21 : Str), J ((4, str s21) :: E) (L) (zbr (zG x_s n1) x_s i5 s21)) rfl ?_ ?_
 refine jv 6 [0, 4, 5] [] (fun J E L => ∃ (t18 : Bool), J ((26, .bool t18) :: E) (L) (zbs (zG x_s n1) x_s s4 i5 t18)) rfl ?_ ?_
 refine bi rfl fun b15 hb15 => ?_
 refine vl rfl rfl (fun a w hf hO => zby (b := b15) (c := 34) hf rfl rfl) ?_
 refine br rfl (fun hc16 => ?_) fun hc16 => ?_
 exact en rfl fun _ _ j => ⟨true, j rfl⟩
 refine bi rfl fun b17 hb17 => ?_
 refine vl rfl rfl (fun a w hf hO => zby (b := b17) (c := 92) hf rfl rfl) ?_
 exact en rfl fun _ _ j => ⟨b17 == 92, j rfl⟩
 rintro a w ⟨t18, hf, hO, hm⟩
 rw [zbs] at hm
 refine S.co tb ?_ hf hO hm
 refine br rfl (fun hc19 => ?_) fun hc19 => ?_
 refine bi rfl fun s20 hs20 => ?_
 exact en rfl fun _ _ j => ⟨s20, j rfl⟩
 exact en rfl fun _ _ j => ⟨s4, j rfl⟩
 rintro a w ⟨s21, hf, hO, hm⟩
 rw [zbr] at hm
 refine S.co tb ?_ hf hO hm
 refine bi rfl fun i22 hi22 => ?_
 refine bi rfl fun s23 hs23 => ?_
 refine bi rfl fun s24 hs24 => ?_
 refine bi rfl fun i26 hi26 => ?_
 exact en rfl fun _ _ j => ⟨_, Nat.lt_succ_self _, s24, i26, j rfl⟩
 refine bi rfl fun s28 hs28 => ?_
 exact rt Tryz.results73 rfl

theorem zhT (x_s : Str) (R : Str × Int) (w0 : World) (hG : zA w0) (hm : zcP x_s = some R) :
    Calls Tryz.prog 41 #[str x_s] w0 (Ret w0 (fun R => .tuple #[str R.1, int R.2]) R) := by
 rw [zcP] at hm
 have hF : zI [] := zg
 have hO : Dk.Own w0 [] w0 [] := Dk.Own.refl w0
 refine S.enter tb Tryz.func41 rfl Tryz.ntmps41 rfl ?_ hO hm
 refine cl c_42 rfl (fun r2 w hr2 hO => zfl x_s r2 _ (hG.own hF hO) hr2) fun r2 hr2 => ?_
 refine br rfl (fun hc4 => ?_) fun hc4 => ?_
 exact rt Tryz.results41 rfl
 refine cl c_73 rfl (fun r7 w hr7 hO => zig x_s r7 _ (hG.own hF hO) hr7) fun r7 hr7 => ?_
 exact rt Tryz.results41 rfl

theorem zjf (x_l : List api_Param) (R : Str × Int) (w0 : World) (hG : zA w0) {x_l_p0 : Option Addr} {x_l_c0 : Nat} (hs0 : zL w0 x_l_p0 (cells zb x_l)) (hc0 : x_l.length ≤ x_l_c0) (hm : zer x_l = some R) :
    Calls Tryz.prog 20 #[.slice x_l_p0 x_l.length x_l_c0] w0 (Ret w0 (fun R => .tuple #[str R.1, int R.2]) R) := by
 rw [zer] at hm
 have hF : zI [] := zg
 have hO : Dk.Own w0 [] w0 [] := Dk.Own.refl w0
 have hO := hO.addShr hs0 (by simp [Res.shared])
 refine S.enter tb Tryz.func20 rfl Tryz.ntmps20 rfl ?_ hO hm
 refine lv [0] [0] (fun J E L k => ∃ (s4 : Str) (i5 : Int), J ((4, str s4) :: (5, int i5) :: E) (L) (zU x_l k s4 i5)) rfl (fun _ _ j => ⟨[], 0, j rfl⟩) ?_
 rintro n1 a w ⟨s4, i5, hf, hO, hm⟩
 obtain _ | n1 := n1
 rw [zU] at hm
 cases hm
 rw [zU] at hm
 refine S.co tb ?_ hf hO hm
 refine br rfl (fun hc7 => ?_) fun hc7 => ?_
 refine rw_ rfl fun a w hf hO hm => ?_
 obtain ⟨x9, hx9, hm⟩ := ob hm
 obtain ⟨b10, o11, hix9, hSx9⟩ := zcV (enc := zb) (sz := 2) (xs := x_l) 49 Tryz.underlying49 zcT (by decide) (fun _ => rfl) (hO.sees (i := 0) rfl) hx9
 refine zaU (zk hix9 hf rfl rfl) rfl hf rfl rfl fun a hf => ?_
 refine S.op tb ?_ hf hO hm
 refine vl rfl rfl (fun a w hf hO => ze (o := 1) zV (hSx9 _ (hO.sees (i := 0) rfl)) rfl hf rfl) ?_
 refine cl c_41 rfl (fun r12 w hr12 hO => zhT x9.Value r12 _ (hG.own hF hO) hr12) fun r12 hr12 => ?_
 refine jv 6 [0, 4, 5, 6] [0] (fun J E L => ∃ (t19 : Bool), J ((33, .bool t19) :: E) (L) (zca (zU x_l n1) x_l s4 i5 r12 t19)) rfl ?_ ?_
 refine br rfl (fun hc14 => ?_) fun hc14 => ?_
 exact en rfl fun _ _ j => ⟨true, j rfl⟩
 refine rw_ rfl fun a w hf hO hm => ?_
 obtain ⟨x15, hx15, hm⟩ := ob hm
 obtain ⟨b16, o17, hix15, hSx15⟩ := zcV (enc := zb) (sz := 2) (xs := x_l) 49 Tryz.underlying49 zcT (by decide) (fun _ => rfl) (hO.sees (i := 0) rfl) hx15
 refine zaU (zk hix15 hf rfl rfl) rfl hf rfl rfl fun a hf => ?_
 refine S.op tb ?_ hf hO hm
 refine kn (b' := false) hc14 rfl ?_
 refine vl rfl rfl (fun a w hf hO => ze (o := 0) zV (hSx15 _ (hO.sees (i := 0) rfl)) rfl hf rfl) ?_
 refine cl c_42 rfl (fun r18 w hr18 hO => zfl x15.Name r18 _ (hG.own hF hO) hr18) fun r18 hr18 => ?_
 exact en rfl fun _ _ j => ⟨!r18, j rfl⟩
 rintro a w ⟨t19, hf, hO, hm⟩
 rw [zca] at hm
 refine S.co tb ?_ hf hO hm
 refine br rfl (fun hc20 => ?_) fun hc20 => ?_
 exact rt Tryz.results20 rfl
 refine jv 5 [0, 5, 6] [0] (fun J E L => ∃ (s26 : Str), J ((4, str s26) :: E) (L) (zbE (zU x_l n1) x_l i5 r12 s26)) rfl ?_ ?_
 refine br rfl (fun hc24 => ?_) fun hc24 => ?_
 refine bi rfl fun s25 hs25 => ?_
 exact en rfl fun _ _ j => ⟨s25, j rfl⟩
 exact en rfl fun _ _ j => ⟨s4, j rfl⟩
 rintro a w ⟨s26, hf, hO, hm⟩
 rw [zbE] at hm
 refine S.co tb ?_ hf hO hm
 refine rw_ rfl fun a w hf hO hm => ?_
 obtain ⟨x27, hx27, hm⟩ := ob hm
 obtain ⟨b28, o29, hix27, hSx27⟩ := zcV (enc := zb) (sz := 2) (xs := x_l) 49 Tryz.underlying49 zcT (by decide) (fun _ => rfl) (hO.sees (i := 0) rfl) hx27
 refine zaU (zk hix27 hf rfl rfl) rfl hf rfl rfl fun a hf => ?_
 refine S.op tb ?_ hf hO hm
 refine vl rfl rfl (fun a w hf hO => ze (o := 0) zV (hSx27 _ (hO.sees (i := 0) rfl)) rfl hf rfl) ?_
 refine bi rfl fun s30 hs30 => ?_
 refine bi rfl fun s31 hs31 => ?_
 refine bi rfl fun s32 hs32 => ?_
 refine bi rfl fun i34 hi34 => ?_
 exact en rfl fun _ _ j => ⟨_, Nat.lt_succ_self _, s32, i34, j rfl⟩
 refine br rfl (fun hc37 => ?_) fun hc37 => ?_
 exact rt Tryz.results20 rfl
 exact rt Tryz.results20 rfl

end Go.Proofs
end
section
set_option linter.unusedVariables false
set_option maxHeartbeats 1000000
set_option linter.unusedSimpArgs false
set_option maxRecDepth 100000
namespace Go.Proofs
open Go.Dk Go.Dm Go.RowKit

theorem zh7 (x_c : scan_Scanner) (R : Str × Bool × scan_Scanner) (w0 : World) (hG : zA w0) {x_c_b0 : Nat} {F : List Nat} (hF : zI F) (hO : Dk.Own w0 F w0 [.blk x_c_b0 [str x_c.f_s, int x_c.f_at] 137]) (hm : zcr x_c = some R) :
    Calls Tryz.prog 110 #[ptr x_c_b0 0] w0 fun e w' => e = .returned (.tuple #[str R.1, .bool R.2.1]) ∧ Dk.Own w0 F w' [.blk x_c_b0 [str R.2.2.f_s, int R.2.2.f_at] 137] := by
 rw [zcr] at hm
 refine S.enter tb Tryz.func110 rfl Tryz.ntmps110 rfl ?_ hO hm
 refine rw_ rfl fun a w hf hO hm => ?_
 obtain ⟨r2, hr2, hm⟩ := ob hm
 have hch3 := (show Dk.Own w0 F _ ([.blk x_c_b0 [str x_c.f_s, int x_c.f_at] 137] ++ []) from hO)
 have hfar3 := Dk.Own.far hch3 rfl hF hG.size
 have hlend3 := hch3.lend (S := []) rfl trivial
 have hcl3 := zda x_c r2 _ (hG.own hF hO) hfar3 hlend3 hr2
 refine zw (zn c_101 hf (vs := [ptr x_c_b0 0]) rfl) rfl hf rfl rfl (hcl3) ?_
 rintro e w' ⟨he, hO'⟩
 refine ⟨_, he, fun a hf => ?_⟩
 have hO := hch3.back rfl hO' rfl
 refine S.op tb ?_ hf hO hm
 refine br rfl (fun hc6 => ?_) fun hc6 => ?_
 refine re_ rfl fun a w hf hO hm => ?_
 obtain rfl := Option.some.inj hm
 exact zt Tryz.results110 hf (.tmp rfl (.tmp rfl .nil)) ⟨rfl, hO⟩
 refine rw_ rfl fun a w hf hO hm => ?_
 obtain ⟨r9, hr9, hm⟩ := ob hm
 have hch10 := (show Dk.Own w0 F _ ([.blk x_c_b0 [str r2.2.2.f_s, int r2.2.2.f_at] 137] ++ []) from hO)
 have hfar10 := Dk.Own.far hch10 rfl hF hG.size
 have hlend10 := hch10.lend (S := []) rfl trivial
 have hcl10 := zio r2.2.2 r9 _ (hG.own hF hO) hfar10 hlend10 hr9
 refine zw (zn c_100 hf (vs := [ptr x_c_b0 0]) rfl) rfl hf rfl rfl (hcl10) ?_
 rintro e w' ⟨he, hO'⟩
 refine ⟨_, he, fun a hf => ?_⟩
 have hO := hch10.back rfl hO' rfl
 refine S.op tb ?_ hf hO hm
 refine re_ rfl fun a w hf hO hm => ?_
 obtain rfl := Option.some.inj hm
 exact zt Tryz.results110 hf (.tmp rfl (.tmp rfl .nil)) ⟨rfl, hO⟩

theorem ze4 (x_r : params_reader) (R : api_Param × Bool × scan_Scanner) (w0 : World) (hG : zA w0) {x_r_b0 : Nat} {F : List Nat} (hF : zI F) (hO : Dk.Own w0 F w0 [.blk x_r_b0 [str x_r.Scanner.f_s, int x_r.Scanner.f_at] 137]) (hm : zab x_r = some R) :
    Calls Tryz.prog 75 #[.agg #[ptr x_r_b0 0]] w0 fun e w' => e = .returned (.tuple #[.agg #[str R.1.Name, str R.1.Value], .bool R.2.1]) ∧ Dk.Own w0 F w' [.blk x_r_b0 [str R.2.2.f_s, int R.2.2.f_at] 137] := by
 rw [zab] at hm
 refine S.enter tb Tryz.func75 rfl Tryz.ntmps75 rfl ?_ hO hm
 refine bo rfl fun b1 => ?_
 refine al zjM rfl fun b2 => ?_
 refine ld 1 rfl rfl ?_
 refine rw_ rfl fun a w hf hO hm => ?_
 obtain ⟨r4, hr4, hm⟩ := ob hm
 have hch5 := (show Dk.Own w0 F _ ([.blk x_r_b0 [str x_r.Scanner.f_s, int x_r.Scanner.f_at] 137] ++ [.blk b2 [str [], str []] 57, .blk b1 [ptr x_r_b0 0] 119]) from hO.choose [2, 0, 1] rfl)
 have hfar5 := Dk.Own.far hch5 rfl hF hG.size
 have hlend5 := hch5.lend (S := []) rfl trivial
 have hcl5 := zda x_r.Scanner r4 _ (hG.own hF hO) hfar5 hlend5 hr4
 refine zw (zn c_101 hf (vs := [ptr x_r_b0 0]) rfl) rfl hf rfl rfl (hcl5) ?_
 rintro e w' ⟨he, hO'⟩
 refine ⟨_, he, fun a hf => ?_⟩
 have hO := hch5.back rfl hO' rfl
 refine S.op tb ?_ hf hO hm
 refine jv 1 [1, 2, 4] [1, 2] (fun J E L => ∃ (t10 : Bool) (s11 : Str) (i12 : Int), J ((20, .bool t10) :: E) (.blk x_r_b0 [str s11, int i12] 137 :: L) (zax r4 t10 s11 i12)) rfl ?_ ?_
 refine br rfl (fun hc7 => ?_) fun hc7 => ?_
 exact en rfl fun _ _ j => ⟨true, r4.2.2.f_s, r4.2.2.f_at, j rfl⟩
 refine ld 2 rfl rfl ?_
 refine rw_ rfl fun a w hf hO hm => ?_
 obtain ⟨r8, hr8, hm⟩ := ob hm
 have hch9 := (show Dk.Own w0 F _ ([.blk x_r_b0 [str r4.2.2.f_s, int r4.2.2.f_at] 137] ++ [.blk b2 [str [], str []] 57, .blk b1 [ptr x_r_b0 0] 119]) from hO)
 have hfar9 := Dk.Own.far hch9 rfl hF hG.size
 have hlend9 := hch9.lend (S := []) rfl trivial
 have hcl9 := zac r4.2.2 61 r8 _ (hG.own hF hO) hfar9 hlend9 hr8
 refine zw (zn c_70 hf (vs := [ptr x_r_b0 0, zM 61]) rfl) rfl hf rfl rfl (hcl9) ?_
 rintro e w' ⟨he, hO'⟩
 refine ⟨_, he, fun a hf => ?_⟩
 have hO := hch9.back rfl hO' rfl
 refine S.op tb ?_ hf hO hm
 refine kn (b' := false) hc7 rfl ?_
 exact en rfl fun _ _ j => ⟨!r8.1, r8.2.f_s, r8.2.f_at, j rfl⟩
 rintro a w ⟨t10, s11, i12, hf, hO, hm⟩
 rw [zax] at hm
 refine S.co tb ?_ hf hO hm
 refine br rfl (fun hc13 => ?_) fun hc13 => ?_
 refine vl rfl rfl (fun a w hf hO => zai (vs := []) (v := .agg #[str [], str []]) hf rfl (by kernel_rfl)) ?_
 refine st 1 rfl rfl ?_
 refine re_ rfl fun a w hf hO hm => ?_
 obtain rfl := Option.some.inj hm
 exact zt Tryz.results75 hf (.cell rfl (zcw (n := 2) (vs := [str [], str []]) zgO zcT rfl ((hO.blkSees (i := 1) rfl).cells (o := 0) (n := 2) rfl)) (.tmp rfl .nil)) ⟨rfl, (hO.sub (.cons_cons _ (.cons _ (.cons _ .slnil))))⟩
 refine ld 2 rfl rfl ?_
 refine rw_ rfl fun a w hf hO hm => ?_
 obtain ⟨r16, hr16, hm⟩ := ob hm
 have hch17 := (show Dk.Own w0 F _ ([.blk x_r_b0 [str s11, int i12] 137] ++ [.blk b2 [str [], str []] 57, .blk b1 [ptr x_r_b0 0] 119]) from hO)
 have hfar17 := Dk.Own.far hch17 rfl hF hG.size
 have hlend17 := hch17.lend (S := []) rfl trivial
 have hcl17 := zh7 (⟨s11, i12⟩ : scan_Scanner) r16 _ (hG.own hF hO) hfar17 hlend17 hr16
 refine zw (zn c_110 hf (vs := [ptr x_r_b0 0]) rfl) rfl hf rfl rfl (hcl17) ?_
 rintro e w' ⟨he, hO'⟩
 refine ⟨_, he, fun a hf => ?_⟩
 have hO := hch17.back rfl hO' rfl
 refine S.op tb ?_ hf hO hm
 refine vl rfl rfl (fun a w hf hO => zai (vs := [(0, str r4.1), (1, str r16.1)]) (v := .agg #[str r4.1, str r16.1]) hf rfl (by kernel_rfl)) ?_
 refine st 1 rfl rfl ?_
 refine re_ rfl fun a w hf hO hm => ?_
 obtain rfl := Option.some.inj hm
 exact zt Tryz.results75 hf (.cell rfl (zcw (n := 2) (vs := [str r4.1, str r16.1]) zgO zcT rfl ((hO.blkSees (i := 1) rfl).cells (o := 0) (n := 2) rfl)) (.tmp rfl .nil)) ⟨rfl, (hO.sub (.cons_cons _ (.cons _ (.cons _ .slnil))))⟩

theorem zcS (x_c : scan_Scanner) (R : Str × scan_Scanner) (w0 : World) (hG : zA w0) {x_c_b0 : Nat} {F : List Nat} (hF : zI F) (hO : Dk.Own w0 F w0 [.blk x_c_b0 [str x_c.f_s, int x_c.f_at] 137]) (hm : zad x_c = some R) :
    Calls Tryz.prog 111 #[ptr x_c_b0 0] w0 fun e w' => e = .returned (str R.1) ∧ Dk.Own w0 F w' [.blk x_c_b0 [str R.2.f_s, int R.2.f_at] 137] := by
 rw [zad] at hm
 refine S.enter tb Tryz.func111 rfl Tryz.ntmps111 rfl ?_ hO hm
 refine rw_ rfl fun a w hf hO hm => ?_
 obtain ⟨r2, hr2, hm⟩ := ob hm
 have hch3 := (show Dk.Own w0 F _ ([.blk x_c_b0 [str x_c.f_s, int x_c.f_at] 137] ++ []) from hO)
 have hfar3 := Dk.Own.far hch3 rfl hF hG.size
 have hlend3 := hch3.lend (S := []) rfl trivial
 have hcl3 := zc9 x_c zbc r2 _ (hG.own hF hO) hfar3 hlend3 c_145 (fun y0 r w hG h => zgs (zez y0 r w hG h)) hr2
 refine zw (zn c_102 hf (vs := [ptr x_c_b0 0, .func (.func 145) #[] #[]]) rfl) rfl hf rfl rfl (hcl3) ?_
 rintro e w' ⟨he, hO'⟩
 refine ⟨_, he, fun a hf => ?_⟩
 have hO := hch3.back rfl hO' rfl
 refine S.op tb ?_ hf hO hm
 refine re_ rfl fun a w hf hO hm => ?_
 obtain rfl := Option.some.inj hm
 exact zt Tryz.results111 hf (.tmp rfl .nil) ⟨rfl, hO⟩

theorem zeH (x_r : params_reader) (R : Bool × scan_Scanner) (w0 : World) (hG : zA w0) {x_r_b0 : Nat} {F : List Nat} (hF : zI F) (hO : Dk.Own w0 F w0 [.blk x_r_b0 [str x_r.Scanner.f_s, int x_r.Scanner.f_at] 137]) (hm : zaR x_r = some R) :
    Calls Tryz.prog 76 #[.agg #[ptr x_r_b0 0]] w0 fun e w' => e = .returned (.bool R.1) ∧ Dk.Own w0 F w' [.blk x_r_b0 [str R.2.f_s, int R.2.f_at] 137] := by
 rw [zaR] at hm
 refine S.enter tb Tryz.func76 rfl Tryz.ntmps76 rfl ?_ hO hm
 refine bo rfl fun b1 => ?_
 refine ld 0 rfl rfl ?_
 refine rw_ rfl fun a w hf hO hm => ?_
 obtain ⟨r3, hr3, hm⟩ := ob hm
 have hch4 := (show Dk.Own w0 F _ ([.blk x_r_b0 [str x_r.Scanner.f_s, int x_r.Scanner.f_at] 137] ++ [.blk b1 [ptr x_r_b0 0] 119]) from hO.choose [1, 0] rfl)
 have hfar4 := Dk.Own.far hch4 rfl hF hG.size
 have hlend4 := hch4.lend (S := []) rfl trivial
 have hcl4 := zcS x_r.Scanner r3 _ (hG.own hF hO) hfar4 hlend4 hr3
 refine zw (zn c_111 hf (vs := [ptr x_r_b0 0]) rfl) rfl hf rfl rfl (hcl4) ?_
 rintro e w' ⟨he, hO'⟩
 refine ⟨_, he, fun a hf => ?_⟩
 have hO := hch4.back rfl hO' rfl
 refine S.op tb ?_ hf hO hm
 refine ld 1 rfl rfl ?_
 refine rw_ rfl fun a w hf hO hm => ?_
 obtain ⟨r6, hr6, hm⟩ := ob hm
 have hch7 := (show Dk.Own w0 F _ ([.blk x_r_b0 [str r3.2.f_s, int r3.2.f_at] 137] ++ [.blk b1 [ptr x_r_b0 0] 119]) from hO)
 have hfar7 := Dk.Own.far hch7 rfl hF hG.size
 have hlend7 := hch7.lend (S := []) rfl trivial
 have hcl7 := zac r3.2 59 r6 _ (hG.own hF hO) hfar7 hlend7 hr6
 refine zw (zn c_70 hf (vs := [ptr x_r_b0 0, zM 59]) rfl) rfl hf rfl rfl (hcl7) ?_
 rintro e w' ⟨he, hO'⟩
 refine ⟨_, he, fun a hf => ?_⟩
 have hO := hch7.back rfl hO' rfl
 refine S.op tb ?_ hf hO hm
 refine br rfl (fun hc9 => ?_) fun hc9 => ?_
 refine re_ rfl fun a w hf hO hm => ?_
 obtain rfl := Option.some.inj hm
 exact zt Tryz.results76 hf (.tmp rfl .nil) ⟨rfl, (hO.sub (.cons_cons _ (.cons _ .slnil)))⟩
 refine ld 1 rfl rfl ?_
 refine rw_ rfl fun a w hf hO hm => ?_
 obtain ⟨r12, hr12, hm⟩ := ob hm
 have hch13 := (show Dk.Own w0 F _ ([.blk x_r_b0 [str r6.2.f_s, int r6.2.f_at] 137] ++ [.blk b1 [ptr x_r_b0 0] 119]) from hO)
 have hfar13 := Dk.Own.far hch13 rfl hF hG.size
 have hlend13 := hch13.lend (S := []) rfl trivial
 have hcl13 := zcS r6.2 r12 _ (hG.own hF hO) hfar13 hlend13 hr12
 refine zw (zn c_111 hf (vs := [ptr x_r_b0 0]) rfl) rfl hf rfl rfl (hcl13) ?_
 rintro e w' ⟨he, hO'⟩
 refine ⟨_, he, fun a hf => ?_⟩
 have hO := hch13.back rfl hO' rfl
 refine S.op tb ?_ hf hO hm
 refine re_ rfl fun a w hf hO hm => ?_
 obtain rfl := Option.some.inj hm
 exact zt Tryz.results76 hf (.tmp rfl .nil) ⟨rfl, (hO.sub (.cons_cons _ (.cons _ .slnil)))⟩

theorem zhk (x_s : Str) (R : List api_Param × Int) (w0 : World) (hG : zA w0) (hm : zcQ x_s = some R) :
    Calls Tryz.prog 43 #[str x_s] w0 fun e w' => ∃ (p0 : Option Addr) (c0 : Nat), e = .returned (.tuple #[.slice p0 R.1.length c0, int R.2]) ∧ Dk.Own w0 [] w' [.row (.slice p0 R.1.length c0) 57 2 R.1.length (cells zb R.1)] := by
 rw [zcQ] at hm
 have hF : zI [] := zg
 have hO : Dk.Own w0 [] w0 [] := Dk.Own.refl w0
 refine S.enter tb Tryz.func43 rfl Tryz.ntmps43 rfl ?_ hO hm
 refine nl 57 2 ?_
 refine rw_ rfl fun a w hf hO hm => ?_
 obtain ⟨r2, hr2, hm⟩ := ob hm
 refine zw (zn c_65 hf (vs := [str x_s]) rfl) rfl hf rfl rfl (zku x_s r2 _ (hG.own hF hO) hr2) ?_
 rintro e w' ⟨b3, he, hO'⟩
 refine ⟨_, he, fun a hf => ?_⟩
 have hO := hO.call hO' (by simp [Res.shared])
 refine S.op tb ?_ hf hO hm
 refine vl rfl rfl (fun a w hf hO => zai (vs := [(0, ptr b3 0)]) (v := .agg #[ptr b3 0]) hf rfl (by kernel_rfl)) ?_
 refine al al_119 rfl fun b4 => ?_
 refine st 0 rfl rfl ?_
 refine nl 57 2 ?_
 refine ch [0, 2, 1, 3] rfl rfl ?_
 refine lv [4] [2, 3] (fun J E L k => ∃ (p7 : Option Addr) (c8 : Nat) (l9 : List api_Param) (s10 : Str) (i11 : Int), J ((5, .slice p7 l9.length c8) :: E) (.row (.slice p7 l9.length c8) 57 2 l9.length (cells zb l9) :: .blk b3 [str s10, int i11] 137 :: L) (zah k l9 s10 i11)) rfl (fun _ _ j => ⟨none, 0, [], r2.f_s, r2.f_at, j rfl⟩) ?_
 rintro n1 a w ⟨p7, c8, l9, s10, i11, hf, hO, hm⟩
 obtain _ | n1 := n1
 rw [zah] at hm
 cases hm
 rw [zah] at hm
 refine S.co tb ?_ hf hO hm
 refine ld 2 rfl rfl ?_
 refine rw_ rfl fun a w hf hO hm => ?_
 obtain ⟨r12, hr12, hm⟩ := ob hm
 have hch13 := (show Dk.Own w0 [] _ ([.blk b3 [str s10, int i11] 137] ++ [.row (.slice p7 l9.length c8) 57 2 l9.length (cells zb l9), .blk b4 [ptr b3 0] 119, .row (.slice none 0 0) 57 2 0 (cells zb [])]) from hO.choose [1, 0, 2, 3] rfl)
 have hfar13 := Dk.Own.far hch13 rfl hF hG.size
 have hlend13 := hch13.lend (S := []) rfl trivial
 have hcl13 := ze4 ((⟨(⟨s10, i11⟩ : scan_Scanner)⟩ : params_reader)) r12 _ (hG.own hF hO) hfar13 hlend13 hr12
 refine zw (zn c_75 hf (vs := [.agg #[ptr b3 0]]) rfl) rfl hf rfl rfl (hcl13) ?_
 rintro e w' ⟨he, hO'⟩
 refine ⟨_, he, fun a hf => ?_⟩
 have hO := hch13.back rfl hO' rfl
 refine S.op tb ?_ hf hO hm
 refine al zjM rfl fun b14 => ?_
 refine st 0 rfl rfl ?_
 refine br rfl (fun hc17 => ?_) fun hc17 => ?_
 refine nl 57 2 ?_
 refine re_ rfl fun a w hf hO hm => ?_
 obtain rfl := Option.some.inj hm
 exact zt Tryz.results43 hf (.tmp rfl (.tmp rfl .nil)) ⟨none, 0, rfl, (hO.sub (.cons_cons _ (.cons _ (.cons _ (.cons _ (.cons _ (.cons _ .slnil)))))))⟩
 refine ld 0 rfl rfl ?_
 refine rw_ rfl fun a w hf hO hm => ?_
 refine zo (vs := [(0, .agg #[str r12.1.Name, str r12.1.Value])]) (cs := [str r12.1.Name, str r12.1.Value]) (e := 57) (sz := 2) hf rfl rfl (fun w => by kernel_rfl) rfl rfl hO fun a b20 w hf hO => ?_
 refine S.op tb ?_ hf hO hm
 refine rw_ rfl fun a w hf hO hm => ?_
 obtain ⟨hg23, hm⟩ := og hm
 refine zaA zjN (enc := zb) (xs := l9) (ys := [r12.1]) (i := 3) (fun _ => rfl) rfl (hO.rowSees (i := 0) rfl) (by simp [cells, zb, Value.oneCell']) hg23 hf rfl rfl rfl hO fun a p21 c22 w hf hO => ?_
 refine S.op tb ?_ hf hO hm
 refine ld 4 rfl rfl ?_
 refine cl c_66 rfl (fun r25 w hr25 hO => zdA r12.2.2 r25 _ (hG.own hF hO) (hO.blkSees (i := 2) rfl) hr25) fun r25 hr25 => ?_
 refine br rfl (fun hc27 => ?_) fun hc27 => ?_
 refine re_ rfl fun a w hf hO hm => ?_
 obtain rfl := Option.some.inj hm
 exact zt Tryz.results43 hf (.tmp rfl (.tmp rfl .nil)) ⟨p21, c22, rfl, (hO.sub (.cons _ (.cons _ (.cons _ (.cons_cons _ (.cons _ (.cons _ .slnil)))))))⟩
 refine ld 4 rfl rfl ?_
 refine rw_ rfl fun a w hf hO hm => ?_
 obtain ⟨r30, hr30, hm⟩ := ob hm
 have hch31 := (show Dk.Own w0 [] _ ([.blk b3 [str r12.2.2.f_s, int r12.2.2.f_at] 137] ++ [.row (.slice (some ⟨b20, 0, none⟩) ([r12.1].length) 1) 57 2 ([r12.1].length) (cells zb [r12.1]), .blk b14 [str r12.1.Name, str r12.1.Value] 57, .row (.slice p21 ((l9 ++ [r12.1]).length) c22) 57 2 ((l9 ++ [r12.1]).length) (cells zb (l9 ++ [r12.1])), .blk b4 [ptr b3 0] 119, .row (.slice none 0 0) 57 2 0 (cells zb [])]) from hO.choose [2, 0, 1, 3, 4, 5] rfl)
 have hfar31 := Dk.Own.far hch31 rfl hF hG.size
 have hlend31 := hch31.lend (S := []) rfl trivial
 have hcl31 := zeH (⟨r12.2.2⟩ : params_reader) r30 _ (hG.own hF hO) hfar31 hlend31 hr30
 refine zw (zn c_76 hf (vs := [.agg #[ptr b3 0]]) rfl) rfl hf rfl rfl (hcl31) ?_
 rintro e w' ⟨he, hO'⟩
 refine ⟨_, he, fun a hf => ?_⟩
 have hO := hch31.back rfl hO' rfl
 refine S.op tb ?_ hf hO hm
 refine br rfl (fun hc33 => ?_) fun hc33 => ?_
 refine nl 57 2 ?_
 refine re_ rfl fun a w hf hO hm => ?_
 obtain rfl := Option.some.inj hm
 exact zt Tryz.results43 hf (.tmp rfl (.tmp rfl .nil)) ⟨none, 0, rfl, (hO.sub (.cons_cons _ (.cons _ (.cons _ (.cons _ (.cons _ (.cons _ (.cons _ .slnil))))))))⟩
 exact ec [3, 0, 4, 5] rfl rfl rfl fun _ _ j => ⟨_, Nat.lt_succ_self _, p21, c22, l9 ++ [r12.1], r30.2.f_s, r30.2.f_at, j rfl⟩

theorem ziS (x_name : Str) (x_l : List api_Param) (R : Str × Bool) (w0 : World) (hG : zA w0) {x_l_p0 : Option Addr} {x_l_c0 : Nat} (hs0 : zL w0 x_l_p0 (cells zb x_l)) (hc0 : x_l.length ≤ x_l_c0) (hm : zes x_name x_l = some R) :
    Calls Tryz.prog 44 #[str x_name, .slice x_l_p0 x_l.length x_l_c0] w0 (Ret w0 (fun R => .tuple #[str R.1, .bool R.2]) R) := by
 rw [zes] at hm
 have hF : zI [] := zg
 have hO : Dk.Own w0 [] w0 [] := Dk.Own.refl w0
 have hO := hO.addShr hs0 (by simp [Res.shared])
 refine S.enter tb Tryz.func44 rfl Tryz.ntmps44 rfl ?_ hO hm
 refine lv [0, 8, 9] [0] (fun J E L k => ∃ (i3 : Int), J ((10, int i3) :: E) (L) (zbe x_name x_l k i3)) rfl (fun _ _ j => ⟨0, j rfl⟩) ?_
 rintro n1 a w ⟨i3, hf, hO, hm⟩
 obtain _ | n1 := n1
 rw [zbe] at hm
 cases hm
 rw [zbe] at hm
 refine S.co tb ?_ hf hO hm
 refine br rfl (fun hc5 => ?_) fun hc5 => ?_
 refine rw_ rfl fun a w hf hO hm => ?_
 obtain ⟨x7, hx7, hm⟩ := ob hm
 obtain ⟨b8, o9, hix7, hSx7⟩ := zcV (enc := zb) (sz := 2) (xs := x_l) 49 Tryz.underlying49 zcT (by decide) (fun _ => rfl) (hO.sees (i := 0) rfl) hx7
 refine zaU (zk hix7 hf rfl rfl) rfl hf rfl rfl fun a hf => ?_
 refine S.op tb ?_ hf hO hm
 refine vl rfl rfl (fun a w hf hO => zr (o := 0) (vs := [str x7.Name, str x7.Value]) zgO zcT (hSx7 _ (hO.sees (i := 0) rfl)) rfl rfl hf rfl) ?_
 refine al zjM rfl fun b10 => ?_
 refine st 0 rfl rfl ?_
 refine ld 0 rfl rfl ?_
 refine cl c_55 rfl (fun r12 w hr12 hO => zgf x7.Name x_name r12 _ (hG.own hF hO) hr12) fun r12 hr12 => ?_
 refine br rfl (fun hc14 => ?_) fun hc14 => ?_
 refine ld 0 rfl rfl ?_
 exact rt Tryz.results44 rfl
 refine bi rfl fun i17 hi17 => ?_
 exact ec [1] rfl rfl rfl fun _ _ j => ⟨_, Nat.lt_succ_self _, i17, j rfl⟩
 exact rt Tryz.results44 rfl

theorem zfN (x_s : Str) (R : List api_Param × Int) (w0 : World) (hG : zA w0) (hm : zaZ x_s = some R) :
    Calls Tryz.prog 21 #[str x_s] w0 fun e w' => ∃ (p0 : Option Addr) (c0 : Nat), e = .returned (.tuple #[.slice p0 R.1.length c0, int R.2]) ∧ Dk.Own w0 [] w' [.row (.slice p0 R.1.length c0) 57 2 R.1.length (cells zb R.1)] := by
 rw [zaZ] at hm
 have hF : zI [] := zg
 have hO : Dk.Own w0 [] w0 [] := Dk.Own.refl w0
 refine S.enter tb Tryz.func21 rfl Tryz.ntmps21 rfl ?_ hO hm
 refine nl 57 2 ?_
 refine rw_ rfl fun a w hf hO hm => ?_
 obtain ⟨r2, hr2, hm⟩ := ob hm
 refine zw (zn c_43 hf (vs := [str x_s]) rfl) rfl hf rfl rfl (zhk x_s r2 _ (hG.own hF hO) hr2) ?_
 rintro e w' ⟨p3, c4, he, hO'⟩
 refine ⟨_, he, fun a hf => ?_⟩
 have hO := hO.call hO' (by simp [Res.shared])
 refine S.op tb ?_ hf hO hm
 refine br rfl (fun hc7 => ?_) fun hc7 => ?_
 refine nl 57 2 ?_
 refine re_ rfl fun a w hf hO hm => ?_
 obtain rfl := Option.some.inj hm
 exact zt Tryz.results21 hf (.tmp rfl (.tmp rfl .nil)) ⟨none, 0, rfl, (hO.sub (.cons_cons _ (.cons _ (.cons _ .slnil))))⟩
 refine lv [4, 18, 19] [0, 1] (fun J E L k => ∃ (i11 : Int), J ((20, int i11) :: E) (L) (zK r2 k i11)) rfl (fun _ _ j => ⟨0, j rfl⟩) ?_
 rintro n1 a w ⟨i11, hf, hO, hm⟩
 obtain _ | n1 := n1
 rw [zK] at hm
 cases hm
 rw [zK] at hm
 refine S.co tb ?_ hf hO hm
 refine br rfl (fun hc13 => ?_) fun hc13 => ?_
 refine rw_ rfl fun a w hf hO hm => ?_
 obtain ⟨x15, hx15, hm⟩ := ob hm
 obtain ⟨b16, o17, hix15, hSx15, hAx15⟩ := zaV (enc := zb) (sz := 2) (xs := r2.1) 49 Tryz.underlying49 zcT (by decide) (fun _ => rfl) hO (i := 0) rfl hx15
 refine zaU (zk hix15 hf rfl rfl) rfl hf rfl rfl fun a hf => ?_
 refine S.op tb ?_ hf hO hm
 refine vl rfl rfl (fun a w hf hO => zr (o := 0) (vs := [str x15.Name, str x15.Value]) zgO zcT (hSx15 _ (hO.rowSees (i := 0) rfl)) rfl rfl hf rfl) ?_
 refine al zjM rfl fun b18 => ?_
 refine st 0 rfl rfl ?_
 refine rc_ rfl fun a w hf hO hm => ?_
 refine zdw (by kernel_rfl) (by kernel_rfl) hO ?_
 refine zs (fun w hO => zC zkE hf rfl) rfl hf rfl rfl fun a hf => ?_
 refine zs (fun w hO => ze (o := 0) zV (hO.blkSees (i := 0) rfl) rfl hf rfl) rfl hf rfl rfl fun a hf => ?_
 refine zs (fun w hO => zh hf rfl) rfl hf rfl rfl fun a hf => ?_
 refine zs (fun w hO => zh hf rfl) rfl hf rfl rfl fun a hf => ?_
 obtain ⟨l20, hl20, hm⟩ := ob hm
 obtain ⟨p21, c22, hrl20, hVl20, hCl20, _⟩ := zmp (enc := zb) (xs := r2.1) 49 Tryz.underlying49 zcT (fun _ => rfl) (hO.rowSees (i := 1) rfl) (hO.rowCap (i := 1) rfl) hl20
 refine zs (fun w hO => zkf Tryz.underlying49 hrl20 hf rfl rfl) rfl hf rfl rfl fun a hf => ?_
 obtain ⟨r23, hr23, hm⟩ := ob hm
 refine zlz (fun w hO => zn c_44 hf (vs := [str x15.Name, .slice p21 l20.length c22]) rfl) rfl hf rfl rfl (fun w hO => (ziS x15.Name l20 r23 _ (hG.own hF hO) (hVl20 _ (hO.rowSees (i := 1) rfl)) hCl20 hr23).mono fun e w' ⟨he, hb⟩ => ⟨he, hO.grow hb⟩) fun a hf => ?_
 refine zs (fun w hO => zh hf rfl) rfl hf rfl rfl fun a hf => ?_
 refine zs (fun w hO => zfu hf rfl rfl) rfl hf rfl rfl fun a hf => ?_
 refine zs (fun w hO => zfu hf rfl rfl) rfl hf rfl rfl fun a hf => ?_
 refine zs (fun w hO => zay hf rfl) rfl hf rfl rfl fun a hf => ?_
 refine zs (fun w hO => zay hf rfl) rfl hf rfl rfl fun a hf => ?_
 refine wpQuiet_nil ?_
 intro w hO
 refine S.no tb ?_ hf hO hm
 refine br rfl (fun hc26 => ?_) fun hc26 => ?_
 refine nl 57 2 ?_
 refine re_ rfl fun a w hf hO hm => ?_
 obtain rfl := Option.some.inj hm
 exact zt Tryz.results21 hf (.tmp rfl (.tmp rfl .nil)) ⟨none, 0, rfl, (hO.sub (.cons_cons _ (.cons _ (.cons _ (.cons _ .slnil)))))⟩
 refine bi rfl fun i29 hi29 => ?_
 exact ec [1, 2] rfl rfl rfl fun _ _ j => ⟨_, Nat.lt_succ_self _, i29, j rfl⟩
 refine re_ rfl fun a w hf hO hm => ?_
 obtain rfl := Option.some.inj hm
 exact zt Tryz.results21 hf (.tmp rfl (.tmp rfl .nil)) ⟨p3, c4, rfl, (hO.sub (.cons_cons _ (.cons _ .slnil)))⟩

theorem zcu (x_env : api_Env) (R : List api_Param) (w0 : World) (hG : zA w0) {x_env_p0 : Option Addr} {x_env_c0 : Nat} (hs0 : zL w0 x_env_p0 (cells za x_env.Domains)) (hc0 : x_env.Domains.length ≤ x_env_c0) {x_env_p1 : Option Addr} {x_env_c1 : Nat} (hs1 : zL w0 x_env_p1 (cells za x_env.Locations)) (hc1 : x_env.Locations.length ≤ x_env_c1) (hm : zdG x_env = some R) :
    Calls Tryz.prog 23 #[.agg #[str x_env.Client, str x_env.Host, str x_env.Scheme, str x_env.By, .slice x_env_p0 x_env.Domains.length x_env_c0, .slice x_env_p1 x_env.Locations.length x_env_c1]] w0 fun e w' => ∃ (p0 : Option Addr) (c0 : Nat), e = .returned (.slice p0 R.length c0) ∧ Dk.Own w0 [] w' [.row (.slice p0 R.length c0) 57 2 R.length (cells zb R)] := by
 rw [zdG] at hm
 have hF : zI [] := zg
 have hO : Dk.Own w0 [] w0 [] := Dk.Own.refl w0
 have hO := hO.addShr hs0 (by simp [Res.shared])
 have hO := hO.addShr hs1 (by simp [Res.shared])
 refine S.enter tb Tryz.func23 rfl Tryz.ntmps23 rfl ?_ hO hm
 refine bo rfl fun b1 => ?_
 refine nl 57 2 ?_
 refine jv 0 [1] [0, 1, 2, 3] (fun J E L => ∃ (s9 : Str), J ((3, str s9) :: E) (L) (zbG x_env s9)) rfl ?_ ?_
 refine ld 1 rfl rfl ?_
 refine cl c_45 rfl (fun r4 w hr4 hO => zjT x_env.Client r4 _ (hG.own hF hO) hr4) fun r4 hr4 => ?_
 refine br rfl (fun hc6 => ?_) fun hc6 => ?_
 refine ld 1 rfl rfl ?_
 refine bi rfl fun s7 hs7 => ?_
 refine bi rfl fun s8 hs8 => ?_
 exact en rfl fun _ _ j => ⟨s8, j rfl⟩
 exact en rfl fun _ _ j => ⟨[117, 110, 107, 110, 111, 119, 110], j rfl⟩
 rintro a w ⟨s9, hf, hO, hm⟩
 rw [zbG] at hm
 refine S.co tb ?_ hf hO hm
 refine jv 0 [1] [0, 1, 2, 3] (fun J E L => ∃ (s13 : Str), J ((3, str s13) :: E) (L) (zbF x_env s13)) rfl ?_ ?_
 refine ld 1 rfl rfl ?_
 refine cl c_46 rfl (fun r10 w hr10 hO => zfP x_env.Client r10 _ (hG.own hF hO) hr10) fun r10 hr10 => ?_
 refine br rfl (fun hc12 => ?_) fun hc12 => ?_
 refine ld 1 rfl rfl ?_
 exact en rfl fun _ _ j => ⟨x_env.Client, j rfl⟩
 exact en rfl fun _ _ j => ⟨s9, j rfl⟩
 rintro a w ⟨s13, hf, hO, hm⟩
 rw [zbF] at hm
 refine S.co tb ?_ hf hO hm
 refine vl rfl rfl (fun a w hf hO => zai (vs := [(0, str [102, 111, 114]), (1, str s13)]) (v := .agg #[str [102, 111, 114], str s13]) hf rfl (by kernel_rfl)) ?_
 refine rw_ rfl fun a w hf hO hm => ?_
 refine zo (vs := [(0, .agg #[str [102, 111, 114], str s13])]) (cs := [str [102, 111, 114], str s13]) (e := 57) (sz := 2) hf rfl rfl (fun w => by kernel_rfl) rfl rfl hO fun a b14 w hf hO => ?_
 refine S.op tb ?_ hf hO hm
 refine jv 0 [1] [1, 2, 3, 4] (fun J E L => ∃ (p22 : Option Addr) (c23 : Nat) (l24 : List api_Param), J ((4, .slice p22 l24.length c23) :: E) (.row (.slice p22 l24.length c23) 57 2 l24.length (cells zb l24) :: L) (zcc x_env l24)) rfl ?_ ?_
 refine ld 2 rfl rfl ?_
 refine br rfl (fun hc17 => ?_) fun hc17 => ?_
 refine ld 2 rfl rfl ?_
 refine vl rfl rfl (fun a w hf hO => zai (vs := [(0, str [104, 111, 115, 116]), (1, str x_env.Host)]) (v := .agg #[str [104, 111, 115, 116], str x_env.Host]) hf rfl (by kernel_rfl)) ?_
 refine rw_ rfl fun a w hf hO hm => ?_
 refine zo (vs := [(0, .agg #[str [104, 111, 115, 116], str x_env.Host])]) (cs := [str [104, 111, 115, 116], str x_env.Host]) (e := 57) (sz := 2) hf rfl rfl (fun w => by kernel_rfl) rfl rfl hO fun a b18 w hf hO => ?_
 refine S.op tb ?_ hf hO hm
 refine rw_ rfl fun a w hf hO hm => ?_
 obtain ⟨hg21, hm⟩ := og hm
 refine zaA zjN (enc := zb) (xs := [(⟨[102, 111, 114], s13⟩ : api_Param)]) (ys := [(⟨[104, 111, 115, 116], x_env.Host⟩ : api_Param)]) (i := 1) (fun _ => rfl) rfl (hO.rowSees (i := 0) rfl) (by simp [cells, zb, Value.oneCell']) hg21 hf rfl rfl rfl hO fun a p19 c20 w hf hO => ?_
 refine S.op tb ?_ hf hO hm
 exact ec [1, 2, 3, 4, 5] rfl rfl rfl fun _ _ j => ⟨p19, c20, ([(⟨[102, 111, 114], s13⟩ : api_Param)]) ++ [(⟨[104, 111, 115, 116], x_env.Host⟩ : api_Param)], j rfl⟩
 exact en rfl fun _ _ j => ⟨some ⟨b14, 0, none⟩, 1, [(⟨[102, 111, 114], s13⟩ : api_Param)], j rfl⟩
 rintro a w ⟨p22, c23, l24, hf, hO, hm⟩
 rw [zcc] at hm
 refine S.co tb ?_ hf hO hm
 refine jv 0 [] [1, 2, 3, 4] (fun J E L => ∃ (p31 : Option Addr) (c32 : Nat) (l33 : List api_Param), J ((4, .slice p31 l33.length c32) :: E) (.row (.slice p31 l33.length c32) 57 2 l33.length (cells zb l33) :: L) (zcb l33)) rfl ?_ ?_
 refine ld 2 rfl rfl ?_
 refine br rfl (fun hc26 => ?_) fun hc26 => ?_
 refine ld 2 rfl rfl ?_
 refine vl rfl rfl (fun a w hf hO => zai (vs := [(0, str [112, 114, 111, 116, 111]), (1, str x_env.Scheme)]) (v := .agg #[str [112, 114, 111, 116, 111], str x_env.Scheme]) hf rfl (by kernel_rfl)) ?_
 refine rw_ rfl fun a w hf hO hm => ?_
 refine zo (vs := [(0, .agg #[str [112, 114, 111, 116, 111], str x_env.Scheme])]) (cs := [str [112, 114, 111, 116, 111], str x_env.Scheme]) (e := 57) (sz := 2) hf rfl rfl (fun w => by kernel_rfl) rfl rfl hO fun a b27 w hf hO => ?_
 refine S.op tb ?_ hf hO hm
 refine rw_ rfl fun a w hf hO hm => ?_
 obtain ⟨hg30, hm⟩ := og hm
 refine zaA zjN (enc := zb) (xs := l24) (ys := [(⟨[112, 114, 111, 116, 111], x_env.Scheme⟩ : api_Param)]) (i := 1) (fun _ => rfl) rfl (hO.rowSees (i := 0) rfl) (by simp [cells, zb, Value.oneCell']) hg30 hf rfl rfl rfl hO fun a p28 c29 w hf hO => ?_
 refine S.op tb ?_ hf hO hm
 exact ec [1, 2, 3, 4, 5] rfl rfl rfl fun _ _ j => ⟨p28, c29, l24 ++ [(⟨[112, 114, 111, 116, 111], x_env.Scheme⟩ : api_Param)], j rfl⟩
 exact en rfl fun _ _ j => ⟨p22, c23, l24, j rfl⟩
 rintro a w ⟨p31, c32, l33, hf, hO, hm⟩
 rw [zcb] at hm
 refine S.co tb ?_ hf hO hm
 refine re_ rfl fun a w hf hO hm => ?_
 obtain rfl := Option.some.inj hm
 exact zt Tryz.results23 hf (.tmp rfl .nil) ⟨p31, c32, rfl, (hO.sub (.cons_cons _ (.cons _ (.cons _ (.cons _ (.cons _ .slnil))))))⟩

theorem zbT (x_a : List api_Param) (x_b : List api_Param) (R : Bool) (w0 : World) (hG : zA w0) {x_a_p0 : Option Addr} {x_a_c0 : Nat} (hs0 : zL w0 x_a_p0 (cells zb x_a)) (hc0 : x_a.length ≤ x_a_c0) {x_b_p1 : Option Addr} {x_b_c1 : Nat} (hs1 : zL w0 x_b_p1 (cells zb x_b)) (hc1 : x_b.length ≤ x_b_c1) (hm : zc2 x_a x_b = some R) :
    Calls Tryz.prog 22 #[.slice x_a_p0 x_a.length x_a_c0, .slice x_b_p1 x_b.length x_b_c1] w0 (Ret w0 (fun R => .bool R) R) := by
 rw [zc2] at hm
 have hF : zI [] := zg
 have hO : Dk.Own w0 [] w0 [] := Dk.Own.refl w0
 have hO := hO.addShr hs0 (by simp [Res.shared])
 have hO := hO.addShr hs1 (by simp [Res.shared])
 refine S.enter tb Tryz.func22 rfl Tryz.ntmps22 rfl ?_ hO hm
 refine br rfl (fun hc3 => ?_) fun hc3 => ?_
 exact rt Tryz.results22 rfl
 refine lv [0, 1] [0, 1] (fun J E L k => ∃ (i7 : Int), J ((5, int i7) :: E) (L) (zaO x_a x_b k i7)) rfl (fun _ _ j => ⟨0, j rfl⟩) ?_
 rintro n1 a w ⟨i7, hf, hO, hm⟩
 obtain _ | n1 := n1
 rw [zaO] at hm
 cases hm
 rw [zaO] at hm
 refine S.co tb ?_ hf hO hm
 refine br rfl (fun hc9 => ?_) fun hc9 => ?_
 refine rc_ rfl fun a w hf hO hm => ?_
 refine zdw (by kernel_rfl) (by kernel_rfl) hO ?_
 refine zs (fun w hO => zh hf rfl) rfl hf rfl rfl fun a hf => ?_
 refine zs (fun w hO => zh hf rfl) rfl hf rfl rfl fun a hf => ?_
 obtain ⟨x11, hx11, hm⟩ := ob hm
 obtain ⟨b12, o13, hix11, hSx11⟩ := zcV (enc := zb) (sz := 2) (xs := x_a) 49 Tryz.underlying49 zcT (by decide) (fun _ => rfl) (hO.sees (i := 1) rfl) hx11
 refine zs (fun w hO => zk hix11 hf rfl rfl) rfl hf rfl rfl fun a hf => ?_
 refine zs (fun w hO => zr (o := 0) (vs := [str x11.Name, str x11.Value]) zgO zcT (hSx11 _ (hO.sees (i := 1) rfl)) rfl rfl hf rfl) rfl hf rfl rfl fun a hf => ?_
 refine zs (fun w hO => zh hf rfl) rfl hf rfl rfl fun a hf => ?_
 refine zs (fun w hO => zh hf rfl) rfl hf rfl rfl fun a hf => ?_
 obtain ⟨x14, hx14, hm⟩ := ob hm
 obtain ⟨b15, o16, hix14, hSx14⟩ := zcV (enc := zb) (sz := 2) (xs := x_b) 49 Tryz.underlying49 zcT (by decide) (fun _ => rfl) (hO.sees (i := 0) rfl) hx14
 refine zs (fun w hO => zk hix14 hf rfl rfl) rfl hf rfl rfl fun a hf => ?_
 refine zs (fun w hO => zr (o := 0) (vs := [str x14.Name, str x14.Value]) zgO zcT (hSx14 _ (hO.sees (i := 0) rfl)) rfl rfl hf rfl) rfl hf rfl rfl fun a hf => ?_
 refine zs (fun w hO => zjD (by kernel_rfl) (eq_57 x11 x14) hf rfl rfl) rfl hf rfl rfl fun a hf => ?_
 refine wpQuiet_nil ?_
 intro w hO
 refine S.no tb ?_ hf hO hm
 refine br rfl (fun hc18 => ?_) fun hc18 => ?_
 exact rt Tryz.results22 rfl
 refine bi rfl fun i21 hi21 => ?_
 exact en rfl fun _ _ j => ⟨_, Nat.lt_succ_self _, i21, j rfl⟩
 exact rt Tryz.results22 rfl

theorem zec (x_env : api_Env) (R : Bool) (w0 : World) (hG : zbf w0) {x_env_p0 : Option Addr} {x_env_c0 : Nat} (hs0 : zL w0 x_env_p0 (cells za x_env.Domains)) (hc0 : x_env.Domains.length ≤ x_env_c0) {x_env_p1 : Option Addr} {x_env_c1 : Nat} (hs1 : zL w0 x_env_p1 (cells za x_env.Locations)) (hc1 : x_env.Locations.length ≤ x_env_c1) (hm : za9 x_env = some R) :
    Calls Tryz.prog 4 #[.agg #[str x_env.Client, str x_env.Host, str x_env.Scheme, str x_env.By, .slice x_env_p0 x_env.Domains.length x_env_c0, .slice x_env_p1 x_env.Locations.length x_env_c1]] w0 (Ret w0 (fun R => .bool R) R) := by
 rw [za9] at hm
 have hF : zI [] := zg
 have hO : Dk.Own w0 [] w0 [] := Dk.Own.refl w0
 have hO := hO.addShr hs0 (by simp [Res.shared])
 have hO := hO.addShr hs1 (by simp [Res.shared])
 refine S.enter tb Tryz.func4 rfl Tryz.ntmps4 rfl ?_ hO hm
 refine bo rfl fun b1 => ?_
 refine cl c_17 rfl (fun r3 w hr3 hO => zif r3 _ (hG.own hF hO) hr3) fun r3 hr3 => ?_
 refine br rfl (fun hc5 => ?_) fun hc5 => ?_
 exact rt Tryz.results4 rfl
 refine ld 0 rfl rfl ?_
 refine rw_ rfl fun a w hf hO hm => ?_
 obtain ⟨r8, hr8, hm⟩ := ob hm
 refine zw (zn c_18 hf (vs := [.agg #[str x_env.Client, str x_env.Host, str x_env.Scheme, str x_env.By, .slice x_env_p0 x_env.Domains.length x_env_c0, .slice x_env_p1 x_env.Locations.length x_env_c1]]) rfl) rfl hf rfl rfl (zjW x_env r8 _ (hG.own hF hO).1 (hO.sees (i := 2) rfl) hc0 (hO.sees (i := 1) rfl) hc1 hr8) ?_
 rintro e w' ⟨p9, c10, p11, c12, he, hO'⟩
 refine ⟨_, he, fun a hf => ?_⟩
 have hO := hO.call hO' (by simp [Res.shared])
 refine S.op tb ?_ hf hO hm
 refine st 2 rfl rfl ?_
 refine ld 2 rfl rfl ?_
 refine rw_ rfl fun a w hf hO hm => ?_
 obtain ⟨r14, hr14, hm⟩ := ob hm
 refine zw (zn c_19 hf (vs := [.agg #[str r8.Client, str r8.Host, str r8.Scheme, str r8.By, .slice p9 r8.Domains.length c10, .slice p11 r8.Locations.length c12]]) rfl) rfl hf rfl rfl (zd6 r8 r14 _ (hG.own hF hO) (hO.rowSees (i := 0) rfl) (hO.rowCap (i := 0) rfl) (hO.rowSees (i := 1) rfl) (hO.rowCap (i := 1) rfl) hr14) ?_
 rintro e w' ⟨p15, c16, he, hO'⟩
 refine ⟨_, he, fun a hf => ?_⟩
 have hO := hO.call hO' (by simp [Res.shared])
 refine S.op tb ?_ hf hO hm
 refine cl c_20 rfl (fun r18 w hr18 hO => zjf r14 r18 _ (hG.own hF hO).1 (hO.rowSees (i := 0) rfl) (hO.rowCap (i := 0) rfl) hr18) fun r18 hr18 => ?_
 refine rw_ rfl fun a w hf hO hm => ?_
 obtain ⟨r20, hr20, hm⟩ := ob hm
 refine zw (zn c_21 hf (vs := [str r18.1]) rfl) rfl hf rfl rfl (zfN r18.1 r20 _ (hG.own hF hO).1 hr20) ?_
 rintro e w' ⟨p21, c22, he, hO'⟩
 refine ⟨_, he, fun a hf => ?_⟩
 have hO := hO.call hO' (by simp [Res.shared])
 refine S.op tb ?_ hf hO hm
 refine jv 0 [] [0, 1, 2, 3, 4, 5, 6] (fun J E L => ∃ (t37 : Bool), J ((2, .bool t37) :: E) (L) (zB t37)) rfl ?_ ?_
 refine rc_ rfl fun a w hf hO hm => ?_
 obtain ⟨r24, hr24, hm⟩ := ob hm
 obtain ⟨r27, hr27, hm⟩ := ob hm
 rcases zdt (r27) with hc28 | hc28
 have hm := it hc28 hm
 obtain ⟨r29, hr29, hm⟩ := ob hm
 obtain ⟨x30, hx30, hm⟩ := ob hm
 obtain ⟨b31, o32, hix30, hSx30, hAx30⟩ := zaV (enc := zb) (sz := 2) (xs := r14) 49 Tryz.underlying49 zcT (by decide) (fun _ => rfl) hO (i := 1) rfl hx30
 rcases zdt (r29 == x30.Value) with hc33 | hc33
 have hm := it hc33 hm
 rcases zdt (!(r18.2 == 0)) with hc34 | hc34
 have hm := it hc34 hm
 refine zdY (S := Option Addr × Nat) (E0 := [(1, ptr b1 0), (3, .slice p15 r14.length c16), (5, int r18.2), (6, .slice p21 r20.1.length c22), (7, int r20.2)]) (by kernel_rfl) (fun k σ w => match k with | 0 => Dk.Own w0 [] w [.row (.slice p21 r20.1.length c22) 57 2 r20.1.length (cells zb r20.1), .row (.slice p15 r14.length c16) 57 2 r14.length (cells zb r14), .row (.slice p9 r8.Domains.length c10) 87 2 r8.Domains.length (cells za r8.Domains), .row (.slice p11 r8.Locations.length c12) 87 2 r8.Locations.length (cells za r8.Locations), .blk b1 [str r8.Client, str r8.Host, str r8.Scheme, str r8.By, .slice p9 r8.Domains.length c10, .slice p11 r8.Locations.length c12] 47, .shr x_env_p1 (cells za x_env.Locations), .shr x_env_p0 (cells za x_env.Domains)] | 1 => Dk.Own w0 [] w [.row (.slice (σ.1) r24.length (σ.2)) 57 2 r24.length (cells zb r24), .row (.slice p21 r20.1.length c22) 57 2 r20.1.length (cells zb r20.1), .row (.slice p15 r14.length c16) 57 2 r14.length (cells zb r14), .row (.slice p9 r8.Domains.length c10) 87 2 r8.Domains.length (cells za r8.Domains), .row (.slice p11 r8.Locations.length c12) 87 2 r8.Locations.length (cells za r8.Locations), .blk b1 [str r8.Client, str r8.Host, str r8.Scheme, str r8.By, .slice p9 r8.Domains.length c10, .slice p11 r8.Locations.length c12] 47, .shr x_env_p1 (cells za x_env.Locations), .shr x_env_p0 (cells za x_env.Domains)] | 2 => Dk.Own w0 [] w [.row (.slice (σ.1) r24.length (σ.2)) 57 2 r24.length (cells zb r24), .row (.slice p21 r20.1.length c22) 57 2 r20.1.length (cells zb r20.1), .row (.slice p15 r14.length c16) 57 2 r14.length (cells zb r14), .row (.slice p9 r8.Domains.length c10) 87 2 r8.Domains.length (cells za r8.Domains), .row (.slice p11 r8.Locations.length c12) 87 2 r8.Locations.length (cells za r8.Locations), .blk b1 [str r8.Client, str r8.Host, str r8.Scheme, str r8.By, .slice p9 r8.Domains.length c10, .slice p11 r8.Locations.length c12] 47, .shr x_env_p1 (cells za x_env.Locations), .shr x_env_p0 (cells za x_env.Domains)] | _ => Dk.Own w0 [] w [.row (.slice (σ.1) r24.length (σ.2)) 57 2 r24.length (cells zb r24), .row (.slice p21 r20.1.length c22) 57 2 r20.1.length (cells zb r20.1), .row (.slice p15 r14.length c16) 57 2 r14.length (cells zb r14), .row (.slice p9 r8.Domains.length c10) 87 2 r8.Domains.length (cells za r8.Domains), .row (.slice p11 r8.Locations.length c12) 87 2 r8.Locations.length (cells za r8.Locations), .blk b1 [str r8.Client, str r8.Host, str r8.Scheme, str r8.By, .slice p9 r8.Domains.length c10, .slice p11 r8.Locations.length c12] 47, .shr x_env_p1 (cells za x_env.Locations), .shr x_env_p0 (cells za x_env.Domains)]) (fun σ => [⟨[(3, .slice p15 r14.length c16)], some (24, .slice p15 r14.length c16)⟩, ⟨[(1, ptr b1 0)], some (25, .agg #[str r8.Client, str r8.Host, str r8.Scheme, str r8.By, .slice p9 r8.Domains.length c10, .slice p11 r8.Locations.length c12])⟩, ⟨[(25, .agg #[str r8.Client, str r8.Host, str r8.Scheme, str r8.By, .slice p9 r8.Domains.length c10, .slice p11 r8.Locations.length c12])], some (26, .slice (σ.1) r24.length (σ.2))⟩, ⟨[(24, .slice p15 r14.length c16), (26, .slice (σ.1) r24.length (σ.2))], some (27, .bool r27)⟩, ⟨[(27, .bool r27)], some (28, .bool r27)⟩, ⟨[(1, ptr b1 0), (28, .bool r27)], some (29, ptr b1 0)⟩, ⟨[(29, ptr b1 0), (28, .bool r27)], some (30, str r8.Client)⟩, ⟨[(30, str r8.Client), (28, .bool r27)], some (31, str r29)⟩, ⟨[(3, .slice p15 r14.length c16), (28, .bool r27)], some (32, .slice p15 r14.length c16)⟩, ⟨[(32, .slice p15 r14.length c16), (28, .bool r27)], some (33, ptr b31 o32)⟩, ⟨[(33, ptr b31 o32), (28, .bool r27)], some (34, ptr b31 (o32 + 1))⟩, ⟨[(34, ptr b31 (o32 + 1)), (28, .bool r27)], some (35, str x30.Value)⟩, ⟨[(31, str r29), (35, str x30.Value), (28, .bool r27)], some (36, .bool (r29 == x30.Value))⟩, ⟨[(28, .bool r27), (36, .bool (r29 == x30.Value))], some (37, .bool (r29 == x30.Value))⟩, ⟨[(37, .bool (r29 == x30.Value))], some (38, .bool (r29 == x30.Value))⟩, ⟨[(5, int r18.2), (38, .bool (r29 == x30.Value))], some (39, int r18.2)⟩, ⟨[(39, int r18.2), (38, .bool (r29 == x30.Value))], some (40, .bool (!(r18.2 == 0)))⟩, ⟨[(40, .bool (!(r18.2 == 0))), (38, .bool (r29 == x30.Value))], some (41, .bool (!(r18.2 == 0)))⟩, ⟨[(41, .bool (!(r18.2 == 0)))], some (42, undef)⟩, ⟨[(41, .bool (!(r18.2 == 0)))], some (43, undef)⟩, ⟨[(41, .bool (!(r18.2 == 0)))], some (44, undef)⟩, ⟨[(44, undef)], some (45, undef)⟩, ⟨[(44, undef)], some (46, undef)⟩, ⟨[(44, undef)], some (47, undef)⟩, ⟨[(41, .bool (!(r18.2 == 0)))], some (48, undef)⟩, ⟨[(41, .bool (!(r18.2 == 0))), (48, undef), (38, .bool (r29 == x30.Value))], some (49, .bool true)⟩, ⟨[(38, .bool (r29 == x30.Value)), (49, .bool true)], some (50, .bool true)⟩, ⟨[(50, .bool true)], some (2, .bool true)⟩]) (none, 0) [2, 3, 7] [18, 19, 20, 21, 22, 23, 24] ⟨zD rfl rfl, zD rfl rfl, zD rfl rfl, zD rfl rfl, zD rfl rfl, zi (u := fun σ => r27) rfl (fun σ => rfl) rfl (fun σ => rfl) (fun σ => by rw [hc28] <;> rfl), zi (u := fun σ => r27) rfl (fun σ => rfl) rfl (fun σ => rfl) (fun σ => by rw [hc28] <;> rfl), zi (u := fun σ => r27) rfl (fun σ => rfl) rfl (fun σ => rfl) (fun σ => by rw [hc28] <;> rfl), zi (u := fun σ => r27) rfl (fun σ => rfl) rfl (fun σ => rfl) (fun σ => by rw [hc28] <;> rfl), zi (u := fun σ => r27) rfl (fun σ => rfl) rfl (fun σ => rfl) (fun σ => by rw [hc28] <;> rfl), zi (u := fun σ => r27) rfl (fun σ => rfl) rfl (fun σ => rfl) (fun σ => by rw [hc28] <;> rfl), zi (u := fun σ => r27) rfl (fun σ => rfl) rfl (fun σ => rfl) (fun σ => by rw [hc28] <;> rfl), zi (u := fun σ => r27) rfl (fun σ => rfl) rfl (fun σ => rfl) (fun σ => by rw [hc28] <;> rfl), zD rfl rfl, zD rfl rfl, zi (u := fun σ => r29 == x30.Value) rfl (fun σ => rfl) rfl (fun σ => rfl) (fun σ => by rw [hc33] <;> rfl), zi (u := fun σ => r29 == x30.Value) rfl (fun σ => rfl) rfl (fun σ => rfl) (fun σ => by rw [hc33] <;> rfl), zi (u := fun σ => r29 == x30.Value) rfl (fun σ => rfl) rfl (fun σ => rfl) (fun σ => by rw [hc33] <;> rfl), zi (u := fun σ => !(r18.2 == 0)) rfl (fun σ => rfl) rfl (fun σ => rfl) (fun σ => by rw [hc34] <;> rfl), zi (u := fun σ => !(r18.2 == 0)) rfl (fun σ => rfl) rfl (fun σ => rfl) (fun σ => by rw [hc34] <;> rfl), zi (u := fun σ => !(r18.2 == 0)) rfl (fun σ => rfl) rfl (fun σ => rfl) (fun σ => by rw [hc34] <;> rfl), za0 rfl (fun σ => rfl) rfl (fun σ => rfl) rfl, za0 rfl (fun σ => rfl) rfl (fun σ => rfl) rfl, za0 rfl (fun σ => rfl) rfl (fun σ => rfl) rfl, zi (u := fun σ => !(r18.2 == 0)) rfl (fun σ => rfl) rfl (fun σ => rfl) (fun σ => by rw [hc34] <;> rfl), zi (u := fun σ => r29 == x30.Value) rfl (fun σ => rfl) rfl (fun σ => rfl) (fun σ => by rw [hc33] <;> rfl), zD rfl rfl, zD rfl rfl, trivial⟩ (fun σ => ⟨.inl rfl, .inl rfl, .inl rfl, .inl rfl, .inl rfl, .inl rfl, .inl rfl, .inl rfl, .inl rfl, .inl rfl, .inl rfl, .inl rfl, .inl rfl, .inl rfl, .inl rfl, .inl rfl, .inl rfl, .inl rfl, .inr ⟨rfl, rfl⟩, .inr ⟨rfl, rfl⟩, .inr ⟨rfl, rfl⟩, .inr ⟨rfl, rfl⟩, .inr ⟨rfl, rfl⟩, .inr ⟨rfl, rfl⟩, .inr ⟨rfl, rfl⟩, .inl rfl, .inl rfl, .inl rfl, trivial⟩) (fun _ => rfl) (fun _ => rfl) (fun _ => rfl) rfl rfl (by decide) rfl hO.drew (hf.cons rfl (hf.cons rfl (hf.cons rfl (hf.cons rfl (hf.cons rfl hf.nil))))) (fun σ => ⟨⟨rfl, trivial⟩, ⟨rfl, trivial⟩, ⟨rfl, trivial⟩, ⟨rfl, rfl, trivial⟩, ⟨rfl, trivial⟩, ⟨rfl, rfl, trivial⟩, ⟨rfl, rfl, trivial⟩, ⟨rfl, rfl, trivial⟩, ⟨rfl, rfl, trivial⟩, ⟨rfl, rfl, trivial⟩, ⟨rfl, rfl, trivial⟩, ⟨rfl, rfl, trivial⟩, ⟨rfl, rfl, rfl, trivial⟩, ⟨rfl, rfl, trivial⟩, ⟨rfl, trivial⟩, ⟨rfl, rfl, trivial⟩, ⟨rfl, rfl, trivial⟩, ⟨rfl, rfl, trivial⟩, ⟨rfl, trivial⟩, ⟨rfl, trivial⟩, ⟨rfl, trivial⟩, ⟨rfl, trivial⟩, ⟨rfl, trivial⟩, ⟨rfl, trivial⟩, ⟨rfl, trivial⟩, ⟨rfl, rfl, rfl, trivial⟩, ⟨rfl, rfl, trivial⟩, ⟨rfl, trivial⟩, trivial⟩) ⟨.inr ⟨rfl, zc rfl (fun σ => rfl) (fun σ => rfl) (fun σ a w k _ _ _ _ hf => zh hf rfl)⟩, .inr ⟨rfl, zc rfl (fun σ => rfl) (fun σ => rfl) (fun σ a w k hk hlo hup hst hf => match k, hk, hlo, hup, hst, hf with | 0, _, _, _, hst, hf => have hO : Dk.Own w0 [] w _ := hst; zr (o := 0) (vs := [str r8.Client, str r8.Host, str r8.Scheme, str r8.By, .slice p9 r8.Domains.length c10, .slice p11 r8.Locations.length c12]) zb1 zb2 (hO.blkSees (i := 4) rfl) rfl rfl hf rfl | 1, _, _, _, hst, hf => have hO : Dk.Own w0 [] w _ := hst; zr (o := 0) (vs := [str r8.Client, str r8.Host, str r8.Scheme, str r8.By, .slice p9 r8.Domains.length c10, .slice p11 r8.Locations.length c12]) zb1 zb2 (hO.blkSees (i := 5) rfl) rfl rfl hf rfl | 2, _, _, _, hst, hf => have hO : Dk.Own w0 [] w _ := hst; zr (o := 0) (vs := [str r8.Client, str r8.Host, str r8.Scheme, str r8.By, .slice p9 r8.Domains.length c10, .slice p11 r8.Locations.length c12]) zb1 zb2 (hO.blkSees (i := 5) rfl) rfl rfl hf rfl | 3, _, _, _, hst, hf => have hO : Dk.Own w0 [] w _ := hst; zr (o := 0) (vs := [str r8.Client, str r8.Host, str r8.Scheme, str r8.By, .slice p9 r8.Domains.length c10, .slice p11 r8.Locations.length c12]) zb1 zb2 (hO.blkSees (i := 5) rfl) rfl rfl hf rfl | k + 4, hk, _, _, _, _ => absurd hk (by simp))⟩, .inr ⟨rfl, zaS rfl (fun σ => rfl) (fun σ => rfl) rfl (fun σ a w (_ : _) hf => zn c_23 hf (vs := [.agg #[str r8.Client, str r8.Host, str r8.Scheme, str r8.By, .slice p9 r8.Domains.length c10, .slice p11 r8.Locations.length c12]]) rfl) (fun σ w (hO : Dk.Own w0 [] w _) => (zcu r8 r24 _ (hG.own hF hO).1 (hO.rowSees (i := 2) rfl) (hO.rowCap (i := 2) rfl) (hO.rowSees (i := 3) rfl) (hO.rowCap (i := 3) rfl) hr24).mono fun e w' h => by obtain ⟨p25, c26, he, hO'⟩ := h; exact ⟨(p25, c26), he, hO.call hO' (by simp [Res.shared]), .inr rfl, .inr rfl, .inl rfl, .inl rfl, .inr rfl, .inr rfl, .inr rfl, .inr rfl, .inr rfl, .inr rfl, .inr rfl, .inr rfl, .inr rfl, .inr rfl, .inr rfl, .inr rfl, .inr rfl, .inr rfl, .inr rfl, .inr rfl, .inr rfl, .inr rfl, .inr rfl, .inr rfl, .inr rfl, .inr rfl, .inr rfl, .inr rfl, trivial⟩)⟩, .inr ⟨rfl, zaS rfl (fun σ => rfl) (fun σ => rfl) rfl (fun σ a w (_ : _) hf => zn c_22 hf (vs := [.slice p15 r14.length c16, .slice (σ.1) r24.length (σ.2)]) rfl) (fun σ w (hO : Dk.Own w0 [] w _) => (zbT r14 r24 r27 _ (hG.own hF hO).1 (hO.rowSees (i := 2) rfl) (hO.rowCap (i := 2) rfl) (hO.rowSees (i := 0) rfl) (hO.rowCap (i := 0) rfl) hr27).mono fun e w' h => by obtain ⟨he, hb⟩ := h; exact ⟨((σ.1), (σ.2)), he, hO.grow hb, .inr rfl, .inr rfl, .inr rfl, .inr rfl, .inr rfl, .inr rfl, .inr rfl, .inr rfl, .inr rfl, .inr rfl, .inr rfl, .inr rfl, .inr rfl, .inr rfl, .inr rfl, .inr rfl, .inr rfl, .inr rfl, .inr rfl, .inr rfl, .inr rfl, .inr rfl, .inr rfl, .inr rfl, .inr rfl, .inr rfl, .inr rfl, .inr rfl, trivial⟩)⟩, .inr ⟨rfl, zc rfl (fun σ => rfl) (fun σ => rfl) (fun σ a w k _ _ _ _ hf => zh hf rfl)⟩, .inr ⟨rfl, zc rfl (fun σ => rfl) (fun σ => rfl) (fun σ a w k _ _ _ _ hf => zC zf4 hf rfl)⟩, .inr ⟨rfl, zc rfl (fun σ => rfl) (fun σ => rfl) (fun σ a w k hk hlo hup hst hf => match k, hk, hlo, hup, hst, hf with | 0, _, _, _, hst, hf => have hO : Dk.Own w0 [] w _ := hst; ze (o := 0) zV (hO.blkSees (i := 4) rfl) rfl hf rfl | 1, _, _, _, hst, hf => have hO : Dk.Own w0 [] w _ := hst; ze (o := 0) zV (hO.blkSees (i := 5) rfl) rfl hf rfl | 2, _, _, _, hst, hf => have hO : Dk.Own w0 [] w _ := hst; ze (o := 0) zV (hO.blkSees (i := 5) rfl) rfl hf rfl | 3, _, _, _, hst, hf => have hO : Dk.Own w0 [] w _ := hst; ze (o := 0) zV (hO.blkSees (i := 5) rfl) rfl hf rfl | k + 4, hk, _, _, _, _ => absurd hk (by simp))⟩, .inr ⟨rfl, zaS rfl (fun σ => rfl) (fun σ => rfl) rfl (fun σ a w (_ : _) hf => zn c_24 hf (vs := [str r8.Client]) rfl) (fun σ w (hO : Dk.Own w0 [] w _) => (zbh r8.Client r29 _ (hG.own hF hO) hr29).mono fun e w' h => by obtain ⟨he, hb⟩ := h; exact ⟨((σ.1), (σ.2)), he, hO.grow hb, .inr rfl, .inr rfl, .inr rfl, .inr rfl, .inr rfl, .inr rfl, .inr rfl, .inr rfl, .inr rfl, .inr rfl, .inr rfl, .inr rfl, .inr rfl, .inr rfl, .inr rfl, .inr rfl, .inr rfl, .inr rfl, .inr rfl, .inr rfl, .inr rfl, .inr rfl, .inr rfl, .inr rfl, .inr rfl, .inr rfl, .inr rfl, .inr rfl, trivial⟩)⟩, .inr ⟨rfl, zc rfl (fun σ => rfl) (fun σ => rfl) (fun σ a w k _ _ _ _ hf => zh hf rfl)⟩, .inr ⟨rfl, zc rfl (fun σ => rfl) (fun σ => rfl) (fun σ a w k _ _ _ _ hf => zk hix30 hf rfl rfl)⟩, .inr ⟨rfl, zc rfl (fun σ => rfl) (fun σ => rfl) (fun σ a w k _ _ _ _ hf => zC zf5 hf rfl)⟩, .inr ⟨rfl, zc rfl (fun σ => rfl) (fun σ => rfl) (fun σ a w k hk hlo hup hst hf => match k, hk, hlo, hup, hst, hf with | 0, _, _, _, hst, hf => have hO : Dk.Own w0 [] w _ := hst; ze (o := 1) zV (hSx30 _ (hO.rowSees (i := 1) rfl)) rfl hf rfl | 1, _, _, _, hst, hf => have hO : Dk.Own w0 [] w _ := hst; ze (o := 1) zV (hSx30 _ (hO.rowSees (i := 2) rfl)) rfl hf rfl | 2, _, _, _, hst, hf => have hO : Dk.Own w0 [] w _ := hst; ze (o := 1) zV (hSx30 _ (hO.rowSees (i := 2) rfl)) rfl hf rfl | 3, _, _, _, hst, hf => have hO : Dk.Own w0 [] w _ := hst; ze (o := 1) zV (hSx30 _ (hO.rowSees (i := 2) rfl)) rfl hf rfl | k + 4, hk, _, _, _, _ => absurd hk (by simp))⟩, .inr ⟨rfl, zc rfl (fun σ => rfl) (fun σ => rfl) (fun σ a w k _ _ _ _ hf => zeN (l := r29) (m := x30.Value) hf rfl rfl)⟩, .inr ⟨rfl, zc rfl (fun σ => rfl) (fun σ => rfl) (fun σ a w k _ _ _ _ hf => zbV hf rfl hc28 rfl)⟩, .inr ⟨rfl, zc rfl (fun σ => rfl) (fun σ => rfl) (fun σ a w k _ _ _ _ hf => zh hf rfl)⟩, .inr ⟨rfl, zc rfl (fun σ => rfl) (fun σ => rfl) (fun σ a w k _ _ _ _ hf => zh hf rfl)⟩, .inr ⟨rfl, zc rfl (fun σ => rfl) (fun σ => rfl) (fun σ a w k _ _ _ _ hf => zi0 (m := r18.2) (n := 0) hf rfl rfl)⟩, .inr ⟨rfl, zc rfl (fun σ => rfl) (fun σ => rfl) (fun σ a w k _ _ _ _ hf => zh hf rfl)⟩, .inl rfl, .inl rfl, .inl rfl, .inl rfl, .inl rfl, .inl rfl, .inl rfl, .inr ⟨rfl, zc rfl (fun σ => rfl) (fun σ => rfl) (fun σ a w k _ _ _ _ hf => zbV hf rfl hc34 rfl)⟩, .inr ⟨rfl, zc rfl (fun σ => rfl) (fun σ => rfl) (fun σ a w k _ _ _ _ hf => zbV hf rfl hc33 rfl)⟩, .inr ⟨rfl, zc rfl (fun σ => rfl) (fun σ => rfl) (fun σ a w k _ _ _ _ hf => zay hf rfl)⟩, trivial⟩ ?_
 rintro ⟨p25, c26⟩ a w hf hO
 have hO : Dk.Own w0 [] w _ := hO
 have hf : Fits 51 [(2, .bool true)] a := (hf.cons rfl hf.nil)
 refine S.no tb ?_ hf hO hm
 exact ec [1, 2, 3, 4, 5, 6, 7] rfl rfl rfl fun _ _ j => ⟨true, j rfl⟩
 have hm := ie hc34 hm
 rcases zdt (r20.2 == 0) with hc35 | hc35
 have hm := it hc35 hm
 obtain ⟨r36, hr36, hm⟩ := ob hm
 refine zdY (S := Option Addr × Nat) (E0 := [(1, ptr b1 0), (3, .slice p15 r14.length c16), (5, int r18.2), (6, .slice p21 r20.1.length c22), (7, int r20.2)]) (by kernel_rfl) (fun k σ w => match k with | 0 => Dk.Own w0 [] w [.row (.slice p21 r20.1.length c22) 57 2 r20.1.length (cells zb r20.1), .row (.slice p15 r14.length c16) 57 2 r14.length (cells zb r14), .row (.slice p9 r8.Domains.length c10) 87 2 r8.Domains.length (cells za r8.Domains), .row (.slice p11 r8.Locations.length c12) 87 2 r8.Locations.length (cells za r8.Locations), .blk b1 [str r8.Client, str r8.Host, str r8.Scheme, str r8.By, .slice p9 r8.Domains.length c10, .slice p11 r8.Locations.length c12] 47, .shr x_env_p1 (cells za x_env.Locations), .shr x_env_p0 (cells za x_env.Domains)] | 1 => Dk.Own w0 [] w [.row (.slice (σ.1) r24.length (σ.2)) 57 2 r24.length (cells zb r24), .row (.slice p21 r20.1.length c22) 57 2 r20.1.length (cells zb r20.1), .row (.slice p15 r14.length c16) 57 2 r14.length (cells zb r14), .row (.slice p9 r8.Domains.length c10) 87 2 r8.Domains.length (cells za r8.Domains), .row (.slice p11 r8.Locations.length c12) 87 2 r8.Locations.length (cells za r8.Locations), .blk b1 [str r8.Client, str r8.Host, str r8.Scheme, str r8.By, .slice p9 r8.Domains.length c10, .slice p11 r8.Locations.length c12] 47, .shr x_env_p1 (cells za x_env.Locations), .shr x_env_p0 (cells za x_env.Domains)] | 2 => Dk.Own w0 [] w [.row (.slice (σ.1) r24.length (σ.2)) 57 2 r24.length (cells zb r24), .row (.slice p21 r20.1.length c22) 57 2 r20.1.length (cells zb r20.1), .row (.slice p15 r14.length c16) 57 2 r14.length (cells zb r14), .row (.slice p9 r8.Domains.length c10) 87 2 r8.Domains.length (cells za r8.Domains), .row (.slice p11 r8.Locations.length c12) 87 2 r8.Locations.length (cells za r8.Locations), .blk b1 [str r8.Client, str r8.Host, str r8.Scheme, str r8.By, .slice p9 r8.Domains.length c10, .slice p11 r8.Locations.length c12] 47, .shr x_env_p1 (cells za x_env.Locations), .shr x_env_p0 (cells za x_env.Domains)] | 3 => Dk.Own w0 [] w [.row (.slice (σ.1) r24.length (σ.2)) 57 2 r24.length (cells zb r24), .row (.slice p21 r20.1.length c22) 57 2 r20.1.length (cells zb r20.1), .row (.slice p15 r14.length c16) 57 2 r14.length (cells zb r14), .row (.slice p9 r8.Domains.length c10) 87 2 r8.Domains.length (cells za r8.Domains), .row (.slice p11 r8.Locations.length c12) 87 2 r8.Locations.length (cells za r8.Locations), .blk b1 [str r8.Client, str r8.Host, str r8.Scheme, str r8.By, .slice p9 r8.Domains.length c10, .slice p11 r8.Locations.length c12] 47, .shr x_env_p1 (cells za x_env.Locations), .shr x_env_p0 (cells za x_env.Domains)] | _ => Dk.Own w0 [] w [.row (.slice (σ.1) r24.length (σ.2)) 57 2 r24.length (cells zb r24), .row (.slice p21 r20.1.length c22) 57 2 r20.1.length (cells zb r20.1), .row (.slice p15 r14.length c16) 57 2 r14.length (cells zb r14), .row (.slice p9 r8.Domains.length c10) 87 2 r8.Domains.length (cells za r8.Domains), .row (.slice p11 r8.Locations.length c12) 87 2 r8.Locations.length (cells za r8.Locations), .blk b1 [str r8.Client, str r8.Host, str r8.Scheme, str r8.By, .slice p9 r8.Domains.length c10, .slice p11 r8.Locations.length c12] 47, .shr x_env_p1 (cells za x_env.Locations), .shr x_env_p0 (cells za x_env.Domains)]) (fun σ => [⟨[(3, .slice p15 r14.length c16)], some (24, .slice p15 r14.length c16)⟩, ⟨[(1, ptr b1 0)], some (25, .agg #[str r8.Client, str r8.Host, str r8.Scheme, str r8.By, .slice p9 r8.Domains.length c10, .slice p11 r8.Locations.length c12])⟩, ⟨[(25, .agg #[str r8.Client, str r8.Host, str r8.Scheme, str r8.By, .slice p9 r8.Domains.length c10, .slice p11 r8.Locations.length c12])], some (26, .slice (σ.1) r24.length (σ.2))⟩, ⟨[(24, .slice p15 r14.length c16), (26, .slice (σ.1) r24.length (σ.2))], some (27, .bool r27)⟩, ⟨[(27, .bool r27)], some (28, .bool r27)⟩, ⟨[(1, ptr b1 0), (28, .bool r27)], some (29, ptr b1 0)⟩, ⟨[(29, ptr b1 0), (28, .bool r27)], some (30, str r8.Client)⟩, ⟨[(30, str r8.Client), (28, .bool r27)], some (31, str r29)⟩, ⟨[(3, .slice p15 r14.length c16), (28, .bool r27)], some (32, .slice p15 r14.length c16)⟩, ⟨[(32, .slice p15 r14.length c16), (28, .bool r27)], some (33, ptr b31 o32)⟩, ⟨[(33, ptr b31 o32), (28, .bool r27)], some (34, ptr b31 (o32 + 1))⟩, ⟨[(34, ptr b31 (o32 + 1)), (28, .bool r27)], some (35, str x30.Value)⟩, ⟨[(31, str r29), (35, str x30.Value), (28, .bool r27)], some (36, .bool (r29 == x30.Value))⟩, ⟨[(28, .bool r27), (36, .bool (r29 == x30.Value))], some (37, .bool (r29 == x30.Value))⟩, ⟨[(37, .bool (r29 == x30.Value))], some (38, .bool (r29 == x30.Value))⟩, ⟨[(5, int r18.2), (38, .bool (r29 == x30.Value))], some (39, int r18.2)⟩, ⟨[(39, int r18.2), (38, .bool (r29 == x30.Value))], some (40, .bool (!(r18.2 == 0)))⟩, ⟨[(40, .bool (!(r18.2 == 0))), (38, .bool (r29 == x30.Value))], some (41, .bool (!(r18.2 == 0)))⟩, ⟨[(7, int r20.2), (41, .bool (!(r18.2 == 0)))], some (42, int r20.2)⟩, ⟨[(42, int r20.2), (41, .bool (!(r18.2 == 0)))], some (43, .bool (r20.2 == 0))⟩, ⟨[(43, .bool (r20.2 == 0)), (41, .bool (!(r18.2 == 0)))], some (44, .bool (r20.2 == 0))⟩, ⟨[(3, .slice p15 r14.length c16), (44, .bool (r20.2 == 0))], some (45, .slice p15 r14.length c16)⟩, ⟨[(6, .slice p21 r20.1.length c22), (44, .bool (r20.2 == 0))], some (46, .slice p21 r20.1.length c22)⟩, ⟨[(45, .slice p15 r14.length c16), (46, .slice p21 r20.1.length c22), (44, .bool (r20.2 == 0))], some (47, .bool r36)⟩, ⟨[(44, .bool (r20.2 == 0)), (47, .bool r36), (41, .bool (!(r18.2 == 0)))], some (48, .bool r36)⟩, ⟨[(41, .bool (!(r18.2 == 0))), (48, .bool r36), (38, .bool (r29 == x30.Value))], some (49, .bool r36)⟩, ⟨[(38, .bool (r29 == x30.Value)), (49, .bool r36)], some (50, .bool r36)⟩, ⟨[(50, .bool r36)], some (2, .bool r36)⟩]) (none, 0) [2, 3, 7, 23] [] ⟨zD rfl rfl, zD rfl rfl, zD rfl rfl, zD rfl rfl, zD rfl rfl, zi (u := fun σ => r27) rfl (fun σ => rfl) rfl (fun σ => rfl) (fun σ => by rw [hc28] <;> rfl), zi (u := fun σ => r27) rfl (fun σ => rfl) rfl (fun σ => rfl) (fun σ => by rw [hc28] <;> rfl), zi (u := fun σ => r27) rfl (fun σ => rfl) rfl (fun σ => rfl) (fun σ => by rw [hc28] <;> rfl), zi (u := fun σ => r27) rfl (fun σ => rfl) rfl (fun σ => rfl) (fun σ => by rw [hc28] <;> rfl), zi (u := fun σ => r27) rfl (fun σ => rfl) rfl (fun σ => rfl) (fun σ => by rw [hc28] <;> rfl), zi (u := fun σ => r27) rfl (fun σ => rfl) rfl (fun σ => rfl) (fun σ => by rw [hc28] <;> rfl), zi (u := fun σ => r27) rfl (fun σ => rfl) rfl (fun σ => rfl) (fun σ => by rw [hc28] <;> rfl), zi (u := fun σ => r27) rfl (fun σ => rfl) rfl (fun σ => rfl) (fun σ => by rw [hc28] <;> rfl), zD rfl rfl, zD rfl rfl, zi (u := fun σ => r29 == x30.Value) rfl (fun σ => rfl) rfl (fun σ => rfl) (fun σ => by rw [hc33] <;> rfl), zi (u := fun σ => r29 == x30.Value) rfl (fun σ => rfl) rfl (fun σ => rfl) (fun σ => by rw [hc33] <;> rfl), zi (u := fun σ => r29 == x30.Value) rfl (fun σ => rfl) rfl (fun σ => rfl) (fun σ => by rw [hc33] <;> rfl), zi (u := fun σ => !(r18.2 == 0)) rfl (fun σ => rfl) rfl (fun σ => rfl) (fun σ => by rw [hc34] <;> rfl), zi (u := fun σ => !(r18.2 == 0)) rfl (fun σ => rfl) rfl (fun σ => rfl) (fun σ => by rw [hc34] <;> rfl), zi (u := fun σ => !(r18.2 == 0)) rfl (fun σ => rfl) rfl (fun σ => rfl) (fun σ => by rw [hc34] <;> rfl), zi (u := fun σ => r20.2 == 0) rfl (fun σ => rfl) rfl (fun σ => rfl) (fun σ => by rw [hc35] <;> rfl), zi (u := fun σ => r20.2 == 0) rfl (fun σ => rfl) rfl (fun σ => rfl) (fun σ => by rw [hc35] <;> rfl), zi (u := fun σ => r20.2 == 0) rfl (fun σ => rfl) rfl (fun σ => rfl) (fun σ => by rw [hc35] <;> rfl), zi (u := fun σ => !(r18.2 == 0)) rfl (fun σ => rfl) rfl (fun σ => rfl) (fun σ => by rw [hc34] <;> rfl), zi (u := fun σ => r29 == x30.Value) rfl (fun σ => rfl) rfl (fun σ => rfl) (fun σ => by rw [hc33] <;> rfl), zD rfl rfl, zD rfl rfl, trivial⟩ (fun σ => ⟨.inl rfl, .inl rfl, .inl rfl, .inl rfl, .inl rfl, .inl rfl, .inl rfl, .inl rfl, .inl rfl, .inl rfl, .inl rfl, .inl rfl, .inl rfl, .inl rfl, .inl rfl, .inl rfl, .inl rfl, .inl rfl, .inl rfl, .inl rfl, .inl rfl, .inl rfl, .inl rfl, .inl rfl, .inl rfl, .inl rfl, .inl rfl, .inl rfl, trivial⟩) (fun _ => rfl) (fun _ => rfl) (fun _ => rfl) rfl rfl (by decide) rfl hO.drew (hf.cons rfl (hf.cons rfl (hf.cons rfl (hf.cons rfl (hf.cons rfl hf.nil))))) (fun σ => ⟨⟨rfl, trivial⟩, ⟨rfl, trivial⟩, ⟨rfl, trivial⟩, ⟨rfl, rfl, trivial⟩, ⟨rfl, trivial⟩, ⟨rfl, rfl, trivial⟩, ⟨rfl, rfl, trivial⟩, ⟨rfl, rfl, trivial⟩, ⟨rfl, rfl, trivial⟩, ⟨rfl, rfl, trivial⟩, ⟨rfl, rfl, trivial⟩, ⟨rfl, rfl, trivial⟩, ⟨rfl, rfl, rfl, trivial⟩, ⟨rfl, rfl, trivial⟩, ⟨rfl, trivial⟩, ⟨rfl, rfl, trivial⟩, ⟨rfl, rfl, trivial⟩, ⟨rfl, rfl, trivial⟩, ⟨rfl, rfl, trivial⟩, ⟨rfl, rfl, trivial⟩, ⟨rfl, rfl, trivial⟩, ⟨rfl, rfl, trivial⟩, ⟨rfl, rfl, trivial⟩, ⟨rfl, rfl, rfl, trivial⟩, ⟨rfl, rfl, rfl, trivial⟩, ⟨rfl, rfl, rfl, trivial⟩, ⟨rfl, rfl, trivial⟩, ⟨rfl, trivial⟩, trivial⟩) ⟨.inr ⟨rfl, zc rfl (fun σ => rfl) (fun σ => rfl) (fun σ a w k _ _ _ _ hf => zh hf rfl)⟩, .inr ⟨rfl, zc rfl (fun σ => rfl) (fun σ => rfl) (fun σ a w k hk hlo hup hst hf => match k, hk, hlo, hup, hst, hf with | 0, _, _, _, hst, hf => have hO : Dk.Own w0 [] w _ := hst; zr (o := 0) (vs := [str r8.Client, str r8.Host, str r8.Scheme, str r8.By, .slice p9 r8.Domains.length c10, .slice p11 r8.Locations.length c12]) zb1 zb2 (hO.blkSees (i := 4) rfl) rfl rfl hf rfl | 1, _, _, _, hst, hf => have hO : Dk.Own w0 [] w _ := hst; zr (o := 0) (vs := [str r8.Client, str r8.Host, str r8.Scheme, str r8.By, .slice p9 r8.Domains.length c10, .slice p11 r8.Locations.length c12]) zb1 zb2 (hO.blkSees (i := 5) rfl) rfl rfl hf rfl | 2, _, _, _, hst, hf => have hO : Dk.Own w0 [] w _ := hst; zr (o := 0) (vs := [str r8.Client, str r8.Host, str r8.Scheme, str r8.By, .slice p9 r8.Domains.length c10, .slice p11 r8.Locations.length c12]) zb1 zb2 (hO.blkSees (i := 5) rfl) rfl rfl hf rfl | 3, _, _, _, hst, hf => have hO : Dk.Own w0 [] w _ := hst; zr (o := 0) (vs := [str r8.Client, str r8.Host, str r8.Scheme, str r8.By, .slice p9 r8.Domains.length c10, .slice p11 r8.Locations.length c12]) zb1 zb2 (hO.blkSees (i := 5) rfl) rfl rfl hf rfl | 4, _, _, _, hst, hf => have hO : Dk.Own w0 [] w _ := hst; zr (o := 0) (vs := [str r8.Client, str r8.Host, str r8.Scheme, str r8.By, .slice p9 r8.Domains.length c10, .slice p11 r8.Locations.length c12]) zb1 zb2 (hO.blkSees (i := 5) rfl) rfl rfl hf rfl | k + 5, hk, _, _, _, _ => absurd hk (by simp))⟩, .inr ⟨rfl, zaS rfl (fun σ => rfl) (fun σ => rfl) rfl (fun σ a w (_ : _) hf => zn c_23 hf (vs := [.agg #[str r8.Client, str r8.Host, str r8.Scheme, str r8.By, .slice p9 r8.Domains.length c10, .slice p11 r8.Locations.length c12]]) rfl) (fun σ w (hO : Dk.Own w0 [] w _) => (zcu r8 r24 _ (hG.own hF hO).1 (hO.rowSees (i := 2) rfl) (hO.rowCap (i := 2) rfl) (hO.rowSees (i := 3) rfl) (hO.rowCap (i := 3) rfl) hr24).mono fun e w' h => by obtain ⟨p25, c26, he, hO'⟩ := h; exact ⟨(p25, c26), he, hO.call hO' (by simp [Res.shared]), .inr rfl, .inr rfl, .inl rfl, .inl rfl, .inr rfl, .inr rfl, .inr rfl, .inr rfl, .inr rfl, .inr rfl, .inr rfl, .inr rfl, .inr rfl, .inr rfl, .inr rfl, .inr rfl, .inr rfl, .inr rfl, .inr rfl, .inr rfl, .inr rfl, .inr rfl, .inr rfl, .inr rfl, .inr rfl, .inr rfl, .inr rfl, .inr rfl, trivial⟩)⟩, .inr ⟨rfl, zaS rfl (fun σ => rfl) (fun σ => rfl) rfl (fun σ a w (_ : _) hf => zn c_22 hf (vs := [.slice p15 r14.length c16, .slice (σ.1) r24.length (σ.2)]) rfl) (fun σ w (hO : Dk.Own w0 [] w _) => (zbT r14 r24 r27 _ (hG.own hF hO).1 (hO.rowSees (i := 2) rfl) (hO.rowCap (i := 2) rfl) (hO.rowSees (i := 0) rfl) (hO.rowCap (i := 0) rfl) hr27).mono fun e w' h => by obtain ⟨he, hb⟩ := h; exact ⟨((σ.1), (σ.2)), he, hO.grow hb, .inr rfl, .inr rfl, .inr rfl, .inr rfl, .inr rfl, .inr rfl, .inr rfl, .inr rfl, .inr rfl, .inr rfl, .inr rfl, .inr rfl, .inr rfl, .inr rfl, .inr rfl, .inr rfl, .inr rfl, .inr rfl, .inr rfl, .inr rfl, .inr rfl, .inr rfl, .inr rfl, .inr rfl, .inr rfl, .inr rfl, .inr rfl, .inr rfl, trivial⟩)⟩, .inr ⟨rfl, zc rfl (fun σ => rfl) (fun σ => rfl) (fun σ a w k _ _ _ _ hf => zh hf rfl)⟩, .inr ⟨rfl, zc rfl (fun σ => rfl) (fun σ => rfl) (fun σ a w k _ _ _ _ hf => zC zf4 hf rfl)⟩, .inr ⟨rfl, zc rfl (fun σ => rfl) (fun σ => rfl) (fun σ a w k hk hlo hup hst hf => match k, hk, hlo, hup, hst, hf with | 0, _, _, _, hst, hf => have hO : Dk.Own w0 [] w _ := hst; ze (o := 0) zV (hO.blkSees (i := 4) rfl) rfl hf rfl | 1, _, _, _, hst, hf => have hO : Dk.Own w0 [] w _ := hst; ze (o := 0) zV (hO.blkSees (i := 5) rfl) rfl hf rfl | 2, _, _, _, hst, hf => have hO : Dk.Own w0 [] w _ := hst; ze (o := 0) zV (hO.blkSees (i := 5) rfl) rfl hf rfl | 3, _, _, _, hst, hf => have hO : Dk.Own w0 [] w _ := hst; ze (o := 0) zV (hO.blkSees (i := 5) rfl) rfl hf rfl | 4, _, _, _, hst, hf => have hO : Dk.Own w0 [] w _ := hst; ze (o := 0) zV (hO.blkSees (i := 5) rfl) rfl hf rfl | k + 5, hk, _, _, _, _ => absurd hk (by simp))⟩, .inr ⟨rfl, zaS rfl (fun σ => rfl) (fun σ => rfl) rfl (fun σ a w (_ : _) hf => zn c_24 hf (vs := [str r8.Client]) rfl) (fun σ w (hO : Dk.Own w0 [] w _) => (zbh r8.Client r29 _ (hG.own hF hO) hr29).mono fun e w' h => by obtain ⟨he, hb⟩ := h; exact ⟨((σ.1), (σ.2)), he, hO.grow hb, .inr rfl, .inr rfl, .inr rfl, .inr rfl, .inr rfl, .inr rfl, .inr rfl, .inr rfl, .inr rfl, .inr rfl, .inr rfl, .inr rfl, .inr rfl, .inr rfl, .inr rfl, .inr rfl, .inr rfl, .inr rfl, .inr rfl, .inr rfl, .inr rfl, .inr rfl, .inr rfl, .inr rfl, .inr rfl, .inr rfl, .inr rfl, .inr rfl, trivial⟩)⟩, .inr ⟨rfl, zc rfl (fun σ => rfl) (fun σ => rfl) (fun σ a w k _ _ _ _ hf => zh hf rfl)⟩, .inr ⟨rfl, zc rfl (fun σ => rfl) (fun σ => rfl) (fun σ a w k _ _ _ _ hf => zk hix30 hf rfl rfl)⟩, .inr ⟨rfl, zc rfl (fun σ => rfl) (fun σ => rfl) (fun σ a w k _ _ _ _ hf => zC zf5 hf rfl)⟩, .inr ⟨rfl, zc rfl (fun σ => rfl) (fun σ => rfl) (fun σ a w k hk hlo hup hst hf => match k, hk, hlo, hup, hst, hf with | 0, _, _, _, hst, hf => have hO : Dk.Own w0 [] w _ := hst; ze (o := 1) zV (hSx30 _ (hO.rowSees (i := 1) rfl)) rfl hf rfl | 1, _, _, _, hst, hf => have hO : Dk.Own w0 [] w _ := hst; ze (o := 1) zV (hSx30 _ (hO.rowSees (i := 2) rfl)) rfl hf rfl | 2, _, _, _, hst, hf => have hO : Dk.Own w0 [] w _ := hst; ze (o := 1) zV (hSx30 _ (hO.rowSees (i := 2) rfl)) rfl hf rfl | 3, _, _, _, hst, hf => have hO : Dk.Own w0 [] w _ := hst; ze (o := 1) zV (hSx30 _ (hO.rowSees (i := 2) rfl)) rfl hf rfl | 4, _, _, _, hst, hf => have hO : Dk.Own w0 [] w _ := hst; ze (o := 1) zV (hSx30 _ (hO.rowSees (i := 2) rfl)) rfl hf rfl | k + 5, hk, _, _, _, _ => absurd hk (by simp))⟩, .inr ⟨rfl, zc rfl (fun σ => rfl) (fun σ => rfl) (fun σ a w k _ _ _ _ hf => zeN (l := r29) (m := x30.Value) hf rfl rfl)⟩, .inr ⟨rfl, zc rfl (fun σ => rfl) (fun σ => rfl) (fun σ a w k _ _ _ _ hf => zbV hf rfl hc28 rfl)⟩, .inr ⟨rfl, zc rfl (fun σ => rfl) (fun σ => rfl) (fun σ a w k _ _ _ _ hf => zh hf rfl)⟩, .inr ⟨rfl, zc rfl (fun σ => rfl) (fun σ => rfl) (fun σ a w k _ _ _ _ hf => zh hf rfl)⟩, .inr ⟨rfl, zc rfl (fun σ => rfl) (fun σ => rfl) (fun σ a w k _ _ _ _ hf => zi0 (m := r18.2) (n := 0) hf rfl rfl)⟩, .inr ⟨rfl, zc rfl (fun σ => rfl) (fun σ => rfl) (fun σ a w k _ _ _ _ hf => zh hf rfl)⟩, .inr ⟨rfl, zc rfl (fun σ => rfl) (fun σ => rfl) (fun σ a w k _ _ _ _ hf => zh hf rfl)⟩, .inr ⟨rfl, zc rfl (fun σ => rfl) (fun σ => rfl) (fun σ a w k _ _ _ _ hf => zkj (m := r20.2) (n := 0) hf rfl rfl)⟩, .inr ⟨rfl, zc rfl (fun σ => rfl) (fun σ => rfl) (fun σ a w k _ _ _ _ hf => zh hf rfl)⟩, .inr ⟨rfl, zc rfl (fun σ => rfl) (fun σ => rfl) (fun σ a w k _ _ _ _ hf => zh hf rfl)⟩, .inr ⟨rfl, zc rfl (fun σ => rfl) (fun σ => rfl) (fun σ a w k _ _ _ _ hf => zh hf rfl)⟩, .inr ⟨rfl, zaS rfl (fun σ => rfl) (fun σ => rfl) rfl (fun σ a w (_ : _) hf => zn c_22 hf (vs := [.slice p15 r14.length c16, .slice p21 r20.1.length c22]) rfl) (fun σ w (hO : Dk.Own w0 [] w _) => (zbT r14 r20.1 r36 _ (hG.own hF hO).1 (hO.rowSees (i := 2) rfl) (hO.rowCap (i := 2) rfl) (hO.rowSees (i := 1) rfl) (hO.rowCap (i := 1) rfl) hr36).mono fun e w' h => by obtain ⟨he, hb⟩ := h; exact ⟨((σ.1), (σ.2)), he, hO.grow hb, .inr rfl, .inr rfl, .inr rfl, .inr rfl, .inr rfl, .inr rfl, .inr rfl, .inr rfl, .inr rfl, .inr rfl, .inr rfl, .inr rfl, .inr rfl, .inr rfl, .inr rfl, .inr rfl, .inr rfl, .inr rfl, .inr rfl, .inr rfl, .inr rfl, .inr rfl, .inr rfl, .inr rfl, .inr rfl, .inr rfl, .inr rfl, .inr rfl, trivial⟩)⟩, .inr ⟨rfl, zc rfl (fun σ => rfl) (fun σ => rfl) (fun σ a w k _ _ _ _ hf => zbV hf rfl hc35 rfl)⟩, .inr ⟨rfl, zc rfl (fun σ => rfl) (fun σ => rfl) (fun σ a w k _ _ _ _ hf => zdr hf rfl hc34 rfl)⟩, .inr ⟨rfl, zc rfl (fun σ => rfl) (fun σ => rfl) (fun σ a w k _ _ _ _ hf => zbV hf rfl hc33 rfl)⟩, .inr ⟨rfl, zc rfl (fun σ => rfl) (fun σ => rfl) (fun σ a w k _ _ _ _ hf => zay hf rfl)⟩, trivial⟩ ?_
 rintro ⟨p25, c26⟩ a w hf hO
 have hO : Dk.Own w0 [] w _ := hO
 have hf : Fits 51 [(2, .bool r36)] a := (hf.cons rfl hf.nil)
 refine S.no tb ?_ hf hO hm
 exact ec [1, 2, 3, 4, 5, 6, 7] rfl rfl rfl fun _ _ j => ⟨r36, j rfl⟩
 have hm := ie hc35 hm
 refine zdY (S := Option Addr × Nat) (E0 := [(1, ptr b1 0), (3, .slice p15 r14.length c16), (5, int r18.2), (6, .slice p21 r20.1.length c22), (7, int r20.2)]) (by kernel_rfl) (fun k σ w => match k with | 0 => Dk.Own w0 [] w [.row (.slice p21 r20.1.length c22) 57 2 r20.1.length (cells zb r20.1), .row (.slice p15 r14.length c16) 57 2 r14.length (cells zb r14), .row (.slice p9 r8.Domains.length c10) 87 2 r8.Domains.length (cells za r8.Domains), .row (.slice p11 r8.Locations.length c12) 87 2 r8.Locations.length (cells za r8.Locations), .blk b1 [str r8.Client, str r8.Host, str r8.Scheme, str r8.By, .slice p9 r8.Domains.length c10, .slice p11 r8.Locations.length c12] 47, .shr x_env_p1 (cells za x_env.Locations), .shr x_env_p0 (cells za x_env.Domains)] | 1 => Dk.Own w0 [] w [.row (.slice (σ.1) r24.length (σ.2)) 57 2 r24.length (cells zb r24), .row (.slice p21 r20.1.length c22) 57 2 r20.1.length (cells zb r20.1), .row (.slice p15 r14.length c16) 57 2 r14.length (cells zb r14), .row (.slice p9 r8.Domains.length c10) 87 2 r8.Domains.length (cells za r8.Domains), .row (.slice p11 r8.Locations.length c12) 87 2 r8.Locations.length (cells za r8.Locations), .blk b1 [str r8.Client, str r8.Host, str r8.Scheme, str r8.By, .slice p9 r8.Domains.length c10, .slice p11 r8.Locations.length c12] 47, .shr x_env_p1 (cells za x_env.Locations), .shr x_env_p0 (cells za x_env.Domains)] | 2 => Dk.Own w0 [] w [.row (.slice (σ.1) r24.length (σ.2)) 57 2 r24.length (cells zb r24), .row (.slice p21 r20.1.length c22) 57 2 r20.1.length (cells zb r20.1), .row (.slice p15 r14.length c16) 57 2 r14.length (cells zb r14), .row (.slice p9 r8.Domains.length c10) 87 2 r8.Domains.length (cells za r8.Domains), .row (.slice p11 r8.Locations.length c12) 87 2 r8.Locations.length (cells za r8.Locations), .blk b1 [str r8.Client, str r8.Host, str r8.Scheme, str r8.By, .slice p9 r8.Domains.length c10, .slice p11 r8.Locations.length c12] 47, .shr x_env_p1 (cells za x_env.Locations), .shr x_env_p0 (cells za x_env.Domains)] | _ => Dk.Own w0 [] w [.row (.slice (σ.1) r24.length (σ.2)) 57 2 r24.length (cells zb r24), .row (.slice p21 r20.1.length c22) 57 2 r20.1.length (cells zb r20.1), .row (.slice p15 r14.length c16) 57 2 r14.length (cells zb r14), .row (.slice p9 r8.Domains.length c10) 87 2 r8.Domains.length (cells za r8.Domains), .row (.slice p11 r8.Locations.length c12) 87 2 r8.Locations.length (cells za r8.Locations), .blk b1 [str r8.Client, str r8.Host, str r8.Scheme, str r8.By, .slice p9 r8.Domains.length c10, .slice p11 r8.Locations.length c12] 47, .shr x_env_p1 (cells za x_env.Locations), .shr x_env_p0 (cells za x_env.Domains)]) (fun σ => [⟨[(3, .slice p15 r14.length c16)], some (24, .slice p15 r14.length c16)⟩, ⟨[(1, ptr b1 0)], some (25, .agg #[str r8.Client, str r8.Host, str r8.Scheme, str r8.By, .slice p9 r8.Domains.length c10, .slice p11 r8.Locations.length c12])⟩, ⟨[(25, .agg #[str r8.Client, str r8.Host, str r8.Scheme, str r8.By, .slice p9 r8.Domains.length c10, .slice p11 r8.Locations.length c12])], some (26, .slice (σ.1) r24.length (σ.2))⟩, ⟨[(24, .slice p15 r14.length c16), (26, .slice (σ.1) r24.length (σ.2))], some (27, .bool r27)⟩, ⟨[(27, .bool r27)], some (28, .bool r27)⟩, ⟨[(1, ptr b1 0), (28, .bool r27)], some (29, ptr b1 0)⟩, ⟨[(29, ptr b1 0), (28, .bool r27)], some (30, str r8.Client)⟩, ⟨[(30, str r8.Client), (28, .bool r27)], some (31, str r29)⟩, ⟨[(3, .slice p15 r14.length c16), (28, .bool r27)], some (32, .slice p15 r14.length c16)⟩, ⟨[(32, .slice p15 r14.length c16), (28, .bool r27)], some (33, ptr b31 o32)⟩, ⟨[(33, ptr b31 o32), (28, .bool r27)], some (34, ptr b31 (o32 + 1))⟩, ⟨[(34, ptr b31 (o32 + 1)), (28, .bool r27)], some (35, str x30.Value)⟩, ⟨[(31, str r29), (35, str x30.Value), (28, .bool r27)], some (36, .bool (r29 == x30.Value))⟩, ⟨[(28, .bool r27), (36, .bool (r29 == x30.Value))], some (37, .bool (r29 == x30.Value))⟩, ⟨[(37, .bool (r29 == x30.Value))], some (38, .bool (r29 == x30.Value))⟩, ⟨[(5, int r18.2), (38, .bool (r29 == x30.Value))], some (39, int r18.2)⟩, ⟨[(39, int r18.2), (38, .bool (r29 == x30.Value))], some (40, .bool (!(r18.2 == 0)))⟩, ⟨[(40, .bool (!(r18.2 == 0))), (38, .bool (r29 == x30.Value))], some (41, .bool (!(r18.2 == 0)))⟩, ⟨[(7, int r20.2), (41, .bool (!(r18.2 == 0)))], some (42, int r20.2)⟩, ⟨[(42, int r20.2), (41, .bool (!(r18.2 == 0)))], some (43, .bool (r20.2 == 0))⟩, ⟨[(43, .bool (r20.2 == 0)), (41, .bool (!(r18.2 == 0)))], some (44, .bool (r20.2 == 0))⟩, ⟨[(44, .bool (r20.2 == 0))], some (45, undef)⟩, ⟨[(44, .bool (r20.2 == 0))], some (46, undef)⟩, ⟨[(44, .bool (r20.2 == 0))], some (47, undef)⟩, ⟨[(44, .bool (r20.2 == 0)), (47, undef), (41, .bool (!(r18.2 == 0)))], some (48, .bool false)⟩, ⟨[(41, .bool (!(r18.2 == 0))), (48, .bool false), (38, .bool (r29 == x30.Value))], some (49, .bool false)⟩, ⟨[(38, .bool (r29 == x30.Value)), (49, .bool false)], some (50, .bool false)⟩, ⟨[(50, .bool false)], some (2, .bool false)⟩]) (none, 0) [2, 3, 7] [21, 22, 23] ⟨zD rfl rfl, zD rfl rfl, zD rfl rfl, zD rfl rfl, zD rfl rfl, zi (u := fun σ => r27) rfl (fun σ => rfl) rfl (fun σ => rfl) (fun σ => by rw [hc28] <;> rfl), zi (u := fun σ => r27) rfl (fun σ => rfl) rfl (fun σ => rfl) (fun σ => by rw [hc28] <;> rfl), zi (u := fun σ => r27) rfl (fun σ => rfl) rfl (fun σ => rfl) (fun σ => by rw [hc28] <;> rfl), zi (u := fun σ => r27) rfl (fun σ => rfl) rfl (fun σ => rfl) (fun σ => by rw [hc28] <;> rfl), zi (u := fun σ => r27) rfl (fun σ => rfl) rfl (fun σ => rfl) (fun σ => by rw [hc28] <;> rfl), zi (u := fun σ => r27) rfl (fun σ => rfl) rfl (fun σ => rfl) (fun σ => by rw [hc28] <;> rfl), zi (u := fun σ => r27) rfl (fun σ => rfl) rfl (fun σ => rfl) (fun σ => by rw [hc28] <;> rfl), zi (u := fun σ => r27) rfl (fun σ => rfl) rfl (fun σ => rfl) (fun σ => by rw [hc28] <;> rfl), zD rfl rfl, zD rfl rfl, zi (u := fun σ => r29 == x30.Value) rfl (fun σ => rfl) rfl (fun σ => rfl) (fun σ => by rw [hc33] <;> rfl), zi (u := fun σ => r29 == x30.Value) rfl (fun σ => rfl) rfl (fun σ => rfl) (fun σ => by rw [hc33] <;> rfl), zi (u := fun σ => r29 == x30.Value) rfl (fun σ => rfl) rfl (fun σ => rfl) (fun σ => by rw [hc33] <;> rfl), zi (u := fun σ => !(r18.2 == 0)) rfl (fun σ => rfl) rfl (fun σ => rfl) (fun σ => by rw [hc34] <;> rfl), zi (u := fun σ => !(r18.2 == 0)) rfl (fun σ => rfl) rfl (fun σ => rfl) (fun σ => by rw [hc34] <;> rfl), zi (u := fun σ => !(r18.2 == 0)) rfl (fun σ => rfl) rfl (fun σ => rfl) (fun σ => by rw [hc34] <;> rfl), zi (u := fun σ => r20.2 == 0) rfl (fun σ => rfl) rfl (fun σ => rfl) (fun σ => by rw [hc35] <;> rfl), zi (u := fun σ => r20.2 == 0) rfl (fun σ => rfl) rfl (fun σ => rfl) (fun σ => by rw [hc35] <;> rfl), zi (u := fun σ => r20.2 == 0) rfl (fun σ => rfl) rfl (fun σ => rfl) (fun σ => by rw [hc35] <;> rfl), zi (u := fun σ => !(r18.2 == 0)) rfl (fun σ => rfl) rfl (fun σ => rfl) (fun σ => by rw [hc34] <;> rfl), zi (u := fun σ => r29 == x30.Value) rfl (fun σ => rfl) rfl (fun σ => rfl) (fun σ => by rw [hc33] <;> rfl), zD rfl rfl, zD rfl rfl, trivial⟩ (fun σ => ⟨.inl rfl, .inl rfl, .inl rfl, .inl rfl, .inl rfl, .inl rfl, .inl rfl, .inl rfl, .inl rfl, .inl rfl, .inl rfl, .inl rfl, .inl rfl, .inl rfl, .inl rfl, .inl rfl, .inl rfl, .inl rfl, .inl rfl, .inl rfl, .inl rfl, .inr ⟨rfl, rfl⟩, .inr ⟨rfl, rfl⟩, .inr ⟨rfl, rfl⟩, .inl rfl, .inl rfl, .inl rfl, .inl rfl, trivial⟩) (fun _ => rfl) (fun _ => rfl) (fun _ => rfl) rfl rfl (by decide) rfl hO.drew (hf.cons rfl (hf.cons rfl (hf.cons rfl (hf.cons rfl (hf.cons rfl hf.nil))))) (fun σ => ⟨⟨rfl, trivial⟩, ⟨rfl, trivial⟩, ⟨rfl, trivial⟩, ⟨rfl, rfl, trivial⟩, ⟨rfl, trivial⟩, ⟨rfl, rfl, trivial⟩, ⟨rfl, rfl, trivial⟩, ⟨rfl, rfl, trivial⟩, ⟨rfl, rfl, trivial⟩, ⟨rfl, rfl, trivial⟩, ⟨rfl, rfl, trivial⟩, ⟨rfl, rfl, trivial⟩, ⟨rfl, rfl, rfl, trivial⟩, ⟨rfl, rfl, trivial⟩, ⟨rfl, trivial⟩, ⟨rfl, rfl, trivial⟩, ⟨rfl, rfl, trivial⟩, ⟨rfl, rfl, trivial⟩, ⟨rfl, rfl, trivial⟩, ⟨rfl, rfl, trivial⟩, ⟨rfl, rfl, trivial⟩, ⟨rfl, trivial⟩, ⟨rfl, trivial⟩, ⟨rfl, trivial⟩, ⟨rfl, rfl, rfl, trivial⟩, ⟨rfl, rfl, rfl, trivial⟩, ⟨rfl, rfl, trivial⟩, ⟨rfl, trivial⟩, trivial⟩) ⟨.inr ⟨rfl, zc rfl (fun σ => rfl) (fun σ => rfl) (fun σ a w k _ _ _ _ hf => zh hf rfl)⟩, .inr ⟨rfl, zc rfl (fun σ => rfl) (fun σ => rfl) (fun σ a w k hk hlo hup hst hf => match k, hk, hlo, hup, hst, hf with | 0, _, _, _, hst, hf => have hO : Dk.Own w0 [] w _ := hst; zr (o := 0) (vs := [str r8.Client, str r8.Host, str r8.Scheme, str r8.By, .slice p9 r8.Domains.length c10, .slice p11 r8.Locations.length c12]) zb1 zb2 (hO.blkSees (i := 4) rfl) rfl rfl hf rfl | 1, _, _, _, hst, hf => have hO : Dk.Own w0 [] w _ := hst; zr (o := 0) (vs := [str r8.Client, str r8.Host, str r8.Scheme, str r8.By, .slice p9 r8.Domains.length c10, .slice p11 r8.Locations.length c12]) zb1 zb2 (hO.blkSees (i := 5) rfl) rfl rfl hf rfl | 2, _, _, _, hst, hf => have hO : Dk.Own w0 [] w _ := hst; zr (o := 0) (vs := [str r8.Client, str r8.Host, str r8.Scheme, str r8.By, .slice p9 r8.Domains.length c10, .slice p11 r8.Locations.length c12]) zb1 zb2 (hO.blkSees (i := 5) rfl) rfl rfl hf rfl | 3, _, _, _, hst, hf => have hO : Dk.Own w0 [] w _ := hst; zr (o := 0) (vs := [str r8.Client, str r8.Host, str r8.Scheme, str r8.By, .slice p9 r8.Domains.length c10, .slice p11 r8.Locations.length c12]) zb1 zb2 (hO.blkSees (i := 5) rfl) rfl rfl hf rfl | k + 4, hk, _, _, _, _ => absurd hk (by simp))⟩, .inr ⟨rfl, zaS rfl (fun σ => rfl) (fun σ => rfl) rfl (fun σ a w (_ : _) hf => zn c_23 hf (vs := [.agg #[str r8.Client, str r8.Host, str r8.Scheme, str r8.By, .slice p9 r8.Domains.length c10, .slice p11 r8.Locations.length c12]]) rfl) (fun σ w (hO : Dk.Own w0 [] w _) => (zcu r8 r24 _ (hG.own hF hO).1 (hO.rowSees (i := 2) rfl) (hO.rowCap (i := 2) rfl) (hO.rowSees (i := 3) rfl) (hO.rowCap (i := 3) rfl) hr24).mono fun e w' h => by obtain ⟨p25, c26, he, hO'⟩ := h; exact ⟨(p25, c26), he, hO.call hO' (by simp [Res.shared]), .inr rfl, .inr rfl, .inl rfl, .inl rfl, .inr rfl, .inr rfl, .inr rfl, .inr rfl, .inr rfl, .inr rfl, .inr rfl, .inr rfl, .inr rfl, .inr rfl, .inr rfl, .inr rfl, .inr rfl, .inr rfl, .inr rfl, .inr rfl, .inr rfl, .inr rfl, .inr rfl, .inr rfl, .inr rfl, .inr rfl, .inr rfl, .inr rfl, trivial⟩)⟩, .inr ⟨rfl, zaS rfl (fun σ => rfl) (fun σ => rfl) rfl (fun σ a w (_ : _) hf => zn c_22 hf (vs := [.slice p15 r14.length c16, .slice (σ.1) r24.length (σ.2)]) rfl) (fun σ w (hO : Dk.Own w0 [] w _) => (zbT r14 r24 r27 _ (hG.own hF hO).1 (hO.rowSees (i := 2) rfl) (hO.rowCap (i := 2) rfl) (hO.rowSees (i := 0) rfl) (hO.rowCap (i := 0) rfl) hr27).mono fun e w' h => by obtain ⟨he, hb⟩ := h; exact ⟨((σ.1), (σ.2)), he, hO.grow hb, .inr rfl, .inr rfl, .inr rfl, .inr rfl, .inr rfl, .inr rfl, .inr rfl, .inr rfl, .inr rfl, .inr rfl, .inr rfl, .inr rfl, .inr rfl, .inr rfl, .inr rfl, .inr rfl, .inr rfl, .inr rfl, .inr rfl, .inr rfl, .inr rfl, .inr rfl, .inr rfl, .inr rfl, .inr rfl, .inr rfl, .inr rfl, .inr rfl, trivial⟩)⟩, .inr ⟨rfl, zc rfl (fun σ => rfl) (fun σ => rfl) (fun σ a w k _ _ _ _ hf => zh hf rfl)⟩, .inr ⟨rfl, zc rfl (fun σ => rfl) (fun σ => rfl) (fun σ a w k _ _ _ _ hf => zC zf4 hf rfl)⟩, .inr ⟨rfl, zc rfl (fun σ => rfl) (fun σ => rfl) (fun σ a w k hk hlo hup hst hf => match k, hk, hlo, hup, hst, hf with | 0, _, _, _, hst, hf => have hO : Dk.Own w0 [] w _ := hst; ze (o := 0) zV (hO.blkSees (i := 4) rfl) rfl hf rfl | 1, _, _, _, hst, hf => have hO : Dk.Own w0 [] w _ := hst; ze (o := 0) zV (hO.blkSees (i := 5) rfl) rfl hf rfl | 2, _, _, _, hst, hf => have hO : Dk.Own w0 [] w _ := hst; ze (o := 0) zV (hO.blkSees (i := 5) rfl) rfl hf rfl | 3, _, _, _, hst, hf => have hO : Dk.Own w0 [] w _ := hst; ze (o := 0) zV (hO.blkSees (i := 5) rfl) rfl hf rfl | k + 4, hk, _, _, _, _ => absurd hk (by simp))⟩, .inr ⟨rfl, zaS rfl (fun σ => rfl) (fun σ => rfl) rfl (fun σ a w (_ : _) hf => zn c_24 hf (vs := [str r8.Client]) rfl) (fun σ w (hO : Dk.Own w0 [] w _) => (zbh r8.Client r29 _ (hG.own hF hO) hr29).mono fun e w' h => by obtain ⟨he, hb⟩ := h; exact ⟨((σ.1), (σ.2)), he, hO.grow hb, .inr rfl, .inr rfl, .inr rfl, .inr rfl, .inr rfl, .inr rfl, .inr rfl, .inr rfl, .inr rfl, .inr rfl, .inr rfl, .inr rfl, .inr rfl, .inr rfl, .inr rfl, .inr rfl, .inr rfl, .inr rfl, .inr rfl, .inr rfl, .inr rfl, .inr rfl, .inr rfl, .inr rfl, .inr rfl, .inr rfl, .inr rfl, .inr rfl, trivial⟩)⟩, .inr ⟨rfl, zc rfl (fun σ => rfl) (fun σ => rfl) (fun σ a w k _ _ _ _ hf => zh hf rfl)⟩, .inr ⟨rfl, zc rfl (fun σ => rfl) (fun σ => rfl) (fun σ a w k _ _ _ _ hf => zk hix30 hf rfl rfl)⟩, .inr ⟨rfl, zc rfl (fun σ => rfl) (fun σ => rfl) (fun σ a w k _ _ _ _ hf => zC zf5 hf rfl)⟩, .inr ⟨rfl, zc rfl (fun σ => rfl) (fun σ => rfl) (fun σ a w k hk hlo hup hst hf => match k, hk, hlo, hup, hst, hf with | 0, _, _, _, hst, hf => have hO : Dk.Own w0 [] w _ := hst; ze (o := 1) zV (hSx30 _ (hO.rowSees (i := 1) rfl)) rfl hf rfl | 1, _, _, _, hst, hf => have hO : Dk.Own w0 [] w _ := hst; ze (o := 1) zV (hSx30 _ (hO.rowSees (i := 2) rfl)) rfl hf rfl | 2, _, _, _, hst, hf => have hO : Dk.Own w0 [] w _ := hst; ze (o := 1) zV (hSx30 _ (hO.rowSees (i := 2) rfl)) rfl hf rfl | 3, _, _, _, hst, hf => have hO : Dk.Own w0 [] w _ := hst; ze (o := 1) zV (hSx30 _ (hO.rowSees (i := 2) rfl)) rfl hf rfl | k + 4, hk, _, _, _, _ => absurd hk (by simp))⟩, .inr ⟨rfl, zc rfl (fun σ => rfl) (fun σ => rfl) (fun σ a w k _ _ _ _ hf => zeN (l := r29) (m := x30.Value) hf rfl rfl)⟩, .inr ⟨rfl, zc rfl (fun σ => rfl) (fun σ => rfl) (fun σ a w k _ _ _ _ hf => zbV hf rfl hc28 rfl)⟩, .inr ⟨rfl, zc rfl (fun σ => rfl) (fun σ => rfl) (fun σ a w k _ _ _ _ hf => zh hf rfl)⟩, .inr ⟨rfl, zc rfl (fun σ => rfl) (fun σ => rfl) (fun σ a w k _ _ _ _ hf => zh hf rfl)⟩, .inr ⟨rfl, zc rfl (fun σ => rfl) (fun σ => rfl) (fun σ a w k _ _ _ _ hf => zi0 (m := r18.2) (n := 0) hf rfl rfl)⟩, .inr ⟨rfl, zc rfl (fun σ => rfl) (fun σ => rfl) (fun σ a w k _ _ _ _ hf => zh hf rfl)⟩, .inr ⟨rfl, zc rfl (fun σ => rfl) (fun σ => rfl) (fun σ a w k _ _ _ _ hf => zh hf rfl)⟩, .inr ⟨rfl, zc rfl (fun σ => rfl) (fun σ => rfl) (fun σ a w k _ _ _ _ hf => zkj (m := r20.2) (n := 0) hf rfl rfl)⟩, .inr ⟨rfl, zc rfl (fun σ => rfl) (fun σ => rfl) (fun σ a w k _ _ _ _ hf => zh hf rfl)⟩, .inl rfl, .inl rfl, .inl rfl, .inr ⟨rfl, zc rfl (fun σ => rfl) (fun σ => rfl) (fun σ a w k _ _ _ _ hf => zdr hf rfl hc35 rfl)⟩, .inr ⟨rfl, zc rfl (fun σ => rfl) (fun σ => rfl) (fun σ a w k _ _ _ _ hf => zdr hf rfl hc34 rfl)⟩, .inr ⟨rfl, zc rfl (fun σ => rfl) (fun σ => rfl) (fun σ a w k _ _ _ _ hf => zbV hf rfl hc33 rfl)⟩, .inr ⟨rfl, zc rfl (fun σ => rfl) (fun σ => rfl) (fun σ a w k _ _ _ _ hf => zay hf rfl)⟩, trivial⟩ ?_
 rintro ⟨p25, c26⟩ a w hf hO
 have hO : Dk.Own w0 [] w _ := hO
 have hf : Fits 51 [(2, .bool false)] a := (hf.cons rfl hf.nil)
 refine S.no tb ?_ hf hO hm
 exact ec [1, 2, 3, 4, 5, 6, 7] rfl rfl rfl fun _ _ j => ⟨false, j rfl⟩
 have hm := ie hc33 hm
 refine zdY (S := Option Addr × Nat) (E0 := [(1, ptr b1 0), (3, .slice p15 r14.length c16), (5, int r18.2), (6, .slice p21 r20.1.length c22), (7, int r20.2)]) (by kernel_rfl) (fun k σ w => match k with | 0 => Dk.Own w0 [] w [.row (.slice p21 r20.1.length c22) 57 2 r20.1.length (cells zb r20.1), .row (.slice p15 r14.length c16) 57 2 r14.length (cells zb r14), .row (.slice p9 r8.Domains.length c10) 87 2 r8.Domains.length (cells za r8.Domains), .row (.slice p11 r8.Locations.length c12) 87 2 r8.Locations.length (cells za r8.Locations), .blk b1 [str r8.Client, str r8.Host, str r8.Scheme, str r8.By, .slice p9 r8.Domains.length c10, .slice p11 r8.Locations.length c12] 47, .shr x_env_p1 (cells za x_env.Locations), .shr x_env_p0 (cells za x_env.Domains)] | 1 => Dk.Own w0 [] w [.row (.slice (σ.1) r24.length (σ.2)) 57 2 r24.length (cells zb r24), .row (.slice p21 r20.1.length c22) 57 2 r20.1.length (cells zb r20.1), .row (.slice p15 r14.length c16) 57 2 r14.length (cells zb r14), .row (.slice p9 r8.Domains.length c10) 87 2 r8.Domains.length (cells za r8.Domains), .row (.slice p11 r8.Locations.length c12) 87 2 r8.Locations.length (cells za r8.Locations), .blk b1 [str r8.Client, str r8.Host, str r8.Scheme, str r8.By, .slice p9 r8.Domains.length c10, .slice p11 r8.Locations.length c12] 47, .shr x_env_p1 (cells za x_env.Locations), .shr x_env_p0 (cells za x_env.Domains)] | 2 => Dk.Own w0 [] w [.row (.slice (σ.1) r24.length (σ.2)) 57 2 r24.length (cells zb r24), .row (.slice p21 r20.1.length c22) 57 2 r20.1.length (cells zb r20.1), .row (.slice p15 r14.length c16) 57 2 r14.length (cells zb r14), .row (.slice p9 r8.Domains.length c10) 87 2 r8.Domains.length (cells za r8.Domains), .row (.slice p11 r8.Locations.length c12) 87 2 r8.Locations.length (cells za r8.Locations), .blk b1 [str r8.Client, str r8.Host, str r8.Scheme, str r8.By, .slice p9 r8.Domains.length c10, .slice p11 r8.Locations.length c12] 47, .shr x_env_p1 (cells za x_env.Locations), .shr x_env_p0 (cells za x_env.Domains)] | _ => Dk.Own w0 [] w [.row (.slice (σ.1) r24.length (σ.2)) 57 2 r24.length (cells zb r24), .row (.slice p21 r20.1.length c22) 57 2 r20.1.length (cells zb r20.1), .row (.slice p15 r14.length c16) 57 2 r14.length (cells zb r14), .row (.slice p9 r8.Domains.length c10) 87 2 r8.Domains.length (cells za r8.Domains), .row (.slice p11 r8.Locations.length c12) 87 2 r8.Locations.length (cells za r8.Locations), .blk b1 [str r8.Client, str r8.Host, str r8.Scheme, str r8.By, .slice p9 r8.Domains.length c10, .slice p11 r8.Locations.length c12] 47, .shr x_env_p1 (cells za x_env.Locations), .shr x_env_p0 (cells za x_env.Domains)]) (fun σ => [⟨[(3, .slice p15 r14.length c16)], some (24, .slice p15 r14.length c16)⟩, ⟨[(1, ptr b1 0)], some (25, .agg #[str r8.Client, str r8.Host, str r8.Scheme, str r8.By, .slice p9 r8.Domains.length c10, .slice p11 r8.Locations.length c12])⟩, ⟨[(25, .agg #[str r8.Client, str r8.Host, str r8.Scheme, str r8.By, .slice p9 r8.Domains.length c10, .slice p11 r8.Locations.length c12])], some (26, .slice (σ.1) r24.length (σ.2))⟩, ⟨[(24, .slice p15 r14.length c16), (26, .slice (σ.1) r24.length (σ.2))], some (27, .bool r27)⟩, ⟨[(27, .bool r27)], some (28, .bool r27)⟩, ⟨[(1, ptr b1 0), (28, .bool r27)], some (29, ptr b1 0)⟩, ⟨[(29, ptr b1 0), (28, .bool r27)], some (30, str r8.Client)⟩, ⟨[(30, str r8.Client), (28, .bool r27)], some (31, str r29)⟩, ⟨[(3, .slice p15 r14.length c16), (28, .bool r27)], some (32, .slice p15 r14.length c16)⟩, ⟨[(32, .slice p15 r14.length c16), (28, .bool r27)], some (33, ptr b31 o32)⟩, ⟨[(33, ptr b31 o32), (28, .bool r27)], some (34, ptr b31 (o32 + 1))⟩, ⟨[(34, ptr b31 (o32 + 1)), (28, .bool r27)], some (35, str x30.Value)⟩, ⟨[(31, str r29), (35, str x30.Value), (28, .bool r27)], some (36, .bool (r29 == x30.Value))⟩, ⟨[(28, .bool r27), (36, .bool (r29 == x30.Value))], some (37, .bool (r29 == x30.Value))⟩, ⟨[(37, .bool (r29 == x30.Value))], some (38, .bool (r29 == x30.Value))⟩, ⟨[(38, .bool (r29 == x30.Value))], some (39, undef)⟩, ⟨[(38, .bool (r29 == x30.Value))], some (40, undef)⟩, ⟨[(38, .bool (r29 == x30.Value))], some (41, undef)⟩, ⟨[(41, undef)], some (42, undef)⟩, ⟨[(41, undef)], some (43, undef)⟩, ⟨[(41, undef)], some (44, undef)⟩, ⟨[(44, undef)], some (45, undef)⟩, ⟨[(44, undef)], some (46, undef)⟩, ⟨[(44, undef)], some (47, undef)⟩, ⟨[(41, undef)], some (48, undef)⟩, ⟨[(38, .bool (r29 == x30.Value))], some (49, undef)⟩, ⟨[(38, .bool (r29 == x30.Value)), (49, undef)], some (50, .bool false)⟩, ⟨[(50, .bool false)], some (2, .bool false)⟩]) (none, 0) [2, 3, 7] [15, 16, 17, 18, 19, 20, 21, 22, 23, 24, 25] ⟨zD rfl rfl, zD rfl rfl, zD rfl rfl, zD rfl rfl, zD rfl rfl, zi (u := fun σ => r27) rfl (fun σ => rfl) rfl (fun σ => rfl) (fun σ => by rw [hc28] <;> rfl), zi (u := fun σ => r27) rfl (fun σ => rfl) rfl (fun σ => rfl) (fun σ => by rw [hc28] <;> rfl), zi (u := fun σ => r27) rfl (fun σ => rfl) rfl (fun σ => rfl) (fun σ => by rw [hc28] <;> rfl), zi (u := fun σ => r27) rfl (fun σ => rfl) rfl (fun σ => rfl) (fun σ => by rw [hc28] <;> rfl), zi (u := fun σ => r27) rfl (fun σ => rfl) rfl (fun σ => rfl) (fun σ => by rw [hc28] <;> rfl), zi (u := fun σ => r27) rfl (fun σ => rfl) rfl (fun σ => rfl) (fun σ => by rw [hc28] <;> rfl), zi (u := fun σ => r27) rfl (fun σ => rfl) rfl (fun σ => rfl) (fun σ => by rw [hc28] <;> rfl), zi (u := fun σ => r27) rfl (fun σ => rfl) rfl (fun σ => rfl) (fun σ => by rw [hc28] <;> rfl), zD rfl rfl, zD rfl rfl, zi (u := fun σ => r29 == x30.Value) rfl (fun σ => rfl) rfl (fun σ => rfl) (fun σ => by rw [hc33] <;> rfl), zi (u := fun σ => r29 == x30.Value) rfl (fun σ => rfl) rfl (fun σ => rfl) (fun σ => by rw [hc33] <;> rfl), zi (u := fun σ => r29 == x30.Value) rfl (fun σ => rfl) rfl (fun σ => rfl) (fun σ => by rw [hc33] <;> rfl), za0 rfl (fun σ => rfl) rfl (fun σ => rfl) rfl, za0 rfl (fun σ => rfl) rfl (fun σ => rfl) rfl, za0 rfl (fun σ => rfl) rfl (fun σ => rfl) rfl, za0 rfl (fun σ => rfl) rfl (fun σ => rfl) rfl, za0 rfl (fun σ => rfl) rfl (fun σ => rfl) rfl, za0 rfl (fun σ => rfl) rfl (fun σ => rfl) rfl, za0 rfl (fun σ => rfl) rfl (fun σ => rfl) rfl, zi (u := fun σ => r29 == x30.Value) rfl (fun σ => rfl) rfl (fun σ => rfl) (fun σ => by rw [hc33] <;> rfl), zD rfl rfl, zD rfl rfl, trivial⟩ (fun σ => ⟨.inl rfl, .inl rfl, .inl rfl, .inl rfl, .inl rfl, .inl rfl, .inl rfl, .inl rfl, .inl rfl, .inl rfl, .inl rfl, .inl rfl, .inl rfl, .inl rfl, .inl rfl, .inr ⟨rfl, rfl⟩, .inr ⟨rfl, rfl⟩, .inr ⟨rfl, rfl⟩, .inr ⟨rfl, rfl⟩, .inr ⟨rfl, rfl⟩, .inr ⟨rfl, rfl⟩, .inr ⟨rfl, rfl⟩, .inr ⟨rfl, rfl⟩, .inr ⟨rfl, rfl⟩, .inr ⟨rfl, rfl⟩, .inr ⟨rfl, rfl⟩, .inl rfl, .inl rfl, trivial⟩) (fun _ => rfl) (fun _ => rfl) (fun _ => rfl) rfl rfl (by decide) rfl hO.drew (hf.cons rfl (hf.cons rfl (hf.cons rfl (hf.cons rfl (hf.cons rfl hf.nil))))) (fun σ => ⟨⟨rfl, trivial⟩, ⟨rfl, trivial⟩, ⟨rfl, trivial⟩, ⟨rfl, rfl, trivial⟩, ⟨rfl, trivial⟩, ⟨rfl, rfl, trivial⟩, ⟨rfl, rfl, trivial⟩, ⟨rfl, rfl, trivial⟩, ⟨rfl, rfl, trivial⟩, ⟨rfl, rfl, trivial⟩, ⟨rfl, rfl, trivial⟩, ⟨rfl, rfl, trivial⟩, ⟨rfl, rfl, rfl, trivial⟩, ⟨rfl, rfl, trivial⟩, ⟨rfl, trivial⟩, ⟨rfl, trivial⟩, ⟨rfl, trivial⟩, ⟨rfl, trivial⟩, ⟨rfl, trivial⟩, ⟨rfl, trivial⟩, ⟨rfl, trivial⟩, ⟨rfl, trivial⟩, ⟨rfl, trivial⟩, ⟨rfl, trivial⟩, ⟨rfl, trivial⟩, ⟨rfl, trivial⟩, ⟨rfl, rfl, trivial⟩, ⟨rfl, trivial⟩, trivial⟩) ⟨.inr ⟨rfl, zc rfl (fun σ => rfl) (fun σ => rfl) (fun σ a w k _ _ _ _ hf => zh hf rfl)⟩, .inr ⟨rfl, zc rfl (fun σ => rfl) (fun σ => rfl) (fun σ a w k hk hlo hup hst hf => match k, hk, hlo, hup, hst, hf with | 0, _, _, _, hst, hf => have hO : Dk.Own w0 [] w _ := hst; zr (o := 0) (vs := [str r8.Client, str r8.Host, str r8.Scheme, str r8.By, .slice p9 r8.Domains.length c10, .slice p11 r8.Locations.length c12]) zb1 zb2 (hO.blkSees (i := 4) rfl) rfl rfl hf rfl | 1, _, _, _, hst, hf => have hO : Dk.Own w0 [] w _ := hst; zr (o := 0) (vs := [str r8.Client, str r8.Host, str r8.Scheme, str r8.By, .slice p9 r8.Domains.length c10, .slice p11 r8.Locations.length c12]) zb1 zb2 (hO.blkSees (i := 5) rfl) rfl rfl hf rfl | 2, _, _, _, hst, hf => have hO : Dk.Own w0 [] w _ := hst; zr (o := 0) (vs := [str r8.Client, str r8.Host, str r8.Scheme, str r8.By, .slice p9 r8.Domains.length c10, .slice p11 r8.Locations.length c12]) zb1 zb2 (hO.blkSees (i := 5) rfl) rfl rfl hf rfl | 3, _, _, _, hst, hf => have hO : Dk.Own w0 [] w _ := hst; zr (o := 0) (vs := [str r8.Client, str r8.Host, str r8.Scheme, str r8.By, .slice p9 r8.Domains.length c10, .slice p11 r8.Locations.length c12]) zb1 zb2 (hO.blkSees (i := 5) rfl) rfl rfl hf rfl | k + 4, hk, _, _, _, _ => absurd hk (by simp))⟩, .inr ⟨rfl, zaS rfl (fun σ => rfl) (fun σ => rfl) rfl (fun σ a w (_ : _) hf => zn c_23 hf (vs := [.agg #[str r8.Client, str r8.Host, str r8.Scheme, str r8.By, .slice p9 r8.Domains.length c10, .slice p11 r8.Locations.length c12]]) rfl) (fun σ w (hO : Dk.Own w0 [] w _) => (zcu r8 r24 _ (hG.own hF hO).1 (hO.rowSees (i := 2) rfl) (hO.rowCap (i := 2) rfl) (hO.rowSees (i := 3) rfl) (hO.rowCap (i := 3) rfl) hr24).mono fun e w' h => by obtain ⟨p25, c26, he, hO'⟩ := h; exact ⟨(p25, c26), he, hO.call hO' (by simp [Res.shared]), .inr rfl, .inr rfl, .inl rfl, .inl rfl, .inr rfl, .inr rfl, .inr rfl, .inr rfl, .inr rfl, .inr rfl, .inr rfl, .inr rfl, .inr rfl, .inr rfl, .inr rfl, .inr rfl, .inr rfl, .inr rfl, .inr rfl, .inr rfl, .inr rfl, .inr rfl, .inr rfl, .inr rfl, .inr rfl, .inr rfl, .inr rfl, .inr rfl, trivial⟩)⟩, .inr ⟨rfl, zaS rfl (fun σ => rfl) (fun σ => rfl) rfl (fun σ a w (_ : _) hf => zn c_22 hf (vs := [.slice p15 r14.length c16, .slice (σ.1) r24.length (σ.2)]) rfl) (fun σ w (hO : Dk.Own w0 [] w _) => (zbT r14 r24 r27 _ (hG.own hF hO).1 (hO.rowSees (i := 2) rfl) (hO.rowCap (i := 2) rfl) (hO.rowSees (i := 0) rfl) (hO.rowCap (i := 0) rfl) hr27).mono fun e w' h => by obtain ⟨he, hb⟩ := h; exact ⟨((σ.1), (σ.2)), he, hO.grow hb, .inr rfl, .inr rfl, .inr rfl, .inr rfl, .inr rfl, .inr rfl, .inr rfl, .inr rfl, .inr rfl, .inr rfl, .inr rfl, .inr rfl, .inr rfl, .inr rfl, .inr rfl, .inr rfl, .inr rfl, .inr rfl, .inr rfl, .inr rfl, .inr rfl, .inr rfl, .inr rfl, .inr rfl, .inr rfl, .inr rfl, .inr rfl, .inr rfl, trivial⟩)⟩, .inr ⟨rfl, zc rfl (fun σ => rfl) (fun σ => rfl) (fun σ a w k _ _ _ _ hf => zh hf rfl)⟩, .inr ⟨rfl, zc rfl (fun σ => rfl) (fun σ => rfl) (fun σ a w k _ _ _ _ hf => zC zf4 hf rfl)⟩, .inr ⟨rfl, zc rfl (fun σ => rfl) (fun σ => rfl) (fun σ a w k hk hlo hup hst hf => match k, hk, hlo, hup, hst, hf with | 0, _, _, _, hst, hf => have hO : Dk.Own w0 [] w _ := hst; ze (o := 0) zV (hO.blkSees (i := 4) rfl) rfl hf rfl | 1, _, _, _, hst, hf => have hO : Dk.Own w0 [] w _ := hst; ze (o := 0) zV (hO.blkSees (i := 5) rfl) rfl hf rfl | 2, _, _, _, hst, hf => have hO : Dk.Own w0 [] w _ := hst; ze (o := 0) zV (hO.blkSees (i := 5) rfl) rfl hf rfl | 3, _, _, _, hst, hf => have hO : Dk.Own w0 [] w _ := hst; ze (o := 0) zV (hO.blkSees (i := 5) rfl) rfl hf rfl | k + 4, hk, _, _, _, _ => absurd hk (by simp))⟩, .inr ⟨rfl, zaS rfl (fun σ => rfl) (fun σ => rfl) rfl (fun σ a w (_ : _) hf => zn c_24 hf (vs := [str r8.Client]) rfl) (fun σ w (hO : Dk.Own w0 [] w _) => (zbh r8.Client r29 _ (hG.own hF hO) hr29).mono fun e w' h => by obtain ⟨he, hb⟩ := h; exact ⟨((σ.1), (σ.2)), he, hO.grow hb, .inr rfl, .inr rfl, .inr rfl, .inr rfl, .inr rfl, .inr rfl, .inr rfl, .inr rfl, .inr rfl, .inr rfl, .inr rfl, .inr rfl, .inr rfl, .inr rfl, .inr rfl, .inr rfl, .inr rfl, .inr rfl, .inr rfl, .inr rfl, .inr rfl, .inr rfl, .inr rfl, .inr rfl, .inr rfl, .inr rfl, .inr rfl, .inr rfl, trivial⟩)⟩, .inr ⟨rfl, zc rfl (fun σ => rfl) (fun σ => rfl) (fun σ a w k _ _ _ _ hf => zh hf rfl)⟩, .inr ⟨rfl, zc rfl (fun σ => rfl) (fun σ => rfl) (fun σ a w k _ _ _ _ hf => zk hix30 hf rfl rfl)⟩, .inr ⟨rfl, zc rfl (fun σ => rfl) (fun σ => rfl) (fun σ a w k _ _ _ _ hf => zC zf5 hf rfl)⟩, .inr ⟨rfl, zc rfl (fun σ => rfl) (fun σ => rfl) (fun σ a w k hk hlo hup hst hf => match k, hk, hlo, hup, hst, hf with | 0, _, _, _, hst, hf => have hO : Dk.Own w0 [] w _ := hst; ze (o := 1) zV (hSx30 _ (hO.rowSees (i := 1) rfl)) rfl hf rfl | 1, _, _, _, hst, hf => have hO : Dk.Own w0 [] w _ := hst; ze (o := 1) zV (hSx30 _ (hO.rowSees (i := 2) rfl)) rfl hf rfl | 2, _, _, _, hst, hf => have hO : Dk.Own w0 [] w _ := hst; ze (o := 1) zV (hSx30 _ (hO.rowSees (i := 2) rfl)) rfl hf rfl | 3, _, _, _, hst, hf => have hO : Dk.Own w0 [] w _ := hst; ze (o := 1) zV (hSx30 _ (hO.rowSees (i := 2) rfl)) rfl hf rfl | k + 4, hk, _, _, _, _ => absurd hk (by simp))⟩, .inr ⟨rfl, zc rfl (fun σ => rfl) (fun σ => rfl) (fun σ a w k _ _ _ _ hf => zeN (l := r29) (m := x30.Value) hf rfl rfl)⟩, .inr ⟨rfl, zc rfl (fun σ => rfl) (fun σ => rfl) (fun σ a w k _ _ _ _ hf => zbV hf rfl hc28 rfl)⟩, .inr ⟨rfl, zc rfl (fun σ => rfl) (fun σ => rfl) (fun σ a w k _ _ _ _ hf => zh hf rfl)⟩, .inl rfl, .inl rfl, .inl rfl, .inl rfl, .inl rfl, .inl rfl, .inl rfl, .inl rfl, .inl rfl, .inl rfl, .inl rfl, .inr ⟨rfl, zc rfl (fun σ => rfl) (fun σ => rfl) (fun σ a w k _ _ _ _ hf => zdr hf rfl hc33 rfl)⟩, .inr ⟨rfl, zc rfl (fun σ => rfl) (fun σ => rfl) (fun σ a w k _ _ _ _ hf => zay hf rfl)⟩, trivial⟩ ?_
 rintro ⟨p25, c26⟩ a w hf hO
 have hO : Dk.Own w0 [] w _ := hO
 have hf : Fits 51 [(2, .bool false)] a := (hf.cons rfl hf.nil)
 refine S.no tb ?_ hf hO hm
 exact ec [1, 2, 3, 4, 5, 6, 7] rfl rfl rfl fun _ _ j => ⟨false, j rfl⟩
 have hm := ie hc28 hm
 refine zdY (S := Option Addr × Nat) (E0 := [(1, ptr b1 0), (3, .slice p15 r14.length c16), (5, int r18.2), (6, .slice p21 r20.1.length c22), (7, int r20.2)]) (by kernel_rfl) (fun k σ w => match k with | 0 => Dk.Own w0 [] w [.row (.slice p21 r20.1.length c22) 57 2 r20.1.length (cells zb r20.1), .row (.slice p15 r14.length c16) 57 2 r14.length (cells zb r14), .row (.slice p9 r8.Domains.length c10) 87 2 r8.Domains.length (cells za r8.Domains), .row (.slice p11 r8.Locations.length c12) 87 2 r8.Locations.length (cells za r8.Locations), .blk b1 [str r8.Client, str r8.Host, str r8.Scheme, str r8.By, .slice p9 r8.Domains.length c10, .slice p11 r8.Locations.length c12] 47, .shr x_env_p1 (cells za x_env.Locations), .shr x_env_p0 (cells za x_env.Domains)] | 1 => Dk.Own w0 [] w [.row (.slice (σ.1) r24.length (σ.2)) 57 2 r24.length (cells zb r24), .row (.slice p21 r20.1.length c22) 57 2 r20.1.length (cells zb r20.1), .row (.slice p15 r14.length c16) 57 2 r14.length (cells zb r14), .row (.slice p9 r8.Domains.length c10) 87 2 r8.Domains.length (cells za r8.Domains), .row (.slice p11 r8.Locations.length c12) 87 2 r8.Locations.length (cells za r8.Locations), .blk b1 [str r8.Client, str r8.Host, str r8.Scheme, str r8.By, .slice p9 r8.Domains.length c10, .slice p11 r8.Locations.length c12] 47, .shr x_env_p1 (cells za x_env.Locations), .shr x_env_p0 (cells za x_env.Domains)] | _ => Dk.Own w0 [] w [.row (.slice (σ.1) r24.length (σ.2)) 57 2 r24.length (cells zb r24), .row (.slice p21 r20.1.length c22) 57 2 r20.1.length (cells zb r20.1), .row (.slice p15 r14.length c16) 57 2 r14.length (cells zb r14), .row (.slice p9 r8.Domains.length c10) 87 2 r8.Domains.length (cells za r8.Domains), .row (.slice p11 r8.Locations.length c12) 87 2 r8.Locations.length (cells za r8.Locations), .blk b1 [str r8.Client, str r8.Host, str r8.Scheme, str r8.By, .slice p9 r8.Domains.length c10, .slice p11 r8.Locations.length c12] 47, .shr x_env_p1 (cells za x_env.Locations), .shr x_env_p0 (cells za x_env.Domains)]) (fun σ => [⟨[(3, .slice p15 r14.length c16)], some (24, .slice p15 r14.length c16)⟩, ⟨[(1, ptr b1 0)], some (25, .agg #[str r8.Client, str r8.Host, str r8.Scheme, str r8.By, .slice p9 r8.Domains.length c10, .slice p11 r8.Locations.length c12])⟩, ⟨[(25, .agg #[str r8.Client, str r8.Host, str r8.Scheme, str r8.By, .slice p9 r8.Domains.length c10, .slice p11 r8.Locations.length c12])], some (26, .slice (σ.1) r24.length (σ.2))⟩, ⟨[(24, .slice p15 r14.length c16), (26, .slice (σ.1) r24.length (σ.2))], some (27, .bool r27)⟩, ⟨[(27, .bool r27)], some (28, .bool r27)⟩, ⟨[(28, .bool r27)], some (29, undef)⟩, ⟨[(28, .bool r27)], some (30, undef)⟩, ⟨[(28, .bool r27)], some (31, undef)⟩, ⟨[(28, .bool r27)], some (32, undef)⟩, ⟨[(28, .bool r27)], some (33, undef)⟩, ⟨[(28, .bool r27)], some (34, undef)⟩, ⟨[(28, .bool r27)], some (35, undef)⟩, ⟨[(28, .bool r27)], some (36, undef)⟩, ⟨[(28, .bool r27), (36, undef)], some (37, .bool false)⟩, ⟨[(37, .bool false)], some (38, .bool false)⟩, ⟨[(38, .bool false)], some (39, undef)⟩, ⟨[(38, .bool false)], some (40, undef)⟩, ⟨[(38, .bool false)], some (41, undef)⟩, ⟨[(41, undef)], some (42, undef)⟩, ⟨[(41, undef)], some (43, undef)⟩, ⟨[(41, undef)], some (44, undef)⟩, ⟨[(44, undef)], some (45, undef)⟩, ⟨[(44, undef)], some (46, undef)⟩, ⟨[(44, undef)], some (47, undef)⟩, ⟨[(41, undef)], some (48, undef)⟩, ⟨[(38, .bool false)], some (49, undef)⟩, ⟨[(38, .bool false), (49, undef)], some (50, .bool false)⟩, ⟨[(50, .bool false)], some (2, .bool false)⟩]) (none, 0) [2, 3] [5, 6, 7, 8, 9, 10, 11, 12, 15, 16, 17, 18, 19, 20, 21, 22, 23, 24, 25] ⟨zD rfl rfl, zD rfl rfl, zD rfl rfl, zD rfl rfl, zD rfl rfl, zi (u := fun σ => r27) rfl (fun σ => rfl) rfl (fun σ => rfl) (fun σ => by rw [hc28] <;> rfl), zi (u := fun σ => r27) rfl (fun σ => rfl) rfl (fun σ => rfl) (fun σ => by rw [hc28] <;> rfl), zi (u := fun σ => r27) rfl (fun σ => rfl) rfl (fun σ => rfl) (fun σ => by rw [hc28] <;> rfl), zi (u := fun σ => r27) rfl (fun σ => rfl) rfl (fun σ => rfl) (fun σ => by rw [hc28] <;> rfl), zi (u := fun σ => r27) rfl (fun σ => rfl) rfl (fun σ => rfl) (fun σ => by rw [hc28] <;> rfl), zi (u := fun σ => r27) rfl (fun σ => rfl) rfl (fun σ => rfl) (fun σ => by rw [hc28] <;> rfl), zi (u := fun σ => r27) rfl (fun σ => rfl) rfl (fun σ => rfl) (fun σ => by rw [hc28] <;> rfl), zi (u := fun σ => r27) rfl (fun σ => rfl) rfl (fun σ => rfl) (fun σ => by rw [hc28] <;> rfl), zD rfl rfl, zD rfl rfl, zi (u := fun σ => false) rfl (fun σ => rfl) rfl (fun σ => rfl) (fun σ => rfl), zi (u := fun σ => false) rfl (fun σ => rfl) rfl (fun σ => rfl) (fun σ => rfl), zi (u := fun σ => false) rfl (fun σ => rfl) rfl (fun σ => rfl) (fun σ => rfl), za0 rfl (fun σ => rfl) rfl (fun σ => rfl) rfl, za0 rfl (fun σ => rfl) rfl (fun σ => rfl) rfl, za0 rfl (fun σ => rfl) rfl (fun σ => rfl) rfl, za0 rfl (fun σ => rfl) rfl (fun σ => rfl) rfl, za0 rfl (fun σ => rfl) rfl (fun σ => rfl) rfl, za0 rfl (fun σ => rfl) rfl (fun σ => rfl) rfl, za0 rfl (fun σ => rfl) rfl (fun σ => rfl) rfl, zi (u := fun σ => false) rfl (fun σ => rfl) rfl (fun σ => rfl) (fun σ => rfl), zD rfl rfl, zD rfl rfl, trivial⟩ (fun σ => ⟨.inl rfl, .inl rfl, .inl rfl, .inl rfl, .inl rfl, .inr ⟨rfl, rfl⟩, .inr ⟨rfl, rfl⟩, .inr ⟨rfl, rfl⟩, .inr ⟨rfl, rfl⟩, .inr ⟨rfl, rfl⟩, .inr ⟨rfl, rfl⟩, .inr ⟨rfl, rfl⟩, .inr ⟨rfl, rfl⟩, .inl rfl, .inl rfl, .inr ⟨rfl, rfl⟩, .inr ⟨rfl, rfl⟩, .inr ⟨rfl, rfl⟩, .inr ⟨rfl, rfl⟩, .inr ⟨rfl, rfl⟩, .inr ⟨rfl, rfl⟩, .inr ⟨rfl, rfl⟩, .inr ⟨rfl, rfl⟩, .inr ⟨rfl, rfl⟩, .inr ⟨rfl, rfl⟩, .inr ⟨rfl, rfl⟩, .inl rfl, .inl rfl, trivial⟩) (fun _ => rfl) (fun _ => rfl) (fun _ => rfl) rfl rfl (by decide) rfl hO.drew (hf.cons rfl (hf.cons rfl (hf.cons rfl (hf.cons rfl (hf.cons rfl hf.nil))))) (fun σ => ⟨⟨rfl, trivial⟩, ⟨rfl, trivial⟩, ⟨rfl, trivial⟩, ⟨rfl, rfl, trivial⟩, ⟨rfl, trivial⟩, ⟨rfl, trivial⟩, ⟨rfl, trivial⟩, ⟨rfl, trivial⟩, ⟨rfl, trivial⟩, ⟨rfl, trivial⟩, ⟨rfl, trivial⟩, ⟨rfl, trivial⟩, ⟨rfl, trivial⟩, ⟨rfl, rfl, trivial⟩, ⟨rfl, trivial⟩, ⟨rfl, trivial⟩, ⟨rfl, trivial⟩, ⟨rfl, trivial⟩, ⟨rfl, trivial⟩, ⟨rfl, trivial⟩, ⟨rfl, trivial⟩, ⟨rfl, trivial⟩, ⟨rfl, trivial⟩, ⟨rfl, trivial⟩, ⟨rfl, trivial⟩, ⟨rfl, trivial⟩, ⟨rfl, rfl, trivial⟩, ⟨rfl, trivial⟩, trivial⟩) ⟨.inr ⟨rfl, zc rfl (fun σ => rfl) (fun σ => rfl) (fun σ a w k _ _ _ _ hf => zh hf rfl)⟩, .inr ⟨rfl, zc rfl (fun σ => rfl) (fun σ => rfl) (fun σ a w k hk hlo hup hst hf => match k, hk, hlo, hup, hst, hf with | 0, _, _, _, hst, hf => have hO : Dk.Own w0 [] w _ := hst; zr (o := 0) (vs := [str r8.Client, str r8.Host, str r8.Scheme, str r8.By, .slice p9 r8.Domains.length c10, .slice p11 r8.Locations.length c12]) zb1 zb2 (hO.blkSees (i := 4) rfl) rfl rfl hf rfl | 1, _, _, _, hst, hf => have hO : Dk.Own w0 [] w _ := hst; zr (o := 0) (vs := [str r8.Client, str r8.Host, str r8.Scheme, str r8.By, .slice p9 r8.Domains.length c10, .slice p11 r8.Locations.length c12]) zb1 zb2 (hO.blkSees (i := 5) rfl) rfl rfl hf rfl | 2, _, _, _, hst, hf => have hO : Dk.Own w0 [] w _ := hst; zr (o := 0) (vs := [str r8.Client, str r8.Host, str r8.Scheme, str r8.By, .slice p9 r8.Domains.length c10, .slice p11 r8.Locations.length c12]) zb1 zb2 (hO.blkSees (i := 5) rfl) rfl rfl hf rfl | k + 3, hk, _, _, _, _ => absurd hk (by simp))⟩, .inr ⟨rfl, zaS rfl (fun σ => rfl) (fun σ => rfl) rfl (fun σ a w (_ : _) hf => zn c_23 hf (vs := [.agg #[str r8.Client, str r8.Host, str r8.Scheme, str r8.By, .slice p9 r8.Domains.length c10, .slice p11 r8.Locations.length c12]]) rfl) (fun σ w (hO : Dk.Own w0 [] w _) => (zcu r8 r24 _ (hG.own hF hO).1 (hO.rowSees (i := 2) rfl) (hO.rowCap (i := 2) rfl) (hO.rowSees (i := 3) rfl) (hO.rowCap (i := 3) rfl) hr24).mono fun e w' h => by obtain ⟨p25, c26, he, hO'⟩ := h; exact ⟨(p25, c26), he, hO.call hO' (by simp [Res.shared]), .inr rfl, .inr rfl, .inl rfl, .inl rfl, .inr rfl, .inr rfl, .inr rfl, .inr rfl, .inr rfl, .inr rfl, .inr rfl, .inr rfl, .inr rfl, .inr rfl, .inr rfl, .inr rfl, .inr rfl, .inr rfl, .inr rfl, .inr rfl, .inr rfl, .inr rfl, .inr rfl, .inr rfl, .inr rfl, .inr rfl, .inr rfl, .inr rfl, trivial⟩)⟩, .inr ⟨rfl, zaS rfl (fun σ => rfl) (fun σ => rfl) rfl (fun σ a w (_ : _) hf => zn c_22 hf (vs := [.slice p15 r14.length c16, .slice (σ.1) r24.length (σ.2)]) rfl) (fun σ w (hO : Dk.Own w0 [] w _) => (zbT r14 r24 r27 _ (hG.own hF hO).1 (hO.rowSees (i := 2) rfl) (hO.rowCap (i := 2) rfl) (hO.rowSees (i := 0) rfl) (hO.rowCap (i := 0) rfl) hr27).mono fun e w' h => by obtain ⟨he, hb⟩ := h; exact ⟨((σ.1), (σ.2)), he, hO.grow hb, .inr rfl, .inr rfl, .inr rfl, .inr rfl, .inr rfl, .inr rfl, .inr rfl, .inr rfl, .inr rfl, .inr rfl, .inr rfl, .inr rfl, .inr rfl, .inr rfl, .inr rfl, .inr rfl, .inr rfl, .inr rfl, .inr rfl, .inr rfl, .inr rfl, .inr rfl, .inr rfl, .inr rfl, .inr rfl, .inr rfl, .inr rfl, .inr rfl, trivial⟩)⟩, .inr ⟨rfl, zc rfl (fun σ => rfl) (fun σ => rfl) (fun σ a w k _ _ _ _ hf => zh hf rfl)⟩, .inl rfl, .inl rfl, .inl rfl, .inl rfl, .inl rfl, .inl rfl, .inl rfl, .inl rfl, .inr ⟨rfl, zc rfl (fun σ => rfl) (fun σ => rfl) (fun σ a w k _ _ _ _ hf => zdr hf rfl hc28 rfl)⟩, .inr ⟨rfl, zc rfl (fun σ => rfl) (fun σ => rfl) (fun σ a w k _ _ _ _ hf => zh hf rfl)⟩, .inl rfl, .inl rfl, .inl rfl, .inl rfl, .inl rfl, .inl rfl, .inl rfl, .inl rfl, .inl rfl, .inl rfl, .inl rfl, .inr ⟨rfl, zc rfl (fun σ => rfl) (fun σ => rfl) (fun σ a w k _ _ _ _ hf => zdr hf rfl rfl rfl)⟩, .inr ⟨rfl, zc rfl (fun σ => rfl) (fun σ => rfl) (fun σ a w k _ _ _ _ hf => zay hf rfl)⟩, trivial⟩ ?_
 rintro ⟨p25, c26⟩ a w hf hO
 have hO : Dk.Own w0 [] w _ := hO
 have hf : Fits 51 [(2, .bool false)] a := (hf.cons rfl hf.nil)
 refine S.no tb ?_ hf hO hm
 exact ec [1, 2, 3, 4, 5, 6, 7] rfl rfl rfl fun _ _ j => ⟨false, j rfl⟩
 rintro a w ⟨t37, hf, hO, hm⟩
 rw [zB] at hm
 refine S.co tb ?_ hf hO hm
 exact rt Tryz.results4 rfl

end Go.Proofs
end
