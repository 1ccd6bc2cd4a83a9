/-
  Walks, written by a program (wip/gen): what its model says, the function returns; what was there before is as it was.
  Walks, written by a program (wip/gen): what its model says, the function returns; what was there before is as it was.
-/
import Derived.Test.YtinncambjiffoaaGreatDoorLib
import Derived.Test.YtinncambjiffoaaGreatDoorW5
import Derived.Test.YtinncambjiffoaaGreatDoorW9
section
set_option linter.unusedVariables false
set_option maxHeartbeats 1000000
set_option linter.unusedSimpArgs false
set_option maxRecDepth 100000
namespace Go.Proofs
open Go.Dk Go.Dm Go.RowKit

theorem zmz (x_env : api_Env) (x_l : List api_Field) (R : List api_Field) (w0 : World) (hG : zaG w0) {x_env_p0 : Option Addr} {x_env_c0 : Nat} (hs0 : zy w0 x_env_p0 (cells zb x_env.Domains)) (hc0 : x_env.Domains.length ≤ x_env_c0) {x_env_p1 : Option Addr} {x_env_c1 : Nat} (hs1 : zy w0 x_env_p1 (cells zb x_env.Locations)) (hc1 : x_env.Locations.length ≤ x_env_c1) {x_l_p2 : Option Addr} {x_l_c2 : Nat} (hs2 : zy w0 x_l_p2 (cells za x_l)) (hc2 : x_l.length ≤ x_l_c2) (hm : zhv x_env x_l = some R) :
    Calls Tryz.prog 42 #[.agg #[str x_env.Client, str x_env.Host, str x_env.Scheme, str x_env.By, .slice x_env_p0 x_env.Domains.length x_env_c0, .slice x_env_p1 x_env.Locations.length x_env_c1], .slice x_l_p2 x_l.length x_l_c2] w0 fun e w' => ∃ (p0 : Option Addr) (c0 : Nat), e = .returned (.slice p0 R.length c0) ∧ Dk.Own w0 [] w' [.row (.slice p0 R.length c0) 54 2 R.length (cells za R)] := by
 rw [zhv] at hm
 have hF : zu [] := zf
 have hO : Dk.Own w0 [] w0 [] := Dk.Own.refl w0
 have hO := hO.addShr hs0 (by simp [Res.shared])
 have hO := hO.addShr hs1 (by simp [Res.shared])
 have hO := hO.addShr hs2 (by simp [Res.shared])
 refine S.enter tb Tryz.func42 rfl Tryz.ntmps42 rfl ?_ hO hm
 refine bo rfl fun b1 => ?_
 refine nl 54 2 ?_
 refine rw_ rfl fun a w hf hO hm => ?_
 refine zm (vs := []) (cs := []) (e := 54) (sz := 2) hf rfl rfl (fun w => by kernel_rfl) rfl rfl hO fun a b3 w hf hO => ?_
 refine S.op tb ?_ hf hO hm
 refine rw_ rfl fun a w hf hO hm => ?_
 obtain ⟨hg6, hm⟩ := og hm
 refine zfH zss (enc := za) (xs := []) (ys := x_l) (i := 0) (fun _ => rfl) rfl (hO.sees (i := 3) rfl) (by simp [za, Value.oneCell']) hg6 hf rfl rfl rfl hO fun a p4 c5 w hf hO => ?_
 refine S.op tb ?_ hf hO hm
 refine jv 0 [] [1, 2, 3, 4, 5] (fun J E L => ∃ (p43 : Option Addr) (c44 : Nat) (l45 : List api_Field), J ((5, .slice p43 l45.length c44) :: E) (.row (.slice p43 l45.length c44) 54 2 l45.length (cells za l45) :: L) (zfI l45)) rfl ?_ ?_
 refine lv [2, 12] [1, 2, 3, 4, 5] (fun J E L k => ∃ (p9 : Option Addr) (c10 : Nat) (l11 : List api_Field) (i12 : Int), J ((5, .slice p9 l11.length c10) :: (11, .slice p9 l11.length c10) :: (13, int i12) :: E) (.row (.slice p9 l11.length c10) 54 2 l11.length (cells za l11) :: L) (zaN x_env x_l k l11 i12)) rfl (fun _ _ j => ⟨p4, c5, x_l, 0, j rfl⟩) ?_
 rintro n1 a w ⟨p9, c10, l11, i12, hf, hO, hm⟩
 obtain _ | n1 := n1
 rw [zaN] at hm
 cases hm
 rw [zaN] at hm
 refine S.co tb ?_ hf hO hm
 refine br rfl (fun hc14 => ?_) fun hc14 => ?_
 refine jv 3 [2, 12, 13] [1, 2, 3, 4, 5] (fun J E L => ∃ (p39 : Option Addr) (c40 : Nat) (l41 : List api_Field), J ((5, .slice p39 l41.length c40) :: (11, .slice p39 l41.length c40) :: E) (.row (.slice p39 l41.length c40) 54 2 l41.length (cells za l41) :: L) (zcU (zaN x_env x_l n1) i12 l41)) rfl ?_ ?_
 refine rw_ rfl fun a w hf hO hm => ?_
 obtain ⟨x16, hx16, hm⟩ := ob hm
 obtain ⟨b17, o18, hix16, hSx16, hAx16⟩ := zaw (enc := za) (sz := 2) (xs := l11) 26 Tryz.underlying26 zcc (by decide) (fun _ => rfl) hO (i := 0) rfl hx16
 refine zS (zk hix16 hf rfl rfl) rfl hf rfl rfl fun a hf => ?_
 refine S.op tb ?_ hf hO hm
 refine vl rfl rfl (fun a w hf hO => zo (o := 0) (vs := [str x16.Name, str x16.Value]) ziD zcc (hSx16 _ (hO.rowSees (i := 0) rfl)) rfl rfl hf rfl) ?_
 refine al ztY rfl fun b19 => ?_
 refine st 0 rfl rfl ?_
 refine ld 0 rfl rfl ?_
 refine cl zty rfl (fun r21 w hr21 hO => zdM x16.Name r21 _ (hG.own hF hO).1 hr21) fun r21 hr21 => ?_
 refine jv 6 [2, 5, 6, 7, 11, 12, 13, 20] [0, 1, 2, 3, 4, 5, 6] (fun J E L => ∃ (t25 : Bool), J ((21, .bool t25) :: E) (L) (zdS (zaN x_env x_l n1) x_env l11 i12 x16 r21 t25)) rfl ?_ ?_
 refine br rfl (fun hc24 => ?_) fun hc24 => ?_
 exact en rfl fun _ _ j => ⟨r21 == [108, 111, 99, 97, 116, 105, 111, 110], j rfl⟩
 exact en rfl fun _ _ j => ⟨r21 == [99, 111, 110, 116, 101, 110, 116, 45, 108, 111, 99, 97, 116, 105, 111, 110], j rfl⟩
 rintro a w ⟨t25, hf, hO, hm⟩
 rw [zdS] at hm
 refine S.co tb ?_ hf hO hm
 refine br rfl (fun hc26 => ?_) fun hc26 => ?_
 refine ld 0 rfl rfl ?_
 refine ld 3 rfl rfl ?_
 refine cl c_84 rfl (fun r27 w hr27 hO => zlR x16.Value x_env.Locations r27 _ (hG.own hF hO).1 (hO.sees (i := 5) rfl) hc1 hr27) fun r27 hr27 => ?_
 refine rw_ rfl fun a w hf hO hm => ?_
 obtain ⟨x28, hx28, hm⟩ := ob hm
 obtain ⟨b29, o30, hix28, hSx28, hAx28⟩ := zaw (enc := za) (sz := 2) (xs := l11) 26 Tryz.underlying26 zcc (by decide) (fun _ => rfl) hO (i := 1) rfl hx28
 refine zS (zk hix28 hf rfl rfl) rfl hf rfl rfl fun a hf => ?_
 refine S.op tb ?_ hf hO hm
 refine rw_ rfl fun a w hf hO hm => ?_
 obtain ⟨l31, hl31, hm⟩ := ob hm
 refine znx (enc := za) (i := 1) (rel := 1) (xs := l11) (v := str r27) zfZ (fun _ => rfl) rfl hAx28 hx28 hl31 rfl (by decide) rfl rfl hf rfl rfl hO fun w hlen hO => ?_
 have hf : Fits 46 [(2, ptr b1 0), (5, .slice p9 l31.length c10), (6, int i12), (7, ptr b19 0), (11, .slice p9 l31.length c10), (12, int (x_l.length : Int)), (13, int i12), (20, str r21), (21, .bool t25), (24, .slice p9 l31.length c10), (25, int i12), (26, ptr b19 1), (27, str x16.Value), (28, ptr b1 5), (29, .slice x_env_p1 x_env.Locations.length x_env_c1), (30, str r27), (31, ptr b29 o30), (32, ptr b29 (o30 + 1))] a := by rw [hlen]; exact (hf.cons rfl (hf.cons rfl (hf.cons rfl (hf.cons rfl (hf.cons rfl (hf.cons rfl (hf.cons rfl (hf.cons rfl (hf.cons rfl (hf.cons rfl (hf.cons rfl (hf.cons rfl (hf.cons rfl (hf.cons rfl (hf.cons rfl (hf.cons rfl (hf.cons rfl (hf.cons rfl hf.nil))))))))))))))))))
 refine S.op tb ?_ hf hO hm
 exact ec [1, 2, 3, 4, 5, 6] rfl rfl rfl fun _ _ j => ⟨p9, c10, l31, j rfl⟩
 refine br rfl (fun hc33 => ?_) fun hc33 => ?_
 refine ld 0 rfl rfl ?_
 refine ld 3 rfl rfl ?_
 refine cl c_85 rfl (fun r34 w hr34 hO => zmg x16.Value x_env.Domains r34 _ (hG.own hF hO) (hO.sees (i := 6) rfl) hc0 hr34) fun r34 hr34 => ?_
 refine rw_ rfl fun a w hf hO hm => ?_
 obtain ⟨x35, hx35, hm⟩ := ob hm
 obtain ⟨b36, o37, hix35, hSx35, hAx35⟩ := zaw (enc := za) (sz := 2) (xs := l11) 26 Tryz.underlying26 zcc (by decide) (fun _ => rfl) hO (i := 1) rfl hx35
 refine zS (zk hix35 hf rfl rfl) rfl hf rfl rfl fun a hf => ?_
 refine S.op tb ?_ hf hO hm
 refine rw_ rfl fun a w hf hO hm => ?_
 obtain ⟨l38, hl38, hm⟩ := ob hm
 refine znx (enc := za) (i := 1) (rel := 1) (xs := l11) (v := str r34) zfZ (fun _ => rfl) rfl hAx35 hx35 hl38 rfl (by decide) rfl rfl hf rfl rfl hO fun w hlen hO => ?_
 have hf : Fits 46 [(2, ptr b1 0), (5, .slice p9 l38.length c10), (6, int i12), (7, ptr b19 0), (11, .slice p9 l38.length c10), (12, int (x_l.length : Int)), (13, int i12), (33, .bool (r21 == [115, 101, 116, 45, 99, 111, 111, 107, 105, 101])), (35, .slice p9 l38.length c10), (36, int i12), (37, ptr b19 1), (38, str x16.Value), (39, ptr b1 4), (40, .slice x_env_p0 x_env.Domains.length x_env_c0), (41, str r34), (42, ptr b36 o37), (43, ptr b36 (o37 + 1))] a := by rw [hlen]; exact (hf.cons rfl (hf.cons rfl (hf.cons rfl (hf.cons rfl (hf.cons rfl (hf.cons rfl (hf.cons rfl (hf.cons rfl (hf.cons rfl (hf.cons rfl (hf.cons rfl (hf.cons rfl (hf.cons rfl (hf.cons rfl (hf.cons rfl (hf.cons rfl (hf.cons rfl hf.nil)))))))))))))))))
 refine S.op tb ?_ hf hO hm
 exact ec [1, 2, 3, 4, 5, 6] rfl rfl rfl fun _ _ j => ⟨p9, c10, l38, j rfl⟩
 exact ec [1, 2, 3, 4, 5, 6] rfl rfl rfl fun _ _ j => ⟨p9, c10, l11, j rfl⟩
 rintro a w ⟨p39, c40, l41, hf, hO, hm⟩
 rw [zcU] at hm
 refine S.co tb ?_ hf hO hm
 refine bi rfl fun i42 hi42 => ?_
 exact en rfl fun _ _ j => ⟨_, Nat.lt_succ_self _, p39, c40, l41, i42, j rfl⟩
 exact en rfl fun _ _ j => ⟨p9, c10, l11, j rfl⟩
 rintro a w ⟨p43, c44, l45, hf, hO, hm⟩
 rw [zfI] at hm
 refine S.co tb ?_ hf hO hm
 refine re_ rfl fun a w hf hO hm => ?_
 obtain rfl := Option.some.inj hm
 exact zi Tryz.results42 hf (.tmp rfl .nil) ⟨p43, c44, rfl, (hO.sub (.cons_cons _ (.cons _ (.cons _ (.cons _ (.cons _ (.cons _ .slnil)))))))⟩

theorem ziV (x_w : stage_worker) (x_env : api_Env) (x_t : api_Target) (R : stage_worker) (w0 : World) (hG : zaG w0) {x_w_b0 : Nat} {x_w_b1 : Nat} {x_w_p2 : Option Addr} {x_w_c2 : Nat} {x_w_p3 : Option Addr} {x_w_c3 : Nat} {x_env_p4 : Option Addr} {x_env_c4 : Nat} {x_env_p5 : Option Addr} {x_env_c5 : Nat} {F : List Nat} (hF : zu F) (hO : Dk.Own w0 F w0 [.blk x_w_b0 [ptr x_w_b1 0, int x_w.f_h.Kind, str x_w.f_h.Method, str x_w.f_h.Target, int x_w.f_h.Code, str x_w.f_h.Reason, int x_w.f_h.Minor, .slice x_w_p3 x_w.f_h.Fields.length x_w_c3] 66, .blk x_w_b1 [.slice x_w_p2 x_w.Bag.f_l.length x_w_c2] 107, .row (.slice x_w_p2 x_w.Bag.f_l.length x_w_c2) 54 2 x_w.Bag.f_l.length (cells za x_w.Bag.f_l), .shr x_w_p3 (cells za x_w.f_h.Fields), .shr x_env_p4 (cells zb x_env.Domains), .shr x_env_p5 (cells zb x_env.Locations)]) (hcw0 : x_w.f_h.Fields.length ≤ x_w_c3) (hcw1 : x_env.Domains.length ≤ x_env_c4) (hcw2 : x_env.Locations.length ≤ x_env_c5) (hm : zdT x_w x_env x_t = some R) :
    Calls Tryz.prog 41 #[ptr x_w_b0 0, .agg #[str x_env.Client, str x_env.Host, str x_env.Scheme, str x_env.By, .slice x_env_p4 x_env.Domains.length x_env_c4, .slice x_env_p5 x_env.Locations.length x_env_c5], .agg #[int x_t.Kind, str x_t.Scheme, int x_t.Host.Kind, str x_t.Host.Name, int x_t.Host.Port, str x_t.Path, str x_t.Query, .bool x_t.HasQuery]] w0 fun e w' => ∃ (p0 : Option Addr) (c0 : Nat), e = .returned (.tuple #[]) ∧ Dk.Own w0 F w' [.blk x_w_b0 [ptr x_w_b1 0, int R.f_h.Kind, str R.f_h.Method, str R.f_h.Target, int R.f_h.Code, str R.f_h.Reason, int R.f_h.Minor, .slice x_w_p3 x_w.f_h.Fields.length x_w_c3] 66, .blk x_w_b1 [.slice p0 R.Bag.f_l.length c0] 107, .row (.slice p0 R.Bag.f_l.length c0) 54 2 R.Bag.f_l.length (cells za R.Bag.f_l)] := by
 rw [zdT] at hm
 refine S.enter tb Tryz.func41 rfl Tryz.ntmps41 rfl ?_ hO hm
 refine bo rfl fun b1 => ?_
 refine bo rfl fun b2 => ?_
 refine jv 0 [0, 4] [0, 1, 2, 5, 6, 7] (fun J E L => ∃ (p12 : Option Addr) (c13 : Nat) (l14 : List api_Field), J (E) (.blk x_w_b1 [.slice p12 l14.length c13] 107 :: .row (.slice p12 l14.length c13) 54 2 l14.length (cells za l14) :: L) (zbN x_w x_env l14)) rfl ?_ ?_
 refine ld 0 rfl rfl ?_
 refine br rfl (fun hc5 => ?_) fun hc5 => ?_
 refine ld 0 rfl rfl ?_
 refine cl c_79 rfl (fun r6 w hr6 hO => zn1 x_t.Host r6 _ (hG.own hF hO) hr6) fun r6 hr6 => ?_
 refine ld 2 rfl rfl ?_
 refine rw_ rfl fun a w hf hO hm => ?_
 obtain ⟨r8, hr8, hm⟩ := ob hm
 have hch11 := (show Dk.Own w0 F _ ([.blk x_w_b1 [.slice x_w_p2 x_w.Bag.f_l.length x_w_c2] 107, .row (.slice x_w_p2 x_w.Bag.f_l.length x_w_c2) 54 2 x_w.Bag.f_l.length (cells za x_w.Bag.f_l)] ++ [.blk b2 [int x_t.Kind, str x_t.Scheme, int x_t.Host.Kind, str x_t.Host.Name, int x_t.Host.Port, str x_t.Path, str x_t.Query, .bool x_t.HasQuery] 89, .blk b1 [str x_env.Client, str x_env.Host, str x_env.Scheme, str x_env.By, .slice x_env_p4 x_env.Domains.length x_env_c4, .slice x_env_p5 x_env.Locations.length x_env_c5] 24, .blk x_w_b0 [ptr x_w_b1 0, int x_w.f_h.Kind, str x_w.f_h.Method, str x_w.f_h.Target, int x_w.f_h.Code, str x_w.f_h.Reason, int x_w.f_h.Minor, .slice x_w_p3 x_w.f_h.Fields.length x_w_c3] 66, .shr x_w_p3 (cells za x_w.f_h.Fields), .shr x_env_p4 (cells zb x_env.Domains), .shr x_env_p5 (cells zb x_env.Locations)]) from hO.choose [3, 4, 0, 1, 2, 5, 6, 7] rfl)
 have hfar11 := Dk.Own.far hch11 rfl hF hG.size
 have hlend11 := hch11.lend (S := []) rfl trivial
 have hcl11 := zpR x_w.Bag [72, 111, 115, 116] r6.1 r8 _ (hG.own hF hO).1 hfar11 hlend11 hr8
 refine zj (zh c_80 hf (vs := [ptr x_w_b1 0, str [72, 111, 115, 116], str r6.1]) rfl) rfl hf rfl rfl (hcl11) ?_
 rintro e w' ⟨p9, c10, he, hO'⟩
 refine ⟨_, he, fun a hf => ?_⟩
 have hO := hch11.back rfl hO' rfl
 refine S.op tb ?_ hf hO hm
 exact en rfl fun _ _ j => ⟨p9, c10, r8.f_l, j rfl⟩
 exact ec [3, 4, 0, 1, 2, 5, 6, 7] rfl rfl rfl fun _ _ j => ⟨x_w_p2, x_w_c2, x_w.Bag.f_l, j rfl⟩
 rintro a w ⟨p12, c13, l14, hf, hO, hm⟩
 rw [zbN] at hm
 refine S.co tb ?_ hf hO hm
 refine ld 4 rfl rfl ?_
 refine cl c_81 rfl (fun r15 w hr15 hO => zpF (⟨l14⟩ : bag_Bag) [72, 111, 115, 116] r15 _ (hG.own hF hO).1 (hO.blkSees (i := 0) rfl) (hO.rowSees (i := 1) rfl) (hO.rowCap (i := 1) rfl) hr15) fun r15 hr15 => ?_
 refine br rfl (fun hc18 => ?_) fun hc18 => ?_
 refine rc_ rfl fun a w hf hO hm => ?_
 obtain ⟨r20, hr20, hm⟩ := ob hm
 refine zaV (S := Nat × Option Addr × Nat) (E0 := [(0, ptr x_w_b0 0), (4, ptr b1 0)]) (by kernel_rfl) (fun k σ w => match k with | 0 => Dk.Own w0 F w [.blk x_w_b1 [.slice p12 l14.length c13] 107, .row (.slice p12 l14.length c13) 54 2 l14.length (cells za l14), .blk b2 [int x_t.Kind, str x_t.Scheme, int x_t.Host.Kind, str x_t.Host.Name, int x_t.Host.Port, str x_t.Path, str x_t.Query, .bool x_t.HasQuery] 89, .blk b1 [str x_env.Client, str x_env.Host, str x_env.Scheme, str x_env.By, .slice x_env_p4 x_env.Domains.length x_env_c4, .slice x_env_p5 x_env.Locations.length x_env_c5] 24, .blk x_w_b0 [ptr x_w_b1 0, int x_w.f_h.Kind, str x_w.f_h.Method, str x_w.f_h.Target, int x_w.f_h.Code, str x_w.f_h.Reason, int x_w.f_h.Minor, .slice x_w_p3 x_w.f_h.Fields.length x_w_c3] 66, .shr x_w_p3 (cells za x_w.f_h.Fields), .shr x_env_p4 (cells zb x_env.Domains), .shr x_env_p5 (cells zb x_env.Locations)] | 1 => Dk.Own w0 F w [.row (.slice (some ⟨(σ.1), 0, none⟩) (([(⟨[72, 111, 115, 116], x_env.Host⟩ : api_Field)]).length) 1) 54 2 (([(⟨[72, 111, 115, 116], x_env.Host⟩ : api_Field)]).length) (cells za ([(⟨[72, 111, 115, 116], x_env.Host⟩ : api_Field)])), .blk x_w_b1 [.slice p12 l14.length c13] 107, .row (.slice p12 l14.length c13) 54 2 l14.length (cells za l14), .blk b2 [int x_t.Kind, str x_t.Scheme, int x_t.Host.Kind, str x_t.Host.Name, int x_t.Host.Port, str x_t.Path, str x_t.Query, .bool x_t.HasQuery] 89, .blk b1 [str x_env.Client, str x_env.Host, str x_env.Scheme, str x_env.By, .slice x_env_p4 x_env.Domains.length x_env_c4, .slice x_env_p5 x_env.Locations.length x_env_c5] 24, .blk x_w_b0 [ptr x_w_b1 0, int x_w.f_h.Kind, str x_w.f_h.Method, str x_w.f_h.Target, int x_w.f_h.Code, str x_w.f_h.Reason, int x_w.f_h.Minor, .slice x_w_p3 x_w.f_h.Fields.length x_w_c3] 66, .shr x_w_p3 (cells za x_w.f_h.Fields), .shr x_env_p4 (cells zb x_env.Domains), .shr x_env_p5 (cells zb x_env.Locations)] | _ => Dk.Own w0 F w [.blk x_w_b1 [.slice (σ.2.1) r20.f_l.length (σ.2.2)] 107, .row (.slice (σ.2.1) r20.f_l.length (σ.2.2)) 54 2 r20.f_l.length (cells za r20.f_l), .row (.slice (some ⟨(σ.1), 0, none⟩) (([(⟨[72, 111, 115, 116], x_env.Host⟩ : api_Field)]).length) 1) 54 2 (([(⟨[72, 111, 115, 116], x_env.Host⟩ : api_Field)]).length) (cells za ([(⟨[72, 111, 115, 116], x_env.Host⟩ : api_Field)])), .blk b2 [int x_t.Kind, str x_t.Scheme, int x_t.Host.Kind, str x_t.Host.Name, int x_t.Host.Port, str x_t.Path, str x_t.Query, .bool x_t.HasQuery] 89, .blk b1 [str x_env.Client, str x_env.Host, str x_env.Scheme, str x_env.By, .slice x_env_p4 x_env.Domains.length x_env_c4, .slice x_env_p5 x_env.Locations.length x_env_c5] 24, .blk x_w_b0 [ptr x_w_b1 0, int x_w.f_h.Kind, str x_w.f_h.Method, str x_w.f_h.Target, int x_w.f_h.Code, str x_w.f_h.Reason, int x_w.f_h.Minor, .slice x_w_p3 x_w.f_h.Fields.length x_w_c3] 66, .shr x_w_p3 (cells za x_w.f_h.Fields), .shr x_env_p4 (cells zb x_env.Domains), .shr x_env_p5 (cells zb x_env.Locations)]) (fun σ => [⟨[(0, ptr x_w_b0 0)], some (35, ptr x_w_b0 0)⟩, ⟨[(35, ptr x_w_b0 0)], some (36, ptr x_w_b0 0)⟩, ⟨[(36, ptr x_w_b0 0)], some (37, ptr x_w_b0 0)⟩, ⟨[(37, ptr x_w_b0 0)], some (38, ptr x_w_b1 0)⟩, ⟨[(4, ptr b1 0)], some (39, ptr b1 1)⟩, ⟨[(39, ptr b1 1)], some (40, str x_env.Host)⟩, ⟨[(40, str x_env.Host)], some (41, .agg #[str [72, 111, 115, 116], str x_env.Host])⟩, ⟨[(41, .agg #[str [72, 111, 115, 116], str x_env.Host])], some (42, .slice (some ⟨(σ.1), 0, none⟩) (([(⟨[72, 111, 115, 116], x_env.Host⟩ : api_Field)]).length) 1)⟩, ⟨[(38, ptr x_w_b1 0), (42, .slice (some ⟨(σ.1), 0, none⟩) (([(⟨[72, 111, 115, 116], x_env.Host⟩ : api_Field)]).length) 1)], some (43, .tuple #[])⟩]) (0, none, 0) [7, 8] rfl (fun _ => rfl) (fun _ => rfl) (fun _ => rfl) rfl rfl (by decide) rfl hO.drew (hf.cons rfl (hf.cons rfl hf.nil)) (fun σ => ⟨⟨rfl, trivial⟩, ⟨rfl, trivial⟩, ⟨rfl, trivial⟩, ⟨rfl, trivial⟩, ⟨rfl, trivial⟩, ⟨rfl, trivial⟩, ⟨rfl, trivial⟩, ⟨rfl, trivial⟩, ⟨rfl, rfl, trivial⟩, trivial⟩) ⟨zc rfl (fun σ => rfl) (fun σ => rfl) (fun σ a w k _ _ _ _ hf => zl hf rfl), zc rfl (fun σ => rfl) (fun σ => rfl) (fun σ a w k _ _ _ _ hf => zaD hf rfl), zc rfl (fun σ => rfl) (fun σ => rfl) (fun σ a w k _ _ _ _ hf => zw zoh hf rfl), zc rfl (fun σ => rfl) (fun σ => rfl) (fun σ a w k hk hlo hup hst hf => match k, hk, hlo, hup, hst, hf with | 0, _, _, _, hst, hf => have hO : Dk.Own w0 F w [.blk x_w_b1 [.slice p12 l14.length c13] 107, .row (.slice p12 l14.length c13) 54 2 l14.length (cells za l14), .blk b2 [int x_t.Kind, str x_t.Scheme, int x_t.Host.Kind, str x_t.Host.Name, int x_t.Host.Port, str x_t.Path, str x_t.Query, .bool x_t.HasQuery] 89, .blk b1 [str x_env.Client, str x_env.Host, str x_env.Scheme, str x_env.By, .slice x_env_p4 x_env.Domains.length x_env_c4, .slice x_env_p5 x_env.Locations.length x_env_c5] 24, .blk x_w_b0 [ptr x_w_b1 0, int x_w.f_h.Kind, str x_w.f_h.Method, str x_w.f_h.Target, int x_w.f_h.Code, str x_w.f_h.Reason, int x_w.f_h.Minor, .slice x_w_p3 x_w.f_h.Fields.length x_w_c3] 66, .shr x_w_p3 (cells za x_w.f_h.Fields), .shr x_env_p4 (cells zb x_env.Domains), .shr x_env_p5 (cells zb x_env.Locations)] := hst; ze (o := 0) znI (hO.blkSees (i := 4) rfl) rfl hf rfl | 1, _, _, _, hst, hf => have hO : Dk.Own w0 F w [.row (.slice (some ⟨(σ.1), 0, none⟩) (([(⟨[72, 111, 115, 116], x_env.Host⟩ : api_Field)]).length) 1) 54 2 (([(⟨[72, 111, 115, 116], x_env.Host⟩ : api_Field)]).length) (cells za ([(⟨[72, 111, 115, 116], x_env.Host⟩ : api_Field)])), .blk x_w_b1 [.slice p12 l14.length c13] 107, .row (.slice p12 l14.length c13) 54 2 l14.length (cells za l14), .blk b2 [int x_t.Kind, str x_t.Scheme, int x_t.Host.Kind, str x_t.Host.Name, int x_t.Host.Port, str x_t.Path, str x_t.Query, .bool x_t.HasQuery] 89, .blk b1 [str x_env.Client, str x_env.Host, str x_env.Scheme, str x_env.By, .slice x_env_p4 x_env.Domains.length x_env_c4, .slice x_env_p5 x_env.Locations.length x_env_c5] 24, .blk x_w_b0 [ptr x_w_b1 0, int x_w.f_h.Kind, str x_w.f_h.Method, str x_w.f_h.Target, int x_w.f_h.Code, str x_w.f_h.Reason, int x_w.f_h.Minor, .slice x_w_p3 x_w.f_h.Fields.length x_w_c3] 66, .shr x_w_p3 (cells za x_w.f_h.Fields), .shr x_env_p4 (cells zb x_env.Domains), .shr x_env_p5 (cells zb x_env.Locations)] := hst; ze (o := 0) znI (hO.blkSees (i := 5) rfl) rfl hf rfl | 2, _, _, _, hst, hf => have hO : Dk.Own w0 F w [.blk x_w_b1 [.slice (σ.2.1) r20.f_l.length (σ.2.2)] 107, .row (.slice (σ.2.1) r20.f_l.length (σ.2.2)) 54 2 r20.f_l.length (cells za r20.f_l), .row (.slice (some ⟨(σ.1), 0, none⟩) (([(⟨[72, 111, 115, 116], x_env.Host⟩ : api_Field)]).length) 1) 54 2 (([(⟨[72, 111, 115, 116], x_env.Host⟩ : api_Field)]).length) (cells za ([(⟨[72, 111, 115, 116], x_env.Host⟩ : api_Field)])), .blk b2 [int x_t.Kind, str x_t.Scheme, int x_t.Host.Kind, str x_t.Host.Name, int x_t.Host.Port, str x_t.Path, str x_t.Query, .bool x_t.HasQuery] 89, .blk b1 [str x_env.Client, str x_env.Host, str x_env.Scheme, str x_env.By, .slice x_env_p4 x_env.Domains.length x_env_c4, .slice x_env_p5 x_env.Locations.length x_env_c5] 24, .blk x_w_b0 [ptr x_w_b1 0, int x_w.f_h.Kind, str x_w.f_h.Method, str x_w.f_h.Target, int x_w.f_h.Code, str x_w.f_h.Reason, int x_w.f_h.Minor, .slice x_w_p3 x_w.f_h.Fields.length x_w_c3] 66, .shr x_w_p3 (cells za x_w.f_h.Fields), .shr x_env_p4 (cells zb x_env.Domains), .shr x_env_p5 (cells zb x_env.Locations)] := hst; ze (o := 0) znI (hO.blkSees (i := 5) rfl) rfl hf rfl | k + 3, hk, _, _, _, _ => absurd hk (by simp)), zc rfl (fun σ => rfl) (fun σ => rfl) (fun σ a w k _ _ _ _ hf => zw ztZ hf rfl), zc rfl (fun σ => rfl) (fun σ => rfl) (fun σ a w k hk hlo hup hst hf => match k, hk, hlo, hup, hst, hf with | 0, _, _, _, hst, hf => have hO : Dk.Own w0 F w [.blk x_w_b1 [.slice p12 l14.length c13] 107, .row (.slice p12 l14.length c13) 54 2 l14.length (cells za l14), .blk b2 [int x_t.Kind, str x_t.Scheme, int x_t.Host.Kind, str x_t.Host.Name, int x_t.Host.Port, str x_t.Path, str x_t.Query, .bool x_t.HasQuery] 89, .blk b1 [str x_env.Client, str x_env.Host, str x_env.Scheme, str x_env.By, .slice x_env_p4 x_env.Domains.length x_env_c4, .slice x_env_p5 x_env.Locations.length x_env_c5] 24, .blk x_w_b0 [ptr x_w_b1 0, int x_w.f_h.Kind, str x_w.f_h.Method, str x_w.f_h.Target, int x_w.f_h.Code, str x_w.f_h.Reason, int x_w.f_h.Minor, .slice x_w_p3 x_w.f_h.Fields.length x_w_c3] 66, .shr x_w_p3 (cells za x_w.f_h.Fields), .shr x_env_p4 (cells zb x_env.Domains), .shr x_env_p5 (cells zb x_env.Locations)] := hst; ze (o := 1) z7 (hO.blkSees (i := 3) rfl) rfl hf rfl | 1, _, _, _, hst, hf => have hO : Dk.Own w0 F w [.row (.slice (some ⟨(σ.1), 0, none⟩) (([(⟨[72, 111, 115, 116], x_env.Host⟩ : api_Field)]).length) 1) 54 2 (([(⟨[72, 111, 115, 116], x_env.Host⟩ : api_Field)]).length) (cells za ([(⟨[72, 111, 115, 116], x_env.Host⟩ : api_Field)])), .blk x_w_b1 [.slice p12 l14.length c13] 107, .row (.slice p12 l14.length c13) 54 2 l14.length (cells za l14), .blk b2 [int x_t.Kind, str x_t.Scheme, int x_t.Host.Kind, str x_t.Host.Name, int x_t.Host.Port, str x_t.Path, str x_t.Query, .bool x_t.HasQuery] 89, .blk b1 [str x_env.Client, str x_env.Host, str x_env.Scheme, str x_env.By, .slice x_env_p4 x_env.Domains.length x_env_c4, .slice x_env_p5 x_env.Locations.length x_env_c5] 24, .blk x_w_b0 [ptr x_w_b1 0, int x_w.f_h.Kind, str x_w.f_h.Method, str x_w.f_h.Target, int x_w.f_h.Code, str x_w.f_h.Reason, int x_w.f_h.Minor, .slice x_w_p3 x_w.f_h.Fields.length x_w_c3] 66, .shr x_w_p3 (cells za x_w.f_h.Fields), .shr x_env_p4 (cells zb x_env.Domains), .shr x_env_p5 (cells zb x_env.Locations)] := hst; ze (o := 1) z7 (hO.blkSees (i := 4) rfl) rfl hf rfl | 2, _, _, _, hst, hf => have hO : Dk.Own w0 F w [.blk x_w_b1 [.slice (σ.2.1) r20.f_l.length (σ.2.2)] 107, .row (.slice (σ.2.1) r20.f_l.length (σ.2.2)) 54 2 r20.f_l.length (cells za r20.f_l), .row (.slice (some ⟨(σ.1), 0, none⟩) (([(⟨[72, 111, 115, 116], x_env.Host⟩ : api_Field)]).length) 1) 54 2 (([(⟨[72, 111, 115, 116], x_env.Host⟩ : api_Field)]).length) (cells za ([(⟨[72, 111, 115, 116], x_env.Host⟩ : api_Field)])), .blk b2 [int x_t.Kind, str x_t.Scheme, int x_t.Host.Kind, str x_t.Host.Name, int x_t.Host.Port, str x_t.Path, str x_t.Query, .bool x_t.HasQuery] 89, .blk b1 [str x_env.Client, str x_env.Host, str x_env.Scheme, str x_env.By, .slice x_env_p4 x_env.Domains.length x_env_c4, .slice x_env_p5 x_env.Locations.length x_env_c5] 24, .blk x_w_b0 [ptr x_w_b1 0, int x_w.f_h.Kind, str x_w.f_h.Method, str x_w.f_h.Target, int x_w.f_h.Code, str x_w.f_h.Reason, int x_w.f_h.Minor, .slice x_w_p3 x_w.f_h.Fields.length x_w_c3] 66, .shr x_w_p3 (cells za x_w.f_h.Fields), .shr x_env_p4 (cells zb x_env.Domains), .shr x_env_p5 (cells zb x_env.Locations)] := hst; ze (o := 1) z7 (hO.blkSees (i := 4) rfl) rfl hf rfl | k + 3, hk, _, _, _, _ => absurd hk (by simp)), zc rfl (fun σ => rfl) (fun σ => rfl) (fun σ a w k _ _ _ _ hf => zB (vs := [(0, str [72, 111, 115, 116]), (1, str x_env.Host)]) (v := .agg #[str [72, 111, 115, 116], str x_env.Host]) hf rfl (by kernel_rfl)), zfB rfl (fun σ => rfl) (fun σ => rfl) rfl (fun σ w (hO : Dk.Own w0 F w [.blk x_w_b1 [.slice p12 l14.length c13] 107, .row (.slice p12 l14.length c13) 54 2 l14.length (cells za l14), .blk b2 [int x_t.Kind, str x_t.Scheme, int x_t.Host.Kind, str x_t.Host.Name, int x_t.Host.Port, str x_t.Path, str x_t.Query, .bool x_t.HasQuery] 89, .blk b1 [str x_env.Client, str x_env.Host, str x_env.Scheme, str x_env.By, .slice x_env_p4 x_env.Domains.length x_env_c4, .slice x_env_p5 x_env.Locations.length x_env_c5] 24, .blk x_w_b0 [ptr x_w_b1 0, int x_w.f_h.Kind, str x_w.f_h.Method, str x_w.f_h.Target, int x_w.f_h.Code, str x_w.f_h.Reason, int x_w.f_h.Minor, .slice x_w_p3 x_w.f_h.Fields.length x_w_c3] 66, .shr x_w_p3 (cells za x_w.f_h.Fields), .shr x_env_p4 (cells zb x_env.Domains), .shr x_env_p5 (cells zb x_env.Locations)]) => by obtain ⟨b19, w', hO', hr⟩ := zbY (E := [(41, .agg #[str [72, 111, 115, 116], str x_env.Host])]) (parts := #[(0, (.tmp 41))]) (t' := 26) (n := 1) (vs := [(0, .agg #[str [72, 111, 115, 116], str x_env.Host])]) (cs := [str [72, 111, 115, 116], str x_env.Host]) (e := 54) (sz := 2) (fun w => by kernel_rfl) rfl rfl hO rfl; exact ⟨(b19, (σ.2.1), (σ.2.2)), w', hO', ⟨.inr rfl, .inr rfl, .inr rfl, .inr rfl, .inr rfl, .inr rfl, .inr rfl, .inl rfl, .inl rfl, trivial⟩, hr⟩), zbg rfl (fun σ => rfl) (fun σ => rfl) rfl (fun σ a w (_ : _) hf => zh c_82 hf (vs := [ptr x_w_b1 0, .slice (some ⟨(σ.1), 0, none⟩) (([(⟨[72, 111, 115, 116], x_env.Host⟩ : api_Field)]).length) 1]) rfl) (fun σ w (hO : Dk.Own w0 F w [.row (.slice (some ⟨(σ.1), 0, none⟩) (([(⟨[72, 111, 115, 116], x_env.Host⟩ : api_Field)]).length) 1) 54 2 (([(⟨[72, 111, 115, 116], x_env.Host⟩ : api_Field)]).length) (cells za ([(⟨[72, 111, 115, 116], x_env.Host⟩ : api_Field)])), .blk x_w_b1 [.slice p12 l14.length c13] 107, .row (.slice p12 l14.length c13) 54 2 l14.length (cells za l14), .blk b2 [int x_t.Kind, str x_t.Scheme, int x_t.Host.Kind, str x_t.Host.Name, int x_t.Host.Port, str x_t.Path, str x_t.Query, .bool x_t.HasQuery] 89, .blk b1 [str x_env.Client, str x_env.Host, str x_env.Scheme, str x_env.By, .slice x_env_p4 x_env.Domains.length x_env_c4, .slice x_env_p5 x_env.Locations.length x_env_c5] 24, .blk x_w_b0 [ptr x_w_b1 0, int x_w.f_h.Kind, str x_w.f_h.Method, str x_w.f_h.Target, int x_w.f_h.Code, str x_w.f_h.Reason, int x_w.f_h.Minor, .slice x_w_p3 x_w.f_h.Fields.length x_w_c3] 66, .shr x_w_p3 (cells za x_w.f_h.Fields), .shr x_env_p4 (cells zb x_env.Domains), .shr x_env_p5 (cells zb x_env.Locations)]) => (ziN (⟨l14⟩ : bag_Bag) ([(⟨[72, 111, 115, 116], x_env.Host⟩ : api_Field)]) r20 _ (hG.own hF hO).1 (Dk.Own.far (show Dk.Own w0 F _ ([.blk x_w_b1 [.slice p12 l14.length c13] 107, .row (.slice p12 l14.length c13) 54 2 l14.length (cells za l14)] ++ [.row (.slice (some ⟨(σ.1), 0, none⟩) (([(⟨[72, 111, 115, 116], x_env.Host⟩ : api_Field)]).length) 1) 54 2 (([(⟨[72, 111, 115, 116], x_env.Host⟩ : api_Field)]).length) (cells za ([(⟨[72, 111, 115, 116], x_env.Host⟩ : api_Field)])), .blk b2 [int x_t.Kind, str x_t.Scheme, int x_t.Host.Kind, str x_t.Host.Name, int x_t.Host.Port, str x_t.Path, str x_t.Query, .bool x_t.HasQuery] 89, .blk b1 [str x_env.Client, str x_env.Host, str x_env.Scheme, str x_env.By, .slice x_env_p4 x_env.Domains.length x_env_c4, .slice x_env_p5 x_env.Locations.length x_env_c5] 24, .blk x_w_b0 [ptr x_w_b1 0, int x_w.f_h.Kind, str x_w.f_h.Method, str x_w.f_h.Target, int x_w.f_h.Code, str x_w.f_h.Reason, int x_w.f_h.Minor, .slice x_w_p3 x_w.f_h.Fields.length x_w_c3] 66, .shr x_w_p3 (cells za x_w.f_h.Fields), .shr x_env_p4 (cells zb x_env.Domains), .shr x_env_p5 (cells zb x_env.Locations)]) from hO.choose [1, 2, 0, 3, 4, 5, 6, 7, 8] rfl) rfl hF hG.size) ((show Dk.Own w0 F _ ([.blk x_w_b1 [.slice p12 l14.length c13] 107, .row (.slice p12 l14.length c13) 54 2 l14.length (cells za l14)] ++ [.row (.slice (some ⟨(σ.1), 0, none⟩) (([(⟨[72, 111, 115, 116], x_env.Host⟩ : api_Field)]).length) 1) 54 2 (([(⟨[72, 111, 115, 116], x_env.Host⟩ : api_Field)]).length) (cells za ([(⟨[72, 111, 115, 116], x_env.Host⟩ : api_Field)])), .blk b2 [int x_t.Kind, str x_t.Scheme, int x_t.Host.Kind, str x_t.Host.Name, int x_t.Host.Port, str x_t.Path, str x_t.Query, .bool x_t.HasQuery] 89, .blk b1 [str x_env.Client, str x_env.Host, str x_env.Scheme, str x_env.By, .slice x_env_p4 x_env.Domains.length x_env_c4, .slice x_env_p5 x_env.Locations.length x_env_c5] 24, .blk x_w_b0 [ptr x_w_b1 0, int x_w.f_h.Kind, str x_w.f_h.Method, str x_w.f_h.Target, int x_w.f_h.Code, str x_w.f_h.Reason, int x_w.f_h.Minor, .slice x_w_p3 x_w.f_h.Fields.length x_w_c3] 66, .shr x_w_p3 (cells za x_w.f_h.Fields), .shr x_env_p4 (cells zb x_env.Domains), .shr x_env_p5 (cells zb x_env.Locations)]) from hO.choose [1, 2, 0, 3, 4, 5, 6, 7, 8] rfl).lend (S := [.shr (some ⟨(σ.1), 0, none⟩) (cells za ([(⟨[72, 111, 115, 116], x_env.Host⟩ : api_Field)]))]) rfl ⟨zkN (hO.rowSees (i := 0) rfl) (List.mem_of_getElem? (i := 0) rfl), trivial⟩) (hO.rowCap (i := 0) rfl) hr20).mono fun e w' h => by obtain ⟨p21, c22, he, hO'⟩ := h; exact ⟨((σ.1), p21, c22), he, (show Dk.Own w0 F _ ([.blk x_w_b1 [.slice p12 l14.length c13] 107, .row (.slice p12 l14.length c13) 54 2 l14.length (cells za l14)] ++ [.row (.slice (some ⟨(σ.1), 0, none⟩) (([(⟨[72, 111, 115, 116], x_env.Host⟩ : api_Field)]).length) 1) 54 2 (([(⟨[72, 111, 115, 116], x_env.Host⟩ : api_Field)]).length) (cells za ([(⟨[72, 111, 115, 116], x_env.Host⟩ : api_Field)])), .blk b2 [int x_t.Kind, str x_t.Scheme, int x_t.Host.Kind, str x_t.Host.Name, int x_t.Host.Port, str x_t.Path, str x_t.Query, .bool x_t.HasQuery] 89, .blk b1 [str x_env.Client, str x_env.Host, str x_env.Scheme, str x_env.By, .slice x_env_p4 x_env.Domains.length x_env_c4, .slice x_env_p5 x_env.Locations.length x_env_c5] 24, .blk x_w_b0 [ptr x_w_b1 0, int x_w.f_h.Kind, str x_w.f_h.Method, str x_w.f_h.Target, int x_w.f_h.Code, str x_w.f_h.Reason, int x_w.f_h.Minor, .slice x_w_p3 x_w.f_h.Fields.length x_w_c3] 66, .shr x_w_p3 (cells za x_w.f_h.Fields), .shr x_env_p4 (cells zb x_env.Domains), .shr x_env_p5 (cells zb x_env.Locations)]) from hO.choose [1, 2, 0, 3, 4, 5, 6, 7, 8] rfl).back rfl hO' rfl, .inr rfl, .inr rfl, .inr rfl, .inr rfl, .inr rfl, .inr rfl, .inr rfl, .inr rfl, .inr rfl, trivial⟩), trivial⟩ ?_
 rintro ⟨b19, p21, c22⟩ a w hf hO
 have hO : Dk.Own w0 F w [.blk x_w_b1 [.slice p21 r20.f_l.length c22] 107, .row (.slice p21 r20.f_l.length c22) 54 2 r20.f_l.length (cells za r20.f_l), .row (.slice (some ⟨b19, 0, none⟩) (([(⟨[72, 111, 115, 116], x_env.Host⟩ : api_Field)]).length) 1) 54 2 (([(⟨[72, 111, 115, 116], x_env.Host⟩ : api_Field)]).length) (cells za ([(⟨[72, 111, 115, 116], x_env.Host⟩ : api_Field)])), .blk b2 [int x_t.Kind, str x_t.Scheme, int x_t.Host.Kind, str x_t.Host.Name, int x_t.Host.Port, str x_t.Path, str x_t.Query, .bool x_t.HasQuery] 89, .blk b1 [str x_env.Client, str x_env.Host, str x_env.Scheme, str x_env.By, .slice x_env_p4 x_env.Domains.length x_env_c4, .slice x_env_p5 x_env.Locations.length x_env_c5] 24, .blk x_w_b0 [ptr x_w_b1 0, int x_w.f_h.Kind, str x_w.f_h.Method, str x_w.f_h.Target, int x_w.f_h.Code, str x_w.f_h.Reason, int x_w.f_h.Minor, .slice x_w_p3 x_w.f_h.Fields.length x_w_c3] 66, .shr x_w_p3 (cells za x_w.f_h.Fields), .shr x_env_p4 (cells zb x_env.Domains), .shr x_env_p5 (cells zb x_env.Locations)] := hO
 have hf : Fits 44 [] a := hf.nil
 refine S.no tb ?_ hf hO hm
 refine rn_ rfl fun a w hf hO hm => ?_
 obtain rfl := Option.some.inj hm
 exact zhV Tryz.results41 hf .nil ⟨p21, c22, rfl, (hO.choose [5, 0, 1] rfl)⟩
 refine rn_ rfl fun a w hf hO hm => ?_
 obtain rfl := Option.some.inj hm
 exact zhV Tryz.results41 hf .nil ⟨p12, c13, rfl, (hO.choose [4, 0, 1] rfl)⟩

theorem zdo (x_w : stage_worker) (R : api_Head × Int) (w0 : World) (hG : zt w0) {x_w_b0 : Nat} {x_w_b1 : Nat} {x_w_p2 : Option Addr} {x_w_c2 : Nat} {x_w_p3 : Option Addr} {x_w_c3 : Nat} {F : List Nat} (hF : zu F) (hO : Dk.Own w0 F w0 [.blk x_w_b0 [ptr x_w_b1 0, int x_w.f_h.Kind, str x_w.f_h.Method, str x_w.f_h.Target, int x_w.f_h.Code, str x_w.f_h.Reason, int x_w.f_h.Minor, .slice x_w_p3 x_w.f_h.Fields.length x_w_c3] 66, .blk x_w_b1 [.slice x_w_p2 x_w.Bag.f_l.length x_w_c2] 107, .row (.slice x_w_p2 x_w.Bag.f_l.length x_w_c2) 54 2 x_w.Bag.f_l.length (cells za x_w.Bag.f_l), .shr x_w_p3 (cells za x_w.f_h.Fields)]) (hcw0 : x_w.f_h.Fields.length ≤ x_w_c3) (hm : zat x_w = some R) :
    Calls Tryz.prog 25 #[ptr x_w_b0 0] w0 fun e w' => ∃ (p0 : Option Addr) (c0 : Nat), e = .returned (.tuple #[.agg #[int R.1.Kind, str R.1.Method, str R.1.Target, int R.1.Code, str R.1.Reason, int R.1.Minor, .slice p0 R.1.Fields.length c0], int R.2]) ∧ Dk.Own w0 F w' [.row (.slice p0 R.1.Fields.length c0) 54 2 R.1.Fields.length (cells za R.1.Fields)] := by
 rw [zat] at hm
 refine S.enter tb Tryz.func25 rfl Tryz.ntmps25 rfl ?_ hO hm
 refine al zpe rfl fun b1 => ?_
 refine nl 54 2 ?_
 refine ld 2 rfl rfl ?_
 refine rw_ rfl fun a w hf hO hm => ?_
 obtain ⟨r3, hr3, hm⟩ := ob hm
 refine zj (zh ztw hf (vs := [ptr x_w_b1 0]) rfl) rfl hf rfl rfl (zcL x_w.Bag r3 _ (hG.own hF hO) (hO.blkSees (i := 3) rfl) (hO.rowSees (i := 4) rfl) (hO.rowCap (i := 4) rfl) hr3) ?_
 rintro e w' ⟨p4, c5, he, hO'⟩
 refine ⟨_, he, fun a hf => ?_⟩
 have hO := hO.call hO' (by simp [Res.shared])
 refine S.op tb ?_ hf hO hm
 refine st 3 rfl rfl ?_
 refine ld 3 rfl rfl ?_
 refine st 2 rfl rfl ?_
 refine re_ rfl fun a w hf hO hm => ?_
 obtain rfl := Option.some.inj hm
 exact zi Tryz.results25 hf (.cell rfl (zp (n := 7) (vs := [int x_w.f_h.Kind, str x_w.f_h.Method, str x_w.f_h.Target, int x_w.f_h.Code, str x_w.f_h.Reason, int x_w.f_h.Minor, .slice p4 r3.length c5]) zfi ze4 rfl ((hO.blkSees (i := 2) rfl).cells (o := 0) (n := 7) rfl)) (.tmp rfl .nil)) ⟨p4, c5, rfl, (hO.sub (.cons_cons _ (.cons _ (.cons _ (.cons _ (.cons _ (.cons _ (.cons _ .slnil))))))))⟩

theorem zpZ (x_a0 : api_Env) (x_a1 : api_Head) (R : api_Head × Int) (w0 : World) (hG : zaG w0) {x_a0_p0 : Option Addr} {x_a0_c0 : Nat} (hs0 : zy w0 x_a0_p0 (cells zb x_a0.Domains)) (hc0 : x_a0.Domains.length ≤ x_a0_c0) {x_a0_p1 : Option Addr} {x_a0_c1 : Nat} (hs1 : zy w0 x_a0_p1 (cells zb x_a0.Locations)) (hc1 : x_a0.Locations.length ≤ x_a0_c1) {x_a1_p2 : Option Addr} {x_a1_c2 : Nat} (hs2 : zy w0 x_a1_p2 (cells za x_a1.Fields)) (hc2 : x_a1.Fields.length ≤ x_a1_c2) (hm : zkB x_a0 x_a1 = some R) :
    Calls Tryz.prog 16 #[.agg #[str x_a0.Client, str x_a0.Host, str x_a0.Scheme, str x_a0.By, .slice x_a0_p0 x_a0.Domains.length x_a0_c0, .slice x_a0_p1 x_a0.Locations.length x_a0_c1], .agg #[int x_a1.Kind, str x_a1.Method, str x_a1.Target, int x_a1.Code, str x_a1.Reason, int x_a1.Minor, .slice x_a1_p2 x_a1.Fields.length x_a1_c2]] w0 fun e w' => ∃ (p0 : Option Addr) (c0 : Nat), e = .returned (.tuple #[.agg #[int R.1.Kind, str R.1.Method, str R.1.Target, int R.1.Code, str R.1.Reason, int R.1.Minor, .slice p0 R.1.Fields.length c0], int R.2]) ∧ Dk.Own w0 [] w' [.row (.slice p0 R.1.Fields.length c0) 54 2 R.1.Fields.length (cells za R.1.Fields)] := by
 rw [zkB] at hm
 have hF : zu [] := zf
 have hO : Dk.Own w0 [] w0 [] := Dk.Own.refl w0
 have hO := hO.addShr hs0 (by simp [Res.shared])
 have hO := hO.addShr hs1 (by simp [Res.shared])
 have hO := hO.addShr hs2 (by simp [Res.shared])
 refine S.enter tb Tryz.func16 rfl Tryz.ntmps16 rfl ?_ hO hm
 refine bo rfl fun b1 => ?_
 refine bo rfl fun b2 => ?_
 refine al zpe rfl fun b3 => ?_
 refine nl 54 2 ?_
 refine rc_ rfl fun a w hf hO hm => ?_
 obtain ⟨r5, hr5, hm⟩ := ob hm
 obtain ⟨r8, hr8, hm⟩ := ob hm
 refine zaV (S := Option Addr × Nat × Nat × Option Addr × Nat × Nat) (E0 := [(2, ptr b1 0), (3, ptr b2 0), (4, ptr b3 0)]) (by kernel_rfl) (fun k σ w => match k with | 0 => Dk.Own w0 [] w [.row (.slice none 0 0) 54 2 0 (cells za []), .blk b3 [int 0, str [], str [], int 0, str [], int 0, .slice none 0 0] 28, .blk b2 [int x_a1.Kind, str x_a1.Method, str x_a1.Target, int x_a1.Code, str x_a1.Reason, int x_a1.Minor, .slice x_a1_p2 x_a1.Fields.length x_a1_c2] 28, .blk b1 [str x_a0.Client, str x_a0.Host, str x_a0.Scheme, str x_a0.By, .slice x_a0_p0 x_a0.Domains.length x_a0_c0, .slice x_a0_p1 x_a0.Locations.length x_a0_c1] 24, .shr x_a1_p2 (cells za x_a1.Fields), .shr x_a0_p1 (cells zb x_a0.Locations), .shr x_a0_p0 (cells zb x_a0.Domains)] | 1 => Dk.Own w0 [] w [.row (.slice (σ.1) r5.length (σ.2.1)) 54 2 r5.length (cells za r5), .row (.slice none 0 0) 54 2 0 (cells za []), .blk b3 [int 0, str [], str [], int 0, str [], int 0, .slice none 0 0] 28, .blk b2 [int x_a1.Kind, str x_a1.Method, str x_a1.Target, int x_a1.Code, str x_a1.Reason, int x_a1.Minor, .slice x_a1_p2 x_a1.Fields.length x_a1_c2] 28, .blk b1 [str x_a0.Client, str x_a0.Host, str x_a0.Scheme, str x_a0.By, .slice x_a0_p0 x_a0.Domains.length x_a0_c0, .slice x_a0_p1 x_a0.Locations.length x_a0_c1] 24, .shr x_a1_p2 (cells za x_a1.Fields), .shr x_a0_p1 (cells zb x_a0.Locations), .shr x_a0_p0 (cells zb x_a0.Domains)] | 2 => Dk.Own w0 [] w [.blk (σ.2.2.1) [.slice (σ.2.2.2.1) r8.f_l.length (σ.2.2.2.2.1)] 107, .row (.slice (σ.2.2.2.1) r8.f_l.length (σ.2.2.2.2.1)) 54 2 r8.f_l.length (cells za r8.f_l), .row (.slice (σ.1) r5.length (σ.2.1)) 54 2 r5.length (cells za r5), .row (.slice none 0 0) 54 2 0 (cells za []), .blk b3 [int 0, str [], str [], int 0, str [], int 0, .slice none 0 0] 28, .blk b2 [int x_a1.Kind, str x_a1.Method, str x_a1.Target, int x_a1.Code, str x_a1.Reason, int x_a1.Minor, .slice x_a1_p2 x_a1.Fields.length x_a1_c2] 28, .blk b1 [str x_a0.Client, str x_a0.Host, str x_a0.Scheme, str x_a0.By, .slice x_a0_p0 x_a0.Domains.length x_a0_c0, .slice x_a0_p1 x_a0.Locations.length x_a0_c1] 24, .shr x_a1_p2 (cells za x_a1.Fields), .shr x_a0_p1 (cells zb x_a0.Locations), .shr x_a0_p0 (cells zb x_a0.Domains)] | _ => Dk.Own w0 [] w [.blk (σ.2.2.2.2.2) [ptr (σ.2.2.1) 0, int x_a1.Kind, str x_a1.Method, str x_a1.Target, int x_a1.Code, str x_a1.Reason, int x_a1.Minor, .slice x_a1_p2 x_a1.Fields.length x_a1_c2] 66, .blk (σ.2.2.1) [.slice (σ.2.2.2.1) r8.f_l.length (σ.2.2.2.2.1)] 107, .row (.slice (σ.2.2.2.1) r8.f_l.length (σ.2.2.2.2.1)) 54 2 r8.f_l.length (cells za r8.f_l), .row (.slice (σ.1) r5.length (σ.2.1)) 54 2 r5.length (cells za r5), .row (.slice none 0 0) 54 2 0 (cells za []), .blk b3 [int 0, str [], str [], int 0, str [], int 0, .slice none 0 0] 28, .blk b2 [int x_a1.Kind, str x_a1.Method, str x_a1.Target, int x_a1.Code, str x_a1.Reason, int x_a1.Minor, .slice x_a1_p2 x_a1.Fields.length x_a1_c2] 28, .blk b1 [str x_a0.Client, str x_a0.Host, str x_a0.Scheme, str x_a0.By, .slice x_a0_p0 x_a0.Domains.length x_a0_c0, .slice x_a0_p1 x_a0.Locations.length x_a0_c1] 24, .shr x_a1_p2 (cells za x_a1.Fields), .shr x_a0_p1 (cells zb x_a0.Locations), .shr x_a0_p0 (cells zb x_a0.Domains)]) (fun σ => [⟨[(3, ptr b2 0)], some (9, ptr b2 6)⟩, ⟨[(9, ptr b2 6)], some (10, .slice x_a1_p2 x_a1.Fields.length x_a1_c2)⟩, ⟨[(10, .slice x_a1_p2 x_a1.Fields.length x_a1_c2)], some (11, .slice (σ.1) r5.length (σ.2.1))⟩, ⟨[(11, .slice (σ.1) r5.length (σ.2.1))], some (12, ptr (σ.2.2.1) 0)⟩, ⟨[(3, ptr b2 0)], some (13, .agg #[int x_a1.Kind, str x_a1.Method, str x_a1.Target, int x_a1.Code, str x_a1.Reason, int x_a1.Minor, .slice x_a1_p2 x_a1.Fields.length x_a1_c2])⟩, ⟨[(12, ptr (σ.2.2.1) 0), (13, .agg #[int x_a1.Kind, str x_a1.Method, str x_a1.Target, int x_a1.Code, str x_a1.Reason, int x_a1.Minor, .slice x_a1_p2 x_a1.Fields.length x_a1_c2])], some (14, .agg #[ptr (σ.2.2.1) 0, int x_a1.Kind, str x_a1.Method, str x_a1.Target, int x_a1.Code, str x_a1.Reason, int x_a1.Minor, .slice x_a1_p2 x_a1.Fields.length x_a1_c2])⟩, ⟨[(14, .agg #[ptr (σ.2.2.1) 0, int x_a1.Kind, str x_a1.Method, str x_a1.Target, int x_a1.Code, str x_a1.Reason, int x_a1.Minor, .slice x_a1_p2 x_a1.Fields.length x_a1_c2])], some (15, ptr (σ.2.2.2.2.2) 0)⟩, ⟨[(15, ptr (σ.2.2.2.2.2) 0)], some (6, ptr (σ.2.2.2.2.2) 0)⟩]) (none, 0, 0, none, 0, 0) [2, 3, 6] rfl (fun _ => rfl) (fun _ => rfl) (fun _ => rfl) rfl rfl (by decide) rfl hO.drew (hf.cons rfl (hf.cons rfl (hf.cons rfl hf.nil))) (fun σ => ⟨⟨rfl, trivial⟩, ⟨rfl, trivial⟩, ⟨rfl, trivial⟩, ⟨rfl, trivial⟩, ⟨rfl, trivial⟩, ⟨rfl, rfl, trivial⟩, ⟨rfl, trivial⟩, ⟨rfl, trivial⟩, trivial⟩) ⟨zc rfl (fun σ => rfl) (fun σ => rfl) (fun σ a w k _ _ _ _ hf => zw zmE hf rfl), zc rfl (fun σ => rfl) (fun σ => rfl) (fun σ a w k hk hlo hup hst hf => match k, hk, hlo, hup, hst, hf with | 0, _, _, _, hst, hf => have hO : Dk.Own w0 [] w _ := hst; ze (o := 6) zdi (hO.blkSees (i := 2) rfl) rfl hf rfl | 1, _, _, _, hst, hf => have hO : Dk.Own w0 [] w _ := hst; ze (o := 6) zdi (hO.blkSees (i := 3) rfl) rfl hf rfl | 2, _, _, _, hst, hf => have hO : Dk.Own w0 [] w _ := hst; ze (o := 6) zdi (hO.blkSees (i := 5) rfl) rfl hf rfl | 3, _, _, _, hst, hf => have hO : Dk.Own w0 [] w _ := hst; ze (o := 6) zdi (hO.blkSees (i := 6) rfl) rfl hf rfl | k + 4, hk, _, _, _, _ => absurd hk (by simp)), zbg rfl (fun σ => rfl) (fun σ => rfl) rfl (fun σ a w (_ : _) hf => zh c_38 hf (vs := [.slice x_a1_p2 x_a1.Fields.length x_a1_c2]) rfl) (fun σ w (hO : Dk.Own w0 [] w _) => (zrT x_a1.Fields r5 _ (hG.own hF hO).1 (hO.sees (i := 4) rfl) hc2 hr5).mono fun e w' h => by obtain ⟨p6, c7, he, hO'⟩ := h; exact ⟨(p6, c7, (σ.2.2.1), (σ.2.2.2.1), (σ.2.2.2.2.1), (σ.2.2.2.2.2)), he, hO.call hO' (by simp [Res.shared]), .inr rfl, .inr rfl, .inl rfl, .inl rfl, .inr rfl, .inr rfl, .inr rfl, .inr rfl, trivial⟩), zbg rfl (fun σ => rfl) (fun σ => rfl) rfl (fun σ a w (_ : _) hf => zh zsz hf (vs := [.slice (σ.1) r5.length (σ.2.1)]) rfl) (fun σ w (hO : Dk.Own w0 [] w _) => (zfJ r5 r8 _ (hG.own hF hO).1 (hO.rowSees (i := 0) rfl) (hO.rowCap (i := 0) rfl) hr8).mono fun e w' h => by obtain ⟨b9, p10, c11, he, hO'⟩ := h; exact ⟨((σ.1), (σ.2.1), b9, p10, c11, (σ.2.2.2.2.2)), he, hO.call hO' (by simp [Res.shared]), .inr rfl, .inr rfl, .inr rfl, .inl rfl, .inr rfl, .inl rfl, .inl rfl, .inr rfl, trivial⟩), zc rfl (fun σ => rfl) (fun σ => rfl) (fun σ a w k hk hlo hup hst hf => match k, hk, hlo, hup, hst, hf with | 0, _, _, _, hst, hf => have hO : Dk.Own w0 [] w _ := hst; zo (o := 0) (vs := [int x_a1.Kind, str x_a1.Method, str x_a1.Target, int x_a1.Code, str x_a1.Reason, int x_a1.Minor, .slice x_a1_p2 x_a1.Fields.length x_a1_c2]) zfi ze4 (hO.blkSees (i := 2) rfl) rfl rfl hf rfl | 1, _, _, _, hst, hf => have hO : Dk.Own w0 [] w _ := hst; zo (o := 0) (vs := [int x_a1.Kind, str x_a1.Method, str x_a1.Target, int x_a1.Code, str x_a1.Reason, int x_a1.Minor, .slice x_a1_p2 x_a1.Fields.length x_a1_c2]) zfi ze4 (hO.blkSees (i := 3) rfl) rfl rfl hf rfl | 2, _, _, _, hst, hf => have hO : Dk.Own w0 [] w _ := hst; zo (o := 0) (vs := [int x_a1.Kind, str x_a1.Method, str x_a1.Target, int x_a1.Code, str x_a1.Reason, int x_a1.Minor, .slice x_a1_p2 x_a1.Fields.length x_a1_c2]) zfi ze4 (hO.blkSees (i := 5) rfl) rfl rfl hf rfl | 3, _, _, _, hst, hf => have hO : Dk.Own w0 [] w _ := hst; zo (o := 0) (vs := [int x_a1.Kind, str x_a1.Method, str x_a1.Target, int x_a1.Code, str x_a1.Reason, int x_a1.Minor, .slice x_a1_p2 x_a1.Fields.length x_a1_c2]) zfi ze4 (hO.blkSees (i := 6) rfl) rfl rfl hf rfl | k + 4, hk, _, _, _, _ => absurd hk (by simp)), zc rfl (fun σ => rfl) (fun σ => rfl) (fun σ a w k _ _ _ _ hf => zB (vs := [(0, ptr (σ.2.2.1) 0), (1, .agg #[int x_a1.Kind, str x_a1.Method, str x_a1.Target, int x_a1.Code, str x_a1.Reason, int x_a1.Minor, .slice x_a1_p2 x_a1.Fields.length x_a1_c2])]) (v := .agg #[ptr (σ.2.2.1) 0, int x_a1.Kind, str x_a1.Method, str x_a1.Target, int x_a1.Code, str x_a1.Reason, int x_a1.Minor, .slice x_a1_p2 x_a1.Fields.length x_a1_c2]) hf rfl (by kernel_rfl)), zfB rfl (fun σ => rfl) (fun σ => rfl) rfl (fun σ w (hO : Dk.Own w0 [] w _) => by obtain ⟨b12, w', hO', hr⟩ := zu9 (E := [(14, .agg #[ptr (σ.2.2.1) 0, int x_a1.Kind, str x_a1.Method, str x_a1.Target, int x_a1.Code, str x_a1.Reason, int x_a1.Minor, .slice x_a1_p2 x_a1.Fields.length x_a1_c2])]) (x := (.tmp 14)) (v := .agg #[ptr (σ.2.2.1) 0, int x_a1.Kind, str x_a1.Method, str x_a1.Target, int x_a1.Code, str x_a1.Reason, int x_a1.Minor, .slice x_a1_p2 x_a1.Fields.length x_a1_c2]) (cs := [ptr (σ.2.2.1) 0, int x_a1.Kind, str x_a1.Method, str x_a1.Target, int x_a1.Code, str x_a1.Reason, int x_a1.Minor, .slice x_a1_p2 x_a1.Fields.length x_a1_c2]) rfl hO rfl; exact ⟨((σ.1), (σ.2.1), (σ.2.2.1), (σ.2.2.2.1), (σ.2.2.2.2.1), b12), w', hO', ⟨.inr rfl, .inr rfl, .inr rfl, .inr rfl, .inr rfl, .inr rfl, .inl rfl, .inl rfl, trivial⟩, hr⟩), zc rfl (fun σ => rfl) (fun σ => rfl) (fun σ a w k _ _ _ _ hf => z8 hf rfl), trivial⟩ ?_
 rintro ⟨p6, c7, b9, p10, c11, b12⟩ a w hf hO
 have hO : Dk.Own w0 [] w _ := hO
 have hf : Fits 68 [(2, ptr b1 0), (3, ptr b2 0), (4, ptr b3 0), (6, ptr b12 0)] a := (hf.cons rfl (hf.cons rfl (hf.cons rfl (hf.cons rfl hf.nil))))
 refine S.no tb ?_ hf hO hm
 refine st 0 rfl rfl ?_
 refine jn 0 (fun a w => (∃ (i45 : Int) (s46 : Str) (s47 : Str) (i48 : Int) (s49 : Str) (i50 : Int) (p51 : Option Addr) (c52 : Nat) (l53 : List api_Field), Fits 68 [(4, ptr b3 0), (6, ptr b12 0)] a ∧ Dk.Own w0 [] w [.blk b12 [ptr b9 0, int i45, str s46, str s47, int i48, str s49, int i50, .slice x_a1_p2 x_a1.Fields.length x_a1_c2] 66, .blk b9 [.slice p51 l53.length c52] 107, .row (.slice p51 l53.length c52) 54 2 l53.length (cells za l53), .row (.slice p6 r5.length c7) 54 2 r5.length (cells za r5), .row (.slice none 0 0) 54 2 0 (cells za []), .blk b3 [int 0, str [], str [], int 0, str [], int 0, .slice none 0 0] 28, .blk b2 [int x_a1.Kind, str x_a1.Method, str x_a1.Target, int x_a1.Code, str x_a1.Reason, int x_a1.Minor, .slice x_a1_p2 x_a1.Fields.length x_a1_c2] 28, .blk b1 [str x_a0.Client, str x_a0.Host, str x_a0.Scheme, str x_a0.By, .slice x_a0_p0 x_a0.Domains.length x_a0_c0, .slice x_a0_p1 x_a0.Locations.length x_a0_c1] 24, .shr x_a1_p2 (cells za x_a1.Fields), .shr x_a0_p1 (cells zb x_a0.Locations), .shr x_a0_p0 (cells zb x_a0.Domains)] ∧ zh9 x_a1 i45 s46 s47 i48 s49 i50 l53 = some R) ∨ (∃ (p59 : Option Addr) (c60 : Nat) (l61 : List api_Field) (b62 : Nat), Fits 68 [(4, ptr b3 0), (6, ptr b12 0)] a ∧ Dk.Own w0 [] w [.blk b62 [.slice p59 l61.length c60] 107, .row (.slice p59 l61.length c60) 54 2 l61.length (cells za l61), .blk b12 [ptr b62 0, int x_a1.Kind, str x_a1.Method, str x_a1.Target, int x_a1.Code, str x_a1.Reason, int 1, .slice x_a1_p2 x_a1.Fields.length x_a1_c2] 66, .blk b9 [.slice p10 r8.f_l.length c11] 107, .row (.slice p10 r8.f_l.length c11) 54 2 r8.f_l.length (cells za r8.f_l), .row (.slice p6 r5.length c7) 54 2 r5.length (cells za r5), .row (.slice none 0 0) 54 2 0 (cells za []), .blk b3 [int 0, str [], str [], int 0, str [], int 0, .slice none 0 0] 28, .blk b2 [int x_a1.Kind, str x_a1.Method, str x_a1.Target, int x_a1.Code, str x_a1.Reason, int x_a1.Minor, .slice x_a1_p2 x_a1.Fields.length x_a1_c2] 28, .blk b1 [str x_a0.Client, str x_a0.Host, str x_a0.Scheme, str x_a0.By, .slice x_a0_p0 x_a0.Domains.length x_a0_c0, .slice x_a0_p1 x_a0.Locations.length x_a0_c1] 24, .shr x_a1_p2 (cells za x_a1.Fields), .shr x_a0_p1 (cells zb x_a0.Locations), .shr x_a0_p0 (cells zb x_a0.Domains)] ∧ zia x_a1 l61 = some R)) rfl ?_ ?_
 refine ld 6 rfl rfl ?_
 refine br rfl (fun hc17 => ?_) fun hc17 => ?_
 refine ld 6 rfl rfl ?_
 refine ld 6 rfl rfl ?_
 refine cl c_39 rfl (fun r18 w hr18 hO => zoP x_a1.Method x_a1.Target r18 _ (hG.own hF hO) hr18) fun r18 hr18 => ?_
 refine al znK rfl fun b19 => ?_
 refine st 0 rfl rfl ?_
 refine jv 3 [2, 4, 6, 7] [0, 1, 2, 3, 4, 5, 6, 7, 8, 9, 10, 11] (fun J E L => ∃ (t22 : Bool), J ((39, .bool t22) :: E) (L) (zgq x_a0 x_a1 r8 r18 t22)) rfl ?_ ?_
 refine br rfl (fun hc21 => ?_) fun hc21 => ?_
 exact en rfl fun _ _ j => ⟨true, j rfl⟩
 refine ld 0 rfl rfl ?_
 exact en rfl fun _ _ j => ⟨r18.1.Kind == 3, j rfl⟩
 rintro a w ⟨t22, hf, hO, hm⟩
 rw [zgq] at hm
 refine S.co tb ?_ hf hO hm
 refine br rfl (fun hc23 => ?_) fun hc23 => ?_
 refine vl rfl rfl (fun a w hf hO => zB (vs := []) (v := .agg #[int 0, str [], str [], int 0, str [], int 0, .slice none 0 0]) hf rfl (by kernel_rfl)) ?_
 refine st 6 rfl rfl ?_
 refine nl 54 2 ?_
 refine re_ rfl fun a w hf hO hm => ?_
 obtain rfl := Option.some.inj hm
 exact zi Tryz.results16 hf (.cell rfl (zp (n := 7) (vs := [int 0, str [], str [], int 0, str [], int 0, .slice none 0 0]) zfi ze4 rfl ((hO.blkSees (i := 7) rfl).cells (o := 0) (n := 7) rfl)) (.tmp rfl .nil)) ⟨none, 0, rfl, (hO.sub (.cons_cons _ (.cons _ (.cons _ (.cons _ (.cons _ (.cons _ (.cons _ (.cons _ (.cons _ (.cons _ (.cons _ (.cons _ (.cons _ .slnil))))))))))))))⟩
 refine ld 0 rfl rfl ?_
 refine cl c_40 rfl (fun r26 w hr26 hO => zn0 r18.1 r26 _ (hG.own hF hO).1 hr26) fun r26 hr26 => ?_
 refine st 1 rfl rfl ?_
 refine ld 8 rfl rfl ?_
 refine ld 0 rfl rfl ?_
 refine rw_ rfl fun a w hf hO hm => ?_
 obtain ⟨r28, hr28, hm⟩ := ob hm
 have hch31 := (show Dk.Own w0 [] _ ([.blk b12 [ptr b9 0, int x_a1.Kind, str x_a1.Method, str r26, int x_a1.Code, str x_a1.Reason, int 1, .slice x_a1_p2 x_a1.Fields.length x_a1_c2] 66, .blk b9 [.slice p10 r8.f_l.length c11] 107, .row (.slice p10 r8.f_l.length c11) 54 2 r8.f_l.length (cells za r8.f_l)] ++ [.blk b19 [int r18.1.Kind, str r18.1.Scheme, int r18.1.Host.Kind, str r18.1.Host.Name, int r18.1.Host.Port, str r18.1.Path, str r18.1.Query, .bool r18.1.HasQuery] 89, .row (.slice p6 r5.length c7) 54 2 r5.length (cells za r5), .row (.slice none 0 0) 54 2 0 (cells za []), .blk b3 [int 0, str [], str [], int 0, str [], int 0, .slice none 0 0] 28, .blk b2 [int x_a1.Kind, str x_a1.Method, str x_a1.Target, int x_a1.Code, str x_a1.Reason, int x_a1.Minor, .slice x_a1_p2 x_a1.Fields.length x_a1_c2] 28, .blk b1 [str x_a0.Client, str x_a0.Host, str x_a0.Scheme, str x_a0.By, .slice x_a0_p0 x_a0.Domains.length x_a0_c0, .slice x_a0_p1 x_a0.Locations.length x_a0_c1] 24, .shr x_a1_p2 (cells za x_a1.Fields), .shr x_a0_p1 (cells zb x_a0.Locations), .shr x_a0_p0 (cells zb x_a0.Domains)]) from hO.choose [1, 2, 3, 0, 4, 5, 6, 7, 8, 9, 10, 11] rfl)
 have hfar31 := Dk.Own.far hch31 rfl hF hG.size
 have hlend31 := hch31.lend (S := [.shr x_a1_p2 (cells za x_a1.Fields), .shr x_a0_p0 (cells zb x_a0.Domains), .shr x_a0_p1 (cells zb x_a0.Locations)]) rfl ⟨zie (hO.sees (i := 9) rfl) (List.mem_of_getElem? (i := 6) rfl), zie (hO.sees (i := 11) rfl) (List.mem_of_getElem? (i := 8) rfl), zie (hO.sees (i := 10) rfl) (List.mem_of_getElem? (i := 7) rfl), trivial⟩
 have hcl31 := ziV ((⟨r8, (⟨x_a1.Kind, x_a1.Method, r26, x_a1.Code, x_a1.Reason, 1, x_a1.Fields⟩ : api_Head)⟩ : stage_worker)) x_a0 r18.1 r28 _ (hG.own hF hO) hfar31 hlend31 hc2 hc0 hc1 hr28
 refine zj (zh c_41 hf (vs := [ptr b12 0, .agg #[str x_a0.Client, str x_a0.Host, str x_a0.Scheme, str x_a0.By, .slice x_a0_p0 x_a0.Domains.length x_a0_c0, .slice x_a0_p1 x_a0.Locations.length x_a0_c1], .agg #[int r18.1.Kind, str r18.1.Scheme, int r18.1.Host.Kind, str r18.1.Host.Name, int r18.1.Host.Port, str r18.1.Path, str r18.1.Query, .bool r18.1.HasQuery]]) rfl) rfl hf rfl rfl (hcl31) ?_
 rintro e w' ⟨p29, c30, he, hO'⟩
 refine ⟨_, he, fun a hf => ?_⟩
 have hO := hch31.back rfl hO' rfl
 refine S.op tb ?_ hf hO hm
 refine eo rfl fun a w hf hO hm => ?_
 exact Or.inl ⟨r28.f_h.Kind, r28.f_h.Method, r28.f_h.Target, r28.f_h.Code, r28.f_h.Reason, r28.f_h.Minor, p29, c30, r28.Bag.f_l, hf.sel rfl, (hO.sub (.cons_cons _ (.cons_cons _ (.cons_cons _ (.cons _ (.cons_cons _ (.cons_cons _ (.cons_cons _ (.cons_cons _ (.cons_cons _ (.cons_cons _ (.cons_cons _ (.cons_cons _ .slnil))))))))))))), hm⟩
 refine br rfl (fun hc33 => ?_) fun hc33 => ?_
 refine rc_ rfl fun a w hf hO hm => ?_
 obtain ⟨r34, hr34, hm⟩ := ob hm
 obtain ⟨r37, hr37, hm⟩ := ob hm
 obtain ⟨r40, hr40, hm⟩ := ob hm
 refine zaV (S := Option Addr × Nat × Option Addr × Nat × Nat × Option Addr × Nat) (E0 := [(2, ptr b1 0), (4, ptr b3 0), (6, ptr b12 0)]) (by kernel_rfl) (fun k σ w => match k with | 0 => Dk.Own w0 [] w [.blk b12 [ptr b9 0, int x_a1.Kind, str x_a1.Method, str x_a1.Target, int x_a1.Code, str x_a1.Reason, int 1, .slice x_a1_p2 x_a1.Fields.length x_a1_c2] 66, .blk b9 [.slice p10 r8.f_l.length c11] 107, .row (.slice p10 r8.f_l.length c11) 54 2 r8.f_l.length (cells za r8.f_l), .row (.slice p6 r5.length c7) 54 2 r5.length (cells za r5), .row (.slice none 0 0) 54 2 0 (cells za []), .blk b3 [int 0, str [], str [], int 0, str [], int 0, .slice none 0 0] 28, .blk b2 [int x_a1.Kind, str x_a1.Method, str x_a1.Target, int x_a1.Code, str x_a1.Reason, int x_a1.Minor, .slice x_a1_p2 x_a1.Fields.length x_a1_c2] 28, .blk b1 [str x_a0.Client, str x_a0.Host, str x_a0.Scheme, str x_a0.By, .slice x_a0_p0 x_a0.Domains.length x_a0_c0, .slice x_a0_p1 x_a0.Locations.length x_a0_c1] 24, .shr x_a1_p2 (cells za x_a1.Fields), .shr x_a0_p1 (cells zb x_a0.Locations), .shr x_a0_p0 (cells zb x_a0.Domains)] | 1 => Dk.Own w0 [] w [.row (.slice (σ.1) r34.length (σ.2.1)) 54 2 r34.length (cells za r34), .blk b12 [ptr b9 0, int x_a1.Kind, str x_a1.Method, str x_a1.Target, int x_a1.Code, str x_a1.Reason, int 1, .slice x_a1_p2 x_a1.Fields.length x_a1_c2] 66, .blk b9 [.slice p10 r8.f_l.length c11] 107, .row (.slice p10 r8.f_l.length c11) 54 2 r8.f_l.length (cells za r8.f_l), .row (.slice p6 r5.length c7) 54 2 r5.length (cells za r5), .row (.slice none 0 0) 54 2 0 (cells za []), .blk b3 [int 0, str [], str [], int 0, str [], int 0, .slice none 0 0] 28, .blk b2 [int x_a1.Kind, str x_a1.Method, str x_a1.Target, int x_a1.Code, str x_a1.Reason, int x_a1.Minor, .slice x_a1_p2 x_a1.Fields.length x_a1_c2] 28, .blk b1 [str x_a0.Client, str x_a0.Host, str x_a0.Scheme, str x_a0.By, .slice x_a0_p0 x_a0.Domains.length x_a0_c0, .slice x_a0_p1 x_a0.Locations.length x_a0_c1] 24, .shr x_a1_p2 (cells za x_a1.Fields), .shr x_a0_p1 (cells zb x_a0.Locations), .shr x_a0_p0 (cells zb x_a0.Domains)] | 2 => Dk.Own w0 [] w [.row (.slice (σ.2.2.1) r37.length (σ.2.2.2.1)) 54 2 r37.length (cells za r37), .row (.slice (σ.1) r34.length (σ.2.1)) 54 2 r34.length (cells za r34), .blk b12 [ptr b9 0, int x_a1.Kind, str x_a1.Method, str x_a1.Target, int x_a1.Code, str x_a1.Reason, int 1, .slice x_a1_p2 x_a1.Fields.length x_a1_c2] 66, .blk b9 [.slice p10 r8.f_l.length c11] 107, .row (.slice p10 r8.f_l.length c11) 54 2 r8.f_l.length (cells za r8.f_l), .row (.slice p6 r5.length c7) 54 2 r5.length (cells za r5), .row (.slice none 0 0) 54 2 0 (cells za []), .blk b3 [int 0, str [], str [], int 0, str [], int 0, .slice none 0 0] 28, .blk b2 [int x_a1.Kind, str x_a1.Method, str x_a1.Target, int x_a1.Code, str x_a1.Reason, int x_a1.Minor, .slice x_a1_p2 x_a1.Fields.length x_a1_c2] 28, .blk b1 [str x_a0.Client, str x_a0.Host, str x_a0.Scheme, str x_a0.By, .slice x_a0_p0 x_a0.Domains.length x_a0_c0, .slice x_a0_p1 x_a0.Locations.length x_a0_c1] 24, .shr x_a1_p2 (cells za x_a1.Fields), .shr x_a0_p1 (cells zb x_a0.Locations), .shr x_a0_p0 (cells zb x_a0.Domains)] | 3 => Dk.Own w0 [] w [.blk (σ.2.2.2.2.1) [.slice (σ.2.2.2.2.2.1) r40.f_l.length (σ.2.2.2.2.2.2)] 107, .row (.slice (σ.2.2.2.2.2.1) r40.f_l.length (σ.2.2.2.2.2.2)) 54 2 r40.f_l.length (cells za r40.f_l), .row (.slice (σ.2.2.1) r37.length (σ.2.2.2.1)) 54 2 r37.length (cells za r37), .row (.slice (σ.1) r34.length (σ.2.1)) 54 2 r34.length (cells za r34), .blk b12 [ptr b9 0, int x_a1.Kind, str x_a1.Method, str x_a1.Target, int x_a1.Code, str x_a1.Reason, int 1, .slice x_a1_p2 x_a1.Fields.length x_a1_c2] 66, .blk b9 [.slice p10 r8.f_l.length c11] 107, .row (.slice p10 r8.f_l.length c11) 54 2 r8.f_l.length (cells za r8.f_l), .row (.slice p6 r5.length c7) 54 2 r5.length (cells za r5), .row (.slice none 0 0) 54 2 0 (cells za []), .blk b3 [int 0, str [], str [], int 0, str [], int 0, .slice none 0 0] 28, .blk b2 [int x_a1.Kind, str x_a1.Method, str x_a1.Target, int x_a1.Code, str x_a1.Reason, int x_a1.Minor, .slice x_a1_p2 x_a1.Fields.length x_a1_c2] 28, .blk b1 [str x_a0.Client, str x_a0.Host, str x_a0.Scheme, str x_a0.By, .slice x_a0_p0 x_a0.Domains.length x_a0_c0, .slice x_a0_p1 x_a0.Locations.length x_a0_c1] 24, .shr x_a1_p2 (cells za x_a1.Fields), .shr x_a0_p1 (cells zb x_a0.Locations), .shr x_a0_p0 (cells zb x_a0.Domains)] | _ => Dk.Own w0 [] w [.blk (σ.2.2.2.2.1) [.slice (σ.2.2.2.2.2.1) r40.f_l.length (σ.2.2.2.2.2.2)] 107, .row (.slice (σ.2.2.2.2.2.1) r40.f_l.length (σ.2.2.2.2.2.2)) 54 2 r40.f_l.length (cells za r40.f_l), .row (.slice (σ.2.2.1) r37.length (σ.2.2.2.1)) 54 2 r37.length (cells za r37), .row (.slice (σ.1) r34.length (σ.2.1)) 54 2 r34.length (cells za r34), .blk b12 [ptr (σ.2.2.2.2.1) 0, int x_a1.Kind, str x_a1.Method, str x_a1.Target, int x_a1.Code, str x_a1.Reason, int 1, .slice x_a1_p2 x_a1.Fields.length x_a1_c2] 66, .blk b9 [.slice p10 r8.f_l.length c11] 107, .row (.slice p10 r8.f_l.length c11) 54 2 r8.f_l.length (cells za r8.f_l), .row (.slice p6 r5.length c7) 54 2 r5.length (cells za r5), .row (.slice none 0 0) 54 2 0 (cells za []), .blk b3 [int 0, str [], str [], int 0, str [], int 0, .slice none 0 0] 28, .blk b2 [int x_a1.Kind, str x_a1.Method, str x_a1.Target, int x_a1.Code, str x_a1.Reason, int x_a1.Minor, .slice x_a1_p2 x_a1.Fields.length x_a1_c2] 28, .blk b1 [str x_a0.Client, str x_a0.Host, str x_a0.Scheme, str x_a0.By, .slice x_a0_p0 x_a0.Domains.length x_a0_c0, .slice x_a0_p1 x_a0.Locations.length x_a0_c1] 24, .shr x_a1_p2 (cells za x_a1.Fields), .shr x_a0_p1 (cells zb x_a0.Locations), .shr x_a0_p0 (cells zb x_a0.Domains)]) (fun σ => [⟨[(6, ptr b12 0)], some (53, ptr b12 0)⟩, ⟨[(2, ptr b1 0)], some (54, .agg #[str x_a0.Client, str x_a0.Host, str x_a0.Scheme, str x_a0.By, .slice x_a0_p0 x_a0.Domains.length x_a0_c0, .slice x_a0_p1 x_a0.Locations.length x_a0_c1])⟩, ⟨[(6, ptr b12 0)], some (55, ptr b12 0)⟩, ⟨[(55, ptr b12 0)], some (56, ptr b12 0)⟩, ⟨[(56, ptr b12 0)], some (57, ptr b12 0)⟩, ⟨[(57, ptr b12 0)], some (58, ptr b9 0)⟩, ⟨[(58, ptr b9 0)], some (59, .slice (σ.1) r34.length (σ.2.1))⟩, ⟨[(54, .agg #[str x_a0.Client, str x_a0.Host, str x_a0.Scheme, str x_a0.By, .slice x_a0_p0 x_a0.Domains.length x_a0_c0, .slice x_a0_p1 x_a0.Locations.length x_a0_c1]), (59, .slice (σ.1) r34.length (σ.2.1))], some (60, .slice (σ.2.2.1) r37.length (σ.2.2.2.1))⟩, ⟨[(60, .slice (σ.2.2.1) r37.length (σ.2.2.2.1))], some (61, ptr (σ.2.2.2.2.1) 0)⟩, ⟨[(53, ptr b12 0)], some (62, ptr b12 0)⟩, ⟨[(62, ptr b12 0)], some (63, ptr b12 0)⟩, ⟨[(61, ptr (σ.2.2.2.2.1) 0), (63, ptr b12 0)], none⟩]) (none, 0, none, 0, 0, none, 0) [6, 7, 8, 11] rfl (fun _ => rfl) (fun _ => rfl) (fun _ => rfl) rfl rfl (by decide) rfl hO.drew (hf.cons rfl (hf.cons rfl (hf.cons rfl hf.nil))) (fun σ => ⟨⟨rfl, trivial⟩, ⟨rfl, trivial⟩, ⟨rfl, trivial⟩, ⟨rfl, trivial⟩, ⟨rfl, trivial⟩, ⟨rfl, trivial⟩, ⟨rfl, trivial⟩, ⟨rfl, rfl, trivial⟩, ⟨rfl, trivial⟩, ⟨rfl, trivial⟩, ⟨rfl, trivial⟩, ⟨rfl, rfl, trivial⟩, trivial⟩) ⟨zc rfl (fun σ => rfl) (fun σ => rfl) (fun σ a w k _ _ _ _ hf => zl hf rfl), zc rfl (fun σ => rfl) (fun σ => rfl) (fun σ a w k hk hlo hup hst hf => match k, hk, hlo, hup, hst, hf with | 0, _, _, _, hst, hf => have hO : Dk.Own w0 [] w _ := hst; zo (o := 0) (vs := [str x_a0.Client, str x_a0.Host, str x_a0.Scheme, str x_a0.By, .slice x_a0_p0 x_a0.Domains.length x_a0_c0, .slice x_a0_p1 x_a0.Locations.length x_a0_c1]) zkK zjV (hO.blkSees (i := 7) rfl) rfl rfl hf rfl | 1, _, _, _, hst, hf => have hO : Dk.Own w0 [] w _ := hst; zo (o := 0) (vs := [str x_a0.Client, str x_a0.Host, str x_a0.Scheme, str x_a0.By, .slice x_a0_p0 x_a0.Domains.length x_a0_c0, .slice x_a0_p1 x_a0.Locations.length x_a0_c1]) zkK zjV (hO.blkSees (i := 8) rfl) rfl rfl hf rfl | 2, _, _, _, hst, hf => have hO : Dk.Own w0 [] w _ := hst; zo (o := 0) (vs := [str x_a0.Client, str x_a0.Host, str x_a0.Scheme, str x_a0.By, .slice x_a0_p0 x_a0.Domains.length x_a0_c0, .slice x_a0_p1 x_a0.Locations.length x_a0_c1]) zkK zjV (hO.blkSees (i := 9) rfl) rfl rfl hf rfl | 3, _, _, _, hst, hf => have hO : Dk.Own w0 [] w _ := hst; zo (o := 0) (vs := [str x_a0.Client, str x_a0.Host, str x_a0.Scheme, str x_a0.By, .slice x_a0_p0 x_a0.Domains.length x_a0_c0, .slice x_a0_p1 x_a0.Locations.length x_a0_c1]) zkK zjV (hO.blkSees (i := 11) rfl) rfl rfl hf rfl | 4, _, _, _, hst, hf => have hO : Dk.Own w0 [] w _ := hst; zo (o := 0) (vs := [str x_a0.Client, str x_a0.Host, str x_a0.Scheme, str x_a0.By, .slice x_a0_p0 x_a0.Domains.length x_a0_c0, .slice x_a0_p1 x_a0.Locations.length x_a0_c1]) zkK zjV (hO.blkSees (i := 11) rfl) rfl rfl hf rfl | k + 5, hk, _, _, _, _ => absurd hk (by simp)), zc rfl (fun σ => rfl) (fun σ => rfl) (fun σ a w k _ _ _ _ hf => zl hf rfl), zc rfl (fun σ => rfl) (fun σ => rfl) (fun σ a w k _ _ _ _ hf => zaD hf rfl), zc rfl (fun σ => rfl) (fun σ => rfl) (fun σ a w k _ _ _ _ hf => zw zoh hf rfl), zc rfl (fun σ => rfl) (fun σ => rfl) (fun σ a w k hk hlo hup hst hf => match k, hk, hlo, hup, hst, hf with | 0, _, _, _, hst, hf => have hO : Dk.Own w0 [] w _ := hst; ze (o := 0) znI (hO.blkSees (i := 0) rfl) rfl hf rfl | 1, _, _, _, hst, hf => have hO : Dk.Own w0 [] w _ := hst; ze (o := 0) znI (hO.blkSees (i := 1) rfl) rfl hf rfl | 2, _, _, _, hst, hf => have hO : Dk.Own w0 [] w _ := hst; ze (o := 0) znI (hO.blkSees (i := 2) rfl) rfl hf rfl | 3, _, _, _, hst, hf => have hO : Dk.Own w0 [] w _ := hst; ze (o := 0) znI (hO.blkSees (i := 4) rfl) rfl hf rfl | 4, _, _, hup, _, _ => absurd (hup 0 (by decide) (by kernel_rfl)) (by decide) | k + 5, hk, _, _, _, _ => absurd hk (by simp)), zbg rfl (fun σ => rfl) (fun σ => rfl) rfl (fun σ a w (_ : _) hf => zh ztw hf (vs := [ptr b9 0]) rfl) (fun σ w (hO : Dk.Own w0 [] w _) => (zcL r8 r34 _ (hG.own hF hO).1 (hO.blkSees (i := 1) rfl) (hO.rowSees (i := 2) rfl) (hO.rowCap (i := 2) rfl) hr34).mono fun e w' h => by obtain ⟨p35, c36, he, hO'⟩ := h; exact ⟨(p35, c36, (σ.2.2.1), (σ.2.2.2.1), (σ.2.2.2.2.1), (σ.2.2.2.2.2.1), (σ.2.2.2.2.2.2)), he, hO.call hO' (by simp [Res.shared]), .inr rfl, .inr rfl, .inr rfl, .inr rfl, .inr rfl, .inr rfl, .inl rfl, .inl rfl, .inr rfl, .inr rfl, .inr rfl, .inr rfl, trivial⟩), zbg rfl (fun σ => rfl) (fun σ => rfl) rfl (fun σ a w (_ : _) hf => zh c_42 hf (vs := [.agg #[str x_a0.Client, str x_a0.Host, str x_a0.Scheme, str x_a0.By, .slice x_a0_p0 x_a0.Domains.length x_a0_c0, .slice x_a0_p1 x_a0.Locations.length x_a0_c1], .slice (σ.1) r34.length (σ.2.1)]) rfl) (fun σ w (hO : Dk.Own w0 [] w _) => (zmz x_a0 r34 r37 _ (hG.own hF hO) (hO.sees (i := 11) rfl) hc0 (hO.sees (i := 10) rfl) hc1 (hO.rowSees (i := 0) rfl) (hO.rowCap (i := 0) rfl) hr37).mono fun e w' h => by obtain ⟨p38, c39, he, hO'⟩ := h; exact ⟨((σ.1), (σ.2.1), p38, c39, (σ.2.2.2.2.1), (σ.2.2.2.2.2.1), (σ.2.2.2.2.2.2)), he, hO.call hO' (by simp [Res.shared]), .inr rfl, .inr rfl, .inr rfl, .inr rfl, .inr rfl, .inr rfl, .inr rfl, .inl rfl, .inl rfl, .inr rfl, .inr rfl, .inr rfl, trivial⟩), zbg rfl (fun σ => rfl) (fun σ => rfl) rfl (fun σ a w (_ : _) hf => zh zsz hf (vs := [.slice (σ.2.2.1) r37.length (σ.2.2.2.1)]) rfl) (fun σ w (hO : Dk.Own w0 [] w _) => (zfJ r37 r40 _ (hG.own hF hO).1 (hO.rowSees (i := 0) rfl) (hO.rowCap (i := 0) rfl) hr40).mono fun e w' h => by obtain ⟨b41, p42, c43, he, hO'⟩ := h; exact ⟨((σ.1), (σ.2.1), (σ.2.2.1), (σ.2.2.2.1), b41, p42, c43), he, hO.call hO' (by simp [Res.shared]), .inr rfl, .inr rfl, .inr rfl, .inr rfl, .inr rfl, .inr rfl, .inr rfl, .inr rfl, .inl rfl, .inr rfl, .inr rfl, .inl rfl, trivial⟩), zc rfl (fun σ => rfl) (fun σ => rfl) (fun σ a w k _ _ _ _ hf => zaD hf rfl), zc rfl (fun σ => rfl) (fun σ => rfl) (fun σ a w k _ _ _ _ hf => zw zoh hf rfl), zce rfl (fun σ => rfl) (fun σ => rfl) rfl (fun σ w (hO : Dk.Own w0 [] w _) => by obtain ⟨w', hO', hr⟩ := zea (x := (.tmp 63)) (y := (.tmp 61)) (E := [(61, ptr (σ.2.2.2.2.1) 0), (63, ptr b12 0)]) (i := 4) (o := 0) (v := ptr (σ.2.2.2.2.1) 0) sz_63 rfl rfl rfl rfl hO rfl rfl; exact ⟨((σ.1), (σ.2.1), (σ.2.2.1), (σ.2.2.2.1), (σ.2.2.2.2.1), (σ.2.2.2.2.2.1), (σ.2.2.2.2.2.2)), w', hO', ⟨.inr rfl, .inr rfl, .inr rfl, .inr rfl, .inr rfl, .inr rfl, .inr rfl, .inr rfl, .inr rfl, .inr rfl, .inr rfl, .inr rfl, trivial⟩, hr⟩), trivial⟩ ?_
 rintro ⟨p35, c36, p38, c39, b41, p42, c43⟩ a w hf hO
 have hO : Dk.Own w0 [] w _ := hO
 have hf : Fits 68 [(4, ptr b3 0), (6, ptr b12 0)] a := (hf.cons rfl (hf.cons rfl hf.nil))
 refine S.no tb ?_ hf hO hm
 refine eo rfl fun a w hf hO hm => ?_
 exact Or.inr (⟨p42, c43, r40.f_l, b41, hf.sel rfl, (hO.sub (.cons_cons _ (.cons_cons _ (.cons _ (.cons _ (.cons_cons _ (.cons_cons _ (.cons_cons _ (.cons_cons _ (.cons_cons _ (.cons_cons _ (.cons_cons _ (.cons_cons _ (.cons_cons _ (.cons_cons _ (.cons_cons _ .slnil)))))))))))))))), hm⟩)
 refine vl rfl rfl (fun a w hf hO => zB (vs := []) (v := .agg #[int 0, str [], str [], int 0, str [], int 0, .slice none 0 0]) hf rfl (by kernel_rfl)) ?_
 refine st 5 rfl rfl ?_
 refine nl 54 2 ?_
 refine re_ rfl fun a w hf hO hm => ?_
 obtain rfl := Option.some.inj hm
 exact zi Tryz.results16 hf (.cell rfl (zp (n := 7) (vs := [int 0, str [], str [], int 0, str [], int 0, .slice none 0 0]) zfi ze4 rfl ((hO.blkSees (i := 6) rfl).cells (o := 0) (n := 7) rfl)) (.tmp rfl .nil)) ⟨none, 0, rfl, (hO.sub (.cons_cons _ (.cons _ (.cons _ (.cons _ (.cons _ (.cons _ (.cons _ (.cons _ (.cons _ (.cons _ (.cons _ (.cons _ .slnil)))))))))))))⟩
 rintro a w (⟨i45, s46, s47, i48, s49, i50, p51, c52, l53, hf, hO, hm⟩ | ⟨p59, c60, l61, b62, hf, hO, hm⟩)
 rw [zh9] at hm
 refine S.co tb ?_ hf hO hm
 refine rw_ rfl fun a w hf hO hm => ?_
 obtain ⟨r54, hr54, hm⟩ := ob hm
 have hch57 := (show Dk.Own w0 [] _ ([.blk b12 [ptr b9 0, int i45, str s46, str s47, int i48, str s49, int i50, .slice x_a1_p2 x_a1.Fields.length x_a1_c2] 66, .blk b9 [.slice p51 l53.length c52] 107, .row (.slice p51 l53.length c52) 54 2 l53.length (cells za l53)] ++ [.row (.slice p6 r5.length c7) 54 2 r5.length (cells za r5), .row (.slice none 0 0) 54 2 0 (cells za []), .blk b3 [int 0, str [], str [], int 0, str [], int 0, .slice none 0 0] 28, .blk b2 [int x_a1.Kind, str x_a1.Method, str x_a1.Target, int x_a1.Code, str x_a1.Reason, int x_a1.Minor, .slice x_a1_p2 x_a1.Fields.length x_a1_c2] 28, .blk b1 [str x_a0.Client, str x_a0.Host, str x_a0.Scheme, str x_a0.By, .slice x_a0_p0 x_a0.Domains.length x_a0_c0, .slice x_a0_p1 x_a0.Locations.length x_a0_c1] 24, .shr x_a1_p2 (cells za x_a1.Fields), .shr x_a0_p1 (cells zb x_a0.Locations), .shr x_a0_p0 (cells zb x_a0.Domains)]) from hO)
 have hfar57 := Dk.Own.far hch57 rfl hF hG.size
 have hlend57 := hch57.lend (S := [.shr x_a1_p2 (cells za x_a1.Fields)]) rfl ⟨zie (hO.sees (i := 8) rfl) (List.mem_of_getElem? (i := 5) rfl), trivial⟩
 have hcl57 := zdo ((⟨(⟨l53⟩ : bag_Bag), (⟨i45, s46, s47, i48, s49, i50, x_a1.Fields⟩ : api_Head)⟩ : stage_worker)) r54 _ (hG.own hF hO).1 hfar57 hlend57 hc2 hr54
 refine zj (zh c_25 hf (vs := [ptr b12 0]) rfl) rfl hf rfl rfl (hcl57) ?_
 rintro e w' ⟨p55, c56, he, hO'⟩
 refine ⟨_, he, fun a hf => ?_⟩
 have hO := hch57.back rfl hO' rfl
 refine S.op tb ?_ hf hO hm
 refine st 3 rfl rfl ?_
 refine re_ rfl fun a w hf hO hm => ?_
 obtain rfl := Option.some.inj hm
 exact zi Tryz.results16 hf (.cell rfl (zp (n := 7) (vs := [int r54.1.Kind, str r54.1.Method, str r54.1.Target, int r54.1.Code, str r54.1.Reason, int r54.1.Minor, .slice p55 r54.1.Fields.length c56]) zfi ze4 rfl ((hO.blkSees (i := 3) rfl).cells (o := 0) (n := 7) rfl)) (.tmp rfl .nil)) ⟨p55, c56, rfl, (hO.sub (.cons_cons _ (.cons _ (.cons _ (.cons _ (.cons _ (.cons _ (.cons _ (.cons _ (.cons _ .slnil))))))))))⟩
 rw [zia] at hm
 refine S.co tb ?_ hf hO hm
 refine rw_ rfl fun a w hf hO hm => ?_
 obtain ⟨r63, hr63, hm⟩ := ob hm
 have hch66 := (show Dk.Own w0 [] _ ([.blk b12 [ptr b62 0, int x_a1.Kind, str x_a1.Method, str x_a1.Target, int x_a1.Code, str x_a1.Reason, int 1, .slice x_a1_p2 x_a1.Fields.length x_a1_c2] 66, .blk b62 [.slice p59 l61.length c60] 107, .row (.slice p59 l61.length c60) 54 2 l61.length (cells za l61)] ++ [.blk b9 [.slice p10 r8.f_l.length c11] 107, .row (.slice p10 r8.f_l.length c11) 54 2 r8.f_l.length (cells za r8.f_l), .row (.slice p6 r5.length c7) 54 2 r5.length (cells za r5), .row (.slice none 0 0) 54 2 0 (cells za []), .blk b3 [int 0, str [], str [], int 0, str [], int 0, .slice none 0 0] 28, .blk b2 [int x_a1.Kind, str x_a1.Method, str x_a1.Target, int x_a1.Code, str x_a1.Reason, int x_a1.Minor, .slice x_a1_p2 x_a1.Fields.length x_a1_c2] 28, .blk b1 [str x_a0.Client, str x_a0.Host, str x_a0.Scheme, str x_a0.By, .slice x_a0_p0 x_a0.Domains.length x_a0_c0, .slice x_a0_p1 x_a0.Locations.length x_a0_c1] 24, .shr x_a1_p2 (cells za x_a1.Fields), .shr x_a0_p1 (cells zb x_a0.Locations), .shr x_a0_p0 (cells zb x_a0.Domains)]) from hO.choose [2, 0, 1, 3, 4, 5, 6, 7, 8, 9, 10, 11, 12] rfl)
 have hfar66 := Dk.Own.far hch66 rfl hF hG.size
 have hlend66 := hch66.lend (S := [.shr x_a1_p2 (cells za x_a1.Fields)]) rfl ⟨zie (hO.sees (i := 10) rfl) (List.mem_of_getElem? (i := 7) rfl), trivial⟩
 have hcl66 := zdo ((⟨(⟨l61⟩ : bag_Bag), (⟨x_a1.Kind, x_a1.Method, x_a1.Target, x_a1.Code, x_a1.Reason, 1, x_a1.Fields⟩ : api_Head)⟩ : stage_worker)) r63 _ (hG.own hF hO).1 hfar66 hlend66 hc2 hr63
 refine zj (zh c_25 hf (vs := [ptr b12 0]) rfl) rfl hf rfl rfl (hcl66) ?_
 rintro e w' ⟨p64, c65, he, hO'⟩
 refine ⟨_, he, fun a hf => ?_⟩
 have hO := hch66.back rfl hO' rfl
 refine S.op tb ?_ hf hO hm
 refine st 5 rfl rfl ?_
 refine re_ rfl fun a w hf hO hm => ?_
 obtain rfl := Option.some.inj hm
 exact zi Tryz.results16 hf (.cell rfl (zp (n := 7) (vs := [int r63.1.Kind, str r63.1.Method, str r63.1.Target, int r63.1.Code, str r63.1.Reason, int r63.1.Minor, .slice p64 r63.1.Fields.length c65]) zfi ze4 rfl ((hO.blkSees (i := 5) rfl).cells (o := 0) (n := 7) rfl)) (.tmp rfl .nil)) ⟨p64, c65, rfl, (hO.sub (.cons_cons _ (.cons _ (.cons _ (.cons _ (.cons _ (.cons _ (.cons _ (.cons _ (.cons _ (.cons _ (.cons _ .slnil))))))))))))⟩

theorem zj1 (x_r : via_reader) (x_v : api_Via) (R : Bool × scan_Scanner × api_Via) (w0 : World) (hG : zt w0) {x_r_b0 : Nat} {x_v_b1 : Nat} {F : List Nat} (hF : zu F) (hO : Dk.Own w0 F w0 [.blk x_r_b0 [str x_r.Scanner.f_s, int x_r.Scanner.f_at] 148, .blk x_v_b1 [str x_v.Proto, str x_v.Version, str x_v.By, str x_v.Comment] 46]) (hm : zbA x_r x_v = some R) :
    Calls Tryz.prog 62 #[.agg #[ptr x_r_b0 0], ptr x_v_b1 0] w0 fun e w' => e = .returned (.bool R.1) ∧ Dk.Own w0 F w' [.blk x_r_b0 [str R.2.1.f_s, int R.2.1.f_at] 148, .blk x_v_b1 [str R.2.2.Proto, str R.2.2.Version, str R.2.2.By, str R.2.2.Comment] 46] := by
 rw [zbA] at hm
 refine S.enter tb Tryz.func62 rfl Tryz.ntmps62 rfl ?_ hO hm
 refine bo rfl fun b1 => ?_
 refine ld 0 rfl rfl ?_
 refine rw_ rfl fun a w hf hO hm => ?_
 obtain ⟨r3, hr3, hm⟩ := ob hm
 have hch4 := (show Dk.Own w0 F _ ([.blk x_r_b0 [str x_r.Scanner.f_s, int x_r.Scanner.f_at] 148] ++ [.blk b1 [ptr x_r_b0 0] 120, .blk x_v_b1 [str x_v.Proto, str x_v.Version, str x_v.By, str x_v.Comment] 46]) from hO.choose [1, 0, 2] rfl)
 have hfar4 := Dk.Own.far hch4 rfl hF hG.size
 have hlend4 := hch4.lend (S := []) rfl trivial
 have hcl4 := zcd x_r.Scanner r3 _ (hG.own hF hO) hfar4 hlend4 hr3
 refine zj (zh zsB hf (vs := [ptr x_r_b0 0]) rfl) rfl hf rfl rfl (hcl4) ?_
 rintro e w' ⟨he, hO'⟩
 refine ⟨_, he, fun a hf => ?_⟩
 have hO := hch4.back rfl hO' rfl
 refine S.op tb ?_ hf hO hm
 refine st 2 rfl rfl ?_
 refine jv 0 [] [1] (fun J E L => ∃ (t17 : Bool) (s18 : Str) (i19 : Int) (s20 : Str) (s21 : Str), J ((6, .bool t17) :: E) (.blk x_r_b0 [str s18, int i19] 148 :: .blk x_v_b1 [str s20, str s21, str x_v.By, str x_v.Comment] 46 :: L) (zbs x_v t17 s18 i19 s20 s21)) rfl ?_ ?_
 refine jv 1 [1, 2, 5, 6] [1, 2] (fun J E L => ∃ (t10 : Bool) (s11 : Str) (i12 : Int), J ((22, .bool t10) :: E) (.blk x_r_b0 [str s11, int i12] 148 :: L) (zbt x_v r3 t10 s11 i12)) rfl ?_ ?_
 refine br rfl (fun hc7 => ?_) fun hc7 => ?_
 refine ld 1 rfl rfl ?_
 refine rw_ rfl fun a w hf hO hm => ?_
 obtain ⟨r8, hr8, hm⟩ := ob hm
 have hch9 := (show Dk.Own w0 F _ ([.blk x_r_b0 [str r3.2.2.f_s, int r3.2.2.f_at] 148] ++ [.blk b1 [ptr x_r_b0 0] 120, .blk x_v_b1 [str x_v.Proto, str r3.1, str x_v.By, str x_v.Comment] 46]) from hO)
 have hfar9 := Dk.Own.far hch9 rfl hF hG.size
 have hlend9 := hch9.lend (S := []) rfl trivial
 have hcl9 := zE r3.2.2 47 r8 _ (hG.own hF hO) hfar9 hlend9 hr8
 refine zj (zh zmH hf (vs := [ptr x_r_b0 0, zak 47]) rfl) rfl hf rfl rfl (hcl9) ?_
 rintro e w' ⟨he, hO'⟩
 refine ⟨_, he, fun a hf => ?_⟩
 have hO := hch9.back rfl hO' rfl
 refine S.op tb ?_ hf hO hm
 refine vl rfl rfl (fun a w hf hO => zbb hf rfl hc7 rfl) ?_
 exact en rfl fun _ _ j => ⟨r8.1, r8.2.f_s, r8.2.f_at, j rfl⟩
 exact en rfl fun _ _ j => ⟨false, r3.2.2.f_s, r3.2.2.f_at, j rfl⟩
 rintro a w ⟨t10, s11, i12, hf, hO, hm⟩
 rw [zbt] at hm
 refine S.co tb ?_ hf hO hm
 refine br rfl (fun hc13 => ?_) fun hc13 => ?_
 refine st 2 rfl rfl ?_
 refine ld 1 rfl rfl ?_
 refine rw_ rfl fun a w hf hO hm => ?_
 obtain ⟨r15, hr15, hm⟩ := ob hm
 have hch16 := (show Dk.Own w0 F _ ([.blk x_r_b0 [str s11, int i12] 148] ++ [.blk b1 [ptr x_r_b0 0] 120, .blk x_v_b1 [str r3.1, str r3.1, str x_v.By, str x_v.Comment] 46]) from hO)
 have hfar16 := Dk.Own.far hch16 rfl hF hG.size
 have hlend16 := hch16.lend (S := []) rfl trivial
 have hcl16 := zcd (⟨s11, i12⟩ : scan_Scanner) r15 _ (hG.own hF hO) hfar16 hlend16 hr15
 refine zj (zh zsB hf (vs := [ptr x_r_b0 0]) rfl) rfl hf rfl rfl (hcl16) ?_
 rintro e w' ⟨he, hO'⟩
 refine ⟨_, he, fun a hf => ?_⟩
 have hO := hch16.back rfl hO' rfl
 refine S.op tb ?_ hf hO hm
 refine st 2 rfl rfl ?_
 exact ec [0, 2, 1] rfl rfl rfl fun _ _ j => ⟨r15.2.1, r15.2.2.f_s, r15.2.2.f_at, r3.1, r15.1, j rfl⟩
 exact ec [0, 2, 1] rfl rfl rfl fun _ _ j => ⟨r3.2.1, s11, i12, x_v.Proto, r3.1, j rfl⟩
 rintro a w ⟨t17, s18, i19, s20, s21, hf, hO, hm⟩
 rw [zbs] at hm
 refine S.co tb ?_ hf hO hm
 refine re_ rfl fun a w hf hO hm => ?_
 obtain rfl := Option.some.inj hm
 exact zi Tryz.results62 hf (.tmp rfl .nil) ⟨rfl, (hO.sub (.cons_cons _ (.cons_cons _ (.cons _ .slnil))))⟩

theorem zmA (x_b : UInt8) (R : Bool) (w0 : World) (hG : zt w0) (hm : zd5 x_b = some R) :
    Calls Tryz.prog 111 #[zak x_b] w0 (Ret w0 (fun R => .bool R) R) := by
 rw [zd5] at hm
 have hF : zu [] := zf
 have hO : Dk.Own w0 [] w0 [] := Dk.Own.refl w0
 refine S.enter tb Tryz.func111 rfl Tryz.ntmps111 rfl ?_ hO hm
 refine vl rfl rfl (fun a w hf hO => zrx (b := x_b) (c := 32) hf rfl rfl) ?_
 exact rt Tryz.results111 rfl

theorem zj2 (x_s : Str) (x_chars : Str) (R : Bool) (w0 : World) (hG : zt w0) (hm : strings_ContainsAny x_s x_chars = some R) :
    Calls Tryz.prog 112 #[str x_s, str x_chars] w0 (Ret w0 (fun R => .bool R) R) := by
 rw [strings_ContainsAny] at hm
 have hF : zu [] := zf
 have hO : Dk.Own w0 [] w0 [] := Dk.Own.refl w0
 refine S.enter tb Tryz.func112 rfl Tryz.ntmps112 rfl ?_ hO hm
 refine cl zwx rfl (fun r2 w hr2 hO => zfD x_s x_chars r2 _ (hG.own hF hO) hr2) fun r2 hr2 => ?_
 exact rt Tryz.results112 rfl

theorem zn8 (x_r : via_reader) (x_v : api_Via) (R : Bool × scan_Scanner × api_Via) (w0 : World) (hG : zaG w0) {x_r_b0 : Nat} {x_v_b1 : Nat} {F : List Nat} (hF : zu F) (hO : Dk.Own w0 F w0 [.blk x_r_b0 [str x_r.Scanner.f_s, int x_r.Scanner.f_at] 148, .blk x_v_b1 [str x_v.Proto, str x_v.Version, str x_v.By, str x_v.Comment] 46]) (hm : zg6 x_r x_v = some R) :
    Calls Tryz.prog 64 #[.agg #[ptr x_r_b0 0], ptr x_v_b1 0] w0 fun e w' => e = .returned (.bool R.1) ∧ Dk.Own w0 F w' [.blk x_r_b0 [str R.2.1.f_s, int R.2.1.f_at] 148, .blk x_v_b1 [str R.2.2.Proto, str R.2.2.Version, str R.2.2.By, str R.2.2.Comment] 46] := by
 rw [zg6] at hm
 refine S.enter tb Tryz.func64 rfl Tryz.ntmps64 rfl ?_ hO hm
 refine bo rfl fun b1 => ?_
 refine ld 0 rfl rfl ?_
 refine rw_ rfl fun a w hf hO hm => ?_
 obtain ⟨r3, hr3, hm⟩ := ob hm
 have hch4 := (show Dk.Own w0 F _ ([.blk x_r_b0 [str x_r.Scanner.f_s, int x_r.Scanner.f_at] 148] ++ [.blk b1 [ptr x_r_b0 0] 120, .blk x_v_b1 [str x_v.Proto, str x_v.Version, str x_v.By, str x_v.Comment] 46]) from hO.choose [1, 0, 2] rfl)
 have hfar4 := Dk.Own.far hch4 rfl hF hG.size
 have hlend4 := hch4.lend (S := []) rfl trivial
 have hcl4 := zdj x_r.Scanner zd5 r3 _ (hG.own hF hO).1 hfar4 hlend4 c_111 (fun y0 r w hG h => ze5 (zmA y0 r w hG h)) hr3
 refine zj (zh zt4 hf (vs := [ptr x_r_b0 0, .func (.func 111) #[] #[]]) rfl) rfl hf rfl rfl (hcl4) ?_
 rintro e w' ⟨he, hO'⟩
 refine ⟨_, he, fun a hf => ?_⟩
 have hO := hch4.back rfl hO' rfl
 refine S.op tb ?_ hf hO hm
 refine st 2 rfl rfl ?_
 refine ld 2 rfl rfl ?_
 refine cl c_76 rfl (fun r6 w hr6 hO => zeN r3.1 r6 _ (hG.own hF hO) hr6) fun r6 hr6 => ?_
 refine al zmB rfl fun b7 => ?_
 refine st 0 rfl rfl ?_
 refine jv 0 [] [0, 1, 2, 3] (fun J E L => ∃ (t13 : Bool), J ((4, .bool t13) :: E) (L) (zcI x_v r3 t13)) rfl ?_ ?_
 refine ld 3 rfl rfl ?_
 refine cl c_90 rfl (fun r9 w hr9 hO => zg7 r3.1 r9 _ (hG.own hF hO).1 hr9) fun r9 hr9 => ?_
 refine br rfl (fun hc10 => ?_) fun hc10 => ?_
 exact en rfl fun _ _ j => ⟨true, j rfl⟩
 refine br rfl (fun hc11 => ?_) fun hc11 => ?_
 refine ld 3 rfl rfl ?_
 refine cl c_112 rfl (fun r12 w hr12 hO => zj2 r3.1 [44, 40, 41] r12 _ (hG.own hF hO).1 hr12) fun r12 hr12 => ?_
 exact en rfl fun _ _ j => ⟨!r12, j rfl⟩
 exact en rfl fun _ _ j => ⟨false, j rfl⟩
 rintro a w ⟨t13, hf, hO, hm⟩
 rw [zcI] at hm
 refine S.co tb ?_ hf hO hm
 refine re_ rfl fun a w hf hO hm => ?_
 obtain rfl := Option.some.inj hm
 exact zi Tryz.results64 hf (.tmp rfl .nil) ⟨rfl, (hO.sub (.cons _ (.cons_cons _ (.cons _ (.cons_cons _ .slnil)))))⟩

theorem zpa (x_s : Str) (R : Bool) (w0 : World) (hG : zt w0) (hm : zgr x_s = some R) :
    Calls Tryz.prog 113 #[str x_s] w0 (Ret w0 (fun R => .bool R) R) := by
 rw [zgr] at hm
 have hF : zu [] := zf
 have hO : Dk.Own w0 [] w0 [] := Dk.Own.refl w0
 refine S.enter tb Tryz.func113 rfl Tryz.ntmps113 rfl ?_ hO hm
 refine lv [0] [] (fun J E L k => ∃ (i4 : Int) (i5 : Int), J ((3, int i4) :: (4, int i5) :: E) (L) (zZ x_s k i4 i5)) rfl (fun _ _ j => ⟨0, 0, j rfl⟩) ?_
 rintro n1 a w ⟨i4, i5, hf, hO, hm⟩
 obtain _ | n1 := n1
 rw [zZ] at hm
 cases hm
 rw [zZ] at hm
 refine S.co tb ?_ hf hO hm
 refine br rfl (fun hc7 => ?_) fun hc7 => ?_
 refine jv 5 [0] [] (fun J E L => ∃ (i20 : Int) (i21 : Int), J ((3, int i20) :: (4, int i21) :: E) (L) (zaS (zZ x_s n1) x_s i20 i21)) rfl ?_ ?_
 refine bi rfl fun b9 hb9 => ?_
 refine vl rfl rfl (fun a w hf hO => zaL (b := b9) (c := 40) hf rfl rfl) ?_
 refine br rfl (fun hc12 => ?_) fun hc12 => ?_
 refine bi rfl fun i13 hi13 => ?_
 exact en rfl fun _ _ j => ⟨i13, i5, j rfl⟩
 refine vl rfl rfl (fun a w hf hO => zaL (b := b9) (c := 41) hf rfl rfl) ?_
 refine br rfl (fun hc15 => ?_) fun hc15 => ?_
 refine bi rfl fun i16 hi16 => ?_
 exact en rfl fun _ _ j => ⟨i16, i5, j rfl⟩
 refine vl rfl rfl (fun a w hf hO => zaL (b := b9) (c := 92) hf rfl rfl) ?_
 refine br rfl (fun hc18 => ?_) fun hc18 => ?_
 refine bi rfl fun i19 hi19 => ?_
 exact en rfl fun _ _ j => ⟨i4, i19, j rfl⟩
 exact en rfl fun _ _ j => ⟨i4, i5, j rfl⟩
 rintro a w ⟨i20, i21, hf, hO, hm⟩
 rw [zaS] at hm
 refine S.co tb ?_ hf hO hm
 refine jv 5 [0, 3, 4] [] (fun J E L => ∃ (t23 : Bool), J ((33, .bool t23) :: E) (L) (zcq (zZ x_s n1) i20 i21 t23)) rfl ?_ ?_
 refine br rfl (fun hc22 => ?_) fun hc22 => ?_
 exact en rfl fun _ _ j => ⟨true, j rfl⟩
 exact en rfl fun _ _ j => ⟨decide ((x_s.length : Int) ≤ i21), j rfl⟩
 rintro a w ⟨t23, hf, hO, hm⟩
 rw [zcq] at hm
 refine S.co tb ?_ hf hO hm
 refine br rfl (fun hc24 => ?_) fun hc24 => ?_
 exact rt Tryz.results113 rfl
 refine bi rfl fun i27 hi27 => ?_
 exact en rfl fun _ _ j => ⟨_, Nat.lt_succ_self _, i20, i27, j rfl⟩
 refine jv 0 [] [] (fun J E L => ∃ (t32 : Bool), J ((2, .bool t32) :: E) (L) (zd6 t32)) rfl ?_ ?_
 refine br rfl (fun hc29 => ?_) fun hc29 => ?_
 refine rw_ rfl fun a w hf hO hm => ?_
 refine zm (vs := [(0, str x_s)]) (cs := [str x_s]) (e := 9) (sz := 1) hf rfl rfl (fun w => by kernel_rfl) rfl rfl hO fun a b30 w hf hO => ?_
 refine S.op tb ?_ hf hO hm
 refine kn (b' := true) hc29 rfl ?_
 refine cl zjW rfl (fun r31 w hr31 hO => zbI zaP ([x_s] : List Str) r31 _ (hG.own hF hO) zsE (fun y0 r w hG h => ze5 (zd9 y0 r w hG h)) (hO.rowSees (i := 0) rfl) (hO.rowCap (i := 0) rfl) hr31) fun r31 hr31 => ?_
 exact ec [] rfl rfl rfl fun _ _ j => ⟨r31, j rfl⟩
 exact en rfl fun _ _ j => ⟨false, j rfl⟩
 rintro a w ⟨t32, hf, hO, hm⟩
 rw [zd6] at hm
 refine S.co tb ?_ hf hO hm
 exact rt Tryz.results113 rfl

theorem zkJ (x_r : via_reader) (x_v : api_Via) (R : Bool × scan_Scanner × api_Via) (w0 : World) (hG : zt w0) {x_r_b0 : Nat} {x_v_b1 : Nat} {F : List Nat} (hF : zu F) (hO : Dk.Own w0 F w0 [.blk x_r_b0 [str x_r.Scanner.f_s, int x_r.Scanner.f_at] 148, .blk x_v_b1 [str x_v.Proto, str x_v.Version, str x_v.By, str x_v.Comment] 46]) (hm : zbW x_r x_v = some R) :
    Calls Tryz.prog 65 #[.agg #[ptr x_r_b0 0], ptr x_v_b1 0] w0 fun e w' => e = .returned (.bool R.1) ∧ Dk.Own w0 F w' [.blk x_r_b0 [str R.2.1.f_s, int R.2.1.f_at] 148, .blk x_v_b1 [str R.2.2.Proto, str R.2.2.Version, str R.2.2.By, str R.2.2.Comment] 46] := by
 rw [zbW] at hm
 refine S.enter tb Tryz.func65 rfl Tryz.ntmps65 rfl ?_ hO hm
 refine bo rfl fun b1 => ?_
 refine ld 0 rfl rfl ?_
 refine cl ztx rfl (fun r3 w hr3 hO => za5 x_r.Scanner r3 _ (hG.own hF hO) (hO.blkSees (i := 1) rfl) hr3) fun r3 hr3 => ?_
 refine br rfl (fun hc5 => ?_) fun hc5 => ?_
 refine re_ rfl fun a w hf hO hm => ?_
 obtain rfl := Option.some.inj hm
 exact zi Tryz.results65 hf (.tmp rfl .nil) ⟨rfl, (hO.sub (.cons _ (.cons_cons _ (.cons_cons _ .slnil))))⟩
 refine ld 0 rfl rfl ?_
 refine cl c_103 rfl (fun r8 w hr8 hO => zhy x_r.Scanner r8 _ (hG.own hF hO) (hO.blkSees (i := 1) rfl) hr8) fun r8 hr8 => ?_
 refine cl c_69 rfl (fun r9 w hr9 hO => zds r8 [32, 40] r9 _ (hG.own hF hO) hr9) fun r9 hr9 => ?_
 refine cl c_70 rfl (fun r11 w hr11 hO => ze8 r9.1 [41] r11 _ (hG.own hF hO) hr11) fun r11 hr11 => ?_
 refine st 2 rfl rfl ?_
 refine jv 0 [] [0, 1, 2] (fun J E L => ∃ (t18 : Bool), J ((4, .bool t18) :: E) (L) (zaI x_r x_v r11 t18)) rfl ?_ ?_
 refine br rfl (fun hc14 => ?_) fun hc14 => ?_
 refine br rfl (fun hc15 => ?_) fun hc15 => ?_
 refine br rfl (fun hc16 => ?_) fun hc16 => ?_
 refine cl c_113 rfl (fun r17 w hr17 hO => zpa r11.1 r17 _ (hG.own hF hO) hr17) fun r17 hr17 => ?_
 exact en rfl fun _ _ j => ⟨r17, j rfl⟩
 exact en rfl fun _ _ j => ⟨false, j rfl⟩
 exact en rfl fun _ _ j => ⟨false, j rfl⟩
 exact en rfl fun _ _ j => ⟨false, j rfl⟩
 rintro a w ⟨t18, hf, hO, hm⟩
 rw [zaI] at hm
 refine S.co tb ?_ hf hO hm
 refine re_ rfl fun a w hf hO hm => ?_
 obtain rfl := Option.some.inj hm
 exact zi Tryz.results65 hf (.tmp rfl .nil) ⟨rfl, (hO.sub (.cons _ (.cons_cons _ (.cons_cons _ .slnil))))⟩

theorem znH (x_s : Str) (R : api_Via × Int) (w0 : World) (hG : zaG w0) (hm : zgN x_s = some R) :
    Calls Tryz.prog 34 #[str x_s] w0 (Ret w0 (fun R => .tuple #[.agg #[str R.1.Proto, str R.1.Version, str R.1.By, str R.1.Comment], int R.2]) R) := by
 rw [zgN] at hm
 have hF : zu [] := zf
 have hO : Dk.Own w0 [] w0 [] := Dk.Own.refl w0
 refine S.enter tb Tryz.func34 rfl Tryz.ntmps34 rfl ?_ hO hm
 refine al ztX rfl fun b1 => ?_
 refine rw_ rfl fun a w hf hO hm => ?_
 obtain ⟨r3, hr3, hm⟩ := ob hm
 refine zj (zh c_58 hf (vs := [str x_s]) rfl) rfl hf rfl rfl (zjo x_s r3 _ (hG.own hF hO).1 hr3) ?_
 rintro e w' ⟨b4, he, hO'⟩
 refine ⟨_, he, fun a hf => ?_⟩
 have hO := hO.call hO' (by simp [Res.shared])
 refine S.op tb ?_ hf hO hm
 refine vl rfl rfl (fun a w hf hO => zB (vs := [(0, ptr b4 0)]) (v := .agg #[ptr b4 0]) hf rfl (by kernel_rfl)) ?_
 refine al al_120 rfl fun b5 => ?_
 refine st 0 rfl rfl ?_
 refine al ztX rfl fun b7 => ?_
 refine jv 1 [2, 5] [1, 3] (fun J E L => ∃ (t20 : Bool) (s21 : Str) (i22 : Int) (s23 : Str) (s24 : Str) (s25 : Str) (s26 : Str), J ((27, .bool t20) :: E) (.blk b4 [str s21, int i22] 148 :: .blk b7 [str s23, str s24, str s25, str s26] 46 :: L) (zdU t20 s21 i22 s23 s24 s25 s26)) rfl ?_ ?_
 refine ld 1 rfl rfl ?_
 refine rw_ rfl fun a w hf hO hm => ?_
 obtain ⟨r9, hr9, hm⟩ := ob hm
 have hch10 := (show Dk.Own w0 [] _ ([.blk b4 [str r3.f_s, int r3.f_at] 148, .blk b7 [str [], str [], str [], str []] 46] ++ [.blk b5 [ptr b4 0] 120, .blk b1 [str [], str [], str [], str []] 46]) from hO.choose [2, 0, 1, 3] rfl)
 have hfar10 := Dk.Own.far hch10 rfl hF hG.size
 have hlend10 := hch10.lend (S := []) rfl trivial
 have hcl10 := zj1 (⟨r3⟩ : via_reader) (⟨[], [], [], []⟩ : api_Via) r9 _ (hG.own hF hO).1 hfar10 hlend10 hr9
 refine zj (zh c_62 hf (vs := [.agg #[ptr b4 0], ptr b7 0]) rfl) rfl hf rfl rfl (hcl10) ?_
 rintro e w' ⟨he, hO'⟩
 refine ⟨_, he, fun a hf => ?_⟩
 have hO := hch10.back rfl hO' rfl
 refine S.op tb ?_ hf hO hm
 refine br rfl (fun hc11 => ?_) fun hc11 => ?_
 exact en rfl fun _ _ j => ⟨true, r9.2.1.f_s, r9.2.1.f_at, r9.2.2.Proto, r9.2.2.Version, r9.2.2.By, r9.2.2.Comment, j rfl⟩
 refine ld 2 rfl rfl ?_
 refine rw_ rfl fun a w hf hO hm => ?_
 obtain ⟨r12, hr12, hm⟩ := ob hm
 have hch13 := (show Dk.Own w0 [] _ ([.blk b4 [str r9.2.1.f_s, int r9.2.1.f_at] 148] ++ [.blk b7 [str r9.2.2.Proto, str r9.2.2.Version, str r9.2.2.By, str r9.2.2.Comment] 46, .blk b5 [ptr b4 0] 120, .blk b1 [str [], str [], str [], str []] 46]) from hO)
 have hfar13 := Dk.Own.far hch13 rfl hF hG.size
 have hlend13 := hch13.lend (S := []) rfl trivial
 have hcl13 := zE r9.2.1 32 r12 _ (hG.own hF hO).1 hfar13 hlend13 hr12
 refine zj (zh zmH hf (vs := [ptr b4 0, zak 32]) rfl) rfl hf rfl rfl (hcl13) ?_
 rintro e w' ⟨he, hO'⟩
 refine ⟨_, he, fun a hf => ?_⟩
 have hO := hch13.back rfl hO' rfl
 refine S.op tb ?_ hf hO hm
 refine kn (b' := false) hc11 rfl ?_
 refine br rfl (fun hc14 => ?_) fun hc14 => ?_
 exact en rfl fun _ _ j => ⟨true, r12.2.f_s, r12.2.f_at, r9.2.2.Proto, r9.2.2.Version, r9.2.2.By, r9.2.2.Comment, j rfl⟩
 refine ld 2 rfl rfl ?_
 refine rw_ rfl fun a w hf hO hm => ?_
 obtain ⟨r15, hr15, hm⟩ := ob hm
 have hch16 := (show Dk.Own w0 [] _ ([.blk b4 [str r12.2.f_s, int r12.2.f_at] 148, .blk b7 [str r9.2.2.Proto, str r9.2.2.Version, str r9.2.2.By, str r9.2.2.Comment] 46] ++ [.blk b5 [ptr b4 0] 120, .blk b1 [str [], str [], str [], str []] 46]) from hO)
 have hfar16 := Dk.Own.far hch16 rfl hF hG.size
 have hlend16 := hch16.lend (S := []) rfl trivial
 have hcl16 := zn8 (⟨r12.2⟩ : via_reader) r9.2.2 r15 _ (hG.own hF hO) hfar16 hlend16 hr15
 refine zj (zh c_64 hf (vs := [.agg #[ptr b4 0], ptr b7 0]) rfl) rfl hf rfl rfl (hcl16) ?_
 rintro e w' ⟨he, hO'⟩
 refine ⟨_, he, fun a hf => ?_⟩
 have hO := hch16.back rfl hO' rfl
 refine S.op tb ?_ hf hO hm
 refine kn (b' := false) hc14 rfl ?_
 refine br rfl (fun hc17 => ?_) fun hc17 => ?_
 exact en rfl fun _ _ j => ⟨true, r15.2.1.f_s, r15.2.1.f_at, r15.2.2.Proto, r15.2.2.Version, r15.2.2.By, r15.2.2.Comment, j rfl⟩
 refine ld 2 rfl rfl ?_
 refine rw_ rfl fun a w hf hO hm => ?_
 obtain ⟨r18, hr18, hm⟩ := ob hm
 have hch19 := (show Dk.Own w0 [] _ ([.blk b4 [str r15.2.1.f_s, int r15.2.1.f_at] 148, .blk b7 [str r15.2.2.Proto, str r15.2.2.Version, str r15.2.2.By, str r15.2.2.Comment] 46] ++ [.blk b5 [ptr b4 0] 120, .blk b1 [str [], str [], str [], str []] 46]) from hO)
 have hfar19 := Dk.Own.far hch19 rfl hF hG.size
 have hlend19 := hch19.lend (S := []) rfl trivial
 have hcl19 := zkJ (⟨r15.2.1⟩ : via_reader) r15.2.2 r18 _ (hG.own hF hO).1 hfar19 hlend19 hr18
 refine zj (zh c_65 hf (vs := [.agg #[ptr b4 0], ptr b7 0]) rfl) rfl hf rfl rfl (hcl19) ?_
 rintro e w' ⟨he, hO'⟩
 refine ⟨_, he, fun a hf => ?_⟩
 have hO := hch19.back rfl hO' rfl
 refine S.op tb ?_ hf hO hm
 refine kn (b' := false) hc17 rfl ?_
 exact en rfl fun _ _ j => ⟨!r18.1, r18.2.1.f_s, r18.2.1.f_at, r18.2.2.Proto, r18.2.2.Version, r18.2.2.By, r18.2.2.Comment, j rfl⟩
 rintro a w ⟨t20, s21, i22, s23, s24, s25, s26, hf, hO, hm⟩
 rw [zdU] at hm
 refine S.co tb ?_ hf hO hm
 refine br rfl (fun hc27 => ?_) fun hc27 => ?_
 refine vl rfl rfl (fun a w hf hO => zB (vs := []) (v := .agg #[str [], str [], str [], str []]) hf rfl (by kernel_rfl)) ?_
 refine st 3 rfl rfl ?_
 refine re_ rfl fun a w hf hO hm => ?_
 obtain rfl := Option.some.inj hm
 exact zi Tryz.results34 hf (.cell rfl (zp (n := 4) (vs := [str [], str [], str [], str []]) zsq zmF rfl ((hO.blkSees (i := 3) rfl).cells (o := 0) (n := 4) rfl)) (.tmp rfl .nil)) ⟨rfl, hO.below⟩
 refine ld 1 rfl rfl ?_
 refine st 3 rfl rfl ?_
 refine re_ rfl fun a w hf hO hm => ?_
 obtain rfl := Option.some.inj hm
 exact zi Tryz.results34 hf (.cell rfl (zp (n := 4) (vs := [str s23, str s24, str s25, str s26]) zsq zmF rfl ((hO.blkSees (i := 3) rfl).cells (o := 0) (n := 4) rfl)) (.tmp rfl .nil)) ⟨rfl, hO.below⟩

end Go.Proofs
end
section
set_option linter.unusedVariables false
set_option maxHeartbeats 1000000
set_option linter.unusedSimpArgs false
set_option maxRecDepth 100000
namespace Go.Proofs
open Go.Dk Go.Dm Go.RowKit

theorem ztC (x_v : api_Via) (R : Str × Int) (w0 : World) (hG : zaG w0) (hm : zkC x_v = some R) :
    Calls Tryz.prog 45 #[.agg #[str x_v.Proto, str x_v.Version, str x_v.By, str x_v.Comment]] w0 (Ret w0 (fun R => .tuple #[str R.1, int R.2]) R) := by
 rw [zkC] at hm
 have hF : zu [] := zf
 have hO : Dk.Own w0 [] w0 [] := Dk.Own.refl w0
 refine S.enter tb Tryz.func45 rfl Tryz.ntmps45 rfl ?_ hO hm
 refine bo rfl fun b1 => ?_
 refine ld 0 rfl rfl ?_
 refine ld 0 rfl rfl ?_
 refine rw_ rfl fun a w hf hO hm => ?_
 refine zm (vs := [(0, str x_v.Version), (1, str [32]), (2, str x_v.By)]) (cs := [str x_v.Version, str [32], str x_v.By]) (e := 9) (sz := 1) hf rfl rfl (fun w => by kernel_rfl) rfl rfl hO fun a b3 w hf hO => ?_
 refine S.op tb ?_ hf hO hm
 refine jv 0 [1] [1] (fun J E L => ∃ (p11 : Option Addr) (c12 : Nat) (l13 : List Str), J ((4, .slice p11 l13.length c12) :: E) (.row (.slice p11 l13.length c12) 9 1 l13.length (cells zg l13) :: L) (zfS x_v l13)) rfl ?_ ?_
 refine ld 1 rfl rfl ?_
 refine br rfl (fun hc6 => ?_) fun hc6 => ?_
 refine ld 1 rfl rfl ?_
 refine rw_ rfl fun a w hf hO hm => ?_
 refine zm (vs := [(0, str x_v.Proto), (1, str [47])]) (cs := [str x_v.Proto, str [47]]) (e := 9) (sz := 1) hf rfl rfl (fun w => by kernel_rfl) rfl rfl hO fun a b7 w hf hO => ?_
 refine S.op tb ?_ hf hO hm
 refine rw_ rfl fun a w hf hO hm => ?_
 obtain ⟨hg10, hm⟩ := og hm
 refine zae ziE (enc := zg) (xs := ([x_v.Proto, [47]] : List Str)) (ys := ([x_v.Version, [32], x_v.By] : List Str)) (i := 0) (fun _ => rfl) rfl (hO.rowSees (i := 1) rfl) (by simp [cells, zg, Value.oneCell']) hg10 hf rfl rfl rfl hO fun a p8 c9 w hf hO => ?_
 refine S.op tb ?_ hf hO hm
 exact ec [0, 2] rfl rfl rfl fun _ _ j => ⟨p8, c9, ([x_v.Proto, [47]] : List Str) ++ ([x_v.Version, [32], x_v.By] : List Str), j rfl⟩
 exact en rfl fun _ _ j => ⟨some ⟨b3, 0, none⟩, 3, ([x_v.Version, [32], x_v.By] : List Str), j rfl⟩
 rintro a w ⟨p11, c12, l13, hf, hO, hm⟩
 rw [zfS] at hm
 refine S.co tb ?_ hf hO hm
 refine jv 0 [1] [1] (fun J E L => ∃ (p20 : Option Addr) (c21 : Nat) (l22 : List Str), J ((4, .slice p20 l22.length c21) :: E) (.row (.slice p20 l22.length c21) 9 1 l22.length (cells zg l22) :: L) (zfR x_v l22)) rfl ?_ ?_
 refine ld 1 rfl rfl ?_
 refine br rfl (fun hc15 => ?_) fun hc15 => ?_
 refine ld 1 rfl rfl ?_
 refine rw_ rfl fun a w hf hO hm => ?_
 refine zm (vs := [(0, str [32, 40]), (1, str x_v.Comment), (2, str [41])]) (cs := [str [32, 40], str x_v.Comment, str [41]]) (e := 9) (sz := 1) hf rfl rfl (fun w => by kernel_rfl) rfl rfl hO fun a b16 w hf hO => ?_
 refine S.op tb ?_ hf hO hm
 refine rw_ rfl fun a w hf hO hm => ?_
 obtain ⟨hg19, hm⟩ := og hm
 refine zae ziE (enc := zg) (xs := l13) (ys := ([[32, 40], x_v.Comment, [41]] : List Str)) (i := 1) (fun _ => rfl) rfl (hO.rowSees (i := 0) rfl) (by simp [cells, zg, Value.oneCell']) hg19 hf rfl rfl rfl hO fun a p17 c18 w hf hO => ?_
 refine S.op tb ?_ hf hO hm
 exact ec [1, 2] rfl rfl rfl fun _ _ j => ⟨p17, c18, l13 ++ ([[32, 40], x_v.Comment, [41]] : List Str), j rfl⟩
 exact en rfl fun _ _ j => ⟨p11, c12, l13, j rfl⟩
 rintro a w ⟨p20, c21, l22, hf, hO, hm⟩
 rw [zfR] at hm
 refine S.co tb ?_ hf hO hm
 refine cl c_86 rfl (fun r23 w hr23 hO => zgb [] l22 r23 _ (hG.own hF hO).1 (hO.rowSees (i := 0) rfl) (hO.rowCap (i := 0) rfl) hr23) fun r23 hr23 => ?_
 refine cl c_34 rfl (fun r25 w hr25 hO => znH r23 r25 _ (hG.own hF hO) hr25) fun r25 hr25 => ?_
 refine al ztX rfl fun b26 => ?_
 refine st 0 rfl rfl ?_
 refine jv 1 [5] [0, 1, 2] (fun J E L => ∃ (t29 : Bool), J ((42, .bool t29) :: E) (L) (zhh r23 t29)) rfl ?_ ?_
 refine br rfl (fun hc28 => ?_) fun hc28 => ?_
 exact en rfl fun _ _ j => ⟨true, j rfl⟩
 refine ld 0 rfl rfl ?_
 refine ld 2 rfl rfl ?_
 refine vl rfl rfl (fun a w hf hO => zj8 (by kernel_rfl) (eq_46 r25.1 x_v) hf rfl rfl) ?_
 exact en rfl fun _ _ j => ⟨!(r25.1 == x_v), j rfl⟩
 rintro a w ⟨t29, hf, hO, hm⟩
 rw [zhh] at hm
 refine S.co tb ?_ hf hO hm
 refine br rfl (fun hc30 => ?_) fun hc30 => ?_
 exact rt Tryz.results45 rfl
 exact rt Tryz.results45 rfl

theorem zls (x_l : List Str) (R : Str) (w0 : World) (hG : zt w0) {x_l_p0 : Option Addr} {x_l_c0 : Nat} (hs0 : zy w0 x_l_p0 (cells zg x_l)) (hc0 : x_l.length ≤ x_l_c0) (hm : zdI x_l = some R) :
    Calls Tryz.prog 145 #[.slice x_l_p0 x_l.length x_l_c0] w0 (Ret w0 (fun R => str R) R) := by
 rw [zdI] at hm
 have hF : zu [] := zf
 have hO : Dk.Own w0 [] w0 [] := Dk.Own.refl w0
 have hO := hO.addShr hs0 (by simp [Res.shared])
 refine S.enter tb Tryz.func145 rfl Tryz.ntmps145 rfl ?_ hO hm
 refine cl c_86 rfl (fun r2 w hr2 hO => zgb [44, 32] x_l r2 _ (hG.own hF hO) (hO.sees (i := 0) rfl) hc0 hr2) fun r2 hr2 => ?_
 exact rt Tryz.results145 rfl

theorem zoa (x_s : Str) (x_l : List Str) (R : Str) (w0 : World) (hG : zt w0) {x_l_p0 : Option Addr} {x_l_c0 : Nat} (hs0 : zy w0 x_l_p0 (cells zg x_l)) (hc0 : x_l.length ≤ x_l_c0) (hm : zfe x_s x_l = some R) :
    Calls Tryz.prog 87 #[str x_s, .slice x_l_p0 x_l.length x_l_c0] w0 (Ret w0 (fun R => str R) R) := by
 rw [zfe] at hm
 have hF : zu [] := zf
 have hO : Dk.Own w0 [] w0 [] := Dk.Own.refl w0
 have hO := hO.addShr hs0 (by simp [Res.shared])
 refine S.enter tb Tryz.func87 rfl Tryz.ntmps87 rfl ?_ hO hm
 refine br rfl (fun hc3 => ?_) fun hc3 => ?_
 exact rt Tryz.results87 rfl
 refine cl zt3 rfl (fun r5 w hr5 hO => zf3 x_s [32, 9, 44] r5 _ (hG.own hF hO) hr5) fun r5 hr5 => ?_
 refine br rfl (fun hc7 => ?_) fun hc7 => ?_
 refine cl c_145 rfl (fun r8 w hr8 hO => zls x_l r8 _ (hG.own hF hO) (hO.sees (i := 0) rfl) hc0 hr8) fun r8 hr8 => ?_
 exact rt Tryz.results87 rfl
 refine cl c_146 rfl (fun r11 w hr11 hO => zk8 x_s [32, 9] r11 _ (hG.own hF hO) hr11) fun r11 hr11 => ?_
 refine rw_ rfl fun a w hf hO hm => ?_
 refine zm (vs := [(0, str r11)]) (cs := [str r11]) (e := 9) (sz := 1) hf rfl rfl (fun w => by kernel_rfl) rfl rfl hO fun a b12 w hf hO => ?_
 refine S.op tb ?_ hf hO hm
 refine rw_ rfl fun a w hf hO hm => ?_
 obtain ⟨hg15, hm⟩ := og hm
 refine zfH ziE (enc := zg) (xs := ([r11] : List Str)) (ys := x_l) (i := 0) (fun _ => rfl) rfl (hO.sees (i := 1) rfl) (by simp [zg, Value.oneCell']) hg15 hf rfl rfl rfl hO fun a p13 c14 w hf hO => ?_
 refine S.op tb ?_ hf hO hm
 refine cl c_145 rfl (fun r16 w hr16 hO => zls (([r11] : List Str) ++ x_l) r16 _ (hG.own hF hO) (hO.rowSees (i := 0) rfl) (hO.rowCap (i := 0) rfl) hr16) fun r16 hr16 => ?_
 exact rt Tryz.results87 rfl

theorem zgX (x_b : bag_Bag) (x_name : Str) (x_element : Str) (R : bag_Bag) (w0 : World) (hG : zt w0) {x_b_b0 : Nat} {x_b_p1 : Option Addr} {x_b_c1 : Nat} {F : List Nat} (hF : zu F) (hO : Dk.Own w0 F w0 [.blk x_b_b0 [.slice x_b_p1 x_b.f_l.length x_b_c1] 107, .row (.slice x_b_p1 x_b.f_l.length x_b_c1) 54 2 x_b.f_l.length (cells za x_b.f_l)]) (hm : zcV x_b x_name x_element = some R) :
    Calls Tryz.prog 46 #[ptr x_b_b0 0, str x_name, str x_element] w0 fun e w' => ∃ (p0 : Option Addr) (c0 : Nat), e = .returned (.tuple #[]) ∧ Dk.Own w0 F w' [.blk x_b_b0 [.slice p0 R.f_l.length c0] 107, .row (.slice p0 R.f_l.length c0) 54 2 R.f_l.length (cells za R.f_l)] := by
 rw [zcV] at hm
 refine S.enter tb Tryz.func46 rfl Tryz.ntmps46 rfl ?_ hO hm
 refine vl rfl rfl (fun a w hf hO => zgF Tryz.underlying63 hf rfl rfl) ?_
 refine kn (b' := false) rfl rfl ?_
 refine ld 0 rfl rfl ?_
 refine bi rfl fun i3 hi3 => ?_
 refine lv [0, 1, 2] [0, 1] (fun J E L k => ∃ (i5 : Int), J ((6, int i5) :: E) (L) (zaZ x_b x_name x_element k i5)) rfl (fun _ _ j => ⟨i3, j rfl⟩) ?_
 rintro n1 a w ⟨i5, hf, hO, hm⟩
 obtain _ | n1 := n1
 rw [zaZ] at hm
 cases hm
 rw [zaZ] at hm
 refine S.co tb ?_ hf hO hm
 refine br rfl (fun hc7 => ?_) fun hc7 => ?_
 refine ld 0 rfl rfl ?_
 refine rw_ rfl fun a w hf hO hm => ?_
 obtain ⟨x9, hx9, hm⟩ := ob hm
 obtain ⟨b10, o11, hix9, hSx9, hAx9⟩ := zaw (enc := za) (sz := 2) (xs := x_b.f_l) 26 Tryz.underlying26 zcc (by decide) (fun _ => rfl) hO (i := 1) rfl hx9
 refine zS (zk hix9 hf rfl rfl) rfl hf rfl rfl fun a hf => ?_
 refine S.op tb ?_ hf hO hm
 refine vl rfl rfl (fun a w hf hO => ze (o := 0) z7 (hSx9 _ (hO.rowSees (i := 1) rfl)) rfl hf rfl) ?_
 refine cl zp0 rfl (fun r12 w hr12 hO => zbZ x9.Name x_name r12 _ (hG.own hF hO) hr12) fun r12 hr12 => ?_
 refine br rfl (fun hc14 => ?_) fun hc14 => ?_
 refine rc_ rfl fun a w hf hO hm => ?_
 obtain ⟨x15, hx15, hm⟩ := ob hm
 obtain ⟨b16, o17, hix15, hSx15, hAx15⟩ := zaw (enc := za) (sz := 2) (xs := x_b.f_l) 26 Tryz.underlying26 zcc (by decide) (fun _ => rfl) hO (i := 1) rfl hx15
 obtain ⟨r19, hr19, hm⟩ := ob hm
 obtain ⟨x20, hx20, hm⟩ := ob hm
 obtain ⟨b21, o22, hix20, hSx20, hAx20⟩ := zaw (enc := za) (sz := 2) (xs := x_b.f_l) 26 Tryz.underlying26 zcc (by decide) (fun _ => rfl) hO (i := 1) rfl hx20
 obtain ⟨l23, hl23, hm⟩ := ob hm
 have hlnl23 := zvA hl23
 refine zaV (S := Nat) (E0 := [(0, ptr x_b_b0 0), (2, str x_element), (6, int i5)]) (by kernel_rfl) (fun k σ w => match k with | 0 => Dk.Own w0 F w [.blk x_b_b0 [.slice x_b_p1 x_b.f_l.length x_b_c1] 107, .row (.slice x_b_p1 x_b.f_l.length x_b_c1) 54 2 x_b.f_l.length (cells za x_b.f_l)] | 1 => Dk.Own w0 F w [.row (.slice (some ⟨σ, 0, none⟩) (([x_element] : List Str).length) 1) 9 1 (([x_element] : List Str).length) (cells zg ([x_element] : List Str)), .blk x_b_b0 [.slice x_b_p1 x_b.f_l.length x_b_c1] 107, .row (.slice x_b_p1 x_b.f_l.length x_b_c1) 54 2 x_b.f_l.length (cells za x_b.f_l)] | 2 => Dk.Own w0 F w [.row (.slice (some ⟨σ, 0, none⟩) (([x_element] : List Str).length) 1) 9 1 (([x_element] : List Str).length) (cells zg ([x_element] : List Str)), .blk x_b_b0 [.slice x_b_p1 x_b.f_l.length x_b_c1] 107, .row (.slice x_b_p1 x_b.f_l.length x_b_c1) 54 2 x_b.f_l.length (cells za x_b.f_l)] | _ => Dk.Own w0 F w [.row (.slice (some ⟨σ, 0, none⟩) (([x_element] : List Str).length) 1) 9 1 (([x_element] : List Str).length) (cells zg ([x_element] : List Str)), .blk x_b_b0 [.slice x_b_p1 x_b.f_l.length x_b_c1] 107, .row (.slice x_b_p1 x_b.f_l.length x_b_c1) 54 2 x_b.f_l.length (cells za l23)]) (fun σ => [⟨[(0, ptr x_b_b0 0)], some (29, ptr x_b_b0 0)⟩, ⟨[(29, ptr x_b_b0 0)], some (30, ptr x_b_b0 0)⟩, ⟨[(30, ptr x_b_b0 0)], some (31, ptr x_b_b0 0)⟩, ⟨[(31, ptr x_b_b0 0)], some (32, .slice x_b_p1 x_b.f_l.length x_b_c1)⟩, ⟨[(6, int i5)], some (33, int i5)⟩, ⟨[(0, ptr x_b_b0 0)], some (34, ptr x_b_b0 0)⟩, ⟨[(34, ptr x_b_b0 0)], some (35, ptr x_b_b0 0)⟩, ⟨[(35, ptr x_b_b0 0)], some (36, ptr x_b_b0 0)⟩, ⟨[(36, ptr x_b_b0 0)], some (37, .slice x_b_p1 x_b.f_l.length x_b_c1)⟩, ⟨[(6, int i5)], some (38, int i5)⟩, ⟨[(37, .slice x_b_p1 x_b.f_l.length x_b_c1), (38, int i5)], some (39, ptr b16 o17)⟩, ⟨[(39, ptr b16 o17)], some (40, ptr b16 (o17 + 1))⟩, ⟨[(40, ptr b16 (o17 + 1))], some (41, str x15.Value)⟩, ⟨[(2, str x_element)], some (42, str x_element)⟩, ⟨[(42, str x_element)], some (43, .slice (some ⟨σ, 0, none⟩) (([x_element] : List Str).length) 1)⟩, ⟨[(41, str x15.Value), (43, .slice (some ⟨σ, 0, none⟩) (([x_element] : List Str).length) 1)], some (44, str r19)⟩, ⟨[(32, .slice x_b_p1 x_b.f_l.length x_b_c1), (33, int i5)], some (45, ptr b21 o22)⟩, ⟨[(45, ptr b21 o22)], some (46, ptr b21 (o22 + 1))⟩, ⟨[(44, str r19), (46, ptr b21 (o22 + 1))], none⟩]) (0) [14, 15, 18] rfl (fun _ => rfl) (fun _ => rfl) (fun _ => rfl) rfl rfl (by decide) rfl hO.drew (hf.cons rfl (hf.cons rfl (hf.cons rfl hf.nil))) (fun σ => ⟨⟨rfl, trivial⟩, ⟨rfl, trivial⟩, ⟨rfl, trivial⟩, ⟨rfl, trivial⟩, ⟨rfl, trivial⟩, ⟨rfl, trivial⟩, ⟨rfl, trivial⟩, ⟨rfl, trivial⟩, ⟨rfl, trivial⟩, ⟨rfl, trivial⟩, ⟨rfl, rfl, trivial⟩, ⟨rfl, trivial⟩, ⟨rfl, trivial⟩, ⟨rfl, trivial⟩, ⟨rfl, trivial⟩, ⟨rfl, rfl, trivial⟩, ⟨rfl, rfl, trivial⟩, ⟨rfl, trivial⟩, ⟨rfl, rfl, trivial⟩, trivial⟩) ⟨zc rfl (fun σ => rfl) (fun σ => rfl) (fun σ a w k _ _ _ _ hf => zl hf rfl), zc rfl (fun σ => rfl) (fun σ => rfl) (fun σ a w k _ _ _ _ hf => zaD hf rfl), zc rfl (fun σ => rfl) (fun σ => rfl) (fun σ a w k _ _ _ _ hf => zw zkL hf rfl), zc rfl (fun σ => rfl) (fun σ => rfl) (fun σ a w k hk hlo hup hst hf => match k, hk, hlo, hup, hst, hf with | 0, _, _, _, hst, hf => have hO : Dk.Own w0 F w [.blk x_b_b0 [.slice x_b_p1 x_b.f_l.length x_b_c1] 107, .row (.slice x_b_p1 x_b.f_l.length x_b_c1) 54 2 x_b.f_l.length (cells za x_b.f_l)] := hst; ze (o := 0) zdi (hO.blkSees (i := 0) rfl) rfl hf rfl | 1, _, _, _, hst, hf => have hO : Dk.Own w0 F w [.row (.slice (some ⟨σ, 0, none⟩) (([x_element] : List Str).length) 1) 9 1 (([x_element] : List Str).length) (cells zg ([x_element] : List Str)), .blk x_b_b0 [.slice x_b_p1 x_b.f_l.length x_b_c1] 107, .row (.slice x_b_p1 x_b.f_l.length x_b_c1) 54 2 x_b.f_l.length (cells za x_b.f_l)] := hst; ze (o := 0) zdi (hO.blkSees (i := 1) rfl) rfl hf rfl | 2, _, _, _, hst, hf => have hO : Dk.Own w0 F w [.row (.slice (some ⟨σ, 0, none⟩) (([x_element] : List Str).length) 1) 9 1 (([x_element] : List Str).length) (cells zg ([x_element] : List Str)), .blk x_b_b0 [.slice x_b_p1 x_b.f_l.length x_b_c1] 107, .row (.slice x_b_p1 x_b.f_l.length x_b_c1) 54 2 x_b.f_l.length (cells za x_b.f_l)] := hst; ze (o := 0) zdi (hO.blkSees (i := 1) rfl) rfl hf rfl | 3, _, _, _, hst, hf => have hO : Dk.Own w0 F w [.row (.slice (some ⟨σ, 0, none⟩) (([x_element] : List Str).length) 1) 9 1 (([x_element] : List Str).length) (cells zg ([x_element] : List Str)), .blk x_b_b0 [.slice x_b_p1 x_b.f_l.length x_b_c1] 107, .row (.slice x_b_p1 x_b.f_l.length x_b_c1) 54 2 x_b.f_l.length (cells za l23)] := hst; ze (o := 0) zdi (hO.blkSees (i := 1) rfl) rfl hf rfl | k + 4, hk, _, _, _, _ => absurd hk (by simp)), zc rfl (fun σ => rfl) (fun σ => rfl) (fun σ a w k _ _ _ _ hf => zl hf rfl), zc rfl (fun σ => rfl) (fun σ => rfl) (fun σ a w k _ _ _ _ hf => zl hf rfl), zc rfl (fun σ => rfl) (fun σ => rfl) (fun σ a w k _ _ _ _ hf => zaD hf rfl), zc rfl (fun σ => rfl) (fun σ => rfl) (fun σ a w k _ _ _ _ hf => zw zkL hf rfl), zc rfl (fun σ => rfl) (fun σ => rfl) (fun σ a w k hk hlo hup hst hf => match k, hk, hlo, hup, hst, hf with | 0, _, _, _, hst, hf => have hO : Dk.Own w0 F w [.blk x_b_b0 [.slice x_b_p1 x_b.f_l.length x_b_c1] 107, .row (.slice x_b_p1 x_b.f_l.length x_b_c1) 54 2 x_b.f_l.length (cells za x_b.f_l)] := hst; ze (o := 0) zdi (hO.blkSees (i := 0) rfl) rfl hf rfl | 1, _, _, _, hst, hf => have hO : Dk.Own w0 F w [.row (.slice (some ⟨σ, 0, none⟩) (([x_element] : List Str).length) 1) 9 1 (([x_element] : List Str).length) (cells zg ([x_element] : List Str)), .blk x_b_b0 [.slice x_b_p1 x_b.f_l.length x_b_c1] 107, .row (.slice x_b_p1 x_b.f_l.length x_b_c1) 54 2 x_b.f_l.length (cells za x_b.f_l)] := hst; ze (o := 0) zdi (hO.blkSees (i := 1) rfl) rfl hf rfl | 2, _, _, _, hst, hf => have hO : Dk.Own w0 F w [.row (.slice (some ⟨σ, 0, none⟩) (([x_element] : List Str).length) 1) 9 1 (([x_element] : List Str).length) (cells zg ([x_element] : List Str)), .blk x_b_b0 [.slice x_b_p1 x_b.f_l.length x_b_c1] 107, .row (.slice x_b_p1 x_b.f_l.length x_b_c1) 54 2 x_b.f_l.length (cells za x_b.f_l)] := hst; ze (o := 0) zdi (hO.blkSees (i := 1) rfl) rfl hf rfl | 3, _, _, _, hst, hf => have hO : Dk.Own w0 F w [.row (.slice (some ⟨σ, 0, none⟩) (([x_element] : List Str).length) 1) 9 1 (([x_element] : List Str).length) (cells zg ([x_element] : List Str)), .blk x_b_b0 [.slice x_b_p1 x_b.f_l.length x_b_c1] 107, .row (.slice x_b_p1 x_b.f_l.length x_b_c1) 54 2 x_b.f_l.length (cells za l23)] := hst; ze (o := 0) zdi (hO.blkSees (i := 1) rfl) rfl hf rfl | k + 4, hk, _, _, _, _ => absurd hk (by simp)), zc rfl (fun σ => rfl) (fun σ => rfl) (fun σ a w k _ _ _ _ hf => zl hf rfl), zc rfl (fun σ => rfl) (fun σ => rfl) (fun σ a w k _ _ _ _ hf => zk hix15 hf rfl rfl), zc rfl (fun σ => rfl) (fun σ => rfl) (fun σ a w k _ _ _ _ hf => zw zog hf rfl), zc rfl (fun σ => rfl) (fun σ => rfl) (fun σ a w k hk hlo hup hst hf => match k, hk, hlo, hup, hst, hf with | 0, _, _, _, hst, hf => have hO : Dk.Own w0 F w [.blk x_b_b0 [.slice x_b_p1 x_b.f_l.length x_b_c1] 107, .row (.slice x_b_p1 x_b.f_l.length x_b_c1) 54 2 x_b.f_l.length (cells za x_b.f_l)] := hst; ze (o := 1) z7 (hSx15 _ (hO.rowSees (i := 1) rfl)) rfl hf rfl | 1, _, _, _, hst, hf => have hO : Dk.Own w0 F w [.row (.slice (some ⟨σ, 0, none⟩) (([x_element] : List Str).length) 1) 9 1 (([x_element] : List Str).length) (cells zg ([x_element] : List Str)), .blk x_b_b0 [.slice x_b_p1 x_b.f_l.length x_b_c1] 107, .row (.slice x_b_p1 x_b.f_l.length x_b_c1) 54 2 x_b.f_l.length (cells za x_b.f_l)] := hst; ze (o := 1) z7 (hSx15 _ (hO.rowSees (i := 2) rfl)) rfl hf rfl | 2, _, _, _, hst, hf => have hO : Dk.Own w0 F w [.row (.slice (some ⟨σ, 0, none⟩) (([x_element] : List Str).length) 1) 9 1 (([x_element] : List Str).length) (cells zg ([x_element] : List Str)), .blk x_b_b0 [.slice x_b_p1 x_b.f_l.length x_b_c1] 107, .row (.slice x_b_p1 x_b.f_l.length x_b_c1) 54 2 x_b.f_l.length (cells za x_b.f_l)] := hst; ze (o := 1) z7 (hSx15 _ (hO.rowSees (i := 2) rfl)) rfl hf rfl | 3, _, _, hup, _, _ => absurd (hup 1 (by decide) (by kernel_rfl)) (by decide) | k + 4, hk, _, _, _, _ => absurd hk (by simp)), zc rfl (fun σ => rfl) (fun σ => rfl) (fun σ a w k _ _ _ _ hf => zl hf rfl), zfB rfl (fun σ => rfl) (fun σ => rfl) rfl (fun σ w (hO : Dk.Own w0 F w [.blk x_b_b0 [.slice x_b_p1 x_b.f_l.length x_b_c1] 107, .row (.slice x_b_p1 x_b.f_l.length x_b_c1) 54 2 x_b.f_l.length (cells za x_b.f_l)]) => by obtain ⟨b18, w', hO', hr⟩ := zbY (E := [(42, str x_element)]) (parts := #[(0, (.tmp 42))]) (t' := 42) (n := 1) (vs := [(0, str x_element)]) (cs := [str x_element]) (e := 9) (sz := 1) (fun w => by kernel_rfl) rfl rfl hO rfl; exact ⟨(b18), w', hO', ⟨.inr rfl, .inr rfl, .inr rfl, .inr rfl, .inr rfl, .inr rfl, .inr rfl, .inr rfl, .inr rfl, .inr rfl, .inr rfl, .inr rfl, .inr rfl, .inr rfl, .inl rfl, .inl rfl, .inr rfl, .inr rfl, .inr rfl, trivial⟩, hr⟩), zbg rfl (fun σ => rfl) (fun σ => rfl) rfl (fun σ a w (_ : _) hf => zh c_87 hf (vs := [str x15.Value, .slice (some ⟨σ, 0, none⟩) (([x_element] : List Str).length) 1]) rfl) (fun σ w (hO : Dk.Own w0 F w [.row (.slice (some ⟨σ, 0, none⟩) (([x_element] : List Str).length) 1) 9 1 (([x_element] : List Str).length) (cells zg ([x_element] : List Str)), .blk x_b_b0 [.slice x_b_p1 x_b.f_l.length x_b_c1] 107, .row (.slice x_b_p1 x_b.f_l.length x_b_c1) 54 2 x_b.f_l.length (cells za x_b.f_l)]) => (zoa x15.Value ([x_element] : List Str) r19 _ (hG.own hF hO) (hO.rowSees (i := 0) rfl) (hO.rowCap (i := 0) rfl) hr19).mono fun e w' h => by obtain ⟨he, hb⟩ := h; exact ⟨(σ), he, hO.grow hb, .inr rfl, .inr rfl, .inr rfl, .inr rfl, .inr rfl, .inr rfl, .inr rfl, .inr rfl, .inr rfl, .inr rfl, .inr rfl, .inr rfl, .inr rfl, .inr rfl, .inr rfl, .inr rfl, .inr rfl, .inr rfl, .inr rfl, trivial⟩), zc rfl (fun σ => rfl) (fun σ => rfl) (fun σ a w k _ _ _ _ hf => zk hix20 hf rfl rfl), zc rfl (fun σ => rfl) (fun σ => rfl) (fun σ a w k _ _ _ _ hf => zw zog hf rfl), zce rfl (fun σ => rfl) (fun σ => rfl) rfl (fun σ w (hO : Dk.Own w0 F w [.row (.slice (some ⟨σ, 0, none⟩) (([x_element] : List Str).length) 1) 9 1 (([x_element] : List Str).length) (cells zg ([x_element] : List Str)), .blk x_b_b0 [.slice x_b_p1 x_b.f_l.length x_b_c1] 107, .row (.slice x_b_p1 x_b.f_l.length x_b_c1) 54 2 x_b.f_l.length (cells za x_b.f_l)]) => by obtain ⟨w', hO', hr⟩ := zrU (x := (.tmp 46)) (y := (.tmp 44)) (E := [(44, str r19), (46, ptr b21 (o22 + 1))]) (enc := za) (i := 2) (rel := 1) (xs := x_b.f_l) (v := str r19) zfZ (fun _ => rfl) rfl hAx20 hx20 hl23 rfl (by decide) rfl rfl hO rfl rfl; exact ⟨(σ), w', hO', ⟨.inr rfl, .inr rfl, .inr rfl, .inr rfl, .inr rfl, .inr rfl, .inr rfl, .inr rfl, .inr rfl, .inr rfl, .inr rfl, .inr rfl, .inr rfl, .inr rfl, .inr rfl, .inr rfl, .inr rfl, .inr rfl, .inr rfl, trivial⟩, hr⟩), trivial⟩ ?_
 rintro b18 a w hf hO
 have hO : Dk.Own w0 F w [.row (.slice (some ⟨b18, 0, none⟩) (([x_element] : List Str).length) 1) 9 1 (([x_element] : List Str).length) (cells zg ([x_element] : List Str)), .blk x_b_b0 [.slice x_b_p1 x_b.f_l.length x_b_c1] 107, .row (.slice x_b_p1 x_b.f_l.length x_b_c1) 54 2 x_b.f_l.length (cells za l23)] := hO
 have hf : Fits 53 [] a := hf.nil
 have hf : Fits 53 [] a := by first | exact hf | (simp only [hlnl23]; exact hf)
 have hO : Dk.Own w0 F w [.row (.slice (some ⟨b18, 0, none⟩) (([x_element] : List Str).length) 1) 9 1 (([x_element] : List Str).length) (cells zg ([x_element] : List Str)), .blk x_b_b0 [.slice x_b_p1 l23.length x_b_c1] 107, .row (.slice x_b_p1 l23.length x_b_c1) 54 2 l23.length (cells za l23)] := by first | exact hO | (simp only [hlnl23]; exact hO)
 refine S.no tb ?_ hf hO hm
 refine re_ rfl fun a w hf hO hm => ?_
 obtain rfl := Option.some.inj hm
 exact zi Tryz.results46 hf .nil ⟨x_b_p1, x_b_c1, rfl, (hO.sub (.cons _ (.cons_cons _ (.cons_cons _ .slnil))))⟩
 refine bi rfl fun i26 hi26 => ?_
 exact en rfl fun _ _ j => ⟨_, Nat.lt_succ_self _, i26, j rfl⟩
 refine vl rfl rfl (fun a w hf hO => zB (vs := [(0, str x_name), (1, str x_element)]) (v := .agg #[str x_name, str x_element]) hf rfl (by kernel_rfl)) ?_
 refine rw_ rfl fun a w hf hO hm => ?_
 refine zm (vs := [(0, .agg #[str x_name, str x_element])]) (cs := [str x_name, str x_element]) (e := 54) (sz := 2) hf rfl rfl (fun w => by kernel_rfl) rfl rfl hO fun a b28 w hf hO => ?_
 refine S.op tb ?_ hf hO hm
 refine rw_ rfl fun a w hf hO hm => ?_
 obtain ⟨r29, hr29, hm⟩ := ob hm
 have hch32 := (show Dk.Own w0 F _ ([.blk x_b_b0 [.slice x_b_p1 x_b.f_l.length x_b_c1] 107, .row (.slice x_b_p1 x_b.f_l.length x_b_c1) 54 2 x_b.f_l.length (cells za x_b.f_l)] ++ [.row (.slice (some ⟨b28, 0, none⟩) (([(⟨x_name, x_element⟩ : api_Field)]).length) 1) 54 2 (([(⟨x_name, x_element⟩ : api_Field)]).length) (cells za ([(⟨x_name, x_element⟩ : api_Field)]))]) from hO.choose [1, 2, 0] rfl)
 have hfar32 := Dk.Own.far hch32 rfl hF hG.size
 have hlend32 := hch32.lend (S := [.shr (some ⟨b28, 0, none⟩) (cells za ([(⟨x_name, x_element⟩ : api_Field)]))]) rfl ⟨zkN (hO.rowSees (i := 0) rfl) (List.mem_of_getElem? (i := 0) rfl), trivial⟩
 have hcl32 := ziN x_b ([(⟨x_name, x_element⟩ : api_Field)]) r29 _ (hG.own hF hO) hfar32 hlend32 (hO.rowCap (i := 0) rfl) hr29
 refine zj (zh c_82 hf (vs := [ptr x_b_b0 0, .slice (some ⟨b28, 0, none⟩) (([(⟨x_name, x_element⟩ : api_Field)]).length) 1]) rfl) rfl hf rfl rfl (hcl32) ?_
 rintro e w' ⟨p30, c31, he, hO'⟩
 refine ⟨_, he, fun a hf => ?_⟩
 have hO := hch32.back rfl hO' rfl
 refine S.op tb ?_ hf hO hm
 refine rn_ rfl fun a w hf hO hm => ?_
 obtain rfl := Option.some.inj hm
 exact zhV Tryz.results46 hf .nil ⟨p30, c31, rfl, (hO.sub (.cons_cons _ (.cons_cons _ (.cons _ .slnil))))⟩

theorem zrn (x_v : api_Via) (x_l : List api_Field) (R : List api_Field × Int) (w0 : World) (hG : zaG w0) {x_l_p0 : Option Addr} {x_l_c0 : Nat} (hs0 : zy w0 x_l_p0 (cells za x_l)) (hc0 : x_l.length ≤ x_l_c0) (hm : zgO x_v x_l = some R) :
    Calls Tryz.prog 20 #[.agg #[str x_v.Proto, str x_v.Version, str x_v.By, str x_v.Comment], .slice x_l_p0 x_l.length x_l_c0] w0 fun e w' => ∃ (p0 : Option Addr) (c0 : Nat), e = .returned (.tuple #[.slice p0 R.1.length c0, int R.2]) ∧ Dk.Own w0 [] w' [.row (.slice p0 R.1.length c0) 54 2 R.1.length (cells za R.1)] := by
 rw [zgO] at hm
 have hF : zu [] := zf
 have hO : Dk.Own w0 [] w0 [] := Dk.Own.refl w0
 have hO := hO.addShr hs0 (by simp [Res.shared])
 refine S.enter tb Tryz.func20 rfl Tryz.ntmps20 rfl ?_ hO hm
 refine bo rfl fun b1 => ?_
 refine nl 54 2 ?_
 refine ld 1 rfl rfl ?_
 refine cl c_45 rfl (fun r3 w hr3 hO => ztC x_v r3 _ (hG.own hF hO) hr3) fun r3 hr3 => ?_
 refine br rfl (fun hc6 => ?_) fun hc6 => ?_
 refine nl 54 2 ?_
 refine re_ rfl fun a w hf hO hm => ?_
 obtain rfl := Option.some.inj hm
 exact zi Tryz.results20 hf (.tmp rfl (.tmp rfl .nil)) ⟨none, 0, rfl, (hO.sub (.cons_cons _ (.cons _ (.cons _ (.cons _ .slnil)))))⟩
 refine rw_ rfl fun a w hf hO hm => ?_
 obtain ⟨r9, hr9, hm⟩ := ob hm
 refine zj (zh zsz hf (vs := [.slice x_l_p0 x_l.length x_l_c0]) rfl) rfl hf rfl rfl (zfJ x_l r9 _ (hG.own hF hO).1 (hO.sees (i := 2) rfl) hc0 hr9) ?_
 rintro e w' ⟨b10, p11, c12, he, hO'⟩
 refine ⟨_, he, fun a hf => ?_⟩
 have hO := hO.call hO' (by simp [Res.shared])
 refine S.op tb ?_ hf hO hm
 refine rw_ rfl fun a w hf hO hm => ?_
 obtain ⟨r14, hr14, hm⟩ := ob hm
 have hch17 := (show Dk.Own w0 [] _ ([.blk b10 [.slice p11 r9.f_l.length c12] 107, .row (.slice p11 r9.f_l.length c12) 54 2 r9.f_l.length (cells za r9.f_l)] ++ [.row (.slice none 0 0) 54 2 0 (cells za []), .blk b1 [str x_v.Proto, str x_v.Version, str x_v.By, str x_v.Comment] 46, .shr x_l_p0 (cells za x_l)]) from hO)
 have hfar17 := Dk.Own.far hch17 rfl hF hG.size
 have hlend17 := hch17.lend (S := []) rfl trivial
 have hcl17 := zgX r9 [86, 105, 97] r3.1 r14 _ (hG.own hF hO).1 hfar17 hlend17 hr14
 refine zj (zh c_46 hf (vs := [ptr b10 0, str [86, 105, 97], str r3.1]) rfl) rfl hf rfl rfl (hcl17) ?_
 rintro e w' ⟨p15, c16, he, hO'⟩
 refine ⟨_, he, fun a hf => ?_⟩
 have hO := hch17.back rfl hO' rfl
 refine S.op tb ?_ hf hO hm
 refine rw_ rfl fun a w hf hO hm => ?_
 obtain ⟨r19, hr19, hm⟩ := ob hm
 refine zj (zh ztw hf (vs := [ptr b10 0]) rfl) rfl hf rfl rfl (zcL r14 r19 _ (hG.own hF hO).1 (hO.blkSees (i := 0) rfl) (hO.rowSees (i := 1) rfl) (hO.rowCap (i := 1) rfl) hr19) ?_
 rintro e w' ⟨p20, c21, he, hO'⟩
 refine ⟨_, he, fun a hf => ?_⟩
 have hO := hO.call hO' (by simp [Res.shared])
 refine S.op tb ?_ hf hO hm
 refine re_ rfl fun a w hf hO hm => ?_
 obtain rfl := Option.some.inj hm
 exact zi Tryz.results20 hf (.tmp rfl (.tmp rfl .nil)) ⟨p20, c21, rfl, (hO.sub (.cons_cons _ (.cons _ (.cons _ (.cons _ (.cons _ (.cons _ .slnil)))))))⟩

theorem znl (x_client : Str) (R : Str) (w0 : World) (hG : zaG w0) (hm : zez x_client = some R) :
    Calls Tryz.prog 91 #[str x_client] w0 (Ret w0 (fun R => str R) R) := by
 rw [zez] at hm
 have hF : zu [] := zf
 have hO : Dk.Own w0 [] w0 [] := Dk.Own.refl w0
 refine S.enter tb Tryz.func91 rfl Tryz.ntmps91 rfl ?_ hO hm
 refine cl c_92 rfl (fun r2 w hr2 hO => zcY x_client r2 _ (hG.own hF hO) hr2) fun r2 hr2 => ?_
 refine br rfl (fun hc4 => ?_) fun hc4 => ?_
 exact rt Tryz.results91 rfl
 refine cl c_71 rfl (fun r6 w hr6 hO => zf6 x_client r6 _ (hG.own hF hO) hr6) fun r6 hr6 => ?_
 refine br rfl (fun hc8 => ?_) fun hc8 => ?_
 refine bi rfl fun s9 hs9 => ?_
 refine bi rfl fun s10 hs10 => ?_
 exact rt Tryz.results91 rfl
 exact rt Tryz.results91 rfl

theorem znm (x_env : api_Env) (R : List api_Param) (w0 : World) (hG : zaG w0) {x_env_p0 : Option Addr} {x_env_c0 : Nat} (hs0 : zy w0 x_env_p0 (cells zb x_env.Domains)) (hc0 : x_env.Domains.length ≤ x_env_c0) {x_env_p1 : Option Addr} {x_env_c1 : Nat} (hs1 : zy w0 x_env_p1 (cells zb x_env.Locations)) (hc1 : x_env.Locations.length ≤ x_env_c1) (hm : zeA x_env = some R) :
    Calls Tryz.prog 49 #[.agg #[str x_env.Client, str x_env.Host, str x_env.Scheme, str x_env.By, .slice x_env_p0 x_env.Domains.length x_env_c0, .slice x_env_p1 x_env.Locations.length x_env_c1]] w0 fun e w' => ∃ (p0 : Option Addr) (c0 : Nat), e = .returned (.slice p0 R.length c0) ∧ Dk.Own w0 [] w' [.row (.slice p0 R.length c0) 112 2 R.length (cells zx R)] := by
 rw [zeA] at hm
 have hF : zu [] := zf
 have hO : Dk.Own w0 [] w0 [] := Dk.Own.refl w0
 have hO := hO.addShr hs0 (by simp [Res.shared])
 have hO := hO.addShr hs1 (by simp [Res.shared])
 refine S.enter tb Tryz.func49 rfl Tryz.ntmps49 rfl ?_ hO hm
 refine bo rfl fun b1 => ?_
 refine nl 112 2 ?_
 refine ld 1 rfl rfl ?_
 refine cl c_91 rfl (fun r3 w hr3 hO => znl x_env.Client r3 _ (hG.own hF hO) hr3) fun r3 hr3 => ?_
 refine vl rfl rfl (fun a w hf hO => zB (vs := [(0, str [102, 111, 114]), (1, str r3)]) (v := .agg #[str [102, 111, 114], str r3]) hf rfl (by kernel_rfl)) ?_
 refine rw_ rfl fun a w hf hO hm => ?_
 refine zm (vs := [(0, .agg #[str [102, 111, 114], str r3])]) (cs := [str [102, 111, 114], str r3]) (e := 112) (sz := 2) hf rfl rfl (fun w => by kernel_rfl) rfl rfl hO fun a b4 w hf hO => ?_
 refine S.op tb ?_ hf hO hm
 refine jv 0 [1] [1, 2, 3, 4] (fun J E L => ∃ (p12 : Option Addr) (c13 : Nat) (l14 : List api_Param), J ((3, .slice p12 l14.length c13) :: E) (.row (.slice p12 l14.length c13) 112 2 l14.length (cells zx l14) :: L) (zdf x_env l14)) rfl ?_ ?_
 refine ld 2 rfl rfl ?_
 refine br rfl (fun hc7 => ?_) fun hc7 => ?_
 refine ld 2 rfl rfl ?_
 refine vl rfl rfl (fun a w hf hO => zB (vs := [(0, str [104, 111, 115, 116]), (1, str x_env.Host)]) (v := .agg #[str [104, 111, 115, 116], str x_env.Host]) hf rfl (by kernel_rfl)) ?_
 refine rw_ rfl fun a w hf hO hm => ?_
 refine zm (vs := [(0, .agg #[str [104, 111, 115, 116], str x_env.Host])]) (cs := [str [104, 111, 115, 116], str x_env.Host]) (e := 112) (sz := 2) hf rfl rfl (fun w => by kernel_rfl) rfl rfl hO fun a b8 w hf hO => ?_
 refine S.op tb ?_ hf hO hm
 refine rw_ rfl fun a w hf hO hm => ?_
 obtain ⟨hg11, hm⟩ := og hm
 refine zae zwa (enc := zx) (xs := [(⟨[102, 111, 114], r3⟩ : api_Param)]) (ys := [(⟨[104, 111, 115, 116], x_env.Host⟩ : api_Param)]) (i := 1) (fun _ => rfl) rfl (hO.rowSees (i := 0) rfl) (by simp [cells, zx, Value.oneCell']) hg11 hf rfl rfl rfl hO fun a p9 c10 w hf hO => ?_
 refine S.op tb ?_ hf hO hm
 exact ec [1, 2, 3, 4, 5] rfl rfl rfl fun _ _ j => ⟨p9, c10, ([(⟨[102, 111, 114], r3⟩ : api_Param)]) ++ [(⟨[104, 111, 115, 116], x_env.Host⟩ : api_Param)], j rfl⟩
 exact en rfl fun _ _ j => ⟨some ⟨b4, 0, none⟩, 1, [(⟨[102, 111, 114], r3⟩ : api_Param)], j rfl⟩
 rintro a w ⟨p12, c13, l14, hf, hO, hm⟩
 rw [zdf] at hm
 refine S.co tb ?_ hf hO hm
 refine jv 0 [] [1, 2, 3, 4] (fun J E L => ∃ (p21 : Option Addr) (c22 : Nat) (l23 : List api_Param), J ((3, .slice p21 l23.length c22) :: E) (.row (.slice p21 l23.length c22) 112 2 l23.length (cells zx l23) :: L) (zde l23)) rfl ?_ ?_
 refine ld 2 rfl rfl ?_
 refine br rfl (fun hc16 => ?_) fun hc16 => ?_
 refine ld 2 rfl rfl ?_
 refine vl rfl rfl (fun a w hf hO => zB (vs := [(0, str [112, 114, 111, 116, 111]), (1, str x_env.Scheme)]) (v := .agg #[str [112, 114, 111, 116, 111], str x_env.Scheme]) hf rfl (by kernel_rfl)) ?_
 refine rw_ rfl fun a w hf hO hm => ?_
 refine zm (vs := [(0, .agg #[str [112, 114, 111, 116, 111], str x_env.Scheme])]) (cs := [str [112, 114, 111, 116, 111], str x_env.Scheme]) (e := 112) (sz := 2) hf rfl rfl (fun w => by kernel_rfl) rfl rfl hO fun a b17 w hf hO => ?_
 refine S.op tb ?_ hf hO hm
 refine rw_ rfl fun a w hf hO hm => ?_
 obtain ⟨hg20, hm⟩ := og hm
 refine zae zwa (enc := zx) (xs := l14) (ys := [(⟨[112, 114, 111, 116, 111], x_env.Scheme⟩ : api_Param)]) (i := 1) (fun _ => rfl) rfl (hO.rowSees (i := 0) rfl) (by simp [cells, zx, Value.oneCell']) hg20 hf rfl rfl rfl hO fun a p18 c19 w hf hO => ?_
 refine S.op tb ?_ hf hO hm
 exact ec [1, 2, 3, 4, 5] rfl rfl rfl fun _ _ j => ⟨p18, c19, l14 ++ [(⟨[112, 114, 111, 116, 111], x_env.Scheme⟩ : api_Param)], j rfl⟩
 exact en rfl fun _ _ j => ⟨p12, c13, l14, j rfl⟩
 rintro a w ⟨p21, c22, l23, hf, hO, hm⟩
 rw [zde] at hm
 refine S.co tb ?_ hf hO hm
 refine re_ rfl fun a w hf hO hm => ?_
 obtain rfl := Option.some.inj hm
 exact zi Tryz.results49 hf (.tmp rfl .nil) ⟨p21, c22, rfl, (hO.sub (.cons_cons _ (.cons _ (.cons _ (.cons _ (.cons _ .slnil))))))⟩

theorem zpn (x_s : Str) (R : Str × Int) (w0 : World) (hG : zt w0) (hm : zgs x_s = some R) :
    Calls Tryz.prog 148 #[str x_s] w0 (Ret w0 (fun R => .tuple #[str R.1, int R.2]) R) := by
 rw [zgs] at hm
 have hF : zu [] := zf
 have hO : Dk.Own w0 [] w0 [] := Dk.Own.refl w0
 refine S.enter tb Tryz.func148 rfl Tryz.ntmps148 rfl ?_ hO hm
 refine rw_ rfl fun a w hf hO hm => ?_
 refine zm (vs := [(0, str x_s)]) (cs := [str x_s]) (e := 9) (sz := 1) hf rfl rfl (fun w => by kernel_rfl) rfl rfl hO fun a b2 w hf hO => ?_
 refine S.op tb ?_ hf hO hm
 refine cl zjW rfl (fun r3 w hr3 hO => zbI zaP ([x_s] : List Str) r3 _ (hG.own hF hO) zsE (fun y0 r w hG h => ze5 (zd9 y0 r w hG h)) (hO.rowSees (i := 0) rfl) (hO.rowCap (i := 0) rfl) hr3) fun r3 hr3 => ?_
 refine br rfl (fun hc5 => ?_) fun hc5 => ?_
 exact rt Tryz.results148 rfl
 refine rw_ rfl fun a w hf hO hm => ?_
 refine zm (vs := [(0, zak 34)]) (cs := [zak 34]) (e := 5) (sz := 1) hf rfl rfl (fun w => by kernel_rfl) rfl rfl hO fun a b8 w hf hO => ?_
 refine S.op tb ?_ hf hO hm
 refine lv [0, 12] [1] (fun J E L k => ∃ (p11 : Option Addr) (c12 : Nat) (l13 : List UInt8) (i14 : Int), J ((4, .slice p11 l13.length c12) :: (13, int i14) :: E) (.row (.slice p11 l13.length c12) 5 1 l13.length (cells zaO l13) :: L) (zah x_s k l13 i14)) rfl (fun _ _ j => ⟨some ⟨b8, 0, none⟩, 1, [34], 0, j rfl⟩) ?_
 rintro n1 a w ⟨p11, c12, l13, i14, hf, hO, hm⟩
 obtain _ | n1 := n1
 rw [zah] at hm
 cases hm
 rw [zah] at hm
 refine S.co tb ?_ hf hO hm
 refine br rfl (fun hc16 => ?_) fun hc16 => ?_
 refine jv 5 [0, 5, 12, 13] [1] (fun J E L => ∃ (p28 : Option Addr) (c29 : Nat) (l30 : List UInt8), J ((4, .slice p28 l30.length c29) :: E) (.row (.slice p28 l30.length c29) 5 1 l30.length (cells zaO l30) :: L) (zc2 (zah x_s n1) x_s i14 l30)) rfl ?_ ?_
 refine jv 6 [0, 4, 5, 12, 13] [0, 1] (fun J E L => ∃ (t22 : Bool), J ((25, .bool t22) :: E) (L) (zc3 (zah x_s n1) x_s l13 i14 t22)) rfl ?_ ?_
 refine bi rfl fun b19 hb19 => ?_
 refine vl rfl rfl (fun a w hf hO => zaL (b := b19) (c := 34) hf rfl rfl) ?_
 refine br rfl (fun hc20 => ?_) fun hc20 => ?_
 exact en rfl fun _ _ j => ⟨true, j rfl⟩
 refine bi rfl fun b21 hb21 => ?_
 refine vl rfl rfl (fun a w hf hO => zaL (b := b21) (c := 92) hf rfl rfl) ?_
 exact en rfl fun _ _ j => ⟨b21 == 92, j rfl⟩
 rintro a w ⟨t22, hf, hO, hm⟩
 rw [zc3] at hm
 refine S.co tb ?_ hf hO hm
 refine br rfl (fun hc23 => ?_) fun hc23 => ?_
 refine rw_ rfl fun a w hf hO hm => ?_
 refine zm (vs := [(0, zak 92)]) (cs := [zak 92]) (e := 5) (sz := 1) hf rfl rfl (fun w => by kernel_rfl) rfl rfl hO fun a b24 w hf hO => ?_
 refine S.op tb ?_ hf hO hm
 refine rw_ rfl fun a w hf hO hm => ?_
 obtain ⟨hg27, hm⟩ := og hm
 refine zae zre (enc := zaO) (xs := l13) (ys := [92]) (i := 1) (fun _ => rfl) rfl (hO.rowSees (i := 0) rfl) (by simp [cells, zaO, Value.oneCell']) hg27 hf rfl rfl rfl hO fun a p25 c26 w hf hO => ?_
 refine S.op tb ?_ hf hO hm
 exact ec [1, 2] rfl rfl rfl fun _ _ j => ⟨p25, c26, l13 ++ [92], j rfl⟩
 exact en rfl fun _ _ j => ⟨p11, c12, l13, j rfl⟩
 rintro a w ⟨p28, c29, l30, hf, hO, hm⟩
 rw [zc2] at hm
 refine S.co tb ?_ hf hO hm
 refine bi rfl fun b31 hb31 => ?_
 refine rw_ rfl fun a w hf hO hm => ?_
 refine zm (vs := [(0, zak b31)]) (cs := [zak b31]) (e := 5) (sz := 1) hf rfl rfl (fun w => by kernel_rfl) rfl rfl hO fun a b32 w hf hO => ?_
 refine S.op tb ?_ hf hO hm
 refine rw_ rfl fun a w hf hO hm => ?_
 obtain ⟨hg35, hm⟩ := og hm
 refine zae zre (enc := zaO) (xs := l30) (ys := [b31]) (i := 1) (fun _ => rfl) rfl (hO.rowSees (i := 0) rfl) (by simp [cells, zaO, Value.oneCell']) hg35 hf rfl rfl rfl hO fun a p33 c34 w hf hO => ?_
 refine S.op tb ?_ hf hO hm
 refine bi rfl fun i37 hi37 => ?_
 exact ec [1, 2] rfl rfl rfl fun _ _ j => ⟨_, Nat.lt_succ_self _, p33, c34, l30 ++ [b31], i37, j rfl⟩
 refine rw_ rfl fun a w hf hO hm => ?_
 refine zm (vs := [(0, zak 34)]) (cs := [zak 34]) (e := 5) (sz := 1) hf rfl rfl (fun w => by kernel_rfl) rfl rfl hO fun a b39 w hf hO => ?_
 refine S.op tb ?_ hf hO hm
 refine rw_ rfl fun a w hf hO hm => ?_
 obtain ⟨hg42, hm⟩ := og hm
 refine zae zre (enc := zaO) (xs := l13) (ys := [34]) (i := 1) (fun _ => rfl) rfl (hO.rowSees (i := 0) rfl) (by simp [cells, zaO, Value.oneCell']) hg42 hf rfl rfl rfl hO fun a p40 c41 w hf hO => ?_
 refine S.op tb ?_ hf hO hm
 refine vl rfl rfl (fun a w hf hO => zoG (en := zaO) (l := l13 ++ [34]) (fun _ => rfl) Tryz.underlying9 Tryz.underlying178 Tryz.underlying5 (hO.rowSees (i := 1) rfl) hf rfl) ?_
 exact rt Tryz.results148 rfl

theorem zob (x_s : Str) (R : Str × Int) (w0 : World) (hG : zt w0) (hm : zff x_s = some R) :
    Calls Tryz.prog 89 #[str x_s] w0 (Ret w0 (fun R => .tuple #[str R.1, int R.2]) R) := by
 rw [zff] at hm
 have hF : zu [] := zf
 have hO : Dk.Own w0 [] w0 [] := Dk.Own.refl w0
 refine S.enter tb Tryz.func89 rfl Tryz.ntmps89 rfl ?_ hO hm
 refine cl c_90 rfl (fun r2 w hr2 hO => zg7 x_s r2 _ (hG.own hF hO) hr2) fun r2 hr2 => ?_
 refine br rfl (fun hc4 => ?_) fun hc4 => ?_
 exact rt Tryz.results89 rfl
 refine cl c_148 rfl (fun r7 w hr7 hO => zpn x_s r7 _ (hG.own hF hO) hr7) fun r7 hr7 => ?_
 exact rt Tryz.results89 rfl

theorem zp5 (x_l : List api_Param) (R : Str × Int) (w0 : World) (hG : zt w0) {x_l_p0 : Option Addr} {x_l_c0 : Nat} (hs0 : zy w0 x_l_p0 (cells zx x_l)) (hc0 : x_l.length ≤ x_l_c0) (hm : zix x_l = some R) :
    Calls Tryz.prog 48 #[.slice x_l_p0 x_l.length x_l_c0] w0 (Ret w0 (fun R => .tuple #[str R.1, int R.2]) R) := by
 rw [zix] at hm
 have hF : zu [] := zf
 have hO : Dk.Own w0 [] w0 [] := Dk.Own.refl w0
 have hO := hO.addShr hs0 (by simp [Res.shared])
 refine S.enter tb Tryz.func48 rfl Tryz.ntmps48 rfl ?_ hO hm
 refine nl 9 1 ?_
 refine lv [9, 10] [1] (fun J E L k => ∃ (p4 : Option Addr) (c5 : Nat) (l6 : List Str) (i7 : Int), J ((4, .slice p4 l6.length c5) :: (11, int i7) :: E) (.row (.slice p4 l6.length c5) 9 1 l6.length (cells zg l6) :: L) (zbu x_l k l6 i7)) rfl (fun _ _ j => ⟨none, 0, [], 0, j rfl⟩) ?_
 rintro n1 a w ⟨p4, c5, l6, i7, hf, hO, hm⟩
 obtain _ | n1 := n1
 rw [zbu] at hm
 cases hm
 rw [zbu] at hm
 refine S.co tb ?_ hf hO hm
 refine br rfl (fun hc9 => ?_) fun hc9 => ?_
 refine rw_ rfl fun a w hf hO hm => ?_
 obtain ⟨x11, hx11, hm⟩ := ob hm
 obtain ⟨b12, o13, hix11, hSx11⟩ := zaK (enc := zx) (sz := 2) (xs := x_l) 73 Tryz.underlying73 ziW (by decide) (fun _ => rfl) (hO.sees (i := 1) rfl) hx11
 refine zS (zk hix11 hf rfl rfl) rfl hf rfl rfl fun a hf => ?_
 refine S.op tb ?_ hf hO hm
 refine vl rfl rfl (fun a w hf hO => zo (o := 0) (vs := [str x11.Name, str x11.Value]) zni ziW (hSx11 _ (hO.sees (i := 1) rfl)) rfl rfl hf rfl) ?_
 refine al zpc rfl fun b14 => ?_
 refine st 0 rfl rfl ?_
 refine ld 0 rfl rfl ?_
 refine cl c_89 rfl (fun r16 w hr16 hO => zob x11.Value r16 _ (hG.own hF hO) hr16) fun r16 hr16 => ?_
 refine jv 6 [4, 6, 7, 9, 10, 11] [0, 1, 2] (fun J E L => ∃ (t20 : Bool), J ((28, .bool t20) :: E) (L) (zeB (zbu x_l n1) l6 i7 x11 r16 t20)) rfl ?_ ?_
 refine br rfl (fun hc18 => ?_) fun hc18 => ?_
 exact en rfl fun _ _ j => ⟨true, j rfl⟩
 refine ld 0 rfl rfl ?_
 refine cl c_90 rfl (fun r19 w hr19 hO => zg7 x11.Name r19 _ (hG.own hF hO) hr19) fun r19 hr19 => ?_
 exact en rfl fun _ _ j => ⟨!r19, j rfl⟩
 rintro a w ⟨t20, hf, hO, hm⟩
 rw [zeB] at hm
 refine S.co tb ?_ hf hO hm
 refine br rfl (fun hc21 => ?_) fun hc21 => ?_
 exact rt Tryz.results48 rfl
 refine ld 0 rfl rfl ?_
 refine bi rfl fun s24 hs24 => ?_
 refine bi rfl fun s25 hs25 => ?_
 refine rw_ rfl fun a w hf hO hm => ?_
 refine zm (vs := [(0, str s25)]) (cs := [str s25]) (e := 9) (sz := 1) hf rfl rfl (fun w => by kernel_rfl) rfl rfl hO fun a b26 w hf hO => ?_
 refine S.op tb ?_ hf hO hm
 refine rw_ rfl fun a w hf hO hm => ?_
 obtain ⟨hg29, hm⟩ := og hm
 refine zae ziE (enc := zg) (xs := l6) (ys := ([s25] : List Str)) (i := 2) (fun _ => rfl) rfl (hO.rowSees (i := 0) rfl) (by simp [cells, zg, Value.oneCell']) hg29 hf rfl rfl rfl hO fun a p27 c28 w hf hO => ?_
 refine S.op tb ?_ hf hO hm
 refine bi rfl fun i31 hi31 => ?_
 exact ec [2, 3] rfl rfl rfl fun _ _ j => ⟨_, Nat.lt_succ_self _, p27, c28, l6 ++ ([s25] : List Str), i31, j rfl⟩
 refine br rfl (fun hc34 => ?_) fun hc34 => ?_
 exact rt Tryz.results48 rfl
 refine cl c_86 rfl (fun r37 w hr37 hO => zgb [59] l6 r37 _ (hG.own hF hO) (hO.rowSees (i := 0) rfl) (hO.rowCap (i := 0) rfl) hr37) fun r37 hr37 => ?_
 exact rt Tryz.results48 rfl

theorem zlT (x_env : api_Env) (x_l : List api_Field) (R : List api_Field × Int) (w0 : World) (hG : zaG w0) {x_env_p0 : Option Addr} {x_env_c0 : Nat} (hs0 : zy w0 x_env_p0 (cells zb x_env.Domains)) (hc0 : x_env.Domains.length ≤ x_env_c0) {x_env_p1 : Option Addr} {x_env_c1 : Nat} (hs1 : zy w0 x_env_p1 (cells zb x_env.Locations)) (hc1 : x_env.Locations.length ≤ x_env_c1) {x_l_p2 : Option Addr} {x_l_c2 : Nat} (hs2 : zy w0 x_l_p2 (cells za x_l)) (hc2 : x_l.length ≤ x_l_c2) (hm : zcJ x_env x_l = some R) :
    Calls Tryz.prog 22 #[.agg #[str x_env.Client, str x_env.Host, str x_env.Scheme, str x_env.By, .slice x_env_p0 x_env.Domains.length x_env_c0, .slice x_env_p1 x_env.Locations.length x_env_c1], .slice x_l_p2 x_l.length x_l_c2] w0 fun e w' => ∃ (p0 : Option Addr) (c0 : Nat), e = .returned (.tuple #[.slice p0 R.1.length c0, int R.2]) ∧ Dk.Own w0 [] w' [.row (.slice p0 R.1.length c0) 54 2 R.1.length (cells za R.1)] := by
 rw [zcJ] at hm
 have hF : zu [] := zf
 have hO : Dk.Own w0 [] w0 [] := Dk.Own.refl w0
 have hO := hO.addShr hs0 (by simp [Res.shared])
 have hO := hO.addShr hs1 (by simp [Res.shared])
 have hO := hO.addShr hs2 (by simp [Res.shared])
 refine S.enter tb Tryz.func22 rfl Tryz.ntmps22 rfl ?_ hO hm
 refine bo rfl fun b1 => ?_
 refine nl 54 2 ?_
 refine ld 1 rfl rfl ?_
 refine rw_ rfl fun a w hf hO hm => ?_
 obtain ⟨r3, hr3, hm⟩ := ob hm
 refine zj (zh c_49 hf (vs := [.agg #[str x_env.Client, str x_env.Host, str x_env.Scheme, str x_env.By, .slice x_env_p0 x_env.Domains.length x_env_c0, .slice x_env_p1 x_env.Locations.length x_env_c1]]) rfl) rfl hf rfl rfl (znm x_env r3 _ (hG.own hF hO) (hO.sees (i := 4) rfl) hc0 (hO.sees (i := 3) rfl) hc1 hr3) ?_
 rintro e w' ⟨p4, c5, he, hO'⟩
 refine ⟨_, he, fun a hf => ?_⟩
 have hO := hO.call hO' (by simp [Res.shared])
 refine S.op tb ?_ hf hO hm
 refine cl c_48 rfl (fun r6 w hr6 hO => zp5 r3 r6 _ (hG.own hF hO).1 (hO.rowSees (i := 0) rfl) (hO.rowCap (i := 0) rfl) hr6) fun r6 hr6 => ?_
 refine br rfl (fun hc9 => ?_) fun hc9 => ?_
 refine nl 54 2 ?_
 refine re_ rfl fun a w hf hO hm => ?_
 obtain rfl := Option.some.inj hm
 exact zi Tryz.results22 hf (.tmp rfl (.tmp rfl .nil)) ⟨none, 0, rfl, (hO.sub (.cons_cons _ (.cons _ (.cons _ (.cons _ (.cons _ (.cons _ (.cons _ .slnil))))))))⟩
 refine rw_ rfl fun a w hf hO hm => ?_
 obtain ⟨r12, hr12, hm⟩ := ob hm
 refine zj (zh zsz hf (vs := [.slice x_l_p2 x_l.length x_l_c2]) rfl) rfl hf rfl rfl (zfJ x_l r12 _ (hG.own hF hO).1 (hO.sees (i := 3) rfl) hc2 hr12) ?_
 rintro e w' ⟨b13, p14, c15, he, hO'⟩
 refine ⟨_, he, fun a hf => ?_⟩
 have hO := hO.call hO' (by simp [Res.shared])
 refine S.op tb ?_ hf hO hm
 refine rw_ rfl fun a w hf hO hm => ?_
 obtain ⟨r17, hr17, hm⟩ := ob hm
 have hch20 := (show Dk.Own w0 [] _ ([.blk b13 [.slice p14 r12.f_l.length c15] 107, .row (.slice p14 r12.f_l.length c15) 54 2 r12.f_l.length (cells za r12.f_l)] ++ [.row (.slice p4 r3.length c5) 112 2 r3.length (cells zx r3), .row (.slice none 0 0) 54 2 0 (cells za []), .blk b1 [str x_env.Client, str x_env.Host, str x_env.Scheme, str x_env.By, .slice x_env_p0 x_env.Domains.length x_env_c0, .slice x_env_p1 x_env.Locations.length x_env_c1] 24, .shr x_l_p2 (cells za x_l), .shr x_env_p1 (cells zb x_env.Locations), .shr x_env_p0 (cells zb x_env.Domains)]) from hO)
 have hfar20 := Dk.Own.far hch20 rfl hF hG.size
 have hlend20 := hch20.lend (S := []) rfl trivial
 have hcl20 := zgX r12 [70, 111, 114, 119, 97, 114, 100, 101, 100] r6.1 r17 _ (hG.own hF hO).1 hfar20 hlend20 hr17
 refine zj (zh c_46 hf (vs := [ptr b13 0, str [70, 111, 114, 119, 97, 114, 100, 101, 100], str r6.1]) rfl) rfl hf rfl rfl (hcl20) ?_
 rintro e w' ⟨p18, c19, he, hO'⟩
 refine ⟨_, he, fun a hf => ?_⟩
 have hO := hch20.back rfl hO' rfl
 refine S.op tb ?_ hf hO hm
 refine rw_ rfl fun a w hf hO hm => ?_
 obtain ⟨r22, hr22, hm⟩ := ob hm
 refine zj (zh ztw hf (vs := [ptr b13 0]) rfl) rfl hf rfl rfl (zcL r17 r22 _ (hG.own hF hO).1 (hO.blkSees (i := 0) rfl) (hO.rowSees (i := 1) rfl) (hO.rowCap (i := 1) rfl) hr22) ?_
 rintro e w' ⟨p23, c24, he, hO'⟩
 refine ⟨_, he, fun a hf => ?_⟩
 have hO := hO.call hO' (by simp [Res.shared])
 refine S.op tb ?_ hf hO hm
 refine re_ rfl fun a w hf hO hm => ?_
 obtain rfl := Option.some.inj hm
 exact zi Tryz.results22 hf (.tmp rfl (.tmp rfl .nil)) ⟨p23, c24, rfl, (hO.sub (.cons_cons _ (.cons _ (.cons _ (.cons _ (.cons _ (.cons _ (.cons _ (.cons _ (.cons _ .slnil))))))))))⟩

theorem zpo (x_s : Str) (R : Bool) (w0 : World) (hG : zaG w0) (hm : zjd x_s = some R) :
    Calls Tryz.prog 50 #[str x_s] w0 (Ret w0 (fun R => .bool R) R) := by
 rw [zjd] at hm
 have hF : zu [] := zf
 have hO : Dk.Own w0 [] w0 [] := Dk.Own.refl w0
 refine S.enter tb Tryz.func50 rfl Tryz.ntmps50 rfl ?_ hO hm
 refine jv 0 [] [] (fun J E L => ∃ (t5 : Bool), J ((2, .bool t5) :: E) (L) (zhi t5)) rfl ?_ ?_
 refine cl c_92 rfl (fun r2 w hr2 hO => zcY x_s r2 _ (hG.own hF hO) hr2) fun r2 hr2 => ?_
 refine br rfl (fun hc3 => ?_) fun hc3 => ?_
 exact en rfl fun _ _ j => ⟨true, j rfl⟩
 refine cl c_71 rfl (fun r4 w hr4 hO => zf6 x_s r4 _ (hG.own hF hO) hr4) fun r4 hr4 => ?_
 exact en rfl fun _ _ j => ⟨r4, j rfl⟩
 rintro a w ⟨t5, hf, hO, hm⟩
 rw [zhi] at hm
 refine S.co tb ?_ hf hO hm
 exact rt Tryz.results50 rfl

end Go.Proofs
end
