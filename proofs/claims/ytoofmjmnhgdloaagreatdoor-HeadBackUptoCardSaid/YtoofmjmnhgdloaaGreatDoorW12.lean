/-
  Walks, written by a program (wip/gen): what its model says, the function returns; what was there before is as it was.
-/
import Derived.Test.YtoofmjmnhgdloaaGreatDoorLib
import Derived.Test.YtoofmjmnhgdloaaGreatDoorW8
import Derived.Test.YtoofmjmnhgdloaaGreatDoorW11
set_option linter.unusedVariables false
set_option maxHeartbeats 1000000
set_option linter.unusedSimpArgs false
set_option maxRecDepth 100000
namespace Go.Proofs
open Go.Dk Go.Dm Go.RowKit

theorem zgo (x_s : Str) (R : Str) (w0 : World) (hG : zw w0) (hm : zel x_s = some R) :
    Calls Tryz.prog 37 #[str x_s] w0 (Ret w0 (fun R => str R) R) := by
 rw [zel] at hm
 have hF : zA [] := ze
 have hO : Dk.Own w0 [] w0 [] := Dk.Own.refl w0
 refine S.enter tb Tryz.func37 rfl Tryz.ntmps37 rfl ?_ hO hm
 refine vl rfl rfl (fun a w hf hO => ex_min (m := (x_s.length : Int)) (n := 400) hf rfl rfl) ?_
 refine bi rfl fun s2 hs2 => ?_
 exact rt Tryz.results37 rfl

theorem zp9 (x_h : api_Head) (R : api_Head) (w0 : World) (hG : zw w0) {x_h_p0 : Option Addr} {x_h_c0 : Nat} (hs0 : zam w0 x_h_p0 (cells za x_h.Fields)) (hc0 : x_h.Fields.length ≤ x_h_c0) (hm : zh4 x_h = some R) :
    Calls Tryz.prog 20 #[.agg #[int x_h.Kind, str x_h.Method, str x_h.Target, int x_h.Code, str x_h.Reason, int x_h.Minor, .slice x_h_p0 x_h.Fields.length x_h_c0]] w0 fun e w' => ∃ (p0 : Option Addr) (c0 : Nat), e = .returned (.agg #[int R.Kind, str R.Method, str R.Target, int R.Code, str R.Reason, int R.Minor, .slice p0 R.Fields.length c0]) ∧ Dk.Own w0 [] w' [.row (.slice p0 R.Fields.length c0) 69 2 R.Fields.length (cells za R.Fields)] := by
 rw [zh4] at hm
 have hF : zA [] := ze
 have hO : Dk.Own w0 [] w0 [] := Dk.Own.refl w0
 have hO := hO.addShr hs0 (by simp [Res.shared])
 refine S.enter tb Tryz.func20 rfl Tryz.ntmps20 rfl ?_ hO hm
 refine rw_ rfl fun a w hf hO hm => ?_
 refine zbd (v := .agg #[int x_h.Kind, str x_h.Method, str x_h.Target, int x_h.Code, str x_h.Reason, int x_h.Minor, .slice x_h_p0 x_h.Fields.length x_h_c0]) (cs := [int x_h.Kind, str x_h.Method, str x_h.Target, int x_h.Code, str x_h.Reason, int x_h.Minor, .slice x_h_p0 x_h.Fields.length x_h_c0]) rfl hf rfl rfl hO fun a b1 w hf hO => ?_
 refine S.op tb ?_ hf hO hm
 refine rw_ rfl fun a w hf hO hm => ?_
 refine zv zia hf rfl hO fun a b2 w hf hO => ?_
 have hO := hO.nilRow 69 2
 refine S.op tb ?_ hf hO hm
 refine vl rfl rfl (fun a w hf hO => zb (o := 1) zC (hO.blkSees (i := 2) rfl) rfl hf rfl) ?_
 refine cl c_37 rfl (fun r4 w hr4 hO => zgo x_h.Method r4 _ (hG.own hF hO) hr4) fun r4 hr4 => ?_
 refine rw_ rfl fun a w hf hO hm => ?_
 refine zP (i := 2) (o := 1) (v := str r4) zdd rfl rfl rfl rfl hf rfl rfl hO fun w hO => ?_
 refine S.op tb ?_ hf hO hm
 refine vl rfl rfl (fun a w hf hO => zb (o := 2) zC (hO.blkSees (i := 2) rfl) rfl hf rfl) ?_
 refine cl c_37 rfl (fun r6 w hr6 hO => zgo x_h.Target r6 _ (hG.own hF hO) hr6) fun r6 hr6 => ?_
 refine rw_ rfl fun a w hf hO hm => ?_
 refine zP (i := 2) (o := 2) (v := str r6) zdd rfl rfl rfl rfl hf rfl rfl hO fun w hO => ?_
 refine S.op tb ?_ hf hO hm
 refine vl rfl rfl (fun a w hf hO => zb (o := 4) zC (hO.blkSees (i := 2) rfl) rfl hf rfl) ?_
 refine cl c_37 rfl (fun r8 w hr8 hO => zgo x_h.Reason r8 _ (hG.own hF hO) hr8) fun r8 hr8 => ?_
 refine rw_ rfl fun a w hf hO hm => ?_
 refine zP (i := 2) (o := 4) (v := str r8) zdd rfl rfl rfl rfl hf rfl rfl hO fun w hO => ?_
 refine S.op tb ?_ hf hO hm
 refine nl 69 2 ?_
 refine lp (fun k a w => ∃ (p12 : Option Addr) (c13 : Nat) (l14 : List api_Field) (i15 : Int), Fits 49 [(1, ptr b1 0), (2, ptr b2 0), (3, .slice p12 l14.length c13), (4, int i15)] a ∧ Dk.Own w0 [] w [.row (.slice p12 l14.length c13) 69 2 l14.length (cells za l14), .row (.slice none 0 0) 69 2 0 (cells za []), .blk b2 [int 0, str [], str [], int 0, str [], int 0, .slice none 0 0] 35, .blk b1 [int x_h.Kind, str r4, str r6, int x_h.Code, str r8, int x_h.Minor, .slice x_h_p0 x_h.Fields.length x_h_c0] 35, .shr x_h_p0 (cells za x_h.Fields)] ∧ zbU x_h r4 r6 r8 k l14 i15 = some R) rfl (fun a w hf hO hm => ⟨none, 0, [], 0, hf.sel rfl, hO, hm⟩) ?_
 rintro n1 a w ⟨p12, c13, l14, i15, hf, hO, hm⟩
 obtain _ | n1 := n1
 rw [zbU] at hm
 cases hm
 rw [zbU] at hm
 refine S.co tb ?_ hf hO hm
 refine jn 4 (fun a w => ∃ (t17 : Bool), Fits 49 [(1, ptr b1 0), (2, ptr b2 0), (3, .slice p12 l14.length c13), (4, int i15), (25, .bool t17)] a ∧ Dk.Own w0 [] w [.row (.slice p12 l14.length c13) 69 2 l14.length (cells za l14), .row (.slice none 0 0) 69 2 0 (cells za []), .blk b2 [int 0, str [], str [], int 0, str [], int 0, .slice none 0 0] 35, .blk b1 [int x_h.Kind, str r4, str r6, int x_h.Code, str r8, int x_h.Minor, .slice x_h_p0 x_h.Fields.length x_h_c0] 35, .shr x_h_p0 (cells za x_h.Fields)] ∧ zft (zbU x_h r4 r6 r8 n1) x_h r4 r6 r8 l14 i15 t17 = some R) rfl ?_ ?_
 refine vl rfl rfl (fun a w hf hO => zb (o := 6) zdc (hO.blkSees (i := 3) rfl) rfl hf rfl) ?_
 refine br rfl (fun hc16 => ?_) fun hc16 => ?_
 exact en rfl fun a w hf hO hm => ⟨decide (i15 < 120), hf.sel rfl, hO, hm⟩
 exact en rfl fun a w hf hO hm => ⟨false, hf.sel rfl, hO, hm⟩
 rintro a w ⟨t17, hf, hO, hm⟩
 rw [zft] at hm
 refine S.co tb ?_ hf hO hm
 refine br rfl (fun hc18 => ?_) fun hc18 => ?_
 refine rc_ rfl fun a w hf hO hm => ?_
 obtain ⟨x20, hx20, hm⟩ := ob hm
 obtain ⟨b21, o22, hix20, hSx20⟩ := zeV (enc := za) (sz := 2) (xs := x_h.Fields) 33 Tryz.underlying33 zbe (by decide) (fun _ => rfl) (hO.sees (i := 4) rfl) hx20
 obtain ⟨r23, hr23, hm⟩ := ob hm
 obtain ⟨x24, hx24, hm⟩ := ob hm
 obtain ⟨b25, o26, hix24, hSx24⟩ := zeV (enc := za) (sz := 2) (xs := x_h.Fields) 33 Tryz.underlying33 zbe (by decide) (fun _ => rfl) (hO.sees (i := 4) rfl) hx24
 obtain ⟨r27, hr27, hm⟩ := ob hm
 obtain ⟨hg31, hm⟩ := og hm
 refine zfd (S := Nat × Option Addr × Nat) (E0 := [(1, ptr b1 0), (2, ptr b2 0), (3, .slice p12 l14.length c13), (4, int i15)]) (by kernel_rfl) (fun k σ w => match k with | 0 => Dk.Own w0 [] w [.row (.slice p12 l14.length c13) 69 2 l14.length (cells za l14), .row (.slice none 0 0) 69 2 0 (cells za []), .blk b2 [int 0, str [], str [], int 0, str [], int 0, .slice none 0 0] 35, .blk b1 [int x_h.Kind, str r4, str r6, int x_h.Code, str r8, int x_h.Minor, .slice x_h_p0 x_h.Fields.length x_h_c0] 35, .shr x_h_p0 (cells za x_h.Fields)] | 1 => Dk.Own w0 [] w [.row (.slice p12 l14.length c13) 69 2 l14.length (cells za l14), .row (.slice none 0 0) 69 2 0 (cells za []), .blk b2 [int 0, str [], str [], int 0, str [], int 0, .slice none 0 0] 35, .blk b1 [int x_h.Kind, str r4, str r6, int x_h.Code, str r8, int x_h.Minor, .slice x_h_p0 x_h.Fields.length x_h_c0] 35, .shr x_h_p0 (cells za x_h.Fields)] | 2 => Dk.Own w0 [] w [.row (.slice p12 l14.length c13) 69 2 l14.length (cells za l14), .row (.slice none 0 0) 69 2 0 (cells za []), .blk b2 [int 0, str [], str [], int 0, str [], int 0, .slice none 0 0] 35, .blk b1 [int x_h.Kind, str r4, str r6, int x_h.Code, str r8, int x_h.Minor, .slice x_h_p0 x_h.Fields.length x_h_c0] 35, .shr x_h_p0 (cells za x_h.Fields)] | 3 => Dk.Own w0 [] w [.row (.slice (some ⟨(σ.1), 0, none⟩) (([(⟨r23, r27⟩ : api_Field)]).length) 1) 69 2 (([(⟨r23, r27⟩ : api_Field)]).length) (cells za ([(⟨r23, r27⟩ : api_Field)])), .row (.slice p12 l14.length c13) 69 2 l14.length (cells za l14), .row (.slice none 0 0) 69 2 0 (cells za []), .blk b2 [int 0, str [], str [], int 0, str [], int 0, .slice none 0 0] 35, .blk b1 [int x_h.Kind, str r4, str r6, int x_h.Code, str r8, int x_h.Minor, .slice x_h_p0 x_h.Fields.length x_h_c0] 35, .shr x_h_p0 (cells za x_h.Fields)] | _ => Dk.Own w0 [] w [.row (.slice (some ⟨(σ.1), 0, none⟩) (([(⟨r23, r27⟩ : api_Field)]).length) 1) 69 2 (([(⟨r23, r27⟩ : api_Field)]).length) (cells za ([(⟨r23, r27⟩ : api_Field)])), .row (.slice (σ.2.1) ((l14 ++ [(⟨r23, r27⟩ : api_Field)]).length) (σ.2.2)) 69 2 ((l14 ++ [(⟨r23, r27⟩ : api_Field)]).length) (cells za (l14 ++ [(⟨r23, r27⟩ : api_Field)])), .row (.slice none 0 0) 69 2 0 (cells za []), .blk b2 [int 0, str [], str [], int 0, str [], int 0, .slice none 0 0] 35, .blk b1 [int x_h.Kind, str r4, str r6, int x_h.Code, str r8, int x_h.Minor, .slice x_h_p0 x_h.Fields.length x_h_c0] 35, .shr x_h_p0 (cells za x_h.Fields)]) (fun σ => [⟨[(3, .slice p12 l14.length c13)], some (28, .slice p12 l14.length c13)⟩, ⟨[(1, ptr b1 0)], some (29, ptr b1 6)⟩, ⟨[(29, ptr b1 6)], some (30, .slice x_h_p0 x_h.Fields.length x_h_c0)⟩, ⟨[(4, int i15)], some (31, int i15)⟩, ⟨[(30, .slice x_h_p0 x_h.Fields.length x_h_c0), (31, int i15)], some (32, ptr b21 o22)⟩, ⟨[(32, ptr b21 o22)], some (33, ptr b21 o22)⟩, ⟨[(33, ptr b21 o22)], some (34, str x20.Name)⟩, ⟨[(34, str x20.Name)], some (35, str r23)⟩, ⟨[(1, ptr b1 0)], some (36, ptr b1 6)⟩, ⟨[(36, ptr b1 6)], some (37, .slice x_h_p0 x_h.Fields.length x_h_c0)⟩, ⟨[(4, int i15)], some (38, int i15)⟩, ⟨[(37, .slice x_h_p0 x_h.Fields.length x_h_c0), (38, int i15)], some (39, ptr b25 o26)⟩, ⟨[(39, ptr b25 o26)], some (40, ptr b25 (o26 + 1))⟩, ⟨[(40, ptr b25 (o26 + 1))], some (41, str x24.Value)⟩, ⟨[(41, str x24.Value)], some (42, str r27)⟩, ⟨[(35, str r23), (42, str r27)], some (43, .agg #[str r23, str r27])⟩, ⟨[(43, .agg #[str r23, str r27])], some (44, .slice (some ⟨(σ.1), 0, none⟩) (([(⟨r23, r27⟩ : api_Field)]).length) 1)⟩, ⟨[(28, .slice p12 l14.length c13), (44, .slice (some ⟨(σ.1), 0, none⟩) (([(⟨r23, r27⟩ : api_Field)]).length) 1)], some (45, .slice (σ.2.1) ((l14 ++ [(⟨r23, r27⟩ : api_Field)]).length) (σ.2.2))⟩, ⟨[(45, .slice (σ.2.1) ((l14 ++ [(⟨r23, r27⟩ : api_Field)]).length) (σ.2.2))], some (3, .slice (σ.2.1) ((l14 ++ [(⟨r23, r27⟩ : api_Field)]).length) (σ.2.2))⟩]) (0, none, 0) [7, 14, 16, 17] rfl (fun _ => rfl) (fun _ => rfl) (fun _ => rfl) rfl rfl (by decide) rfl hO.drew (hf.cons rfl (hf.cons rfl (hf.cons rfl (hf.cons rfl hf.nil)))) (fun σ => ⟨⟨rfl, trivial⟩, ⟨rfl, trivial⟩, ⟨rfl, trivial⟩, ⟨rfl, trivial⟩, ⟨rfl, rfl, trivial⟩, ⟨rfl, trivial⟩, ⟨rfl, trivial⟩, ⟨rfl, trivial⟩, ⟨rfl, trivial⟩, ⟨rfl, trivial⟩, ⟨rfl, trivial⟩, ⟨rfl, rfl, trivial⟩, ⟨rfl, trivial⟩, ⟨rfl, trivial⟩, ⟨rfl, trivial⟩, ⟨rfl, rfl, trivial⟩, ⟨rfl, trivial⟩, ⟨rfl, rfl, trivial⟩, ⟨rfl, trivial⟩, trivial⟩) ⟨zj rfl (fun σ => rfl) (fun σ => rfl) (fun σ a w k _ _ _ _ hf => zB hf rfl), zj rfl (fun σ => rfl) (fun σ => rfl) (fun σ a w k _ _ _ _ hf => zT zpo hf rfl), zj rfl (fun σ => rfl) (fun σ => rfl) (fun σ a w k hk hlo hup hst hf => match k, hk, hlo, hup, hst, hf with | 0, _, _, _, hst, hf => have hO : Dk.Own w0 [] w _ := hst; zb (o := 6) zdc (hO.blkSees (i := 3) rfl) rfl hf rfl | 1, _, _, _, hst, hf => have hO : Dk.Own w0 [] w _ := hst; zb (o := 6) zdc (hO.blkSees (i := 3) rfl) rfl hf rfl | 2, _, _, _, hst, hf => have hO : Dk.Own w0 [] w _ := hst; zb (o := 6) zdc (hO.blkSees (i := 3) rfl) rfl hf rfl | 3, _, _, _, hst, hf => have hO : Dk.Own w0 [] w _ := hst; zb (o := 6) zdc (hO.blkSees (i := 4) rfl) rfl hf rfl | 4, _, _, _, hst, hf => have hO : Dk.Own w0 [] w _ := hst; zb (o := 6) zdc (hO.blkSees (i := 4) rfl) rfl hf rfl | k + 5, hk, _, _, _, _ => absurd hk (by simp)), zj rfl (fun σ => rfl) (fun σ => rfl) (fun σ a w k _ _ _ _ hf => zB hf rfl), zj rfl (fun σ => rfl) (fun σ => rfl) (fun σ a w k _ _ _ _ hf => zo hix20 hf rfl rfl), zj rfl (fun σ => rfl) (fun σ => rfl) (fun σ a w k _ _ _ _ hf => zT zrz hf rfl), zj rfl (fun σ => rfl) (fun σ => rfl) (fun σ a w k hk hlo hup hst hf => match k, hk, hlo, hup, hst, hf with | 0, _, _, _, hst, hf => have hO : Dk.Own w0 [] w _ := hst; zb (o := 0) zC (hSx20 _ (hO.sees (i := 4) rfl)) rfl hf rfl | 1, _, _, _, hst, hf => have hO : Dk.Own w0 [] w _ := hst; zb (o := 0) zC (hSx20 _ (hO.sees (i := 4) rfl)) rfl hf rfl | 2, _, _, _, hst, hf => have hO : Dk.Own w0 [] w _ := hst; zb (o := 0) zC (hSx20 _ (hO.sees (i := 4) rfl)) rfl hf rfl | 3, _, _, _, hst, hf => have hO : Dk.Own w0 [] w _ := hst; zb (o := 0) zC (hSx20 _ (hO.sees (i := 5) rfl)) rfl hf rfl | 4, _, _, _, hst, hf => have hO : Dk.Own w0 [] w _ := hst; zb (o := 0) zC (hSx20 _ (hO.sees (i := 5) rfl)) rfl hf rfl | k + 5, hk, _, _, _, _ => absurd hk (by simp)), zeN rfl (fun σ => rfl) (fun σ => rfl) rfl (fun σ a w (_ : _) hf => zp c_37 hf (vs := [str x20.Name]) rfl) (fun σ w (hO : Dk.Own w0 [] w _) => (zgo x20.Name r23 _ (hG.own hF hO) hr23).mono fun e w' h => by obtain ⟨he, hb⟩ := h; exact ⟨((σ.1), (σ.2.1), (σ.2.2)), he, hO.grow hb, .inr rfl, .inr rfl, .inr rfl, .inr rfl, .inr rfl, .inr rfl, .inr rfl, .inr rfl, .inr rfl, .inr rfl, .inr rfl, .inr rfl, .inr rfl, .inr rfl, .inr rfl, .inr rfl, .inr rfl, .inr rfl, .inr rfl, trivial⟩), zj rfl (fun σ => rfl) (fun σ => rfl) (fun σ a w k _ _ _ _ hf => zT zpo hf rfl), zj rfl (fun σ => rfl) (fun σ => rfl) (fun σ a w k hk hlo hup hst hf => match k, hk, hlo, hup, hst, hf with | 0, _, _, _, hst, hf => have hO : Dk.Own w0 [] w _ := hst; zb (o := 6) zdc (hO.blkSees (i := 3) rfl) rfl hf rfl | 1, _, _, _, hst, hf => have hO : Dk.Own w0 [] w _ := hst; zb (o := 6) zdc (hO.blkSees (i := 3) rfl) rfl hf rfl | 2, _, _, _, hst, hf => have hO : Dk.Own w0 [] w _ := hst; zb (o := 6) zdc (hO.blkSees (i := 3) rfl) rfl hf rfl | 3, _, _, _, hst, hf => have hO : Dk.Own w0 [] w _ := hst; zb (o := 6) zdc (hO.blkSees (i := 4) rfl) rfl hf rfl | 4, _, _, _, hst, hf => have hO : Dk.Own w0 [] w _ := hst; zb (o := 6) zdc (hO.blkSees (i := 4) rfl) rfl hf rfl | k + 5, hk, _, _, _, _ => absurd hk (by simp)), zj rfl (fun σ => rfl) (fun σ => rfl) (fun σ a w k _ _ _ _ hf => zB hf rfl), zj rfl (fun σ => rfl) (fun σ => rfl) (fun σ a w k _ _ _ _ hf => zo hix24 hf rfl rfl), zj rfl (fun σ => rfl) (fun σ => rfl) (fun σ a w k _ _ _ _ hf => zT zgU hf rfl), zj rfl (fun σ => rfl) (fun σ => rfl) (fun σ a w k hk hlo hup hst hf => match k, hk, hlo, hup, hst, hf with | 0, _, _, _, hst, hf => have hO : Dk.Own w0 [] w _ := hst; zb (o := 1) zC (hSx24 _ (hO.sees (i := 4) rfl)) rfl hf rfl | 1, _, _, _, hst, hf => have hO : Dk.Own w0 [] w _ := hst; zb (o := 1) zC (hSx24 _ (hO.sees (i := 4) rfl)) rfl hf rfl | 2, _, _, _, hst, hf => have hO : Dk.Own w0 [] w _ := hst; zb (o := 1) zC (hSx24 _ (hO.sees (i := 4) rfl)) rfl hf rfl | 3, _, _, _, hst, hf => have hO : Dk.Own w0 [] w _ := hst; zb (o := 1) zC (hSx24 _ (hO.sees (i := 5) rfl)) rfl hf rfl | 4, _, _, _, hst, hf => have hO : Dk.Own w0 [] w _ := hst; zb (o := 1) zC (hSx24 _ (hO.sees (i := 5) rfl)) rfl hf rfl | k + 5, hk, _, _, _, _ => absurd hk (by simp)), zeN rfl (fun σ => rfl) (fun σ => rfl) rfl (fun σ a w (_ : _) hf => zp c_37 hf (vs := [str x24.Value]) rfl) (fun σ w (hO : Dk.Own w0 [] w _) => (zgo x24.Value r27 _ (hG.own hF hO) hr27).mono fun e w' h => by obtain ⟨he, hb⟩ := h; exact ⟨((σ.1), (σ.2.1), (σ.2.2)), he, hO.grow hb, .inr rfl, .inr rfl, .inr rfl, .inr rfl, .inr rfl, .inr rfl, .inr rfl, .inr rfl, .inr rfl, .inr rfl, .inr rfl, .inr rfl, .inr rfl, .inr rfl, .inr rfl, .inr rfl, .inr rfl, .inr rfl, .inr rfl, trivial⟩), zj rfl (fun σ => rfl) (fun σ => rfl) (fun σ a w k _ _ _ _ hf => zn (vs := [(0, str r23), (1, str r27)]) (v := .agg #[str r23, str r27]) hf rfl (by kernel_rfl)), zlI rfl (fun σ => rfl) (fun σ => rfl) rfl (fun σ w (hO : Dk.Own w0 [] w _) => by obtain ⟨b28, w', hO', hr⟩ := zgg (E := [(43, .agg #[str r23, str r27])]) (parts := #[(0, (.tmp 43))]) (t' := 33) (n := 1) (vs := [(0, .agg #[str r23, str r27])]) (cs := [str r23, str r27]) (e := 69) (sz := 2) (fun w => by kernel_rfl) rfl rfl hO rfl; exact ⟨(b28, (σ.2.1), (σ.2.2)), w', hO', ⟨.inr rfl, .inr rfl, .inr rfl, .inr rfl, .inr rfl, .inr rfl, .inr rfl, .inr rfl, .inr rfl, .inr rfl, .inr rfl, .inr rfl, .inr rfl, .inr rfl, .inr rfl, .inr rfl, .inl rfl, .inl rfl, .inr rfl, trivial⟩, hr⟩), zlI rfl (fun σ => rfl) (fun σ => rfl) rfl (fun σ w (hO : Dk.Own w0 [] w _) => by obtain ⟨p29, c30, w', hO', hr⟩ := zsh (E := [(28, .slice p12 l14.length c13), (44, .slice (some ⟨(σ.1), 0, none⟩) (([(⟨r23, r27⟩ : api_Field)]).length) 1)]) (x := (.tmp 28)) (y := (.tmp 44)) zsV (enc := za) (xs := l14) (ys := [(⟨r23, r27⟩ : api_Field)]) (i := 1) (fun _ => rfl) rfl (hO.rowSees (i := 0) rfl) (by simp [cells, za, Value.oneCell']) hg31 hO rfl rfl; exact ⟨((σ.1), p29, c30), w', hO', ⟨.inr rfl, .inr rfl, .inr rfl, .inr rfl, .inr rfl, .inr rfl, .inr rfl, .inr rfl, .inr rfl, .inr rfl, .inr rfl, .inr rfl, .inr rfl, .inr rfl, .inr rfl, .inr rfl, .inr rfl, .inl rfl, .inl rfl, trivial⟩, hr⟩), zj rfl (fun σ => rfl) (fun σ => rfl) (fun σ a w k _ _ _ _ hf => zat hf rfl), trivial⟩ ?_
 rintro ⟨b28, p29, c30⟩ a w hf hO
 have hO : Dk.Own w0 [] w _ := hO
 have hf : Fits 49 [(1, ptr b1 0), (2, ptr b2 0), (3, .slice p29 ((l14 ++ [(⟨r23, r27⟩ : api_Field)]).length) c30), (4, int i15)] a := (hf.cons rfl (hf.cons rfl (hf.cons rfl (hf.cons rfl hf.nil))))
 refine S.no tb ?_ hf hO hm
 refine bi rfl fun i33 hi33 => ?_
 exact en rfl fun a w hf hO hm => ⟨_, Nat.lt_succ_self _, p29, c30, l14 ++ [(⟨r23, r27⟩ : api_Field)], i33, hf.sel rfl, (hO.sub (.cons _ (.cons_cons _ (.cons_cons _ (.cons_cons _ (.cons_cons _ (.cons_cons _ .slnil))))))), hm⟩
 refine rw_ rfl fun a w hf hO hm => ?_
 refine zP (i := 3) (o := 6) (v := .slice p12 l14.length c13) sz_33 rfl rfl rfl rfl hf rfl rfl hO fun w hO => ?_
 refine S.op tb ?_ hf hO hm
 refine vl rfl rfl (fun a w hf hO => zk (o := 0) (vs := [int x_h.Kind, str r4, str r6, int x_h.Code, str r8, int x_h.Minor, .slice p12 l14.length c13]) zai zz (hO.blkSees (i := 3) rfl) rfl rfl hf rfl) ?_
 refine rw_ rfl fun a w hf hO hm => ?_
 refine zf (i := 2) (n := 7) zz rfl rfl rfl (by simp [Value.oneCell']) hf rfl rfl hO fun w hO => ?_
 refine S.op tb ?_ hf hO hm
 refine re_ rfl fun a w hf hO hm => ?_
 obtain rfl := Option.some.inj hm
 exact zi Tryz.results20 hf (.cell rfl (zd (n := 7) (vs := [int x_h.Kind, str r4, str r6, int x_h.Code, str r8, int x_h.Minor, .slice p12 l14.length c13]) zai zz rfl ((hO.blkSees (i := 2) rfl).cells (o := 0) (n := 7) rfl)) .nil) ⟨p12, c13, rfl, (hO.sub (.cons_cons _ (.cons _ (.cons _ (.cons _ (.cons _ .slnil))))))⟩

theorem zkI (x_a0 : api_Head) (R : Str × Int) (w0 : World) (hG : zw w0) {x_a0_p0 : Option Addr} {x_a0_c0 : Nat} (hs0 : zam w0 x_a0_p0 (cells za x_a0.Fields)) (hc0 : x_a0.Fields.length ≤ x_a0_c0) (hm : zf0 x_a0 = some R) :
    Calls Tryz.prog 43 #[.agg #[int x_a0.Kind, str x_a0.Method, str x_a0.Target, int x_a0.Code, str x_a0.Reason, int x_a0.Minor, .slice x_a0_p0 x_a0.Fields.length x_a0_c0]] w0 (Ret w0 (fun R => .tuple #[str R.1, int R.2]) R) := by
 rw [zf0] at hm
 have hF : zA [] := ze
 have hO : Dk.Own w0 [] w0 [] := Dk.Own.refl w0
 have hO := hO.addShr hs0 (by simp [Res.shared])
 refine S.enter tb Tryz.func43 rfl Tryz.ntmps43 rfl ?_ hO hm
 refine rw_ rfl fun a w hf hO hm => ?_
 refine zbd (v := .agg #[int x_a0.Kind, str x_a0.Method, str x_a0.Target, int x_a0.Code, str x_a0.Reason, int x_a0.Minor, .slice x_a0_p0 x_a0.Fields.length x_a0_c0]) (cs := [int x_a0.Kind, str x_a0.Method, str x_a0.Target, int x_a0.Code, str x_a0.Reason, int x_a0.Minor, .slice x_a0_p0 x_a0.Fields.length x_a0_c0]) rfl hf rfl rfl hO fun a b1 w hf hO => ?_
 refine S.op tb ?_ hf hO hm
 refine vl rfl rfl (fun a w hf hO => zb (o := 5) zeW (hO.blkSees (i := 0) rfl) rfl hf rfl) ?_
 refine cl c_78 rfl (fun r3 w hr3 hO => ziC x_a0.Minor 10 r3 _ (hG.own hF hO) hr3) fun r3 hr3 => ?_
 refine bi rfl fun s4 hs4 => ?_
 refine vl rfl rfl (fun a w hf hO => zb (o := 1) zC (hO.blkSees (i := 0) rfl) rfl hf rfl) ?_
 refine bi rfl fun s6 hs6 => ?_
 refine vl rfl rfl (fun a w hf hO => zb (o := 2) zC (hO.blkSees (i := 0) rfl) rfl hf rfl) ?_
 refine bi rfl fun s7 hs7 => ?_
 refine bi rfl fun s8 hs8 => ?_
 refine bi rfl fun s9 hs9 => ?_
 refine jn 0 (fun a w => ∃ (s18 : Str), Fits 81 [(1, ptr b1 0), (5, str s18)] a ∧ Dk.Own w0 [] w [.blk b1 [int x_a0.Kind, str x_a0.Method, str x_a0.Target, int x_a0.Code, str x_a0.Reason, int x_a0.Minor, .slice x_a0_p0 x_a0.Fields.length x_a0_c0] 35, .shr x_a0_p0 (cells za x_a0.Fields)] ∧ zdo x_a0 s18 = some R) rfl ?_ ?_
 refine vl rfl rfl (fun a w hf hO => zb (o := 0) zkY (hO.blkSees (i := 0) rfl) rfl hf rfl) ?_
 refine br rfl (fun hc12 => ?_) fun hc12 => ?_
 refine rc_ rfl fun a w hf hO hm => ?_
 refine zfA (by kernel_rfl) (by kernel_rfl) hO ?_
 refine zx (fun w hO => zB hf rfl) rfl hf rfl rfl fun a hf => ?_
 obtain ⟨s13, hs13, hm⟩ := ob hm
 refine zx (fun w hO => zlM (l := s4) (m := [32]) hf rfl rfl hs13) rfl hf rfl rfl fun a hf => ?_
 refine zx (fun w hO => zT zpm hf rfl) rfl hf rfl rfl fun a hf => ?_
 refine zx (fun w hO => zb (o := 3) zeW (hO.blkSees (i := 0) rfl) rfl hf rfl) rfl hf rfl rfl fun a hf => ?_
 obtain ⟨r14, hr14, hm⟩ := ob hm
 refine zpk (fun w hO => zp c_78 hf (vs := [int x_a0.Code, int 10]) rfl) rfl hf rfl rfl (fun w hO => (ziC x_a0.Code 10 r14 _ (hG.own hF hO) hr14).mono fun e w' ⟨he, hb⟩ => ⟨he, hO.grow hb⟩) fun a hf => ?_
 obtain ⟨s15, hs15, hm⟩ := ob hm
 refine zx (fun w hO => zlM (l := s13) (m := r14) hf rfl rfl hs15) rfl hf rfl rfl fun a hf => ?_
 obtain ⟨s16, hs16, hm⟩ := ob hm
 refine zx (fun w hO => zlM (l := s15) (m := [32]) hf rfl rfl hs16) rfl hf rfl rfl fun a hf => ?_
 refine zx (fun w hO => zT zpn hf rfl) rfl hf rfl rfl fun a hf => ?_
 refine zx (fun w hO => zb (o := 4) zC (hO.blkSees (i := 0) rfl) rfl hf rfl) rfl hf rfl rfl fun a hf => ?_
 obtain ⟨s17, hs17, hm⟩ := ob hm
 refine zx (fun w hO => zlM (l := s16) (m := x_a0.Reason) hf rfl rfl hs17) rfl hf rfl rfl fun a hf => ?_
 refine zx (fun w hO => zat hf rfl) rfl hf rfl rfl fun a hf => ?_
 refine wpQuiet_nil ?_
 intro w hO
 refine S.no tb ?_ hf hO hm
 exact en rfl fun a w hf hO hm => ⟨s17, hf.sel rfl, hO, hm⟩
 exact en rfl fun a w hf hO hm => ⟨s9, hf.sel rfl, hO, hm⟩
 rintro a w ⟨s18, hf, hO, hm⟩
 rw [zdo] at hm
 refine S.co tb ?_ hf hO hm
 refine vl rfl rfl (fun a w hf hO => zb (o := 0) zkY (hO.blkSees (i := 0) rfl) rfl hf rfl) ?_
 refine rw_ rfl fun a w hf hO hm => ?_
 obtain ⟨r19, hr19, hm⟩ := ob hm
 refine zr (zp c_35 hf (vs := [int x_a0.Kind, str s18]) rfl) rfl hf rfl rfl (znO x_a0.Kind s18 r19 _ (hG.own hF hO) hr19) ?_
 rintro e w' ⟨p20, c21, he, hO'⟩
 refine ⟨_, he, fun a hf => ?_⟩
 have hO := hO.call hO' (by simp [Res.shared])
 refine S.op tb ?_ hf hO hm
 refine rw_ rfl fun a w hf hO hm => ?_
 refine zv zia hf rfl hO fun a b22 w hf hO => ?_
 have hO := hO.nilRow 69 2
 refine S.op tb ?_ hf hO hm
 refine rw_ rfl fun a w hf hO hm => ?_
 refine zf (i := 1) (n := 7) zz rfl rfl rfl (by simp [Value.oneCell']) hf rfl rfl hO fun w hO => ?_
 refine S.op tb ?_ hf hO hm
 refine br rfl (fun hc25 => ?_) fun hc25 => ?_
 exact rt Tryz.results43 rfl
 refine jn 1 (fun a w => ∃ (t33 : Bool), Fits 81 [(5, str s18), (79, .bool t33)] a ∧ Dk.Own w0 [] w [.row (.slice none 0 0) 69 2 0 (cells za []), .blk b22 [int r19.1.Kind, str r19.1.Method, str r19.1.Target, int r19.1.Code, str r19.1.Reason, int r19.1.Minor, .slice p20 r19.1.Fields.length c21] 35, .row (.slice p20 r19.1.Fields.length c21) 69 2 r19.1.Fields.length (cells za r19.1.Fields), .blk b1 [int x_a0.Kind, str x_a0.Method, str x_a0.Target, int x_a0.Code, str x_a0.Reason, int x_a0.Minor, .slice x_a0_p0 x_a0.Fields.length x_a0_c0] 35, .shr x_a0_p0 (cells za x_a0.Fields)] ∧ zbs s18 t33 = some R) rfl ?_ ?_
 refine br rfl (fun hc28 => ?_) fun hc28 => ?_
 exact en rfl fun a w hf hO hm => ⟨true, hf.sel rfl, hO, hm⟩
 refine vl rfl rfl (fun a w hf hO => zb (o := 1) zC (hO.blkSees (i := 1) rfl) rfl hf rfl) ?_
 refine vl rfl rfl (fun a w hf hO => zb (o := 1) zC (hO.blkSees (i := 3) rfl) rfl hf rfl) ?_
 refine br rfl (fun hc29 => ?_) fun hc29 => ?_
 exact en rfl fun a w hf hO hm => ⟨true, hf.sel rfl, hO, hm⟩
 refine vl rfl rfl (fun a w hf hO => zb (o := 2) zC (hO.blkSees (i := 1) rfl) rfl hf rfl) ?_
 refine vl rfl rfl (fun a w hf hO => zb (o := 2) zC (hO.blkSees (i := 3) rfl) rfl hf rfl) ?_
 refine br rfl (fun hc30 => ?_) fun hc30 => ?_
 exact en rfl fun a w hf hO hm => ⟨true, hf.sel rfl, hO, hm⟩
 refine vl rfl rfl (fun a w hf hO => zb (o := 5) zeW (hO.blkSees (i := 1) rfl) rfl hf rfl) ?_
 refine vl rfl rfl (fun a w hf hO => zb (o := 5) zeW (hO.blkSees (i := 3) rfl) rfl hf rfl) ?_
 refine br rfl (fun hc31 => ?_) fun hc31 => ?_
 exact en rfl fun a w hf hO hm => ⟨true, hf.sel rfl, hO, hm⟩
 refine vl rfl rfl (fun a w hf hO => zb (o := 3) zeW (hO.blkSees (i := 1) rfl) rfl hf rfl) ?_
 refine vl rfl rfl (fun a w hf hO => zb (o := 3) zeW (hO.blkSees (i := 3) rfl) rfl hf rfl) ?_
 refine br rfl (fun hc32 => ?_) fun hc32 => ?_
 exact en rfl fun a w hf hO hm => ⟨true, hf.sel rfl, hO, hm⟩
 refine vl rfl rfl (fun a w hf hO => zb (o := 4) zC (hO.blkSees (i := 1) rfl) rfl hf rfl) ?_
 refine vl rfl rfl (fun a w hf hO => zb (o := 4) zC (hO.blkSees (i := 3) rfl) rfl hf rfl) ?_
 exact en rfl fun a w hf hO hm => ⟨!(r19.1.Reason == x_a0.Reason), hf.sel rfl, hO, hm⟩
 rintro a w ⟨t33, hf, hO, hm⟩
 rw [zbs] at hm
 refine S.co tb ?_ hf hO hm
 refine br rfl (fun hc34 => ?_) fun hc34 => ?_
 exact rt Tryz.results43 rfl
 exact rt Tryz.results43 rfl

theorem znT (x_f : api_Field) (R : Int) (w0 : World) (hG : zw w0) (hm : zgx x_f = some R) :
    Calls Tryz.prog 44 #[.agg #[str x_f.Name, str x_f.Value]] w0 (Ret w0 (fun R => int R) R) := by
 rw [zgx] at hm
 have hF : zA [] := ze
 have hO : Dk.Own w0 [] w0 [] := Dk.Own.refl w0
 refine S.enter tb Tryz.func44 rfl Tryz.ntmps44 rfl ?_ hO hm
 refine rw_ rfl fun a w hf hO hm => ?_
 refine zbd (v := .agg #[str x_f.Name, str x_f.Value]) (cs := [str x_f.Name, str x_f.Value]) rfl hf rfl rfl hO fun a b1 w hf hO => ?_
 refine S.op tb ?_ hf hO hm
 refine vl rfl rfl (fun a w hf hO => zb (o := 0) zC (hO.blkSees (i := 0) rfl) rfl hf rfl) ?_
 refine cl c_68 rfl (fun r3 w hr3 hO => zj5 x_f.Name r3 _ (hG.own hF hO) hr3) fun r3 hr3 => ?_
 refine br rfl (fun hc5 => ?_) fun hc5 => ?_
 exact rt Tryz.results44 rfl
 refine jn 1 (fun a w => ∃ (t11 : Bool), Fits 19 [(18, .bool t11)] a ∧ Dk.Own w0 [] w [.blk b1 [str x_f.Name, str x_f.Value] 69] ∧ zfu t11 = some R) rfl ?_ ?_
 refine rc_ rfl fun a w hf hO hm => ?_
 refine zfA (by kernel_rfl) (by kernel_rfl) hO ?_
 refine zx (fun w hO => zT zgU hf rfl) rfl hf rfl rfl fun a hf => ?_
 refine zx (fun w hO => zb (o := 1) zC (hO.blkSees (i := 0) rfl) rfl hf rfl) rfl hf rfl rfl fun a hf => ?_
 obtain ⟨r8, hr8, hm⟩ := ob hm
 refine zpk (fun w hO => zp c_74 hf (vs := [str x_f.Value]) rfl) rfl hf rfl rfl (fun w hO => (zmV x_f.Value r8 _ (hG.own hF hO) hr8).mono fun e w' ⟨he, hb⟩ => ⟨he, hO.grow hb⟩) fun a hf => ?_
 refine zx (fun w hO => zpz hf rfl) rfl hf rfl rfl fun a hf => ?_
 refine zx (fun w hO => zB hf rfl) rfl hf rfl rfl fun a hf => ?_
 rcases zcg (!r8) with hc9 | hc9
 have hm := it hc9 hm
 refine zlx rfl hf rfl rfl (hc9) rfl rfl fun a hf => ?_
 refine zlx rfl hf rfl rfl (hc9) rfl rfl fun a hf => ?_
 refine zlx rfl hf rfl rfl (hc9) rfl rfl fun a hf => ?_
 refine zlx rfl hf rfl rfl (hc9) rfl rfl fun a hf => ?_
 refine zlx rfl hf rfl rfl (hc9) rfl rfl fun a hf => ?_
 refine zlx rfl hf rfl rfl (hc9) rfl rfl fun a hf => ?_
 refine zx (fun w hO => zlK hf rfl hc9 rfl) rfl hf rfl rfl fun a hf => ?_
 refine wpQuiet_nil ?_
 intro w hO
 refine S.no tb ?_ hf hO hm
 exact en rfl fun a w hf hO hm => ⟨true, hf.sel rfl, hO, hm⟩
 have hm := ie hc9 hm
 refine zjB rfl hf rfl rfl (hc9) ?_
 refine zx (fun w hO => zT zgU hf rfl) rfl hf rfl rfl fun a hf => ?_
 refine zjB rfl hf rfl rfl (hc9) ?_
 refine zx (fun w hO => zb (o := 1) zC (hO.blkSees (i := 0) rfl) rfl hf rfl) rfl hf rfl rfl fun a hf => ?_
 refine zjB rfl hf rfl rfl (hc9) ?_
 obtain ⟨r10, hr10, hm⟩ := ob hm
 refine zpk (fun w hO => zp c_73 hf (vs := [str x_f.Value]) rfl) rfl hf rfl rfl (fun w hO => (zo5 x_f.Value r10 _ (hG.own hF hO) hr10).mono fun e w' ⟨he, hb⟩ => ⟨he, hO.grow hb⟩) fun a hf => ?_
 refine zjB rfl hf rfl rfl (hc9) ?_
 refine zx (fun w hO => zT zgU hf rfl) rfl hf rfl rfl fun a hf => ?_
 refine zjB rfl hf rfl rfl (hc9) ?_
 refine zx (fun w hO => zb (o := 1) zC (hO.blkSees (i := 0) rfl) rfl hf rfl) rfl hf rfl rfl fun a hf => ?_
 refine zjB rfl hf rfl rfl (hc9) ?_
 refine zx (fun w hO => znz (l := r10) (m := x_f.Value) hf rfl rfl) rfl hf rfl rfl fun a hf => ?_
 refine zx (fun w hO => zlL hf rfl hc9 rfl) rfl hf rfl rfl fun a hf => ?_
 refine wpQuiet_nil ?_
 intro w hO
 refine S.no tb ?_ hf hO hm
 exact en rfl fun a w hf hO hm => ⟨!(r10 == x_f.Value), hf.sel rfl, hO, hm⟩
 rintro a w ⟨t11, hf, hO, hm⟩
 rw [zfu] at hm
 refine S.co tb ?_ hf hO hm
 refine br rfl (fun hc12 => ?_) fun hc12 => ?_
 exact rt Tryz.results44 rfl
 exact rt Tryz.results44 rfl

theorem znU (x_h : api_Head) (R : Int) (w0 : World) (hG : zw w0) {x_h_p0 : Option Addr} {x_h_c0 : Nat} (hs0 : zam w0 x_h_p0 (cells za x_h.Fields)) (hc0 : x_h.Fields.length ≤ x_h_c0) (hm : zgy x_h = some R) :
    Calls Tryz.prog 22 #[.agg #[int x_h.Kind, str x_h.Method, str x_h.Target, int x_h.Code, str x_h.Reason, int x_h.Minor, .slice x_h_p0 x_h.Fields.length x_h_c0]] w0 (Ret w0 (fun R => int R) R) := by
 rw [zgy] at hm
 have hF : zA [] := ze
 have hO : Dk.Own w0 [] w0 [] := Dk.Own.refl w0
 have hO := hO.addShr hs0 (by simp [Res.shared])
 refine S.enter tb Tryz.func22 rfl Tryz.ntmps22 rfl ?_ hO hm
 refine rw_ rfl fun a w hf hO hm => ?_
 refine zbd (v := .agg #[int x_h.Kind, str x_h.Method, str x_h.Target, int x_h.Code, str x_h.Reason, int x_h.Minor, .slice x_h_p0 x_h.Fields.length x_h_c0]) (cs := [int x_h.Kind, str x_h.Method, str x_h.Target, int x_h.Code, str x_h.Reason, int x_h.Minor, .slice x_h_p0 x_h.Fields.length x_h_c0]) rfl hf rfl rfl hO fun a b1 w hf hO => ?_
 refine S.op tb ?_ hf hO hm
 refine vl rfl rfl (fun a w hf hO => zk (o := 0) (vs := [int x_h.Kind, str x_h.Method, str x_h.Target, int x_h.Code, str x_h.Reason, int x_h.Minor, .slice x_h_p0 x_h.Fields.length x_h_c0]) zai zz (hO.blkSees (i := 0) rfl) rfl rfl hf rfl) ?_
 refine cl c_43 rfl (fun r3 w hr3 hO => zkI x_h r3 _ (hG.own hF hO) (hO.sees (i := 1) rfl) hc0 hr3) fun r3 hr3 => ?_
 refine br rfl (fun hc6 => ?_) fun hc6 => ?_
 exact rt Tryz.results22 rfl
 refine lp (fun k a w => ∃ (i10 : Int), Fits 33 [(1, ptr b1 0), (5, int i10)] a ∧ Dk.Own w0 [] w [.blk b1 [int x_h.Kind, str x_h.Method, str x_h.Target, int x_h.Code, str x_h.Reason, int x_h.Minor, .slice x_h_p0 x_h.Fields.length x_h_c0] 35, .shr x_h_p0 (cells za x_h.Fields)] ∧ zcd x_h k i10 = some R) rfl (fun a w hf hO hm => ⟨0, hf.sel rfl, hO, hm⟩) ?_
 rintro n1 a w ⟨i10, hf, hO, hm⟩
 obtain _ | n1 := n1
 rw [zcd] at hm
 cases hm
 rw [zcd] at hm
 refine S.co tb ?_ hf hO hm
 refine vl rfl rfl (fun a w hf hO => zb (o := 6) zdc (hO.blkSees (i := 0) rfl) rfl hf rfl) ?_
 refine br rfl (fun hc12 => ?_) fun hc12 => ?_
 refine vl rfl rfl (fun a w hf hO => zb (o := 6) zdc (hO.blkSees (i := 0) rfl) rfl hf rfl) ?_
 refine rw_ rfl fun a w hf hO hm => ?_
 obtain ⟨x14, hx14, hm⟩ := ob hm
 obtain ⟨b15, o16, hix14, hSx14⟩ := zeV (enc := za) (sz := 2) (xs := x_h.Fields) 33 Tryz.underlying33 zbe (by decide) (fun _ => rfl) (hO.sees (i := 1) rfl) hx14
 refine zaN (zo hix14 hf rfl rfl) rfl hf rfl rfl fun a hf => ?_
 refine S.op tb ?_ hf hO hm
 refine vl rfl rfl (fun a w hf hO => zk (o := 0) (vs := [str x14.Name, str x14.Value]) zfJ zbe (hSx14 _ (hO.sees (i := 1) rfl)) rfl rfl hf rfl) ?_
 refine cl c_44 rfl (fun r17 w hr17 hO => znT x14 r17 _ (hG.own hF hO) hr17) fun r17 hr17 => ?_
 refine br rfl (fun hc20 => ?_) fun hc20 => ?_
 exact rt Tryz.results22 rfl
 refine bi rfl fun i23 hi23 => ?_
 exact en rfl fun a w hf hO hm => ⟨_, Nat.lt_succ_self _, i23, hf.sel rfl, hO, hm⟩
 refine vl rfl rfl (fun a w hf hO => zk (o := 0) (vs := [int x_h.Kind, str x_h.Method, str x_h.Target, int x_h.Code, str x_h.Reason, int x_h.Minor, .slice x_h_p0 x_h.Fields.length x_h_c0]) zai zz (hO.blkSees (i := 0) rfl) rfl rfl hf rfl) ?_
 refine cl c_45 rfl (fun r25 w hr25 hO => zn4 x_h r25 _ (hG.own hF hO) (hO.sees (i := 1) rfl) hc0 hr25) fun r25 hr25 => ?_
 exact rt Tryz.results22 rfl

theorem zo8 (x_f : api_Field) (R : Str) (w0 : World) (hG : zw w0) (hm : zhp x_f = some R) :
    Calls Tryz.prog 47 #[.agg #[str x_f.Name, str x_f.Value]] w0 (Ret w0 (fun R => str R) R) := by
 rw [zhp] at hm
 have hF : zA [] := ze
 have hO : Dk.Own w0 [] w0 [] := Dk.Own.refl w0
 refine S.enter tb Tryz.func47 rfl Tryz.ntmps47 rfl ?_ hO hm
 refine rw_ rfl fun a w hf hO hm => ?_
 refine zbd (v := .agg #[str x_f.Name, str x_f.Value]) (cs := [str x_f.Name, str x_f.Value]) rfl hf rfl rfl hO fun a b1 w hf hO => ?_
 refine S.op tb ?_ hf hO hm
 refine vl rfl rfl (fun a w hf hO => zb (o := 1) zC (hO.blkSees (i := 0) rfl) rfl hf rfl) ?_
 refine br rfl (fun hc4 => ?_) fun hc4 => ?_
 refine vl rfl rfl (fun a w hf hO => zb (o := 0) zC (hO.blkSees (i := 0) rfl) rfl hf rfl) ?_
 refine bi rfl fun s5 hs5 => ?_
 exact rt Tryz.results47 rfl
 refine vl rfl rfl (fun a w hf hO => zb (o := 0) zC (hO.blkSees (i := 0) rfl) rfl hf rfl) ?_
 refine bi rfl fun s8 hs8 => ?_
 refine vl rfl rfl (fun a w hf hO => zb (o := 1) zC (hO.blkSees (i := 0) rfl) rfl hf rfl) ?_
 refine bi rfl fun s9 hs9 => ?_
 exact rt Tryz.results47 rfl

theorem zo9 (x_h : api_Head) (R : Str) (w0 : World) (hG : zw w0) {x_h_p0 : Option Addr} {x_h_c0 : Nat} (hs0 : zam w0 x_h_p0 (cells za x_h.Fields)) (hc0 : x_h.Fields.length ≤ x_h_c0) (hm : zhq x_h = some R) :
    Calls Tryz.prog 24 #[.agg #[int x_h.Kind, str x_h.Method, str x_h.Target, int x_h.Code, str x_h.Reason, int x_h.Minor, .slice x_h_p0 x_h.Fields.length x_h_c0]] w0 (Ret w0 (fun R => str R) R) := by
 rw [zhq] at hm
 have hF : zA [] := ze
 have hO : Dk.Own w0 [] w0 [] := Dk.Own.refl w0
 have hO := hO.addShr hs0 (by simp [Res.shared])
 refine S.enter tb Tryz.func24 rfl Tryz.ntmps24 rfl ?_ hO hm
 refine rw_ rfl fun a w hf hO hm => ?_
 refine zbd (v := .agg #[int x_h.Kind, str x_h.Method, str x_h.Target, int x_h.Code, str x_h.Reason, int x_h.Minor, .slice x_h_p0 x_h.Fields.length x_h_c0]) (cs := [int x_h.Kind, str x_h.Method, str x_h.Target, int x_h.Code, str x_h.Reason, int x_h.Minor, .slice x_h_p0 x_h.Fields.length x_h_c0]) rfl hf rfl rfl hO fun a b1 w hf hO => ?_
 refine S.op tb ?_ hf hO hm
 refine vl rfl rfl (fun a w hf hO => zk (o := 0) (vs := [int x_h.Kind, str x_h.Method, str x_h.Target, int x_h.Code, str x_h.Reason, int x_h.Minor, .slice x_h_p0 x_h.Fields.length x_h_c0]) zai zz (hO.blkSees (i := 0) rfl) rfl rfl hf rfl) ?_
 refine cl c_43 rfl (fun r3 w hr3 hO => zkI x_h r3 _ (hG.own hF hO) (hO.sees (i := 1) rfl) hc0 hr3) fun r3 hr3 => ?_
 refine bi rfl fun s5 hs5 => ?_
 refine lp (fun k a w => ∃ (s8 : Str) (i9 : Int), Fits 31 [(1, ptr b1 0), (3, str s8), (5, int i9)] a ∧ Dk.Own w0 [] w [.blk b1 [int x_h.Kind, str x_h.Method, str x_h.Target, int x_h.Code, str x_h.Reason, int x_h.Minor, .slice x_h_p0 x_h.Fields.length x_h_c0] 35, .shr x_h_p0 (cells za x_h.Fields)] ∧ zcD x_h k s8 i9 = some R) rfl (fun a w hf hO hm => ⟨s5, 0, hf.sel rfl, hO, hm⟩) ?_
 rintro n1 a w ⟨s8, i9, hf, hO, hm⟩
 obtain _ | n1 := n1
 rw [zcD] at hm
 cases hm
 rw [zcD] at hm
 refine S.co tb ?_ hf hO hm
 refine vl rfl rfl (fun a w hf hO => zb (o := 6) zdc (hO.blkSees (i := 0) rfl) rfl hf rfl) ?_
 refine br rfl (fun hc11 => ?_) fun hc11 => ?_
 refine vl rfl rfl (fun a w hf hO => zb (o := 6) zdc (hO.blkSees (i := 0) rfl) rfl hf rfl) ?_
 refine rw_ rfl fun a w hf hO hm => ?_
 obtain ⟨x13, hx13, hm⟩ := ob hm
 obtain ⟨b14, o15, hix13, hSx13⟩ := zeV (enc := za) (sz := 2) (xs := x_h.Fields) 33 Tryz.underlying33 zbe (by decide) (fun _ => rfl) (hO.sees (i := 1) rfl) hx13
 refine zaN (zo hix13 hf rfl rfl) rfl hf rfl rfl fun a hf => ?_
 refine S.op tb ?_ hf hO hm
 refine vl rfl rfl (fun a w hf hO => zk (o := 0) (vs := [str x13.Name, str x13.Value]) zfJ zbe (hSx13 _ (hO.sees (i := 1) rfl)) rfl rfl hf rfl) ?_
 refine cl c_47 rfl (fun r16 w hr16 hO => zo8 x13 r16 _ (hG.own hF hO) hr16) fun r16 hr16 => ?_
 refine bi rfl fun s17 hs17 => ?_
 refine bi rfl fun s18 hs18 => ?_
 refine bi rfl fun i20 hi20 => ?_
 exact en rfl fun a w hf hO hm => ⟨_, Nat.lt_succ_self _, s18, i20, hf.sel rfl, hO, hm⟩
 refine bi rfl fun s22 hs22 => ?_
 exact rt Tryz.results24 rfl

theorem zlp (x_a0 : api_Head) (x_a1 : Int) (R : Bool) (w0 : World) (hG : zbh w0) {x_a0_p0 : Option Addr} {x_a0_c0 : Nat} (hs0 : zam w0 x_a0_p0 (cells za x_a0.Fields)) (hc0 : x_a0.Fields.length ≤ x_a0_c0) (hm : zfv x_a0 x_a1 = some R) :
    Calls Tryz.prog 6 #[.agg #[int x_a0.Kind, str x_a0.Method, str x_a0.Target, int x_a0.Code, str x_a0.Reason, int x_a0.Minor, .slice x_a0_p0 x_a0.Fields.length x_a0_c0], int x_a1] w0 (Ret w0 (fun R => .bool R) R) := by
 rw [zfv] at hm
 have hF : zA [] := ze
 have hO : Dk.Own w0 [] w0 [] := Dk.Own.refl w0
 have hO := hO.addShr hs0 (by simp [Res.shared])
 refine S.enter tb Tryz.func6 rfl Tryz.ntmps6 rfl ?_ hO hm
 refine rw_ rfl fun a w hf hO hm => ?_
 refine zbd (v := .agg #[int x_a0.Kind, str x_a0.Method, str x_a0.Target, int x_a0.Code, str x_a0.Reason, int x_a0.Minor, .slice x_a0_p0 x_a0.Fields.length x_a0_c0]) (cs := [int x_a0.Kind, str x_a0.Method, str x_a0.Target, int x_a0.Code, str x_a0.Reason, int x_a0.Minor, .slice x_a0_p0 x_a0.Fields.length x_a0_c0]) rfl hf rfl rfl hO fun a b1 w hf hO => ?_
 refine S.op tb ?_ hf hO hm
 refine cl c_19 rfl (fun r3 w hr3 hO => zn3 r3 _ (hG.own hF hO) hr3) fun r3 hr3 => ?_
 refine br rfl (fun hc5 => ?_) fun hc5 => ?_
 exact rt Tryz.results6 rfl
 refine vl rfl rfl (fun a w hf hO => zk (o := 0) (vs := [int x_a0.Kind, str x_a0.Method, str x_a0.Target, int x_a0.Code, str x_a0.Reason, int x_a0.Minor, .slice x_a0_p0 x_a0.Fields.length x_a0_c0]) zai zz (hO.blkSees (i := 0) rfl) rfl rfl hf rfl) ?_
 refine rw_ rfl fun a w hf hO hm => ?_
 obtain ⟨r8, hr8, hm⟩ := ob hm
 refine zr (zp c_20 hf (vs := [.agg #[int x_a0.Kind, str x_a0.Method, str x_a0.Target, int x_a0.Code, str x_a0.Reason, int x_a0.Minor, .slice x_a0_p0 x_a0.Fields.length x_a0_c0]]) rfl) rfl hf rfl rfl (zp9 x_a0 r8 _ (hG.own hF hO).1 (hO.sees (i := 1) rfl) hc0 hr8) ?_
 rintro e w' ⟨p9, c10, he, hO'⟩
 refine ⟨_, he, fun a hf => ?_⟩
 have hO := hO.call hO' (by simp [Res.shared])
 refine S.op tb ?_ hf hO hm
 refine rw_ rfl fun a w hf hO hm => ?_
 refine zf (i := 1) (n := 7) zz rfl rfl rfl (by simp [Value.oneCell']) hf rfl rfl hO fun w hO => ?_
 refine S.op tb ?_ hf hO hm
 refine vl rfl rfl (fun a w hf hO => zk (o := 0) (vs := [int r8.Kind, str r8.Method, str r8.Target, int r8.Code, str r8.Reason, int r8.Minor, .slice p9 r8.Fields.length c10]) zai zz (hO.blkSees (i := 1) rfl) rfl rfl hf rfl) ?_
 refine cl c_21 rfl (fun r12 w hr12 hO => zkV r8 x_a1 r12 _ (hG.own hF hO) (hO.rowSees (i := 0) rfl) (hO.rowCap (i := 0) rfl) hr12) fun r12 hr12 => ?_
 refine vl rfl rfl (fun a w hf hO => zk (o := 0) (vs := [int r8.Kind, str r8.Method, str r8.Target, int r8.Code, str r8.Reason, int r8.Minor, .slice p9 r8.Fields.length c10]) zai zz (hO.blkSees (i := 1) rfl) rfl rfl hf rfl) ?_
 refine cl c_22 rfl (fun r14 w hr14 hO => znU r8 r14 _ (hG.own hF hO).1 (hO.rowSees (i := 0) rfl) (hO.rowCap (i := 0) rfl) hr14) fun r14 hr14 => ?_
 refine vl rfl rfl (fun a w hf hO => zk (o := 0) (vs := [int r8.Kind, str r8.Method, str r8.Target, int r8.Code, str r8.Reason, int r8.Minor, .slice p9 r8.Fields.length c10]) zai zz (hO.blkSees (i := 1) rfl) rfl rfl hf rfl) ?_
 refine cl c_23 rfl (fun r16 w hr16 hO => zkT r8 r16 _ (hG.own hF hO) (hO.rowSees (i := 0) rfl) (hO.rowCap (i := 0) rfl) hr16) fun r16 hr16 => ?_
 refine br rfl (fun hc18 => ?_) fun hc18 => ?_
 exact rt Tryz.results6 rfl
 refine br rfl (fun hc22 => ?_) fun hc22 => ?_
 refine jn 1 (fun a w => ∃ (t24 : Bool), Fits 72 [(4, .bool t24)] a ∧ Dk.Own w0 [] w [.row (.slice p9 r8.Fields.length c10) 69 2 r8.Fields.length (cells za r8.Fields), .blk b1 [int r8.Kind, str r8.Method, str r8.Target, int r8.Code, str r8.Reason, int r8.Minor, .slice p9 r8.Fields.length c10] 35, .shr x_a0_p0 (cells za x_a0.Fields)] ∧ zdy t24 = some R) rfl ?_ ?_
 refine br rfl (fun hc23 => ?_) fun hc23 => ?_
 exact en rfl fun a w hf hO hm => ⟨r12.2 == r14, hf.sel rfl, hO, hm⟩
 exact en rfl fun a w hf hO hm => ⟨false, hf.sel rfl, hO, hm⟩
 rintro a w ⟨t24, hf, hO, hm⟩
 rw [zdy] at hm
 refine S.co tb ?_ hf hO hm
 exact rt Tryz.results6 rfl
 refine vl rfl rfl (fun a w hf hO => zk (o := 0) (vs := [int r8.Kind, str r8.Method, str r8.Target, int r8.Code, str r8.Reason, int r8.Minor, .slice p9 r8.Fields.length c10]) zai zz (hO.blkSees (i := 1) rfl) rfl rfl hf rfl) ?_
 refine cl c_24 rfl (fun r26 w hr26 hO => zo9 r8 r26 _ (hG.own hF hO).1 (hO.rowSees (i := 0) rfl) (hO.rowCap (i := 0) rfl) hr26) fun r26 hr26 => ?_
 refine br rfl (fun hc29 => ?_) fun hc29 => ?_
 refine jn 1 (fun a w => ∃ (t31 : Bool), Fits 72 [(4, .bool t31)] a ∧ Dk.Own w0 [] w [.row (.slice p9 r8.Fields.length c10) 69 2 r8.Fields.length (cells za r8.Fields), .blk b1 [int r8.Kind, str r8.Method, str r8.Target, int r8.Code, str r8.Reason, int r8.Minor, .slice p9 r8.Fields.length c10] 35, .shr x_a0_p0 (cells za x_a0.Fields)] ∧ zdz t31 = some R) rfl ?_ ?_
 refine br rfl (fun hc30 => ?_) fun hc30 => ?_
 exact en rfl fun a w hf hO hm => ⟨r12.2 == 3, hf.sel rfl, hO, hm⟩
 exact en rfl fun a w hf hO hm => ⟨false, hf.sel rfl, hO, hm⟩
 rintro a w ⟨t31, hf, hO, hm⟩
 rw [zdz] at hm
 refine S.co tb ?_ hf hO hm
 exact rt Tryz.results6 rfl
 refine vl rfl rfl (fun a w hf hO => zb (o := 0) zkY (hO.blkSees (i := 1) rfl) rfl hf rfl) ?_
 refine rw_ rfl fun a w hf hO hm => ?_
 obtain ⟨r33, hr33, hm⟩ := ob hm
 refine zr (zp c_14 hf (vs := [int r8.Kind, str r12.1, int x_a1]) rfl) rfl hf rfl rfl (zkO r8.Kind r12.1 x_a1 r33 _ (hG.own hF hO) hr33) ?_
 rintro e w' ⟨p34, c35, he, hO'⟩
 refine ⟨_, he, fun a hf => ?_⟩
 have hO := hO.call hO' (by simp [Res.shared])
 refine S.op tb ?_ hf hO hm
 refine rw_ rfl fun a w hf hO hm => ?_
 refine zv zia hf rfl hO fun a b36 w hf hO => ?_
 have hO := hO.nilRow 69 2
 refine S.op tb ?_ hf hO hm
 refine rw_ rfl fun a w hf hO hm => ?_
 refine zf (i := 1) (n := 7) zz rfl rfl rfl (by simp [Value.oneCell']) hf rfl rfl hO fun w hO => ?_
 refine S.op tb ?_ hf hO hm
 refine jn 0 (fun a w => ∃ (t42 : Bool), Fits 72 [(4, .bool t42)] a ∧ Dk.Own w0 [] w [.row (.slice none 0 0) 69 2 0 (cells za []), .blk b36 [int r33.1.Kind, str r33.1.Method, str r33.1.Target, int r33.1.Code, str r33.1.Reason, int r33.1.Minor, .slice p34 r33.1.Fields.length c35] 35, .row (.slice p34 r33.1.Fields.length c35) 69 2 r33.1.Fields.length (cells za r33.1.Fields), .row (.slice p9 r8.Fields.length c10) 69 2 r8.Fields.length (cells za r8.Fields), .blk b1 [int r8.Kind, str r8.Method, str r8.Target, int r8.Code, str r8.Reason, int r8.Minor, .slice p9 r8.Fields.length c10] 35, .shr x_a0_p0 (cells za x_a0.Fields)] ∧ zbG t42 = some R) rfl ?_ ?_
 refine br rfl (fun hc38 => ?_) fun hc38 => ?_
 refine br rfl (fun hc39 => ?_) fun hc39 => ?_
 refine br rfl (fun hc40 => ?_) fun hc40 => ?_
 refine vl rfl rfl (fun a w hf hO => zk (o := 0) (vs := [int r33.1.Kind, str r33.1.Method, str r33.1.Target, int r33.1.Code, str r33.1.Reason, int r33.1.Minor, .slice p34 r33.1.Fields.length c35]) zai zz (hO.blkSees (i := 1) rfl) rfl rfl hf rfl) ?_
 refine vl rfl rfl (fun a w hf hO => zk (o := 0) (vs := [int r8.Kind, str r8.Method, str r8.Target, int r8.Code, str r8.Reason, int r8.Minor, .slice p9 r8.Fields.length c10]) zai zz (hO.blkSees (i := 4) rfl) rfl rfl hf rfl) ?_
 refine cl c_13 rfl (fun r41 w hr41 hO => zoK r33.1 r8 r41 _ (hG.own hF hO).1 (hO.rowSees (i := 2) rfl) (hO.rowCap (i := 2) rfl) (hO.rowSees (i := 3) rfl) (hO.rowCap (i := 3) rfl) hr41) fun r41 hr41 => ?_
 exact en rfl fun a w hf hO hm => ⟨r41, hf.sel rfl, hO, hm⟩
 exact en rfl fun a w hf hO hm => ⟨false, hf.sel rfl, hO, hm⟩
 exact en rfl fun a w hf hO hm => ⟨false, hf.sel rfl, hO, hm⟩
 exact en rfl fun a w hf hO hm => ⟨false, hf.sel rfl, hO, hm⟩
 rintro a w ⟨t42, hf, hO, hm⟩
 rw [zbG] at hm
 refine S.co tb ?_ hf hO hm
 exact rt Tryz.results6 rfl

end Go.Proofs
