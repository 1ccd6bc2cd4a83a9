/-
  Walks, written by a program (wip/gen): what its model says, the function returns; what was there before is as it was.
  Walks, written by a program (wip/gen): what its model says, the function returns; what was there before is as it was.
  Walks, written by a program (wip/gen): what its model says, the function returns; what was there before is as it was.
  Walks, written by a program (wip/gen): what its model says, the function returns; what was there before is as it was.
-/
import Derived.Test.YtbebpdfhbpedjaaGreatDoorLib
import Derived.Test.YtbebpdfhbpedjaaGreatDoorW4
section
set_option linter.unusedVariables false
set_option maxHeartbeats 1000000
set_option linter.unusedSimpArgs false
set_option maxRecDepth 100000
namespace Go.Proofs
open Go.Dk Go.Dm Go.RowKit

theorem zff (x_s : Str) (R : Str) (w0 : World) (hG : zt w0) (hm : zdJ x_s = some R) :
    Calls Tryz.prog 30 #[str x_s] w0 (Ret w0 (fun R => str R) R) := by
 rw [zdJ] at hm
 have hF : zG [] := ze
 have hO : Dk.Own w0 [] w0 [] := Dk.Own.refl w0
 refine S.enter tb Tryz.func30 rfl Tryz.ntmps30 rfl ?_ hO hm
 refine vl rfl rfl (fun a w hf hO => zqW (m := (x_s.length : Int)) (n := 400) hf rfl rfl) ?_
 refine bi rfl fun s2 hs2 => ?_
 exact rt Tryz.results30 rfl

theorem zov (x_h : api_Head) (R : api_Head) (w0 : World) (hG : zt w0) {x_h_p0 : Option Addr} {x_h_c0 : Nat} (hs0 : zaU w0 x_h_p0 (cells za x_h.Fields)) (hc0 : x_h.Fields.length ≤ x_h_c0) (hm : zgG x_h = some R) :
    Calls Tryz.prog 9 #[.agg #[int x_h.Kind, str x_h.Method, str x_h.Target, int x_h.Code, str x_h.Reason, int x_h.Minor, .slice x_h_p0 x_h.Fields.length x_h_c0]] w0 fun e w' => ∃ (p0 : Option Addr) (c0 : Nat), e = .returned (.agg #[int R.Kind, str R.Method, str R.Target, int R.Code, str R.Reason, int R.Minor, .slice p0 R.Fields.length c0]) ∧ Dk.Own w0 [] w' [.row (.slice p0 R.Fields.length c0) 71 2 R.Fields.length (cells za R.Fields)] := by
 rw [zgG] at hm
 have hF : zG [] := ze
 have hO : Dk.Own w0 [] w0 [] := Dk.Own.refl w0
 have hO := hO.addShr hs0 (by simp [Res.shared])
 refine S.enter tb Tryz.func9 rfl Tryz.ntmps9 rfl ?_ hO hm
 refine rw_ rfl fun a w hf hO hm => ?_
 refine zen (v := .agg #[int x_h.Kind, str x_h.Method, str x_h.Target, int x_h.Code, str x_h.Reason, int x_h.Minor, .slice x_h_p0 x_h.Fields.length x_h_c0]) (cs := [int x_h.Kind, str x_h.Method, str x_h.Target, int x_h.Code, str x_h.Reason, int x_h.Minor, .slice x_h_p0 x_h.Fields.length x_h_c0]) rfl hf rfl rfl hO fun a b1 w hf hO => ?_
 refine S.op tb ?_ hf hO hm
 refine rw_ rfl fun a w hf hO hm => ?_
 refine zal al_29 hf rfl hO fun a b2 w hf hO => ?_
 have hO := hO.nilRow 71 2
 refine S.op tb ?_ hf hO hm
 refine vl rfl rfl (fun a w hf hO => zb (o := 1) zab (hO.blkSees (i := 2) rfl) rfl hf rfl) ?_
 refine cl c_30 rfl (fun r4 w hr4 hO => zff x_h.Method r4 _ (hG.own hF hO) hr4) fun r4 hr4 => ?_
 refine rw_ rfl fun a w hf hO hm => ?_
 refine zP (i := 2) (o := 1) (v := str r4) zd3 rfl rfl rfl rfl hf rfl rfl hO fun w hO => ?_
 refine S.op tb ?_ hf hO hm
 refine vl rfl rfl (fun a w hf hO => zb (o := 2) zab (hO.blkSees (i := 2) rfl) rfl hf rfl) ?_
 refine cl c_30 rfl (fun r6 w hr6 hO => zff x_h.Target r6 _ (hG.own hF hO) hr6) fun r6 hr6 => ?_
 refine rw_ rfl fun a w hf hO hm => ?_
 refine zP (i := 2) (o := 2) (v := str r6) zd3 rfl rfl rfl rfl hf rfl rfl hO fun w hO => ?_
 refine S.op tb ?_ hf hO hm
 refine vl rfl rfl (fun a w hf hO => zb (o := 4) zab (hO.blkSees (i := 2) rfl) rfl hf rfl) ?_
 refine cl c_30 rfl (fun r8 w hr8 hO => zff x_h.Reason r8 _ (hG.own hF hO) hr8) fun r8 hr8 => ?_
 refine rw_ rfl fun a w hf hO hm => ?_
 refine zP (i := 2) (o := 4) (v := str r8) zd3 rfl rfl rfl rfl hf rfl rfl hO fun w hO => ?_
 refine S.op tb ?_ hf hO hm
 refine nl 71 2 ?_
 refine lp (fun k a w => ∃ (p12 : Option Addr) (c13 : Nat) (l14 : List api_Field) (i15 : Int), Fits 49 [(1, ptr b1 0), (2, ptr b2 0), (3, .slice p12 l14.length c13), (4, int i15)] a ∧ Dk.Own w0 [] w [.row (.slice p12 l14.length c13) 71 2 l14.length (cells za l14), .row (.slice none 0 0) 71 2 0 (cells za []), .blk b2 [int 0, str [], str [], int 0, str [], int 0, .slice none 0 0] 29, .blk b1 [int x_h.Kind, str r4, str r6, int x_h.Code, str r8, int x_h.Minor, .slice x_h_p0 x_h.Fields.length x_h_c0] 29, .shr x_h_p0 (cells za x_h.Fields)] ∧ zbE x_h r4 r6 r8 k l14 i15 = some R) rfl (fun a w hf hO hm => ⟨none, 0, [], 0, hf.sel rfl, hO, hm⟩) ?_
 rintro n1 a w ⟨p12, c13, l14, i15, hf, hO, hm⟩
 obtain _ | n1 := n1
 rw [zbE] at hm
 cases hm
 rw [zbE] at hm
 refine S.co tb ?_ hf hO hm
 refine jn 4 (fun a w => ∃ (t17 : Bool), Fits 49 [(1, ptr b1 0), (2, ptr b2 0), (3, .slice p12 l14.length c13), (4, int i15), (25, .bool t17)] a ∧ Dk.Own w0 [] w [.row (.slice p12 l14.length c13) 71 2 l14.length (cells za l14), .row (.slice none 0 0) 71 2 0 (cells za []), .blk b2 [int 0, str [], str [], int 0, str [], int 0, .slice none 0 0] 29, .blk b1 [int x_h.Kind, str r4, str r6, int x_h.Code, str r8, int x_h.Minor, .slice x_h_p0 x_h.Fields.length x_h_c0] 29, .shr x_h_p0 (cells za x_h.Fields)] ∧ zeA (zbE x_h r4 r6 r8 n1) x_h r4 r6 r8 l14 i15 t17 = some R) rfl ?_ ?_
 refine vl rfl rfl (fun a w hf hO => zb (o := 6) zdj (hO.blkSees (i := 3) rfl) rfl hf rfl) ?_
 refine br rfl (fun hc16 => ?_) fun hc16 => ?_
 exact en rfl fun a w hf hO hm => ⟨decide (i15 < 120), hf.sel rfl, hO, hm⟩
 exact en rfl fun a w hf hO hm => ⟨false, hf.sel rfl, hO, hm⟩
 rintro a w ⟨t17, hf, hO, hm⟩
 rw [zeA] at hm
 refine S.co tb ?_ hf hO hm
 refine br rfl (fun hc18 => ?_) fun hc18 => ?_
 refine rc_ rfl fun a w hf hO hm => ?_
 obtain ⟨x20, hx20, hm⟩ := ob hm
 obtain ⟨b21, o22, hix20, hSx20⟩ := zeo (enc := za) (sz := 2) (xs := x_h.Fields) 24 Tryz.underlying24 zeM (by decide) (fun _ => rfl) (hO.sees (i := 4) rfl) hx20
 obtain ⟨r23, hr23, hm⟩ := ob hm
 obtain ⟨x24, hx24, hm⟩ := ob hm
 obtain ⟨b25, o26, hix24, hSx24⟩ := zeo (enc := za) (sz := 2) (xs := x_h.Fields) 24 Tryz.underlying24 zeM (by decide) (fun _ => rfl) (hO.sees (i := 4) rfl) hx24
 obtain ⟨r27, hr27, hm⟩ := ob hm
 obtain ⟨hg31, hm⟩ := og hm
 refine zfx (S := Nat × Option Addr × Nat) (E0 := [(1, ptr b1 0), (2, ptr b2 0), (3, .slice p12 l14.length c13), (4, int i15)]) (by kernel_rfl) (fun k σ w => match k with | 0 => Dk.Own w0 [] w [.row (.slice p12 l14.length c13) 71 2 l14.length (cells za l14), .row (.slice none 0 0) 71 2 0 (cells za []), .blk b2 [int 0, str [], str [], int 0, str [], int 0, .slice none 0 0] 29, .blk b1 [int x_h.Kind, str r4, str r6, int x_h.Code, str r8, int x_h.Minor, .slice x_h_p0 x_h.Fields.length x_h_c0] 29, .shr x_h_p0 (cells za x_h.Fields)] | 1 => Dk.Own w0 [] w [.row (.slice p12 l14.length c13) 71 2 l14.length (cells za l14), .row (.slice none 0 0) 71 2 0 (cells za []), .blk b2 [int 0, str [], str [], int 0, str [], int 0, .slice none 0 0] 29, .blk b1 [int x_h.Kind, str r4, str r6, int x_h.Code, str r8, int x_h.Minor, .slice x_h_p0 x_h.Fields.length x_h_c0] 29, .shr x_h_p0 (cells za x_h.Fields)] | 2 => Dk.Own w0 [] w [.row (.slice p12 l14.length c13) 71 2 l14.length (cells za l14), .row (.slice none 0 0) 71 2 0 (cells za []), .blk b2 [int 0, str [], str [], int 0, str [], int 0, .slice none 0 0] 29, .blk b1 [int x_h.Kind, str r4, str r6, int x_h.Code, str r8, int x_h.Minor, .slice x_h_p0 x_h.Fields.length x_h_c0] 29, .shr x_h_p0 (cells za x_h.Fields)] | 3 => Dk.Own w0 [] w [.row (.slice (some ⟨(σ.1), 0, none⟩) (([(⟨r23, r27⟩ : api_Field)]).length) 1) 71 2 (([(⟨r23, r27⟩ : api_Field)]).length) (cells za ([(⟨r23, r27⟩ : api_Field)])), .row (.slice p12 l14.length c13) 71 2 l14.length (cells za l14), .row (.slice none 0 0) 71 2 0 (cells za []), .blk b2 [int 0, str [], str [], int 0, str [], int 0, .slice none 0 0] 29, .blk b1 [int x_h.Kind, str r4, str r6, int x_h.Code, str r8, int x_h.Minor, .slice x_h_p0 x_h.Fields.length x_h_c0] 29, .shr x_h_p0 (cells za x_h.Fields)] | _ => Dk.Own w0 [] w [.row (.slice (some ⟨(σ.1), 0, none⟩) (([(⟨r23, r27⟩ : api_Field)]).length) 1) 71 2 (([(⟨r23, r27⟩ : api_Field)]).length) (cells za ([(⟨r23, r27⟩ : api_Field)])), .row (.slice (σ.2.1) ((l14 ++ [(⟨r23, r27⟩ : api_Field)]).length) (σ.2.2)) 71 2 ((l14 ++ [(⟨r23, r27⟩ : api_Field)]).length) (cells za (l14 ++ [(⟨r23, r27⟩ : api_Field)])), .row (.slice none 0 0) 71 2 0 (cells za []), .blk b2 [int 0, str [], str [], int 0, str [], int 0, .slice none 0 0] 29, .blk b1 [int x_h.Kind, str r4, str r6, int x_h.Code, str r8, int x_h.Minor, .slice x_h_p0 x_h.Fields.length x_h_c0] 29, .shr x_h_p0 (cells za x_h.Fields)]) (fun σ => [⟨[(3, .slice p12 l14.length c13)], some (28, .slice p12 l14.length c13)⟩, ⟨[(1, ptr b1 0)], some (29, ptr b1 6)⟩, ⟨[(29, ptr b1 6)], some (30, .slice x_h_p0 x_h.Fields.length x_h_c0)⟩, ⟨[(4, int i15)], some (31, int i15)⟩, ⟨[(30, .slice x_h_p0 x_h.Fields.length x_h_c0), (31, int i15)], some (32, ptr b21 o22)⟩, ⟨[(32, ptr b21 o22)], some (33, ptr b21 o22)⟩, ⟨[(33, ptr b21 o22)], some (34, str x20.Name)⟩, ⟨[(34, str x20.Name)], some (35, str r23)⟩, ⟨[(1, ptr b1 0)], some (36, ptr b1 6)⟩, ⟨[(36, ptr b1 6)], some (37, .slice x_h_p0 x_h.Fields.length x_h_c0)⟩, ⟨[(4, int i15)], some (38, int i15)⟩, ⟨[(37, .slice x_h_p0 x_h.Fields.length x_h_c0), (38, int i15)], some (39, ptr b25 o26)⟩, ⟨[(39, ptr b25 o26)], some (40, ptr b25 (o26 + 1))⟩, ⟨[(40, ptr b25 (o26 + 1))], some (41, str x24.Value)⟩, ⟨[(41, str x24.Value)], some (42, str r27)⟩, ⟨[(35, str r23), (42, str r27)], some (43, .agg #[str r23, str r27])⟩, ⟨[(43, .agg #[str r23, str r27])], some (44, .slice (some ⟨(σ.1), 0, none⟩) (([(⟨r23, r27⟩ : api_Field)]).length) 1)⟩, ⟨[(28, .slice p12 l14.length c13), (44, .slice (some ⟨(σ.1), 0, none⟩) (([(⟨r23, r27⟩ : api_Field)]).length) 1)], some (45, .slice (σ.2.1) ((l14 ++ [(⟨r23, r27⟩ : api_Field)]).length) (σ.2.2))⟩, ⟨[(45, .slice (σ.2.1) ((l14 ++ [(⟨r23, r27⟩ : api_Field)]).length) (σ.2.2))], some (3, .slice (σ.2.1) ((l14 ++ [(⟨r23, r27⟩ : api_Field)]).length) (σ.2.2))⟩]) (0, none, 0) [7, 14, 16, 17] rfl (fun _ => rfl) (fun _ => rfl) (fun _ => rfl) rfl rfl (by decide) rfl hO.drew (hf.cons rfl (hf.cons rfl (hf.cons rfl (hf.cons rfl hf.nil)))) (fun σ => ⟨⟨rfl, trivial⟩, ⟨rfl, trivial⟩, ⟨rfl, trivial⟩, ⟨rfl, trivial⟩, ⟨rfl, rfl, trivial⟩, ⟨rfl, trivial⟩, ⟨rfl, trivial⟩, ⟨rfl, trivial⟩, ⟨rfl, trivial⟩, ⟨rfl, trivial⟩, ⟨rfl, trivial⟩, ⟨rfl, rfl, trivial⟩, ⟨rfl, trivial⟩, ⟨rfl, trivial⟩, ⟨rfl, trivial⟩, ⟨rfl, rfl, trivial⟩, ⟨rfl, trivial⟩, ⟨rfl, rfl, trivial⟩, ⟨rfl, trivial⟩, trivial⟩) ⟨zj rfl (fun σ => rfl) (fun σ => rfl) (fun σ a w k _ _ _ _ hf => zv hf rfl), zj rfl (fun σ => rfl) (fun σ => rfl) (fun σ a w k _ _ _ _ hf => zaz znl hf rfl), zj rfl (fun σ => rfl) (fun σ => rfl) (fun σ a w k hk hlo hup hst hf => match k, hk, hlo, hup, hst, hf with | 0, _, _, _, hst, hf => have hO : Dk.Own w0 [] w _ := hst; zb (o := 6) zdj (hO.blkSees (i := 3) rfl) rfl hf rfl | 1, _, _, _, hst, hf => have hO : Dk.Own w0 [] w _ := hst; zb (o := 6) zdj (hO.blkSees (i := 3) rfl) rfl hf rfl | 2, _, _, _, hst, hf => have hO : Dk.Own w0 [] w _ := hst; zb (o := 6) zdj (hO.blkSees (i := 3) rfl) rfl hf rfl | 3, _, _, _, hst, hf => have hO : Dk.Own w0 [] w _ := hst; zb (o := 6) zdj (hO.blkSees (i := 4) rfl) rfl hf rfl | 4, _, _, _, hst, hf => have hO : Dk.Own w0 [] w _ := hst; zb (o := 6) zdj (hO.blkSees (i := 4) rfl) rfl hf rfl | k + 5, hk, _, _, _, _ => absurd hk (by simp)), zj rfl (fun σ => rfl) (fun σ => rfl) (fun σ a w k _ _ _ _ hf => zv hf rfl), zj rfl (fun σ => rfl) (fun σ => rfl) (fun σ a w k _ _ _ _ hf => zp hix20 hf rfl rfl), zj rfl (fun σ => rfl) (fun σ => rfl) (fun σ a w k _ _ _ _ hf => zaz zpg hf rfl), zj rfl (fun σ => rfl) (fun σ => rfl) (fun σ a w k hk hlo hup hst hf => match k, hk, hlo, hup, hst, hf with | 0, _, _, _, hst, hf => have hO : Dk.Own w0 [] w _ := hst; zb (o := 0) zab (hSx20 _ (hO.sees (i := 4) rfl)) rfl hf rfl | 1, _, _, _, hst, hf => have hO : Dk.Own w0 [] w _ := hst; zb (o := 0) zab (hSx20 _ (hO.sees (i := 4) rfl)) rfl hf rfl | 2, _, _, _, hst, hf => have hO : Dk.Own w0 [] w _ := hst; zb (o := 0) zab (hSx20 _ (hO.sees (i := 4) rfl)) rfl hf rfl | 3, _, _, _, hst, hf => have hO : Dk.Own w0 [] w _ := hst; zb (o := 0) zab (hSx20 _ (hO.sees (i := 5) rfl)) rfl hf rfl | 4, _, _, _, hst, hf => have hO : Dk.Own w0 [] w _ := hst; zb (o := 0) zab (hSx20 _ (hO.sees (i := 5) rfl)) rfl hf rfl | k + 5, hk, _, _, _, _ => absurd hk (by simp)), zmQ rfl (fun σ => rfl) (fun σ => rfl) rfl (fun σ a w (_ : _) hf => zr c_30 hf (vs := [str x20.Name]) rfl) (fun σ w (hO : Dk.Own w0 [] w _) => (zff x20.Name r23 _ (hG.own hF hO) hr23).mono fun e w' h => by obtain ⟨he, hb⟩ := h; exact ⟨((σ.1), (σ.2.1), (σ.2.2)), he, hO.grow hb, .inr rfl, .inr rfl, .inr rfl, .inr rfl, .inr rfl, .inr rfl, .inr rfl, .inr rfl, .inr rfl, .inr rfl, .inr rfl, .inr rfl, .inr rfl, .inr rfl, .inr rfl, .inr rfl, .inr rfl, .inr rfl, .inr rfl, trivial⟩), zj rfl (fun σ => rfl) (fun σ => rfl) (fun σ a w k _ _ _ _ hf => zaz znl hf rfl), zj rfl (fun σ => rfl) (fun σ => rfl) (fun σ a w k hk hlo hup hst hf => match k, hk, hlo, hup, hst, hf with | 0, _, _, _, hst, hf => have hO : Dk.Own w0 [] w _ := hst; zb (o := 6) zdj (hO.blkSees (i := 3) rfl) rfl hf rfl | 1, _, _, _, hst, hf => have hO : Dk.Own w0 [] w _ := hst; zb (o := 6) zdj (hO.blkSees (i := 3) rfl) rfl hf rfl | 2, _, _, _, hst, hf => have hO : Dk.Own w0 [] w _ := hst; zb (o := 6) zdj (hO.blkSees (i := 3) rfl) rfl hf rfl | 3, _, _, _, hst, hf => have hO : Dk.Own w0 [] w _ := hst; zb (o := 6) zdj (hO.blkSees (i := 4) rfl) rfl hf rfl | 4, _, _, _, hst, hf => have hO : Dk.Own w0 [] w _ := hst; zb (o := 6) zdj (hO.blkSees (i := 4) rfl) rfl hf rfl | k + 5, hk, _, _, _, _ => absurd hk (by simp)), zj rfl (fun σ => rfl) (fun σ => rfl) (fun σ a w k _ _ _ _ hf => zv hf rfl), zj rfl (fun σ => rfl) (fun σ => rfl) (fun σ a w k _ _ _ _ hf => zp hix24 hf rfl rfl), zj rfl (fun σ => rfl) (fun σ => rfl) (fun σ a w k _ _ _ _ hf => zaz zkC hf rfl), zj rfl (fun σ => rfl) (fun σ => rfl) (fun σ a w k hk hlo hup hst hf => match k, hk, hlo, hup, hst, hf with | 0, _, _, _, hst, hf => have hO : Dk.Own w0 [] w _ := hst; zb (o := 1) zab (hSx24 _ (hO.sees (i := 4) rfl)) rfl hf rfl | 1, _, _, _, hst, hf => have hO : Dk.Own w0 [] w _ := hst; zb (o := 1) zab (hSx24 _ (hO.sees (i := 4) rfl)) rfl hf rfl | 2, _, _, _, hst, hf => have hO : Dk.Own w0 [] w _ := hst; zb (o := 1) zab (hSx24 _ (hO.sees (i := 4) rfl)) rfl hf rfl | 3, _, _, _, hst, hf => have hO : Dk.Own w0 [] w _ := hst; zb (o := 1) zab (hSx24 _ (hO.sees (i := 5) rfl)) rfl hf rfl | 4, _, _, _, hst, hf => have hO : Dk.Own w0 [] w _ := hst; zb (o := 1) zab (hSx24 _ (hO.sees (i := 5) rfl)) rfl hf rfl | k + 5, hk, _, _, _, _ => absurd hk (by simp)), zmQ rfl (fun σ => rfl) (fun σ => rfl) rfl (fun σ a w (_ : _) hf => zr c_30 hf (vs := [str x24.Value]) rfl) (fun σ w (hO : Dk.Own w0 [] w _) => (zff x24.Value r27 _ (hG.own hF hO) hr27).mono fun e w' h => by obtain ⟨he, hb⟩ := h; exact ⟨((σ.1), (σ.2.1), (σ.2.2)), he, hO.grow hb, .inr rfl, .inr rfl, .inr rfl, .inr rfl, .inr rfl, .inr rfl, .inr rfl, .inr rfl, .inr rfl, .inr rfl, .inr rfl, .inr rfl, .inr rfl, .inr rfl, .inr rfl, .inr rfl, .inr rfl, .inr rfl, .inr rfl, trivial⟩), zj rfl (fun σ => rfl) (fun σ => rfl) (fun σ a w k _ _ _ _ hf => zS (vs := [(0, str r23), (1, str r27)]) (v := .agg #[str r23, str r27]) hf rfl (by kernel_rfl)), zmR rfl (fun σ => rfl) (fun σ => rfl) rfl (fun σ w (hO : Dk.Own w0 [] w _) => by obtain ⟨b28, w', hO', hr⟩ := zh4 (E := [(43, .agg #[str r23, str r27])]) (parts := #[(0, (.tmp 43))]) (t' := 24) (n := 1) (vs := [(0, .agg #[str r23, str r27])]) (cs := [str r23, str r27]) (e := 71) (sz := 2) (fun w => by kernel_rfl) rfl rfl hO rfl; exact ⟨(b28, (σ.2.1), (σ.2.2)), w', hO', ⟨.inr rfl, .inr rfl, .inr rfl, .inr rfl, .inr rfl, .inr rfl, .inr rfl, .inr rfl, .inr rfl, .inr rfl, .inr rfl, .inr rfl, .inr rfl, .inr rfl, .inr rfl, .inr rfl, .inl rfl, .inl rfl, .inr rfl, trivial⟩, hr⟩), zmR rfl (fun σ => rfl) (fun σ => rfl) rfl (fun σ w (hO : Dk.Own w0 [] w _) => by obtain ⟨p29, c30, w', hO', hr⟩ := zpp (E := [(28, .slice p12 l14.length c13), (44, .slice (some ⟨(σ.1), 0, none⟩) (([(⟨r23, r27⟩ : api_Field)]).length) 1)]) (x := (.tmp 28)) (y := (.tmp 44)) zn3 (enc := za) (xs := l14) (ys := [(⟨r23, r27⟩ : api_Field)]) (i := 1) (fun _ => rfl) rfl (hO.rowSees (i := 0) rfl) (by simp [cells, za, Value.oneCell']) hg31 hO rfl rfl; exact ⟨((σ.1), p29, c30), w', hO', ⟨.inr rfl, .inr rfl, .inr rfl, .inr rfl, .inr rfl, .inr rfl, .inr rfl, .inr rfl, .inr rfl, .inr rfl, .inr rfl, .inr rfl, .inr rfl, .inr rfl, .inr rfl, .inr rfl, .inr rfl, .inl rfl, .inl rfl, trivial⟩, hr⟩), zj rfl (fun σ => rfl) (fun σ => rfl) (fun σ a w k _ _ _ _ hf => zcY hf rfl), trivial⟩ ?_
 rintro ⟨b28, p29, c30⟩ a w hf hO
 have hO : Dk.Own w0 [] w _ := hO
 have hf : Fits 49 [(1, ptr b1 0), (2, ptr b2 0), (3, .slice p29 ((l14 ++ [(⟨r23, r27⟩ : api_Field)]).length) c30), (4, int i15)] a := (hf.cons rfl (hf.cons rfl (hf.cons rfl (hf.cons rfl hf.nil))))
 refine S.no tb ?_ hf hO hm
 refine bi rfl fun i33 hi33 => ?_
 exact en rfl fun a w hf hO hm => ⟨_, Nat.lt_succ_self _, p29, c30, l14 ++ [(⟨r23, r27⟩ : api_Field)], i33, hf.sel rfl, (hO.sub (.cons _ (.cons_cons _ (.cons_cons _ (.cons_cons _ (.cons_cons _ (.cons_cons _ .slnil))))))), hm⟩
 refine rw_ rfl fun a w hf hO hm => ?_
 refine zP (i := 3) (o := 6) (v := .slice p12 l14.length c13) sz_24 rfl rfl rfl rfl hf rfl rfl hO fun w hO => ?_
 refine S.op tb ?_ hf hO hm
 refine vl rfl rfl (fun a w hf hO => zK (o := 0) (vs := [int x_h.Kind, str r4, str r6, int x_h.Code, str r8, int x_h.Minor, .slice p12 l14.length c13]) ag_29 zrf (hO.blkSees (i := 3) rfl) rfl rfl hf rfl) ?_
 refine rw_ rfl fun a w hf hO hm => ?_
 refine zu (i := 2) (n := 7) zrf rfl rfl rfl (by simp [Value.oneCell']) hf rfl rfl hO fun w hO => ?_
 refine S.op tb ?_ hf hO hm
 refine re_ rfl fun a w hf hO hm => ?_
 obtain rfl := Option.some.inj hm
 exact zi Tryz.results9 hf (.cell rfl (zx (n := 7) (vs := [int x_h.Kind, str r4, str r6, int x_h.Code, str r8, int x_h.Minor, .slice p12 l14.length c13]) ag_29 zrf rfl ((hO.blkSees (i := 2) rfl).cells (o := 0) (n := 7) rfl)) .nil) ⟨p12, c13, rfl, (hO.sub (.cons_cons _ (.cons _ (.cons _ (.cons _ (.cons _ .slnil))))))⟩

theorem zji (x_sep : Str) (x_l : List Str) (R : Str) (w0 : World) (hG : zt w0) {x_l_p0 : Option Addr} {x_l_c0 : Nat} (hs0 : zaU w0 x_l_p0 (cells zd x_l)) (hc0 : x_l.length ≤ x_l_c0) (hm : zdo x_sep x_l = some R) :
    Calls Tryz.prog 53 #[str x_sep, .slice x_l_p0 x_l.length x_l_c0] w0 (Ret w0 (fun R => str R) R) := by
 rw [zdo] at hm
 have hF : zG [] := ze
 have hO : Dk.Own w0 [] w0 [] := Dk.Own.refl w0
 have hO := hO.addShr hs0 (by simp [Res.shared])
 refine S.enter tb Tryz.func53 rfl Tryz.ntmps53 rfl ?_ hO hm
 refine cl c_89 rfl (fun r2 w hr2 hO => zlM x_l x_sep r2 _ (hG.own hF hO) (hO.sees (i := 0) rfl) hc0 hr2) fun r2 hr2 => ?_
 exact rt Tryz.results53 rfl

theorem zo7 (x_v : api_Via) (R : Str × Int) (w0 : World) (hG : zbH w0) (hm : zhQ x_v = some R) :
    Calls Tryz.prog 31 #[.agg #[str x_v.Proto, str x_v.Version, str x_v.By, str x_v.Comment]] w0 (Ret w0 (fun R => .tuple #[str R.1, int R.2]) R) := by
 rw [zhQ] at hm
 have hF : zG [] := ze
 have hO : Dk.Own w0 [] w0 [] := Dk.Own.refl w0
 refine S.enter tb Tryz.func31 rfl Tryz.ntmps31 rfl ?_ hO hm
 refine rw_ rfl fun a w hf hO hm => ?_
 refine zen (v := .agg #[str x_v.Proto, str x_v.Version, str x_v.By, str x_v.Comment]) (cs := [str x_v.Proto, str x_v.Version, str x_v.By, str x_v.Comment]) rfl hf rfl rfl hO fun a b1 w hf hO => ?_
 refine S.op tb ?_ hf hO hm
 refine vl rfl rfl (fun a w hf hO => zb (o := 1) zab (hO.blkSees (i := 0) rfl) rfl hf rfl) ?_
 refine vl rfl rfl (fun a w hf hO => zb (o := 2) zab (hO.blkSees (i := 0) rfl) rfl hf rfl) ?_
 refine rw_ rfl fun a w hf hO hm => ?_
 refine zs (vs := [(0, str x_v.Version), (1, str [32]), (2, str x_v.By)]) (cs := [str x_v.Version, str [32], str x_v.By]) (e := 9) (sz := 1) hf rfl rfl (fun w => by kernel_rfl) rfl rfl hO fun a b3 w hf hO => ?_
 refine S.op tb ?_ hf hO hm
 refine jn 0 (fun a w => ∃ (p11 : Option Addr) (c12 : Nat) (l13 : List Str), Fits 44 [(1, ptr b1 0), (4, .slice p11 l13.length c12)] a ∧ Dk.Own w0 [] w [.blk b1 [str x_v.Proto, str x_v.Version, str x_v.By, str x_v.Comment] 23, .row (.slice p11 l13.length c12) 9 1 l13.length (cells zd l13)] ∧ zed x_v l13 = some R) rfl ?_ ?_
 refine vl rfl rfl (fun a w hf hO => zb (o := 0) zab (hO.blkSees (i := 1) rfl) rfl hf rfl) ?_
 refine br rfl (fun hc6 => ?_) fun hc6 => ?_
 refine vl rfl rfl (fun a w hf hO => zb (o := 0) zab (hO.blkSees (i := 1) rfl) rfl hf rfl) ?_
 refine rw_ rfl fun a w hf hO hm => ?_
 refine zs (vs := [(0, str x_v.Proto), (1, str [47])]) (cs := [str x_v.Proto, str [47]]) (e := 9) (sz := 1) hf rfl rfl (fun w => by kernel_rfl) rfl rfl hO fun a b7 w hf hO => ?_
 refine S.op tb ?_ hf hO hm
 refine rw_ rfl fun a w hf hO hm => ?_
 obtain ⟨hg10, hm⟩ := og hm
 refine zbS zlr (enc := zd) (xs := ([x_v.Proto, [47]] : List Str)) (ys := ([x_v.Version, [32], x_v.By] : List Str)) (i := 0) (fun _ => rfl) rfl (hO.rowSees (i := 1) rfl) (by simp [cells, zd, Value.oneCell']) hg10 hf rfl rfl rfl hO fun a p8 c9 w hf hO => ?_
 refine S.op tb ?_ hf hO hm
 exact en rfl fun a w hf hO hm => ⟨p8, c9, ([x_v.Proto, [47]] : List Str) ++ ([x_v.Version, [32], x_v.By] : List Str), hf.sel rfl, (hO.choose [2, 0] rfl), hm⟩
 exact en rfl fun a w hf hO hm => ⟨some ⟨b3, 0, none⟩, 3, ([x_v.Version, [32], x_v.By] : List Str), hf.sel rfl, (hO.choose [1, 0] rfl), hm⟩
 rintro a w ⟨p11, c12, l13, hf, hO, hm⟩
 rw [zed] at hm
 refine S.co tb ?_ hf hO hm
 refine jn 0 (fun a w => ∃ (p20 : Option Addr) (c21 : Nat) (l22 : List Str), Fits 44 [(1, ptr b1 0), (4, .slice p20 l22.length c21)] a ∧ Dk.Own w0 [] w [.blk b1 [str x_v.Proto, str x_v.Version, str x_v.By, str x_v.Comment] 23, .row (.slice p20 l22.length c21) 9 1 l22.length (cells zd l22)] ∧ zec x_v l22 = some R) rfl ?_ ?_
 refine vl rfl rfl (fun a w hf hO => zb (o := 3) zab (hO.blkSees (i := 0) rfl) rfl hf rfl) ?_
 refine br rfl (fun hc15 => ?_) fun hc15 => ?_
 refine vl rfl rfl (fun a w hf hO => zb (o := 3) zab (hO.blkSees (i := 0) rfl) rfl hf rfl) ?_
 refine rw_ rfl fun a w hf hO hm => ?_
 refine zs (vs := [(0, str [32, 40]), (1, str x_v.Comment), (2, str [41])]) (cs := [str [32, 40], str x_v.Comment, str [41]]) (e := 9) (sz := 1) hf rfl rfl (fun w => by kernel_rfl) rfl rfl hO fun a b16 w hf hO => ?_
 refine S.op tb ?_ hf hO hm
 refine rw_ rfl fun a w hf hO hm => ?_
 obtain ⟨hg19, hm⟩ := og hm
 refine zbS zlr (enc := zd) (xs := l13) (ys := ([[32, 40], x_v.Comment, [41]] : List Str)) (i := 2) (fun _ => rfl) rfl (hO.rowSees (i := 0) rfl) (by simp [cells, zd, Value.oneCell']) hg19 hf rfl rfl rfl hO fun a p17 c18 w hf hO => ?_
 refine S.op tb ?_ hf hO hm
 exact en rfl fun a w hf hO hm => ⟨p17, c18, l13 ++ ([[32, 40], x_v.Comment, [41]] : List Str), hf.sel rfl, (hO.sub (.cons _ (.cons_cons _ (.cons_cons _ .slnil)))), hm⟩
 exact en rfl fun a w hf hO hm => ⟨p11, c12, l13, hf.sel rfl, hO, hm⟩
 rintro a w ⟨p20, c21, l22, hf, hO, hm⟩
 rw [zec] at hm
 refine S.co tb ?_ hf hO hm
 refine cl c_53 rfl (fun r23 w hr23 hO => zji [] l22 r23 _ (hG.own hF hO).1 (hO.rowSees (i := 1) rfl) (hO.rowCap (i := 1) rfl) hr23) fun r23 hr23 => ?_
 refine cl c_39 rfl (fun r25 w hr25 hO => zj3 r23 r25 _ (hG.own hF hO) hr25) fun r25 hr25 => ?_
 refine rw_ rfl fun a w hf hO hm => ?_
 refine zal zj6 hf rfl hO fun a b26 w hf hO => ?_
 refine S.op tb ?_ hf hO hm
 refine rw_ rfl fun a w hf hO hm => ?_
 refine zu (i := 0) (n := 4) zaV rfl rfl rfl (by simp [Value.oneCell']) hf rfl rfl hO fun w hO => ?_
 refine S.op tb ?_ hf hO hm
 refine jn 1 (fun a w => ∃ (t29 : Bool), Fits 44 [(5, str r23), (42, .bool t29)] a ∧ Dk.Own w0 [] w [.blk b26 [str r25.1.Proto, str r25.1.Version, str r25.1.By, str r25.1.Comment] 23, .blk b1 [str x_v.Proto, str x_v.Version, str x_v.By, str x_v.Comment] 23, .row (.slice p20 l22.length c21) 9 1 l22.length (cells zd l22)] ∧ zfj r23 t29 = some R) rfl ?_ ?_
 refine br rfl (fun hc28 => ?_) fun hc28 => ?_
 exact en rfl fun a w hf hO hm => ⟨true, hf.sel rfl, hO, hm⟩
 refine vl rfl rfl (fun a w hf hO => zK (o := 0) (vs := [str r25.1.Proto, str r25.1.Version, str r25.1.By, str r25.1.Comment]) zdi zaV (hO.blkSees (i := 0) rfl) rfl rfl hf rfl) ?_
 refine vl rfl rfl (fun a w hf hO => zK (o := 0) (vs := [str x_v.Proto, str x_v.Version, str x_v.By, str x_v.Comment]) zdi zaV (hO.blkSees (i := 1) rfl) rfl rfl hf rfl) ?_
 refine vl rfl rfl (fun a w hf hO => zi0 (by kernel_rfl) (zq7 r25.1 x_v) hf rfl rfl) ?_
 exact en rfl fun a w hf hO hm => ⟨!(r25.1 == x_v), hf.sel rfl, hO, hm⟩
 rintro a w ⟨t29, hf, hO, hm⟩
 rw [zfj] at hm
 refine S.co tb ?_ hf hO hm
 refine br rfl (fun hc30 => ?_) fun hc30 => ?_
 exact rt Tryz.results31 rfl
 exact rt Tryz.results31 rfl

theorem zbx (x_s : List api_Field) (R : List api_Field) (w0 : World) (hG : zt w0) {x_s_p0 : Option Addr} {x_s_c0 : Nat} (hs0 : zaU w0 x_s_p0 (cells za x_s)) (hc0 : x_s.length ≤ x_s_c0) (hm : zF x_s = some R) :
    Calls Tryz.prog 54 #[.slice x_s_p0 x_s.length x_s_c0] w0 fun e w' => ∃ (p0 : Option Addr) (c0 : Nat), e = .returned (.slice p0 R.length c0) ∧ Dk.Own w0 [] w' [.row (.slice p0 R.length c0) 71 2 R.length (cells za R)] := by
 rw [zF] at hm
 have hF : zG [] := ze
 have hO : Dk.Own w0 [] w0 [] := Dk.Own.refl w0
 have hO := hO.addShr hs0 (by simp [Res.shared])
 refine S.enter tb Tryz.func54 rfl Tryz.ntmps54 rfl ?_ hO hm
 refine nl 71 2 ?_
 refine vl rfl rfl (fun a w hf hO => zpL (ad := x_s_p0) Tryz.underlying24 hf rfl rfl) ?_
 refine rc_ rfl fun a w hf hO hm => ?_
 rcases zeK (x_s_p0.isNone) with hc3 | hc3
 have hxhc3 : x_s = [] := zpM (enc := za) (sz := 2) (fun _ => rfl) (by decide) (hO.sees (i := 1) rfl) hc3
 rw [hxhc3] at hm
 have hm : some [] = some R := by first | exact hm | (rw [hxhc3]; exact hm) | simpa [hxhc3] using hm
 refine zpB hf rfl hc3 ?_
 refine S.co tb ?_ hf hO hm
 refine nl 71 2 ?_
 refine re_ rfl fun a w hf hO hm => ?_
 obtain rfl := Option.some.inj hm
 exact zi Tryz.results54 hf (.tmp rfl .nil) ⟨none, 0, rfl, (hO.sub (.cons_cons _ (.cons _ (.cons _ .slnil))))⟩
 refine zpC hf rfl hc3 ?_
 refine S.co tb ?_ hf hO hm
 refine rw_ rfl fun a w hf hO hm => ?_
 refine zs (vs := []) (cs := []) (e := 71) (sz := 2) hf rfl rfl (fun w => by kernel_rfl) rfl rfl hO fun a b6 w hf hO => ?_
 refine S.op tb ?_ hf hO hm
 refine rw_ rfl fun a w hf hO hm => ?_
 obtain ⟨hg9, hm⟩ := og hm
 refine ziy zn3 (enc := za) (xs := []) (ys := x_s) (i := 0) (fun _ => rfl) rfl (hO.sees (i := 2) rfl) (by simp [za, Value.oneCell']) hg9 hf rfl rfl rfl hO fun a p7 c8 w hf hO => ?_
 refine S.op tb ?_ hf hO hm
 refine re_ rfl fun a w hf hO hm => ?_
 obtain rfl := Option.some.inj hm
 exact zi Tryz.results54 hf (.tmp rfl .nil) ⟨p7, c8, rfl, (hO.sub (.cons_cons _ (.cons _ (.cons _ .slnil))))⟩

theorem zp9 (x_l : List api_Field) (R : bag_Bag) (w0 : World) (hG : zt w0) {x_l_p0 : Option Addr} {x_l_c0 : Nat} (hs0 : zaU w0 x_l_p0 (cells za x_l)) (hc0 : x_l.length ≤ x_l_c0) (hm : zkG x_l = some R) :
    Calls Tryz.prog 32 #[.slice x_l_p0 x_l.length x_l_c0] w0 fun e w' => ∃ (b0 : Nat) (p1 : Option Addr) (c1 : Nat), e = .returned (ptr b0 0) ∧ Dk.Own w0 [] w' [.blk b0 [.slice p1 R.f_l.length c1] 100, .row (.slice p1 R.f_l.length c1) 71 2 R.f_l.length (cells za R.f_l)] := by
 rw [zkG] at hm
 have hF : zG [] := ze
 have hO : Dk.Own w0 [] w0 [] := Dk.Own.refl w0
 have hO := hO.addShr hs0 (by simp [Res.shared])
 refine S.enter tb Tryz.func32 rfl Tryz.ntmps32 rfl ?_ hO hm
 refine rw_ rfl fun a w hf hO hm => ?_
 obtain ⟨r2, hr2, hm⟩ := ob hm
 refine zo (zr c_54 hf (vs := [.slice x_l_p0 x_l.length x_l_c0]) rfl) rfl hf rfl rfl (zbx x_l r2 _ (hG.own hF hO) (hO.sees (i := 0) rfl) hc0 hr2) ?_
 rintro e w' ⟨p3, c4, he, hO'⟩
 refine ⟨_, he, fun a hf => ?_⟩
 have hO := hO.call hO' (by simp [Res.shared])
 refine S.op tb ?_ hf hO hm
 refine vl rfl rfl (fun a w hf hO => zS (vs := [(0, .slice p3 r2.length c4)]) (v := .agg #[.slice p3 r2.length c4]) hf rfl (by kernel_rfl)) ?_
 refine rw_ rfl fun a w hf hO hm => ?_
 refine zen (v := .agg #[.slice p3 r2.length c4]) (cs := [.slice p3 r2.length c4]) rfl hf rfl rfl hO fun a b5 w hf hO => ?_
 refine S.op tb ?_ hf hO hm
 refine re_ rfl fun a w hf hO hm => ?_
 obtain rfl := Option.some.inj hm
 exact zi Tryz.results32 hf (.tmp rfl .nil) ⟨b5, p3, c4, rfl, (hO.sub (.cons_cons _ (.cons_cons _ (.cons _ .slnil))))⟩

set_option maxHeartbeats 4000000 in
set_option maxRecDepth 100000 in
theorem zqa (s : ByteArray) (R : Str) (w0 : World) (hG : zt w0) (hsz : s.size < 4294967281) (hm : s.data.toList.mapM zah = some R)
    (hlow : ∀ b c w, zah b = some c → zt w → Calls Tryz.prog 128 #[.int .u8 (b.toNat : Int)] w fun e w' => e = .returned (.int .u8 (c.toNat : Int)) ∧ Below w.heap.size w w') :
    Calls Tryz.prog 90 #[.string s] w0 fun e w' => e = .returned (.string ⟨R.toArray⟩) ∧ Below w0.heap.size w0 w' := by
  obtain ⟨hlen, hat⟩ := mapM_at hm
  have HL : Aside (R.length = s.size) := hlen.trans (Lib.size_eq s).symm
  have HT : Aside (∀ (i : Nat) (a : UInt8), s.data.toList[i]? = some a → ∃ b, R[i]? = some b ∧ zah a = some b) := hat
  clear hlen hat hm
  have hcv := fun w => run_bytes_of_string (P := Tryz.prog) w 9 159 5 s Tryz.underlying9 Tryz.underlying159 Tryz.underlying5
  go_enter Tryz.func90, Tryz.ntmps90
  go_wp2
  go_loopg [4, 5, 10] s.size (fun g _ _ v wx => ∃ i : Nat, i + g = s.size ∧ v = .int .i64 (i : Int) ∧ Below w0.heap.size w0 wx ∧ ∃ (cur : Array Value) (fz : Nat × Nat), wx.heap[w0.heap.size]? = some (.cells cur 5 fz) ∧ cur.size ≤ fz.1 ∧ s.size ≤ cur.size ∧ ∀ j, j < s.size → cur[j]? = ((if j < i then R[j]? else s.data.toList[j]?).map zQ))
  case atStart =>
    have hrow : (bytesRow s (grownCap w0 s.size 0 5)).size = s.size + (grownCap w0 s.size 0 5 - s.size) := by
      have := Lib.size_eq s
      unfold bytesRow
      rw [Array.size_append, Array.size_map, Array.size_replicate]
      rfl
    refine ⟨0, by omega, rfl, ((Below.refl _ _).alloc (Nat.le_refl _) _).drew, _, _, zkL _, Nat.le_refl _, ?_, fun j hj => ?_⟩
    · omega
    · rw [if_neg (by omega)]
      unfold bytesRow
      rw [Array.getElem?_append_left (by simp [← Lib.size_eq]; exact hj), Array.getElem?_map]
      congr 1
      exact (Array.getElem?_toList ..).symm
  case round =>
    obtain ⟨i, hig, rfl, hB, cur, fz, hcur, hfz, hsc, hcell⟩ := hrel
    have HG : Aside (zt wr) := hG.own ze ((Dk.Own.refl w0).grow hB)
    have HB : Aside (Below w0.heap.size w0 wr) := hB
    have HC : Aside (wr.heap[w0.heap.size]? = some (.cells cur 5 fz)) := hcur
    have HF : Aside (cur.size ≤ fz.1 ∧ s.size ≤ cur.size) := ⟨hfz, hsc⟩
    have HX : Aside (∀ j, j < s.size → cur[j]? = ((if j < i then R[j]? else s.data.toList[j]?).map zQ)) := hcell
    clear hB hcell hfz hsc hcur
    by_cases hi : i < s.size
    · obtain ⟨x, hx⟩ : ∃ x, s.data.toList[i]? = some x := ⟨_, Lib.data_getElem? s i hi⟩
      obtain ⟨y, hyR, hy⟩ := HT.out i x hx
      have hcx : wr.cell? ⟨w0.heap.size, i, none⟩ = some (.int .u8 (x.toNat : Int)) := by
        have := HX.out i hi
        rw [if_neg (by omega), hx] at this
        simp [World.cell?, HC.out, this]
      have hfr : wr.frozen? ⟨w0.heap.size, i, none⟩ = false := by
        have := HF.out
        simp [World.frozen?, HC.out]; omega
      have hii : (i : Int) < (s.size : Int) := by omega
      have HY : Aside (R[i]? = some y) := hyR
      have HO : Aside (zah x = some y) := hy
      clear hyR hy hx
      go_wp2_with (go_at_call 128; refine (hlow x y _ HO.out HG.out).mono ?_; rintro e w' ⟨rfl, hb⟩; have hcx' : w'.cell? ⟨w0.heap.size, i, none⟩ = some (.int .u8 (x.toNat : Int)) := (hb.cell (p := ⟨w0.heap.size, i, none⟩) (Array.getElem?_eq_some_iff.1 HC.out).1).trans hcx; have hfr' : w'.frozen? ⟨w0.heap.size, i, none⟩ = false := (hb.frozen (p := ⟨w0.heap.size, i, none⟩) (Array.getElem?_eq_some_iff.1 HC.out).1).trans hfr)
      go_roundg (gk - 1)
      case measure => omega
      case rel =>
        have hlt := (Array.getElem?_eq_some_iff.1 HC.out).1
        have hcw : w'.heap[w0.heap.size]? = some (.cells cur 5 fz) := (hb.block _ hlt).trans HC.out
        refine ⟨i + 1, by omega, rfl, ?_, cur.setIfInBounds i (.int .u8 (y.toNat : Int)), fz, ?_, ?_, ?_, fun j hj => ?_⟩
        · exact (HB.out.trans (hb.mono HB.out.size)).setCell (p := ⟨w0.heap.size, i, none⟩) (Nat.le_refl _) _
        · simp [World.setCell, Array.getElem?_modify, hcw]
        · have := HF.out; simp; omega
        · have := HF.out; simp; omega
        · by_cases hji : j = i
          · subst hji
            have := HF.out
            rw [if_pos (by omega), HY.out, Array.getElem?_setIfInBounds_self_of_lt (by omega)]
            rfl
          · rw [Array.getElem?_setIfInBounds_ne (Ne.symm hji), HX.out j hj]
            by_cases h2 : j < i
            · rw [if_pos h2, if_pos (by omega)]
            · rw [if_neg h2, if_neg (by omega)]
    · have hsi : i = s.size := by omega
      have hbk : ∀ w, wr.heap = w.heap → (convert 159 9 (.slice (some ⟨w0.heap.size, 0, none⟩) s.size (grownCap w0 s.size 0 5))).run Tryz.prog w = .ok (.string ⟨R.toArray⟩) w := by
        intro w hw
        have := run_convert_bytes_back (P := Tryz.prog) w 159 9 5 ⟨w0.heap.size, 0, none⟩ (grownCap w0 s.size 0 5) R Tryz.underlying159 Tryz.underlying5 Tryz.underlying9 (fun j hj => by
          have hjs : j < s.size := by rw [← HL.out]; exact hj
          have h1 := HX.out j hjs
          rw [if_pos (by omega), List.getElem?_eq_getElem hj] at h1
          rw [zp3]
          simp [World.cell?, ← hw, HC.out, h1])
        rw [HL.out] at this
        exact this
      have hni : ¬ ((i : Int) < (s.size : Int)) := by omega
      have hbk1 := hbk wr rfl
      go_wp2
      go_ret
      exact ⟨rfl, HB.out⟩

theorem zjj (x_s : Str) (R : Str) (w0 : World) (hG : zt w0) (hm : zeX x_s = some R) :
    Calls Tryz.prog 90 #[str x_s] w0 fun e w' => e = .returned (str R) ∧ Below w0.heap.size w0 w' := by
  unfold zeX at hm
  split at hm
  · rename_i h
    exact zqa ⟨x_s.toArray⟩ R w0 hG h hm fun b c w hbc hGw => zc0 b c w hGw hbc
  · cases hm

theorem znx (x_a : Str) (x_b : Str) (R : Bool) (w0 : World) (hG : zt w0) (hm : zfP x_a x_b = some R) :
    Calls Tryz.prog 55 #[str x_a, str x_b] w0 (Ret w0 (fun R => .bool R) R) := by
 rw [zfP] at hm
 have hF : zG [] := ze
 have hO : Dk.Own w0 [] w0 [] := Dk.Own.refl w0
 refine S.enter tb Tryz.func55 rfl Tryz.ntmps55 rfl ?_ hO hm
 refine cl c_90 rfl (fun r2 w hr2 hO => zjj x_a r2 _ (hG.own hF hO) hr2) fun r2 hr2 => ?_
 refine cl c_90 rfl (fun r3 w hr3 hO => zjj x_b r3 _ (hG.own hF hO) hr3) fun r3 hr3 => ?_
 exact rt Tryz.results55 rfl

theorem ziq (x_l : List Str) (R : Str) (w0 : World) (hG : zt w0) {x_l_p0 : Option Addr} {x_l_c0 : Nat} (hs0 : zaU w0 x_l_p0 (cells zd x_l)) (hc0 : x_l.length ≤ x_l_c0) (hm : zcE x_l = some R) :
    Calls Tryz.prog 92 #[.slice x_l_p0 x_l.length x_l_c0] w0 (Ret w0 (fun R => str R) R) := by
 rw [zcE] at hm
 have hF : zG [] := ze
 have hO : Dk.Own w0 [] w0 [] := Dk.Own.refl w0
 have hO := hO.addShr hs0 (by simp [Res.shared])
 refine S.enter tb Tryz.func92 rfl Tryz.ntmps92 rfl ?_ hO hm
 refine cl c_53 rfl (fun r2 w hr2 hO => zji [44, 32] x_l r2 _ (hG.own hF hO) (hO.sees (i := 0) rfl) hc0 hr2) fun r2 hr2 => ?_
 exact rt Tryz.results92 rfl

theorem zkx (x_s : Str) (x_l : List Str) (R : Str) (w0 : World) (hG : zt w0) {x_l_p0 : Option Addr} {x_l_c0 : Nat} (hs0 : zaU w0 x_l_p0 (cells zd x_l)) (hc0 : x_l.length ≤ x_l_c0) (hm : zdV x_s x_l = some R) :
    Calls Tryz.prog 56 #[str x_s, .slice x_l_p0 x_l.length x_l_c0] w0 (Ret w0 (fun R => str R) R) := by
 rw [zdV] at hm
 have hF : zG [] := ze
 have hO : Dk.Own w0 [] w0 [] := Dk.Own.refl w0
 have hO := hO.addShr hs0 (by simp [Res.shared])
 refine S.enter tb Tryz.func56 rfl Tryz.ntmps56 rfl ?_ hO hm
 refine br rfl (fun hc3 => ?_) fun hc3 => ?_
 exact rt Tryz.results56 rfl
 refine cl c_91 rfl (fun r5 w hr5 hO => zhH x_s [32, 9, 44] r5 _ (hG.own hF hO) hr5) fun r5 hr5 => ?_
 refine br rfl (fun hc7 => ?_) fun hc7 => ?_
 refine cl c_92 rfl (fun r8 w hr8 hO => ziq x_l r8 _ (hG.own hF hO) (hO.sees (i := 0) rfl) hc0 hr8) fun r8 hr8 => ?_
 exact rt Tryz.results56 rfl
 refine cl c_93 rfl (fun r11 w hr11 hO => zh1 x_s [32, 9] r11 _ (hG.own hF hO) hr11) fun r11 hr11 => ?_
 refine rw_ rfl fun a w hf hO hm => ?_
 refine zs (vs := [(0, str r11)]) (cs := [str r11]) (e := 9) (sz := 1) hf rfl rfl (fun w => by kernel_rfl) rfl rfl hO fun a b12 w hf hO => ?_
 refine S.op tb ?_ hf hO hm
 refine rw_ rfl fun a w hf hO hm => ?_
 obtain ⟨hg15, hm⟩ := og hm
 refine ziy zlr (enc := zd) (xs := ([r11] : List Str)) (ys := x_l) (i := 0) (fun _ => rfl) rfl (hO.sees (i := 1) rfl) (by simp [zd, Value.oneCell']) hg15 hf rfl rfl rfl hO fun a p13 c14 w hf hO => ?_
 refine S.op tb ?_ hf hO hm
 refine cl c_92 rfl (fun r16 w hr16 hO => ziq (([r11] : List Str) ++ x_l) r16 _ (hG.own hF hO) (hO.rowSees (i := 0) rfl) (hO.rowCap (i := 0) rfl) hr16) fun r16 hr16 => ?_
 exact rt Tryz.results56 rfl

theorem zmo (x_b : bag_Bag) (x_l : List api_Field) (R : bag_Bag) (w0 : World) (hG : zt w0) {x_b_b0 : Nat} {x_b_p1 : Option Addr} {x_b_c1 : Nat} {x_l_p2 : Option Addr} {x_l_c2 : Nat} {F : List Nat} (hF : zG F) (hO : Dk.Own w0 F w0 [.blk x_b_b0 [.slice x_b_p1 x_b.f_l.length x_b_c1] 100, .row (.slice x_b_p1 x_b.f_l.length x_b_c1) 71 2 x_b.f_l.length (cells za x_b.f_l), .shr x_l_p2 (cells za x_l)]) (hcw0 : x_l.length ≤ x_l_c2) (hm : zga x_b x_l = some R) :
    Calls Tryz.prog 57 #[ptr x_b_b0 0, .slice x_l_p2 x_l.length x_l_c2] w0 fun e w' => ∃ (p0 : Option Addr) (c0 : Nat), e = .returned (.tuple #[]) ∧ Dk.Own w0 F w' [.blk x_b_b0 [.slice p0 R.f_l.length c0] 100, .row (.slice p0 R.f_l.length c0) 71 2 R.f_l.length (cells za R.f_l)] := by
 rw [zga] at hm
 refine S.enter tb Tryz.func57 rfl Tryz.ntmps57 rfl ?_ hO hm
 refine vl rfl rfl (fun a w hf hO => zmx Tryz.underlying74 hf rfl rfl) ?_
 refine kn (b' := true) rfl rfl ?_
 refine vl rfl rfl (fun a w hf hO => zb (o := 0) zdj (hO.blkSees (i := 0) rfl) rfl hf rfl) ?_
 refine rw_ rfl fun a w hf hO hm => ?_
 obtain ⟨hg4, hm⟩ := og hm
 refine ziy zn3 (enc := za) (xs := x_b.f_l) (ys := x_l) (i := 1) (fun _ => rfl) rfl (hO.sees (i := 2) rfl) (by simp [za, Value.oneCell']) hg4 hf rfl rfl rfl hO fun a p2 c3 w hf hO => ?_
 refine S.op tb ?_ hf hO hm
 refine rw_ rfl fun a w hf hO hm => ?_
 refine zP (i := 0) (o := 0) (v := .slice p2 ((x_b.f_l ++ x_l).length) c3) sz_24 rfl rfl rfl rfl hf rfl rfl hO fun w hO => ?_
 refine S.op tb ?_ hf hO hm
 refine rn_ rfl fun a w hf hO hm => ?_
 obtain rfl := Option.some.inj hm
 exact zi2 Tryz.results57 hf .nil ⟨p2, c3, rfl, (hO.sub (.cons_cons _ (.cons_cons _ (.cons _ .slnil))))⟩

theorem zjT (x_b : bag_Bag) (x_name : Str) (x_element : Str) (R : bag_Bag) (w0 : World) (hG : zt w0) {x_b_b0 : Nat} {x_b_p1 : Option Addr} {x_b_c1 : Nat} {F : List Nat} (hF : zG F) (hO : Dk.Own w0 F w0 [.blk x_b_b0 [.slice x_b_p1 x_b.f_l.length x_b_c1] 100, .row (.slice x_b_p1 x_b.f_l.length x_b_c1) 71 2 x_b.f_l.length (cells za x_b.f_l)]) (hm : zdp x_b x_name x_element = some R) :
    Calls Tryz.prog 33 #[ptr x_b_b0 0, str x_name, str x_element] w0 fun e w' => ∃ (p0 : Option Addr) (c0 : Nat), e = .returned (.tuple #[]) ∧ Dk.Own w0 F w' [.blk x_b_b0 [.slice p0 R.f_l.length c0] 100, .row (.slice p0 R.f_l.length c0) 71 2 R.f_l.length (cells za R.f_l)] := by
 rw [zdp] at hm
 refine S.enter tb Tryz.func33 rfl Tryz.ntmps33 rfl ?_ hO hm
 refine vl rfl rfl (fun a w hf hO => zgp Tryz.underlying74 hf rfl rfl) ?_
 refine kn (b' := false) rfl rfl ?_
 refine vl rfl rfl (fun a w hf hO => zb (o := 0) zdj (hO.blkSees (i := 0) rfl) rfl hf rfl) ?_
 refine bi rfl fun i3 hi3 => ?_
 refine lp (fun k a w => ∃ (i5 : Int), Fits 53 [(0, ptr x_b_b0 0), (1, str x_name), (2, str x_element), (6, int i5)] a ∧ Dk.Own w0 F w [.blk x_b_b0 [.slice x_b_p1 x_b.f_l.length x_b_c1] 100, .row (.slice x_b_p1 x_b.f_l.length x_b_c1) 71 2 x_b.f_l.length (cells za x_b.f_l)] ∧ zai x_b x_name x_element k i5 = some R) rfl (fun a w hf hO hm => ⟨i3, hf.sel rfl, hO, hm⟩) ?_
 rintro n1 a w ⟨i5, hf, hO, hm⟩
 obtain _ | n1 := n1
 rw [zai] at hm
 cases hm
 rw [zai] at hm
 refine S.co tb ?_ hf hO hm
 refine br rfl (fun hc7 => ?_) fun hc7 => ?_
 refine vl rfl rfl (fun a w hf hO => zb (o := 0) zdj (hO.blkSees (i := 0) rfl) rfl hf rfl) ?_
 refine rw_ rfl fun a w hf hO hm => ?_
 obtain ⟨x9, hx9, hm⟩ := ob hm
 obtain ⟨b10, o11, hix9, hSx9, hAx9⟩ := zbP (enc := za) (sz := 2) (xs := x_b.f_l) 24 Tryz.underlying24 zeM (by decide) (fun _ => rfl) hO (i := 1) rfl hx9
 refine zbp (zp hix9 hf rfl rfl) rfl hf rfl rfl fun a hf => ?_
 refine S.op tb ?_ hf hO hm
 refine vl rfl rfl (fun a w hf hO => zb (o := 0) zab (hSx9 _ (hO.rowSees (i := 1) rfl)) rfl hf rfl) ?_
 refine cl c_55 rfl (fun r12 w hr12 hO => znx x9.Name x_name r12 _ (hG.own hF hO) hr12) fun r12 hr12 => ?_
 refine br rfl (fun hc14 => ?_) fun hc14 => ?_
 refine rc_ rfl fun a w hf hO hm => ?_
 obtain ⟨x15, hx15, hm⟩ := ob hm
 obtain ⟨b16, o17, hix15, hSx15, hAx15⟩ := zbP (enc := za) (sz := 2) (xs := x_b.f_l) 24 Tryz.underlying24 zeM (by decide) (fun _ => rfl) hO (i := 1) rfl hx15
 obtain ⟨r19, hr19, hm⟩ := ob hm
 obtain ⟨x20, hx20, hm⟩ := ob hm
 obtain ⟨b21, o22, hix20, hSx20, hAx20⟩ := zbP (enc := za) (sz := 2) (xs := x_b.f_l) 24 Tryz.underlying24 zeM (by decide) (fun _ => rfl) hO (i := 1) rfl hx20
 obtain ⟨l23, hl23, hm⟩ := ob hm
 have hlnl23 := zqG hl23
 refine zfx (S := Nat) (E0 := [(0, ptr x_b_b0 0), (2, str x_element), (6, int i5)]) (by kernel_rfl) (fun k σ w => match k with | 0 => Dk.Own w0 F w [.blk x_b_b0 [.slice x_b_p1 x_b.f_l.length x_b_c1] 100, .row (.slice x_b_p1 x_b.f_l.length x_b_c1) 71 2 x_b.f_l.length (cells za x_b.f_l)] | 1 => Dk.Own w0 F w [.row (.slice (some ⟨σ, 0, none⟩) (([x_element] : List Str).length) 1) 9 1 (([x_element] : List Str).length) (cells zd ([x_element] : List Str)), .blk x_b_b0 [.slice x_b_p1 x_b.f_l.length x_b_c1] 100, .row (.slice x_b_p1 x_b.f_l.length x_b_c1) 71 2 x_b.f_l.length (cells za x_b.f_l)] | 2 => Dk.Own w0 F w [.row (.slice (some ⟨σ, 0, none⟩) (([x_element] : List Str).length) 1) 9 1 (([x_element] : List Str).length) (cells zd ([x_element] : List Str)), .blk x_b_b0 [.slice x_b_p1 x_b.f_l.length x_b_c1] 100, .row (.slice x_b_p1 x_b.f_l.length x_b_c1) 71 2 x_b.f_l.length (cells za x_b.f_l)] | _ => Dk.Own w0 F w [.row (.slice (some ⟨σ, 0, none⟩) (([x_element] : List Str).length) 1) 9 1 (([x_element] : List Str).length) (cells zd ([x_element] : List Str)), .blk x_b_b0 [.slice x_b_p1 x_b.f_l.length x_b_c1] 100, .row (.slice x_b_p1 x_b.f_l.length x_b_c1) 71 2 x_b.f_l.length (cells za l23)]) (fun σ => [⟨[(0, ptr x_b_b0 0)], some (29, ptr x_b_b0 0)⟩, ⟨[(29, ptr x_b_b0 0)], some (30, ptr x_b_b0 0)⟩, ⟨[(30, ptr x_b_b0 0)], some (31, ptr x_b_b0 0)⟩, ⟨[(31, ptr x_b_b0 0)], some (32, .slice x_b_p1 x_b.f_l.length x_b_c1)⟩, ⟨[(6, int i5)], some (33, int i5)⟩, ⟨[(0, ptr x_b_b0 0)], some (34, ptr x_b_b0 0)⟩, ⟨[(34, ptr x_b_b0 0)], some (35, ptr x_b_b0 0)⟩, ⟨[(35, ptr x_b_b0 0)], some (36, ptr x_b_b0 0)⟩, ⟨[(36, ptr x_b_b0 0)], some (37, .slice x_b_p1 x_b.f_l.length x_b_c1)⟩, ⟨[(6, int i5)], some (38, int i5)⟩, ⟨[(37, .slice x_b_p1 x_b.f_l.length x_b_c1), (38, int i5)], some (39, ptr b16 o17)⟩, ⟨[(39, ptr b16 o17)], some (40, ptr b16 (o17 + 1))⟩, ⟨[(40, ptr b16 (o17 + 1))], some (41, str x15.Value)⟩, ⟨[(2, str x_element)], some (42, str x_element)⟩, ⟨[(42, str x_element)], some (43, .slice (some ⟨σ, 0, none⟩) (([x_element] : List Str).length) 1)⟩, ⟨[(41, str x15.Value), (43, .slice (some ⟨σ, 0, none⟩) (([x_element] : List Str).length) 1)], some (44, str r19)⟩, ⟨[(32, .slice x_b_p1 x_b.f_l.length x_b_c1), (33, int i5)], some (45, ptr b21 o22)⟩, ⟨[(45, ptr b21 o22)], some (46, ptr b21 (o22 + 1))⟩, ⟨[(44, str r19), (46, ptr b21 (o22 + 1))], none⟩]) (0) [14, 15, 18] rfl (fun _ => rfl) (fun _ => rfl) (fun _ => rfl) rfl rfl (by decide) rfl hO.drew (hf.cons rfl (hf.cons rfl (hf.cons rfl hf.nil))) (fun σ => ⟨⟨rfl, trivial⟩, ⟨rfl, trivial⟩, ⟨rfl, trivial⟩, ⟨rfl, trivial⟩, ⟨rfl, trivial⟩, ⟨rfl, trivial⟩, ⟨rfl, trivial⟩, ⟨rfl, trivial⟩, ⟨rfl, trivial⟩, ⟨rfl, trivial⟩, ⟨rfl, rfl, trivial⟩, ⟨rfl, trivial⟩, ⟨rfl, trivial⟩, ⟨rfl, trivial⟩, ⟨rfl, trivial⟩, ⟨rfl, rfl, trivial⟩, ⟨rfl, rfl, trivial⟩, ⟨rfl, trivial⟩, ⟨rfl, rfl, trivial⟩, trivial⟩) ⟨zj rfl (fun σ => rfl) (fun σ => rfl) (fun σ a w k _ _ _ _ hf => zv hf rfl), zj rfl (fun σ => rfl) (fun σ => rfl) (fun σ a w k _ _ _ _ hf => zbc hf rfl), zj rfl (fun σ => rfl) (fun σ => rfl) (fun σ a w k _ _ _ _ hf => zaz zls hf rfl), zj rfl (fun σ => rfl) (fun σ => rfl) (fun σ a w k hk hlo hup hst hf => match k, hk, hlo, hup, hst, hf with | 0, _, _, _, hst, hf => have hO : Dk.Own w0 F w [.blk x_b_b0 [.slice x_b_p1 x_b.f_l.length x_b_c1] 100, .row (.slice x_b_p1 x_b.f_l.length x_b_c1) 71 2 x_b.f_l.length (cells za x_b.f_l)] := hst; zb (o := 0) zdj (hO.blkSees (i := 0) rfl) rfl hf rfl | 1, _, _, _, hst, hf => have hO : Dk.Own w0 F w [.row (.slice (some ⟨σ, 0, none⟩) (([x_element] : List Str).length) 1) 9 1 (([x_element] : List Str).length) (cells zd ([x_element] : List Str)), .blk x_b_b0 [.slice x_b_p1 x_b.f_l.length x_b_c1] 100, .row (.slice x_b_p1 x_b.f_l.length x_b_c1) 71 2 x_b.f_l.length (cells za x_b.f_l)] := hst; zb (o := 0) zdj (hO.blkSees (i := 1) rfl) rfl hf rfl | 2, _, _, _, hst, hf => have hO : Dk.Own w0 F w [.row (.slice (some ⟨σ, 0, none⟩) (([x_element] : List Str).length) 1) 9 1 (([x_element] : List Str).length) (cells zd ([x_element] : List Str)), .blk x_b_b0 [.slice x_b_p1 x_b.f_l.length x_b_c1] 100, .row (.slice x_b_p1 x_b.f_l.length x_b_c1) 71 2 x_b.f_l.length (cells za x_b.f_l)] := hst; zb (o := 0) zdj (hO.blkSees (i := 1) rfl) rfl hf rfl | 3, _, _, _, hst, hf => have hO : Dk.Own w0 F w [.row (.slice (some ⟨σ, 0, none⟩) (([x_element] : List Str).length) 1) 9 1 (([x_element] : List Str).length) (cells zd ([x_element] : List Str)), .blk x_b_b0 [.slice x_b_p1 x_b.f_l.length x_b_c1] 100, .row (.slice x_b_p1 x_b.f_l.length x_b_c1) 71 2 x_b.f_l.length (cells za l23)] := hst; zb (o := 0) zdj (hO.blkSees (i := 1) rfl) rfl hf rfl | k + 4, hk, _, _, _, _ => absurd hk (by simp)), zj rfl (fun σ => rfl) (fun σ => rfl) (fun σ a w k _ _ _ _ hf => zv hf rfl), zj rfl (fun σ => rfl) (fun σ => rfl) (fun σ a w k _ _ _ _ hf => zv hf rfl), zj rfl (fun σ => rfl) (fun σ => rfl) (fun σ a w k _ _ _ _ hf => zbc hf rfl), zj rfl (fun σ => rfl) (fun σ => rfl) (fun σ a w k _ _ _ _ hf => zaz zls hf rfl), zj rfl (fun σ => rfl) (fun σ => rfl) (fun σ a w k hk hlo hup hst hf => match k, hk, hlo, hup, hst, hf with | 0, _, _, _, hst, hf => have hO : Dk.Own w0 F w [.blk x_b_b0 [.slice x_b_p1 x_b.f_l.length x_b_c1] 100, .row (.slice x_b_p1 x_b.f_l.length x_b_c1) 71 2 x_b.f_l.length (cells za x_b.f_l)] := hst; zb (o := 0) zdj (hO.blkSees (i := 0) rfl) rfl hf rfl | 1, _, _, _, hst, hf => have hO : Dk.Own w0 F w [.row (.slice (some ⟨σ, 0, none⟩) (([x_element] : List Str).length) 1) 9 1 (([x_element] : List Str).length) (cells zd ([x_element] : List Str)), .blk x_b_b0 [.slice x_b_p1 x_b.f_l.length x_b_c1] 100, .row (.slice x_b_p1 x_b.f_l.length x_b_c1) 71 2 x_b.f_l.length (cells za x_b.f_l)] := hst; zb (o := 0) zdj (hO.blkSees (i := 1) rfl) rfl hf rfl | 2, _, _, _, hst, hf => have hO : Dk.Own w0 F w [.row (.slice (some ⟨σ, 0, none⟩) (([x_element] : List Str).length) 1) 9 1 (([x_element] : List Str).length) (cells zd ([x_element] : List Str)), .blk x_b_b0 [.slice x_b_p1 x_b.f_l.length x_b_c1] 100, .row (.slice x_b_p1 x_b.f_l.length x_b_c1) 71 2 x_b.f_l.length (cells za x_b.f_l)] := hst; zb (o := 0) zdj (hO.blkSees (i := 1) rfl) rfl hf rfl | 3, _, _, _, hst, hf => have hO : Dk.Own w0 F w [.row (.slice (some ⟨σ, 0, none⟩) (([x_element] : List Str).length) 1) 9 1 (([x_element] : List Str).length) (cells zd ([x_element] : List Str)), .blk x_b_b0 [.slice x_b_p1 x_b.f_l.length x_b_c1] 100, .row (.slice x_b_p1 x_b.f_l.length x_b_c1) 71 2 x_b.f_l.length (cells za l23)] := hst; zb (o := 0) zdj (hO.blkSees (i := 1) rfl) rfl hf rfl | k + 4, hk, _, _, _, _ => absurd hk (by simp)), zj rfl (fun σ => rfl) (fun σ => rfl) (fun σ a w k _ _ _ _ hf => zv hf rfl), zj rfl (fun σ => rfl) (fun σ => rfl) (fun σ a w k _ _ _ _ hf => zp hix15 hf rfl rfl), zj rfl (fun σ => rfl) (fun σ => rfl) (fun σ a w k _ _ _ _ hf => zaz zkC hf rfl), zj rfl (fun σ => rfl) (fun σ => rfl) (fun σ a w k hk hlo hup hst hf => match k, hk, hlo, hup, hst, hf with | 0, _, _, _, hst, hf => have hO : Dk.Own w0 F w [.blk x_b_b0 [.slice x_b_p1 x_b.f_l.length x_b_c1] 100, .row (.slice x_b_p1 x_b.f_l.length x_b_c1) 71 2 x_b.f_l.length (cells za x_b.f_l)] := hst; zb (o := 1) zab (hSx15 _ (hO.rowSees (i := 1) rfl)) rfl hf rfl | 1, _, _, _, hst, hf => have hO : Dk.Own w0 F w [.row (.slice (some ⟨σ, 0, none⟩) (([x_element] : List Str).length) 1) 9 1 (([x_element] : List Str).length) (cells zd ([x_element] : List Str)), .blk x_b_b0 [.slice x_b_p1 x_b.f_l.length x_b_c1] 100, .row (.slice x_b_p1 x_b.f_l.length x_b_c1) 71 2 x_b.f_l.length (cells za x_b.f_l)] := hst; zb (o := 1) zab (hSx15 _ (hO.rowSees (i := 2) rfl)) rfl hf rfl | 2, _, _, _, hst, hf => have hO : Dk.Own w0 F w [.row (.slice (some ⟨σ, 0, none⟩) (([x_element] : List Str).length) 1) 9 1 (([x_element] : List Str).length) (cells zd ([x_element] : List Str)), .blk x_b_b0 [.slice x_b_p1 x_b.f_l.length x_b_c1] 100, .row (.slice x_b_p1 x_b.f_l.length x_b_c1) 71 2 x_b.f_l.length (cells za x_b.f_l)] := hst; zb (o := 1) zab (hSx15 _ (hO.rowSees (i := 2) rfl)) rfl hf rfl | 3, _, _, hup, _, _ => absurd (hup 1 (by decide) (by kernel_rfl)) (by decide) | k + 4, hk, _, _, _, _ => absurd hk (by simp)), zj rfl (fun σ => rfl) (fun σ => rfl) (fun σ a w k _ _ _ _ hf => zv hf rfl), zmR rfl (fun σ => rfl) (fun σ => rfl) rfl (fun σ w (hO : Dk.Own w0 F w [.blk x_b_b0 [.slice x_b_p1 x_b.f_l.length x_b_c1] 100, .row (.slice x_b_p1 x_b.f_l.length x_b_c1) 71 2 x_b.f_l.length (cells za x_b.f_l)]) => by obtain ⟨b18, w', hO', hr⟩ := zh4 (E := [(42, str x_element)]) (parts := #[(0, (.tmp 42))]) (t' := 41) (n := 1) (vs := [(0, str x_element)]) (cs := [str x_element]) (e := 9) (sz := 1) (fun w => by kernel_rfl) rfl rfl hO rfl; exact ⟨(b18), w', hO', ⟨.inr rfl, .inr rfl, .inr rfl, .inr rfl, .inr rfl, .inr rfl, .inr rfl, .inr rfl, .inr rfl, .inr rfl, .inr rfl, .inr rfl, .inr rfl, .inr rfl, .inl rfl, .inl rfl, .inr rfl, .inr rfl, .inr rfl, trivial⟩, hr⟩), zmQ rfl (fun σ => rfl) (fun σ => rfl) rfl (fun σ a w (_ : _) hf => zr c_56 hf (vs := [str x15.Value, .slice (some ⟨σ, 0, none⟩) (([x_element] : List Str).length) 1]) rfl) (fun σ w (hO : Dk.Own w0 F w [.row (.slice (some ⟨σ, 0, none⟩) (([x_element] : List Str).length) 1) 9 1 (([x_element] : List Str).length) (cells zd ([x_element] : List Str)), .blk x_b_b0 [.slice x_b_p1 x_b.f_l.length x_b_c1] 100, .row (.slice x_b_p1 x_b.f_l.length x_b_c1) 71 2 x_b.f_l.length (cells za x_b.f_l)]) => (zkx x15.Value ([x_element] : List Str) r19 _ (hG.own hF hO) (hO.rowSees (i := 0) rfl) (hO.rowCap (i := 0) rfl) hr19).mono fun e w' h => by obtain ⟨he, hb⟩ := h; exact ⟨(σ), he, hO.grow hb, .inr rfl, .inr rfl, .inr rfl, .inr rfl, .inr rfl, .inr rfl, .inr rfl, .inr rfl, .inr rfl, .inr rfl, .inr rfl, .inr rfl, .inr rfl, .inr rfl, .inr rfl, .inr rfl, .inr rfl, .inr rfl, .inr rfl, trivial⟩), zj rfl (fun σ => rfl) (fun σ => rfl) (fun σ a w k _ _ _ _ hf => zp hix20 hf rfl rfl), zj rfl (fun σ => rfl) (fun σ => rfl) (fun σ a w k _ _ _ _ hf => zaz zkC hf rfl), zhR rfl (fun σ => rfl) (fun σ => rfl) rfl (fun σ w (hO : Dk.Own w0 F w [.row (.slice (some ⟨σ, 0, none⟩) (([x_element] : List Str).length) 1) 9 1 (([x_element] : List Str).length) (cells zd ([x_element] : List Str)), .blk x_b_b0 [.slice x_b_p1 x_b.f_l.length x_b_c1] 100, .row (.slice x_b_p1 x_b.f_l.length x_b_c1) 71 2 x_b.f_l.length (cells za x_b.f_l)]) => by obtain ⟨w', hO', hr⟩ := znI (x := (.tmp 46)) (y := (.tmp 44)) (E := [(44, str r19), (46, ptr b21 (o22 + 1))]) (enc := za) (i := 2) (rel := 1) (xs := x_b.f_l) (v := str r19) zd3 (fun _ => rfl) rfl hAx20 hx20 hl23 rfl (by decide) rfl rfl hO rfl rfl; exact ⟨(σ), w', hO', ⟨.inr rfl, .inr rfl, .inr rfl, .inr rfl, .inr rfl, .inr rfl, .inr rfl, .inr rfl, .inr rfl, .inr rfl, .inr rfl, .inr rfl, .inr rfl, .inr rfl, .inr rfl, .inr rfl, .inr rfl, .inr rfl, .inr rfl, trivial⟩, hr⟩), trivial⟩ ?_
 rintro b18 a w hf hO
 have hO : Dk.Own w0 F w [.row (.slice (some ⟨b18, 0, none⟩) (([x_element] : List Str).length) 1) 9 1 (([x_element] : List Str).length) (cells zd ([x_element] : List Str)), .blk x_b_b0 [.slice x_b_p1 x_b.f_l.length x_b_c1] 100, .row (.slice x_b_p1 x_b.f_l.length x_b_c1) 71 2 x_b.f_l.length (cells za l23)] := hO
 have hf : Fits 53 [] a := hf.nil
 have hf : Fits 53 [] a := by first | exact hf | (simp only [hlnl23]; exact hf)
 have hO : Dk.Own w0 F w [.row (.slice (some ⟨b18, 0, none⟩) (([x_element] : List Str).length) 1) 9 1 (([x_element] : List Str).length) (cells zd ([x_element] : List Str)), .blk x_b_b0 [.slice x_b_p1 l23.length x_b_c1] 100, .row (.slice x_b_p1 l23.length x_b_c1) 71 2 l23.length (cells za l23)] := by first | exact hO | (simp only [hlnl23]; exact hO)
 refine S.no tb ?_ hf hO hm
 refine re_ rfl fun a w hf hO hm => ?_
 obtain rfl := Option.some.inj hm
 exact zi Tryz.results33 hf .nil ⟨x_b_p1, x_b_c1, rfl, (hO.sub (.cons _ (.cons_cons _ (.cons_cons _ .slnil))))⟩
 refine bi rfl fun i26 hi26 => ?_
 exact en rfl fun a w hf hO hm => ⟨_, Nat.lt_succ_self _, i26, hf.sel rfl, hO, hm⟩
 refine vl rfl rfl (fun a w hf hO => zS (vs := [(0, str x_name), (1, str x_element)]) (v := .agg #[str x_name, str x_element]) hf rfl (by kernel_rfl)) ?_
 refine rw_ rfl fun a w hf hO hm => ?_
 refine zs (vs := [(0, .agg #[str x_name, str x_element])]) (cs := [str x_name, str x_element]) (e := 71) (sz := 2) hf rfl rfl (fun w => by kernel_rfl) rfl rfl hO fun a b28 w hf hO => ?_
 refine S.op tb ?_ hf hO hm
 refine rw_ rfl fun a w hf hO hm => ?_
 obtain ⟨r29, hr29, hm⟩ := ob hm
 have hch32 := (show Dk.Own w0 F _ ([.blk x_b_b0 [.slice x_b_p1 x_b.f_l.length x_b_c1] 100, .row (.slice x_b_p1 x_b.f_l.length x_b_c1) 71 2 x_b.f_l.length (cells za x_b.f_l)] ++ [.row (.slice (some ⟨b28, 0, none⟩) (([(⟨x_name, x_element⟩ : api_Field)]).length) 1) 71 2 (([(⟨x_name, x_element⟩ : api_Field)]).length) (cells za ([(⟨x_name, x_element⟩ : api_Field)]))]) from hO.choose [1, 2, 0] rfl)
 have hfar32 := Dk.Own.far hch32 rfl hF hG.size
 have hlend32 := hch32.lend (S := [.shr (some ⟨b28, 0, none⟩) (cells za ([(⟨x_name, x_element⟩ : api_Field)]))]) rfl ⟨zrt (hO.rowSees (i := 0) rfl) (List.mem_of_getElem? (i := 0) rfl), trivial⟩
 have hcl32 := zmo x_b ([(⟨x_name, x_element⟩ : api_Field)]) r29 _ (hG.own hF hO) hfar32 hlend32 (hO.rowCap (i := 0) rfl) hr29
 refine zo (zr c_57 hf (vs := [ptr x_b_b0 0, .slice (some ⟨b28, 0, none⟩) (([(⟨x_name, x_element⟩ : api_Field)]).length) 1]) rfl) rfl hf rfl rfl (hcl32) ?_
 rintro e w' ⟨p30, c31, he, hO'⟩
 refine ⟨_, he, fun a hf => ?_⟩
 have hO := hch32.back rfl hO' rfl
 refine S.op tb ?_ hf hO hm
 refine rn_ rfl fun a w hf hO hm => ?_
 obtain rfl := Option.some.inj hm
 exact zi2 Tryz.results33 hf .nil ⟨p30, c31, rfl, (hO.sub (.cons_cons _ (.cons_cons _ (.cons _ .slnil))))⟩

end Go.Proofs
end
section
set_option linter.unusedVariables false
set_option maxHeartbeats 1000000
set_option linter.unusedSimpArgs false
set_option maxRecDepth 100000
namespace Go.Proofs
open Go.Dk Go.Dm Go.RowKit

theorem zk6 (x_b : bag_Bag) (R : List api_Field) (w0 : World) (hG : zt w0) {x_b_b0 : Nat} {x_b_p1 : Option Addr} {x_b_c1 : Nat} (hs0 : zaU w0 (some ⟨x_b_b0, 0, none⟩) [.slice x_b_p1 x_b.f_l.length x_b_c1]) (hs1 : zaU w0 x_b_p1 (cells za x_b.f_l)) (hc1 : x_b.f_l.length ≤ x_b_c1) (hm : zfw x_b = some R) :
    Calls Tryz.prog 34 #[ptr x_b_b0 0] w0 fun e w' => ∃ (p0 : Option Addr) (c0 : Nat), e = .returned (.slice p0 R.length c0) ∧ Dk.Own w0 [] w' [.row (.slice p0 R.length c0) 71 2 R.length (cells za R)] := by
 rw [zfw] at hm
 have hF : zG [] := ze
 have hO : Dk.Own w0 [] w0 [] := Dk.Own.refl w0
 have hO := hO.addShr hs0 (by simp [Res.shared])
 have hO := hO.addShr hs1 (by simp [Res.shared])
 refine S.enter tb Tryz.func34 rfl Tryz.ntmps34 rfl ?_ hO hm
 refine nl 71 2 ?_
 refine vl rfl rfl (fun a w hf hO => zgp Tryz.underlying74 hf rfl rfl) ?_
 refine kn (b' := false) rfl rfl ?_
 refine vl rfl rfl (fun a w hf hO => zb (o := 0) zdj (hO.sees (i := 2) rfl) rfl hf rfl) ?_
 refine rw_ rfl fun a w hf hO hm => ?_
 obtain ⟨r4, hr4, hm⟩ := ob hm
 refine zo (zr c_54 hf (vs := [.slice x_b_p1 x_b.f_l.length x_b_c1]) rfl) rfl hf rfl rfl (zbx x_b.f_l r4 _ (hG.own hF hO) (hO.sees (i := 1) rfl) hc1 hr4) ?_
 rintro e w' ⟨p5, c6, he, hO'⟩
 refine ⟨_, he, fun a hf => ?_⟩
 have hO := hO.call hO' (by simp [Res.shared])
 refine S.op tb ?_ hf hO hm
 refine re_ rfl fun a w hf hO hm => ?_
 obtain rfl := Option.some.inj hm
 exact zi Tryz.results34 hf (.tmp rfl .nil) ⟨p5, c6, rfl, (hO.sub (.cons_cons _ (.cons _ (.cons _ (.cons _ .slnil)))))⟩

theorem zm2 (x_v : api_Via) (x_l : List api_Field) (R : List api_Field × Int) (w0 : World) (hG : zbH w0) {x_l_p0 : Option Addr} {x_l_c0 : Nat} (hs0 : zaU w0 x_l_p0 (cells za x_l)) (hc0 : x_l.length ≤ x_l_c0) (hm : zfQ x_v x_l = some R) :
    Calls Tryz.prog 10 #[.agg #[str x_v.Proto, str x_v.Version, str x_v.By, str x_v.Comment], .slice x_l_p0 x_l.length x_l_c0] w0 fun e w' => ∃ (p0 : Option Addr) (c0 : Nat), e = .returned (.tuple #[.slice p0 R.1.length c0, int R.2]) ∧ Dk.Own w0 [] w' [.row (.slice p0 R.1.length c0) 71 2 R.1.length (cells za R.1)] := by
 rw [zfQ] at hm
 have hF : zG [] := ze
 have hO : Dk.Own w0 [] w0 [] := Dk.Own.refl w0
 have hO := hO.addShr hs0 (by simp [Res.shared])
 refine S.enter tb Tryz.func10 rfl Tryz.ntmps10 rfl ?_ hO hm
 refine rw_ rfl fun a w hf hO hm => ?_
 refine zen (v := .agg #[str x_v.Proto, str x_v.Version, str x_v.By, str x_v.Comment]) (cs := [str x_v.Proto, str x_v.Version, str x_v.By, str x_v.Comment]) rfl hf rfl rfl hO fun a b1 w hf hO => ?_
 refine S.op tb ?_ hf hO hm
 refine nl 71 2 ?_
 refine vl rfl rfl (fun a w hf hO => zK (o := 0) (vs := [str x_v.Proto, str x_v.Version, str x_v.By, str x_v.Comment]) zdi zaV (hO.blkSees (i := 1) rfl) rfl rfl hf rfl) ?_
 refine cl c_31 rfl (fun r3 w hr3 hO => zo7 x_v r3 _ (hG.own hF hO) hr3) fun r3 hr3 => ?_
 refine br rfl (fun hc6 => ?_) fun hc6 => ?_
 refine nl 71 2 ?_
 refine re_ rfl fun a w hf hO hm => ?_
 obtain rfl := Option.some.inj hm
 exact zi Tryz.results10 hf (.tmp rfl (.tmp rfl .nil)) ⟨none, 0, rfl, (hO.sub (.cons_cons _ (.cons _ (.cons _ (.cons _ .slnil)))))⟩
 refine rw_ rfl fun a w hf hO hm => ?_
 obtain ⟨r9, hr9, hm⟩ := ob hm
 refine zo (zr c_32 hf (vs := [.slice x_l_p0 x_l.length x_l_c0]) rfl) rfl hf rfl rfl (zp9 x_l r9 _ (hG.own hF hO).1 (hO.sees (i := 2) rfl) hc0 hr9) ?_
 rintro e w' ⟨b10, p11, c12, he, hO'⟩
 refine ⟨_, he, fun a hf => ?_⟩
 have hO := hO.call hO' (by simp [Res.shared])
 refine S.op tb ?_ hf hO hm
 refine rw_ rfl fun a w hf hO hm => ?_
 obtain ⟨r14, hr14, hm⟩ := ob hm
 have hch17 := (show Dk.Own w0 [] _ ([.blk b10 [.slice p11 r9.f_l.length c12] 100, .row (.slice p11 r9.f_l.length c12) 71 2 r9.f_l.length (cells za r9.f_l)] ++ [.row (.slice none 0 0) 71 2 0 (cells za []), .blk b1 [str x_v.Proto, str x_v.Version, str x_v.By, str x_v.Comment] 23, .shr x_l_p0 (cells za x_l)]) from hO)
 have hfar17 := Dk.Own.far hch17 rfl hF hG.size
 have hlend17 := hch17.lend (S := []) rfl trivial
 have hcl17 := zjT r9 [86, 105, 97] r3.1 r14 _ (hG.own hF hO).1 hfar17 hlend17 hr14
 refine zo (zr c_33 hf (vs := [ptr b10 0, str [86, 105, 97], str r3.1]) rfl) rfl hf rfl rfl (hcl17) ?_
 rintro e w' ⟨p15, c16, he, hO'⟩
 refine ⟨_, he, fun a hf => ?_⟩
 have hO := hch17.back rfl hO' rfl
 refine S.op tb ?_ hf hO hm
 refine rw_ rfl fun a w hf hO hm => ?_
 obtain ⟨r19, hr19, hm⟩ := ob hm
 refine zo (zr c_34 hf (vs := [ptr b10 0]) rfl) rfl hf rfl rfl (zk6 r14 r19 _ (hG.own hF hO).1 (hO.blkSees (i := 0) rfl) (hO.rowSees (i := 1) rfl) (hO.rowCap (i := 1) rfl) hr19) ?_
 rintro e w' ⟨p20, c21, he, hO'⟩
 refine ⟨_, he, fun a hf => ?_⟩
 have hO := hO.call hO' (by simp [Res.shared])
 refine S.op tb ?_ hf hO hm
 refine re_ rfl fun a w hf hO hm => ?_
 obtain rfl := Option.some.inj hm
 exact zi Tryz.results10 hf (.tmp rfl (.tmp rfl .nil)) ⟨p20, c21, rfl, (hO.sub (.cons_cons _ (.cons _ (.cons _ (.cons _ (.cons _ (.cons _ .slnil)))))))⟩

theorem zgc (x_s : Str) (x_c : UInt8) (R : List Str) (w0 : World) (hG : zt w0) (hm : zdr x_s x_c = some R) :
    Calls Tryz.prog 58 #[str x_s, zQ x_c] w0 fun e w' => ∃ (p0 : Option Addr) (c0 : Nat), e = .returned (.slice p0 R.length c0) ∧ Dk.Own w0 [] w' [.row (.slice p0 R.length c0) 9 1 R.length (cells zd R)] := by
 rw [zdr] at hm
 have hF : zG [] := ze
 have hO : Dk.Own w0 [] w0 [] := Dk.Own.refl w0
 refine S.enter tb Tryz.func58 rfl Tryz.ntmps58 rfl ?_ hO hm
 refine nl 9 1 ?_
 refine nl 9 1 ?_
 refine lp (fun k a w => ∃ (p5 : Option Addr) (c6 : Nat) (l7 : List Str) (i8 : Int) (i9 : Int), Fits 34 [(0, str x_s), (1, zQ x_c), (5, .slice p5 l7.length c6), (6, int i8), (7, int i9)] a ∧ Dk.Own w0 [] w [.row (.slice p5 l7.length c6) 9 1 l7.length (cells zd l7), .row (.slice none 0 0) 9 1 0 (cells zd [])] ∧ zaN x_s x_c k l7 i8 i9 = some R) rfl (fun a w hf hO hm => ⟨none, 0, [], 0, 0, hf.sel rfl, hO, hm⟩) ?_
 rintro n1 a w ⟨p5, c6, l7, i8, i9, hf, hO, hm⟩
 obtain _ | n1 := n1
 rw [zaN] at hm
 cases hm
 rw [zaN] at hm
 refine S.co tb ?_ hf hO hm
 refine br rfl (fun hc11 => ?_) fun hc11 => ?_
 refine jn 3 (fun a w => ∃ (p23 : Option Addr) (c24 : Nat) (l25 : List Str) (i26 : Int), Fits 34 [(0, str x_s), (1, zQ x_c), (5, .slice p23 l25.length c24), (6, int i26), (7, int i9)] a ∧ Dk.Own w0 [] w [.row (.slice p23 l25.length c24) 9 1 l25.length (cells zd l25), .row (.slice none 0 0) 9 1 0 (cells zd [])] ∧ zdq (zaN x_s x_c n1) i9 l25 i26 = some R) rfl ?_ ?_
 refine bi rfl fun b13 hb13 => ?_
 refine vl rfl rfl (fun a w hf hO => zL (b := b13) (c := x_c) hf rfl rfl) ?_
 refine br rfl (fun hc15 => ?_) fun hc15 => ?_
 refine bi rfl fun s16 hs16 => ?_
 refine rw_ rfl fun a w hf hO hm => ?_
 refine zs (vs := [(0, str s16)]) (cs := [str s16]) (e := 9) (sz := 1) hf rfl rfl (fun w => by kernel_rfl) rfl rfl hO fun a b17 w hf hO => ?_
 refine S.op tb ?_ hf hO hm
 refine rw_ rfl fun a w hf hO hm => ?_
 obtain ⟨hg20, hm⟩ := og hm
 refine zbS zlr (enc := zd) (xs := l7) (ys := ([s16] : List Str)) (i := 1) (fun _ => rfl) rfl (hO.rowSees (i := 0) rfl) (by simp [cells, zd, Value.oneCell']) hg20 hf rfl rfl rfl hO fun a p18 c19 w hf hO => ?_
 refine S.op tb ?_ hf hO hm
 refine bi rfl fun i22 hi22 => ?_
 exact en rfl fun a w hf hO hm => ⟨p18, c19, l7 ++ ([s16] : List Str), i22, hf.sel rfl, (hO.sub (.cons _ (.cons_cons _ (.cons_cons _ .slnil)))), hm⟩
 exact en rfl fun a w hf hO hm => ⟨p5, c6, l7, i8, hf.sel rfl, hO, hm⟩
 rintro a w ⟨p23, c24, l25, i26, hf, hO, hm⟩
 rw [zdq] at hm
 refine S.co tb ?_ hf hO hm
 refine bi rfl fun i27 hi27 => ?_
 exact en rfl fun a w hf hO hm => ⟨_, Nat.lt_succ_self _, p23, c24, l25, i26, i27, hf.sel rfl, hO, hm⟩
 refine bi rfl fun s29 hs29 => ?_
 refine rw_ rfl fun a w hf hO hm => ?_
 refine zs (vs := [(0, str s29)]) (cs := [str s29]) (e := 9) (sz := 1) hf rfl rfl (fun w => by kernel_rfl) rfl rfl hO fun a b30 w hf hO => ?_
 refine S.op tb ?_ hf hO hm
 refine rw_ rfl fun a w hf hO hm => ?_
 obtain ⟨hg33, hm⟩ := og hm
 refine zbS zlr (enc := zd) (xs := l7) (ys := ([s29] : List Str)) (i := 1) (fun _ => rfl) rfl (hO.rowSees (i := 0) rfl) (by simp [cells, zd, Value.oneCell']) hg33 hf rfl rfl rfl hO fun a p31 c32 w hf hO => ?_
 refine S.op tb ?_ hf hO hm
 refine re_ rfl fun a w hf hO hm => ?_
 obtain rfl := Option.some.inj hm
 exact zi Tryz.results58 hf (.tmp rfl .nil) ⟨p31, c32, rfl, (hO.sub (.cons _ (.cons_cons _ (.cons _ .slnil))))⟩

theorem zid (x_b : UInt8) (x_base : Int) (R : Int) (w0 : World) (hG : zt w0) (hm : zcc x_b x_base = some R) :
    Calls Tryz.prog 149 #[zQ x_b, int x_base] w0 (Ret w0 (fun R => int R) R) := by
 rw [zcc] at hm
 have hF : zG [] := ze
 have hO : Dk.Own w0 [] w0 [] := Dk.Own.refl w0
 refine S.enter tb Tryz.func149 rfl Tryz.ntmps149 rfl ?_ hO hm
 refine lp (fun k a w => ∃ (i5 : Int), Fits 26 [(0, zQ x_b), (1, int x_base), (5, str [48, 49, 50, 51, 52, 53, 54, 55, 56, 57, 97, 98, 99, 100, 101, 102]), (6, str [48, 49, 50, 51, 52, 53, 54, 55, 56, 57, 65, 66, 67, 68, 69, 70]), (7, int i5)] a ∧ Dk.Own w0 [] w [] ∧ zA x_b x_base k i5 = some R) rfl (fun a w hf hO hm => ⟨0, hf.sel rfl, hO, hm⟩) ?_
 rintro n1 a w ⟨i5, hf, hO, hm⟩
 obtain _ | n1 := n1
 rw [zA] at hm
 cases hm
 rw [zA] at hm
 refine S.co tb ?_ hf hO hm
 refine br rfl (fun hc7 => ?_) fun hc7 => ?_
 refine jn 5 (fun a w => ∃ (t12 : Bool), Fits 26 [(0, zQ x_b), (1, int x_base), (5, str [48, 49, 50, 51, 52, 53, 54, 55, 56, 57, 97, 98, 99, 100, 101, 102]), (6, str [48, 49, 50, 51, 52, 53, 54, 55, 56, 57, 65, 66, 67, 68, 69, 70]), (7, int i5), (24, .bool t12)] a ∧ Dk.Own w0 [] w [] ∧ zds (zA x_b x_base n1) i5 t12 = some R) rfl ?_ ?_
 refine bi rfl fun b9 hb9 => ?_
 refine vl rfl rfl (fun a w hf hO => zL (b := b9) (c := x_b) hf rfl rfl) ?_
 refine br rfl (fun hc10 => ?_) fun hc10 => ?_
 exact en rfl fun a w hf hO hm => ⟨true, hf.sel rfl, hO, hm⟩
 refine bi rfl fun b11 hb11 => ?_
 refine vl rfl rfl (fun a w hf hO => zL (b := b11) (c := x_b) hf rfl rfl) ?_
 exact en rfl fun a w hf hO hm => ⟨b11 == x_b, hf.sel rfl, hO, hm⟩
 rintro a w ⟨t12, hf, hO, hm⟩
 rw [zds] at hm
 refine S.co tb ?_ hf hO hm
 refine br rfl (fun hc13 => ?_) fun hc13 => ?_
 exact rt Tryz.results149 rfl
 refine bi rfl fun i16 hi16 => ?_
 exact en rfl fun a w hf hO hm => ⟨_, Nat.lt_succ_self _, i16, hf.sel rfl, hO, hm⟩
 exact rt Tryz.results149 rfl

theorem zjC (n0 : Nat) : ∀ (x_n : Int) (x_base : Int) (R : Str) (w0 : World) (hG : zt w0) (hm : zbg n0 x_n x_base = some R),
    Calls Tryz.prog 148 #[int x_n, int x_base] w0 (Ret w0 (fun R => str R) R) := by
  induction n0 with
  | zero => intro x_n x_base R w0 hG  hm; rw [zbg] at hm; cases hm
  | succ n0 ih =>
    intro x_n x_base R w0 hG  hm
    rw [zbg] at hm
    have hF : zG [] := ze
    have hO : Dk.Own w0 [] w0 [] := Dk.Own.refl w0
    refine S.enter tb Tryz.func148 rfl Tryz.ntmps148 rfl ?_ hO hm
    refine br rfl (fun hc4 => ?_) fun hc4 => ?_
    · refine bi rfl fun i5 hi5 => ?_
      refine bi rfl fun s6 hs6 => ?_
      exact rt Tryz.results148 rfl
    · refine rc_ rfl fun a w hf hO hm => ?_
      refine ze7 (by kernel_rfl) (by kernel_rfl) hO ?_
      refine zw (fun w hO => zv hf rfl) rfl hf rfl rfl fun a hf => ?_
      refine zw (fun w hO => zv hf rfl) rfl hf rfl rfl fun a hf => ?_
      obtain ⟨i9, hi9, hm⟩ := ob hm
      refine zw (fun w hO => zqM hf rfl rfl hi9) rfl hf rfl rfl fun a hf => ?_
      refine zw (fun w hO => zv hf rfl) rfl hf rfl rfl fun a hf => ?_
      obtain ⟨r10, hr10, hm⟩ := ob hm
      refine zqK (fun w hO => zr zpi hf (vs := [int i9, int x_base]) rfl) rfl hf rfl rfl (fun w hO => (ih i9 x_base r10 _ (hG.own hF hO) hr10).mono fun e w' ⟨he, hb⟩ => ⟨he, hO.grow hb⟩) fun a hf => ?_
      refine zw (fun w hO => zv hf rfl) rfl hf rfl rfl fun a hf => ?_
      refine zw (fun w hO => zv hf rfl) rfl hf rfl rfl fun a hf => ?_
      refine zw (fun w hO => zv hf rfl) rfl hf rfl rfl fun a hf => ?_
      obtain ⟨i11, hi11, hm⟩ := ob hm
      refine zw (fun w hO => zoP hf rfl rfl hi11) rfl hf rfl rfl fun a hf => ?_
      refine zw (fun w hO => zv hf rfl) rfl hf rfl rfl fun a hf => ?_
      refine zw (fun w hO => zv hf rfl) rfl hf rfl rfl fun a hf => ?_
      obtain ⟨i12, hi12, hm⟩ := ob hm
      refine zw (fun w hO => zoP hf rfl rfl hi12) rfl hf rfl rfl fun a hf => ?_
      obtain ⟨i13, hi13, hm⟩ := ob hm
      refine zw (fun w hO => zoO hf rfl rfl hi13) rfl hf rfl rfl fun a hf => ?_
      obtain ⟨s14, hs14, hm⟩ := ob hm
      refine zw (fun w hO => zgq (l := [48, 49, 50, 51, 52, 53, 54, 55, 56, 57, 97, 98, 99, 100, 101, 102]) Tryz.underlying9 hf rfl rfl rfl hs14) rfl hf rfl rfl fun a hf => ?_
      obtain ⟨s15, hs15, hm⟩ := ob hm
      refine zw (fun w hO => zqT (l := r10) (m := s14) hf rfl rfl hs15) rfl hf rfl rfl fun a hf => ?_
      refine zw (fun w hO => zcY hf rfl) rfl hf rfl rfl fun a hf => ?_
      refine wpQuiet_nil ?_
      intro w hO
      refine S.no tb ?_ hf hO hm
      exact rt Tryz.results148 rfl
theorem zfD (x_n : Int) (x_base : Int) (R : Str) (w0 : World) (hG : zt w0) (hm : zcN x_n x_base = some R) :
    Calls Tryz.prog 148 #[int x_n, int x_base] w0 (Ret w0 (fun R => str R) R) :=
  zjC fuel x_n x_base R w0 hG  hm

theorem zl2 (x_s : Str) (x_base : Int) (R : Str × Bool) (w0 : World) (hG : zt w0) (hm : zfk x_s x_base = some R) :
    Calls Tryz.prog 146 #[str x_s, int x_base] w0 (Ret w0 (fun R => .tuple #[str R.1, .bool R.2]) R) := by
 rw [zfk] at hm
 have hF : zG [] := ze
 have hO : Dk.Own w0 [] w0 [] := Dk.Own.refl w0
 refine S.enter tb Tryz.func146 rfl Tryz.ntmps146 rfl ?_ hO hm
 refine lp (fun k a w => ∃ (s4 : Str) (i5 : Int), Fits 38 [(0, str x_s), (1, int x_base), (6, str s4), (7, int i5)] a ∧ Dk.Own w0 [] w [] ∧ zan x_s x_base k s4 i5 = some R) rfl (fun a w hf hO hm => ⟨[], 0, hf.sel rfl, hO, hm⟩) ?_
 rintro n1 a w ⟨s4, i5, hf, hO, hm⟩
 obtain _ | n1 := n1
 rw [zan] at hm
 cases hm
 rw [zan] at hm
 refine S.co tb ?_ hf hO hm
 refine br rfl (fun hc7 => ?_) fun hc7 => ?_
 refine jn 3 (fun a w => ∃ (s21 : Str), Fits 38 [(0, str x_s), (1, int x_base), (6, str s21), (7, int i5)] a ∧ Dk.Own w0 [] w [] ∧ zdt (zan x_s x_base n1) i5 s21 = some R) rfl ?_ ?_
 refine bi rfl fun b9 hb9 => ?_
 refine cl c_149 rfl (fun r10 w hr10 hO => zid b9 x_base r10 _ (hG.own hF hO) hr10) fun r10 hr10 => ?_
 refine br rfl (fun hc13 => ?_) fun hc13 => ?_
 exact rt Tryz.results146 rfl
 refine jn 5 (fun a w => ∃ (t17 : Bool), Fits 38 [(0, str x_s), (1, int x_base), (6, str s4), (7, int i5), (8, int r10), (27, .bool t17)] a ∧ Dk.Own w0 [] w [] ∧ zdu (zan x_s x_base n1) x_base s4 i5 r10 t17 = some R) rfl ?_ ?_
 refine br rfl (fun hc16 => ?_) fun hc16 => ?_
 exact en rfl fun a w hf hO hm => ⟨true, hf.sel rfl, hO, hm⟩
 exact en rfl fun a w hf hO hm => ⟨decide (0 < r10), hf.sel rfl, hO, hm⟩
 rintro a w ⟨t17, hf, hO, hm⟩
 rw [zdu] at hm
 refine S.co tb ?_ hf hO hm
 refine br rfl (fun hc18 => ?_) fun hc18 => ?_
 refine cl zpi rfl (fun r19 w hr19 hO => zfD r10 x_base r19 _ (hG.own hF hO) hr19) fun r19 hr19 => ?_
 refine bi rfl fun s20 hs20 => ?_
 exact en rfl fun a w hf hO hm => ⟨s20, hf.sel rfl, hO, hm⟩
 exact en rfl fun a w hf hO hm => ⟨s4, hf.sel rfl, hO, hm⟩
 rintro a w ⟨s21, hf, hO, hm⟩
 rw [zdt] at hm
 refine S.co tb ?_ hf hO hm
 refine bi rfl fun i22 hi22 => ?_
 exact en rfl fun a w hf hO hm => ⟨_, Nat.lt_succ_self _, s21, i22, hf.sel rfl, hO, hm⟩
 refine jn 0 (fun a w => ∃ (s26 : Str), Fits 38 [(0, str x_s), (6, str s26)] a ∧ Dk.Own w0 [] w [] ∧ zdv x_s s26 = some R) rfl ?_ ?_
 refine br rfl (fun hc25 => ?_) fun hc25 => ?_
 exact en rfl fun a w hf hO hm => ⟨[48], hf.sel rfl, hO, hm⟩
 exact en rfl fun a w hf hO hm => ⟨s4, hf.sel rfl, hO, hm⟩
 rintro a w ⟨s26, hf, hO, hm⟩
 rw [zdv] at hm
 refine S.co tb ?_ hf hO hm
 exact rt Tryz.results146 rfl

theorem zm3 (x_a : Str) (x_b : Str) (R : Bool) (w0 : World) (hG : zt w0) (hm : zfR x_a x_b = some R) :
    Calls Tryz.prog 147 #[str x_a, str x_b] w0 (Ret w0 (fun R => .bool R) R) := by
 rw [zfR] at hm
 have hF : zG [] := ze
 have hO : Dk.Own w0 [] w0 [] := Dk.Own.refl w0
 refine S.enter tb Tryz.func147 rfl Tryz.ntmps147 rfl ?_ hO hm
 refine jn 0 (fun a w => ∃ (t4 : Bool), Fits 22 [(4, .bool t4)] a ∧ Dk.Own w0 [] w [] ∧ zbL t4 = some R) rfl ?_ ?_
 refine br rfl (fun hc2 => ?_) fun hc2 => ?_
 exact en rfl fun a w hf hO hm => ⟨true, hf.sel rfl, hO, hm⟩
 refine br rfl (fun hc3 => ?_) fun hc3 => ?_
 refine vl rfl rfl (fun a w hf hO => zqS (l := x_a) (m := x_b) hf rfl rfl) ?_
 exact en rfl fun a w hf hO hm => ⟨zjW x_a x_b, hf.sel rfl, hO, hm⟩
 exact en rfl fun a w hf hO hm => ⟨false, hf.sel rfl, hO, hm⟩
 rintro a w ⟨t4, hf, hO, hm⟩
 rw [zbL] at hm
 refine S.co tb ?_ hf hO hm
 exact rt Tryz.results147 rfl

theorem zm4 (x_s : Str) (x_base : Int) (x_most : Int) (R : Int × Int) (w0 : World) (hG : zt w0) (hm : zfS x_s x_base x_most = some R) :
    Calls Tryz.prog 113 #[str x_s, int x_base, int x_most] w0 (Ret w0 (fun R => .tuple #[int R.1, int R.2]) R) := by
 rw [zfS] at hm
 have hF : zG [] := ze
 have hO : Dk.Own w0 [] w0 [] := Dk.Own.refl w0
 refine S.enter tb Tryz.func113 rfl Tryz.ntmps113 rfl ?_ hO hm
 refine cl c_146 rfl (fun r2 w hr2 hO => zl2 x_s x_base r2 _ (hG.own hF hO) hr2) fun r2 hr2 => ?_
 refine br rfl (fun hc5 => ?_) fun hc5 => ?_
 exact rt Tryz.results113 rfl
 refine jn 1 (fun a w => ∃ (t11 : Bool), Fits 45 [(1, int x_base), (8, str r2.1), (28, .bool t11)] a ∧ Dk.Own w0 [] w [] ∧ zc2 x_base r2 t11 = some R) rfl ?_ ?_
 refine br rfl (fun hc8 => ?_) fun hc8 => ?_
 exact en rfl fun a w hf hO hm => ⟨true, hf.sel rfl, hO, hm⟩
 refine cl zpi rfl (fun r9 w hr9 hO => zfD x_most x_base r9 _ (hG.own hF hO) hr9) fun r9 hr9 => ?_
 refine cl c_147 rfl (fun r10 w hr10 hO => zm3 r9 r2.1 r10 _ (hG.own hF hO) hr10) fun r10 hr10 => ?_
 exact en rfl fun a w hf hO hm => ⟨r10, hf.sel rfl, hO, hm⟩
 rintro a w ⟨t11, hf, hO, hm⟩
 rw [zc2] at hm
 refine S.co tb ?_ hf hO hm
 refine br rfl (fun hc12 => ?_) fun hc12 => ?_
 exact rt Tryz.results113 rfl
 refine lp (fun k a w => ∃ (i17 : Int) (i18 : Int), Fits 45 [(1, int x_base), (8, str r2.1), (10, int i17), (11, int i18)] a ∧ Dk.Own w0 [] w [] ∧ zbM x_base r2 k i17 i18 = some R) rfl (fun a w hf hO hm => ⟨0, 0, hf.sel rfl, hO, hm⟩) ?_
 rintro n2 a w ⟨i17, i18, hf, hO, hm⟩
 obtain _ | n2 := n2
 rw [zbM] at hm
 cases hm
 rw [zbM] at hm
 refine S.co tb ?_ hf hO hm
 refine br rfl (fun hc20 => ?_) fun hc20 => ?_
 refine bi rfl fun i22 hi22 => ?_
 refine bi rfl fun b23 hb23 => ?_
 refine cl c_149 rfl (fun r24 w hr24 hO => zid b23 x_base r24 _ (hG.own hF hO) hr24) fun r24 hr24 => ?_
 refine bi rfl fun i25 hi25 => ?_
 refine bi rfl fun i27 hi27 => ?_
 exact en rfl fun a w hf hO hm => ⟨_, Nat.lt_succ_self _, i25, i27, hf.sel rfl, hO, hm⟩
 exact rt Tryz.results113 rfl

theorem zm5 (x_n : Int) (x_base : Int) (R : Str) (w0 : World) (hG : zt w0) (hm : zfT x_n x_base = some R) :
    Calls Tryz.prog 114 #[int x_n, int x_base] w0 (Ret w0 (fun R => str R) R) := by
 rw [zfT] at hm
 have hF : zG [] := ze
 have hO : Dk.Own w0 [] w0 [] := Dk.Own.refl w0
 refine S.enter tb Tryz.func114 rfl Tryz.ntmps114 rfl ?_ hO hm
 refine br rfl (fun hc3 => ?_) fun hc3 => ?_
 exact rt Tryz.results114 rfl
 refine cl zpi rfl (fun r6 w hr6 hO => zfD x_n x_base r6 _ (hG.own hF hO) hr6) fun r6 hr6 => ?_
 exact rt Tryz.results114 rfl

theorem zie (x_s : Str) (x_most : Int) (R : Int) (w0 : World) (hG : zt w0) (hm : zee x_s x_most = some R) :
    Calls Tryz.prog 78 #[str x_s, int x_most] w0 (Ret w0 (fun R => int R) R) := by
 rw [zee] at hm
 have hF : zG [] := ze
 have hO : Dk.Own w0 [] w0 [] := Dk.Own.refl w0
 refine S.enter tb Tryz.func78 rfl Tryz.ntmps78 rfl ?_ hO hm
 refine br rfl (fun hc3 => ?_) fun hc3 => ?_
 exact rt Tryz.results78 rfl
 refine cl c_113 rfl (fun r6 w hr6 hO => zm4 x_s 10 x_most r6 _ (hG.own hF hO) hr6) fun r6 hr6 => ?_
 refine jn 1 (fun a w => ∃ (t10 : Bool), Fits 25 [(5, int r6.1), (23, .bool t10)] a ∧ Dk.Own w0 [] w [] ∧ zcs r6 t10 = some R) rfl ?_ ?_
 refine br rfl (fun hc8 => ?_) fun hc8 => ?_
 exact en rfl fun a w hf hO hm => ⟨true, hf.sel rfl, hO, hm⟩
 refine cl c_114 rfl (fun r9 w hr9 hO => zm5 r6.1 10 r9 _ (hG.own hF hO) hr9) fun r9 hr9 => ?_
 exact en rfl fun a w hf hO hm => ⟨!(r9 == x_s), hf.sel rfl, hO, hm⟩
 rintro a w ⟨t10, hf, hO, hm⟩
 rw [zcs] at hm
 refine S.co tb ?_ hf hO hm
 refine br rfl (fun hc11 => ?_) fun hc11 => ?_
 exact rt Tryz.results78 rfl
 exact rt Tryz.results78 rfl

theorem ziW (x_s : Str) (R : Bool) (w0 : World) (hG : zt w0) (hm : zeY x_s = some R) :
    Calls Tryz.prog 46 #[str x_s] w0 (Ret w0 (fun R => .bool R) R) := by
 rw [zeY] at hm
 have hF : zG [] := ze
 have hO : Dk.Own w0 [] w0 [] := Dk.Own.refl w0
 refine S.enter tb Tryz.func46 rfl Tryz.ntmps46 rfl ?_ hO hm
 refine rw_ rfl fun a w hf hO hm => ?_
 obtain ⟨r2, hr2, hm⟩ := ob hm
 refine zo (zr c_58 hf (vs := [str x_s, zQ 46]) rfl) rfl hf rfl rfl (zgc x_s 46 r2 _ (hG.own hF hO) hr2) ?_
 rintro e w' ⟨p3, c4, he, hO'⟩
 refine ⟨_, he, fun a hf => ?_⟩
 have hO := hO.call hO' (by simp [Res.shared])
 refine S.op tb ?_ hf hO hm
 refine lp (fun k a w => ∃ (i7 : Int), Fits 22 [(3, .slice p3 r2.length c4), (4, int i7)] a ∧ Dk.Own w0 [] w [.row (.slice p3 r2.length c4) 9 1 r2.length (cells zd r2)] ∧ zbN r2 k i7 = some R) rfl (fun a w hf hO hm => ⟨0, hf.sel rfl, hO, hm⟩) ?_
 rintro n1 a w ⟨i7, hf, hO, hm⟩
 obtain _ | n1 := n1
 rw [zbN] at hm
 cases hm
 rw [zbN] at hm
 refine S.co tb ?_ hf hO hm
 refine br rfl (fun hc9 => ?_) fun hc9 => ?_
 refine rw_ rfl fun a w hf hO hm => ?_
 obtain ⟨x11, hx11, hm⟩ := ob hm
 obtain ⟨b12, o13, hix11, hSx11, hAx11⟩ := zbP (enc := zd) (sz := 1) (xs := r2) 41 Tryz.underlying41 zd3 (by decide) (fun _ => rfl) hO (i := 0) rfl hx11
 refine zbp (zp hix11 hf rfl rfl) rfl hf rfl rfl fun a hf => ?_
 refine S.op tb ?_ hf hO hm
 refine vl rfl rfl (fun a w hf hO => zb (o := 0) zab (hSx11 _ (hO.rowSees (i := 0) rfl)) rfl hf rfl) ?_
 refine cl c_78 rfl (fun r14 w hr14 hO => zie x11 255 r14 _ (hG.own hF hO) hr14) fun r14 hr14 => ?_
 refine br rfl (fun hc16 => ?_) fun hc16 => ?_
 exact rt Tryz.results46 rfl
 refine bi rfl fun i19 hi19 => ?_
 exact en rfl fun a w hf hO hm => ⟨_, Nat.lt_succ_self _, i19, hf.sel rfl, hO, hm⟩
 exact rt Tryz.results46 rfl

theorem zgQ (x_b : UInt8) (x_l : Str) (R : Bool) (w0 : World) (hG : zt w0) (hm : zgH x_b x_l = some R) :
    Calls Tryz.prog 109 #[zQ x_b, str x_l] w0 (Ret w0 (fun R => .bool R) R) := by
 rw [zgH] at hm
 have hF : zG [] := ze
 have hO : Dk.Own w0 [] w0 [] := Dk.Own.refl w0
 refine S.enter tb Tryz.func109 rfl Tryz.ntmps109 rfl ?_ hO hm
 refine lp (fun k a w => ∃ (i3 : Int), Fits 17 [(0, zQ x_b), (1, str x_l), (5, int i3)] a ∧ Dk.Own w0 [] w [] ∧ zfl x_b x_l k i3 = some R) rfl (fun a w hf hO hm => ⟨0, hf.sel rfl, hO, hm⟩) ?_
 rintro n1 a w ⟨i3, hf, hO, hm⟩
 obtain _ | n1 := n1
 rw [zfl] at hm
 cases hm
 rw [zfl] at hm
 refine S.co tb ?_ hf hO hm
 refine br rfl (fun hc5 => ?_) fun hc5 => ?_
 refine bi rfl fun b7 hb7 => ?_
 refine vl rfl rfl (fun a w hf hO => zL (b := b7) (c := x_b) hf rfl rfl) ?_
 refine br rfl (fun hc9 => ?_) fun hc9 => ?_
 exact rt Tryz.results109 rfl
 refine bi rfl fun i12 hi12 => ?_
 exact en rfl fun a w hf hO hm => ⟨_, Nat.lt_succ_self _, i12, hf.sel rfl, hO, hm⟩
 exact rt Tryz.results109 rfl

end Go.Proofs
end
section
set_option linter.unusedVariables false
set_option maxHeartbeats 1000000
set_option linter.unusedSimpArgs false
set_option maxRecDepth 100000
namespace Go.Proofs
open Go.Dk Go.Dm Go.RowKit

theorem zhE (x_b : UInt8) (R : Bool) (w0 : World) (hG : zt w0) (hm : zeZ x_b = some R) :
    Calls Tryz.prog 112 #[zQ x_b] w0 (Ret w0 (fun R => .bool R) R) := by
 rw [zeZ] at hm
 have hF : zG [] := ze
 have hO : Dk.Own w0 [] w0 [] := Dk.Own.refl w0
 refine S.enter tb Tryz.func112 rfl Tryz.ntmps112 rfl ?_ hO hm
 refine cl zph rfl (fun r2 w hr2 hO => zgQ x_b [48, 49, 50, 51, 52, 53, 54, 55, 56, 57, 97, 98, 99, 100, 101, 102, 65, 66, 67, 68, 69, 70] r2 _ (hG.own hF hO) hr2) fun r2 hr2 => ?_
 exact rt Tryz.results112 rfl

theorem zik (x_s : Str) (R : Bool) (w0 : World) (hG : zt w0) (hm : zef x_s = some R) :
    Calls Tryz.prog 77 #[str x_s] w0 (Ret w0 (fun R => .bool R) R) := by
 rw [zef] at hm
 have hF : zG [] := ze
 have hO : Dk.Own w0 [] w0 [] := Dk.Own.refl w0
 refine S.enter tb Tryz.func77 rfl Tryz.ntmps77 rfl ?_ hO hm
 refine rw_ rfl fun a w hf hO hm => ?_
 obtain ⟨r2, hr2, hm⟩ := ob hm
 refine zo (zr c_58 hf (vs := [str x_s, zQ 58]) rfl) rfl hf rfl rfl (zgc x_s 58 r2 _ (hG.own hF hO) hr2) ?_
 rintro e w' ⟨p3, c4, he, hO'⟩
 refine ⟨_, he, fun a hf => ?_⟩
 have hO := hO.call hO' (by simp [Res.shared])
 refine S.op tb ?_ hf hO hm
 refine lp (fun k a w => ∃ (i8 : Int) (i9 : Int), Fits 64 [(3, .slice p3 r2.length c4), (4, int i8), (5, int i9)] a ∧ Dk.Own w0 [] w [.row (.slice p3 r2.length c4) 9 1 r2.length (cells zd r2)] ∧ zU r2 k i8 i9 = some R) rfl (fun a w hf hO hm => ⟨0, 0, hf.sel rfl, hO, hm⟩) ?_
 rintro n1 a w ⟨i8, i9, hf, hO, hm⟩
 obtain _ | n1 := n1
 rw [zU] at hm
 cases hm
 rw [zU] at hm
 refine S.co tb ?_ hf hO hm
 refine br rfl (fun hc11 => ?_) fun hc11 => ?_
 refine jn 3 (fun a w => ∃ (i55 : Int), Fits 64 [(3, .slice p3 r2.length c4), (4, int i55), (5, int i9)] a ∧ Dk.Own w0 [] w [.row (.slice p3 r2.length c4) 9 1 r2.length (cells zd r2)] ∧ zct (zU r2 n1) i9 i55 = some R) rfl ?_ ?_
 refine jn 6 (fun a w => ∃ (t19 : Bool), Fits 64 [(3, .slice p3 r2.length c4), (4, int i8), (5, int i9), (26, .bool t19)] a ∧ Dk.Own w0 [] w [.row (.slice p3 r2.length c4) 9 1 r2.length (cells zd r2)] ∧ zcu (zU r2 n1) r2 i8 i9 t19 = some R) rfl ?_ ?_
 refine bi rfl fun i13 hi13 => ?_
 refine br rfl (fun hc14 => ?_) fun hc14 => ?_
 refine rw_ rfl fun a w hf hO hm => ?_
 obtain ⟨x15, hx15, hm⟩ := ob hm
 obtain ⟨b16, o17, hix15, hSx15, hAx15⟩ := zbP (enc := zd) (sz := 1) (xs := r2) 41 Tryz.underlying41 zd3 (by decide) (fun _ => rfl) hO (i := 0) rfl hx15
 refine zbp (zp hix15 hf rfl rfl) rfl hf rfl rfl fun a hf => ?_
 refine S.op tb ?_ hf hO hm
 refine kn (b' := true) hc14 rfl ?_
 refine vl rfl rfl (fun a w hf hO => zb (o := 0) zab (hSx15 _ (hO.rowSees (i := 0) rfl)) rfl hf rfl) ?_
 refine cl c_46 rfl (fun r18 w hr18 hO => ziW x15 r18 _ (hG.own hF hO) hr18) fun r18 hr18 => ?_
 exact en rfl fun a w hf hO hm => ⟨r18, hf.sel rfl, hO, hm⟩
 exact en rfl fun a w hf hO hm => ⟨false, hf.sel rfl, hO, hm⟩
 rintro a w ⟨t19, hf, hO, hm⟩
 rw [zcu] at hm
 refine S.co tb ?_ hf hO hm
 refine br rfl (fun hc20 => ?_) fun hc20 => ?_
 refine bi rfl fun i21 hi21 => ?_
 exact en rfl fun a w hf hO hm => ⟨i21, hf.sel rfl, hO, hm⟩
 refine lp (fun k a w => ∃ (i25 : Int), Fits 64 [(3, .slice p3 r2.length c4), (4, int i8), (5, int i9), (6, int i25)] a ∧ Dk.Own w0 [] w [.row (.slice p3 r2.length c4) 9 1 r2.length (cells zd r2)] ∧ zbh (zU r2 n1) r2 i8 i9 k i25 = some R) rfl (fun a w hf hO hm => ⟨0, hf.sel rfl, hO, hm⟩) ?_
 rintro n3 a w ⟨i25, hf, hO, hm⟩
 obtain _ | n3 := n3
 rw [zbh] at hm
 cases hm
 rw [zbh] at hm
 refine S.co tb ?_ hf hO hm
 refine rw_ rfl fun a w hf hO hm => ?_
 obtain ⟨x26, hx26, hm⟩ := ob hm
 obtain ⟨b27, o28, hix26, hSx26, hAx26⟩ := zbP (enc := zd) (sz := 1) (xs := r2) 41 Tryz.underlying41 zd3 (by decide) (fun _ => rfl) hO (i := 0) rfl hx26
 refine zbp (zp hix26 hf rfl rfl) rfl hf rfl rfl fun a hf => ?_
 refine S.op tb ?_ hf hO hm
 refine vl rfl rfl (fun a w hf hO => zb (o := 0) zab (hSx26 _ (hO.rowSees (i := 0) rfl)) rfl hf rfl) ?_
 refine br rfl (fun hc30 => ?_) fun hc30 => ?_
 refine rw_ rfl fun a w hf hO hm => ?_
 obtain ⟨x32, hx32, hm⟩ := ob hm
 obtain ⟨b33, o34, hix32, hSx32, hAx32⟩ := zbP (enc := zd) (sz := 1) (xs := r2) 41 Tryz.underlying41 zd3 (by decide) (fun _ => rfl) hO (i := 0) rfl hx32
 refine zbp (zp hix32 hf rfl rfl) rfl hf rfl rfl fun a hf => ?_
 refine S.op tb ?_ hf hO hm
 refine vl rfl rfl (fun a w hf hO => zb (o := 0) zab (hSx32 _ (hO.rowSees (i := 0) rfl)) rfl hf rfl) ?_
 refine bi rfl fun b35 hb35 => ?_
 refine cl zri rfl (fun r36 w hr36 hO => zhE b35 r36 _ (hG.own hF hO) hr36) fun r36 hr36 => ?_
 refine br rfl (fun hc38 => ?_) fun hc38 => ?_
 exact rt Tryz.results77 rfl
 refine bi rfl fun i41 hi41 => ?_
 exact en rfl fun a w hf hO hm => ⟨_, Nat.lt_succ_self _, i41, hf.sel rfl, hO, hm⟩
 refine jn 6 (fun a w => ∃ (t50 : Bool), Fits 64 [(3, .slice p3 r2.length c4), (4, int i8), (5, int i9), (59, .bool t50)] a ∧ Dk.Own w0 [] w [.row (.slice p3 r2.length c4) 9 1 r2.length (cells zd r2)] ∧ zdw (zU r2 n1) i8 i9 t50 = some R) rfl ?_ ?_
 refine rw_ rfl fun a w hf hO hm => ?_
 obtain ⟨x43, hx43, hm⟩ := ob hm
 obtain ⟨b44, o45, hix43, hSx43, hAx43⟩ := zbP (enc := zd) (sz := 1) (xs := r2) 41 Tryz.underlying41 zd3 (by decide) (fun _ => rfl) hO (i := 0) rfl hx43
 refine zbp (zp hix43 hf rfl rfl) rfl hf rfl rfl fun a hf => ?_
 refine S.op tb ?_ hf hO hm
 refine vl rfl rfl (fun a w hf hO => zb (o := 0) zab (hSx43 _ (hO.rowSees (i := 0) rfl)) rfl hf rfl) ?_
 refine br rfl (fun hc46 => ?_) fun hc46 => ?_
 exact en rfl fun a w hf hO hm => ⟨true, hf.sel rfl, hO, hm⟩
 refine rw_ rfl fun a w hf hO hm => ?_
 obtain ⟨x47, hx47, hm⟩ := ob hm
 obtain ⟨b48, o49, hix47, hSx47, hAx47⟩ := zbP (enc := zd) (sz := 1) (xs := r2) 41 Tryz.underlying41 zd3 (by decide) (fun _ => rfl) hO (i := 0) rfl hx47
 refine zbp (zp hix47 hf rfl rfl) rfl hf rfl rfl fun a hf => ?_
 refine S.op tb ?_ hf hO hm
 refine kn (b' := false) hc46 rfl ?_
 refine vl rfl rfl (fun a w hf hO => zb (o := 0) zab (hSx47 _ (hO.rowSees (i := 0) rfl)) rfl hf rfl) ?_
 exact en rfl fun a w hf hO hm => ⟨decide (4 < (x47.length : Int)), hf.sel rfl, hO, hm⟩
 rintro a w ⟨t50, hf, hO, hm⟩
 rw [zdw] at hm
 refine S.co tb ?_ hf hO hm
 refine br rfl (fun hc51 => ?_) fun hc51 => ?_
 exact rt Tryz.results77 rfl
 refine bi rfl fun i54 hi54 => ?_
 exact en rfl fun a w hf hO hm => ⟨i54, hf.sel rfl, hO, hm⟩
 rintro a w ⟨i55, hf, hO, hm⟩
 rw [zct] at hm
 refine S.co tb ?_ hf hO hm
 refine bi rfl fun i56 hi56 => ?_
 exact en rfl fun a w hf hO hm => ⟨_, Nat.lt_succ_self _, i55, i56, hf.sel rfl, hO, hm⟩
 exact rt Tryz.results77 rfl

theorem zod (x_s : Str) (R : Bool) (w0 : World) (hG : zt w0) (hm : zfB x_s = some R) :
    Calls Tryz.prog 45 #[str x_s] w0 (Ret w0 (fun R => .bool R) R) := by
 rw [zfB] at hm
 have hF : zG [] := ze
 have hO : Dk.Own w0 [] w0 [] := Dk.Own.refl w0
 refine S.enter tb Tryz.func45 rfl Tryz.ntmps45 rfl ?_ hO hm
 refine lp (fun k a w => ∃ (i3 : Int), Fits 59 [(0, str x_s), (3, int i3)] a ∧ Dk.Own w0 [] w [] ∧ zbG x_s k i3 = some R) rfl (fun a w hf hO hm => ⟨0, hf.sel rfl, hO, hm⟩) ?_
 rintro n1 a w ⟨i3, hf, hO, hm⟩
 obtain _ | n1 := n1
 rw [zbG] at hm
 cases hm
 rw [zbG] at hm
 refine S.co tb ?_ hf hO hm
 refine bi rfl fun i4 hi4 => ?_
 refine br rfl (fun hc6 => ?_) fun hc6 => ?_
 refine jn 6 (fun a w => ∃ (t12 : Bool), Fits 59 [(0, str x_s), (3, int i3), (24, .bool t12)] a ∧ Dk.Own w0 [] w [] ∧ zeC (zbG x_s n1) x_s i3 t12 = some R) rfl ?_ ?_
 refine bi rfl fun b8 hb8 => ?_
 refine vl rfl rfl (fun a w hf hO => zdf (b := b8) (c := 58) hf rfl rfl) ?_
 refine br rfl (fun hc9 => ?_) fun hc9 => ?_
 exact en rfl fun a w hf hO hm => ⟨true, hf.sel rfl, hO, hm⟩
 refine bi rfl fun i10 hi10 => ?_
 refine bi rfl fun b11 hb11 => ?_
 refine vl rfl rfl (fun a w hf hO => zdf (b := b11) (c := 58) hf rfl rfl) ?_
 exact en rfl fun a w hf hO hm => ⟨!(b11 == 58), hf.sel rfl, hO, hm⟩
 rintro a w ⟨t12, hf, hO, hm⟩
 rw [zeC] at hm
 refine S.co tb ?_ hf hO hm
 refine br rfl (fun hc13 => ?_) fun hc13 => ?_
 refine bi rfl fun i54 hi54 => ?_
 exact en rfl fun a w hf hO hm => ⟨_, Nat.lt_succ_self _, i54, hf.sel rfl, hO, hm⟩
 refine lp (fun k a w => ∃ (i16 : Int), Fits 59 [(0, str x_s), (3, int i3), (4, int i16)] a ∧ Dk.Own w0 [] w [] ∧ zaq x_s i3 k i16 = some R) rfl (fun a w hf hO hm => ⟨1, hf.sel rfl, hO, hm⟩) ?_
 rintro n3 a w ⟨i16, hf, hO, hm⟩
 obtain _ | n3 := n3
 rw [zaq] at hm
 cases hm
 rw [zaq] at hm
 refine S.co tb ?_ hf hO hm
 refine br rfl (fun hc18 => ?_) fun hc18 => ?_
 refine bi rfl fun s20 hs20 => ?_
 refine lp (fun k a w => ∃ (s23 : Str) (i24 : Int), Fits 59 [(0, str x_s), (3, int i3), (4, int i16), (5, str s23), (6, int i24)] a ∧ Dk.Own w0 [] w [] ∧ zbF (zaq x_s i3 n3) x_s i3 i16 k s23 i24 = some R) rfl (fun a w hf hO hm => ⟨s20, 0, hf.sel rfl, hO, hm⟩) ?_
 rintro n4 a w ⟨s23, i24, hf, hO, hm⟩
 obtain _ | n4 := n4
 rw [zbF] at hm
 cases hm
 rw [zbF] at hm
 refine S.co tb ?_ hf hO hm
 refine br rfl (fun hc26 => ?_) fun hc26 => ?_
 refine jn 15 (fun a w => ∃ (s31 : Str), Fits 59 [(0, str x_s), (3, int i3), (4, int i16), (5, str s31), (6, int i24)] a ∧ Dk.Own w0 [] w [] ∧ zeB (zbF (zaq x_s i3 n3) x_s i3 i16 n4) i24 s31 = some R) rfl ?_ ?_
 refine br rfl (fun hc29 => ?_) fun hc29 => ?_
 refine bi rfl fun s30 hs30 => ?_
 exact en rfl fun a w hf hO hm => ⟨s30, hf.sel rfl, hO, hm⟩
 exact en rfl fun a w hf hO hm => ⟨s23, hf.sel rfl, hO, hm⟩
 rintro a w ⟨s31, hf, hO, hm⟩
 rw [zeB] at hm
 refine S.co tb ?_ hf hO hm
 refine bi rfl fun s32 hs32 => ?_
 refine bi rfl fun i34 hi34 => ?_
 exact en rfl fun a w hf hO hm => ⟨_, Nat.lt_succ_self _, s32, i34, hf.sel rfl, hO, hm⟩
 refine jn 10 (fun a w => ∃ (s44 : Str), Fits 59 [(0, str x_s), (3, int i3), (4, int i16), (5, str s44)] a ∧ Dk.Own w0 [] w [] ∧ zdK (zaq x_s i3 n3) i16 s44 = some R) rfl ?_ ?_
 refine bi rfl fun i36 hi36 => ?_
 refine bi rfl fun s37 hs37 => ?_
 refine br rfl (fun hc39 => ?_) fun hc39 => ?_
 refine bi rfl fun s40 hs40 => ?_
 refine bi rfl fun i41 hi41 => ?_
 refine bi rfl fun s42 hs42 => ?_
 refine bi rfl fun s43 hs43 => ?_
 exact en rfl fun a w hf hO hm => ⟨s43, hf.sel rfl, hO, hm⟩
 exact en rfl fun a w hf hO hm => ⟨s23, hf.sel rfl, hO, hm⟩
 rintro a w ⟨s44, hf, hO, hm⟩
 rw [zdK] at hm
 refine S.co tb ?_ hf hO hm
 refine cl c_77 rfl (fun r45 w hr45 hO => zik s44 r45 _ (hG.own hF hO) hr45) fun r45 hr45 => ?_
 refine br rfl (fun hc47 => ?_) fun hc47 => ?_
 exact rt Tryz.results45 rfl
 refine bi rfl fun i50 hi50 => ?_
 exact en rfl fun a w hf hO hm => ⟨_, Nat.lt_succ_self _, i50, hf.sel rfl, hO, hm⟩
 exact rt Tryz.results45 rfl
 refine cl c_77 rfl (fun r56 w hr56 hO => zik x_s r56 _ (hG.own hF hO) hr56) fun r56 hr56 => ?_
 exact rt Tryz.results45 rfl

theorem ziH (x_b : UInt8) (R : Bool) (w0 : World) (hG : zt w0) (hm : zcv x_b = some R) :
    Calls Tryz.prog 165 #[zQ x_b] w0 (Ret w0 (fun R => .bool R) R) := by
 rw [zcv] at hm
 have hF : zG [] := ze
 have hO : Dk.Own w0 [] w0 [] := Dk.Own.refl w0
 refine S.enter tb Tryz.func165 rfl Tryz.ntmps165 rfl ?_ hO hm
 refine cl zph rfl (fun r2 w hr2 hO => zgQ x_b [97, 98, 99, 100, 101, 102, 103, 104, 105, 106, 107, 108, 109, 110, 111, 112, 113, 114, 115, 116, 117, 118, 119, 120, 121, 122, 65, 66, 67, 68, 69, 70, 71, 72, 73, 74, 75, 76, 77, 78, 79, 80, 81, 82, 83, 84, 85, 86, 87, 88, 89, 90, 48, 49, 50, 51, 52, 53, 54, 55, 56, 57, 45, 46, 95, 126] r2 _ (hG.own hF hO) hr2) fun r2 hr2 => ?_
 exact rt Tryz.results165 rfl

theorem zoe (x_b : UInt8) (R : Bool) (w0 : World) (hG : zt w0) (hm : zgI x_b = some R) :
    Calls Tryz.prog 166 #[zQ x_b] w0 (Ret w0 (fun R => .bool R) R) := by
 rw [zgI] at hm
 have hF : zG [] := ze
 have hO : Dk.Own w0 [] w0 [] := Dk.Own.refl w0
 refine S.enter tb Tryz.func166 rfl Tryz.ntmps166 rfl ?_ hO hm
 refine cl zph rfl (fun r2 w hr2 hO => zgQ x_b [33, 36, 38, 39, 40, 41, 42, 43, 44, 59, 61] r2 _ (hG.own hF hO) hr2) fun r2 hr2 => ?_
 exact rt Tryz.results166 rfl

theorem zno (x_s : Str) (R : Bool) (w0 : World) (hG : zt w0) (hm : zfU x_s = some R) :
    Calls Tryz.prog 136 #[str x_s] w0 (Ret w0 (fun R => .bool R) R) := by
 rw [zfU] at hm
 have hF : zG [] := ze
 have hO : Dk.Own w0 [] w0 [] := Dk.Own.refl w0
 refine S.enter tb Tryz.func136 rfl Tryz.ntmps136 rfl ?_ hO hm
 refine lp (fun k a w => ∃ (i3 : Int), Fits 52 [(0, str x_s), (3, int i3)] a ∧ Dk.Own w0 [] w [] ∧ zO x_s k i3 = some R) rfl (fun a w hf hO hm => ⟨0, hf.sel rfl, hO, hm⟩) ?_
 rintro n1 a w ⟨i3, hf, hO, hm⟩
 obtain _ | n1 := n1
 rw [zO] at hm
 cases hm
 rw [zO] at hm
 refine S.co tb ?_ hf hO hm
 refine br rfl (fun hc5 => ?_) fun hc5 => ?_
 refine jn 3 (fun a w => ∃ (i34 : Int), Fits 52 [(0, str x_s), (3, int i34)] a ∧ Dk.Own w0 [] w [] ∧ zc3 (zO x_s n1) i34 = some R) rfl ?_ ?_
 refine bi rfl fun b7 hb7 => ?_
 refine vl rfl rfl (fun a w hf hO => zL (b := b7) (c := 37) hf rfl rfl) ?_
 refine br rfl (fun hc9 => ?_) fun hc9 => ?_
 refine jn 7 (fun a w => ∃ (t19 : Bool), Fits 52 [(0, str x_s), (3, int i3), (34, .bool t19)] a ∧ Dk.Own w0 [] w [] ∧ zba (zO x_s n1) i3 t19 = some R) rfl ?_ ?_
 refine bi rfl fun i10 hi10 => ?_
 refine br rfl (fun hc11 => ?_) fun hc11 => ?_
 exact en rfl fun a w hf hO hm => ⟨true, hf.sel rfl, hO, hm⟩
 refine bi rfl fun i12 hi12 => ?_
 refine bi rfl fun b13 hb13 => ?_
 refine cl zri rfl (fun r14 w hr14 hO => zhE b13 r14 _ (hG.own hF hO) hr14) fun r14 hr14 => ?_
 refine br rfl (fun hc15 => ?_) fun hc15 => ?_
 exact en rfl fun a w hf hO hm => ⟨true, hf.sel rfl, hO, hm⟩
 refine bi rfl fun i16 hi16 => ?_
 refine bi rfl fun b17 hb17 => ?_
 refine cl zri rfl (fun r18 w hr18 hO => zhE b17 r18 _ (hG.own hF hO) hr18) fun r18 hr18 => ?_
 exact en rfl fun a w hf hO hm => ⟨!r18, hf.sel rfl, hO, hm⟩
 rintro a w ⟨t19, hf, hO, hm⟩
 rw [zba] at hm
 refine S.co tb ?_ hf hO hm
 refine br rfl (fun hc20 => ?_) fun hc20 => ?_
 exact rt Tryz.results136 rfl
 refine bi rfl fun i23 hi23 => ?_
 exact en rfl fun a w hf hO hm => ⟨i23, hf.sel rfl, hO, hm⟩
 refine jn 5 (fun a w => ∃ (t31 : Bool), Fits 52 [(0, str x_s), (3, int i3), (48, .bool t31)] a ∧ Dk.Own w0 [] w [] ∧ zdW (zO x_s n1) i3 t31 = some R) rfl ?_ ?_
 refine bi rfl fun b26 hb26 => ?_
 refine cl c_165 rfl (fun r27 w hr27 hO => ziH b26 r27 _ (hG.own hF hO) hr27) fun r27 hr27 => ?_
 refine br rfl (fun hc28 => ?_) fun hc28 => ?_
 refine bi rfl fun b29 hb29 => ?_
 refine cl c_166 rfl (fun r30 w hr30 hO => zoe b29 r30 _ (hG.own hF hO) hr30) fun r30 hr30 => ?_
 exact en rfl fun a w hf hO hm => ⟨!r30, hf.sel rfl, hO, hm⟩
 exact en rfl fun a w hf hO hm => ⟨false, hf.sel rfl, hO, hm⟩
 rintro a w ⟨t31, hf, hO, hm⟩
 rw [zdW] at hm
 refine S.co tb ?_ hf hO hm
 refine br rfl (fun hc32 => ?_) fun hc32 => ?_
 exact rt Tryz.results136 rfl
 exact en rfl fun a w hf hO hm => ⟨i3, hf.sel rfl, hO, hm⟩
 rintro a w ⟨i34, hf, hO, hm⟩
 rw [zc3] at hm
 refine S.co tb ?_ hf hO hm
 refine bi rfl fun i35 hi35 => ?_
 exact en rfl fun a w hf hO hm => ⟨_, Nat.lt_succ_self _, i35, hf.sel rfl, hO, hm⟩
 exact rt Tryz.results136 rfl

theorem zlD (x_s : Str) (R : api_Host) (w0 : World) (hG : zt w0) (hm : zgJ x_s = some R) :
    Calls Tryz.prog 94 #[str x_s] w0 (Ret w0 (fun R => .agg #[int R.Kind, str R.Name, int R.Port]) R) := by
 rw [zgJ] at hm
 have hF : zG [] := ze
 have hO : Dk.Own w0 [] w0 [] := Dk.Own.refl w0
 refine S.enter tb Tryz.func94 rfl Tryz.ntmps94 rfl ?_ hO hm
 refine rw_ rfl fun a w hf hO hm => ?_
 refine zal zge hf rfl hO fun a b1 w hf hO => ?_
 refine S.op tb ?_ hf hO hm
 refine jn 1 (fun a w => ∃ (t12 : Bool), Fits 42 [(0, str x_s), (2, ptr b1 0), (26, .bool t12)] a ∧ Dk.Own w0 [] w [.blk b1 [int 0, str [], int 0] 105] ∧ zcF x_s t12 = some R) rfl ?_ ?_
 refine br rfl (fun hc3 => ?_) fun hc3 => ?_
 refine bi rfl fun b4 hb4 => ?_
 refine vl rfl rfl (fun a w hf hO => zL (b := b4) (c := 91) hf rfl rfl) ?_
 refine br rfl (fun hc5 => ?_) fun hc5 => ?_
 refine bi rfl fun i6 hi6 => ?_
 refine bi rfl fun b7 hb7 => ?_
 refine vl rfl rfl (fun a w hf hO => zL (b := b7) (c := 93) hf rfl rfl) ?_
 refine br rfl (fun hc8 => ?_) fun hc8 => ?_
 refine bi rfl fun i9 hi9 => ?_
 refine bi rfl fun s10 hs10 => ?_
 refine cl c_45 rfl (fun r11 w hr11 hO => zod s10 r11 _ (hG.own hF hO) hr11) fun r11 hr11 => ?_
 exact en rfl fun a w hf hO hm => ⟨r11, hf.sel rfl, hO, hm⟩
 exact en rfl fun a w hf hO hm => ⟨false, hf.sel rfl, hO, hm⟩
 exact en rfl fun a w hf hO hm => ⟨false, hf.sel rfl, hO, hm⟩
 exact en rfl fun a w hf hO hm => ⟨false, hf.sel rfl, hO, hm⟩
 rintro a w ⟨t12, hf, hO, hm⟩
 rw [zcF] at hm
 refine S.co tb ?_ hf hO hm
 refine br rfl (fun hc13 => ?_) fun hc13 => ?_
 refine bi rfl fun i14 hi14 => ?_
 refine bi rfl fun s15 hs15 => ?_
 refine vl rfl rfl (fun a w hf hO => zS (vs := [(0, int 3), (1, str s15), (2, int (-1))]) (v := .agg #[int 3, str s15, int (-1)]) hf rfl (by kernel_rfl)) ?_
 refine rw_ rfl fun a w hf hO hm => ?_
 refine zu (i := 0) (n := 3) zX rfl rfl rfl (by simp [Value.oneCell']) hf rfl rfl hO fun w hO => ?_
 refine S.op tb ?_ hf hO hm
 refine re_ rfl fun a w hf hO hm => ?_
 obtain rfl := Option.some.inj hm
 exact zi Tryz.results94 hf (.cell rfl (zx (n := 3) (vs := [int 3, str s15, int (-1)]) zcI zX rfl ((hO.blkSees (i := 0) rfl).cells (o := 0) (n := 3) rfl)) .nil) ⟨rfl, hO.below⟩
 refine cl c_46 rfl (fun r18 w hr18 hO => ziW x_s r18 _ (hG.own hF hO) hr18) fun r18 hr18 => ?_
 refine br rfl (fun hc20 => ?_) fun hc20 => ?_
 refine vl rfl rfl (fun a w hf hO => zS (vs := [(0, int 2), (1, str x_s), (2, int (-1))]) (v := .agg #[int 2, str x_s, int (-1)]) hf rfl (by kernel_rfl)) ?_
 refine rw_ rfl fun a w hf hO hm => ?_
 refine zu (i := 0) (n := 3) zX rfl rfl rfl (by simp [Value.oneCell']) hf rfl rfl hO fun w hO => ?_
 refine S.op tb ?_ hf hO hm
 refine re_ rfl fun a w hf hO hm => ?_
 obtain rfl := Option.some.inj hm
 exact zi Tryz.results94 hf (.cell rfl (zx (n := 3) (vs := [int 2, str x_s, int (-1)]) zcI zX rfl ((hO.blkSees (i := 0) rfl).cells (o := 0) (n := 3) rfl)) .nil) ⟨rfl, hO.below⟩
 refine cl c_136 rfl (fun r23 w hr23 hO => zno x_s r23 _ (hG.own hF hO) hr23) fun r23 hr23 => ?_
 refine br rfl (fun hc25 => ?_) fun hc25 => ?_
 refine vl rfl rfl (fun a w hf hO => zS (vs := [(0, int 1), (1, str x_s), (2, int (-1))]) (v := .agg #[int 1, str x_s, int (-1)]) hf rfl (by kernel_rfl)) ?_
 refine rw_ rfl fun a w hf hO hm => ?_
 refine zu (i := 0) (n := 3) zX rfl rfl rfl (by simp [Value.oneCell']) hf rfl rfl hO fun w hO => ?_
 refine S.op tb ?_ hf hO hm
 refine re_ rfl fun a w hf hO hm => ?_
 obtain rfl := Option.some.inj hm
 exact zi Tryz.results94 hf (.cell rfl (zx (n := 3) (vs := [int 1, str x_s, int (-1)]) zcI zX rfl ((hO.blkSees (i := 0) rfl).cells (o := 0) (n := 3) rfl)) .nil) ⟨rfl, hO.below⟩
 refine vl rfl rfl (fun a w hf hO => zS (vs := []) (v := .agg #[int 0, str [], int 0]) hf rfl (by kernel_rfl)) ?_
 refine rw_ rfl fun a w hf hO hm => ?_
 refine zu (i := 0) (n := 3) zX rfl rfl rfl (by simp [Value.oneCell']) hf rfl rfl hO fun w hO => ?_
 refine S.op tb ?_ hf hO hm
 refine re_ rfl fun a w hf hO hm => ?_
 obtain rfl := Option.some.inj hm
 exact zi Tryz.results94 hf (.cell rfl (zx (n := 3) (vs := [int 0, str [], int 0]) zcI zX rfl ((hO.blkSees (i := 0) rfl).cells (o := 0) (n := 3) rfl)) .nil) ⟨rfl, hO.below⟩

theorem zmg (x_s : Str) (R : api_Host × Int) (w0 : World) (hG : zt w0) (hm : zfm x_s = some R) :
    Calls Tryz.prog 59 #[str x_s] w0 (Ret w0 (fun R => .tuple #[.agg #[int R.1.Kind, str R.1.Name, int R.1.Port], int R.2]) R) := by
 rw [zfm] at hm
 have hF : zG [] := ze
 have hO : Dk.Own w0 [] w0 [] := Dk.Own.refl w0
 refine S.enter tb Tryz.func59 rfl Tryz.ntmps59 rfl ?_ hO hm
 refine rw_ rfl fun a w hf hO hm => ?_
 refine zal zge hf rfl hO fun a b1 w hf hO => ?_
 refine S.op tb ?_ hf hO hm
 refine cl c_94 rfl (fun r3 w hr3 hO => zlD x_s r3 _ (hG.own hF hO) hr3) fun r3 hr3 => ?_
 refine rw_ rfl fun a w hf hO hm => ?_
 refine zal zge hf rfl hO fun a b4 w hf hO => ?_
 refine S.op tb ?_ hf hO hm
 refine rw_ rfl fun a w hf hO hm => ?_
 refine zu (i := 0) (n := 3) zX rfl rfl rfl (by simp [Value.oneCell']) hf rfl rfl hO fun w hO => ?_
 refine S.op tb ?_ hf hO hm
 refine vl rfl rfl (fun a w hf hO => zb (o := 0) znk (hO.blkSees (i := 0) rfl) rfl hf rfl) ?_
 refine br rfl (fun hc7 => ?_) fun hc7 => ?_
 refine vl rfl rfl (fun a w hf hO => zK (o := 0) (vs := [int r3.Kind, str r3.Name, int r3.Port]) zcI zX (hO.blkSees (i := 0) rfl) rfl rfl hf rfl) ?_
 refine rw_ rfl fun a w hf hO hm => ?_
 refine zu (i := 1) (n := 3) zX rfl rfl rfl (by simp [Value.oneCell']) hf rfl rfl hO fun w hO => ?_
 refine S.op tb ?_ hf hO hm
 refine re_ rfl fun a w hf hO hm => ?_
 obtain rfl := Option.some.inj hm
 exact zi Tryz.results59 hf (.cell rfl (zx (n := 3) (vs := [int r3.Kind, str r3.Name, int r3.Port]) zcI zX rfl ((hO.blkSees (i := 1) rfl).cells (o := 0) (n := 3) rfl)) (.tmp rfl .nil)) ⟨rfl, hO.below⟩
 refine bi rfl fun i10 hi10 => ?_
 refine lp (fun k a w => ∃ (i12 : Int), Fits 45 [(0, str x_s), (2, ptr b1 0), (4, ptr b4 0), (5, int i12)] a ∧ Dk.Own w0 [] w [.blk b4 [int r3.Kind, str r3.Name, int r3.Port] 105, .blk b1 [int 0, str [], int 0] 105] ∧ zbY x_s k i12 = some R) rfl (fun a w hf hO hm => ⟨i10, hf.sel rfl, hO, hm⟩) ?_
 rintro n1 a w ⟨i12, hf, hO, hm⟩
 obtain _ | n1 := n1
 rw [zbY] at hm
 cases hm
 rw [zbY] at hm
 refine S.co tb ?_ hf hO hm
 refine br rfl (fun hc14 => ?_) fun hc14 => ?_
 refine bi rfl fun b16 hb16 => ?_
 refine vl rfl rfl (fun a w hf hO => zdf (b := b16) (c := 58) hf rfl rfl) ?_
 refine br rfl (fun hc18 => ?_) fun hc18 => ?_
 refine bi rfl fun i35 hi35 => ?_
 exact en rfl fun a w hf hO hm => ⟨_, Nat.lt_succ_self _, i35, hf.sel rfl, hO, hm⟩
 refine bi rfl fun s20 hs20 => ?_
 refine cl c_94 rfl (fun r21 w hr21 hO => zlD s20 r21 _ (hG.own hF hO) hr21) fun r21 hr21 => ?_
 refine rw_ rfl fun a w hf hO hm => ?_
 refine zu (i := 0) (n := 3) zX rfl rfl rfl (by simp [Value.oneCell']) hf rfl rfl hO fun w hO => ?_
 refine S.op tb ?_ hf hO hm
 refine bi rfl fun i23 hi23 => ?_
 refine bi rfl fun s24 hs24 => ?_
 refine cl c_78 rfl (fun r25 w hr25 hO => zie s24 65535 r25 _ (hG.own hF hO) hr25) fun r25 hr25 => ?_
 refine jn 6 (fun a w => ∃ (t28 : Bool), Fits 45 [(2, ptr b1 0), (4, ptr b4 0), (6, int r25), (39, .bool t28)] a ∧ Dk.Own w0 [] w [.blk b4 [int r21.Kind, str r21.Name, int r21.Port] 105, .blk b1 [int 0, str [], int 0] 105] ∧ zdx r21 r25 t28 = some R) rfl ?_ ?_
 refine vl rfl rfl (fun a w hf hO => zb (o := 0) znk (hO.blkSees (i := 0) rfl) rfl hf rfl) ?_
 refine br rfl (fun hc27 => ?_) fun hc27 => ?_
 exact en rfl fun a w hf hO hm => ⟨true, hf.sel rfl, hO, hm⟩
 exact en rfl fun a w hf hO hm => ⟨decide (r25 < 0), hf.sel rfl, hO, hm⟩
 rintro a w ⟨t28, hf, hO, hm⟩
 rw [zdx] at hm
 refine S.co tb ?_ hf hO hm
 refine br rfl (fun hc29 => ?_) fun hc29 => ?_
 refine vl rfl rfl (fun a w hf hO => zS (vs := []) (v := .agg #[int 0, str [], int 0]) hf rfl (by kernel_rfl)) ?_
 refine rw_ rfl fun a w hf hO hm => ?_
 refine zu (i := 1) (n := 3) zX rfl rfl rfl (by simp [Value.oneCell']) hf rfl rfl hO fun w hO => ?_
 refine S.op tb ?_ hf hO hm
 refine re_ rfl fun a w hf hO hm => ?_
 obtain rfl := Option.some.inj hm
 exact zi Tryz.results59 hf (.cell rfl (zx (n := 3) (vs := [int 0, str [], int 0]) zcI zX rfl ((hO.blkSees (i := 1) rfl).cells (o := 0) (n := 3) rfl)) (.tmp rfl .nil)) ⟨rfl, hO.below⟩
 refine rw_ rfl fun a w hf hO hm => ?_
 refine zP (i := 0) (o := 2) (v := int r25) sz_3 rfl rfl rfl rfl hf rfl rfl hO fun w hO => ?_
 refine S.op tb ?_ hf hO hm
 refine vl rfl rfl (fun a w hf hO => zK (o := 0) (vs := [int r21.Kind, str r21.Name, int r25]) zcI zX (hO.blkSees (i := 0) rfl) rfl rfl hf rfl) ?_
 refine rw_ rfl fun a w hf hO hm => ?_
 refine zu (i := 1) (n := 3) zX rfl rfl rfl (by simp [Value.oneCell']) hf rfl rfl hO fun w hO => ?_
 refine S.op tb ?_ hf hO hm
 refine re_ rfl fun a w hf hO hm => ?_
 obtain rfl := Option.some.inj hm
 exact zi Tryz.results59 hf (.cell rfl (zx (n := 3) (vs := [int r21.Kind, str r21.Name, int r25]) zcI zX rfl ((hO.blkSees (i := 1) rfl).cells (o := 0) (n := 3) rfl)) (.tmp rfl .nil)) ⟨rfl, hO.below⟩
 refine vl rfl rfl (fun a w hf hO => zS (vs := []) (v := .agg #[int 0, str [], int 0]) hf rfl (by kernel_rfl)) ?_
 refine rw_ rfl fun a w hf hO hm => ?_
 refine zu (i := 1) (n := 3) zX rfl rfl rfl (by simp [Value.oneCell']) hf rfl rfl hO fun w hO => ?_
 refine S.op tb ?_ hf hO hm
 refine re_ rfl fun a w hf hO hm => ?_
 obtain rfl := Option.some.inj hm
 exact zi Tryz.results59 hf (.cell rfl (zx (n := 3) (vs := [int 0, str [], int 0]) zcI zX rfl ((hO.blkSees (i := 1) rfl).cells (o := 0) (n := 3) rfl)) (.tmp rfl .nil)) ⟨rfl, hO.below⟩

theorem zof (x_b : UInt8) (R : Bool) (w0 : World) (hG : zt w0) (hm : zgK x_b = some R) :
    Calls Tryz.prog 74 #[zQ x_b] w0 (Ret w0 (fun R => .bool R) R) := by
 rw [zgK] at hm
 have hF : zG [] := ze
 have hO : Dk.Own w0 [] w0 [] := Dk.Own.refl w0
 refine S.enter tb Tryz.func74 rfl Tryz.ntmps74 rfl ?_ hO hm
 refine cl zph rfl (fun r2 w hr2 hO => zgQ x_b [97, 98, 99, 100, 101, 102, 103, 104, 105, 106, 107, 108, 109, 110, 111, 112, 113, 114, 115, 116, 117, 118, 119, 120, 121, 122, 65, 66, 67, 68, 69, 70, 71, 72, 73, 74, 75, 76, 77, 78, 79, 80, 81, 82, 83, 84, 85, 86, 87, 88, 89, 90, 48, 49, 50, 51, 52, 53, 54, 55, 56, 57, 33, 35, 36, 37, 38, 39, 42, 43, 45, 46, 94, 95, 96, 124, 126] r2 _ (hG.own hF hO) hr2) fun r2 hr2 => ?_
 exact rt Tryz.results74 rfl

theorem zcf (x_s : Str) (R : Bool) (w0 : World) (hG : zt w0) (hm : zaj x_s = some R) :
    Calls Tryz.prog 42 #[str x_s] w0 (Ret w0 (fun R => .bool R) R) := by
 rw [zaj] at hm
 have hF : zG [] := ze
 have hO : Dk.Own w0 [] w0 [] := Dk.Own.refl w0
 refine S.enter tb Tryz.func42 rfl Tryz.ntmps42 rfl ?_ hO hm
 refine lp (fun k a w => ∃ (i3 : Int), Fits 18 [(0, str x_s), (3, int i3)] a ∧ Dk.Own w0 [] w [] ∧ zbi x_s k i3 = some R) rfl (fun a w hf hO hm => ⟨0, hf.sel rfl, hO, hm⟩) ?_
 rintro n1 a w ⟨i3, hf, hO, hm⟩
 obtain _ | n1 := n1
 rw [zbi] at hm
 cases hm
 rw [zbi] at hm
 refine S.co tb ?_ hf hO hm
 refine br rfl (fun hc5 => ?_) fun hc5 => ?_
 refine bi rfl fun b7 hb7 => ?_
 refine cl c_74 rfl (fun r8 w hr8 hO => zof b7 r8 _ (hG.own hF hO) hr8) fun r8 hr8 => ?_
 refine br rfl (fun hc10 => ?_) fun hc10 => ?_
 exact rt Tryz.results42 rfl
 refine bi rfl fun i13 hi13 => ?_
 exact en rfl fun a w hf hO hm => ⟨_, Nat.lt_succ_self _, i13, hf.sel rfl, hO, hm⟩
 exact rt Tryz.results42 rfl

theorem zil (x_s : Str) (R : Bool) (w0 : World) (hG : zt w0) (hm : zdy x_s = some R) :
    Calls Tryz.prog 60 #[str x_s] w0 (Ret w0 (fun R => .bool R) R) := by
 rw [zdy] at hm
 have hF : zG [] := ze
 have hO : Dk.Own w0 [] w0 [] := Dk.Own.refl w0
 refine S.enter tb Tryz.func60 rfl Tryz.ntmps60 rfl ?_ hO hm
 refine lp (fun k a w => ∃ (i3 : Int), Fits 26 [(0, str x_s), (3, int i3)] a ∧ Dk.Own w0 [] w [] ∧ zao x_s k i3 = some R) rfl (fun a w hf hO hm => ⟨0, hf.sel rfl, hO, hm⟩) ?_
 rintro n1 a w ⟨i3, hf, hO, hm⟩
 obtain _ | n1 := n1
 rw [zao] at hm
 cases hm
 rw [zao] at hm
 refine S.co tb ?_ hf hO hm
 refine br rfl (fun hc5 => ?_) fun hc5 => ?_
 refine jn 5 (fun a w => ∃ (t12 : Bool), Fits 26 [(0, str x_s), (3, int i3), (25, .bool t12)] a ∧ Dk.Own w0 [] w [] ∧ zcw (zao x_s n1) i3 t12 = some R) rfl ?_ ?_
 refine bi rfl fun b7 hb7 => ?_
 refine vl rfl rfl (fun a w hf hO => zL (b := b7) (c := 44) hf rfl rfl) ?_
 refine br rfl (fun hc8 => ?_) fun hc8 => ?_
 exact en rfl fun a w hf hO hm => ⟨true, hf.sel rfl, hO, hm⟩
 refine bi rfl fun b9 hb9 => ?_
 refine vl rfl rfl (fun a w hf hO => zL (b := b9) (c := 40) hf rfl rfl) ?_
 refine br rfl (fun hc10 => ?_) fun hc10 => ?_
 exact en rfl fun a w hf hO hm => ⟨true, hf.sel rfl, hO, hm⟩
 refine bi rfl fun b11 hb11 => ?_
 refine vl rfl rfl (fun a w hf hO => zL (b := b11) (c := 41) hf rfl rfl) ?_
 exact en rfl fun a w hf hO hm => ⟨b11 == 41, hf.sel rfl, hO, hm⟩
 rintro a w ⟨t12, hf, hO, hm⟩
 rw [zcw] at hm
 refine S.co tb ?_ hf hO hm
 refine br rfl (fun hc13 => ?_) fun hc13 => ?_
 exact rt Tryz.results60 rfl
 refine bi rfl fun i16 hi16 => ?_
 exact en rfl fun a w hf hO hm => ⟨_, Nat.lt_succ_self _, i16, hf.sel rfl, hO, hm⟩
 exact rt Tryz.results60 rfl

theorem zim (x_b : UInt8) (R : Bool) (w0 : World) (hG : zt w0) (hm : zeg x_b = some R) :
    Calls Tryz.prog 95 #[zQ x_b] w0 (Ret w0 (fun R => .bool R) R) := by
 rw [zeg] at hm
 have hF : zG [] := ze
 have hO : Dk.Own w0 [] w0 [] := Dk.Own.refl w0
 refine S.enter tb Tryz.func95 rfl Tryz.ntmps95 rfl ?_ hO hm
 refine jn 0 (fun a w => ∃ (t4 : Bool), Fits 13 [(2, .bool t4)] a ∧ Dk.Own w0 [] w [] ∧ zdz t4 = some R) rfl ?_ ?_
 refine vl rfl rfl (fun a w hf hO => zht (b := x_b) (c := 32) hf rfl rfl) ?_
 refine br rfl (fun hc2 => ?_) fun hc2 => ?_
 refine vl rfl rfl (fun a w hf hO => zdf (b := x_b) (c := 127) hf rfl rfl) ?_
 refine br rfl (fun hc3 => ?_) fun hc3 => ?_
 exact en rfl fun a w hf hO hm => ⟨true, hf.sel rfl, hO, hm⟩
 refine vl rfl rfl (fun a w hf hO => zL (b := x_b) (c := 9) hf rfl rfl) ?_
 exact en rfl fun a w hf hO hm => ⟨x_b == 9, hf.sel rfl, hO, hm⟩
 refine vl rfl rfl (fun a w hf hO => zL (b := x_b) (c := 9) hf rfl rfl) ?_
 exact en rfl fun a w hf hO hm => ⟨x_b == 9, hf.sel rfl, hO, hm⟩
 rintro a w ⟨t4, hf, hO, hm⟩
 rw [zdz] at hm
 refine S.co tb ?_ hf hO hm
 exact rt Tryz.results95 rfl

end Go.Proofs
end
section
set_option linter.unusedVariables false
set_option maxHeartbeats 1000000
set_option linter.unusedSimpArgs false
set_option maxRecDepth 100000
namespace Go.Proofs
open Go.Dk Go.Dm Go.RowKit

theorem zkv (x_s : Str) (R : Bool) (w0 : World) (hG : zt w0) (hm : zdX x_s = some R) :
    Calls Tryz.prog 61 #[str x_s] w0 (Ret w0 (fun R => .bool R) R) := by
 rw [zdX] at hm
 have hF : zG [] := ze
 have hO : Dk.Own w0 [] w0 [] := Dk.Own.refl w0
 refine S.enter tb Tryz.func61 rfl Tryz.ntmps61 rfl ?_ hO hm
 refine lp (fun k a w => ∃ (i4 : Int) (i5 : Int), Fits 49 [(0, str x_s), (3, int i4), (4, int i5)] a ∧ Dk.Own w0 [] w [] ∧ zq x_s k i4 i5 = some R) rfl (fun a w hf hO hm => ⟨0, 0, hf.sel rfl, hO, hm⟩) ?_
 rintro n1 a w ⟨i4, i5, hf, hO, hm⟩
 obtain _ | n1 := n1
 rw [zq] at hm
 cases hm
 rw [zq] at hm
 refine S.co tb ?_ hf hO hm
 refine br rfl (fun hc7 => ?_) fun hc7 => ?_
 refine jn 3 (fun a w => ∃ (i41 : Int) (i42 : Int), Fits 49 [(0, str x_s), (3, int i41), (4, int i42)] a ∧ Dk.Own w0 [] w [] ∧ zbR (zq x_s n1) i41 i42 = some R) rfl ?_ ?_
 refine bi rfl fun b9 hb9 => ?_
 refine cl c_95 rfl (fun r10 w hr10 hO => zim b9 r10 _ (hG.own hF hO) hr10) fun r10 hr10 => ?_
 refine br rfl (fun hc12 => ?_) fun hc12 => ?_
 exact rt Tryz.results61 rfl
 refine bi rfl fun b15 hb15 => ?_
 refine vl rfl rfl (fun a w hf hO => zL (b := b15) (c := 92) hf rfl rfl) ?_
 refine br rfl (fun hc17 => ?_) fun hc17 => ?_
 refine bi rfl fun i18 hi18 => ?_
 refine jn 7 (fun a w => ∃ (t23 : Bool), Fits 49 [(0, str x_s), (3, int i4), (4, int i18), (32, .bool t23)] a ∧ Dk.Own w0 [] w [] ∧ zcx (zq x_s n1) i4 i18 t23 = some R) rfl ?_ ?_
 refine br rfl (fun hc20 => ?_) fun hc20 => ?_
 exact en rfl fun a w hf hO hm => ⟨true, hf.sel rfl, hO, hm⟩
 refine bi rfl fun b21 hb21 => ?_
 refine cl c_95 rfl (fun r22 w hr22 hO => zim b21 r22 _ (hG.own hF hO) hr22) fun r22 hr22 => ?_
 exact en rfl fun a w hf hO hm => ⟨!r22, hf.sel rfl, hO, hm⟩
 rintro a w ⟨t23, hf, hO, hm⟩
 rw [zcx] at hm
 refine S.co tb ?_ hf hO hm
 refine br rfl (fun hc24 => ?_) fun hc24 => ?_
 exact rt Tryz.results61 rfl
 exact en rfl fun a w hf hO hm => ⟨i4, i18, hf.sel rfl, hO, hm⟩
 refine jn 5 (fun a w => ∃ (i32 : Int), Fits 49 [(0, str x_s), (3, int i32), (4, int i5)] a ∧ Dk.Own w0 [] w [] ∧ zcy (zq x_s n1) x_s i5 i32 = some R) rfl ?_ ?_
 refine bi rfl fun b28 hb28 => ?_
 refine vl rfl rfl (fun a w hf hO => zL (b := b28) (c := 40) hf rfl rfl) ?_
 refine br rfl (fun hc30 => ?_) fun hc30 => ?_
 refine bi rfl fun i31 hi31 => ?_
 exact en rfl fun a w hf hO hm => ⟨i31, hf.sel rfl, hO, hm⟩
 exact en rfl fun a w hf hO hm => ⟨i4, hf.sel rfl, hO, hm⟩
 rintro a w ⟨i32, hf, hO, hm⟩
 rw [zcy] at hm
 refine S.co tb ?_ hf hO hm
 refine jn 5 (fun a w => ∃ (i37 : Int), Fits 49 [(0, str x_s), (3, int i37), (4, int i5)] a ∧ Dk.Own w0 [] w [] ∧ za8 (zq x_s n1) i5 i37 = some R) rfl ?_ ?_
 refine bi rfl fun b33 hb33 => ?_
 refine vl rfl rfl (fun a w hf hO => zL (b := b33) (c := 41) hf rfl rfl) ?_
 refine br rfl (fun hc35 => ?_) fun hc35 => ?_
 refine bi rfl fun i36 hi36 => ?_
 exact en rfl fun a w hf hO hm => ⟨i36, hf.sel rfl, hO, hm⟩
 exact en rfl fun a w hf hO hm => ⟨i32, hf.sel rfl, hO, hm⟩
 rintro a w ⟨i37, hf, hO, hm⟩
 rw [za8] at hm
 refine S.co tb ?_ hf hO hm
 refine br rfl (fun hc39 => ?_) fun hc39 => ?_
 exact rt Tryz.results61 rfl
 exact en rfl fun a w hf hO hm => ⟨i37, i5, hf.sel rfl, hO, hm⟩
 rintro a w ⟨i41, i42, hf, hO, hm⟩
 rw [zbR] at hm
 refine S.co tb ?_ hf hO hm
 refine bi rfl fun i43 hi43 => ?_
 exact en rfl fun a w hf hO hm => ⟨_, Nat.lt_succ_self _, i41, i43, hf.sel rfl, hO, hm⟩
 exact rt Tryz.results61 rfl

theorem zmk (x_a0 : Str) (R : api_Via × Int) (w0 : World) (hG : zt w0) (hm : zfn x_a0 = some R) :
    Calls Tryz.prog 35 #[str x_a0] w0 (Ret w0 (fun R => .tuple #[.agg #[str R.1.Proto, str R.1.Version, str R.1.By, str R.1.Comment], int R.2]) R) := by
 rw [zfn] at hm
 have hF : zG [] := ze
 have hO : Dk.Own w0 [] w0 [] := Dk.Own.refl w0
 refine S.enter tb Tryz.func35 rfl Tryz.ntmps35 rfl ?_ hO hm
 refine rw_ rfl fun a w hf hO hm => ?_
 refine zal zj6 hf rfl hO fun a b1 w hf hO => ?_
 refine S.op tb ?_ hf hO hm
 refine lp (fun k a w => ∃ (i4 : Int), Fits 149 [(0, str x_a0), (2, ptr b1 0), (4, int i4)] a ∧ Dk.Own w0 [] w [.blk b1 [str [], str [], str [], str []] 23] ∧ zaP x_a0 k i4 = some R) rfl (fun a w hf hO hm => ⟨0, hf.sel rfl, hO, hm⟩) ?_
 rintro n1 a w ⟨i4, hf, hO, hm⟩
 obtain _ | n1 := n1
 rw [zaP] at hm
 cases hm
 rw [zaP] at hm
 refine S.co tb ?_ hf hO hm
 refine jn 4 (fun a w => ∃ (t7 : Bool), Fits 149 [(0, str x_a0), (2, ptr b1 0), (4, int i4), (21, .bool t7)] a ∧ Dk.Own w0 [] w [.blk b1 [str [], str [], str [], str []] 23] ∧ zdA (zaP x_a0 n1) x_a0 i4 t7 = some R) rfl ?_ ?_
 refine br rfl (fun hc5 => ?_) fun hc5 => ?_
 refine bi rfl fun b6 hb6 => ?_
 refine vl rfl rfl (fun a w hf hO => zdf (b := b6) (c := 32) hf rfl rfl) ?_
 exact en rfl fun a w hf hO hm => ⟨!(b6 == 32), hf.sel rfl, hO, hm⟩
 exact en rfl fun a w hf hO hm => ⟨false, hf.sel rfl, hO, hm⟩
 rintro a w ⟨t7, hf, hO, hm⟩
 rw [zdA] at hm
 refine S.co tb ?_ hf hO hm
 refine br rfl (fun hc8 => ?_) fun hc8 => ?_
 refine bi rfl fun i10 hi10 => ?_
 exact en rfl fun a w hf hO hm => ⟨_, Nat.lt_succ_self _, i10, hf.sel rfl, hO, hm⟩
 refine br rfl (fun hc13 => ?_) fun hc13 => ?_
 refine vl rfl rfl (fun a w hf hO => zS (vs := []) (v := .agg #[str [], str [], str [], str []]) hf rfl (by kernel_rfl)) ?_
 refine rw_ rfl fun a w hf hO hm => ?_
 refine zu (i := 0) (n := 4) zaV rfl rfl rfl (by simp [Value.oneCell']) hf rfl rfl hO fun w hO => ?_
 refine S.op tb ?_ hf hO hm
 refine re_ rfl fun a w hf hO hm => ?_
 obtain rfl := Option.some.inj hm
 exact zi Tryz.results35 hf (.cell rfl (zx (n := 4) (vs := [str [], str [], str [], str []]) zdi zaV rfl ((hO.blkSees (i := 0) rfl).cells (o := 0) (n := 4) rfl)) (.tmp rfl .nil)) ⟨rfl, hO.below⟩
 refine bi rfl fun i16 hi16 => ?_
 refine lp (fun k a w => ∃ (i18 : Int), Fits 149 [(0, str x_a0), (2, ptr b1 0), (4, int i4), (5, int i18)] a ∧ Dk.Own w0 [] w [.blk b1 [str [], str [], str [], str []] 23] ∧ zae x_a0 i4 k i18 = some R) rfl (fun a w hf hO hm => ⟨i16, hf.sel rfl, hO, hm⟩) ?_
 rintro n3 a w ⟨i18, hf, hO, hm⟩
 obtain _ | n3 := n3
 rw [zae] at hm
 cases hm
 rw [zae] at hm
 refine S.co tb ?_ hf hO hm
 refine jn 4 (fun a w => ∃ (t21 : Bool), Fits 149 [(0, str x_a0), (2, ptr b1 0), (4, int i4), (5, int i18), (40, .bool t21)] a ∧ Dk.Own w0 [] w [.blk b1 [str [], str [], str [], str []] 23] ∧ zbZ (zae x_a0 i4 n3) x_a0 i4 i18 t21 = some R) rfl ?_ ?_
 refine br rfl (fun hc19 => ?_) fun hc19 => ?_
 refine bi rfl fun b20 hb20 => ?_
 refine vl rfl rfl (fun a w hf hO => zdf (b := b20) (c := 32) hf rfl rfl) ?_
 exact en rfl fun a w hf hO hm => ⟨!(b20 == 32), hf.sel rfl, hO, hm⟩
 exact en rfl fun a w hf hO hm => ⟨false, hf.sel rfl, hO, hm⟩
 rintro a w ⟨t21, hf, hO, hm⟩
 rw [zbZ] at hm
 refine S.co tb ?_ hf hO hm
 refine br rfl (fun hc22 => ?_) fun hc22 => ?_
 refine bi rfl fun i24 hi24 => ?_
 exact en rfl fun a w hf hO hm => ⟨_, Nat.lt_succ_self _, i24, hf.sel rfl, hO, hm⟩
 refine rc_ rfl fun a w hf hO hm => ?_
 obtain ⟨s26, hs26, hm⟩ := ob hm
 obtain ⟨i27, hi27, hm⟩ := ob hm
 obtain ⟨s28, hs28, hm⟩ := ob hm
 refine zfx (S := Nat) (E0 := [(0, str x_a0), (2, ptr b1 0), (4, int i4), (5, int i18)]) (by kernel_rfl) (fun k σ w => match k with | 0 => Dk.Own w0 [] w [.blk b1 [str [], str [], str [], str []] 23] | 1 => Dk.Own w0 [] w [.blk σ [str [], str [], str [], str []] 23, .blk b1 [str [], str [], str [], str []] 23] | _ => Dk.Own w0 [] w [.blk σ [str [], str s26, str s28, str []] 23, .blk b1 [str [], str [], str [], str []] 23]) (fun σ => [⟨[(0, str x_a0)], some (43, str x_a0)⟩, ⟨[(4, int i4)], some (44, int i4)⟩, ⟨[(43, str x_a0), (44, int i4)], some (45, str s26)⟩, ⟨[(0, str x_a0)], some (46, str x_a0)⟩, ⟨[(4, int i4)], some (47, int i4)⟩, ⟨[(47, int i4)], some (48, int i27)⟩, ⟨[(5, int i18)], some (49, int i18)⟩, ⟨[(46, str x_a0), (48, int i27), (49, int i18)], some (50, str s28)⟩, ⟨[(45, str s26), (50, str s28)], some (51, .agg #[str [], str s26, str s28, str []])⟩, ⟨[], some (6, ptr σ 0)⟩, ⟨[(6, ptr σ 0), (51, .agg #[str [], str s26, str s28, str []])], none⟩]) (0) [9, 10] rfl (fun _ => rfl) (fun _ => rfl) (fun _ => rfl) rfl rfl (by decide) rfl hO.drew (hf.cons rfl (hf.cons rfl (hf.cons rfl (hf.cons rfl hf.nil)))) (fun σ => ⟨⟨rfl, trivial⟩, ⟨rfl, trivial⟩, ⟨rfl, rfl, trivial⟩, ⟨rfl, trivial⟩, ⟨rfl, trivial⟩, ⟨rfl, trivial⟩, ⟨rfl, trivial⟩, ⟨rfl, rfl, rfl, trivial⟩, ⟨rfl, rfl, trivial⟩, trivial, ⟨rfl, rfl, trivial⟩, trivial⟩) ⟨zj rfl (fun σ => rfl) (fun σ => rfl) (fun σ a w k _ _ _ _ hf => zv hf rfl), zj rfl (fun σ => rfl) (fun σ => rfl) (fun σ a w k _ _ _ _ hf => zv hf rfl), zj rfl (fun σ => rfl) (fun σ => rfl) (fun σ a w k _ _ _ _ hf => znd (l := x_a0) Tryz.underlying9 hf rfl rfl hs26), zj rfl (fun σ => rfl) (fun σ => rfl) (fun σ a w k _ _ _ _ hf => zv hf rfl), zj rfl (fun σ => rfl) (fun σ => rfl) (fun σ a w k _ _ _ _ hf => zv hf rfl), zj rfl (fun σ => rfl) (fun σ => rfl) (fun σ a w k _ _ _ _ hf => zoO hf rfl rfl hi27), zj rfl (fun σ => rfl) (fun σ => rfl) (fun σ a w k _ _ _ _ hf => zv hf rfl), zj rfl (fun σ => rfl) (fun σ => rfl) (fun σ a w k _ _ _ _ hf => zgq (l := x_a0) Tryz.underlying9 hf rfl rfl rfl hs28), zj rfl (fun σ => rfl) (fun σ => rfl) (fun σ a w k _ _ _ _ hf => zS (vs := [(1, str s26), (2, str s28)]) (v := .agg #[str [], str s26, str s28, str []]) hf rfl (by kernel_rfl)), zmR rfl (fun σ => rfl) (fun σ => rfl) rfl (fun σ w (hO : Dk.Own w0 [] w _) => by obtain ⟨b29, w', hO', hr⟩ := zqg (E := []) zj6 hO; exact ⟨(b29), w', hO', ⟨.inr rfl, .inr rfl, .inr rfl, .inr rfl, .inr rfl, .inr rfl, .inr rfl, .inr rfl, .inr rfl, .inl rfl, .inl rfl, trivial⟩, hr⟩), zhR rfl (fun σ => rfl) (fun σ => rfl) rfl (fun σ w (hO : Dk.Own w0 [] w _) => by obtain ⟨w', hO', hr⟩ := zmp (x := (.tmp 6)) (y := (.tmp 51)) (E := [(6, ptr σ 0), (51, .agg #[str [], str s26, str s28, str []])]) (i := 0) (n := 4) (vs := [str [], str s26, str s28, str []]) zaV rfl rfl rfl (by simp [Value.oneCell']) hO rfl rfl; exact ⟨(σ), w', hO', ⟨.inr rfl, .inr rfl, .inr rfl, .inr rfl, .inr rfl, .inr rfl, .inr rfl, .inr rfl, .inr rfl, .inr rfl, .inr rfl, trivial⟩, hr⟩), trivial⟩ ?_
 rintro b29 a w hf hO
 have hO : Dk.Own w0 [] w _ := hO
 have hf : Fits 149 [(0, str x_a0), (2, ptr b1 0), (4, int i4), (5, int i18), (6, ptr b29 0)] a := (hf.cons rfl (hf.cons rfl (hf.cons rfl (hf.cons rfl (hf.cons rfl hf.nil)))))
 refine S.no tb ?_ hf hO hm
 refine bi rfl fun s31 hs31 => ?_
 refine rw_ rfl fun a w hf hO hm => ?_
 obtain ⟨r32, hr32, hm⟩ := ob hm
 refine zo (zr c_58 hf (vs := [str s31, zQ 47]) rfl) rfl hf rfl rfl (zgc s31 47 r32 _ (hG.own hF hO) hr32) ?_
 rintro e w' ⟨p33, c34, he, hO'⟩
 refine ⟨_, he, fun a hf => ?_⟩
 have hO := hO.call hO' (by simp [Res.shared])
 refine S.op tb ?_ hf hO hm
 refine jn 0 (fun a w => ∃ (s45 : Str) (s46 : Str), Fits 149 [(0, str x_a0), (2, ptr b1 0), (5, int i18), (6, ptr b29 0), (7, .slice p33 r32.length c34)] a ∧ Dk.Own w0 [] w [.row (.slice p33 r32.length c34) 9 1 r32.length (cells zd r32), .blk b29 [str s45, str s46, str s28, str []] 23, .blk b1 [str [], str [], str [], str []] 23] ∧ zaO x_a0 i18 s28 r32 s45 s46 = some R) rfl ?_ ?_
 refine br rfl (fun hc37 => ?_) fun hc37 => ?_
 refine rw_ rfl fun a w hf hO hm => ?_
 obtain ⟨x38, hx38, hm⟩ := ob hm
 obtain ⟨b39, o40, hix38, hSx38, hAx38⟩ := zbP (enc := zd) (sz := 1) (xs := r32) 41 Tryz.underlying41 zd3 (by decide) (fun _ => rfl) hO (i := 0) rfl hx38
 refine zbp (zp hix38 hf rfl rfl) rfl hf rfl rfl fun a hf => ?_
 refine S.op tb ?_ hf hO hm
 refine vl rfl rfl (fun a w hf hO => zb (o := 0) zab (hSx38 _ (hO.rowSees (i := 0) rfl)) rfl hf rfl) ?_
 refine rw_ rfl fun a w hf hO hm => ?_
 refine zP (i := 1) (o := 0) (v := str x38) zd3 rfl rfl rfl rfl hf rfl rfl hO fun w hO => ?_
 refine S.op tb ?_ hf hO hm
 refine rw_ rfl fun a w hf hO hm => ?_
 obtain ⟨x42, hx42, hm⟩ := ob hm
 obtain ⟨b43, o44, hix42, hSx42, hAx42⟩ := zbP (enc := zd) (sz := 1) (xs := r32) 41 Tryz.underlying41 zd3 (by decide) (fun _ => rfl) hO (i := 0) rfl hx42
 refine zbp (zp hix42 hf rfl rfl) rfl hf rfl rfl fun a hf => ?_
 refine S.op tb ?_ hf hO hm
 refine vl rfl rfl (fun a w hf hO => zb (o := 0) zab (hSx42 _ (hO.rowSees (i := 0) rfl)) rfl hf rfl) ?_
 refine rw_ rfl fun a w hf hO hm => ?_
 refine zP (i := 1) (o := 1) (v := str x42) zd3 rfl rfl rfl rfl hf rfl rfl hO fun w hO => ?_
 refine S.op tb ?_ hf hO hm
 exact en rfl fun a w hf hO hm => ⟨x38, x42, hf.sel rfl, hO, hm⟩
 exact en rfl fun a w hf hO hm => ⟨[], s26, hf.sel rfl, hO, hm⟩
 rintro a w ⟨s45, s46, hf, hO, hm⟩
 rw [zaO] at hm
 refine S.co tb ?_ hf hO hm
 refine vl rfl rfl (fun a w hf hO => zb (o := 2) zab (hO.blkSees (i := 1) rfl) rfl hf rfl) ?_
 refine cl c_59 rfl (fun r47 w hr47 hO => zmg s28 r47 _ (hG.own hF hO) hr47) fun r47 hr47 => ?_
 refine rw_ rfl fun a w hf hO hm => ?_
 refine zal zge hf rfl hO fun a b48 w hf hO => ?_
 refine S.op tb ?_ hf hO hm
 refine rw_ rfl fun a w hf hO hm => ?_
 refine zu (i := 0) (n := 3) zX rfl rfl rfl (by simp [Value.oneCell']) hf rfl rfl hO fun w hO => ?_
 refine S.op tb ?_ hf hO hm
 refine jn 1 (fun a w => ∃ (t68 : Bool), Fits 149 [(0, str x_a0), (2, ptr b1 0), (5, int i18), (6, ptr b29 0), (107, .bool t68)] a ∧ Dk.Own w0 [] w [.blk b48 [int r47.1.Kind, str r47.1.Name, int r47.1.Port] 105, .row (.slice p33 r32.length c34) 9 1 r32.length (cells zd r32), .blk b29 [str s45, str s46, str s28, str []] 23, .blk b1 [str [], str [], str [], str []] 23] ∧ zB x_a0 i18 s28 s45 s46 t68 = some R) rfl ?_ ?_
 refine br rfl (fun hc50 => ?_) fun hc50 => ?_
 exact en rfl fun a w hf hO hm => ⟨true, hf.sel rfl, hO, hm⟩
 refine br rfl (fun hc51 => ?_) fun hc51 => ?_
 refine vl rfl rfl (fun a w hf hO => zb (o := 0) zab (hO.blkSees (i := 2) rfl) rfl hf rfl) ?_
 refine cl zo2 rfl (fun r52 w hr52 hO => zcf s45 r52 _ (hG.own hF hO) hr52) fun r52 hr52 => ?_
 refine br rfl (fun hc53 => ?_) fun hc53 => ?_
 exact en rfl fun a w hf hO hm => ⟨true, hf.sel rfl, hO, hm⟩
 refine vl rfl rfl (fun a w hf hO => zb (o := 1) zab (hO.blkSees (i := 2) rfl) rfl hf rfl) ?_
 refine cl zo2 rfl (fun r54 w hr54 hO => zcf s46 r54 _ (hG.own hF hO) hr54) fun r54 hr54 => ?_
 refine br rfl (fun hc55 => ?_) fun hc55 => ?_
 exact en rfl fun a w hf hO hm => ⟨true, hf.sel rfl, hO, hm⟩
 refine br rfl (fun hc56 => ?_) fun hc56 => ?_
 refine vl rfl rfl (fun a w hf hO => zb (o := 2) zab (hO.blkSees (i := 2) rfl) rfl hf rfl) ?_
 refine cl zo2 rfl (fun r57 w hr57 hO => zcf s28 r57 _ (hG.own hF hO) hr57) fun r57 hr57 => ?_
 exact en rfl fun a w hf hO hm => ⟨!r57, hf.sel rfl, hO, hm⟩
 refine vl rfl rfl (fun a w hf hO => zb (o := 2) zab (hO.blkSees (i := 2) rfl) rfl hf rfl) ?_
 refine cl c_60 rfl (fun r58 w hr58 hO => zil s28 r58 _ (hG.own hF hO) hr58) fun r58 hr58 => ?_
 refine br rfl (fun hc59 => ?_) fun hc59 => ?_
 refine vl rfl rfl (fun a w hf hO => zb (o := 2) zab (hO.blkSees (i := 2) rfl) rfl hf rfl) ?_
 refine cl zo2 rfl (fun r60 w hr60 hO => zcf s28 r60 _ (hG.own hF hO) hr60) fun r60 hr60 => ?_
 exact en rfl fun a w hf hO hm => ⟨!r60, hf.sel rfl, hO, hm⟩
 exact en rfl fun a w hf hO hm => ⟨false, hf.sel rfl, hO, hm⟩
 refine vl rfl rfl (fun a w hf hO => zb (o := 1) zab (hO.blkSees (i := 2) rfl) rfl hf rfl) ?_
 refine cl zo2 rfl (fun r61 w hr61 hO => zcf s46 r61 _ (hG.own hF hO) hr61) fun r61 hr61 => ?_
 refine br rfl (fun hc62 => ?_) fun hc62 => ?_
 exact en rfl fun a w hf hO hm => ⟨true, hf.sel rfl, hO, hm⟩
 refine br rfl (fun hc63 => ?_) fun hc63 => ?_
 refine vl rfl rfl (fun a w hf hO => zb (o := 2) zab (hO.blkSees (i := 2) rfl) rfl hf rfl) ?_
 refine cl zo2 rfl (fun r64 w hr64 hO => zcf s28 r64 _ (hG.own hF hO) hr64) fun r64 hr64 => ?_
 exact en rfl fun a w hf hO hm => ⟨!r64, hf.sel rfl, hO, hm⟩
 refine vl rfl rfl (fun a w hf hO => zb (o := 2) zab (hO.blkSees (i := 2) rfl) rfl hf rfl) ?_
 refine cl c_60 rfl (fun r65 w hr65 hO => zil s28 r65 _ (hG.own hF hO) hr65) fun r65 hr65 => ?_
 refine br rfl (fun hc66 => ?_) fun hc66 => ?_
 refine vl rfl rfl (fun a w hf hO => zb (o := 2) zab (hO.blkSees (i := 2) rfl) rfl hf rfl) ?_
 refine cl zo2 rfl (fun r67 w hr67 hO => zcf s28 r67 _ (hG.own hF hO) hr67) fun r67 hr67 => ?_
 exact en rfl fun a w hf hO hm => ⟨!r67, hf.sel rfl, hO, hm⟩
 exact en rfl fun a w hf hO hm => ⟨false, hf.sel rfl, hO, hm⟩
 rintro a w ⟨t68, hf, hO, hm⟩
 rw [zB] at hm
 refine S.co tb ?_ hf hO hm
 refine br rfl (fun hc69 => ?_) fun hc69 => ?_
 refine vl rfl rfl (fun a w hf hO => zS (vs := []) (v := .agg #[str [], str [], str [], str []]) hf rfl (by kernel_rfl)) ?_
 refine rw_ rfl fun a w hf hO hm => ?_
 refine zu (i := 3) (n := 4) zaV rfl rfl rfl (by simp [Value.oneCell']) hf rfl rfl hO fun w hO => ?_
 refine S.op tb ?_ hf hO hm
 refine re_ rfl fun a w hf hO hm => ?_
 obtain rfl := Option.some.inj hm
 exact zi Tryz.results35 hf (.cell rfl (zx (n := 4) (vs := [str [], str [], str [], str []]) zdi zaV rfl ((hO.blkSees (i := 3) rfl).cells (o := 0) (n := 4) rfl)) (.tmp rfl .nil)) ⟨rfl, hO.below⟩
 refine br rfl (fun hc73 => ?_) fun hc73 => ?_
 refine vl rfl rfl (fun a w hf hO => zK (o := 0) (vs := [str s45, str s46, str s28, str []]) zdi zaV (hO.blkSees (i := 2) rfl) rfl rfl hf rfl) ?_
 refine rw_ rfl fun a w hf hO hm => ?_
 refine zu (i := 3) (n := 4) zaV rfl rfl rfl (by simp [Value.oneCell']) hf rfl rfl hO fun w hO => ?_
 refine S.op tb ?_ hf hO hm
 refine re_ rfl fun a w hf hO hm => ?_
 obtain rfl := Option.some.inj hm
 exact zi Tryz.results35 hf (.cell rfl (zx (n := 4) (vs := [str s45, str s46, str s28, str []]) zdi zaV rfl ((hO.blkSees (i := 3) rfl).cells (o := 0) (n := 4) rfl)) (.tmp rfl .nil)) ⟨rfl, hO.below⟩
 refine bi rfl fun i76 hi76 => ?_
 refine bi rfl fun s77 hs77 => ?_
 refine jn 1 (fun a w => ∃ (t89 : Bool), Fits 149 [(2, ptr b1 0), (6, ptr b29 0), (10, str s77), (11, int (s77.length : Int)), (141, .bool t89)] a ∧ Dk.Own w0 [] w [.blk b48 [int r47.1.Kind, str r47.1.Name, int r47.1.Port] 105, .row (.slice p33 r32.length c34) 9 1 r32.length (cells zd r32), .blk b29 [str s45, str s46, str s28, str []] 23, .blk b1 [str [], str [], str [], str []] 23] ∧ zbj s28 s45 s46 s77 t89 = some R) rfl ?_ ?_
 refine br rfl (fun hc80 => ?_) fun hc80 => ?_
 exact en rfl fun a w hf hO hm => ⟨true, hf.sel rfl, hO, hm⟩
 refine bi rfl fun b81 hb81 => ?_
 refine vl rfl rfl (fun a w hf hO => zdf (b := b81) (c := 40) hf rfl rfl) ?_
 refine br rfl (fun hc82 => ?_) fun hc82 => ?_
 exact en rfl fun a w hf hO hm => ⟨true, hf.sel rfl, hO, hm⟩
 refine bi rfl fun i83 hi83 => ?_
 refine bi rfl fun b84 hb84 => ?_
 refine vl rfl rfl (fun a w hf hO => zdf (b := b84) (c := 41) hf rfl rfl) ?_
 refine br rfl (fun hc85 => ?_) fun hc85 => ?_
 exact en rfl fun a w hf hO hm => ⟨true, hf.sel rfl, hO, hm⟩
 refine bi rfl fun i86 hi86 => ?_
 refine bi rfl fun s87 hs87 => ?_
 refine cl c_61 rfl (fun r88 w hr88 hO => zkv s87 r88 _ (hG.own hF hO) hr88) fun r88 hr88 => ?_
 exact en rfl fun a w hf hO hm => ⟨!r88, hf.sel rfl, hO, hm⟩
 rintro a w ⟨t89, hf, hO, hm⟩
 rw [zbj] at hm
 refine S.co tb ?_ hf hO hm
 refine br rfl (fun hc90 => ?_) fun hc90 => ?_
 refine vl rfl rfl (fun a w hf hO => zS (vs := []) (v := .agg #[str [], str [], str [], str []]) hf rfl (by kernel_rfl)) ?_
 refine rw_ rfl fun a w hf hO hm => ?_
 refine zu (i := 3) (n := 4) zaV rfl rfl rfl (by simp [Value.oneCell']) hf rfl rfl hO fun w hO => ?_
 refine S.op tb ?_ hf hO hm
 refine re_ rfl fun a w hf hO hm => ?_
 obtain rfl := Option.some.inj hm
 exact zi Tryz.results35 hf (.cell rfl (zx (n := 4) (vs := [str [], str [], str [], str []]) zdi zaV rfl ((hO.blkSees (i := 3) rfl).cells (o := 0) (n := 4) rfl)) (.tmp rfl .nil)) ⟨rfl, hO.below⟩
 refine bi rfl fun i93 hi93 => ?_
 refine bi rfl fun s94 hs94 => ?_
 refine rw_ rfl fun a w hf hO hm => ?_
 refine zP (i := 2) (o := 3) (v := str s94) zd3 rfl rfl rfl rfl hf rfl rfl hO fun w hO => ?_
 refine S.op tb ?_ hf hO hm
 refine vl rfl rfl (fun a w hf hO => zK (o := 0) (vs := [str s45, str s46, str s28, str s94]) zdi zaV (hO.blkSees (i := 2) rfl) rfl rfl hf rfl) ?_
 refine rw_ rfl fun a w hf hO hm => ?_
 refine zu (i := 3) (n := 4) zaV rfl rfl rfl (by simp [Value.oneCell']) hf rfl rfl hO fun w hO => ?_
 refine S.op tb ?_ hf hO hm
 refine re_ rfl fun a w hf hO hm => ?_
 obtain rfl := Option.some.inj hm
 exact zi Tryz.results35 hf (.cell rfl (zx (n := 4) (vs := [str s45, str s46, str s28, str s94]) zdi zaV rfl ((hO.blkSees (i := 3) rfl).cells (o := 0) (n := 4) rfl)) (.tmp rfl .nil)) ⟨rfl, hO.below⟩

theorem zns (x_v : api_Via) (R : Str × Int) (w0 : World) (hG : zt w0) (hm : zfV x_v = some R) :
    Calls Tryz.prog 11 #[.agg #[str x_v.Proto, str x_v.Version, str x_v.By, str x_v.Comment]] w0 (Ret w0 (fun R => .tuple #[str R.1, int R.2]) R) := by
 rw [zfV] at hm
 have hF : zG [] := ze
 have hO : Dk.Own w0 [] w0 [] := Dk.Own.refl w0
 refine S.enter tb Tryz.func11 rfl Tryz.ntmps11 rfl ?_ hO hm
 refine rw_ rfl fun a w hf hO hm => ?_
 refine zen (v := .agg #[str x_v.Proto, str x_v.Version, str x_v.By, str x_v.Comment]) (cs := [str x_v.Proto, str x_v.Version, str x_v.By, str x_v.Comment]) rfl hf rfl rfl hO fun a b1 w hf hO => ?_
 refine S.op tb ?_ hf hO hm
 refine vl rfl rfl (fun a w hf hO => zb (o := 1) zab (hO.blkSees (i := 0) rfl) rfl hf rfl) ?_
 refine bi rfl fun s3 hs3 => ?_
 refine vl rfl rfl (fun a w hf hO => zb (o := 2) zab (hO.blkSees (i := 0) rfl) rfl hf rfl) ?_
 refine bi rfl fun s4 hs4 => ?_
 refine jn 0 (fun a w => ∃ (s10 : Str), Fits 43 [(1, ptr b1 0), (4, str s10)] a ∧ Dk.Own w0 [] w [.blk b1 [str x_v.Proto, str x_v.Version, str x_v.By, str x_v.Comment] 23] ∧ zc5 x_v s10 = some R) rfl ?_ ?_
 refine vl rfl rfl (fun a w hf hO => zb (o := 0) zab (hO.blkSees (i := 0) rfl) rfl hf rfl) ?_
 refine br rfl (fun hc7 => ?_) fun hc7 => ?_
 refine vl rfl rfl (fun a w hf hO => zb (o := 0) zab (hO.blkSees (i := 0) rfl) rfl hf rfl) ?_
 refine bi rfl fun s8 hs8 => ?_
 refine bi rfl fun s9 hs9 => ?_
 exact en rfl fun a w hf hO hm => ⟨s9, hf.sel rfl, hO, hm⟩
 exact en rfl fun a w hf hO hm => ⟨s4, hf.sel rfl, hO, hm⟩
 rintro a w ⟨s10, hf, hO, hm⟩
 rw [zc5] at hm
 refine S.co tb ?_ hf hO hm
 refine jn 0 (fun a w => ∃ (s16 : Str), Fits 43 [(1, ptr b1 0), (4, str s16)] a ∧ Dk.Own w0 [] w [.blk b1 [str x_v.Proto, str x_v.Version, str x_v.By, str x_v.Comment] 23] ∧ zc4 x_v s16 = some R) rfl ?_ ?_
 refine vl rfl rfl (fun a w hf hO => zb (o := 3) zab (hO.blkSees (i := 0) rfl) rfl hf rfl) ?_
 refine br rfl (fun hc12 => ?_) fun hc12 => ?_
 refine bi rfl fun s13 hs13 => ?_
 refine vl rfl rfl (fun a w hf hO => zb (o := 3) zab (hO.blkSees (i := 0) rfl) rfl hf rfl) ?_
 refine bi rfl fun s14 hs14 => ?_
 refine bi rfl fun s15 hs15 => ?_
 exact en rfl fun a w hf hO hm => ⟨s15, hf.sel rfl, hO, hm⟩
 exact en rfl fun a w hf hO hm => ⟨s10, hf.sel rfl, hO, hm⟩
 rintro a w ⟨s16, hf, hO, hm⟩
 rw [zc4] at hm
 refine S.co tb ?_ hf hO hm
 refine cl c_35 rfl (fun r17 w hr17 hO => zmk s16 r17 _ (hG.own hF hO) hr17) fun r17 hr17 => ?_
 refine rw_ rfl fun a w hf hO hm => ?_
 refine zal zj6 hf rfl hO fun a b18 w hf hO => ?_
 refine S.op tb ?_ hf hO hm
 refine rw_ rfl fun a w hf hO hm => ?_
 refine zu (i := 0) (n := 4) zaV rfl rfl rfl (by simp [Value.oneCell']) hf rfl rfl hO fun w hO => ?_
 refine S.op tb ?_ hf hO hm
 refine jn 1 (fun a w => ∃ (t21 : Bool), Fits 43 [(4, str s16), (41, .bool t21)] a ∧ Dk.Own w0 [] w [.blk b18 [str r17.1.Proto, str r17.1.Version, str r17.1.By, str r17.1.Comment] 23, .blk b1 [str x_v.Proto, str x_v.Version, str x_v.By, str x_v.Comment] 23] ∧ zdY s16 t21 = some R) rfl ?_ ?_
 refine br rfl (fun hc20 => ?_) fun hc20 => ?_
 exact en rfl fun a w hf hO hm => ⟨true, hf.sel rfl, hO, hm⟩
 refine vl rfl rfl (fun a w hf hO => zK (o := 0) (vs := [str r17.1.Proto, str r17.1.Version, str r17.1.By, str r17.1.Comment]) zdi zaV (hO.blkSees (i := 0) rfl) rfl rfl hf rfl) ?_
 refine vl rfl rfl (fun a w hf hO => zK (o := 0) (vs := [str x_v.Proto, str x_v.Version, str x_v.By, str x_v.Comment]) zdi zaV (hO.blkSees (i := 1) rfl) rfl rfl hf rfl) ?_
 refine vl rfl rfl (fun a w hf hO => zi0 (by kernel_rfl) (zq7 r17.1 x_v) hf rfl rfl) ?_
 exact en rfl fun a w hf hO hm => ⟨!(r17.1 == x_v), hf.sel rfl, hO, hm⟩
 rintro a w ⟨t21, hf, hO, hm⟩
 rw [zdY] at hm
 refine S.co tb ?_ hf hO hm
 refine br rfl (fun hc22 => ?_) fun hc22 => ?_
 exact rt Tryz.results11 rfl
 exact rt Tryz.results11 rfl

theorem zjf (x_s : Str) (R : Str) (w0 : World) (hG : zt w0) (hm : ze0 x_s = some R) :
    Calls Tryz.prog 62 #[str x_s] w0 (Ret w0 (fun R => str R) R) := by
 rw [ze0] at hm
 have hF : zG [] := ze
 have hO : Dk.Own w0 [] w0 [] := Dk.Own.refl w0
 refine S.enter tb Tryz.func62 rfl Tryz.ntmps62 rfl ?_ hO hm
 refine lp (fun k a w => ∃ (s4 : Str) (i5 : Int), Fits 36 [(0, str x_s), (3, str s4), (4, int i5)] a ∧ Dk.Own w0 [] w [] ∧ zaG x_s k s4 i5 = some R) rfl (fun a w hf hO hm => ⟨[], 0, hf.sel rfl, hO, hm⟩) ?_
 rintro n1 a w ⟨s4, i5, hf, hO, hm⟩
 obtain _ | n1 := n1
 rw [zaG] at hm
 cases hm
 rw [zaG] at hm
 refine S.co tb ?_ hf hO hm
 refine br rfl (fun hc7 => ?_) fun hc7 => ?_
 refine bi rfl fun i9 hi9 => ?_
 refine bi rfl fun s10 hs10 => ?_
 refine lp (fun k a w => ∃ (s13 : Str) (i14 : Int), Fits 36 [(0, str x_s), (3, str s4), (4, int i5), (5, str s13), (6, int i14)] a ∧ Dk.Own w0 [] w [] ∧ zaF (zaG x_s n1) x_s s4 i5 k s13 i14 = some R) rfl (fun a w hf hO hm => ⟨s10, 0, hf.sel rfl, hO, hm⟩) ?_
 rintro n2 a w ⟨s13, i14, hf, hO, hm⟩
 obtain _ | n2 := n2
 rw [zaF] at hm
 cases hm
 rw [zaF] at hm
 refine S.co tb ?_ hf hO hm
 refine br rfl (fun hc16 => ?_) fun hc16 => ?_
 refine jn 8 (fun a w => ∃ (s24 : Str), Fits 36 [(0, str x_s), (3, str s4), (4, int i5), (5, str s24), (6, int i14)] a ∧ Dk.Own w0 [] w [] ∧ zdZ (zaF (zaG x_s n1) x_s s4 i5 n2) i14 s24 = some R) rfl ?_ ?_
 refine rc_ rfl fun a w hf hO hm => ?_
 refine ze7 (by kernel_rfl) (by kernel_rfl) hO ?_
 refine zw (fun w hO => zv hf rfl) rfl hf rfl rfl fun a hf => ?_
 obtain ⟨b18, hb18, hm⟩ := ob hm
 refine zw (fun w hO => zi1 (l := [65, 66, 67, 68, 69, 70, 71, 72, 73, 74, 75, 76, 77, 78, 79, 80, 81, 82, 83, 84, 85, 86, 87, 88, 89, 90]) Tryz.underlying9 hf rfl rfl hb18) rfl hf rfl rfl fun a hf => ?_
 refine zw (fun w hO => zv hf rfl) rfl hf rfl rfl fun a hf => ?_
 refine zw (fun w hO => zv hf rfl) rfl hf rfl rfl fun a hf => ?_
 obtain ⟨b19, hb19, hm⟩ := ob hm
 refine zw (fun w hO => zi1 (l := x_s) Tryz.underlying9 hf rfl rfl hb19) rfl hf rfl rfl fun a hf => ?_
 refine zw (fun w hO => zL (b := b18) (c := b19) hf rfl rfl) rfl hf rfl rfl fun a hf => ?_
 refine wpQuiet_nil ?_
 intro w hO
 refine S.no tb ?_ hf hO hm
 refine br rfl (fun hc21 => ?_) fun hc21 => ?_
 refine bi rfl fun i22 hi22 => ?_
 refine bi rfl fun s23 hs23 => ?_
 exact en rfl fun a w hf hO hm => ⟨s23, hf.sel rfl, hO, hm⟩
 exact en rfl fun a w hf hO hm => ⟨s13, hf.sel rfl, hO, hm⟩
 rintro a w ⟨s24, hf, hO, hm⟩
 rw [zdZ] at hm
 refine S.co tb ?_ hf hO hm
 refine bi rfl fun i25 hi25 => ?_
 exact en rfl fun a w hf hO hm => ⟨_, Nat.lt_succ_self _, s24, i25, hf.sel rfl, hO, hm⟩
 refine bi rfl fun s27 hs27 => ?_
 refine bi rfl fun i29 hi29 => ?_
 exact en rfl fun a w hf hO hm => ⟨_, Nat.lt_succ_self _, s27, i29, hf.sel rfl, hO, hm⟩
 exact rt Tryz.results62 rfl

theorem zlN (x_f : api_Field) (x_name : Str) (R : Bool) (w0 : World) (hG : zt w0) (hm : zgL x_f x_name = some R) :
    Calls Tryz.prog 36 #[.agg #[str x_f.Name, str x_f.Value], str x_name] w0 (Ret w0 (fun R => .bool R) R) := by
 rw [zgL] at hm
 have hF : zG [] := ze
 have hO : Dk.Own w0 [] w0 [] := Dk.Own.refl w0
 refine S.enter tb Tryz.func36 rfl Tryz.ntmps36 rfl ?_ hO hm
 refine rw_ rfl fun a w hf hO hm => ?_
 refine zen (v := .agg #[str x_f.Name, str x_f.Value]) (cs := [str x_f.Name, str x_f.Value]) rfl hf rfl rfl hO fun a b1 w hf hO => ?_
 refine S.op tb ?_ hf hO hm
 refine vl rfl rfl (fun a w hf hO => zb (o := 0) zab (hO.blkSees (i := 0) rfl) rfl hf rfl) ?_
 refine cl c_62 rfl (fun r3 w hr3 hO => zjf x_f.Name r3 _ (hG.own hF hO) hr3) fun r3 hr3 => ?_
 refine cl c_62 rfl (fun r4 w hr4 hO => zjf x_name r4 _ (hG.own hF hO) hr4) fun r4 hr4 => ?_
 exact rt Tryz.results36 rfl

theorem znt (x_sep : Str) (x_l : List Str) (R : Str) (w0 : World) (hG : zt w0) {x_l_p0 : Option Addr} {x_l_c0 : Nat} (hs0 : zaU w0 x_l_p0 (cells zd x_l)) (hc0 : x_l.length ≤ x_l_c0) (hm : zfW x_sep x_l = some R) :
    Calls Tryz.prog 63 #[str x_sep, .slice x_l_p0 x_l.length x_l_c0] w0 (Ret w0 (fun R => str R) R) := by
 rw [zfW] at hm
 have hF : zG [] := ze
 have hO : Dk.Own w0 [] w0 [] := Dk.Own.refl w0
 have hO := hO.addShr hs0 (by simp [Res.shared])
 refine S.enter tb Tryz.func63 rfl Tryz.ntmps63 rfl ?_ hO hm
 refine lp (fun k a w => ∃ (s4 : Str) (i5 : Int), Fits 25 [(0, str x_sep), (1, .slice x_l_p0 x_l.length x_l_c0), (5, str s4), (6, int i5)] a ∧ Dk.Own w0 [] w [.shr x_l_p0 (cells zd x_l)] ∧ zbb x_sep x_l k s4 i5 = some R) rfl (fun a w hf hO hm => ⟨[], 0, hf.sel rfl, hO, hm⟩) ?_
 rintro n1 a w ⟨s4, i5, hf, hO, hm⟩
 obtain _ | n1 := n1
 rw [zbb] at hm
 cases hm
 rw [zbb] at hm
 refine S.co tb ?_ hf hO hm
 refine br rfl (fun hc7 => ?_) fun hc7 => ?_
 refine jn 5 (fun a w => ∃ (s12 : Str), Fits 25 [(0, str x_sep), (1, .slice x_l_p0 x_l.length x_l_c0), (5, str s12), (6, int i5)] a ∧ Dk.Own w0 [] w [.shr x_l_p0 (cells zd x_l)] ∧ zd0 (zbb x_sep x_l n1) x_l i5 s12 = some R) rfl ?_ ?_
 refine br rfl (fun hc10 => ?_) fun hc10 => ?_
 refine bi rfl fun s11 hs11 => ?_
 exact en rfl fun a w hf hO hm => ⟨s11, hf.sel rfl, hO, hm⟩
 exact en rfl fun a w hf hO hm => ⟨s4, hf.sel rfl, hO, hm⟩
 rintro a w ⟨s12, hf, hO, hm⟩
 rw [zd0] at hm
 refine S.co tb ?_ hf hO hm
 refine rw_ rfl fun a w hf hO hm => ?_
 obtain ⟨x13, hx13, hm⟩ := ob hm
 obtain ⟨b14, o15, hix13, hSx13⟩ := zeo (enc := zd) (sz := 1) (xs := x_l) 41 Tryz.underlying41 zd3 (by decide) (fun _ => rfl) (hO.sees (i := 0) rfl) hx13
 refine zbp (zp hix13 hf rfl rfl) rfl hf rfl rfl fun a hf => ?_
 refine S.op tb ?_ hf hO hm
 refine vl rfl rfl (fun a w hf hO => zb (o := 0) zab (hSx13 _ (hO.sees (i := 0) rfl)) rfl hf rfl) ?_
 refine bi rfl fun s16 hs16 => ?_
 refine bi rfl fun i18 hi18 => ?_
 exact en rfl fun a w hf hO hm => ⟨_, Nat.lt_succ_self _, s16, i18, hf.sel rfl, hO, hm⟩
 exact rt Tryz.results63 rfl

theorem zio (x_b : UInt8) (R : Bool) (w0 : World) (hG : zt w0) (hm : zeh x_b = some R) :
    Calls Tryz.prog 64 #[zQ x_b] w0 (Ret w0 (fun R => .bool R) R) := by
 rw [zeh] at hm
 have hF : zG [] := ze
 have hO : Dk.Own w0 [] w0 [] := Dk.Own.refl w0
 refine S.enter tb Tryz.func64 rfl Tryz.ntmps64 rfl ?_ hO hm
 refine jn 0 (fun a w => ∃ (t3 : Bool), Fits 9 [(2, .bool t3)] a ∧ Dk.Own w0 [] w [] ∧ zeD t3 = some R) rfl ?_ ?_
 refine vl rfl rfl (fun a w hf hO => zL (b := x_b) (c := 32) hf rfl rfl) ?_
 refine br rfl (fun hc2 => ?_) fun hc2 => ?_
 exact en rfl fun a w hf hO hm => ⟨true, hf.sel rfl, hO, hm⟩
 refine vl rfl rfl (fun a w hf hO => zL (b := x_b) (c := 9) hf rfl rfl) ?_
 exact en rfl fun a w hf hO hm => ⟨x_b == 9, hf.sel rfl, hO, hm⟩
 rintro a w ⟨t3, hf, hO, hm⟩
 rw [zeD] at hm
 refine S.co tb ?_ hf hO hm
 exact rt Tryz.results64 rfl

theorem zlO (x_s : Str) (x_l : List Str) (R : Str) (w0 : World) (hG : zt w0) {x_l_p0 : Option Addr} {x_l_c0 : Nat} (hs0 : zaU w0 x_l_p0 (cells zd x_l)) (hc0 : x_l.length ≤ x_l_c0) (hm : zeE x_s x_l = some R) :
    Calls Tryz.prog 37 #[str x_s, .slice x_l_p0 x_l.length x_l_c0] w0 (Ret w0 (fun R => str R) R) := by
 rw [zeE] at hm
 have hF : zG [] := ze
 have hO : Dk.Own w0 [] w0 [] := Dk.Own.refl w0
 have hO := hO.addShr hs0 (by simp [Res.shared])
 refine S.enter tb Tryz.func37 rfl Tryz.ntmps37 rfl ?_ hO hm
 refine br rfl (fun hc3 => ?_) fun hc3 => ?_
 exact rt Tryz.results37 rfl
 refine cl c_63 rfl (fun r6 w hr6 hO => znt [44, 32] x_l r6 _ (hG.own hF hO) (hO.sees (i := 0) rfl) hc0 hr6) fun r6 hr6 => ?_
 refine lp (fun k a w => ∃ (s9 : Str) (i10 : Int), Fits 46 [(0, str s9), (5, str r6), (6, int i10)] a ∧ Dk.Own w0 [] w [.shr x_l_p0 (cells zd x_l)] ∧ zar r6 k s9 i10 = some R) rfl (fun a w hf hO hm => ⟨x_s, 0, hf.sel rfl, hO, hm⟩) ?_
 rintro n1 a w ⟨s9, i10, hf, hO, hm⟩
 obtain _ | n1 := n1
 rw [zar] at hm
 cases hm
 rw [zar] at hm
 refine S.co tb ?_ hf hO hm
 refine br rfl (fun hc12 => ?_) fun hc12 => ?_
 refine jn 5 (fun a w => ∃ (t18 : Bool), Fits 46 [(0, str s9), (5, str r6), (6, int i10), (29, .bool t18)] a ∧ Dk.Own w0 [] w [.shr x_l_p0 (cells zd x_l)] ∧ zcT (zar r6 n1) r6 s9 i10 t18 = some R) rfl ?_ ?_
 refine bi rfl fun b14 hb14 => ?_
 refine vl rfl rfl (fun a w hf hO => zdf (b := b14) (c := 44) hf rfl rfl) ?_
 refine br rfl (fun hc15 => ?_) fun hc15 => ?_
 refine bi rfl fun b16 hb16 => ?_
 refine cl c_64 rfl (fun r17 w hr17 hO => zio b16 r17 _ (hG.own hF hO) hr17) fun r17 hr17 => ?_
 exact en rfl fun a w hf hO hm => ⟨!r17, hf.sel rfl, hO, hm⟩
 exact en rfl fun a w hf hO hm => ⟨false, hf.sel rfl, hO, hm⟩
 rintro a w ⟨t18, hf, hO, hm⟩
 rw [zcT] at hm
 refine S.co tb ?_ hf hO hm
 refine br rfl (fun hc19 => ?_) fun hc19 => ?_
 refine lp (fun k a w => ∃ (s20 : Str), Fits 46 [(0, str s20), (5, str r6)] a ∧ Dk.Own w0 [] w [.shr x_l_p0 (cells zd x_l)] ∧ zbv r6 k s20 = some R) rfl (fun a w hf hO hm => ⟨s9, hf.sel rfl, hO, hm⟩) ?_
 rintro n3 a w ⟨s20, hf, hO, hm⟩
 obtain _ | n3 := n3
 rw [zbv] at hm
 cases hm
 rw [zbv] at hm
 refine S.co tb ?_ hf hO hm
 refine bi rfl fun i21 hi21 => ?_
 refine bi rfl fun b22 hb22 => ?_
 refine cl c_64 rfl (fun r23 w hr23 hO => zio b22 r23 _ (hG.own hF hO) hr23) fun r23 hr23 => ?_
 refine br rfl (fun hc25 => ?_) fun hc25 => ?_
 refine bi rfl fun i27 hi27 => ?_
 refine bi rfl fun s28 hs28 => ?_
 exact en rfl fun a w hf hO hm => ⟨_, Nat.lt_succ_self _, s28, hf.sel rfl, hO, hm⟩
 refine bi rfl fun s30 hs30 => ?_
 refine bi rfl fun s31 hs31 => ?_
 exact rt Tryz.results37 rfl
 refine bi rfl fun i34 hi34 => ?_
 exact en rfl fun a w hf hO hm => ⟨_, Nat.lt_succ_self _, s9, i34, hf.sel rfl, hO, hm⟩
 exact rt Tryz.results37 rfl

theorem zlP (x_l : List api_Field) (x_name : Str) (x_s : Str) (R : List api_Field) (w0 : World) (hG : zt w0) {x_l_p0 : Option Addr} {x_l_c0 : Nat} (hs0 : zaU w0 x_l_p0 (cells za x_l)) (hc0 : x_l.length ≤ x_l_c0) (hm : zeF x_l x_name x_s = some R) :
    Calls Tryz.prog 13 #[.slice x_l_p0 x_l.length x_l_c0, str x_name, str x_s] w0 fun e w' => ∃ (p0 : Option Addr) (c0 : Nat), e = .returned (.slice p0 R.length c0) ∧ Dk.Own w0 [] w' [.row (.slice p0 R.length c0) 71 2 R.length (cells za R)] := by
 rw [zeF] at hm
 have hF : zG [] := ze
 have hO : Dk.Own w0 [] w0 [] := Dk.Own.refl w0
 have hO := hO.addShr hs0 (by simp [Res.shared])
 refine S.enter tb Tryz.func13 rfl Tryz.ntmps13 rfl ?_ hO hm
 refine nl 71 2 ?_
 refine lp (fun k a w => ∃ (i4 : Int) (i5 : Int), Fits 57 [(0, .slice x_l_p0 x_l.length x_l_c0), (1, str x_name), (2, str x_s), (7, int i4), (8, int i5)] a ∧ Dk.Own w0 [] w [.row (.slice none 0 0) 71 2 0 (cells za []), .shr x_l_p0 (cells za x_l)] ∧ zat x_l x_name x_s k i4 i5 = some R) rfl (fun a w hf hO hm => ⟨(-1), 0, hf.sel rfl, hO, hm⟩) ?_
 rintro n1 a w ⟨i4, i5, hf, hO, hm⟩
 obtain _ | n1 := n1
 rw [zat] at hm
 cases hm
 rw [zat] at hm
 refine S.co tb ?_ hf hO hm
 refine br rfl (fun hc7 => ?_) fun hc7 => ?_
 refine jn 3 (fun a w => ∃ (i15 : Int), Fits 57 [(0, .slice x_l_p0 x_l.length x_l_c0), (1, str x_name), (2, str x_s), (7, int i15), (8, int i5)] a ∧ Dk.Own w0 [] w [.row (.slice none 0 0) 71 2 0 (cells za []), .shr x_l_p0 (cells za x_l)] ∧ zcU (zat x_l x_name x_s n1) i5 i15 = some R) rfl ?_ ?_
 refine rw_ rfl fun a w hf hO hm => ?_
 obtain ⟨x9, hx9, hm⟩ := ob hm
 obtain ⟨b10, o11, hix9, hSx9⟩ := zeo (enc := za) (sz := 2) (xs := x_l) 24 Tryz.underlying24 zeM (by decide) (fun _ => rfl) (hO.sees (i := 1) rfl) hx9
 refine zbp (zp hix9 hf rfl rfl) rfl hf rfl rfl fun a hf => ?_
 refine S.op tb ?_ hf hO hm
 refine vl rfl rfl (fun a w hf hO => zK (o := 0) (vs := [str x9.Name, str x9.Value]) zmG zeM (hSx9 _ (hO.sees (i := 1) rfl)) rfl rfl hf rfl) ?_
 refine cl c_36 rfl (fun r12 w hr12 hO => zlN x9 x_name r12 _ (hG.own hF hO) hr12) fun r12 hr12 => ?_
 refine br rfl (fun hc14 => ?_) fun hc14 => ?_
 exact en rfl fun a w hf hO hm => ⟨i5, hf.sel rfl, hO, hm⟩
 exact en rfl fun a w hf hO hm => ⟨i4, hf.sel rfl, hO, hm⟩
 rintro a w ⟨i15, hf, hO, hm⟩
 rw [zcU] at hm
 refine S.co tb ?_ hf hO hm
 refine bi rfl fun i16 hi16 => ?_
 exact en rfl fun a w hf hO hm => ⟨_, Nat.lt_succ_self _, i15, i16, hf.sel rfl, hO, hm⟩
 refine nl 71 2 ?_
 refine lp (fun k a w => ∃ (p20 : Option Addr) (c21 : Nat) (l22 : List api_Field) (i23 : Int), Fits 57 [(0, .slice x_l_p0 x_l.length x_l_c0), (1, str x_name), (2, str x_s), (7, int i4), (9, .slice p20 l22.length c21), (10, int i23)] a ∧ Dk.Own w0 [] w [.row (.slice p20 l22.length c21) 71 2 l22.length (cells za l22), .row (.slice none 0 0) 71 2 0 (cells za []), .shr x_l_p0 (cells za x_l)] ∧ zas x_l x_name x_s i4 k l22 i23 = some R) rfl (fun a w hf hO hm => ⟨none, 0, [], 0, hf.sel rfl, hO, hm⟩) ?_
 rintro n3 a w ⟨p20, c21, l22, i23, hf, hO, hm⟩
 obtain _ | n3 := n3
 rw [zas] at hm
 cases hm
 rw [zas] at hm
 refine S.co tb ?_ hf hO hm
 refine br rfl (fun hc25 => ?_) fun hc25 => ?_
 refine rw_ rfl fun a w hf hO hm => ?_
 obtain ⟨x27, hx27, hm⟩ := ob hm
 obtain ⟨b28, o29, hix27, hSx27⟩ := zeo (enc := za) (sz := 2) (xs := x_l) 24 Tryz.underlying24 zeM (by decide) (fun _ => rfl) (hO.sees (i := 2) rfl) hx27
 refine zbp (zp hix27 hf rfl rfl) rfl hf rfl rfl fun a hf => ?_
 refine S.op tb ?_ hf hO hm
 refine vl rfl rfl (fun a w hf hO => zK (o := 0) (vs := [str x27.Name, str x27.Value]) zmG zeM (hSx27 _ (hO.sees (i := 2) rfl)) rfl rfl hf rfl) ?_
 refine rw_ rfl fun a w hf hO hm => ?_
 refine zal al_71 hf rfl hO fun a b30 w hf hO => ?_
 refine S.op tb ?_ hf hO hm
 refine rw_ rfl fun a w hf hO hm => ?_
 refine zu (i := 0) (n := 2) zeM rfl rfl rfl (by simp [Value.oneCell']) hf rfl rfl hO fun w hO => ?_
 refine S.op tb ?_ hf hO hm
 refine jn 5 (fun a w => ∃ (s36 : Str), Fits 57 [(0, .slice x_l_p0 x_l.length x_l_c0), (1, str x_name), (2, str x_s), (7, int i4), (9, .slice p20 l22.length c21), (10, int i23), (11, ptr b30 0)] a ∧ Dk.Own w0 [] w [.blk b30 [str x27.Name, str s36] 71, .row (.slice p20 l22.length c21) 71 2 l22.length (cells za l22), .row (.slice none 0 0) 71 2 0 (cells za []), .shr x_l_p0 (cells za x_l)] ∧ zcV (zas x_l x_name x_s i4 n3) l22 i23 x27 s36 = some R) rfl ?_ ?_
 refine br rfl (fun hc33 => ?_) fun hc33 => ?_
 refine vl rfl rfl (fun a w hf hO => zb (o := 1) zab (hO.blkSees (i := 0) rfl) rfl hf rfl) ?_
 refine rw_ rfl fun a w hf hO hm => ?_
 refine zs (vs := [(0, str x_s)]) (cs := [str x_s]) (e := 9) (sz := 1) hf rfl rfl (fun w => by kernel_rfl) rfl rfl hO fun a b34 w hf hO => ?_
 refine S.op tb ?_ hf hO hm
 refine cl c_37 rfl (fun r35 w hr35 hO => zlO x27.Value ([x_s] : List Str) r35 _ (hG.own hF hO) (hO.rowSees (i := 0) rfl) (hO.rowCap (i := 0) rfl) hr35) fun r35 hr35 => ?_
 refine rw_ rfl fun a w hf hO hm => ?_
 refine zP (i := 1) (o := 1) (v := str r35) zd3 rfl rfl rfl rfl hf rfl rfl hO fun w hO => ?_
 refine S.op tb ?_ hf hO hm
 exact en rfl fun a w hf hO hm => ⟨r35, hf.sel rfl, (hO.sub (.cons _ (.cons_cons _ (.cons_cons _ (.cons_cons _ (.cons_cons _ .slnil)))))), hm⟩
 exact en rfl fun a w hf hO hm => ⟨x27.Value, hf.sel rfl, hO, hm⟩
 rintro a w ⟨s36, hf, hO, hm⟩
 rw [zcV] at hm
 refine S.co tb ?_ hf hO hm
 refine vl rfl rfl (fun a w hf hO => zK (o := 0) (vs := [str x27.Name, str s36]) zmG zeM (hO.blkSees (i := 0) rfl) rfl rfl hf rfl) ?_
 refine rw_ rfl fun a w hf hO hm => ?_
 refine zs (vs := [(0, .agg #[str x27.Name, str s36])]) (cs := [str x27.Name, str s36]) (e := 71) (sz := 2) hf rfl rfl (fun w => by kernel_rfl) rfl rfl hO fun a b37 w hf hO => ?_
 refine S.op tb ?_ hf hO hm
 refine rw_ rfl fun a w hf hO hm => ?_
 obtain ⟨hg40, hm⟩ := og hm
 refine zbS zn3 (enc := za) (xs := l22) (ys := [(⟨x27.Name, s36⟩ : api_Field)]) (i := 2) (fun _ => rfl) rfl (hO.rowSees (i := 0) rfl) (by simp [cells, za, Value.oneCell']) hg40 hf rfl rfl rfl hO fun a p38 c39 w hf hO => ?_
 refine S.op tb ?_ hf hO hm
 refine bi rfl fun i42 hi42 => ?_
 exact en rfl fun a w hf hO hm => ⟨_, Nat.lt_succ_self _, p38, c39, l22 ++ [(⟨x27.Name, s36⟩ : api_Field)], i42, hf.sel rfl, (hO.sub (.cons _ (.cons _ (.cons_cons _ (.cons_cons _ (.cons_cons _ .slnil)))))), hm⟩
 refine jn 0 (fun a w => ∃ (p50 : Option Addr) (c51 : Nat) (l52 : List api_Field), Fits 57 [(9, .slice p50 l52.length c51)] a ∧ Dk.Own w0 [] w [.row (.slice p50 l52.length c51) 71 2 l52.length (cells za l52), .row (.slice none 0 0) 71 2 0 (cells za []), .shr x_l_p0 (cells za x_l)] ∧ zcW l52 = some R) rfl ?_ ?_
 refine br rfl (fun hc45 => ?_) fun hc45 => ?_
 refine vl rfl rfl (fun a w hf hO => zS (vs := [(0, str x_name), (1, str x_s)]) (v := .agg #[str x_name, str x_s]) hf rfl (by kernel_rfl)) ?_
 refine rw_ rfl fun a w hf hO hm => ?_
 refine zs (vs := [(0, .agg #[str x_name, str x_s])]) (cs := [str x_name, str x_s]) (e := 71) (sz := 2) hf rfl rfl (fun w => by kernel_rfl) rfl rfl hO fun a b46 w hf hO => ?_
 refine S.op tb ?_ hf hO hm
 refine rw_ rfl fun a w hf hO hm => ?_
 obtain ⟨hg49, hm⟩ := og hm
 refine zbS zn3 (enc := za) (xs := l22) (ys := [(⟨x_name, x_s⟩ : api_Field)]) (i := 1) (fun _ => rfl) rfl (hO.rowSees (i := 0) rfl) (by simp [cells, za, Value.oneCell']) hg49 hf rfl rfl rfl hO fun a p47 c48 w hf hO => ?_
 refine S.op tb ?_ hf hO hm
 exact en rfl fun a w hf hO hm => ⟨p47, c48, l22 ++ [(⟨x_name, x_s⟩ : api_Field)], hf.sel rfl, (hO.sub (.cons _ (.cons_cons _ (.cons_cons _ (.cons_cons _ .slnil))))), hm⟩
 exact en rfl fun a w hf hO hm => ⟨p20, c21, l22, hf.sel rfl, hO, hm⟩
 rintro a w ⟨p50, c51, l52, hf, hO, hm⟩
 rw [zcW] at hm
 refine S.co tb ?_ hf hO hm
 refine re_ rfl fun a w hf hO hm => ?_
 obtain rfl := Option.some.inj hm
 exact zi Tryz.results13 hf (.tmp rfl .nil) ⟨p50, c51, rfl, (hO.sub (.cons_cons _ (.cons _ (.cons _ .slnil))))⟩

theorem znu (x_a : List api_Field) (x_b : List api_Field) (R : Bool) (w0 : World) (hG : zt w0) {x_a_p0 : Option Addr} {x_a_c0 : Nat} (hs0 : zaU w0 x_a_p0 (cells za x_a)) (hc0 : x_a.length ≤ x_a_c0) {x_b_p1 : Option Addr} {x_b_c1 : Nat} (hs1 : zaU w0 x_b_p1 (cells za x_b)) (hc1 : x_b.length ≤ x_b_c1) (hm : zfX x_a x_b = some R) :
    Calls Tryz.prog 12 #[.slice x_a_p0 x_a.length x_a_c0, .slice x_b_p1 x_b.length x_b_c1] w0 (Ret w0 (fun R => .bool R) R) := by
 rw [zfX] at hm
 have hF : zG [] := ze
 have hO : Dk.Own w0 [] w0 [] := Dk.Own.refl w0
 have hO := hO.addShr hs0 (by simp [Res.shared])
 have hO := hO.addShr hs1 (by simp [Res.shared])
 refine S.enter tb Tryz.func12 rfl Tryz.ntmps12 rfl ?_ hO hm
 refine br rfl (fun hc3 => ?_) fun hc3 => ?_
 exact rt Tryz.results12 rfl
 refine lp (fun k a w => ∃ (i7 : Int), Fits 26 [(0, .slice x_a_p0 x_a.length x_a_c0), (1, .slice x_b_p1 x_b.length x_b_c1), (5, int i7)] a ∧ Dk.Own w0 [] w [.shr x_b_p1 (cells za x_b), .shr x_a_p0 (cells za x_a)] ∧ zbO x_a x_b k i7 = some R) rfl (fun a w hf hO hm => ⟨0, hf.sel rfl, hO, hm⟩) ?_
 rintro n1 a w ⟨i7, hf, hO, hm⟩
 obtain _ | n1 := n1
 rw [zbO] at hm
 cases hm
 rw [zbO] at hm
 refine S.co tb ?_ hf hO hm
 refine br rfl (fun hc9 => ?_) fun hc9 => ?_
 refine rc_ rfl fun a w hf hO hm => ?_
 refine ze7 (by kernel_rfl) (by kernel_rfl) hO ?_
 refine zw (fun w hO => zv hf rfl) rfl hf rfl rfl fun a hf => ?_
 refine zw (fun w hO => zv hf rfl) rfl hf rfl rfl fun a hf => ?_
 obtain ⟨x11, hx11, hm⟩ := ob hm
 obtain ⟨b12, o13, hix11, hSx11⟩ := zeo (enc := za) (sz := 2) (xs := x_a) 24 Tryz.underlying24 zeM (by decide) (fun _ => rfl) (hO.sees (i := 1) rfl) hx11
 refine zw (fun w hO => zp hix11 hf rfl rfl) rfl hf rfl rfl fun a hf => ?_
 refine zw (fun w hO => zK (o := 0) (vs := [str x11.Name, str x11.Value]) zmG zeM (hSx11 _ (hO.sees (i := 1) rfl)) rfl rfl hf rfl) rfl hf rfl rfl fun a hf => ?_
 refine zw (fun w hO => zv hf rfl) rfl hf rfl rfl fun a hf => ?_
 refine zw (fun w hO => zv hf rfl) rfl hf rfl rfl fun a hf => ?_
 obtain ⟨x14, hx14, hm⟩ := ob hm
 obtain ⟨b15, o16, hix14, hSx14⟩ := zeo (enc := za) (sz := 2) (xs := x_b) 24 Tryz.underlying24 zeM (by decide) (fun _ => rfl) (hO.sees (i := 0) rfl) hx14
 refine zw (fun w hO => zp hix14 hf rfl rfl) rfl hf rfl rfl fun a hf => ?_
 refine zw (fun w hO => zK (o := 0) (vs := [str x14.Name, str x14.Value]) zmG zeM (hSx14 _ (hO.sees (i := 0) rfl)) rfl rfl hf rfl) rfl hf rfl rfl fun a hf => ?_
 refine zw (fun w hO => zi0 (by kernel_rfl) (eq_71 x11 x14) hf rfl rfl) rfl hf rfl rfl fun a hf => ?_
 refine wpQuiet_nil ?_
 intro w hO
 refine S.no tb ?_ hf hO hm
 refine br rfl (fun hc18 => ?_) fun hc18 => ?_
 exact rt Tryz.results12 rfl
 refine bi rfl fun i21 hi21 => ?_
 exact en rfl fun a w hf hO hm => ⟨_, Nat.lt_succ_self _, i21, hf.sel rfl, hO, hm⟩
 exact rt Tryz.results12 rfl

theorem zhI (x_l : List api_Field) (x_name : Str) (R : List Str) (w0 : World) (hG : zt w0) {x_l_p0 : Option Addr} {x_l_c0 : Nat} (hs0 : zaU w0 x_l_p0 (cells za x_l)) (hc0 : x_l.length ≤ x_l_c0) (hm : zdL x_l x_name = some R) :
    Calls Tryz.prog 15 #[.slice x_l_p0 x_l.length x_l_c0, str x_name] w0 fun e w' => ∃ (p0 : Option Addr) (c0 : Nat), e = .returned (.slice p0 R.length c0) ∧ Dk.Own w0 [] w' [.row (.slice p0 R.length c0) 9 1 R.length (cells zd R)] := by
 rw [zdL] at hm
 have hF : zG [] := ze
 have hO : Dk.Own w0 [] w0 [] := Dk.Own.refl w0
 have hO := hO.addShr hs0 (by simp [Res.shared])
 refine S.enter tb Tryz.func15 rfl Tryz.ntmps15 rfl ?_ hO hm
 refine nl 9 1 ?_
 refine nl 9 1 ?_
 refine lp (fun k a w => ∃ (p4 : Option Addr) (c5 : Nat) (l6 : List Str) (i7 : Int), Fits 28 [(0, .slice x_l_p0 x_l.length x_l_c0), (1, str x_name), (5, .slice p4 l6.length c5), (6, int i7)] a ∧ Dk.Own w0 [] w [.row (.slice p4 l6.length c5) 9 1 l6.length (cells zd l6), .row (.slice none 0 0) 9 1 0 (cells zd []), .shr x_l_p0 (cells za x_l)] ∧ zau x_l x_name k l6 i7 = some R) rfl (fun a w hf hO hm => ⟨none, 0, [], 0, hf.sel rfl, hO, hm⟩) ?_
 rintro n1 a w ⟨p4, c5, l6, i7, hf, hO, hm⟩
 obtain _ | n1 := n1
 rw [zau] at hm
 cases hm
 rw [zau] at hm
 refine S.co tb ?_ hf hO hm
 refine br rfl (fun hc9 => ?_) fun hc9 => ?_
 refine jn 3 (fun a w => ∃ (p24 : Option Addr) (c25 : Nat) (l26 : List Str), Fits 28 [(0, .slice x_l_p0 x_l.length x_l_c0), (1, str x_name), (5, .slice p24 l26.length c25), (6, int i7)] a ∧ Dk.Own w0 [] w [.row (.slice p24 l26.length c25) 9 1 l26.length (cells zd l26), .row (.slice none 0 0) 9 1 0 (cells zd []), .shr x_l_p0 (cells za x_l)] ∧ zcX (zau x_l x_name n1) i7 l26 = some R) rfl ?_ ?_
 refine rw_ rfl fun a w hf hO hm => ?_
 obtain ⟨x11, hx11, hm⟩ := ob hm
 obtain ⟨b12, o13, hix11, hSx11⟩ := zeo (enc := za) (sz := 2) (xs := x_l) 24 Tryz.underlying24 zeM (by decide) (fun _ => rfl) (hO.sees (i := 2) rfl) hx11
 refine zbp (zp hix11 hf rfl rfl) rfl hf rfl rfl fun a hf => ?_
 refine S.op tb ?_ hf hO hm
 refine vl rfl rfl (fun a w hf hO => zK (o := 0) (vs := [str x11.Name, str x11.Value]) zmG zeM (hSx11 _ (hO.sees (i := 2) rfl)) rfl rfl hf rfl) ?_
 refine cl c_36 rfl (fun r14 w hr14 hO => zlN x11 x_name r14 _ (hG.own hF hO) hr14) fun r14 hr14 => ?_
 refine br rfl (fun hc16 => ?_) fun hc16 => ?_
 refine rw_ rfl fun a w hf hO hm => ?_
 obtain ⟨x17, hx17, hm⟩ := ob hm
 obtain ⟨b18, o19, hix17, hSx17⟩ := zeo (enc := za) (sz := 2) (xs := x_l) 24 Tryz.underlying24 zeM (by decide) (fun _ => rfl) (hO.sees (i := 2) rfl) hx17
 refine zbp (zp hix17 hf rfl rfl) rfl hf rfl rfl fun a hf => ?_
 refine S.op tb ?_ hf hO hm
 refine vl rfl rfl (fun a w hf hO => zb (o := 1) zab (hSx17 _ (hO.sees (i := 2) rfl)) rfl hf rfl) ?_
 refine rw_ rfl fun a w hf hO hm => ?_
 refine zs (vs := [(0, str x17.Value)]) (cs := [str x17.Value]) (e := 9) (sz := 1) hf rfl rfl (fun w => by kernel_rfl) rfl rfl hO fun a b20 w hf hO => ?_
 refine S.op tb ?_ hf hO hm
 refine rw_ rfl fun a w hf hO hm => ?_
 obtain ⟨hg23, hm⟩ := og hm
 refine zbS zlr (enc := zd) (xs := l6) (ys := ([x17.Value] : List Str)) (i := 1) (fun _ => rfl) rfl (hO.rowSees (i := 0) rfl) (by simp [cells, zd, Value.oneCell']) hg23 hf rfl rfl rfl hO fun a p21 c22 w hf hO => ?_
 refine S.op tb ?_ hf hO hm
 exact en rfl fun a w hf hO hm => ⟨p21, c22, l6 ++ ([x17.Value] : List Str), hf.sel rfl, (hO.sub (.cons _ (.cons_cons _ (.cons_cons _ (.cons_cons _ .slnil))))), hm⟩
 exact en rfl fun a w hf hO hm => ⟨p4, c5, l6, hf.sel rfl, hO, hm⟩
 rintro a w ⟨p24, c25, l26, hf, hO, hm⟩
 rw [zcX] at hm
 refine S.co tb ?_ hf hO hm
 refine bi rfl fun i27 hi27 => ?_
 exact en rfl fun a w hf hO hm => ⟨_, Nat.lt_succ_self _, p24, c25, l26, i27, hf.sel rfl, hO, hm⟩
 refine re_ rfl fun a w hf hO hm => ?_
 obtain rfl := Option.some.inj hm
 exact zi Tryz.results15 hf (.tmp rfl .nil) ⟨p4, c5, rfl, (hO.sub (.cons_cons _ (.cons _ (.cons _ .slnil))))⟩

theorem ziM (x_a0 : api_Via) (x_a1 : List api_Field) (R : Bool) (w0 : World) (hG : zbH w0) {x_a1_p0 : Option Addr} {x_a1_c0 : Nat} (hs0 : zaU w0 x_a1_p0 (cells za x_a1)) (hc0 : x_a1.length ≤ x_a1_c0) (hm : zdM x_a0 x_a1 = some R) :
    Calls Tryz.prog 3 #[.agg #[str x_a0.Proto, str x_a0.Version, str x_a0.By, str x_a0.Comment], .slice x_a1_p0 x_a1.length x_a1_c0] w0 (Ret w0 (fun R => .bool R) R) := by
 rw [zdM] at hm
 have hF : zG [] := ze
 have hO : Dk.Own w0 [] w0 [] := Dk.Own.refl w0
 have hO := hO.addShr hs0 (by simp [Res.shared])
 refine S.enter tb Tryz.func3 rfl Tryz.ntmps3 rfl ?_ hO hm
 refine rw_ rfl fun a w hf hO hm => ?_
 refine zen (v := .agg #[str x_a0.Proto, str x_a0.Version, str x_a0.By, str x_a0.Comment]) (cs := [str x_a0.Proto, str x_a0.Version, str x_a0.By, str x_a0.Comment]) rfl hf rfl rfl hO fun a b1 w hf hO => ?_
 refine S.op tb ?_ hf hO hm
 refine cl c_7 rfl (fun r3 w hr3 hO => zl7 r3 _ (hG.own hF hO) hr3) fun r3 hr3 => ?_
 refine br rfl (fun hc5 => ?_) fun hc5 => ?_
 exact rt Tryz.results3 rfl
 refine vl rfl rfl (fun a w hf hO => zK (o := 0) (vs := [str x_a0.Proto, str x_a0.Version, str x_a0.By, str x_a0.Comment]) zdi zaV (hO.blkSees (i := 0) rfl) rfl rfl hf rfl) ?_
 refine cl c_8 rfl (fun r8 w hr8 hO => znT x_a0 r8 _ (hG.own hF hO).1 hr8) fun r8 hr8 => ?_
 refine vl rfl rfl (fun a w hf hO => zS (vs := [(6, .slice x_a1_p0 x_a1.length x_a1_c0)]) (v := .agg #[int 0, str [], str [], int 0, str [], int 0, .slice x_a1_p0 x_a1.length x_a1_c0]) hf rfl (by kernel_rfl)) ?_
 refine rw_ rfl fun a w hf hO hm => ?_
 obtain ⟨r9, hr9, hm⟩ := ob hm
 refine zo (zr c_9 hf (vs := [.agg #[int 0, str [], str [], int 0, str [], int 0, .slice x_a1_p0 x_a1.length x_a1_c0]]) rfl) rfl hf rfl rfl (zov (⟨0, [], [], 0, [], 0, x_a1⟩ : api_Head) r9 _ (hG.own hF hO).1 (hO.sees (i := 1) rfl) hc0 hr9) ?_
 rintro e w' ⟨p10, c11, he, hO'⟩
 refine ⟨_, he, fun a hf => ?_⟩
 have hO := hO.call hO' (by simp [Res.shared])
 refine S.op tb ?_ hf hO hm
 refine vl rfl rfl (fun a w hf hO => zpN (v := .slice p10 r9.Fields.length c11) hf rfl (by kernel_rfl)) ?_
 refine rw_ rfl fun a w hf hO hm => ?_
 refine zu (i := 1) (n := 4) zaV rfl rfl rfl (by simp [Value.oneCell']) hf rfl rfl hO fun w hO => ?_
 refine S.op tb ?_ hf hO hm
 refine vl rfl rfl (fun a w hf hO => zK (o := 0) (vs := [str r8.Proto, str r8.Version, str r8.By, str r8.Comment]) zdi zaV (hO.blkSees (i := 1) rfl) rfl rfl hf rfl) ?_
 refine rw_ rfl fun a w hf hO hm => ?_
 obtain ⟨r13, hr13, hm⟩ := ob hm
 refine zo (zr c_10 hf (vs := [.agg #[str r8.Proto, str r8.Version, str r8.By, str r8.Comment], .slice p10 r9.Fields.length c11]) rfl) rfl hf rfl rfl (zm2 r8 r9.Fields r13 _ (hG.own hF hO) (hO.rowSees (i := 0) rfl) (hO.rowCap (i := 0) rfl) hr13) ?_
 rintro e w' ⟨p14, c15, he, hO'⟩
 refine ⟨_, he, fun a hf => ?_⟩
 have hO := hO.call hO' (by simp [Res.shared])
 refine S.op tb ?_ hf hO hm
 refine vl rfl rfl (fun a w hf hO => zK (o := 0) (vs := [str r8.Proto, str r8.Version, str r8.By, str r8.Comment]) zdi zaV (hO.blkSees (i := 2) rfl) rfl rfl hf rfl) ?_
 refine cl c_11 rfl (fun r17 w hr17 hO => zns r8 r17 _ (hG.own hF hO).1 hr17) fun r17 hr17 => ?_
 refine br rfl (fun hc20 => ?_) fun hc20 => ?_
 refine jn 1 (fun a w => ∃ (t22 : Bool), Fits 79 [(4, .bool t22)] a ∧ Dk.Own w0 [] w [.row (.slice p14 r13.1.length c15) 71 2 r13.1.length (cells za r13.1), .row (.slice p10 r9.Fields.length c11) 71 2 r9.Fields.length (cells za r9.Fields), .blk b1 [str r8.Proto, str r8.Version, str r8.By, str r8.Comment] 23, .shr x_a1_p0 (cells za x_a1)] ∧ zck t22 = some R) rfl ?_ ?_
 refine br rfl (fun hc21 => ?_) fun hc21 => ?_
 exact en rfl fun a w hf hO hm => ⟨r13.2 == r17.2, hf.sel rfl, hO, hm⟩
 exact en rfl fun a w hf hO hm => ⟨false, hf.sel rfl, hO, hm⟩
 rintro a w ⟨t22, hf, hO, hm⟩
 rw [zck] at hm
 refine S.co tb ?_ hf hO hm
 exact rt Tryz.results3 rfl
 refine jn 1 (fun a w => ∃ (t29 : Bool), Fits 79 [(1, .slice p10 r9.Fields.length c11), (2, ptr b1 0), (5, .slice p14 r13.1.length c15), (51, .bool t29)] a ∧ Dk.Own w0 [] w [.row (.slice p14 r13.1.length c15) 71 2 r13.1.length (cells za r13.1), .row (.slice p10 r9.Fields.length c11) 71 2 r9.Fields.length (cells za r9.Fields), .blk b1 [str r8.Proto, str r8.Version, str r8.By, str r8.Comment] 23, .shr x_a1_p0 (cells za x_a1)] ∧ zby r8 r9 r13 t29 = some R) rfl ?_ ?_
 refine br rfl (fun hc24 => ?_) fun hc24 => ?_
 exact en rfl fun a w hf hO hm => ⟨true, hf.sel rfl, hO, hm⟩
 refine rw_ rfl fun a w hf hO hm => ?_
 obtain ⟨r25, hr25, hm⟩ := ob hm
 refine zo (zr c_13 hf (vs := [.slice p10 r9.Fields.length c11, str [86, 105, 97], str r17.1]) rfl) rfl hf rfl rfl (zlP r9.Fields [86, 105, 97] r17.1 r25 _ (hG.own hF hO).1 (hO.rowSees (i := 1) rfl) (hO.rowCap (i := 1) rfl) hr25) ?_
 rintro e w' ⟨p26, c27, he, hO'⟩
 refine ⟨_, he, fun a hf => ?_⟩
 have hO := hO.call hO' (by simp [Res.shared])
 refine S.op tb ?_ hf hO hm
 refine kn (b' := false) hc24 rfl ?_
 refine cl c_12 rfl (fun r28 w hr28 hO => znu r13.1 r25 r28 _ (hG.own hF hO).1 (hO.rowSees (i := 1) rfl) (hO.rowCap (i := 1) rfl) (hO.rowSees (i := 0) rfl) (hO.rowCap (i := 0) rfl) hr28) fun r28 hr28 => ?_
 exact en rfl fun a w hf hO hm => ⟨!r28, hf.sel rfl, (hO.sub (.cons _ (.cons_cons _ (.cons_cons _ (.cons_cons _ (.cons_cons _ .slnil)))))), hm⟩
 rintro a w ⟨t29, hf, hO, hm⟩
 rw [zby] at hm
 refine S.co tb ?_ hf hO hm
 refine br rfl (fun hc30 => ?_) fun hc30 => ?_
 exact rt Tryz.results3 rfl
 refine rw_ rfl fun a w hf hO hm => ?_
 obtain ⟨r33, hr33, hm⟩ := ob hm
 refine zo (zr c_15 hf (vs := [.slice p10 r9.Fields.length c11, str [118, 105, 97]]) rfl) rfl hf rfl rfl (zhI r9.Fields [118, 105, 97] r33 _ (hG.own hF hO).1 (hO.rowSees (i := 1) rfl) (hO.rowCap (i := 1) rfl) hr33) ?_
 rintro e w' ⟨p34, c35, he, hO'⟩
 refine ⟨_, he, fun a hf => ?_⟩
 have hO := hO.call hO' (by simp [Res.shared])
 refine S.op tb ?_ hf hO hm
 refine rw_ rfl fun a w hf hO hm => ?_
 obtain ⟨r36, hr36, hm⟩ := ob hm
 refine zo (zr c_14 hf (vs := [.slice p34 r33.length c35]) rfl) rfl hf rfl rfl (ziB r33 r36 _ (hG.own hF hO) (hO.rowSees (i := 0) rfl) (hO.rowCap (i := 0) rfl) hr36) ?_
 rintro e w' ⟨p37, c38, he, hO'⟩
 refine ⟨_, he, fun a hf => ?_⟩
 have hO := hO.call hO' (by simp [Res.shared])
 refine S.op tb ?_ hf hO hm
 refine rw_ rfl fun a w hf hO hm => ?_
 obtain ⟨r40, hr40, hm⟩ := ob hm
 refine zo (zr c_15 hf (vs := [.slice p14 r13.1.length c15, str [118, 105, 97]]) rfl) rfl hf rfl rfl (zhI r13.1 [118, 105, 97] r40 _ (hG.own hF hO).1 (hO.rowSees (i := 2) rfl) (hO.rowCap (i := 2) rfl) hr40) ?_
 rintro e w' ⟨p41, c42, he, hO'⟩
 refine ⟨_, he, fun a hf => ?_⟩
 have hO := hO.call hO' (by simp [Res.shared])
 refine S.op tb ?_ hf hO hm
 refine rw_ rfl fun a w hf hO hm => ?_
 obtain ⟨r43, hr43, hm⟩ := ob hm
 refine zo (zr c_14 hf (vs := [.slice p41 r40.length c42]) rfl) rfl hf rfl rfl (ziB r40 r43 _ (hG.own hF hO) (hO.rowSees (i := 0) rfl) (hO.rowCap (i := 0) rfl) hr43) ?_
 rintro e w' ⟨p44, c45, he, hO'⟩
 refine ⟨_, he, fun a hf => ?_⟩
 have hO := hO.call hO' (by simp [Res.shared])
 refine S.op tb ?_ hf hO hm
 refine vl rfl rfl (fun a w hf hO => zK (o := 0) (vs := [str r8.Proto, str r8.Version, str r8.By, str r8.Comment]) zdi zaV (hO.blkSees (i := 6) rfl) rfl rfl hf rfl) ?_
 refine rw_ rfl fun a w hf hO hm => ?_
 refine zs (vs := [(0, .agg #[str r8.Proto, str r8.Version, str r8.By, str r8.Comment])]) (cs := [str r8.Proto, str r8.Version, str r8.By, str r8.Comment]) (e := 23) (sz := 4) hf rfl rfl (fun w => by kernel_rfl) rfl rfl hO fun a b47 w hf hO => ?_
 refine S.op tb ?_ hf hO hm
 refine rw_ rfl fun a w hf hO hm => ?_
 obtain ⟨hg50, hm⟩ := og hm
 refine zbS el_38 (enc := zN) (xs := r36.1) (ys := [r8]) (i := 3) (fun _ => rfl) rfl (hO.rowSees (i := 0) rfl) (by simp [cells, zN, Value.oneCell']) hg50 hf rfl rfl rfl hO fun a p48 c49 w hf hO => ?_
 refine S.op tb ?_ hf hO hm
 refine jn 0 (fun a w => ∃ (t55 : Bool), Fits 79 [(4, .bool t55)] a ∧ Dk.Own w0 [] w [.row (.slice (some ⟨b47, 0, none⟩) ([r8].length) 1) 23 4 ([r8].length) (cells zN [r8]), .row (.slice p44 r43.1.length c45) 23 4 r43.1.length (cells zN r43.1), .row (.slice p41 r40.length c42) 9 1 r40.length (cells zd r40), .row (.slice p48 ((r36.1 ++ [r8]).length) c49) 23 4 ((r36.1 ++ [r8]).length) (cells zN (r36.1 ++ [r8])), .row (.slice p34 r33.length c35) 9 1 r33.length (cells zd r33), .row (.slice p14 r13.1.length c15) 71 2 r13.1.length (cells za r13.1), .row (.slice p10 r9.Fields.length c11) 71 2 r9.Fields.length (cells za r9.Fields), .blk b1 [str r8.Proto, str r8.Version, str r8.By, str r8.Comment] 23, .shr x_a1_p0 (cells za x_a1)] ∧ zaT t55 = some R) rfl ?_ ?_
 refine br rfl (fun hc52 => ?_) fun hc52 => ?_
 exact en rfl fun a w hf hO hm => ⟨true, hf.sel rfl, hO, hm⟩
 refine br rfl (fun hc53 => ?_) fun hc53 => ?_
 refine cl c_16 rfl (fun r54 w hr54 hO => zi3 r43.1 (r36.1 ++ [r8]) r54 _ (hG.own hF hO).1 (hO.rowSees (i := 1) rfl) (hO.rowCap (i := 1) rfl) (hO.rowSees (i := 3) rfl) (hO.rowCap (i := 3) rfl) hr54) fun r54 hr54 => ?_
 exact en rfl fun a w hf hO hm => ⟨r54, hf.sel rfl, hO, hm⟩
 exact en rfl fun a w hf hO hm => ⟨false, hf.sel rfl, hO, hm⟩
 rintro a w ⟨t55, hf, hO, hm⟩
 rw [zaT] at hm
 refine S.co tb ?_ hf hO hm
 exact rt Tryz.results3 rfl

end Go.Proofs
end
