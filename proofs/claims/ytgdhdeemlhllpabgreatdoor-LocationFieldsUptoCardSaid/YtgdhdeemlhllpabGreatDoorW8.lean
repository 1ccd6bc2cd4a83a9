/-
  Walks, written by a program (wip/gen): what its model says, the function returns; what was there before is as it was.
-/
import Derived.Test.YtgdhdeemlhllpabGreatDoorLib
import Derived.Test.YtgdhdeemlhllpabGreatDoorW1
import Derived.Test.YtgdhdeemlhllpabGreatDoorW2
import Derived.Test.YtgdhdeemlhllpabGreatDoorW6
import Derived.Test.YtgdhdeemlhllpabGreatDoorW7
set_option linter.unusedVariables false
set_option linter.unusedSimpArgs false
set_option maxRecDepth 100000
namespace Go.Proofs
open Go.Dk Go.Dm Go.RowKit

set_option maxHeartbeats 1000000 in
theorem w_law15_few (x_s : Str) (R : Str) (w0 : World) (hG : Glob w0) (hm : law15_few x_s = some R) :
    Calls Tryz.prog 39 #[str x_s] w0 fun e w' => e = .returned (str R) ∧ Below w0.heap.size w0 w' := by
 rw [law15_few] at hm
 refine calls_enter (vs := [str x_s]) Tryz.func39 rfl Tryz.ntmps39 rfl fun a hf => ?_
 have hF : Away [] := away_nil
 have hO : Dk.Own w0 [] w0 [] := Dk.Own.refl w0
 refine wp_seq_k fun _ hK1 => ?_
 refine wp_region_list ?_
 refine op_as hf rfl rfl fun a hf => ?_
 refine wpList_nil ?_
 refine nor_then (hK1 _ _ ?_)
 refine wp_seq_k fun _ hK3 => ?_
 refine wp_region_list ?_
 refine op_mv hf rfl rfl fun a hf => ?_
 refine op_mv hf rfl rfl fun a hf => ?_
 refine op_val (ex_len_s (l := x_s) Tryz.underlying9 hf rfl) rfl hf rfl rfl fun a hf => ?_
 refine op_val (ex_min (m := (x_s.length : Int)) (n := 400) hf rfl rfl) rfl hf rfl rfl fun a hf => ?_
 obtain ⟨s2, hs2, hm⟩ := ob hm
 refine op_val (ex_to_s (l := x_s) Tryz.underlying9 hf rfl rfl hs2) rfl hf rfl rfl fun a hf => ?_
 refine op_as hf rfl rfl fun a hf => ?_
 refine wpList_nil ?_
 refine nor_then (hK3 _ _ ?_)
 refine wp_ret ?_
 obtain rfl := Option.some.inj hm
 exact post_ret Tryz.results39 hf (.tmp rfl .nil) ⟨rfl, hO.below⟩

set_option maxHeartbeats 1000000 in
theorem w_law15_Few (x_h : api_Head) (R : api_Head) (w0 : World) (hG : Glob w0) {x_h_p0 : Option Addr} {x_h_c0 : Nat} (hs0 : Sees w0 x_h_p0 (cells enc_api_Field x_h.Fields)) (hc0 : x_h.Fields.length ≤ x_h_c0) (hm : law15_Few x_h = some R) :
    Calls Tryz.prog 18 #[.agg #[int x_h.Kind, str x_h.Method, str x_h.Target, int x_h.Code, str x_h.Reason, int x_h.Minor, .slice x_h_p0 x_h.Fields.length x_h_c0]] w0 fun e w' => ∃ (p0 : Option Addr) (c0 : Nat), e = .returned (.agg #[int R.Kind, str R.Method, str R.Target, int R.Code, str R.Reason, int R.Minor, .slice p0 R.Fields.length c0]) ∧ Dk.Own w0 [] w' [.row (.slice p0 R.Fields.length c0) 53 2 R.Fields.length (cells enc_api_Field R.Fields)] := by
 rw [law15_Few] at hm
 refine calls_enter (vs := [.agg #[int x_h.Kind, str x_h.Method, str x_h.Target, int x_h.Code, str x_h.Reason, int x_h.Minor, .slice x_h_p0 x_h.Fields.length x_h_c0]]) Tryz.func18 rfl Tryz.ntmps18 rfl fun a hf => ?_
 have hF : Away [] := away_nil
 have hO : Dk.Own w0 [] w0 [] := Dk.Own.refl w0
 have hO := hO.addShr hs0 (by simp [Res.shared])
 refine wp_seq_k fun _ hK3 => ?_
 refine wp_region_list ?_
 refine op_box (v := .agg #[int x_h.Kind, str x_h.Method, str x_h.Target, int x_h.Code, str x_h.Reason, int x_h.Minor, .slice x_h_p0 x_h.Fields.length x_h_c0]) (cs := [int x_h.Kind, str x_h.Method, str x_h.Target, int x_h.Code, str x_h.Reason, int x_h.Minor, .slice x_h_p0 x_h.Fields.length x_h_c0]) rfl hf rfl rfl hO fun a b1 w hf hO => ?_
 refine op_alloc al_46 hf rfl hO fun a b2 w hf hO => ?_
 have hO := hO.nilRow 53 2
 refine wpList_nil ?_
 refine nor_then (hK3 _ _ ?_)
 refine wp_seq_k fun _ hK5 => ?_
 refine wp_region_list ?_
 refine op_val (ex_field fa_46_1 hf rfl) rfl hf rfl rfl fun a hf => ?_
 refine op_val (ex_load1 (o := 1) ag_9 (hO.blkSees (i := 2) rfl) rfl hf rfl) rfl hf rfl rfl fun a hf => ?_
 obtain ⟨r4, hr4, hm⟩ := ob hm
 refine op_enter (ex_call c_39 hf (vs := [str x_h.Method]) rfl) rfl hf rfl rfl (w_law15_few x_h.Method r4 _ (hG.own hF hO) hr4) ?_
 rintro e w' ⟨he, hb⟩
 refine ⟨_, he, fun a hf => ?_⟩
 have hO := hO.grow hb
 refine op_val (ex_field fa_46_1 hf rfl) rfl hf rfl rfl fun a hf => ?_
 refine op_store1 (i := 2) (o := 1) (v := str r4) sz_9 rfl rfl rfl rfl hf rfl rfl hO fun w hO => ?_
 refine wpList_nil ?_
 refine nor_then (hK5 _ _ ?_)
 refine wp_seq_k fun _ hK7 => ?_
 refine wp_region_list ?_
 refine op_val (ex_field fa_46_2 hf rfl) rfl hf rfl rfl fun a hf => ?_
 refine op_val (ex_load1 (o := 2) ag_9 (hO.blkSees (i := 2) rfl) rfl hf rfl) rfl hf rfl rfl fun a hf => ?_
 obtain ⟨r6, hr6, hm⟩ := ob hm
 refine op_enter (ex_call c_39 hf (vs := [str x_h.Target]) rfl) rfl hf rfl rfl (w_law15_few x_h.Target r6 _ (hG.own hF hO) hr6) ?_
 rintro e w' ⟨he, hb⟩
 refine ⟨_, he, fun a hf => ?_⟩
 have hO := hO.grow hb
 refine op_val (ex_field fa_46_2 hf rfl) rfl hf rfl rfl fun a hf => ?_
 refine op_store1 (i := 2) (o := 2) (v := str r6) sz_9 rfl rfl rfl rfl hf rfl rfl hO fun w hO => ?_
 refine wpList_nil ?_
 refine nor_then (hK7 _ _ ?_)
 refine wp_seq_k fun _ hK9 => ?_
 refine wp_region_list ?_
 refine op_val (ex_field fa_46_4 hf rfl) rfl hf rfl rfl fun a hf => ?_
 refine op_val (ex_load1 (o := 4) ag_9 (hO.blkSees (i := 2) rfl) rfl hf rfl) rfl hf rfl rfl fun a hf => ?_
 obtain ⟨r8, hr8, hm⟩ := ob hm
 refine op_enter (ex_call c_39 hf (vs := [str x_h.Reason]) rfl) rfl hf rfl rfl (w_law15_few x_h.Reason r8 _ (hG.own hF hO) hr8) ?_
 rintro e w' ⟨he, hb⟩
 refine ⟨_, he, fun a hf => ?_⟩
 have hO := hO.grow hb
 refine op_val (ex_field fa_46_4 hf rfl) rfl hf rfl rfl fun a hf => ?_
 refine op_store1 (i := 2) (o := 4) (v := str r8) sz_9 rfl rfl rfl rfl hf rfl rfl hO fun w hO => ?_
 refine wpList_nil ?_
 refine nor_then (hK9 _ _ ?_)
 refine wp_seq_k fun _ hK10 => ?_
 refine wp_region_list ?_
 have hO := hO.nilRow 53 2
 refine op_as hf rfl rfl fun a hf => ?_
 refine wpList_nil ?_
 refine nor_then (hK10 _ _ ?_)
 refine wp_seq_k fun _ hK34 => ?_
 refine wp_seq_k fun _ hK11 => ?_
 refine wp_region_list ?_
 refine op_as hf rfl rfl fun a hf => ?_
 refine wpList_nil ?_
 refine nor_then (hK11 _ _ ?_)
 refine wp_block ?_
 refine wp_loop_n (fun k a w => ∃ (p12 : Option Addr) (c13 : Nat) (l14 : List api_Field) (i15 : Int), Fits 49 [(1, ptr b1 0), (2, ptr b2 0), (3, .slice p12 l14.length c13), (4, int i15)] a ∧ Dk.Own w0 [] w [.row (.slice p12 l14.length c13) 53 2 l14.length (cells enc_api_Field l14), .row (.slice none 0 0) 53 2 0 (cells enc_api_Field []), .blk b2 [int 0, str [], str [], int 0, str [], int 0, .slice none 0 0] 46, .blk b1 [int x_h.Kind, str r4, str r6, int x_h.Code, str r8, int x_h.Minor, .slice x_h_p0 x_h.Fields.length x_h_c0] 46, .shr x_h_p0 (cells enc_api_Field x_h.Fields)] ∧ law15_Few_L1 x_h r4 r6 r8 k l14 i15 = some R) ?_ fuel ?_
 rintro n1 a w ⟨p12, c13, l14, i15, hf, hO, hm⟩
 obtain _ | n1 := n1
 rw [law15_Few_L1] at hm
 cases hm
 rw [law15_Few_L1] at hm
 refine wp_seq_k fun _ hK19 => ?_
 refine wp_seq_cut (fun a w => ∃ (t17 : Bool), Fits 49 [(1, ptr b1 0), (2, ptr b2 0), (3, .slice p12 l14.length c13), (4, int i15), (25, .bool t17)] a ∧ Dk.Own w0 [] w [.row (.slice p12 l14.length c13) 53 2 l14.length (cells enc_api_Field l14), .row (.slice none 0 0) 53 2 0 (cells enc_api_Field []), .blk b2 [int 0, str [], str [], int 0, str [], int 0, .slice none 0 0] 46, .blk b1 [int x_h.Kind, str r4, str r6, int x_h.Code, str r8, int x_h.Minor, .slice x_h_p0 x_h.Fields.length x_h_c0] 46, .shr x_h_p0 (cells enc_api_Field x_h.Fields)] ∧ law15_Few_j2 (law15_Few_L1 x_h r4 r6 r8 n1) x_h r4 r6 r8 l14 i15 t17 = some R) ?_ ?_
 refine wp_region_list ?_
 refine op_mv hf rfl rfl fun a hf => ?_
 refine op_val (ex_field fa_46_6 hf rfl) rfl hf rfl rfl fun a hf => ?_
 refine op_val (ex_load1 (o := 6) ag_42 (hO.blkSees (i := 3) rfl) rfl hf rfl) rfl hf rfl rfl fun a hf => ?_
 refine op_val (ex_len_l Tryz.underlying42 hf rfl) rfl hf rfl rfl fun a hf => ?_
 refine op_val (ex_lss (m := i15) (n := (x_h.Fields.length : Int)) hf rfl rfl) rfl hf rfl rfl fun a hf => ?_
 refine op_mv hf rfl rfl fun a hf => ?_
 rcases bcase (decide (i15 < (x_h.Fields.length : Int))) with hc16 | hc16
 have hm := it hc16 hm
 refine op_guard rfl hf rfl rfl (hc16) ?_
 refine op_mv hf rfl rfl fun a hf => ?_
 refine op_guard rfl hf rfl rfl (hc16) ?_
 refine op_val (ex_lss (m := i15) (n := 120) hf rfl rfl) rfl hf rfl rfl fun a hf => ?_
 refine op_val (ex_pick_t hf rfl hc16 rfl) rfl hf rfl rfl fun a hf => ?_
 refine wpList_nil ?_
 refine nor_then ?_
 exact ⟨decide (i15 < 120), (hf.cons rfl (hf.cons rfl (hf.cons rfl (hf.cons rfl (hf.cons rfl hf.nil))))), hO, hm⟩
 have hm := ie hc16 hm
 refine op_pass rfl hf rfl rfl (hc16) rfl rfl fun a hf => ?_
 refine op_pass rfl hf rfl rfl (hc16) rfl rfl fun a hf => ?_
 refine op_val (ex_pick_f hf rfl hc16 rfl) rfl hf rfl rfl fun a hf => ?_
 refine wpList_nil ?_
 refine nor_then ?_
 exact ⟨false, (hf.cons rfl (hf.cons rfl (hf.cons rfl (hf.cons rfl (hf.cons rfl hf.nil))))), hO, hm⟩
 rintro a w ⟨t17, hf, hO, hm⟩
 rw [law15_Few_j2] at hm
 refine wp_cond_cut hf rfl (fun hc18 => ?_) (fun hc18 => ?_)
 have hm := it hc18 hm
 refine wp_skip ?_
 refine nor_then (hK19 _ _ ?_)
 refine wp_seq_k fun _ hK32 => ?_
 refine wp_block ?_
 obtain ⟨x20, hx20, hm⟩ := ob hm
 obtain ⟨b21, o22, hix20, hSx20⟩ := elemAt (enc := enc_api_Field) (sz := 2) (xs := x_h.Fields) 42 Tryz.underlying42 sz_53 (by decide) (fun _ => rfl) (hO.sees (i := 4) rfl) hx20
 obtain ⟨r23, hr23, hm⟩ := ob hm
 obtain ⟨x24, hx24, hm⟩ := ob hm
 obtain ⟨b25, o26, hix24, hSx24⟩ := elemAt (enc := enc_api_Field) (sz := 2) (xs := x_h.Fields) 42 Tryz.underlying42 sz_53 (by decide) (fun _ => rfl) (hO.sees (i := 4) rfl) hx24
 obtain ⟨r27, hr27, hm⟩ := ob hm
 obtain ⟨hg31, hm⟩ := og hm
 refine wp_drawS' (S := Nat × Option Addr × Nat) (E0 := [(1, ptr b1 0), (2, ptr b2 0), (3, .slice p12 l14.length c13), (4, int i15)]) (by kernel_rfl) (fun k σ w => match k with | 0 => Dk.Own w0 [] w [.row (.slice p12 l14.length c13) 53 2 l14.length (cells enc_api_Field l14), .row (.slice none 0 0) 53 2 0 (cells enc_api_Field []), .blk b2 [int 0, str [], str [], int 0, str [], int 0, .slice none 0 0] 46, .blk b1 [int x_h.Kind, str r4, str r6, int x_h.Code, str r8, int x_h.Minor, .slice x_h_p0 x_h.Fields.length x_h_c0] 46, .shr x_h_p0 (cells enc_api_Field x_h.Fields)] | 1 => Dk.Own w0 [] w [.row (.slice p12 l14.length c13) 53 2 l14.length (cells enc_api_Field l14), .row (.slice none 0 0) 53 2 0 (cells enc_api_Field []), .blk b2 [int 0, str [], str [], int 0, str [], int 0, .slice none 0 0] 46, .blk b1 [int x_h.Kind, str r4, str r6, int x_h.Code, str r8, int x_h.Minor, .slice x_h_p0 x_h.Fields.length x_h_c0] 46, .shr x_h_p0 (cells enc_api_Field x_h.Fields)] | 2 => Dk.Own w0 [] w [.row (.slice p12 l14.length c13) 53 2 l14.length (cells enc_api_Field l14), .row (.slice none 0 0) 53 2 0 (cells enc_api_Field []), .blk b2 [int 0, str [], str [], int 0, str [], int 0, .slice none 0 0] 46, .blk b1 [int x_h.Kind, str r4, str r6, int x_h.Code, str r8, int x_h.Minor, .slice x_h_p0 x_h.Fields.length x_h_c0] 46, .shr x_h_p0 (cells enc_api_Field x_h.Fields)] | 3 => Dk.Own w0 [] w [.row (.slice (some ⟨(σ.1), 0, none⟩) (([(⟨r23, r27⟩ : api_Field)]).length) 1) 53 2 (([(⟨r23, r27⟩ : api_Field)]).length) (cells enc_api_Field ([(⟨r23, r27⟩ : api_Field)])), .row (.slice p12 l14.length c13) 53 2 l14.length (cells enc_api_Field l14), .row (.slice none 0 0) 53 2 0 (cells enc_api_Field []), .blk b2 [int 0, str [], str [], int 0, str [], int 0, .slice none 0 0] 46, .blk b1 [int x_h.Kind, str r4, str r6, int x_h.Code, str r8, int x_h.Minor, .slice x_h_p0 x_h.Fields.length x_h_c0] 46, .shr x_h_p0 (cells enc_api_Field x_h.Fields)] | _ => Dk.Own w0 [] w [.row (.slice (some ⟨(σ.1), 0, none⟩) (([(⟨r23, r27⟩ : api_Field)]).length) 1) 53 2 (([(⟨r23, r27⟩ : api_Field)]).length) (cells enc_api_Field ([(⟨r23, r27⟩ : api_Field)])), .row (.slice (σ.2.1) ((l14 ++ [(⟨r23, r27⟩ : api_Field)]).length) (σ.2.2)) 53 2 ((l14 ++ [(⟨r23, r27⟩ : api_Field)]).length) (cells enc_api_Field (l14 ++ [(⟨r23, r27⟩ : api_Field)])), .row (.slice none 0 0) 53 2 0 (cells enc_api_Field []), .blk b2 [int 0, str [], str [], int 0, str [], int 0, .slice none 0 0] 46, .blk b1 [int x_h.Kind, str r4, str r6, int x_h.Code, str r8, int x_h.Minor, .slice x_h_p0 x_h.Fields.length x_h_c0] 46, .shr x_h_p0 (cells enc_api_Field x_h.Fields)]) (fun σ => [⟨[(3, .slice p12 l14.length c13)], some (28, .slice p12 l14.length c13)⟩, ⟨[(1, ptr b1 0)], some (29, ptr b1 6)⟩, ⟨[(29, ptr b1 6)], some (30, .slice x_h_p0 x_h.Fields.length x_h_c0)⟩, ⟨[(4, int i15)], some (31, int i15)⟩, ⟨[(30, .slice x_h_p0 x_h.Fields.length x_h_c0), (31, int i15)], some (32, ptr b21 o22)⟩, ⟨[(32, ptr b21 o22)], some (33, ptr b21 o22)⟩, ⟨[(33, ptr b21 o22)], some (34, str x20.Name)⟩, ⟨[(34, str x20.Name)], some (35, str r23)⟩, ⟨[(1, ptr b1 0)], some (36, ptr b1 6)⟩, ⟨[(36, ptr b1 6)], some (37, .slice x_h_p0 x_h.Fields.length x_h_c0)⟩, ⟨[(4, int i15)], some (38, int i15)⟩, ⟨[(37, .slice x_h_p0 x_h.Fields.length x_h_c0), (38, int i15)], some (39, ptr b25 o26)⟩, ⟨[(39, ptr b25 o26)], some (40, ptr b25 (o26 + 1))⟩, ⟨[(40, ptr b25 (o26 + 1))], some (41, str x24.Value)⟩, ⟨[(41, str x24.Value)], some (42, str r27)⟩, ⟨[(35, str r23), (42, str r27)], some (43, .agg #[str r23, str r27])⟩, ⟨[(43, .agg #[str r23, str r27])], some (44, .slice (some ⟨(σ.1), 0, none⟩) (([(⟨r23, r27⟩ : api_Field)]).length) 1)⟩, ⟨[(28, .slice p12 l14.length c13), (44, .slice (some ⟨(σ.1), 0, none⟩) (([(⟨r23, r27⟩ : api_Field)]).length) 1)], some (45, .slice (σ.2.1) ((l14 ++ [(⟨r23, r27⟩ : api_Field)]).length) (σ.2.2))⟩, ⟨[(45, .slice (σ.2.1) ((l14 ++ [(⟨r23, r27⟩ : api_Field)]).length) (σ.2.2))], some (3, .slice (σ.2.1) ((l14 ++ [(⟨r23, r27⟩ : api_Field)]).length) (σ.2.2))⟩]) (0, none, 0) [7, 14, 16, 17] rfl (fun _ => rfl) (fun _ => rfl) (fun _ => rfl) rfl rfl (by decide) rfl hO.drew (hf.cons rfl (hf.cons rfl (hf.cons rfl (hf.cons rfl hf.nil)))) (fun σ => ⟨⟨rfl, trivial⟩, ⟨rfl, trivial⟩, ⟨rfl, trivial⟩, ⟨rfl, trivial⟩, ⟨rfl, rfl, trivial⟩, ⟨rfl, trivial⟩, ⟨rfl, trivial⟩, ⟨rfl, trivial⟩, ⟨rfl, trivial⟩, ⟨rfl, trivial⟩, ⟨rfl, trivial⟩, ⟨rfl, rfl, trivial⟩, ⟨rfl, trivial⟩, ⟨rfl, trivial⟩, ⟨rfl, trivial⟩, ⟨rfl, rfl, trivial⟩, ⟨rfl, trivial⟩, ⟨rfl, rfl, trivial⟩, ⟨rfl, trivial⟩, trivial⟩) ⟨sS_pure rfl (fun σ => rfl) (fun σ => rfl) (fun σ a w k _ _ _ _ hf => ex_move hf rfl), sS_pure rfl (fun σ => rfl) (fun σ => rfl) (fun σ a w k _ _ _ _ hf => ex_field fa_46_6 hf rfl), sS_pure rfl (fun σ => rfl) (fun σ => rfl) (fun σ a w k hk hlo hup hst hf => match k, hk, hlo, hup, hst, hf with | 0, _, _, _, hst, hf => have hO : Dk.Own w0 [] w _ := hst; ex_load1 (o := 6) ag_42 (hO.blkSees (i := 3) rfl) rfl hf rfl | 1, _, _, _, hst, hf => have hO : Dk.Own w0 [] w _ := hst; ex_load1 (o := 6) ag_42 (hO.blkSees (i := 3) rfl) rfl hf rfl | 2, _, _, _, hst, hf => have hO : Dk.Own w0 [] w _ := hst; ex_load1 (o := 6) ag_42 (hO.blkSees (i := 3) rfl) rfl hf rfl | 3, _, _, _, hst, hf => have hO : Dk.Own w0 [] w _ := hst; ex_load1 (o := 6) ag_42 (hO.blkSees (i := 4) rfl) rfl hf rfl | 4, _, _, _, hst, hf => have hO : Dk.Own w0 [] w _ := hst; ex_load1 (o := 6) ag_42 (hO.blkSees (i := 4) rfl) rfl hf rfl | k + 5, hk, _, _, _, _ => absurd hk (by simp)), sS_pure rfl (fun σ => rfl) (fun σ => rfl) (fun σ a w k _ _ _ _ hf => ex_move hf rfl), sS_pure rfl (fun σ => rfl) (fun σ => rfl) (fun σ a w k _ _ _ _ hf => ex_indexAddr hix20 hf rfl rfl), sS_pure rfl (fun σ => rfl) (fun σ => rfl) (fun σ a w k _ _ _ _ hf => ex_field fa_53_0 hf rfl), sS_pure rfl (fun σ => rfl) (fun σ => rfl) (fun σ a w k hk hlo hup hst hf => match k, hk, hlo, hup, hst, hf with | 0, _, _, _, hst, hf => have hO : Dk.Own w0 [] w _ := hst; ex_load1 (o := 0) ag_9 (hSx20 _ (hO.sees (i := 4) rfl)) rfl hf rfl | 1, _, _, _, hst, hf => have hO : Dk.Own w0 [] w _ := hst; ex_load1 (o := 0) ag_9 (hSx20 _ (hO.sees (i := 4) rfl)) rfl hf rfl | 2, _, _, _, hst, hf => have hO : Dk.Own w0 [] w _ := hst; ex_load1 (o := 0) ag_9 (hSx20 _ (hO.sees (i := 4) rfl)) rfl hf rfl | 3, _, _, _, hst, hf => have hO : Dk.Own w0 [] w _ := hst; ex_load1 (o := 0) ag_9 (hSx20 _ (hO.sees (i := 5) rfl)) rfl hf rfl | 4, _, _, _, hst, hf => have hO : Dk.Own w0 [] w _ := hst; ex_load1 (o := 0) ag_9 (hSx20 _ (hO.sees (i := 5) rfl)) rfl hf rfl | k + 5, hk, _, _, _, _ => absurd hk (by simp)), sS_call rfl (fun σ => rfl) (fun σ => rfl) rfl (fun σ a w (_ : _) hf => ex_call c_39 hf (vs := [str x20.Name]) rfl) (fun σ w (hO : Dk.Own w0 [] w _) => (w_law15_few x20.Name r23 _ (hG.own hF hO) hr23).mono fun e w' h => by obtain ⟨he, hb⟩ := h; exact ⟨((σ.1), (σ.2.1), (σ.2.2)), he, hO.grow hb, .inr rfl, .inr rfl, .inr rfl, .inr rfl, .inr rfl, .inr rfl, .inr rfl, .inr rfl, .inr rfl, .inr rfl, .inr rfl, .inr rfl, .inr rfl, .inr rfl, .inr rfl, .inr rfl, .inr rfl, .inr rfl, .inr rfl, trivial⟩), sS_pure rfl (fun σ => rfl) (fun σ => rfl) (fun σ a w k _ _ _ _ hf => ex_field fa_46_6 hf rfl), sS_pure rfl (fun σ => rfl) (fun σ => rfl) (fun σ a w k hk hlo hup hst hf => match k, hk, hlo, hup, hst, hf with | 0, _, _, _, hst, hf => have hO : Dk.Own w0 [] w _ := hst; ex_load1 (o := 6) ag_42 (hO.blkSees (i := 3) rfl) rfl hf rfl | 1, _, _, _, hst, hf => have hO : Dk.Own w0 [] w _ := hst; ex_load1 (o := 6) ag_42 (hO.blkSees (i := 3) rfl) rfl hf rfl | 2, _, _, _, hst, hf => have hO : Dk.Own w0 [] w _ := hst; ex_load1 (o := 6) ag_42 (hO.blkSees (i := 3) rfl) rfl hf rfl | 3, _, _, _, hst, hf => have hO : Dk.Own w0 [] w _ := hst; ex_load1 (o := 6) ag_42 (hO.blkSees (i := 4) rfl) rfl hf rfl | 4, _, _, _, hst, hf => have hO : Dk.Own w0 [] w _ := hst; ex_load1 (o := 6) ag_42 (hO.blkSees (i := 4) rfl) rfl hf rfl | k + 5, hk, _, _, _, _ => absurd hk (by simp)), sS_pure rfl (fun σ => rfl) (fun σ => rfl) (fun σ a w k _ _ _ _ hf => ex_move hf rfl), sS_pure rfl (fun σ => rfl) (fun σ => rfl) (fun σ a w k _ _ _ _ hf => ex_indexAddr hix24 hf rfl rfl), sS_pure rfl (fun σ => rfl) (fun σ => rfl) (fun σ a w k _ _ _ _ hf => ex_field fa_53_1 hf rfl), sS_pure rfl (fun σ => rfl) (fun σ => rfl) (fun σ a w k hk hlo hup hst hf => match k, hk, hlo, hup, hst, hf with | 0, _, _, _, hst, hf => have hO : Dk.Own w0 [] w _ := hst; ex_load1 (o := 1) ag_9 (hSx24 _ (hO.sees (i := 4) rfl)) rfl hf rfl | 1, _, _, _, hst, hf => have hO : Dk.Own w0 [] w _ := hst; ex_load1 (o := 1) ag_9 (hSx24 _ (hO.sees (i := 4) rfl)) rfl hf rfl | 2, _, _, _, hst, hf => have hO : Dk.Own w0 [] w _ := hst; ex_load1 (o := 1) ag_9 (hSx24 _ (hO.sees (i := 4) rfl)) rfl hf rfl | 3, _, _, _, hst, hf => have hO : Dk.Own w0 [] w _ := hst; ex_load1 (o := 1) ag_9 (hSx24 _ (hO.sees (i := 5) rfl)) rfl hf rfl | 4, _, _, _, hst, hf => have hO : Dk.Own w0 [] w _ := hst; ex_load1 (o := 1) ag_9 (hSx24 _ (hO.sees (i := 5) rfl)) rfl hf rfl | k + 5, hk, _, _, _, _ => absurd hk (by simp)), sS_call rfl (fun σ => rfl) (fun σ => rfl) rfl (fun σ a w (_ : _) hf => ex_call c_39 hf (vs := [str x24.Value]) rfl) (fun σ w (hO : Dk.Own w0 [] w _) => (w_law15_few x24.Value r27 _ (hG.own hF hO) hr27).mono fun e w' h => by obtain ⟨he, hb⟩ := h; exact ⟨((σ.1), (σ.2.1), (σ.2.2)), he, hO.grow hb, .inr rfl, .inr rfl, .inr rfl, .inr rfl, .inr rfl, .inr rfl, .inr rfl, .inr rfl, .inr rfl, .inr rfl, .inr rfl, .inr rfl, .inr rfl, .inr rfl, .inr rfl, .inr rfl, .inr rfl, .inr rfl, .inr rfl, trivial⟩), sS_pure rfl (fun σ => rfl) (fun σ => rfl) (fun σ a w k _ _ _ _ hf => ex_build (vs := [(0, str r23), (1, str r27)]) (v := .agg #[str r23, str r27]) hf rfl (by kernel_rfl)), sS_val rfl (fun σ => rfl) (fun σ => rfl) rfl (fun σ w (hO : Dk.Own w0 [] w _) => by obtain ⟨b28, w', hO', hr⟩ := ef_buildSlice (E := [(43, .agg #[str r23, str r27])]) (parts := #[(0, (.tmp 43))]) (t' := 42) (n := 1) (vs := [(0, .agg #[str r23, str r27])]) (cs := [str r23, str r27]) (e := 53) (sz := 2) (fun w => by kernel_rfl) rfl rfl hO rfl; exact ⟨(b28, (σ.2.1), (σ.2.2)), w', hO', ⟨.inr rfl, .inr rfl, .inr rfl, .inr rfl, .inr rfl, .inr rfl, .inr rfl, .inr rfl, .inr rfl, .inr rfl, .inr rfl, .inr rfl, .inr rfl, .inr rfl, .inr rfl, .inr rfl, .inl rfl, .inl rfl, .inr rfl, trivial⟩, hr⟩), sS_val rfl (fun σ => rfl) (fun σ => rfl) rfl (fun σ w (hO : Dk.Own w0 [] w _) => by obtain ⟨p29, c30, w', hO', hr⟩ := ef_append (E := [(28, .slice p12 l14.length c13), (44, .slice (some ⟨(σ.1), 0, none⟩) (([(⟨r23, r27⟩ : api_Field)]).length) 1)]) (x := (.tmp 28)) (y := (.tmp 44)) el_42 (enc := enc_api_Field) (xs := l14) (ys := [(⟨r23, r27⟩ : api_Field)]) (i := 1) (fun _ => rfl) rfl (hO.rowSees (i := 0) rfl) (by simp [cells, enc_api_Field, Value.oneCell']) hg31 hO rfl rfl; exact ⟨((σ.1), p29, c30), w', hO', ⟨.inr rfl, .inr rfl, .inr rfl, .inr rfl, .inr rfl, .inr rfl, .inr rfl, .inr rfl, .inr rfl, .inr rfl, .inr rfl, .inr rfl, .inr rfl, .inr rfl, .inr rfl, .inr rfl, .inr rfl, .inl rfl, .inl rfl, trivial⟩, hr⟩), sS_pure rfl (fun σ => rfl) (fun σ => rfl) (fun σ a w k _ _ _ _ hf => ex_assign hf rfl), trivial⟩ ?_
 rintro ⟨b28, p29, c30⟩ a w hf hO
 have hO : Dk.Own w0 [] w _ := hO
 have hf : Fits 49 [(1, ptr b1 0), (2, ptr b2 0), (3, .slice p29 ((l14 ++ [(⟨r23, r27⟩ : api_Field)]).length) c30), (4, int i15)] a := (hf.cons rfl (hf.cons rfl (hf.cons rfl (hf.cons rfl hf.nil))))
 refine nor_block ?_
 refine nor_then (hK32 _ _ ?_)
 refine wp_region_list ?_
 refine op_mv hf rfl rfl fun a hf => ?_
 obtain ⟨i33, hi33, hm⟩ := ob hm
 refine op_val (ex_add hf rfl rfl hi33) rfl hf rfl rfl fun a hf => ?_
 refine op_as hf rfl rfl fun a hf => ?_
 refine wpList_nil ?_
 refine nor_then ?_
 exact ⟨_, Nat.lt_succ_self _, p29, c30, l14 ++ [(⟨r23, r27⟩ : api_Field)], i33, (hf.cons rfl (hf.cons rfl (hf.cons rfl (hf.cons rfl hf.nil)))), (hO.sub (.cons _ (.cons_cons _ (.cons_cons _ (.cons_cons _ (.cons_cons _ (.cons_cons _ .slnil))))))), hm⟩
 have hm := ie hc18 hm
 refine wp_exit ?_
 refine exit_then ?_
 refine exit_then ?_
 refine exit_here ?_
 refine nor_then (hK34 _ _ ?_)
 refine wp_seq_k fun _ hK35 => ?_
 refine wp_region_list ?_
 refine op_mv hf rfl rfl fun a hf => ?_
 refine op_val (ex_field fa_46_6 hf rfl) rfl hf rfl rfl fun a hf => ?_
 refine op_store1 (i := 3) (o := 6) (v := .slice p12 l14.length c13) sz_42 rfl rfl rfl rfl hf rfl rfl hO fun w hO => ?_
 refine wpList_nil ?_
 refine nor_then (hK35 _ _ ?_)
 refine wp_seq_k fun _ hK36 => ?_
 refine wp_region_list ?_
 refine op_val (ex_loadN (o := 0) (vs := [int x_h.Kind, str r4, str r6, int x_h.Code, str r8, int x_h.Minor, .slice p12 l14.length c13]) ag_46 sz_46 (hO.blkSees (i := 3) rfl) rfl rfl hf rfl) rfl hf rfl rfl fun a hf => ?_
 refine op_storeN (i := 2) (n := 7) sz_46 rfl rfl rfl (by simp [Value.oneCell']) hf rfl rfl hO fun w hO => ?_
 refine wpList_nil ?_
 refine nor_then (hK36 _ _ ?_)
 refine wp_ret ?_
 obtain rfl := Option.some.inj hm
 exact post_ret Tryz.results18 hf (.cell rfl (run_loadVarN (n := 7) (vs := [int x_h.Kind, str r4, str r6, int x_h.Code, str r8, int x_h.Minor, .slice p12 l14.length c13]) ag_46 sz_46 rfl ((hO.blkSees (i := 2) rfl).cells (o := 0) (n := 7) rfl)) .nil) ⟨p12, c13, rfl, (hO.sub (.cons_cons _ (.cons _ (.cons _ (.cons _ (.cons _ .slnil))))))⟩
 exact ⟨none, 0, [], 0, (hf.cons rfl (hf.cons rfl (hf.cons rfl (hf.cons rfl hf.nil)))), hO, hm⟩

set_option maxHeartbeats 1000000 in
theorem w_location_Fields (x_env : api_Env) (x_l : List api_Field) (R : List api_Field) (w0 : World) (hG : GlobT w0) {x_env_p0 : Option Addr} {x_env_c0 : Nat} (hs0 : Sees w0 x_env_p0 (cells enc_api_Swap x_env.Domains)) (hc0 : x_env.Domains.length ≤ x_env_c0) {x_env_p1 : Option Addr} {x_env_c1 : Nat} (hs1 : Sees w0 x_env_p1 (cells enc_api_Swap x_env.Locations)) (hc1 : x_env.Locations.length ≤ x_env_c1) {x_l_p2 : Option Addr} {x_l_c2 : Nat} (hs2 : Sees w0 x_l_p2 (cells enc_api_Field x_l)) (hc2 : x_l.length ≤ x_l_c2) (hm : location_Fields x_env x_l = some R) :
    Calls Tryz.prog 20 #[.agg #[str x_env.Client, str x_env.Host, str x_env.Scheme, str x_env.By, .slice x_env_p0 x_env.Domains.length x_env_c0, .slice x_env_p1 x_env.Locations.length x_env_c1], .slice x_l_p2 x_l.length x_l_c2] w0 fun e w' => ∃ (p0 : Option Addr) (c0 : Nat), e = .returned (.slice p0 R.length c0) ∧ Dk.Own w0 [] w' [.row (.slice p0 R.length c0) 53 2 R.length (cells enc_api_Field R)] := by
 rw [location_Fields] at hm
 refine calls_enter (vs := [.agg #[str x_env.Client, str x_env.Host, str x_env.Scheme, str x_env.By, .slice x_env_p0 x_env.Domains.length x_env_c0, .slice x_env_p1 x_env.Locations.length x_env_c1], .slice x_l_p2 x_l.length x_l_c2]) Tryz.func20 rfl Tryz.ntmps20 rfl fun a hf => ?_
 have hF : Away [] := away_nil
 have hO : Dk.Own w0 [] w0 [] := Dk.Own.refl w0
 have hO := hO.addShr hs0 (by simp [Res.shared])
 have hO := hO.addShr hs1 (by simp [Res.shared])
 have hO := hO.addShr hs2 (by simp [Res.shared])
 refine wp_seq_k fun _ hK2 => ?_
 refine wp_region_list ?_
 refine op_box (v := .agg #[str x_env.Client, str x_env.Host, str x_env.Scheme, str x_env.By, .slice x_env_p0 x_env.Domains.length x_env_c0, .slice x_env_p1 x_env.Locations.length x_env_c1]) (cs := [str x_env.Client, str x_env.Host, str x_env.Scheme, str x_env.By, .slice x_env_p0 x_env.Domains.length x_env_c0, .slice x_env_p1 x_env.Locations.length x_env_c1]) rfl hf rfl rfl hO fun a b1 w hf hO => ?_
 have hO := hO.nilRow 53 2
 refine op_as hf rfl rfl fun a hf => ?_
 refine wpList_nil ?_
 refine nor_then (hK2 _ _ ?_)
 refine wp_seq_k fun _ hK7 => ?_
 refine wp_region_list ?_
 refine op_buildSlice (vs := []) (cs := []) (e := 53) (sz := 2) hf rfl rfl (fun w => by kernel_rfl) rfl rfl hO fun a b3 w hf hO => ?_
 refine op_mv hf rfl rfl fun a hf => ?_
 obtain ⟨hg6, hm⟩ := og hm
 refine op_appendS el_42 (enc := enc_api_Field) (xs := []) (ys := x_l) (i := 0) (fun _ => rfl) rfl (hO.sees (i := 3) rfl) (by simp [enc_api_Field, Value.oneCell']) hg6 hf rfl rfl rfl hO fun a p4 c5 w hf hO => ?_
 refine op_as hf rfl rfl fun a hf => ?_
 refine wpList_nil ?_
 refine nor_then (hK7 _ _ ?_)
 refine wp_seq_cut (fun a w => ∃ (p43 : Option Addr) (c44 : Nat) (l45 : List api_Field), Fits 46 [(5, .slice p43 l45.length c44)] a ∧ Dk.Own w0 [] w [.row (.slice p43 l45.length c44) 53 2 l45.length (cells enc_api_Field l45), .row (.slice none 0 0) 53 2 0 (cells enc_api_Field []), .blk b1 [str x_env.Client, str x_env.Host, str x_env.Scheme, str x_env.By, .slice x_env_p0 x_env.Domains.length x_env_c0, .slice x_env_p1 x_env.Locations.length x_env_c1] 41, .shr x_l_p2 (cells enc_api_Field x_l), .shr x_env_p1 (cells enc_api_Swap x_env.Locations), .shr x_env_p0 (cells enc_api_Swap x_env.Domains)] ∧ location_Fields_j4 l45 = some R) ?_ ?_
 refine wp_seq_k fun _ hK8 => ?_
 refine wp_region_list ?_
 refine op_mv hf rfl rfl fun a hf => ?_
 refine op_val (ex_len_l Tryz.underlying42 hf rfl) rfl hf rfl rfl fun a hf => ?_
 refine op_mv hf rfl rfl fun a hf => ?_
 refine wpList_nil ?_
 refine nor_then (hK8 _ _ ?_)
 refine wp_block ?_
 refine wp_loop_n (fun k a w => ∃ (p9 : Option Addr) (c10 : Nat) (l11 : List api_Field) (i12 : Int), Fits 46 [(2, ptr b1 0), (5, .slice p9 l11.length c10), (11, .slice p9 l11.length c10), (12, int (x_l.length : Int)), (13, int i12)] a ∧ Dk.Own w0 [] w [.row (.slice p9 l11.length c10) 53 2 l11.length (cells enc_api_Field l11), .row (.slice none 0 0) 53 2 0 (cells enc_api_Field []), .blk b1 [str x_env.Client, str x_env.Host, str x_env.Scheme, str x_env.By, .slice x_env_p0 x_env.Domains.length x_env_c0, .slice x_env_p1 x_env.Locations.length x_env_c1] 41, .shr x_l_p2 (cells enc_api_Field x_l), .shr x_env_p1 (cells enc_api_Swap x_env.Locations), .shr x_env_p0 (cells enc_api_Swap x_env.Domains)] ∧ location_Fields_L1 x_env x_l k l11 i12 = some R) ?_ fuel ?_
 rintro n1 a w ⟨p9, c10, l11, i12, hf, hO, hm⟩
 obtain _ | n1 := n1
 rw [location_Fields_L1] at hm
 cases hm
 rw [location_Fields_L1] at hm
 refine wp_seq_k fun _ hK13 => ?_
 refine wp_region_list ?_
 refine op_val (ex_lss (m := i12) (n := (x_l.length : Int)) hf rfl rfl) rfl hf rfl rfl fun a hf => ?_
 refine wpList_nil ?_
 refine nor_then (hK13 _ _ ?_)
 refine wp_seq_k fun _ hK15 => ?_
 refine wp_cond_cut hf rfl (fun hc14 => ?_) (fun hc14 => ?_)
 have hm := it hc14 hm
 refine wp_skip ?_
 refine nor_then (hK15 _ _ ?_)
 refine wp_seq_cut (fun a w => ∃ (p39 : Option Addr) (c40 : Nat) (l41 : List api_Field), Fits 46 [(2, ptr b1 0), (5, .slice p39 l41.length c40), (11, .slice p39 l41.length c40), (12, int (x_l.length : Int)), (13, int i12)] a ∧ Dk.Own w0 [] w [.row (.slice p39 l41.length c40) 53 2 l41.length (cells enc_api_Field l41), .row (.slice none 0 0) 53 2 0 (cells enc_api_Field []), .blk b1 [str x_env.Client, str x_env.Host, str x_env.Scheme, str x_env.By, .slice x_env_p0 x_env.Domains.length x_env_c0, .slice x_env_p1 x_env.Locations.length x_env_c1] 41, .shr x_l_p2 (cells enc_api_Field x_l), .shr x_env_p1 (cells enc_api_Swap x_env.Locations), .shr x_env_p0 (cells enc_api_Swap x_env.Domains)] ∧ location_Fields_j3 (location_Fields_L1 x_env x_l n1) i12 l41 = some R) ?_ ?_
 refine wp_block ?_
 refine wp_seq_k fun _ hK20 => ?_
 refine wp_region_list ?_
 refine op_mv hf rfl rfl fun a hf => ?_
 obtain ⟨x16, hx16, hm⟩ := ob hm
 obtain ⟨b17, o18, hix16, hSx16, hAx16⟩ := elemAtRow (enc := enc_api_Field) (sz := 2) (xs := l11) 42 Tryz.underlying42 sz_53 (by decide) (fun _ => rfl) hO (i := 0) rfl hx16
 refine op_val (ex_indexAddr hix16 hf rfl rfl) rfl hf rfl rfl fun a hf => ?_
 refine op_val (ex_loadN (o := 0) (vs := [str x16.Name, str x16.Value]) ag_53 sz_53 (hSx16 _ (hO.rowSees (i := 0) rfl)) rfl rfl hf rfl) rfl hf rfl rfl fun a hf => ?_
 refine op_alloc al_53 hf rfl hO fun a b19 w hf hO => ?_
 refine op_as hf rfl rfl fun a hf => ?_
 refine op_storeN (i := 0) (n := 2) sz_53 rfl rfl rfl (by simp [Value.oneCell']) hf rfl rfl hO fun w hO => ?_
 refine wpList_nil ?_
 refine nor_then (hK20 _ _ ?_)
 refine wp_seq_k fun _ hK22 => ?_
 refine wp_region_list ?_
 refine op_val (ex_field fa_53_0 hf rfl) rfl hf rfl rfl fun a hf => ?_
 refine op_val (ex_load1 (o := 0) ag_9 (hO.blkSees (i := 0) rfl) rfl hf rfl) rfl hf rfl rfl fun a hf => ?_
 obtain ⟨r21, hr21, hm⟩ := ob hm
 refine op_enter (ex_call c_40 hf (vs := [str x16.Name]) rfl) rfl hf rfl rfl (w_octet_Fold x16.Name r21 _ (hG.own hF hO).1 hr21) ?_
 rintro e w' ⟨he, hb⟩
 refine ⟨_, he, fun a hf => ?_⟩
 have hO := hO.grow hb
 refine wpList_nil ?_
 refine nor_then (hK22 _ _ ?_)
 refine wp_block ?_
 refine wp_seq_cut (fun a w => ∃ (t25 : Bool), Fits 46 [(2, ptr b1 0), (5, .slice p9 l11.length c10), (6, int i12), (7, ptr b19 0), (11, .slice p9 l11.length c10), (12, int (x_l.length : Int)), (13, int i12), (20, str r21), (21, .bool t25)] a ∧ Dk.Own w0 [] w [.blk b19 [str x16.Name, str x16.Value] 53, .row (.slice p9 l11.length c10) 53 2 l11.length (cells enc_api_Field l11), .row (.slice none 0 0) 53 2 0 (cells enc_api_Field []), .blk b1 [str x_env.Client, str x_env.Host, str x_env.Scheme, str x_env.By, .slice x_env_p0 x_env.Domains.length x_env_c0, .slice x_env_p1 x_env.Locations.length x_env_c1] 41, .shr x_l_p2 (cells enc_api_Field x_l), .shr x_env_p1 (cells enc_api_Swap x_env.Locations), .shr x_env_p0 (cells enc_api_Swap x_env.Domains)] ∧ location_Fields_j2 (location_Fields_L1 x_env x_l n1) x_env l11 i12 x16 r21 t25 = some R) ?_ ?_
 refine wp_seq_k fun _ hK23 => ?_
 refine wp_region_list ?_
 refine op_val (ex_eql_s (l := r21) (m := [108, 111, 99, 97, 116, 105, 111, 110]) hf rfl rfl) rfl hf rfl rfl fun a hf => ?_
 refine op_as hf rfl rfl fun a hf => ?_
 refine wpList_nil ?_
 refine nor_then (hK23 _ _ ?_)
 refine wp_cond_cut hf rfl (fun hc24 => ?_) (fun hc24 => ?_)
 have hm := it hc24 hm
 refine wp_skip ?_
 refine nor_then ?_
 exact ⟨r21 == [108, 111, 99, 97, 116, 105, 111, 110], (hf.cons rfl (hf.cons rfl (hf.cons rfl (hf.cons rfl (hf.cons rfl (hf.cons rfl (hf.cons rfl (hf.cons rfl (hf.cons rfl hf.nil))))))))), hO, hm⟩
 have hm := ie hc24 hm
 refine wp_region_list ?_
 refine op_val (ex_eql_s (l := r21) (m := [99, 111, 110, 116, 101, 110, 116, 45, 108, 111, 99, 97, 116, 105, 111, 110]) hf rfl rfl) rfl hf rfl rfl fun a hf => ?_
 refine op_as hf rfl rfl fun a hf => ?_
 refine wpList_nil ?_
 refine nor_then ?_
 exact ⟨r21 == [99, 111, 110, 116, 101, 110, 116, 45, 108, 111, 99, 97, 116, 105, 111, 110], (hf.cons rfl (hf.cons rfl (hf.cons rfl (hf.cons rfl (hf.cons rfl (hf.cons rfl (hf.cons rfl (hf.cons rfl (hf.cons rfl hf.nil))))))))), hO, hm⟩
 rintro a w ⟨t25, hf, hO, hm⟩
 rw [location_Fields_j2] at hm
 refine wp_cond_cut hf rfl (fun hc26 => ?_) (fun hc26 => ?_)
 have hm := it hc26 hm
 refine wp_region_list ?_
 refine op_mv hf rfl rfl fun a hf => ?_
 refine op_mv hf rfl rfl fun a hf => ?_
 refine op_val (ex_field fa_53_1 hf rfl) rfl hf rfl rfl fun a hf => ?_
 refine op_val (ex_load1 (o := 1) ag_9 (hO.blkSees (i := 0) rfl) rfl hf rfl) rfl hf rfl rfl fun a hf => ?_
 refine op_val (ex_field fa_41_5 hf rfl) rfl hf rfl rfl fun a hf => ?_
 refine op_val (ex_load1 (o := 5) ag_22 (hO.blkSees (i := 3) rfl) rfl hf rfl) rfl hf rfl rfl fun a hf => ?_
 obtain ⟨r27, hr27, hm⟩ := ob hm
 refine op_enter (ex_call c_37 hf (vs := [str x16.Value, .slice x_env_p1 x_env.Locations.length x_env_c1]) rfl) rfl hf rfl rfl (w_location_Rewrite x16.Value x_env.Locations r27 _ (hG.own hF hO).1 (hO.sees (i := 5) rfl) hc1 hr27) ?_
 rintro e w' ⟨he, hb⟩
 refine ⟨_, he, fun a hf => ?_⟩
 have hO := hO.grow hb
 obtain ⟨x28, hx28, hm⟩ := ob hm
 obtain ⟨b29, o30, hix28, hSx28, hAx28⟩ := elemAtRow (enc := enc_api_Field) (sz := 2) (xs := l11) 42 Tryz.underlying42 sz_53 (by decide) (fun _ => rfl) hO (i := 1) rfl hx28
 refine op_val (ex_indexAddr hix28 hf rfl rfl) rfl hf rfl rfl fun a hf => ?_
 refine op_val (ex_field fa_53_1 hf rfl) rfl hf rfl rfl fun a hf => ?_
 obtain ⟨l31, hl31, hm⟩ := ob hm
 refine op_storeRow (enc := enc_api_Field) (i := 1) (rel := 1) (xs := l11) (v := str r27) sz_9 (fun _ => rfl) rfl hAx28 hx28 hl31 rfl (by decide) rfl rfl hf rfl rfl hO fun w hlen hO => ?_
 have hf : Fits 46 [(2, ptr b1 0), (5, .slice p9 l31.length c10), (6, int i12), (7, ptr b19 0), (11, .slice p9 l31.length c10), (12, int (x_l.length : Int)), (13, int i12), (20, str r21), (21, .bool t25), (24, .slice p9 l31.length c10), (25, int i12), (26, ptr b19 1), (27, str x16.Value), (28, ptr b1 5), (29, .slice x_env_p1 x_env.Locations.length x_env_c1), (30, str r27), (31, ptr b29 o30), (32, ptr b29 (o30 + 1))] a := by rw [hlen]; exact (hf.cons rfl (hf.cons rfl (hf.cons rfl (hf.cons rfl (hf.cons rfl (hf.cons rfl (hf.cons rfl (hf.cons rfl (hf.cons rfl (hf.cons rfl (hf.cons rfl (hf.cons rfl (hf.cons rfl (hf.cons rfl (hf.cons rfl (hf.cons rfl (hf.cons rfl (hf.cons rfl hf.nil))))))))))))))))))
 refine wpList_nil ?_
 refine nor_block ?_
 refine nor_block ?_
 refine nor_then ?_
 exact ⟨p9, c10, l31, (hf.cons rfl (hf.cons rfl (hf.cons rfl (hf.cons rfl (hf.cons rfl hf.nil))))), (hO.sub (.cons _ (.cons_cons _ (.cons_cons _ (.cons_cons _ (.cons_cons _ (.cons_cons _ (.cons_cons _ .slnil)))))))), hm⟩
 have hm := ie hc26 hm
 refine wp_seq_k fun _ hK32 => ?_
 refine wp_region_list ?_
 refine op_val (ex_eql_s (l := r21) (m := [115, 101, 116, 45, 99, 111, 111, 107, 105, 101]) hf rfl rfl) rfl hf rfl rfl fun a hf => ?_
 refine op_as hf rfl rfl fun a hf => ?_
 refine wpList_nil ?_
 refine nor_then (hK32 _ _ ?_)
 refine wp_cond_cut hf rfl (fun hc33 => ?_) (fun hc33 => ?_)
 have hm := it hc33 hm
 refine wp_region_list ?_
 refine op_mv hf rfl rfl fun a hf => ?_
 refine op_mv hf rfl rfl fun a hf => ?_
 refine op_val (ex_field fa_53_1 hf rfl) rfl hf rfl rfl fun a hf => ?_
 refine op_val (ex_load1 (o := 1) ag_9 (hO.blkSees (i := 0) rfl) rfl hf rfl) rfl hf rfl rfl fun a hf => ?_
 refine op_val (ex_field fa_41_4 hf rfl) rfl hf rfl rfl fun a hf => ?_
 refine op_val (ex_load1 (o := 4) ag_22 (hO.blkSees (i := 3) rfl) rfl hf rfl) rfl hf rfl rfl fun a hf => ?_
 obtain ⟨r34, hr34, hm⟩ := ob hm
 refine op_enter (ex_call c_10 hf (vs := [str x16.Value, .slice x_env_p0 x_env.Domains.length x_env_c0]) rfl) rfl hf rfl rfl (w_domains_Rewrite x16.Value x_env.Domains r34 _ (hG.own hF hO) (hO.sees (i := 6) rfl) hc0 hr34) ?_
 rintro e w' ⟨he, hb⟩
 refine ⟨_, he, fun a hf => ?_⟩
 have hO := hO.grow hb
 obtain ⟨x35, hx35, hm⟩ := ob hm
 obtain ⟨b36, o37, hix35, hSx35, hAx35⟩ := elemAtRow (enc := enc_api_Field) (sz := 2) (xs := l11) 42 Tryz.underlying42 sz_53 (by decide) (fun _ => rfl) hO (i := 1) rfl hx35
 refine op_val (ex_indexAddr hix35 hf rfl rfl) rfl hf rfl rfl fun a hf => ?_
 refine op_val (ex_field fa_53_1 hf rfl) rfl hf rfl rfl fun a hf => ?_
 obtain ⟨l38, hl38, hm⟩ := ob hm
 refine op_storeRow (enc := enc_api_Field) (i := 1) (rel := 1) (xs := l11) (v := str r34) sz_9 (fun _ => rfl) rfl hAx35 hx35 hl38 rfl (by decide) rfl rfl hf rfl rfl hO fun w hlen hO => ?_
 have hf : Fits 46 [(2, ptr b1 0), (5, .slice p9 l38.length c10), (6, int i12), (7, ptr b19 0), (11, .slice p9 l38.length c10), (12, int (x_l.length : Int)), (13, int i12), (33, .bool (r21 == [115, 101, 116, 45, 99, 111, 111, 107, 105, 101])), (35, .slice p9 l38.length c10), (36, int i12), (37, ptr b19 1), (38, str x16.Value), (39, ptr b1 4), (40, .slice x_env_p0 x_env.Domains.length x_env_c0), (41, str r34), (42, ptr b36 o37), (43, ptr b36 (o37 + 1))] a := by rw [hlen]; exact (hf.cons rfl (hf.cons rfl (hf.cons rfl (hf.cons rfl (hf.cons rfl (hf.cons rfl (hf.cons rfl (hf.cons rfl (hf.cons rfl (hf.cons rfl (hf.cons rfl (hf.cons rfl (hf.cons rfl (hf.cons rfl (hf.cons rfl (hf.cons rfl (hf.cons rfl hf.nil)))))))))))))))))
 refine wpList_nil ?_
 refine nor_block ?_
 refine nor_block ?_
 refine nor_then ?_
 exact ⟨p9, c10, l38, (hf.cons rfl (hf.cons rfl (hf.cons rfl (hf.cons rfl (hf.cons rfl hf.nil))))), (hO.sub (.cons _ (.cons_cons _ (.cons_cons _ (.cons_cons _ (.cons_cons _ (.cons_cons _ (.cons_cons _ .slnil)))))))), hm⟩
 have hm := ie hc33 hm
 refine wp_skip ?_
 refine nor_block ?_
 refine nor_block ?_
 refine nor_then ?_
 exact ⟨p9, c10, l11, (hf.cons rfl (hf.cons rfl (hf.cons rfl (hf.cons rfl (hf.cons rfl hf.nil))))), (hO.sub (.cons _ (.cons_cons _ (.cons_cons _ (.cons_cons _ (.cons_cons _ (.cons_cons _ (.cons_cons _ .slnil)))))))), hm⟩
 rintro a w ⟨p39, c40, l41, hf, hO, hm⟩
 rw [location_Fields_j3] at hm
 refine wp_region_list ?_
 obtain ⟨i42, hi42, hm⟩ := ob hm
 refine op_val (ex_add hf rfl rfl hi42) rfl hf rfl rfl fun a hf => ?_
 refine op_mv hf rfl rfl fun a hf => ?_
 refine wpList_nil ?_
 refine nor_then ?_
 exact ⟨_, Nat.lt_succ_self _, p39, c40, l41, i42, (hf.cons rfl (hf.cons rfl (hf.cons rfl (hf.cons rfl (hf.cons rfl hf.nil))))), hO, hm⟩
 have hm := ie hc14 hm
 refine wp_exit ?_
 refine exit_then ?_
 refine exit_then ?_
 refine exit_here ?_
 refine nor_then ?_
 exact ⟨p9, c10, l11, (hf.cons rfl hf.nil), hO, hm⟩
 exact ⟨p4, c5, x_l, 0, (hf.cons rfl (hf.cons rfl (hf.cons rfl (hf.cons rfl (hf.cons rfl hf.nil))))), hO, hm⟩
 rintro a w ⟨p43, c44, l45, hf, hO, hm⟩
 rw [location_Fields_j4] at hm
 refine wp_seq_k fun _ hK46 => ?_
 refine wp_region_list ?_
 refine op_mv hf rfl rfl fun a hf => ?_
 refine op_as hf rfl rfl fun a hf => ?_
 refine wpList_nil ?_
 refine nor_then (hK46 _ _ ?_)
 refine wp_ret ?_
 obtain rfl := Option.some.inj hm
 exact post_ret Tryz.results20 hf (.tmp rfl .nil) ⟨p43, c44, rfl, (hO.sub (.cons_cons _ (.cons _ (.cons _ (.cons _ (.cons _ (.cons _ .slnil)))))))⟩

set_option maxHeartbeats 1000000 in
theorem w_ref13_Of (x_f : api_Field) (x_name : Str) (R : Bool) (w0 : World) (hG : Glob w0) (hm : ref13_Of x_f x_name = some R) :
    Calls Tryz.prog 41 #[.agg #[str x_f.Name, str x_f.Value], str x_name] w0 fun e w' => e = .returned (.bool R) ∧ Below w0.heap.size w0 w' := by
 rw [ref13_Of] at hm
 refine calls_enter (vs := [.agg #[str x_f.Name, str x_f.Value], str x_name]) Tryz.func41 rfl Tryz.ntmps41 rfl fun a hf => ?_
 have hF : Away [] := away_nil
 have hO : Dk.Own w0 [] w0 [] := Dk.Own.refl w0
 refine wp_seq_k fun _ hK2 => ?_
 refine wp_region_list ?_
 refine op_box (v := .agg #[str x_f.Name, str x_f.Value]) (cs := [str x_f.Name, str x_f.Value]) rfl hf rfl rfl hO fun a b1 w hf hO => ?_
 refine op_as hf rfl rfl fun a hf => ?_
 refine wpList_nil ?_
 refine nor_then (hK2 _ _ ?_)
 refine wp_seq_k fun _ hK5 => ?_
 refine wp_region_list ?_
 refine op_val (ex_field fa_53_0 hf rfl) rfl hf rfl rfl fun a hf => ?_
 refine op_val (ex_load1 (o := 0) ag_9 (hO.blkSees (i := 0) rfl) rfl hf rfl) rfl hf rfl rfl fun a hf => ?_
 obtain ⟨r3, hr3, hm⟩ := ob hm
 refine op_enter (ex_call c_70 hf (vs := [str x_f.Name]) rfl) rfl hf rfl rfl (w_ref01_Fold x_f.Name r3 _ (hG.own hF hO) hr3) ?_
 rintro e w' ⟨he, hb⟩
 refine ⟨_, he, fun a hf => ?_⟩
 have hO := hO.grow hb
 refine op_mv hf rfl rfl fun a hf => ?_
 obtain ⟨r4, hr4, hm⟩ := ob hm
 refine op_enter (ex_call c_70 hf (vs := [str x_name]) rfl) rfl hf rfl rfl (w_ref01_Fold x_name r4 _ (hG.own hF hO) hr4) ?_
 rintro e w' ⟨he, hb⟩
 refine ⟨_, he, fun a hf => ?_⟩
 have hO := hO.grow hb
 refine op_val (ex_eql_s (l := r3) (m := r4) hf rfl rfl) rfl hf rfl rfl fun a hf => ?_
 refine op_as hf rfl rfl fun a hf => ?_
 refine wpList_nil ?_
 refine nor_then (hK5 _ _ ?_)
 refine wp_ret ?_
 obtain rfl := Option.some.inj hm
 exact post_ret Tryz.results41 hf (.tmp rfl .nil) ⟨rfl, hO.below⟩

set_option maxHeartbeats 1000000 in
theorem w_ref11_first (x_s : Str) (x_l : Str) (R : Int) (w0 : World) (hG : Glob w0) (hm : ref11_first x_s x_l = some R) :
    Calls Tryz.prog 115 #[str x_s, str x_l] w0 fun e w' => e = .returned (int R) ∧ Below w0.heap.size w0 w' := by
 rw [ref11_first] at hm
 refine calls_enter (vs := [str x_s, str x_l]) Tryz.func115 rfl Tryz.ntmps115 rfl fun a hf => ?_
 have hF : Away [] := away_nil
 have hO : Dk.Own w0 [] w0 [] := Dk.Own.refl w0
 refine wp_seq_k fun _ hK1 => ?_
 refine wp_region_list ?_
 refine op_as hf rfl rfl fun a hf => ?_
 refine wpList_nil ?_
 refine nor_then (hK1 _ _ ?_)
 refine wp_seq_k fun _ hK2 => ?_
 refine wp_region_list ?_
 refine op_as hf rfl rfl fun a hf => ?_
 refine wpList_nil ?_
 refine nor_then (hK2 _ _ ?_)
 refine wp_seq_k fun _ hK11 => ?_
 refine wp_block ?_
 refine wp_loop_n (fun k a w => ∃ (i3 : Int), Fits 21 [(0, str x_s), (1, str x_l), (5, int i3)] a ∧ Dk.Own w0 [] w [] ∧ ref11_first_L1 x_s x_l k i3 = some R) ?_ fuel ?_
 rintro n1 a w ⟨i3, hf, hO, hm⟩
 obtain _ | n1 := n1
 rw [ref11_first_L1] at hm
 cases hm
 rw [ref11_first_L1] at hm
 refine wp_seq_k fun _ hK9 => ?_
 refine wp_seq_cut (fun a w => ∃ (t7 : Bool), Fits 21 [(0, str x_s), (1, str x_l), (5, int i3), (17, .bool t7)] a ∧ Dk.Own w0 [] w [] ∧ ref11_first_j2 (ref11_first_L1 x_s x_l n1) i3 t7 = some R) ?_ ?_
 refine wp_region_list ?_
 refine op_mv hf rfl rfl fun a hf => ?_
 refine op_mv hf rfl rfl fun a hf => ?_
 refine op_val (ex_len_s (l := x_s) Tryz.underlying9 hf rfl) rfl hf rfl rfl fun a hf => ?_
 refine op_val (ex_lss (m := i3) (n := (x_s.length : Int)) hf rfl rfl) rfl hf rfl rfl fun a hf => ?_
 refine op_mv hf rfl rfl fun a hf => ?_
 rcases bcase (decide (i3 < (x_s.length : Int))) with hc4 | hc4
 have hm := it hc4 hm
 refine op_guard rfl hf rfl rfl (hc4) ?_
 refine op_mv hf rfl rfl fun a hf => ?_
 refine op_guard rfl hf rfl rfl (hc4) ?_
 refine op_mv hf rfl rfl fun a hf => ?_
 refine op_guard rfl hf rfl rfl (hc4) ?_
 obtain ⟨b5, hb5, hm⟩ := ob hm
 refine op_val (ex_index (l := x_s) Tryz.underlying9 hf rfl rfl hb5) rfl hf rfl rfl fun a hf => ?_
 refine op_guard rfl hf rfl rfl (hc4) ?_
 refine op_mv hf rfl rfl fun a hf => ?_
 refine op_guard rfl hf rfl rfl (hc4) ?_
 obtain ⟨r6, hr6, hm⟩ := ob hm
 refine op_enter (ex_call c_89 hf (vs := [byte b5, str x_l]) rfl) rfl hf rfl rfl (w_ref01_In b5 x_l r6 _ (hG.own hF hO) hr6) ?_
 rintro e w' ⟨he, hb⟩
 refine ⟨_, he, fun a hf => ?_⟩
 have hO := hO.grow hb
 refine op_guard rfl hf rfl rfl (hc4) ?_
 refine op_val (ex_not hf rfl) rfl hf rfl rfl fun a hf => ?_
 refine op_val (ex_pick_t hf rfl hc4 rfl) rfl hf rfl rfl fun a hf => ?_
 refine wpList_nil ?_
 refine nor_then ?_
 exact ⟨!r6, (hf.cons rfl (hf.cons rfl (hf.cons rfl (hf.cons rfl hf.nil)))), hO, hm⟩
 have hm := ie hc4 hm
 refine op_pass rfl hf rfl rfl (hc4) rfl rfl fun a hf => ?_
 refine op_pass rfl hf rfl rfl (hc4) rfl rfl fun a hf => ?_
 refine op_pass rfl hf rfl rfl (hc4) rfl rfl fun a hf => ?_
 refine op_pass rfl hf rfl rfl (hc4) rfl rfl fun a hf => ?_
 refine op_pass rfl hf rfl rfl (hc4) rfl rfl fun a hf => ?_
 refine op_pass rfl hf rfl rfl (hc4) rfl rfl fun a hf => ?_
 refine op_val (ex_pick_f hf rfl hc4 rfl) rfl hf rfl rfl fun a hf => ?_
 refine wpList_nil ?_
 refine nor_then ?_
 exact ⟨false, (hf.cons rfl (hf.cons rfl (hf.cons rfl (hf.cons rfl hf.nil)))), hO, hm⟩
 rintro a w ⟨t7, hf, hO, hm⟩
 rw [ref11_first_j2] at hm
 refine wp_cond_cut hf rfl (fun hc8 => ?_) (fun hc8 => ?_)
 have hm := it hc8 hm
 refine wp_skip ?_
 refine nor_then (hK9 _ _ ?_)
 refine wp_block ?_
 refine wp_region_list ?_
 refine op_mv hf rfl rfl fun a hf => ?_
 obtain ⟨i10, hi10, hm⟩ := ob hm
 refine op_val (ex_add hf rfl rfl hi10) rfl hf rfl rfl fun a hf => ?_
 refine op_as hf rfl rfl fun a hf => ?_
 refine wpList_nil ?_
 refine nor_block ?_
 refine nor_then ?_
 exact ⟨_, Nat.lt_succ_self _, i10, (hf.cons rfl (hf.cons rfl (hf.cons rfl hf.nil))), hO, hm⟩
 have hm := ie hc8 hm
 refine wp_exit ?_
 refine exit_then ?_
 refine exit_then ?_
 refine exit_here ?_
 refine nor_then (hK11 _ _ ?_)
 refine wp_seq_k fun _ hK12 => ?_
 refine wp_region_list ?_
 refine op_mv hf rfl rfl fun a hf => ?_
 refine op_as hf rfl rfl fun a hf => ?_
 refine wpList_nil ?_
 refine nor_then (hK12 _ _ ?_)
 refine wp_ret ?_
 obtain rfl := Option.some.inj hm
 exact post_ret Tryz.results115 hf (.tmp rfl .nil) ⟨rfl, hO.below⟩
 exact ⟨0, (hf.cons rfl (hf.cons rfl (hf.cons rfl hf.nil))), hO, hm⟩

set_option maxHeartbeats 1000000 in
theorem w_ref01_Alpha (x_b : UInt8) (R : Bool) (w0 : World) (hG : Glob w0) (hm : ref01_Alpha x_b = some R) :
    Calls Tryz.prog 147 #[byte x_b] w0 fun e w' => e = .returned (.bool R) ∧ Below w0.heap.size w0 w' := by
 rw [ref01_Alpha] at hm
 refine calls_enter (vs := [byte x_b]) Tryz.func147 rfl Tryz.ntmps147 rfl fun a hf => ?_
 have hF : Away [] := away_nil
 have hO : Dk.Own w0 [] w0 [] := Dk.Own.refl w0
 refine wp_seq_k fun _ hK1 => ?_
 refine wp_region_list ?_
 refine op_as hf rfl rfl fun a hf => ?_
 refine wpList_nil ?_
 refine nor_then (hK1 _ _ ?_)
 refine wp_seq_k fun _ hK3 => ?_
 refine wp_region_list ?_
 refine op_mv hf rfl rfl fun a hf => ?_
 obtain ⟨r2, hr2, hm⟩ := ob hm
 refine op_enter (ex_call c_89 hf (vs := [byte x_b, str [97, 98, 99, 100, 101, 102, 103, 104, 105, 106, 107, 108, 109, 110, 111, 112, 113, 114, 115, 116, 117, 118, 119, 120, 121, 122, 65, 66, 67, 68, 69, 70, 71, 72, 73, 74, 75, 76, 77, 78, 79, 80, 81, 82, 83, 84, 85, 86, 87, 88, 89, 90]]) rfl) rfl hf rfl rfl (w_ref01_In x_b [97, 98, 99, 100, 101, 102, 103, 104, 105, 106, 107, 108, 109, 110, 111, 112, 113, 114, 115, 116, 117, 118, 119, 120, 121, 122, 65, 66, 67, 68, 69, 70, 71, 72, 73, 74, 75, 76, 77, 78, 79, 80, 81, 82, 83, 84, 85, 86, 87, 88, 89, 90] r2 _ (hG.own hF hO) hr2) ?_
 rintro e w' ⟨he, hb⟩
 refine ⟨_, he, fun a hf => ?_⟩
 have hO := hO.grow hb
 refine op_as hf rfl rfl fun a hf => ?_
 refine wpList_nil ?_
 refine nor_then (hK3 _ _ ?_)
 refine wp_ret ?_
 obtain rfl := Option.some.inj hm
 exact post_ret Tryz.results147 hf (.tmp rfl .nil) ⟨rfl, hO.below⟩

set_option maxHeartbeats 1000000 in
theorem w_ref01_Digit (x_b : UInt8) (R : Bool) (w0 : World) (hG : Glob w0) (hm : ref01_Digit x_b = some R) :
    Calls Tryz.prog 148 #[byte x_b] w0 fun e w' => e = .returned (.bool R) ∧ Below w0.heap.size w0 w' := by
 rw [ref01_Digit] at hm
 refine calls_enter (vs := [byte x_b]) Tryz.func148 rfl Tryz.ntmps148 rfl fun a hf => ?_
 have hF : Away [] := away_nil
 have hO : Dk.Own w0 [] w0 [] := Dk.Own.refl w0
 refine wp_seq_k fun _ hK1 => ?_
 refine wp_region_list ?_
 refine op_as hf rfl rfl fun a hf => ?_
 refine wpList_nil ?_
 refine nor_then (hK1 _ _ ?_)
 refine wp_seq_k fun _ hK3 => ?_
 refine wp_region_list ?_
 refine op_mv hf rfl rfl fun a hf => ?_
 obtain ⟨r2, hr2, hm⟩ := ob hm
 refine op_enter (ex_call c_89 hf (vs := [byte x_b, str [48, 49, 50, 51, 52, 53, 54, 55, 56, 57]]) rfl) rfl hf rfl rfl (w_ref01_In x_b [48, 49, 50, 51, 52, 53, 54, 55, 56, 57] r2 _ (hG.own hF hO) hr2) ?_
 rintro e w' ⟨he, hb⟩
 refine ⟨_, he, fun a hf => ?_⟩
 have hO := hO.grow hb
 refine op_as hf rfl rfl fun a hf => ?_
 refine wpList_nil ?_
 refine nor_then (hK3 _ _ ?_)
 refine wp_ret ?_
 obtain rfl := Option.some.inj hm
 exact post_ret Tryz.results148 hf (.tmp rfl .nil) ⟨rfl, hO.below⟩

set_option maxHeartbeats 1000000 in
theorem w_ref11_scheme (x_s : Str) (R : Bool) (w0 : World) (hG : Glob w0) (hm : ref11_scheme x_s = some R) :
    Calls Tryz.prog 116 #[str x_s] w0 fun e w' => e = .returned (.bool R) ∧ Below w0.heap.size w0 w' := by
 rw [ref11_scheme] at hm
 refine calls_enter (vs := [str x_s]) Tryz.func116 rfl Tryz.ntmps116 rfl fun a hf => ?_
 have hF : Away [] := away_nil
 have hO : Dk.Own w0 [] w0 [] := Dk.Own.refl w0
 refine wp_seq_k fun _ hK1 => ?_
 refine wp_region_list ?_
 refine op_as hf rfl rfl fun a hf => ?_
 refine wpList_nil ?_
 refine nor_then (hK1 _ _ ?_)
 refine wp_seq_k fun _ hK21 => ?_
 refine wp_seq_k fun _ hK2 => ?_
 refine wp_region_list ?_
 refine op_as hf rfl rfl fun a hf => ?_
 refine wpList_nil ?_
 refine nor_then (hK2 _ _ ?_)
 refine wp_block ?_
 refine wp_loop_n (fun k a w => ∃ (i3 : Int), Fits 36 [(0, str x_s), (3, int i3)] a ∧ Dk.Own w0 [] w [] ∧ ref11_scheme_L1 x_s k i3 = some R) ?_ fuel ?_
 rintro n1 a w ⟨i3, hf, hO, hm⟩
 obtain _ | n1 := n1
 rw [ref11_scheme_L1] at hm
 cases hm
 rw [ref11_scheme_L1] at hm
 refine wp_seq_k fun _ hK6 => ?_
 refine wp_seq_k fun _ hK4 => ?_
 refine wp_region_list ?_
 refine op_mv hf rfl rfl fun a hf => ?_
 refine op_mv hf rfl rfl fun a hf => ?_
 refine op_val (ex_len_s (l := x_s) Tryz.underlying9 hf rfl) rfl hf rfl rfl fun a hf => ?_
 refine op_val (ex_lss (m := i3) (n := (x_s.length : Int)) hf rfl rfl) rfl hf rfl rfl fun a hf => ?_
 refine wpList_nil ?_
 refine nor_then (hK4 _ _ ?_)
 refine wp_cond_cut hf rfl (fun hc5 => ?_) (fun hc5 => ?_)
 have hm := it hc5 hm
 refine wp_skip ?_
 refine nor_then (hK6 _ _ ?_)
 refine wp_seq_k fun _ hK19 => ?_
 refine wp_block ?_
 refine wp_seq_cut (fun a w => ∃ (t16 : Bool), Fits 36 [(0, str x_s), (3, int i3), (32, .bool t16)] a ∧ Dk.Own w0 [] w [] ∧ ref11_scheme_j2 (ref11_scheme_L1 x_s n1) i3 t16 = some R) ?_ ?_
 refine wp_region_list ?_
 refine op_mv hf rfl rfl fun a hf => ?_
 refine op_mv hf rfl rfl fun a hf => ?_
 obtain ⟨b7, hb7, hm⟩ := ob hm
 refine op_val (ex_index (l := x_s) Tryz.underlying9 hf rfl rfl hb7) rfl hf rfl rfl fun a hf => ?_
 obtain ⟨r8, hr8, hm⟩ := ob hm
 refine op_enter (ex_call c_147 hf (vs := [byte b7]) rfl) rfl hf rfl rfl (w_ref01_Alpha b7 r8 _ (hG.own hF hO) hr8) ?_
 rintro e w' ⟨he, hb⟩
 refine ⟨_, he, fun a hf => ?_⟩
 have hO := hO.grow hb
 refine op_val (ex_not hf rfl) rfl hf rfl rfl fun a hf => ?_
 refine op_mv hf rfl rfl fun a hf => ?_
 rcases bcase (!r8) with hc9 | hc9
 have hm := it hc9 hm
 refine op_guard rfl hf rfl rfl (hc9) ?_
 refine op_mv hf rfl rfl fun a hf => ?_
 refine op_guard rfl hf rfl rfl (hc9) ?_
 refine op_val (ex_eql (m := i3) (n := 0) hf rfl rfl) rfl hf rfl rfl fun a hf => ?_
 refine op_guard rfl hf rfl rfl (hc9) ?_
 refine op_mv hf rfl rfl fun a hf => ?_
 rcases bcase (i3 == 0) with hc10 | hc10
 have hm := it hc10 hm
 refine op_pass rfl hf rfl rfl (hc10) rfl rfl fun a hf => ?_
 refine op_pass rfl hf rfl rfl (hc10) rfl rfl fun a hf => ?_
 refine op_pass rfl hf rfl rfl (hc10) rfl rfl fun a hf => ?_
 refine op_pass rfl hf rfl rfl (hc10) rfl rfl fun a hf => ?_
 refine op_pass rfl hf rfl rfl (hc10) rfl rfl fun a hf => ?_
 refine op_pass rfl hf rfl rfl (hc10) rfl rfl fun a hf => ?_
 refine op_passu rfl hf rfl rfl rfl rfl fun a hf => ?_
 refine op_passu rfl hf rfl rfl rfl rfl fun a hf => ?_
 refine op_passu rfl hf rfl rfl rfl rfl fun a hf => ?_
 refine op_passu rfl hf rfl rfl rfl rfl fun a hf => ?_
 refine op_passu rfl hf rfl rfl rfl rfl fun a hf => ?_
 refine op_pass rfl hf rfl rfl (hc10) rfl rfl fun a hf => ?_
 refine op_guard rfl hf rfl rfl (hc9) ?_
 refine op_val (ex_pick_t hf rfl hc10 rfl) rfl hf rfl rfl fun a hf => ?_
 refine op_val (ex_pick_t hf rfl hc9 rfl) rfl hf rfl rfl fun a hf => ?_
 refine wpList_nil ?_
 refine nor_then ?_
 exact ⟨true, (hf.cons rfl (hf.cons rfl (hf.cons rfl hf.nil))), hO, hm⟩
 have hm := ie hc10 hm
 refine op_guard rfl hf rfl rfl (hc10) ?_
 refine op_mv hf rfl rfl fun a hf => ?_
 refine op_guard rfl hf rfl rfl (hc10) ?_
 refine op_mv hf rfl rfl fun a hf => ?_
 refine op_guard rfl hf rfl rfl (hc10) ?_
 obtain ⟨b11, hb11, hm⟩ := ob hm
 refine op_val (ex_index (l := x_s) Tryz.underlying9 hf rfl rfl hb11) rfl hf rfl rfl fun a hf => ?_
 refine op_guard rfl hf rfl rfl (hc10) ?_
 obtain ⟨r12, hr12, hm⟩ := ob hm
 refine op_enter (ex_call c_148 hf (vs := [byte b11]) rfl) rfl hf rfl rfl (w_ref01_Digit b11 r12 _ (hG.own hF hO) hr12) ?_
 rintro e w' ⟨he, hb⟩
 refine ⟨_, he, fun a hf => ?_⟩
 have hO := hO.grow hb
 refine op_guard rfl hf rfl rfl (hc10) ?_
 refine op_val (ex_not hf rfl) rfl hf rfl rfl fun a hf => ?_
 refine op_guard rfl hf rfl rfl (hc10) ?_
 refine op_mv hf rfl rfl fun a hf => ?_
 rcases bcase (!r12) with hc13 | hc13
 have hm := it hc13 hm
 refine op_guard rfl hf rfl rfl (hc13) ?_
 refine op_mv hf rfl rfl fun a hf => ?_
 refine op_guard rfl hf rfl rfl (hc13) ?_
 refine op_mv hf rfl rfl fun a hf => ?_
 refine op_guard rfl hf rfl rfl (hc13) ?_
 obtain ⟨b14, hb14, hm⟩ := ob hm
 refine op_val (ex_index (l := x_s) Tryz.underlying9 hf rfl rfl hb14) rfl hf rfl rfl fun a hf => ?_
 refine op_guard rfl hf rfl rfl (hc13) ?_
 obtain ⟨r15, hr15, hm⟩ := ob hm
 refine op_enter (ex_call c_89 hf (vs := [byte b14, str [43, 45, 46]]) rfl) rfl hf rfl rfl (w_ref01_In b14 [43, 45, 46] r15 _ (hG.own hF hO) hr15) ?_
 rintro e w' ⟨he, hb⟩
 refine ⟨_, he, fun a hf => ?_⟩
 have hO := hO.grow hb
 refine op_guard rfl hf rfl rfl (hc13) ?_
 refine op_val (ex_not hf rfl) rfl hf rfl rfl fun a hf => ?_
 refine op_guard rfl hf rfl rfl (hc10) ?_
 refine op_val (ex_pick_t hf rfl hc13 rfl) rfl hf rfl rfl fun a hf => ?_
 refine op_guard rfl hf rfl rfl (hc9) ?_
 refine op_val (ex_pick_f hf rfl hc10 rfl) rfl hf rfl rfl fun a hf => ?_
 refine op_val (ex_pick_t hf rfl hc9 rfl) rfl hf rfl rfl fun a hf => ?_
 refine wpList_nil ?_
 refine nor_then ?_
 exact ⟨!r15, (hf.cons rfl (hf.cons rfl (hf.cons rfl hf.nil))), hO, hm⟩
 have hm := ie hc13 hm
 refine op_pass rfl hf rfl rfl (hc13) rfl rfl fun a hf => ?_
 refine op_pass rfl hf rfl rfl (hc13) rfl rfl fun a hf => ?_
 refine op_pass rfl hf rfl rfl (hc13) rfl rfl fun a hf => ?_
 refine op_pass rfl hf rfl rfl (hc13) rfl rfl fun a hf => ?_
 refine op_pass rfl hf rfl rfl (hc13) rfl rfl fun a hf => ?_
 refine op_guard rfl hf rfl rfl (hc10) ?_
 refine op_val (ex_pick_f hf rfl hc13 rfl) rfl hf rfl rfl fun a hf => ?_
 refine op_guard rfl hf rfl rfl (hc9) ?_
 refine op_val (ex_pick_f hf rfl hc10 rfl) rfl hf rfl rfl fun a hf => ?_
 refine op_val (ex_pick_t hf rfl hc9 rfl) rfl hf rfl rfl fun a hf => ?_
 refine wpList_nil ?_
 refine nor_then ?_
 exact ⟨false, (hf.cons rfl (hf.cons rfl (hf.cons rfl hf.nil))), hO, hm⟩
 have hm := ie hc9 hm
 refine op_pass rfl hf rfl rfl (hc9) rfl rfl fun a hf => ?_
 refine op_pass rfl hf rfl rfl (hc9) rfl rfl fun a hf => ?_
 refine op_pass rfl hf rfl rfl (hc9) rfl rfl fun a hf => ?_
 refine op_passu rfl hf rfl rfl rfl rfl fun a hf => ?_
 refine op_passu rfl hf rfl rfl rfl rfl fun a hf => ?_
 refine op_passu rfl hf rfl rfl rfl rfl fun a hf => ?_
 refine op_passu rfl hf rfl rfl rfl rfl fun a hf => ?_
 refine op_passu rfl hf rfl rfl rfl rfl fun a hf => ?_
 refine op_passu rfl hf rfl rfl rfl rfl fun a hf => ?_
 refine op_passu rfl hf rfl rfl rfl rfl fun a hf => ?_
 refine op_passu rfl hf rfl rfl rfl rfl fun a hf => ?_
 refine op_passu rfl hf rfl rfl rfl rfl fun a hf => ?_
 refine op_passu rfl hf rfl rfl rfl rfl fun a hf => ?_
 refine op_passu rfl hf rfl rfl rfl rfl fun a hf => ?_
 refine op_passu rfl hf rfl rfl rfl rfl fun a hf => ?_
 refine op_pass rfl hf rfl rfl (hc9) rfl rfl fun a hf => ?_
 refine op_val (ex_pick_f hf rfl hc9 rfl) rfl hf rfl rfl fun a hf => ?_
 refine wpList_nil ?_
 refine nor_then ?_
 exact ⟨false, (hf.cons rfl (hf.cons rfl (hf.cons rfl hf.nil))), hO, hm⟩
 rintro a w ⟨t16, hf, hO, hm⟩
 rw [ref11_scheme_j2] at hm
 refine wp_cond_cut hf rfl (fun hc17 => ?_) (fun hc17 => ?_)
 have hm := it hc17 hm
 refine wp_seq_k fun _ hK18 => ?_
 refine wp_region_list ?_
 refine op_as hf rfl rfl fun a hf => ?_
 refine wpList_nil ?_
 refine nor_then (hK18 _ _ ?_)
 refine wp_ret ?_
 refine ret_block ?_
 refine ret_then ?_
 refine ret_then ?_
 refine ret_block ?_
 refine ret_then ?_
 obtain rfl := Option.some.inj hm
 exact post_ret Tryz.results116 hf (.tmp rfl .nil) ⟨rfl, hO.below⟩
 have hm := ie hc17 hm
 refine wp_skip ?_
 refine nor_block ?_
 refine nor_then (hK19 _ _ ?_)
 refine wp_region_list ?_
 refine op_mv hf rfl rfl fun a hf => ?_
 obtain ⟨i20, hi20, hm⟩ := ob hm
 refine op_val (ex_add hf rfl rfl hi20) rfl hf rfl rfl fun a hf => ?_
 refine op_as hf rfl rfl fun a hf => ?_
 refine wpList_nil ?_
 refine nor_then ?_
 exact ⟨_, Nat.lt_succ_self _, i20, (hf.cons rfl (hf.cons rfl hf.nil)), hO, hm⟩
 have hm := ie hc5 hm
 refine wp_exit ?_
 refine exit_then ?_
 refine exit_then ?_
 refine exit_here ?_
 refine nor_then (hK21 _ _ ?_)
 refine wp_seq_k fun _ hK22 => ?_
 refine wp_region_list ?_
 refine op_mv hf rfl rfl fun a hf => ?_
 refine op_val (ex_len_s (l := x_s) Tryz.underlying9 hf rfl) rfl hf rfl rfl fun a hf => ?_
 refine op_val (ex_gtr (m := (x_s.length : Int)) (n := 0) hf rfl rfl) rfl hf rfl rfl fun a hf => ?_
 refine op_as hf rfl rfl fun a hf => ?_
 refine wpList_nil ?_
 refine nor_then (hK22 _ _ ?_)
 refine wp_ret ?_
 obtain rfl := Option.some.inj hm
 exact post_ret Tryz.results116 hf (.tmp rfl .nil) ⟨rfl, hO.below⟩
 exact ⟨0, (hf.cons rfl (hf.cons rfl hf.nil)), hO, hm⟩

set_option maxHeartbeats 1000000 in
theorem w_ref01_Path (x_b : UInt8) (R : Bool) (w0 : World) (hG : Glob w0) (hm : ref01_Path x_b = some R) :
    Calls Tryz.prog 167 #[byte x_b] w0 fun e w' => e = .returned (.bool R) ∧ Below w0.heap.size w0 w' := by
 rw [ref01_Path] at hm
 refine calls_enter (vs := [byte x_b]) Tryz.func167 rfl Tryz.ntmps167 rfl fun a hf => ?_
 have hF : Away [] := away_nil
 have hO : Dk.Own w0 [] w0 [] := Dk.Own.refl w0
 refine wp_seq_k fun _ hK1 => ?_
 refine wp_region_list ?_
 refine op_as hf rfl rfl fun a hf => ?_
 refine wpList_nil ?_
 refine nor_then (hK1 _ _ ?_)
 refine wp_seq_cut (fun a w => ∃ (t7 : Bool), Fits 17 [(2, .bool t7)] a ∧ Dk.Own w0 [] w [] ∧ ref01_Path_j1 t7 = some R) ?_ ?_
 refine wp_region_list ?_
 refine op_mv hf rfl rfl fun a hf => ?_
 obtain ⟨r2, hr2, hm⟩ := ob hm
 refine op_enter (ex_call c_48 hf (vs := [byte x_b]) rfl) rfl hf rfl rfl (w_ref01_Unreserved x_b r2 _ (hG.own hF hO) hr2) ?_
 rintro e w' ⟨he, hb⟩
 refine ⟨_, he, fun a hf => ?_⟩
 have hO := hO.grow hb
 refine op_mv hf rfl rfl fun a hf => ?_
 rcases bcase (r2) with hc3 | hc3
 have hm := it hc3 hm
 refine op_pass rfl hf rfl rfl (hc3) rfl rfl fun a hf => ?_
 refine op_pass rfl hf rfl rfl (hc3) rfl rfl fun a hf => ?_
 refine op_val (ex_pick_t hf rfl hc3 rfl) rfl hf rfl rfl fun a hf => ?_
 refine op_mv hf rfl rfl fun a hf => ?_
 refine op_pass rfl hf rfl rfl (rfl) rfl rfl fun a hf => ?_
 refine op_pass rfl hf rfl rfl (rfl) rfl rfl fun a hf => ?_
 refine op_val (ex_pick_t hf rfl rfl rfl) rfl hf rfl rfl fun a hf => ?_
 refine op_mv hf rfl rfl fun a hf => ?_
 refine op_pass rfl hf rfl rfl (rfl) rfl rfl fun a hf => ?_
 refine op_pass rfl hf rfl rfl (rfl) rfl rfl fun a hf => ?_
 refine op_val (ex_pick_t hf rfl rfl rfl) rfl hf rfl rfl fun a hf => ?_
 refine op_as hf rfl rfl fun a hf => ?_
 refine wpList_nil ?_
 refine nor_then ?_
 exact ⟨true, (hf.cons rfl hf.nil), hO, hm⟩
 have hm := ie hc3 hm
 refine op_guard rfl hf rfl rfl (hc3) ?_
 refine op_mv hf rfl rfl fun a hf => ?_
 refine op_guard rfl hf rfl rfl (hc3) ?_
 obtain ⟨r4, hr4, hm⟩ := ob hm
 refine op_enter (ex_call c_49 hf (vs := [byte x_b]) rfl) rfl hf rfl rfl (w_ref01_Sub x_b r4 _ (hG.own hF hO) hr4) ?_
 rintro e w' ⟨he, hb⟩
 refine ⟨_, he, fun a hf => ?_⟩
 have hO := hO.grow hb
 refine op_val (ex_pick_f hf rfl hc3 rfl) rfl hf rfl rfl fun a hf => ?_
 refine op_mv hf rfl rfl fun a hf => ?_
 rcases bcase (r4) with hc5 | hc5
 have hm := it hc5 hm
 refine op_pass rfl hf rfl rfl (hc5) rfl rfl fun a hf => ?_
 refine op_pass rfl hf rfl rfl (hc5) rfl rfl fun a hf => ?_
 refine op_val (ex_pick_t hf rfl hc5 rfl) rfl hf rfl rfl fun a hf => ?_
 refine op_mv hf rfl rfl fun a hf => ?_
 refine op_pass rfl hf rfl rfl (rfl) rfl rfl fun a hf => ?_
 refine op_pass rfl hf rfl rfl (rfl) rfl rfl fun a hf => ?_
 refine op_val (ex_pick_t hf rfl rfl rfl) rfl hf rfl rfl fun a hf => ?_
 refine op_as hf rfl rfl fun a hf => ?_
 refine wpList_nil ?_
 refine nor_then ?_
 exact ⟨true, (hf.cons rfl hf.nil), hO, hm⟩
 have hm := ie hc5 hm
 refine op_guard rfl hf rfl rfl (hc5) ?_
 refine op_mv hf rfl rfl fun a hf => ?_
 refine op_guard rfl hf rfl rfl (hc5) ?_
 refine op_val (ex_eql_b (b := x_b) (c := 58) hf rfl rfl) rfl hf rfl rfl fun a hf => ?_
 refine op_val (ex_pick_f hf rfl hc5 rfl) rfl hf rfl rfl fun a hf => ?_
 refine op_mv hf rfl rfl fun a hf => ?_
 rcases bcase (x_b == 58) with hc6 | hc6
 have hm := it hc6 hm
 refine op_pass rfl hf rfl rfl (hc6) rfl rfl fun a hf => ?_
 refine op_pass rfl hf rfl rfl (hc6) rfl rfl fun a hf => ?_
 refine op_val (ex_pick_t hf rfl hc6 rfl) rfl hf rfl rfl fun a hf => ?_
 refine op_as hf rfl rfl fun a hf => ?_
 refine wpList_nil ?_
 refine nor_then ?_
 exact ⟨true, (hf.cons rfl hf.nil), hO, hm⟩
 have hm := ie hc6 hm
 refine op_guard rfl hf rfl rfl (hc6) ?_
 refine op_mv hf rfl rfl fun a hf => ?_
 refine op_guard rfl hf rfl rfl (hc6) ?_
 refine op_val (ex_eql_b (b := x_b) (c := 64) hf rfl rfl) rfl hf rfl rfl fun a hf => ?_
 refine op_val (ex_pick_f hf rfl hc6 rfl) rfl hf rfl rfl fun a hf => ?_
 refine op_as hf rfl rfl fun a hf => ?_
 refine wpList_nil ?_
 refine nor_then ?_
 exact ⟨x_b == 64, (hf.cons rfl hf.nil), hO, hm⟩
 rintro a w ⟨t7, hf, hO, hm⟩
 rw [ref01_Path_j1] at hm
 refine wp_ret ?_
 obtain rfl := Option.some.inj hm
 exact post_ret Tryz.results167 hf (.tmp rfl .nil) ⟨rfl, hO.below⟩

set_option maxHeartbeats 1000000 in
theorem w_ref09_Of_r (n0 : Nat) : ∀ (x_s : Str) (x_more : Str) (R : Bool) (w0 : World) (hG : Glob w0) (hm : ref09_Of_r n0 x_s x_more = some R),
    Calls Tryz.prog 149 #[str x_s, str x_more] w0 fun e w' => e = .returned (.bool R) ∧ Below w0.heap.size w0 w' := by
  induction n0 with
  | zero => intro x_s x_more R w0 hG  hm; rw [ref09_Of_r] at hm; cases hm
  | succ n0 ih =>
    intro x_s x_more R w0 hG  hm
    rw [ref09_Of_r] at hm
    refine calls_enter (vs := [str x_s, str x_more]) Tryz.func149 rfl Tryz.ntmps149 rfl fun a hf => ?_
    have hF : Away [] := away_nil
    have hO : Dk.Own w0 [] w0 [] := Dk.Own.refl w0
    refine wp_seq_k fun _ hK1 => ?_
    refine wp_region_list ?_
    refine op_val (ex_assign hf rfl) rfl hf rfl rfl fun a hf => ?_
    refine wpList_nil ?_
    refine nor_then (hK1 _ _ ?_)
    refine wp_seq_k fun _ hK5 => ?_
    refine wp_seq_k fun _ hK2 => ?_
    refine wp_region_list ?_
    refine op_val (ex_move hf rfl) rfl hf rfl rfl fun a hf => ?_
    refine op_val (ex_eql_s (l := x_s) (m := []) hf rfl rfl) rfl hf rfl rfl fun a hf => ?_
    refine wpList_nil ?_
    refine nor_then (hK2 _ _ ?_)
    refine wp_cond_cut hf rfl (fun hc3 => ?_) (fun hc3 => ?_)
    · have hm := it hc3 hm
      refine wp_seq_k fun _ hK4 => ?_
      refine wp_region_list ?_
      refine op_val (ex_assign hf rfl) rfl hf rfl rfl fun a hf => ?_
      refine wpList_nil ?_
      refine nor_then (hK4 _ _ ?_)
      refine wp_ret ?_
      refine ret_then ?_
      obtain rfl := Option.some.inj hm
      exact post_ret Tryz.results149 hf (.tmp rfl .nil) ⟨rfl, hO.below⟩
    · have hm := ie hc3 hm
      refine wp_skip ?_
      refine nor_then (hK5 _ _ ?_)
      refine wp_seq_k fun _ hK19 => ?_
      refine wp_seq_k fun _ hK7 => ?_
      refine wp_region_list ?_
      refine op_val (ex_move hf rfl) rfl hf rfl rfl fun a hf => ?_
      obtain ⟨b6, hb6, hm⟩ := ob hm
      refine op_val (ex_index (l := x_s) Tryz.underlying9 hf rfl rfl hb6) rfl hf rfl rfl fun a hf => ?_
      refine op_val (ex_eql_b (b := b6) (c := 37) hf rfl rfl) rfl hf rfl rfl fun a hf => ?_
      refine wpList_nil ?_
      refine nor_then (hK7 _ _ ?_)
      refine wp_cond_cut hf rfl (fun hc8 => ?_) (fun hc8 => ?_)
      · have hm := it hc8 hm
        refine wp_seq_cut (fun a w => ∃ (t18 : Bool), Fits 44 [(4, .bool t18)] a ∧ Dk.Own w0 [] w [] ∧ ref09_Of_j1 t18 = some R) ?_ ?_
        · refine wp_region_list ?_
          refine op_val (ex_move hf rfl) rfl hf rfl rfl fun a hf => ?_
          refine op_val (ex_len_s (l := x_s) Tryz.underlying9 hf rfl) rfl hf rfl rfl fun a hf => ?_
          refine op_val (ex_gtr (m := (x_s.length : Int)) (n := 2) hf rfl rfl) rfl hf rfl rfl fun a hf => ?_
          refine op_val (ex_move hf rfl) rfl hf rfl rfl fun a hf => ?_
          rcases bcase (decide (2 < (x_s.length : Int))) with hc9 | hc9
          · have hm := it hc9 hm
            refine op_guard rfl hf rfl rfl (hc9) ?_
            refine op_val (ex_move hf rfl) rfl hf rfl rfl fun a hf => ?_
            refine op_guard rfl hf rfl rfl (hc9) ?_
            obtain ⟨b10, hb10, hm⟩ := ob hm
            refine op_val (ex_index (l := x_s) Tryz.underlying9 hf rfl rfl hb10) rfl hf rfl rfl fun a hf => ?_
            refine op_guard rfl hf rfl rfl (hc9) ?_
            obtain ⟨r11, hr11, hm⟩ := ob hm
            refine op_enter (ex_call c_47 hf (vs := [byte b10]) rfl) rfl hf rfl rfl (w_ref01_Hex b10 r11 _ (hG.own hF hO) hr11) ?_
            rintro e w' ⟨he, hb⟩
            refine ⟨_, he, fun a hf => ?_⟩
            have hO := hO.grow hb
            refine op_val (ex_pick_t hf rfl hc9 rfl) rfl hf rfl rfl fun a hf => ?_
            refine op_val (ex_move hf rfl) rfl hf rfl rfl fun a hf => ?_
            rcases bcase (r11) with hc12 | hc12
            · have hm := it hc12 hm
              refine op_guard rfl hf rfl rfl (hc12) ?_
              refine op_val (ex_move hf rfl) rfl hf rfl rfl fun a hf => ?_
              refine op_guard rfl hf rfl rfl (hc12) ?_
              obtain ⟨b13, hb13, hm⟩ := ob hm
              refine op_val (ex_index (l := x_s) Tryz.underlying9 hf rfl rfl hb13) rfl hf rfl rfl fun a hf => ?_
              refine op_guard rfl hf rfl rfl (hc12) ?_
              obtain ⟨r14, hr14, hm⟩ := ob hm
              refine op_enter (ex_call c_47 hf (vs := [byte b13]) rfl) rfl hf rfl rfl (w_ref01_Hex b13 r14 _ (hG.own hF hO) hr14) ?_
              rintro e w' ⟨he, hb⟩
              refine ⟨_, he, fun a hf => ?_⟩
              have hO := hO.grow hb
              refine op_val (ex_pick_t hf rfl hc12 rfl) rfl hf rfl rfl fun a hf => ?_
              refine op_val (ex_move hf rfl) rfl hf rfl rfl fun a hf => ?_
              rcases bcase (r14) with hc15 | hc15
              · have hm := it hc15 hm
                refine op_guard rfl hf rfl rfl (hc15) ?_
                refine op_val (ex_move hf rfl) rfl hf rfl rfl fun a hf => ?_
                refine op_guard rfl hf rfl rfl (hc15) ?_
                obtain ⟨s16, hs16, hm⟩ := ob hm
                refine op_val (ex_from_s (l := x_s) Tryz.underlying9 hf rfl rfl hs16) rfl hf rfl rfl fun a hf => ?_
                refine op_guard rfl hf rfl rfl (hc15) ?_
                refine op_val (ex_move hf rfl) rfl hf rfl rfl fun a hf => ?_
                refine op_guard rfl hf rfl rfl (hc15) ?_
                obtain ⟨r17, hr17, hm⟩ := ob hm
                refine op_enter (ex_call c_149 hf (vs := [str s16, str x_more]) rfl) rfl hf rfl rfl (ih s16 x_more r17 _ (hG.own hF hO) hr17) ?_
                rintro e w' ⟨he, hb⟩
                refine ⟨_, he, fun a hf => ?_⟩
                have hO := hO.grow hb
                refine op_val (ex_pick_t hf rfl hc15 rfl) rfl hf rfl rfl fun a hf => ?_
                refine op_val (ex_assign hf rfl) rfl hf rfl rfl fun a hf => ?_
                refine wpList_nil ?_
                refine nor_then ?_
                exact ⟨r17, (hf.cons rfl hf.nil), hO, hm⟩
              · have hm := ie hc15 hm
                refine op_pass rfl hf rfl rfl (hc15) rfl rfl fun a hf => ?_
                refine op_pass rfl hf rfl rfl (hc15) rfl rfl fun a hf => ?_
                refine op_pass rfl hf rfl rfl (hc15) rfl rfl fun a hf => ?_
                refine op_pass rfl hf rfl rfl (hc15) rfl rfl fun a hf => ?_
                refine op_val (ex_pick_f hf rfl hc15 rfl) rfl hf rfl rfl fun a hf => ?_
                refine op_val (ex_assign hf rfl) rfl hf rfl rfl fun a hf => ?_
                refine wpList_nil ?_
                refine nor_then ?_
                exact ⟨false, (hf.cons rfl hf.nil), hO, hm⟩
            · have hm := ie hc12 hm
              refine op_pass rfl hf rfl rfl (hc12) rfl rfl fun a hf => ?_
              refine op_pass rfl hf rfl rfl (hc12) rfl rfl fun a hf => ?_
              refine op_pass rfl hf rfl rfl (hc12) rfl rfl fun a hf => ?_
              refine op_val (ex_pick_f hf rfl hc12 rfl) rfl hf rfl rfl fun a hf => ?_
              refine op_val (ex_move hf rfl) rfl hf rfl rfl fun a hf => ?_
              refine op_pass rfl hf rfl rfl (rfl) rfl rfl fun a hf => ?_
              refine op_pass rfl hf rfl rfl (rfl) rfl rfl fun a hf => ?_
              refine op_pass rfl hf rfl rfl (rfl) rfl rfl fun a hf => ?_
              refine op_pass rfl hf rfl rfl (rfl) rfl rfl fun a hf => ?_
              refine op_val (ex_pick_f hf rfl rfl rfl) rfl hf rfl rfl fun a hf => ?_
              refine op_val (ex_assign hf rfl) rfl hf rfl rfl fun a hf => ?_
              refine wpList_nil ?_
              refine nor_then ?_
              exact ⟨false, (hf.cons rfl hf.nil), hO, hm⟩
          · have hm := ie hc9 hm
            refine op_pass rfl hf rfl rfl (hc9) rfl rfl fun a hf => ?_
            refine op_pass rfl hf rfl rfl (hc9) rfl rfl fun a hf => ?_
            refine op_pass rfl hf rfl rfl (hc9) rfl rfl fun a hf => ?_
            refine op_val (ex_pick_f hf rfl hc9 rfl) rfl hf rfl rfl fun a hf => ?_
            refine op_val (ex_move hf rfl) rfl hf rfl rfl fun a hf => ?_
            refine op_pass rfl hf rfl rfl (rfl) rfl rfl fun a hf => ?_
            refine op_pass rfl hf rfl rfl (rfl) rfl rfl fun a hf => ?_
            refine op_pass rfl hf rfl rfl (rfl) rfl rfl fun a hf => ?_
            refine op_val (ex_pick_f hf rfl rfl rfl) rfl hf rfl rfl fun a hf => ?_
            refine op_val (ex_move hf rfl) rfl hf rfl rfl fun a hf => ?_
            refine op_pass rfl hf rfl rfl (rfl) rfl rfl fun a hf => ?_
            refine op_pass rfl hf rfl rfl (rfl) rfl rfl fun a hf => ?_
            refine op_pass rfl hf rfl rfl (rfl) rfl rfl fun a hf => ?_
            refine op_pass rfl hf rfl rfl (rfl) rfl rfl fun a hf => ?_
            refine op_val (ex_pick_f hf rfl rfl rfl) rfl hf rfl rfl fun a hf => ?_
            refine op_val (ex_assign hf rfl) rfl hf rfl rfl fun a hf => ?_
            refine wpList_nil ?_
            refine nor_then ?_
            exact ⟨false, (hf.cons rfl hf.nil), hO, hm⟩
        · rintro a w ⟨t18, hf, hO, hm⟩
          rw [ref09_Of_j1] at hm
          refine wp_ret ?_
          refine ret_then ?_
          obtain rfl := Option.some.inj hm
          exact post_ret Tryz.results149 hf (.tmp rfl .nil) ⟨rfl, hO.below⟩
      · have hm := ie hc8 hm
        refine wp_skip ?_
        refine nor_then (hK19 _ _ ?_)
        refine wp_seq_cut (fun a w => ∃ (t30 : Bool), Fits 44 [(4, .bool t30)] a ∧ Dk.Own w0 [] w [] ∧ ref09_Of_j2 t30 = some R) ?_ ?_
        · refine wp_region_list ?_
          refine op_val (ex_move hf rfl) rfl hf rfl rfl fun a hf => ?_
          obtain ⟨b20, hb20, hm⟩ := ob hm
          refine op_val (ex_index (l := x_s) Tryz.underlying9 hf rfl rfl hb20) rfl hf rfl rfl fun a hf => ?_
          obtain ⟨r21, hr21, hm⟩ := ob hm
          refine op_enter (ex_call c_167 hf (vs := [byte b20]) rfl) rfl hf rfl rfl (w_ref01_Path b20 r21 _ (hG.own hF hO) hr21) ?_
          rintro e w' ⟨he, hb⟩
          refine ⟨_, he, fun a hf => ?_⟩
          have hO := hO.grow hb
          refine op_val (ex_move hf rfl) rfl hf rfl rfl fun a hf => ?_
          rcases bcase (r21) with hc22 | hc22
          · have hm := it hc22 hm
            refine op_pass rfl hf rfl rfl (hc22) rfl rfl fun a hf => ?_
            refine op_pass rfl hf rfl rfl (hc22) rfl rfl fun a hf => ?_
            refine op_pass rfl hf rfl rfl (hc22) rfl rfl fun a hf => ?_
            refine op_pass rfl hf rfl rfl (hc22) rfl rfl fun a hf => ?_
            refine op_val (ex_pick_t hf rfl hc22 rfl) rfl hf rfl rfl fun a hf => ?_
            refine op_val (ex_move hf rfl) rfl hf rfl rfl fun a hf => ?_
            refine op_guard rfl hf rfl rfl (rfl) ?_
            refine op_val (ex_move hf rfl) rfl hf rfl rfl fun a hf => ?_
            refine op_guard rfl hf rfl rfl (rfl) ?_
            obtain ⟨s23, hs23, hm⟩ := ob hm
            refine op_val (ex_from_s (l := x_s) Tryz.underlying9 hf rfl rfl hs23) rfl hf rfl rfl fun a hf => ?_
            refine op_guard rfl hf rfl rfl (rfl) ?_
            refine op_val (ex_move hf rfl) rfl hf rfl rfl fun a hf => ?_
            refine op_guard rfl hf rfl rfl (rfl) ?_
            obtain ⟨r24, hr24, hm⟩ := ob hm
            refine op_enter (ex_call c_149 hf (vs := [str s23, str x_more]) rfl) rfl hf rfl rfl (ih s23 x_more r24 _ (hG.own hF hO) hr24) ?_
            rintro e w' ⟨he, hb⟩
            refine ⟨_, he, fun a hf => ?_⟩
            have hO := hO.grow hb
            refine op_val (ex_pick_t hf rfl rfl rfl) rfl hf rfl rfl fun a hf => ?_
            refine op_val (ex_assign hf rfl) rfl hf rfl rfl fun a hf => ?_
            refine wpList_nil ?_
            refine nor_then ?_
            exact ⟨r24, (hf.cons rfl hf.nil), hO, hm⟩
          · have hm := ie hc22 hm
            refine op_guard rfl hf rfl rfl (hc22) ?_
            refine op_val (ex_move hf rfl) rfl hf rfl rfl fun a hf => ?_
            refine op_guard rfl hf rfl rfl (hc22) ?_
            obtain ⟨b25, hb25, hm⟩ := ob hm
            refine op_val (ex_index (l := x_s) Tryz.underlying9 hf rfl rfl hb25) rfl hf rfl rfl fun a hf => ?_
            refine op_guard rfl hf rfl rfl (hc22) ?_
            refine op_val (ex_move hf rfl) rfl hf rfl rfl fun a hf => ?_
            refine op_guard rfl hf rfl rfl (hc22) ?_
            obtain ⟨r26, hr26, hm⟩ := ob hm
            refine op_enter (ex_call c_89 hf (vs := [byte b25, str x_more]) rfl) rfl hf rfl rfl (w_ref01_In b25 x_more r26 _ (hG.own hF hO) hr26) ?_
            rintro e w' ⟨he, hb⟩
            refine ⟨_, he, fun a hf => ?_⟩
            have hO := hO.grow hb
            refine op_val (ex_pick_f hf rfl hc22 rfl) rfl hf rfl rfl fun a hf => ?_
            refine op_val (ex_move hf rfl) rfl hf rfl rfl fun a hf => ?_
            rcases bcase (r26) with hc27 | hc27
            · have hm := it hc27 hm
              refine op_guard rfl hf rfl rfl (hc27) ?_
              refine op_val (ex_move hf rfl) rfl hf rfl rfl fun a hf => ?_
              refine op_guard rfl hf rfl rfl (hc27) ?_
              obtain ⟨s28, hs28, hm⟩ := ob hm
              refine op_val (ex_from_s (l := x_s) Tryz.underlying9 hf rfl rfl hs28) rfl hf rfl rfl fun a hf => ?_
              refine op_guard rfl hf rfl rfl (hc27) ?_
              refine op_val (ex_move hf rfl) rfl hf rfl rfl fun a hf => ?_
              refine op_guard rfl hf rfl rfl (hc27) ?_
              obtain ⟨r29, hr29, hm⟩ := ob hm
              refine op_enter (ex_call c_149 hf (vs := [str s28, str x_more]) rfl) rfl hf rfl rfl (ih s28 x_more r29 _ (hG.own hF hO) hr29) ?_
              rintro e w' ⟨he, hb⟩
              refine ⟨_, he, fun a hf => ?_⟩
              have hO := hO.grow hb
              refine op_val (ex_pick_t hf rfl hc27 rfl) rfl hf rfl rfl fun a hf => ?_
              refine op_val (ex_assign hf rfl) rfl hf rfl rfl fun a hf => ?_
              refine wpList_nil ?_
              refine nor_then ?_
              exact ⟨r29, (hf.cons rfl hf.nil), hO, hm⟩
            · have hm := ie hc27 hm
              refine op_pass rfl hf rfl rfl (hc27) rfl rfl fun a hf => ?_
              refine op_pass rfl hf rfl rfl (hc27) rfl rfl fun a hf => ?_
              refine op_pass rfl hf rfl rfl (hc27) rfl rfl fun a hf => ?_
              refine op_pass rfl hf rfl rfl (hc27) rfl rfl fun a hf => ?_
              refine op_val (ex_pick_f hf rfl hc27 rfl) rfl hf rfl rfl fun a hf => ?_
              refine op_val (ex_assign hf rfl) rfl hf rfl rfl fun a hf => ?_
              refine wpList_nil ?_
              refine nor_then ?_
              exact ⟨false, (hf.cons rfl hf.nil), hO, hm⟩
        · rintro a w ⟨t30, hf, hO, hm⟩
          rw [ref09_Of_j2] at hm
          refine wp_ret ?_
          obtain rfl := Option.some.inj hm
          exact post_ret Tryz.results149 hf (.tmp rfl .nil) ⟨rfl, hO.below⟩
theorem w_ref09_Of (x_s : Str) (x_more : Str) (R : Bool) (w0 : World) (hG : Glob w0) (hm : ref09_Of x_s x_more = some R) :
    Calls Tryz.prog 149 #[str x_s, str x_more] w0 fun e w' => e = .returned (.bool R) ∧ Below w0.heap.size w0 w' :=
  w_ref09_Of_r fuel x_s x_more R w0 hG  hm

set_option maxHeartbeats 1000000 in
theorem w_ref11_right (x_a0 : api_Ref) (R : Bool) (w0 : World) (hG : Glob w0) (hm : ref11_right x_a0 = some R) :
    Calls Tryz.prog 117 #[.agg #[str x_a0.Scheme, str x_a0.Auth, str x_a0.Path, str x_a0.Query, str x_a0.Frag, .bool x_a0.HasAuth, .bool x_a0.HasQuery, .bool x_a0.HasFrag]] w0 fun e w' => e = .returned (.bool R) ∧ Below w0.heap.size w0 w' := by
 rw [ref11_right] at hm
 refine calls_enter (vs := [.agg #[str x_a0.Scheme, str x_a0.Auth, str x_a0.Path, str x_a0.Query, str x_a0.Frag, .bool x_a0.HasAuth, .bool x_a0.HasQuery, .bool x_a0.HasFrag]]) Tryz.func117 rfl Tryz.ntmps117 rfl fun a hf => ?_
 have hF : Away [] := away_nil
 have hO : Dk.Own w0 [] w0 [] := Dk.Own.refl w0
 refine wp_seq_k fun _ hK2 => ?_
 refine wp_region_list ?_
 refine op_box (v := .agg #[str x_a0.Scheme, str x_a0.Auth, str x_a0.Path, str x_a0.Query, str x_a0.Frag, .bool x_a0.HasAuth, .bool x_a0.HasQuery, .bool x_a0.HasFrag]) (cs := [str x_a0.Scheme, str x_a0.Auth, str x_a0.Path, str x_a0.Query, str x_a0.Frag, .bool x_a0.HasAuth, .bool x_a0.HasQuery, .bool x_a0.HasFrag]) rfl hf rfl rfl hO fun a b1 w hf hO => ?_
 refine op_as hf rfl rfl fun a hf => ?_
 refine wpList_nil ?_
 refine nor_then (hK2 _ _ ?_)
 refine wp_seq_k fun _ hK15 => ?_
 refine wp_seq_cut (fun a w => ∃ (t12 : Bool), Fits 76 [(1, ptr b1 0), (34, .bool t12)] a ∧ Dk.Own w0 [] w [.blk b1 [str x_a0.Scheme, str x_a0.Auth, str x_a0.Path, str x_a0.Query, str x_a0.Frag, .bool x_a0.HasAuth, .bool x_a0.HasQuery, .bool x_a0.HasFrag] 90] ∧ ref11_right_j1 x_a0 t12 = some R) ?_ ?_
 refine wp_quiet (by kernel_rfl) (by kernel_rfl) hO ?_
 refine q_val (fun w hO => ex_field fa_90_1 hf rfl) rfl hf rfl rfl fun a hf => ?_
 refine q_val (fun w hO => ex_load1 (o := 1) ag_9 (hO.blkSees (i := 0) rfl) rfl hf rfl) rfl hf rfl rfl fun a hf => ?_
 obtain ⟨r3, hr3, hm⟩ := ob hm
 refine q_call (fun w hO => ex_call c_149 hf (vs := [str x_a0.Auth, str [91, 93]]) rfl) rfl hf rfl rfl (fun w hO => (w_ref09_Of x_a0.Auth [91, 93] r3 _ (hG.own hF hO) hr3).mono fun e w' ⟨he, hb⟩ => ⟨he, hO.grow hb⟩) fun a hf => ?_
 refine q_val (fun w hO => ex_not hf rfl) rfl hf rfl rfl fun a hf => ?_
 refine q_val (fun w hO => ex_move hf rfl) rfl hf rfl rfl fun a hf => ?_
 rcases bcase (!r3) with hc4 | hc4
 have hm := it hc4 hm
 refine q_pass rfl hf rfl rfl (hc4) rfl rfl fun a hf => ?_
 refine q_pass rfl hf rfl rfl (hc4) rfl rfl fun a hf => ?_
 refine q_pass rfl hf rfl rfl (hc4) rfl rfl fun a hf => ?_
 refine q_pass rfl hf rfl rfl (hc4) rfl rfl fun a hf => ?_
 refine q_pass rfl hf rfl rfl (hc4) rfl rfl fun a hf => ?_
 refine q_pass rfl hf rfl rfl (hc4) rfl rfl fun a hf => ?_
 refine q_pass rfl hf rfl rfl (hc4) rfl rfl fun a hf => ?_
 refine q_val (fun w hO => ex_pick_t hf rfl hc4 rfl) rfl hf rfl rfl fun a hf => ?_
 refine q_val (fun w hO => ex_move hf rfl) rfl hf rfl rfl fun a hf => ?_
 refine q_pass rfl hf rfl rfl (rfl) rfl rfl fun a hf => ?_
 refine q_pass rfl hf rfl rfl (rfl) rfl rfl fun a hf => ?_
 refine q_pass rfl hf rfl rfl (rfl) rfl rfl fun a hf => ?_
 refine q_pass rfl hf rfl rfl (rfl) rfl rfl fun a hf => ?_
 refine q_val (fun w hO => ex_pick_t hf rfl rfl rfl) rfl hf rfl rfl fun a hf => ?_
 refine q_val (fun w hO => ex_move hf rfl) rfl hf rfl rfl fun a hf => ?_
 refine q_pass rfl hf rfl rfl (rfl) rfl rfl fun a hf => ?_
 refine q_pass rfl hf rfl rfl (rfl) rfl rfl fun a hf => ?_
 refine q_pass rfl hf rfl rfl (rfl) rfl rfl fun a hf => ?_
 refine q_pass rfl hf rfl rfl (rfl) rfl rfl fun a hf => ?_
 refine q_val (fun w hO => ex_pick_t hf rfl rfl rfl) rfl hf rfl rfl fun a hf => ?_
 refine q_val (fun w hO => ex_move hf rfl) rfl hf rfl rfl fun a hf => ?_
 refine q_pass rfl hf rfl rfl (rfl) rfl rfl fun a hf => ?_
 refine q_pass rfl hf rfl rfl (rfl) rfl rfl fun a hf => ?_
 refine q_pass rfl hf rfl rfl (rfl) rfl rfl fun a hf => ?_
 refine q_pass rfl hf rfl rfl (rfl) rfl rfl fun a hf => ?_
 refine q_val (fun w hO => ex_pick_t hf rfl rfl rfl) rfl hf rfl rfl fun a hf => ?_
 refine wpQuiet_nil ?_
 intro w hO
 refine nor_then ?_
 exact ⟨true, (hf.cons rfl (hf.cons rfl hf.nil)), hO, hm⟩
 have hm := ie hc4 hm
 refine q_guard rfl hf rfl rfl (hc4) ?_
 refine q_val (fun w hO => ex_field fa_90_1 hf rfl) rfl hf rfl rfl fun a hf => ?_
 refine q_guard rfl hf rfl rfl (hc4) ?_
 refine q_val (fun w hO => ex_load1 (o := 1) ag_9 (hO.blkSees (i := 0) rfl) rfl hf rfl) rfl hf rfl rfl fun a hf => ?_
 refine q_guard rfl hf rfl rfl (hc4) ?_
 obtain ⟨r5, hr5, hm⟩ := ob hm
 refine q_call (fun w hO => ex_call c_115 hf (vs := [str x_a0.Auth, str [64]]) rfl) rfl hf rfl rfl (fun w hO => (w_ref11_first x_a0.Auth [64] r5 _ (hG.own hF hO) hr5).mono fun e w' ⟨he, hb⟩ => ⟨he, hO.grow hb⟩) fun a hf => ?_
 refine q_guard rfl hf rfl rfl (hc4) ?_
 refine q_val (fun w hO => ex_field fa_90_1 hf rfl) rfl hf rfl rfl fun a hf => ?_
 refine q_guard rfl hf rfl rfl (hc4) ?_
 refine q_val (fun w hO => ex_load1 (o := 1) ag_9 (hO.blkSees (i := 0) rfl) rfl hf rfl) rfl hf rfl rfl fun a hf => ?_
 refine q_guard rfl hf rfl rfl (hc4) ?_
 refine q_val (fun w hO => ex_len_s (l := x_a0.Auth) Tryz.underlying9 hf rfl) rfl hf rfl rfl fun a hf => ?_
 refine q_guard rfl hf rfl rfl (hc4) ?_
 refine q_val (fun w hO => ex_lss (m := r5) (n := (x_a0.Auth.length : Int)) hf rfl rfl) rfl hf rfl rfl fun a hf => ?_
 refine q_val (fun w hO => ex_pick_f hf rfl hc4 rfl) rfl hf rfl rfl fun a hf => ?_
 refine q_val (fun w hO => ex_move hf rfl) rfl hf rfl rfl fun a hf => ?_
 rcases bcase (decide (r5 < (x_a0.Auth.length : Int))) with hc6 | hc6
 have hm := it hc6 hm
 refine q_pass rfl hf rfl rfl (hc6) rfl rfl fun a hf => ?_
 refine q_pass rfl hf rfl rfl (hc6) rfl rfl fun a hf => ?_
 refine q_pass rfl hf rfl rfl (hc6) rfl rfl fun a hf => ?_
 refine q_pass rfl hf rfl rfl (hc6) rfl rfl fun a hf => ?_
 refine q_val (fun w hO => ex_pick_t hf rfl hc6 rfl) rfl hf rfl rfl fun a hf => ?_
 refine q_val (fun w hO => ex_move hf rfl) rfl hf rfl rfl fun a hf => ?_
 refine q_pass rfl hf rfl rfl (rfl) rfl rfl fun a hf => ?_
 refine q_pass rfl hf rfl rfl (rfl) rfl rfl fun a hf => ?_
 refine q_pass rfl hf rfl rfl (rfl) rfl rfl fun a hf => ?_
 refine q_pass rfl hf rfl rfl (rfl) rfl rfl fun a hf => ?_
 refine q_val (fun w hO => ex_pick_t hf rfl rfl rfl) rfl hf rfl rfl fun a hf => ?_
 refine q_val (fun w hO => ex_move hf rfl) rfl hf rfl rfl fun a hf => ?_
 refine q_pass rfl hf rfl rfl (rfl) rfl rfl fun a hf => ?_
 refine q_pass rfl hf rfl rfl (rfl) rfl rfl fun a hf => ?_
 refine q_pass rfl hf rfl rfl (rfl) rfl rfl fun a hf => ?_
 refine q_pass rfl hf rfl rfl (rfl) rfl rfl fun a hf => ?_
 refine q_val (fun w hO => ex_pick_t hf rfl rfl rfl) rfl hf rfl rfl fun a hf => ?_
 refine wpQuiet_nil ?_
 intro w hO
 refine nor_then ?_
 exact ⟨true, (hf.cons rfl (hf.cons rfl hf.nil)), hO, hm⟩
 have hm := ie hc6 hm
 refine q_guard rfl hf rfl rfl (hc6) ?_
 refine q_val (fun w hO => ex_field fa_90_2 hf rfl) rfl hf rfl rfl fun a hf => ?_
 refine q_guard rfl hf rfl rfl (hc6) ?_
 refine q_val (fun w hO => ex_load1 (o := 2) ag_9 (hO.blkSees (i := 0) rfl) rfl hf rfl) rfl hf rfl rfl fun a hf => ?_
 refine q_guard rfl hf rfl rfl (hc6) ?_
 obtain ⟨r7, hr7, hm⟩ := ob hm
 refine q_call (fun w hO => ex_call c_149 hf (vs := [str x_a0.Path, str [47]]) rfl) rfl hf rfl rfl (fun w hO => (w_ref09_Of x_a0.Path [47] r7 _ (hG.own hF hO) hr7).mono fun e w' ⟨he, hb⟩ => ⟨he, hO.grow hb⟩) fun a hf => ?_
 refine q_guard rfl hf rfl rfl (hc6) ?_
 refine q_val (fun w hO => ex_not hf rfl) rfl hf rfl rfl fun a hf => ?_
 refine q_val (fun w hO => ex_pick_f hf rfl hc6 rfl) rfl hf rfl rfl fun a hf => ?_
 refine q_val (fun w hO => ex_move hf rfl) rfl hf rfl rfl fun a hf => ?_
 rcases bcase (!r7) with hc8 | hc8
 have hm := it hc8 hm
 refine q_pass rfl hf rfl rfl (hc8) rfl rfl fun a hf => ?_
 refine q_pass rfl hf rfl rfl (hc8) rfl rfl fun a hf => ?_
 refine q_pass rfl hf rfl rfl (hc8) rfl rfl fun a hf => ?_
 refine q_pass rfl hf rfl rfl (hc8) rfl rfl fun a hf => ?_
 refine q_val (fun w hO => ex_pick_t hf rfl hc8 rfl) rfl hf rfl rfl fun a hf => ?_
 refine q_val (fun w hO => ex_move hf rfl) rfl hf rfl rfl fun a hf => ?_
 refine q_pass rfl hf rfl rfl (rfl) rfl rfl fun a hf => ?_
 refine q_pass rfl hf rfl rfl (rfl) rfl rfl fun a hf => ?_
 refine q_pass rfl hf rfl rfl (rfl) rfl rfl fun a hf => ?_
 refine q_pass rfl hf rfl rfl (rfl) rfl rfl fun a hf => ?_
 refine q_val (fun w hO => ex_pick_t hf rfl rfl rfl) rfl hf rfl rfl fun a hf => ?_
 refine wpQuiet_nil ?_
 intro w hO
 refine nor_then ?_
 exact ⟨true, (hf.cons rfl (hf.cons rfl hf.nil)), hO, hm⟩
 have hm := ie hc8 hm
 refine q_guard rfl hf rfl rfl (hc8) ?_
 refine q_val (fun w hO => ex_field fa_90_3 hf rfl) rfl hf rfl rfl fun a hf => ?_
 refine q_guard rfl hf rfl rfl (hc8) ?_
 refine q_val (fun w hO => ex_load1 (o := 3) ag_9 (hO.blkSees (i := 0) rfl) rfl hf rfl) rfl hf rfl rfl fun a hf => ?_
 refine q_guard rfl hf rfl rfl (hc8) ?_
 obtain ⟨r9, hr9, hm⟩ := ob hm
 refine q_call (fun w hO => ex_call c_149 hf (vs := [str x_a0.Query, str [47, 63]]) rfl) rfl hf rfl rfl (fun w hO => (w_ref09_Of x_a0.Query [47, 63] r9 _ (hG.own hF hO) hr9).mono fun e w' ⟨he, hb⟩ => ⟨he, hO.grow hb⟩) fun a hf => ?_
 refine q_guard rfl hf rfl rfl (hc8) ?_
 refine q_val (fun w hO => ex_not hf rfl) rfl hf rfl rfl fun a hf => ?_
 refine q_val (fun w hO => ex_pick_f hf rfl hc8 rfl) rfl hf rfl rfl fun a hf => ?_
 refine q_val (fun w hO => ex_move hf rfl) rfl hf rfl rfl fun a hf => ?_
 rcases bcase (!r9) with hc10 | hc10
 have hm := it hc10 hm
 refine q_pass rfl hf rfl rfl (hc10) rfl rfl fun a hf => ?_
 refine q_pass rfl hf rfl rfl (hc10) rfl rfl fun a hf => ?_
 refine q_pass rfl hf rfl rfl (hc10) rfl rfl fun a hf => ?_
 refine q_pass rfl hf rfl rfl (hc10) rfl rfl fun a hf => ?_
 refine q_val (fun w hO => ex_pick_t hf rfl hc10 rfl) rfl hf rfl rfl fun a hf => ?_
 refine wpQuiet_nil ?_
 intro w hO
 refine nor_then ?_
 exact ⟨true, (hf.cons rfl (hf.cons rfl hf.nil)), hO, hm⟩
 have hm := ie hc10 hm
 refine q_guard rfl hf rfl rfl (hc10) ?_
 refine q_val (fun w hO => ex_field fa_90_4 hf rfl) rfl hf rfl rfl fun a hf => ?_
 refine q_guard rfl hf rfl rfl (hc10) ?_
 refine q_val (fun w hO => ex_load1 (o := 4) ag_9 (hO.blkSees (i := 0) rfl) rfl hf rfl) rfl hf rfl rfl fun a hf => ?_
 refine q_guard rfl hf rfl rfl (hc10) ?_
 obtain ⟨r11, hr11, hm⟩ := ob hm
 refine q_call (fun w hO => ex_call c_149 hf (vs := [str x_a0.Frag, str [47, 63]]) rfl) rfl hf rfl rfl (fun w hO => (w_ref09_Of x_a0.Frag [47, 63] r11 _ (hG.own hF hO) hr11).mono fun e w' ⟨he, hb⟩ => ⟨he, hO.grow hb⟩) fun a hf => ?_
 refine q_guard rfl hf rfl rfl (hc10) ?_
 refine q_val (fun w hO => ex_not hf rfl) rfl hf rfl rfl fun a hf => ?_
 refine q_val (fun w hO => ex_pick_f hf rfl hc10 rfl) rfl hf rfl rfl fun a hf => ?_
 refine wpQuiet_nil ?_
 intro w hO
 refine nor_then ?_
 exact ⟨!r11, (hf.cons rfl (hf.cons rfl hf.nil)), hO, hm⟩
 rintro a w ⟨t12, hf, hO, hm⟩
 rw [ref11_right_j1] at hm
 refine wp_cond_cut hf rfl (fun hc13 => ?_) (fun hc13 => ?_)
 have hm := it hc13 hm
 refine wp_seq_k fun _ hK14 => ?_
 refine wp_region_list ?_
 refine op_as hf rfl rfl fun a hf => ?_
 refine wpList_nil ?_
 refine nor_then (hK14 _ _ ?_)
 refine wp_ret ?_
 refine ret_then ?_
 obtain rfl := Option.some.inj hm
 exact post_ret Tryz.results117 hf (.tmp rfl .nil) ⟨rfl, hO.below⟩
 have hm := ie hc13 hm
 refine wp_skip ?_
 refine nor_then (hK15 _ _ ?_)
 refine wp_seq_k fun _ hK21 => ?_
 refine wp_seq_k fun _ hK16 => ?_
 refine wp_region_list ?_
 refine op_val (ex_field fa_90_5 hf rfl) rfl hf rfl rfl fun a hf => ?_
 refine op_val (ex_load1 (o := 5) ag_4 (hO.blkSees (i := 0) rfl) rfl hf rfl) rfl hf rfl rfl fun a hf => ?_
 refine wpList_nil ?_
 refine nor_then (hK16 _ _ ?_)
 refine wp_cond_cut hf rfl (fun hc17 => ?_) (fun hc17 => ?_)
 have hm := it hc17 hm
 refine wp_seq_cut (fun a w => ∃ (t20 : Bool), Fits 76 [(2, .bool t20)] a ∧ Dk.Own w0 [] w [.blk b1 [str x_a0.Scheme, str x_a0.Auth, str x_a0.Path, str x_a0.Query, str x_a0.Frag, .bool x_a0.HasAuth, .bool x_a0.HasQuery, .bool x_a0.HasFrag] 90] ∧ ref11_right_j2 t20 = some R) ?_ ?_
 refine wp_region_list ?_
 refine op_val (ex_field fa_90_2 hf rfl) rfl hf rfl rfl fun a hf => ?_
 refine op_val (ex_load1 (o := 2) ag_9 (hO.blkSees (i := 0) rfl) rfl hf rfl) rfl hf rfl rfl fun a hf => ?_
 refine op_val (ex_eql_s (l := x_a0.Path) (m := []) hf rfl rfl) rfl hf rfl rfl fun a hf => ?_
 refine op_mv hf rfl rfl fun a hf => ?_
 rcases bcase (x_a0.Path == []) with hc18 | hc18
 have hm := it hc18 hm
 refine op_pass rfl hf rfl rfl (hc18) rfl rfl fun a hf => ?_
 refine op_pass rfl hf rfl rfl (hc18) rfl rfl fun a hf => ?_
 refine op_pass rfl hf rfl rfl (hc18) rfl rfl fun a hf => ?_
 refine op_pass rfl hf rfl rfl (hc18) rfl rfl fun a hf => ?_
 refine op_val (ex_pick_t hf rfl hc18 rfl) rfl hf rfl rfl fun a hf => ?_
 refine op_as hf rfl rfl fun a hf => ?_
 refine wpList_nil ?_
 refine nor_then ?_
 exact ⟨true, (hf.cons rfl hf.nil), hO, hm⟩
 have hm := ie hc18 hm
 refine op_guard rfl hf rfl rfl (hc18) ?_
 refine op_val (ex_field fa_90_2 hf rfl) rfl hf rfl rfl fun a hf => ?_
 refine op_guard rfl hf rfl rfl (hc18) ?_
 refine op_val (ex_load1 (o := 2) ag_9 (hO.blkSees (i := 0) rfl) rfl hf rfl) rfl hf rfl rfl fun a hf => ?_
 refine op_guard rfl hf rfl rfl (hc18) ?_
 obtain ⟨b19, hb19, hm⟩ := ob hm
 refine op_val (ex_index (l := x_a0.Path) Tryz.underlying9 hf rfl rfl hb19) rfl hf rfl rfl fun a hf => ?_
 refine op_guard rfl hf rfl rfl (hc18) ?_
 refine op_val (ex_eql_b (b := b19) (c := 47) hf rfl rfl) rfl hf rfl rfl fun a hf => ?_
 refine op_val (ex_pick_f hf rfl hc18 rfl) rfl hf rfl rfl fun a hf => ?_
 refine op_as hf rfl rfl fun a hf => ?_
 refine wpList_nil ?_
 refine nor_then ?_
 exact ⟨b19 == 47, (hf.cons rfl hf.nil), hO, hm⟩
 rintro a w ⟨t20, hf, hO, hm⟩
 rw [ref11_right_j2] at hm
 refine wp_ret ?_
 refine ret_then ?_
 obtain rfl := Option.some.inj hm
 exact post_ret Tryz.results117 hf (.tmp rfl .nil) ⟨rfl, hO.below⟩
 have hm := ie hc17 hm
 refine wp_skip ?_
 refine nor_then (hK21 _ _ ?_)
 refine wp_seq_k fun _ hK27 => ?_
 refine wp_seq_cut (fun a w => ∃ (t24 : Bool), Fits 76 [(1, ptr b1 0), (55, .bool t24)] a ∧ Dk.Own w0 [] w [.blk b1 [str x_a0.Scheme, str x_a0.Auth, str x_a0.Path, str x_a0.Query, str x_a0.Frag, .bool x_a0.HasAuth, .bool x_a0.HasQuery, .bool x_a0.HasFrag] 90] ∧ ref11_right_j3 x_a0 t24 = some R) ?_ ?_
 refine wp_region_list ?_
 refine op_val (ex_field fa_90_2 hf rfl) rfl hf rfl rfl fun a hf => ?_
 refine op_val (ex_load1 (o := 2) ag_9 (hO.blkSees (i := 0) rfl) rfl hf rfl) rfl hf rfl rfl fun a hf => ?_
 refine op_val (ex_len_s (l := x_a0.Path) Tryz.underlying9 hf rfl) rfl hf rfl rfl fun a hf => ?_
 refine op_val (ex_gtr (m := (x_a0.Path.length : Int)) (n := 1) hf rfl rfl) rfl hf rfl rfl fun a hf => ?_
 refine op_mv hf rfl rfl fun a hf => ?_
 rcases bcase (decide (1 < (x_a0.Path.length : Int))) with hc22 | hc22
 have hm := it hc22 hm
 refine op_guard rfl hf rfl rfl (hc22) ?_
 refine op_val (ex_field fa_90_2 hf rfl) rfl hf rfl rfl fun a hf => ?_
 refine op_guard rfl hf rfl rfl (hc22) ?_
 refine op_val (ex_load1 (o := 2) ag_9 (hO.blkSees (i := 0) rfl) rfl hf rfl) rfl hf rfl rfl fun a hf => ?_
 refine op_guard rfl hf rfl rfl (hc22) ?_
 obtain ⟨s23, hs23, hm⟩ := ob hm
 refine op_val (ex_to_s (l := x_a0.Path) Tryz.underlying9 hf rfl rfl hs23) rfl hf rfl rfl fun a hf => ?_
 refine op_guard rfl hf rfl rfl (hc22) ?_
 refine op_val (ex_eql_s (l := s23) (m := [47, 47]) hf rfl rfl) rfl hf rfl rfl fun a hf => ?_
 refine op_val (ex_pick_t hf rfl hc22 rfl) rfl hf rfl rfl fun a hf => ?_
 refine wpList_nil ?_
 refine nor_then ?_
 exact ⟨s23 == [47, 47], (hf.cons rfl (hf.cons rfl hf.nil)), hO, hm⟩
 have hm := ie hc22 hm
 refine op_pass rfl hf rfl rfl (hc22) rfl rfl fun a hf => ?_
 refine op_pass rfl hf rfl rfl (hc22) rfl rfl fun a hf => ?_
 refine op_pass rfl hf rfl rfl (hc22) rfl rfl fun a hf => ?_
 refine op_pass rfl hf rfl rfl (hc22) rfl rfl fun a hf => ?_
 refine op_val (ex_pick_f hf rfl hc22 rfl) rfl hf rfl rfl fun a hf => ?_
 refine wpList_nil ?_
 refine nor_then ?_
 exact ⟨false, (hf.cons rfl (hf.cons rfl hf.nil)), hO, hm⟩
 rintro a w ⟨t24, hf, hO, hm⟩
 rw [ref11_right_j3] at hm
 refine wp_cond_cut hf rfl (fun hc25 => ?_) (fun hc25 => ?_)
 have hm := it hc25 hm
 refine wp_seq_k fun _ hK26 => ?_
 refine wp_region_list ?_
 refine op_as hf rfl rfl fun a hf => ?_
 refine wpList_nil ?_
 refine nor_then (hK26 _ _ ?_)
 refine wp_ret ?_
 refine ret_then ?_
 obtain rfl := Option.some.inj hm
 exact post_ret Tryz.results117 hf (.tmp rfl .nil) ⟨rfl, hO.below⟩
 have hm := ie hc25 hm
 refine wp_skip ?_
 refine nor_then (hK27 _ _ ?_)
 refine wp_seq_k fun _ hK29 => ?_
 refine wp_region_list ?_
 refine op_val (ex_field fa_90_2 hf rfl) rfl hf rfl rfl fun a hf => ?_
 refine op_val (ex_load1 (o := 2) ag_9 (hO.blkSees (i := 0) rfl) rfl hf rfl) rfl hf rfl rfl fun a hf => ?_
 obtain ⟨r28, hr28, hm⟩ := ob hm
 refine op_enter (ex_call c_115 hf (vs := [str x_a0.Path, str [58, 47]]) rfl) rfl hf rfl rfl (w_ref11_first x_a0.Path [58, 47] r28 _ (hG.own hF hO) hr28) ?_
 rintro e w' ⟨he, hb⟩
 refine ⟨_, he, fun a hf => ?_⟩
 have hO := hO.grow hb
 refine op_as hf rfl rfl fun a hf => ?_
 refine wpList_nil ?_
 refine nor_then (hK29 _ _ ?_)
 refine wp_seq_cut (fun a w => ∃ (t33 : Bool), Fits 76 [(2, .bool t33)] a ∧ Dk.Own w0 [] w [.blk b1 [str x_a0.Scheme, str x_a0.Auth, str x_a0.Path, str x_a0.Query, str x_a0.Frag, .bool x_a0.HasAuth, .bool x_a0.HasQuery, .bool x_a0.HasFrag] 90] ∧ ref11_right_j4 t33 = some R) ?_ ?_
 refine wp_region_list ?_
 refine op_val (ex_field fa_90_0 hf rfl) rfl hf rfl rfl fun a hf => ?_
 refine op_val (ex_load1 (o := 0) ag_9 (hO.blkSees (i := 0) rfl) rfl hf rfl) rfl hf rfl rfl fun a hf => ?_
 refine op_val (ex_neq_s (l := x_a0.Scheme) (m := []) hf rfl rfl) rfl hf rfl rfl fun a hf => ?_
 refine op_mv hf rfl rfl fun a hf => ?_
 rcases bcase (!(x_a0.Scheme == [])) with hc30 | hc30
 have hm := it hc30 hm
 refine op_pass rfl hf rfl rfl (hc30) rfl rfl fun a hf => ?_
 refine op_pass rfl hf rfl rfl (hc30) rfl rfl fun a hf => ?_
 refine op_pass rfl hf rfl rfl (hc30) rfl rfl fun a hf => ?_
 refine op_pass rfl hf rfl rfl (hc30) rfl rfl fun a hf => ?_
 refine op_pass rfl hf rfl rfl (hc30) rfl rfl fun a hf => ?_
 refine op_val (ex_pick_t hf rfl hc30 rfl) rfl hf rfl rfl fun a hf => ?_
 refine op_mv hf rfl rfl fun a hf => ?_
 refine op_pass rfl hf rfl rfl (rfl) rfl rfl fun a hf => ?_
 refine op_pass rfl hf rfl rfl (rfl) rfl rfl fun a hf => ?_
 refine op_pass rfl hf rfl rfl (rfl) rfl rfl fun a hf => ?_
 refine op_pass rfl hf rfl rfl (rfl) rfl rfl fun a hf => ?_
 refine op_pass rfl hf rfl rfl (rfl) rfl rfl fun a hf => ?_
 refine op_val (ex_pick_t hf rfl rfl rfl) rfl hf rfl rfl fun a hf => ?_
 refine op_as hf rfl rfl fun a hf => ?_
 refine wpList_nil ?_
 refine nor_then ?_
 exact ⟨true, (hf.cons rfl hf.nil), hO, hm⟩
 have hm := ie hc30 hm
 refine op_guard rfl hf rfl rfl (hc30) ?_
 refine op_mv hf rfl rfl fun a hf => ?_
 refine op_guard rfl hf rfl rfl (hc30) ?_
 refine op_val (ex_field fa_90_2 hf rfl) rfl hf rfl rfl fun a hf => ?_
 refine op_guard rfl hf rfl rfl (hc30) ?_
 refine op_val (ex_load1 (o := 2) ag_9 (hO.blkSees (i := 0) rfl) rfl hf rfl) rfl hf rfl rfl fun a hf => ?_
 refine op_guard rfl hf rfl rfl (hc30) ?_
 refine op_val (ex_len_s (l := x_a0.Path) Tryz.underlying9 hf rfl) rfl hf rfl rfl fun a hf => ?_
 refine op_guard rfl hf rfl rfl (hc30) ?_
 refine op_val (ex_eql (m := r28) (n := (x_a0.Path.length : Int)) hf rfl rfl) rfl hf rfl rfl fun a hf => ?_
 refine op_val (ex_pick_f hf rfl hc30 rfl) rfl hf rfl rfl fun a hf => ?_
 refine op_mv hf rfl rfl fun a hf => ?_
 rcases bcase (r28 == (x_a0.Path.length : Int)) with hc31 | hc31
 have hm := it hc31 hm
 refine op_pass rfl hf rfl rfl (hc31) rfl rfl fun a hf => ?_
 refine op_pass rfl hf rfl rfl (hc31) rfl rfl fun a hf => ?_
 refine op_pass rfl hf rfl rfl (hc31) rfl rfl fun a hf => ?_
 refine op_pass rfl hf rfl rfl (hc31) rfl rfl fun a hf => ?_
 refine op_pass rfl hf rfl rfl (hc31) rfl rfl fun a hf => ?_
 refine op_val (ex_pick_t hf rfl hc31 rfl) rfl hf rfl rfl fun a hf => ?_
 refine op_as hf rfl rfl fun a hf => ?_
 refine wpList_nil ?_
 refine nor_then ?_
 exact ⟨true, (hf.cons rfl hf.nil), hO, hm⟩
 have hm := ie hc31 hm
 refine op_guard rfl hf rfl rfl (hc31) ?_
 refine op_val (ex_field fa_90_2 hf rfl) rfl hf rfl rfl fun a hf => ?_
 refine op_guard rfl hf rfl rfl (hc31) ?_
 refine op_val (ex_load1 (o := 2) ag_9 (hO.blkSees (i := 0) rfl) rfl hf rfl) rfl hf rfl rfl fun a hf => ?_
 refine op_guard rfl hf rfl rfl (hc31) ?_
 refine op_mv hf rfl rfl fun a hf => ?_
 refine op_guard rfl hf rfl rfl (hc31) ?_
 obtain ⟨b32, hb32, hm⟩ := ob hm
 refine op_val (ex_index (l := x_a0.Path) Tryz.underlying9 hf rfl rfl hb32) rfl hf rfl rfl fun a hf => ?_
 refine op_guard rfl hf rfl rfl (hc31) ?_
 refine op_val (ex_eql_b (b := b32) (c := 47) hf rfl rfl) rfl hf rfl rfl fun a hf => ?_
 refine op_val (ex_pick_f hf rfl hc31 rfl) rfl hf rfl rfl fun a hf => ?_
 refine op_as hf rfl rfl fun a hf => ?_
 refine wpList_nil ?_
 refine nor_then ?_
 exact ⟨b32 == 47, (hf.cons rfl hf.nil), hO, hm⟩
 rintro a w ⟨t33, hf, hO, hm⟩
 rw [ref11_right_j4] at hm
 refine wp_ret ?_
 obtain rfl := Option.some.inj hm
 exact post_ret Tryz.results117 hf (.tmp rfl .nil) ⟨rfl, hO.below⟩

set_option maxHeartbeats 1000000 in
theorem w_ref11_Parse (x_a0 : Str) (R : api_Ref × Int) (w0 : World) (hG : Glob w0) (hm : ref11_Parse x_a0 = some R) :
    Calls Tryz.prog 74 #[str x_a0] w0 fun e w' => e = .returned (.tuple #[.agg #[str R.1.Scheme, str R.1.Auth, str R.1.Path, str R.1.Query, str R.1.Frag, .bool R.1.HasAuth, .bool R.1.HasQuery, .bool R.1.HasFrag], int R.2]) ∧ Below w0.heap.size w0 w' := by
 rw [ref11_Parse] at hm
 refine calls_enter (vs := [str x_a0]) Tryz.func74 rfl Tryz.ntmps74 rfl fun a hf => ?_
 have hF : Away [] := away_nil
 have hO : Dk.Own w0 [] w0 [] := Dk.Own.refl w0
 refine wp_seq_k fun _ hK2 => ?_
 refine wp_region_list ?_
 refine op_alloc al_90 hf rfl hO fun a b1 w hf hO => ?_
 refine op_as hf rfl rfl fun a hf => ?_
 refine wpList_nil ?_
 refine nor_then (hK2 _ _ ?_)
 refine wp_seq_k fun _ hK4 => ?_
 refine wp_region_list ?_
 refine op_val (ex_build (vs := []) (v := .agg #[str [], str [], str [], str [], str [], .bool false, .bool false, .bool false]) hf rfl (by kernel_rfl)) rfl hf rfl rfl fun a hf => ?_
 refine op_alloc al_90 hf rfl hO fun a b3 w hf hO => ?_
 refine op_storeN (i := 0) (n := 8) sz_90 rfl rfl rfl (by simp [Value.oneCell']) hf rfl rfl hO fun w hO => ?_
 refine wpList_nil ?_
 refine nor_then (hK4 _ _ ?_)
 refine wp_seq_k fun _ hK6 => ?_
 refine wp_region_list ?_
 refine op_mv hf rfl rfl fun a hf => ?_
 obtain ⟨r5, hr5, hm⟩ := ob hm
 refine op_enter (ex_call c_115 hf (vs := [str x_a0, str [35]]) rfl) rfl hf rfl rfl (w_ref11_first x_a0 [35] r5 _ (hG.own hF hO) hr5) ?_
 rintro e w' ⟨he, hb⟩
 refine ⟨_, he, fun a hf => ?_⟩
 have hO := hO.grow hb
 refine op_as hf rfl rfl fun a hf => ?_
 refine wpList_nil ?_
 refine nor_then (hK6 _ _ ?_)
 refine wp_seq_cut (fun a w => ∃ (s14 : Str) (s15 : Str) (t16 : Bool), Fits 94 [(0, str s14), (2, ptr b1 0), (4, ptr b3 0)] a ∧ Dk.Own w0 [] w [.blk b3 [str [], str [], str [], str [], str s15, .bool false, .bool false, .bool t16] 90, .blk b1 [str [], str [], str [], str [], str [], .bool false, .bool false, .bool false] 90] ∧ ref11_Parse_j1 s14 s15 t16 = some R) ?_ ?_
 refine wp_seq_k fun _ hK7 => ?_
 refine wp_region_list ?_
 refine op_mv hf rfl rfl fun a hf => ?_
 refine op_mv hf rfl rfl fun a hf => ?_
 refine op_val (ex_len_s (l := x_a0) Tryz.underlying9 hf rfl) rfl hf rfl rfl fun a hf => ?_
 refine op_val (ex_lss (m := r5) (n := (x_a0.length : Int)) hf rfl rfl) rfl hf rfl rfl fun a hf => ?_
 refine wpList_nil ?_
 refine nor_then (hK7 _ _ ?_)
 refine wp_cond_cut hf rfl (fun hc8 => ?_) (fun hc8 => ?_)
 have hm := it hc8 hm
 refine wp_seq_k fun _ hK9 => ?_
 refine wp_region_list ?_
 refine op_val (ex_field fa_90_7 hf rfl) rfl hf rfl rfl fun a hf => ?_
 refine op_store1 (i := 0) (o := 7) (v := .bool true) sz_4 rfl rfl rfl rfl hf rfl rfl hO fun w hO => ?_
 refine wpList_nil ?_
 refine nor_then (hK9 _ _ ?_)
 refine wp_seq_k fun _ hK12 => ?_
 refine wp_region_list ?_
 refine op_mv hf rfl rfl fun a hf => ?_
 refine op_mv hf rfl rfl fun a hf => ?_
 obtain ⟨i10, hi10, hm⟩ := ob hm
 refine op_val (ex_add hf rfl rfl hi10) rfl hf rfl rfl fun a hf => ?_
 obtain ⟨s11, hs11, hm⟩ := ob hm
 refine op_val (ex_from_s (l := x_a0) Tryz.underlying9 hf rfl rfl hs11) rfl hf rfl rfl fun a hf => ?_
 refine op_val (ex_field fa_90_4 hf rfl) rfl hf rfl rfl fun a hf => ?_
 refine op_store1 (i := 0) (o := 4) (v := str s11) sz_9 rfl rfl rfl rfl hf rfl rfl hO fun w hO => ?_
 refine wpList_nil ?_
 refine nor_then (hK12 _ _ ?_)
 refine wp_region_list ?_
 refine op_mv hf rfl rfl fun a hf => ?_
 refine op_mv hf rfl rfl fun a hf => ?_
 obtain ⟨s13, hs13, hm⟩ := ob hm
 refine op_val (ex_to_s (l := x_a0) Tryz.underlying9 hf rfl rfl hs13) rfl hf rfl rfl fun a hf => ?_
 refine op_as hf rfl rfl fun a hf => ?_
 refine wpList_nil ?_
 refine nor_then ?_
 exact ⟨s13, s11, true, (hf.cons rfl (hf.cons rfl (hf.cons rfl hf.nil))), hO, hm⟩
 have hm := ie hc8 hm
 refine wp_skip ?_
 refine nor_then ?_
 exact ⟨x_a0, [], false, (hf.cons rfl (hf.cons rfl (hf.cons rfl hf.nil))), hO, hm⟩
 rintro a w ⟨s14, s15, t16, hf, hO, hm⟩
 rw [ref11_Parse_j1] at hm
 refine wp_seq_k fun _ hK18 => ?_
 refine wp_region_list ?_
 refine op_mv hf rfl rfl fun a hf => ?_
 obtain ⟨r17, hr17, hm⟩ := ob hm
 refine op_enter (ex_call c_115 hf (vs := [str s14, str [63]]) rfl) rfl hf rfl rfl (w_ref11_first s14 [63] r17 _ (hG.own hF hO) hr17) ?_
 rintro e w' ⟨he, hb⟩
 refine ⟨_, he, fun a hf => ?_⟩
 have hO := hO.grow hb
 refine op_as hf rfl rfl fun a hf => ?_
 refine wpList_nil ?_
 refine nor_then (hK18 _ _ ?_)
 refine wp_seq_cut (fun a w => ∃ (s26 : Str) (s27 : Str) (t28 : Bool), Fits 94 [(0, str s26), (2, ptr b1 0), (4, ptr b3 0)] a ∧ Dk.Own w0 [] w [.blk b3 [str [], str [], str [], str s27, str s15, .bool false, .bool t28, .bool t16] 90, .blk b1 [str [], str [], str [], str [], str [], .bool false, .bool false, .bool false] 90] ∧ ref11_Parse_j2 s15 t16 s26 s27 t28 = some R) ?_ ?_
 refine wp_seq_k fun _ hK19 => ?_
 refine wp_region_list ?_
 refine op_mv hf rfl rfl fun a hf => ?_
 refine op_mv hf rfl rfl fun a hf => ?_
 refine op_val (ex_len_s (l := s14) Tryz.underlying9 hf rfl) rfl hf rfl rfl fun a hf => ?_
 refine op_val (ex_lss (m := r17) (n := (s14.length : Int)) hf rfl rfl) rfl hf rfl rfl fun a hf => ?_
 refine wpList_nil ?_
 refine nor_then (hK19 _ _ ?_)
 refine wp_cond_cut hf rfl (fun hc20 => ?_) (fun hc20 => ?_)
 have hm := it hc20 hm
 refine wp_seq_k fun _ hK21 => ?_
 refine wp_region_list ?_
 refine op_val (ex_field fa_90_6 hf rfl) rfl hf rfl rfl fun a hf => ?_
 refine op_store1 (i := 0) (o := 6) (v := .bool true) sz_4 rfl rfl rfl rfl hf rfl rfl hO fun w hO => ?_
 refine wpList_nil ?_
 refine nor_then (hK21 _ _ ?_)
 refine wp_seq_k fun _ hK24 => ?_
 refine wp_region_list ?_
 refine op_mv hf rfl rfl fun a hf => ?_
 refine op_mv hf rfl rfl fun a hf => ?_
 obtain ⟨i22, hi22, hm⟩ := ob hm
 refine op_val (ex_add hf rfl rfl hi22) rfl hf rfl rfl fun a hf => ?_
 obtain ⟨s23, hs23, hm⟩ := ob hm
 refine op_val (ex_from_s (l := s14) Tryz.underlying9 hf rfl rfl hs23) rfl hf rfl rfl fun a hf => ?_
 refine op_val (ex_field fa_90_3 hf rfl) rfl hf rfl rfl fun a hf => ?_
 refine op_store1 (i := 0) (o := 3) (v := str s23) sz_9 rfl rfl rfl rfl hf rfl rfl hO fun w hO => ?_
 refine wpList_nil ?_
 refine nor_then (hK24 _ _ ?_)
 refine wp_region_list ?_
 refine op_mv hf rfl rfl fun a hf => ?_
 refine op_mv hf rfl rfl fun a hf => ?_
 obtain ⟨s25, hs25, hm⟩ := ob hm
 refine op_val (ex_to_s (l := s14) Tryz.underlying9 hf rfl rfl hs25) rfl hf rfl rfl fun a hf => ?_
 refine op_as hf rfl rfl fun a hf => ?_
 refine wpList_nil ?_
 refine nor_then ?_
 exact ⟨s25, s23, true, (hf.cons rfl (hf.cons rfl (hf.cons rfl hf.nil))), hO, hm⟩
 have hm := ie hc20 hm
 refine wp_skip ?_
 refine nor_then ?_
 exact ⟨s14, [], false, (hf.cons rfl (hf.cons rfl (hf.cons rfl hf.nil))), hO, hm⟩
 rintro a w ⟨s26, s27, t28, hf, hO, hm⟩
 rw [ref11_Parse_j2] at hm
 refine wp_seq_k fun _ hK30 => ?_
 refine wp_region_list ?_
 refine op_mv hf rfl rfl fun a hf => ?_
 obtain ⟨r29, hr29, hm⟩ := ob hm
 refine op_enter (ex_call c_115 hf (vs := [str s26, str [58, 47]]) rfl) rfl hf rfl rfl (w_ref11_first s26 [58, 47] r29 _ (hG.own hF hO) hr29) ?_
 rintro e w' ⟨he, hb⟩
 refine ⟨_, he, fun a hf => ?_⟩
 have hO := hO.grow hb
 refine op_as hf rfl rfl fun a hf => ?_
 refine wpList_nil ?_
 refine nor_then (hK30 _ _ ?_)
 refine wp_seq_cut (fun a w => ∃ (s42 : Str) (s43 : Str), Fits 94 [(0, str s42), (2, ptr b1 0), (4, ptr b3 0)] a ∧ Dk.Own w0 [] w [.blk b3 [str s43, str [], str [], str s27, str s15, .bool false, .bool t28, .bool t16] 90, .blk b1 [str [], str [], str [], str [], str [], .bool false, .bool false, .bool false] 90] ∧ ref11_Parse_j4 s15 t16 s27 t28 s42 s43 = some R) ?_ ?_
 refine wp_seq_cut (fun a w => ∃ (t36 : Bool), Fits 94 [(0, str s26), (2, ptr b1 0), (4, ptr b3 0), (7, int r29), (57, .bool t36)] a ∧ Dk.Own w0 [] w [.blk b3 [str [], str [], str [], str s27, str s15, .bool false, .bool t28, .bool t16] 90, .blk b1 [str [], str [], str [], str [], str [], .bool false, .bool false, .bool false] 90] ∧ ref11_Parse_j3 s15 t16 s26 s27 t28 r29 t36 = some R) ?_ ?_
 refine wp_region_list ?_
 refine op_mv hf rfl rfl fun a hf => ?_
 refine op_mv hf rfl rfl fun a hf => ?_
 refine op_val (ex_len_s (l := s26) Tryz.underlying9 hf rfl) rfl hf rfl rfl fun a hf => ?_
 refine op_val (ex_lss (m := r29) (n := (s26.length : Int)) hf rfl rfl) rfl hf rfl rfl fun a hf => ?_
 refine op_mv hf rfl rfl fun a hf => ?_
 rcases bcase (decide (r29 < (s26.length : Int))) with hc31 | hc31
 have hm := it hc31 hm
 refine op_guard rfl hf rfl rfl (hc31) ?_
 refine op_mv hf rfl rfl fun a hf => ?_
 refine op_guard rfl hf rfl rfl (hc31) ?_
 refine op_mv hf rfl rfl fun a hf => ?_
 refine op_guard rfl hf rfl rfl (hc31) ?_
 obtain ⟨b32, hb32, hm⟩ := ob hm
 refine op_val (ex_index (l := s26) Tryz.underlying9 hf rfl rfl hb32) rfl hf rfl rfl fun a hf => ?_
 refine op_guard rfl hf rfl rfl (hc31) ?_
 refine op_val (ex_eql_b (b := b32) (c := 58) hf rfl rfl) rfl hf rfl rfl fun a hf => ?_
 refine op_val (ex_pick_t hf rfl hc31 rfl) rfl hf rfl rfl fun a hf => ?_
 refine op_mv hf rfl rfl fun a hf => ?_
 rcases bcase (b32 == 58) with hc33 | hc33
 have hm := it hc33 hm
 refine op_guard rfl hf rfl rfl (hc33) ?_
 refine op_mv hf rfl rfl fun a hf => ?_
 refine op_guard rfl hf rfl rfl (hc33) ?_
 refine op_mv hf rfl rfl fun a hf => ?_
 refine op_guard rfl hf rfl rfl (hc33) ?_
 obtain ⟨s34, hs34, hm⟩ := ob hm
 refine op_val (ex_to_s (l := s26) Tryz.underlying9 hf rfl rfl hs34) rfl hf rfl rfl fun a hf => ?_
 refine op_guard rfl hf rfl rfl (hc33) ?_
 obtain ⟨r35, hr35, hm⟩ := ob hm
 refine op_enter (ex_call c_116 hf (vs := [str s34]) rfl) rfl hf rfl rfl (w_ref11_scheme s34 r35 _ (hG.own hF hO) hr35) ?_
 rintro e w' ⟨he, hb⟩
 refine ⟨_, he, fun a hf => ?_⟩
 have hO := hO.grow hb
 refine op_val (ex_pick_t hf rfl hc33 rfl) rfl hf rfl rfl fun a hf => ?_
 refine wpList_nil ?_
 refine nor_then ?_
 exact ⟨r35, (hf.cons rfl (hf.cons rfl (hf.cons rfl (hf.cons rfl (hf.cons rfl hf.nil))))), hO, hm⟩
 have hm := ie hc33 hm
 refine op_pass rfl hf rfl rfl (hc33) rfl rfl fun a hf => ?_
 refine op_pass rfl hf rfl rfl (hc33) rfl rfl fun a hf => ?_
 refine op_pass rfl hf rfl rfl (hc33) rfl rfl fun a hf => ?_
 refine op_pass rfl hf rfl rfl (hc33) rfl rfl fun a hf => ?_
 refine op_val (ex_pick_f hf rfl hc33 rfl) rfl hf rfl rfl fun a hf => ?_
 refine wpList_nil ?_
 refine nor_then ?_
 exact ⟨false, (hf.cons rfl (hf.cons rfl (hf.cons rfl (hf.cons rfl (hf.cons rfl hf.nil))))), hO, hm⟩
 have hm := ie hc31 hm
 refine op_pass rfl hf rfl rfl (hc31) rfl rfl fun a hf => ?_
 refine op_pass rfl hf rfl rfl (hc31) rfl rfl fun a hf => ?_
 refine op_pass rfl hf rfl rfl (hc31) rfl rfl fun a hf => ?_
 refine op_pass rfl hf rfl rfl (hc31) rfl rfl fun a hf => ?_
 refine op_val (ex_pick_f hf rfl hc31 rfl) rfl hf rfl rfl fun a hf => ?_
 refine op_mv hf rfl rfl fun a hf => ?_
 refine op_pass rfl hf rfl rfl (rfl) rfl rfl fun a hf => ?_
 refine op_pass rfl hf rfl rfl (rfl) rfl rfl fun a hf => ?_
 refine op_pass rfl hf rfl rfl (rfl) rfl rfl fun a hf => ?_
 refine op_pass rfl hf rfl rfl (rfl) rfl rfl fun a hf => ?_
 refine op_val (ex_pick_f hf rfl rfl rfl) rfl hf rfl rfl fun a hf => ?_
 refine wpList_nil ?_
 refine nor_then ?_
 exact ⟨false, (hf.cons rfl (hf.cons rfl (hf.cons rfl (hf.cons rfl (hf.cons rfl hf.nil))))), hO, hm⟩
 rintro a w ⟨t36, hf, hO, hm⟩
 rw [ref11_Parse_j3] at hm
 refine wp_cond_cut hf rfl (fun hc37 => ?_) (fun hc37 => ?_)
 have hm := it hc37 hm
 refine wp_seq_k fun _ hK39 => ?_
 refine wp_region_list ?_
 refine op_mv hf rfl rfl fun a hf => ?_
 refine op_mv hf rfl rfl fun a hf => ?_
 obtain ⟨s38, hs38, hm⟩ := ob hm
 refine op_val (ex_to_s (l := s26) Tryz.underlying9 hf rfl rfl hs38) rfl hf rfl rfl fun a hf => ?_
 refine op_val (ex_field fa_90_0 hf rfl) rfl hf rfl rfl fun a hf => ?_
 refine op_store1 (i := 0) (o := 0) (v := str s38) sz_9 rfl rfl rfl rfl hf rfl rfl hO fun w hO => ?_
 refine wpList_nil ?_
 refine nor_then (hK39 _ _ ?_)
 refine wp_region_list ?_
 refine op_mv hf rfl rfl fun a hf => ?_
 refine op_mv hf rfl rfl fun a hf => ?_
 obtain ⟨i40, hi40, hm⟩ := ob hm
 refine op_val (ex_add hf rfl rfl hi40) rfl hf rfl rfl fun a hf => ?_
 obtain ⟨s41, hs41, hm⟩ := ob hm
 refine op_val (ex_from_s (l := s26) Tryz.underlying9 hf rfl rfl hs41) rfl hf rfl rfl fun a hf => ?_
 refine op_as hf rfl rfl fun a hf => ?_
 refine wpList_nil ?_
 refine nor_then ?_
 exact ⟨s41, s38, (hf.cons rfl (hf.cons rfl (hf.cons rfl hf.nil))), hO, hm⟩
 have hm := ie hc37 hm
 refine wp_skip ?_
 refine nor_then ?_
 exact ⟨s26, [], (hf.cons rfl (hf.cons rfl (hf.cons rfl hf.nil))), hO, hm⟩
 rintro a w ⟨s42, s43, hf, hO, hm⟩
 rw [ref11_Parse_j4] at hm
 refine wp_seq_cut (fun a w => ∃ (s57 : Str) (s58 : Str) (t59 : Bool), Fits 94 [(0, str s57), (2, ptr b1 0), (4, ptr b3 0)] a ∧ Dk.Own w0 [] w [.blk b3 [str s43, str s58, str [], str s27, str s15, .bool t59, .bool t28, .bool t16] 90, .blk b1 [str [], str [], str [], str [], str [], .bool false, .bool false, .bool false] 90] ∧ ref11_Parse_j6 s15 t16 s27 t28 s43 s57 s58 t59 = some R) ?_ ?_
 refine wp_seq_cut (fun a w => ∃ (t46 : Bool), Fits 94 [(0, str s42), (2, ptr b1 0), (4, ptr b3 0), (73, .bool t46)] a ∧ Dk.Own w0 [] w [.blk b3 [str s43, str [], str [], str s27, str s15, .bool false, .bool t28, .bool t16] 90, .blk b1 [str [], str [], str [], str [], str [], .bool false, .bool false, .bool false] 90] ∧ ref11_Parse_j5 s15 t16 s27 t28 s42 s43 t46 = some R) ?_ ?_
 refine wp_region_list ?_
 refine op_mv hf rfl rfl fun a hf => ?_
 refine op_val (ex_len_s (l := s42) Tryz.underlying9 hf rfl) rfl hf rfl rfl fun a hf => ?_
 refine op_val (ex_gtr (m := (s42.length : Int)) (n := 1) hf rfl rfl) rfl hf rfl rfl fun a hf => ?_
 refine op_mv hf rfl rfl fun a hf => ?_
 rcases bcase (decide (1 < (s42.length : Int))) with hc44 | hc44
 have hm := it hc44 hm
 refine op_guard rfl hf rfl rfl (hc44) ?_
 refine op_mv hf rfl rfl fun a hf => ?_
 refine op_guard rfl hf rfl rfl (hc44) ?_
 obtain ⟨s45, hs45, hm⟩ := ob hm
 refine op_val (ex_to_s (l := s42) Tryz.underlying9 hf rfl rfl hs45) rfl hf rfl rfl fun a hf => ?_
 refine op_guard rfl hf rfl rfl (hc44) ?_
 refine op_val (ex_eql_s (l := s45) (m := [47, 47]) hf rfl rfl) rfl hf rfl rfl fun a hf => ?_
 refine op_val (ex_pick_t hf rfl hc44 rfl) rfl hf rfl rfl fun a hf => ?_
 refine wpList_nil ?_
 refine nor_then ?_
 exact ⟨s45 == [47, 47], (hf.cons rfl (hf.cons rfl (hf.cons rfl (hf.cons rfl hf.nil)))), hO, hm⟩
 have hm := ie hc44 hm
 refine op_pass rfl hf rfl rfl (hc44) rfl rfl fun a hf => ?_
 refine op_pass rfl hf rfl rfl (hc44) rfl rfl fun a hf => ?_
 refine op_pass rfl hf rfl rfl (hc44) rfl rfl fun a hf => ?_
 refine op_val (ex_pick_f hf rfl hc44 rfl) rfl hf rfl rfl fun a hf => ?_
 refine wpList_nil ?_
 refine nor_then ?_
 exact ⟨false, (hf.cons rfl (hf.cons rfl (hf.cons rfl (hf.cons rfl hf.nil)))), hO, hm⟩
 rintro a w ⟨t46, hf, hO, hm⟩
 rw [ref11_Parse_j5] at hm
 refine wp_cond_cut hf rfl (fun hc47 => ?_) (fun hc47 => ?_)
 have hm := it hc47 hm
 refine wp_seq_k fun _ hK48 => ?_
 refine wp_region_list ?_
 refine op_val (ex_field fa_90_5 hf rfl) rfl hf rfl rfl fun a hf => ?_
 refine op_store1 (i := 0) (o := 5) (v := .bool true) sz_4 rfl rfl rfl rfl hf rfl rfl hO fun w hO => ?_
 refine wpList_nil ?_
 refine nor_then (hK48 _ _ ?_)
 refine wp_seq_k fun _ hK51 => ?_
 refine wp_region_list ?_
 refine op_mv hf rfl rfl fun a hf => ?_
 obtain ⟨s49, hs49, hm⟩ := ob hm
 refine op_val (ex_from_s (l := s42) Tryz.underlying9 hf rfl rfl hs49) rfl hf rfl rfl fun a hf => ?_
 obtain ⟨r50, hr50, hm⟩ := ob hm
 refine op_enter (ex_call c_115 hf (vs := [str s49, str [47]]) rfl) rfl hf rfl rfl (w_ref11_first s49 [47] r50 _ (hG.own hF hO) hr50) ?_
 rintro e w' ⟨he, hb⟩
 refine ⟨_, he, fun a hf => ?_⟩
 have hO := hO.grow hb
 refine op_as hf rfl rfl fun a hf => ?_
 refine wpList_nil ?_
 refine nor_then (hK51 _ _ ?_)
 refine wp_seq_k fun _ hK54 => ?_
 refine wp_region_list ?_
 refine op_mv hf rfl rfl fun a hf => ?_
 refine op_mv hf rfl rfl fun a hf => ?_
 obtain ⟨i52, hi52, hm⟩ := ob hm
 refine op_val (ex_add hf rfl rfl hi52) rfl hf rfl rfl fun a hf => ?_
 obtain ⟨s53, hs53, hm⟩ := ob hm
 refine op_val (ex_sub_s (l := s42) Tryz.underlying9 hf rfl rfl rfl hs53) rfl hf rfl rfl fun a hf => ?_
 refine op_val (ex_field fa_90_1 hf rfl) rfl hf rfl rfl fun a hf => ?_
 refine op_store1 (i := 0) (o := 1) (v := str s53) sz_9 rfl rfl rfl rfl hf rfl rfl hO fun w hO => ?_
 refine wpList_nil ?_
 refine nor_then (hK54 _ _ ?_)
 refine wp_region_list ?_
 refine op_mv hf rfl rfl fun a hf => ?_
 refine op_mv hf rfl rfl fun a hf => ?_
 obtain ⟨i55, hi55, hm⟩ := ob hm
 refine op_val (ex_add hf rfl rfl hi55) rfl hf rfl rfl fun a hf => ?_
 obtain ⟨s56, hs56, hm⟩ := ob hm
 refine op_val (ex_from_s (l := s42) Tryz.underlying9 hf rfl rfl hs56) rfl hf rfl rfl fun a hf => ?_
 refine op_as hf rfl rfl fun a hf => ?_
 refine wpList_nil ?_
 refine nor_then ?_
 exact ⟨s56, s53, true, (hf.cons rfl (hf.cons rfl (hf.cons rfl hf.nil))), hO, hm⟩
 have hm := ie hc47 hm
 refine wp_skip ?_
 refine nor_then ?_
 exact ⟨s42, [], false, (hf.cons rfl (hf.cons rfl (hf.cons rfl hf.nil))), hO, hm⟩
 rintro a w ⟨s57, s58, t59, hf, hO, hm⟩
 rw [ref11_Parse_j6] at hm
 refine wp_seq_k fun _ hK60 => ?_
 refine wp_region_list ?_
 refine op_mv hf rfl rfl fun a hf => ?_
 refine op_val (ex_field fa_90_2 hf rfl) rfl hf rfl rfl fun a hf => ?_
 refine op_store1 (i := 0) (o := 2) (v := str s57) sz_9 rfl rfl rfl rfl hf rfl rfl hO fun w hO => ?_
 refine wpList_nil ?_
 refine nor_then (hK60 _ _ ?_)
 refine wp_seq_k fun _ hK65 => ?_
 refine wp_seq_k fun _ hK62 => ?_
 refine wp_region_list ?_
 refine op_val (ex_loadN (o := 0) (vs := [str s43, str s58, str s57, str s27, str s15, .bool t59, .bool t28, .bool t16]) ag_90 sz_90 (hO.blkSees (i := 0) rfl) rfl rfl hf rfl) rfl hf rfl rfl fun a hf => ?_
 obtain ⟨r61, hr61, hm⟩ := ob hm
 refine op_enter (ex_call c_117 hf (vs := [.agg #[str s43, str s58, str s57, str s27, str s15, .bool t59, .bool t28, .bool t16]]) rfl) rfl hf rfl rfl (w_ref11_right (⟨s43, s58, s57, s27, s15, t59, t28, t16⟩ : api_Ref) r61 _ (hG.own hF hO) hr61) ?_
 rintro e w' ⟨he, hb⟩
 refine ⟨_, he, fun a hf => ?_⟩
 have hO := hO.grow hb
 refine op_val (ex_not hf rfl) rfl hf rfl rfl fun a hf => ?_
 refine wpList_nil ?_
 refine nor_then (hK62 _ _ ?_)
 refine wp_cond_cut hf rfl (fun hc63 => ?_) (fun hc63 => ?_)
 have hm := it hc63 hm
 refine wp_seq_k fun _ hK64 => ?_
 refine wp_region_list ?_
 refine op_val (ex_build (vs := []) (v := .agg #[str [], str [], str [], str [], str [], .bool false, .bool false, .bool false]) hf rfl (by kernel_rfl)) rfl hf rfl rfl fun a hf => ?_
 refine op_storeN (i := 1) (n := 8) sz_90 rfl rfl rfl (by simp [Value.oneCell']) hf rfl rfl hO fun w hO => ?_
 refine op_as hf rfl rfl fun a hf => ?_
 refine wpList_nil ?_
 refine nor_then (hK64 _ _ ?_)
 refine wp_ret ?_
 refine ret_then ?_
 obtain rfl := Option.some.inj hm
 exact post_ret Tryz.results74 hf (.cell rfl (run_loadVarN (n := 8) (vs := [str [], str [], str [], str [], str [], .bool false, .bool false, .bool false]) ag_90 sz_90 rfl ((hO.blkSees (i := 1) rfl).cells (o := 0) (n := 8) rfl)) (.tmp rfl .nil)) ⟨rfl, hO.below⟩
 have hm := ie hc63 hm
 refine wp_skip ?_
 refine nor_then (hK65 _ _ ?_)
 refine wp_seq_k fun _ hK66 => ?_
 refine wp_region_list ?_
 refine op_val (ex_loadN (o := 0) (vs := [str s43, str s58, str s57, str s27, str s15, .bool t59, .bool t28, .bool t16]) ag_90 sz_90 (hO.blkSees (i := 0) rfl) rfl rfl hf rfl) rfl hf rfl rfl fun a hf => ?_
 refine op_storeN (i := 1) (n := 8) sz_90 rfl rfl rfl (by simp [Value.oneCell']) hf rfl rfl hO fun w hO => ?_
 refine op_as hf rfl rfl fun a hf => ?_
 refine wpList_nil ?_
 refine nor_then (hK66 _ _ ?_)
 refine wp_ret ?_
 obtain rfl := Option.some.inj hm
 exact post_ret Tryz.results74 hf (.cell rfl (run_loadVarN (n := 8) (vs := [str s43, str s58, str s57, str s27, str s15, .bool t59, .bool t28, .bool t16]) ag_90 sz_90 rfl ((hO.blkSees (i := 1) rfl).cells (o := 0) (n := 8) rfl)) (.tmp rfl .nil)) ⟨rfl, hO.below⟩

end Go.Proofs
