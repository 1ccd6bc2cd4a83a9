/-
  Walks, written by a program (wip/gen): what its model says, the function returns; what was there before is as it was.
-/
import Derived.Test.YtgdhdeemlhllpabGreatDoorLib
import Derived.Test.YtgdhdeemlhllpabGreatDoorW1
import Derived.Test.YtgdhdeemlhllpabGreatDoorW2
import Derived.Test.YtgdhdeemlhllpabGreatDoorW6
import Derived.Test.YtgdhdeemlhllpabGreatDoorW7
set_option linter.unusedVariables false
set_option linter.unusedSimpArgs false
set_option maxRecDepth 100000
namespace Go.Proofs
open Go.Dk Go.Dm Go.RowKit

set_option maxHeartbeats 1000000 in
theorem w_law15_few (x_s : Str) (R : Str) (w0 : World) (hG : Glob w0) (hm : law15_few x_s = some R) :
    Calls Tryz.prog 39 #[str x_s] w0 fun e w' => e = .returned (str R) ∧ Below w0.heap.size w0 w' := by
  rw [law15_few] at hm
  refine calls_enter (vs := [str x_s]) Tryz.func39 rfl Tryz.ntmps39 rfl fun a hf => ?_
  have hF : Away [] := away_nil
  have hO : Dk.Own w0 [] w0 [] := Dk.Own.refl w0
  refine wp_seq_k fun _ hK1 => ?_
  refine wp_region_list ?_
  refine op_val (ex_assign hf rfl) rfl hf rfl rfl fun a hf => ?_
  refine wpList_nil ?_
  refine nor_then (hK1 _ _ ?_)
  refine wp_seq_k fun _ hK3 => ?_
  refine wp_region_list ?_
  refine op_val (ex_move hf rfl) rfl hf rfl rfl fun a hf => ?_
  refine op_val (ex_move hf rfl) rfl hf rfl rfl fun a hf => ?_
  refine op_val (ex_len_s (l := x_s) Tryz.underlying9 hf rfl) rfl hf rfl rfl fun a hf => ?_
  refine op_val (ex_min (m := (x_s.length : Int)) (n := 400) hf rfl rfl) rfl hf rfl rfl fun a hf => ?_
  obtain ⟨s2, hs2, hm⟩ := ob hm
  refine op_val (ex_to_s (l := x_s) Tryz.underlying9 hf rfl rfl hs2) rfl hf rfl rfl fun a hf => ?_
  refine op_val (ex_assign hf rfl) rfl hf rfl rfl fun a hf => ?_
  refine wpList_nil ?_
  refine nor_then (hK3 _ _ ?_)
  refine wp_ret ?_
  obtain rfl := Option.some.inj hm
  exact post_ret Tryz.results39 hf (.tmp rfl .nil) ⟨rfl, hO.below⟩

set_option maxHeartbeats 1000000 in
theorem w_law15_Few (x_h : api_Head) (R : api_Head) (w0 : World) (hG : Glob w0) {x_h_p0 : Option Addr} {x_h_c0 : Nat} (hs0 : Sees w0 x_h_p0 (cells enc_api_Field x_h.Fields)) (hc0 : x_h.Fields.length ≤ x_h_c0) (hm : law15_Few x_h = some R) :
    Calls Tryz.prog 18 #[.agg #[int x_h.Kind, str x_h.Method, str x_h.Target, int x_h.Code, str x_h.Reason, int x_h.Minor, .slice x_h_p0 x_h.Fields.length x_h_c0]] w0 fun e w' => ∃ (p0 : Option Addr) (c0 : Nat), e = .returned (.agg #[int R.Kind, str R.Method, str R.Target, int R.Code, str R.Reason, int R.Minor, .slice p0 R.Fields.length c0]) ∧ Dk.Own w0 [] w' [.row (.slice p0 R.Fields.length c0) 53 2 R.Fields.length (cells enc_api_Field R.Fields)] := by
  rw [law15_Few] at hm
  refine calls_enter (vs := [.agg #[int x_h.Kind, str x_h.Method, str x_h.Target, int x_h.Code, str x_h.Reason, int x_h.Minor, .slice x_h_p0 x_h.Fields.length x_h_c0]]) Tryz.func18 rfl Tryz.ntmps18 rfl fun a hf => ?_
  have hF : Away [] := away_nil
  have hO : Dk.Own w0 [] w0 [] := Dk.Own.refl w0
  have hO := hO.addShr hs0 (by simp [Res.shared])
  refine wp_seq_k fun _ hK3 => ?_
  refine wp_region_list ?_
  refine op_box (v := .agg #[int x_h.Kind, str x_h.Method, str x_h.Target, int x_h.Code, str x_h.Reason, int x_h.Minor, .slice x_h_p0 x_h.Fields.length x_h_c0]) (cs := [int x_h.Kind, str x_h.Method, str x_h.Target, int x_h.Code, str x_h.Reason, int x_h.Minor, .slice x_h_p0 x_h.Fields.length x_h_c0]) rfl hf rfl rfl hO fun a b1 w hf hO => ?_
  refine op_alloc al_46 hf rfl hO fun a b2 w hf hO => ?_
  have hO := hO.nilRow 53 2
  refine wpList_nil ?_
  refine nor_then (hK3 _ _ ?_)
  refine wp_seq_k fun _ hK5 => ?_
  refine wp_region_list ?_
  refine op_val (ex_field fa_46_1 hf rfl) rfl hf rfl rfl fun a hf => ?_
  refine op_val (ex_load1 (o := 1) ag_9 (hO.blkSees (i := 2) rfl) rfl hf rfl) rfl hf rfl rfl fun a hf => ?_
  obtain ⟨r4, hr4, hm⟩ := ob hm
  refine op_enter (ex_call c_39 hf (vs := [str x_h.Method]) rfl) rfl hf rfl rfl (w_law15_few x_h.Method r4 _ (hG.own hF hO) hr4) ?_
  rintro e w' ⟨he, hb⟩
  refine ⟨_, he, fun a hf => ?_⟩
  have hO := hO.grow hb
  refine op_val (ex_field fa_46_1 hf rfl) rfl hf rfl rfl fun a hf => ?_
  refine op_store1 (i := 2) (o := 1) (v := str r4) sz_9 rfl rfl rfl rfl hf rfl rfl hO fun w hO => ?_
  refine wpList_nil ?_
  refine nor_then (hK5 _ _ ?_)
  refine wp_seq_k fun _ hK7 => ?_
  refine wp_region_list ?_
  refine op_val (ex_field fa_46_2 hf rfl) rfl hf rfl rfl fun a hf => ?_
  refine op_val (ex_load1 (o := 2) ag_9 (hO.blkSees (i := 2) rfl) rfl hf rfl) rfl hf rfl rfl fun a hf => ?_
  obtain ⟨r6, hr6, hm⟩ := ob hm
  refine op_enter (ex_call c_39 hf (vs := [str x_h.Target]) rfl) rfl hf rfl rfl (w_law15_few x_h.Target r6 _ (hG.own hF hO) hr6) ?_
  rintro e w' ⟨he, hb⟩
  refine ⟨_, he, fun a hf => ?_⟩
  have hO := hO.grow hb
  refine op_val (ex_field fa_46_2 hf rfl) rfl hf rfl rfl fun a hf => ?_
  refine op_store1 (i := 2) (o := 2) (v := str r6) sz_9 rfl rfl rfl rfl hf rfl rfl hO fun w hO => ?_
  refine wpList_nil ?_
  refine nor_then (hK7 _ _ ?_)
  refine wp_seq_k fun _ hK9 => ?_
  refine wp_region_list ?_
  refine op_val (ex_field fa_46_4 hf rfl) rfl hf rfl rfl fun a hf => ?_
  refine op_val (ex_load1 (o := 4) ag_9 (hO.blkSees (i := 2) rfl) rfl hf rfl) rfl hf rfl rfl fun a hf => ?_
  obtain ⟨r8, hr8, hm⟩ := ob hm
  refine op_enter (ex_call c_39 hf (vs := [str x_h.Reason]) rfl) rfl hf rfl rfl (w_law15_few x_h.Reason r8 _ (hG.own hF hO) hr8) ?_
  rintro e w' ⟨he, hb⟩
  refine ⟨_, he, fun a hf => ?_⟩
  have hO := hO.grow hb
  refine op_val (ex_field fa_46_4 hf rfl) rfl hf rfl rfl fun a hf => ?_
  refine op_store1 (i := 2) (o := 4) (v := str r8) sz_9 rfl rfl rfl rfl hf rfl rfl hO fun w hO => ?_
  refine wpList_nil ?_
  refine nor_then (hK9 _ _ ?_)
  refine wp_seq_k fun _ hK10 => ?_
  refine wp_region_list ?_
  have hO := hO.nilRow 53 2
  refine op_val (ex_assign hf rfl) rfl hf rfl rfl fun a hf => ?_
  refine wpList_nil ?_
  refine nor_then (hK10 _ _ ?_)
  refine wp_seq_k fun _ hK34 => ?_
  refine wp_seq_k fun _ hK11 => ?_
  refine wp_region_list ?_
  refine op_val (ex_assign hf rfl) rfl hf rfl rfl fun a hf => ?_
  refine wpList_nil ?_
  refine nor_then (hK11 _ _ ?_)
  refine wp_block ?_
  refine wp_loop_n (fun k a w => ∃ (p12 : Option Addr) (c13 : Nat) (l14 : List api_Field) (i15 : Int), Fits 49 [(1, ptr b1 0), (2, ptr b2 0), (3, .slice p12 l14.length c13), (4, int i15)] a ∧ Dk.Own w0 [] w [.row (.slice p12 l14.length c13) 53 2 l14.length (cells enc_api_Field l14), .row (.slice none 0 0) 53 2 0 (cells enc_api_Field []), .blk b2 [int 0, str [], str [], int 0, str [], int 0, .slice none 0 0] 46, .blk b1 [int x_h.Kind, str r4, str r6, int x_h.Code, str r8, int x_h.Minor, .slice x_h_p0 x_h.Fields.length x_h_c0] 46, .shr x_h_p0 (cells enc_api_Field x_h.Fields)] ∧ law15_Few_L1 x_h r4 r6 r8 k l14 i15 = some R) ?_ fuel ?_
  · rintro n1 a w ⟨p12, c13, l14, i15, hf, hO, hm⟩
    obtain _ | n1 := n1
    · rw [law15_Few_L1] at hm
      cases hm
    · rw [law15_Few_L1] at hm
      refine wp_seq_k fun _ hK19 => ?_
      refine wp_seq_cut (fun a w => ∃ (t17 : Bool), Fits 49 [(1, ptr b1 0), (2, ptr b2 0), (3, .slice p12 l14.length c13), (4, int i15), (25, .bool t17)] a ∧ Dk.Own w0 [] w [.row (.slice p12 l14.length c13) 53 2 l14.length (cells enc_api_Field l14), .row (.slice none 0 0) 53 2 0 (cells enc_api_Field []), .blk b2 [int 0, str [], str [], int 0, str [], int 0, .slice none 0 0] 46, .blk b1 [int x_h.Kind, str r4, str r6, int x_h.Code, str r8, int x_h.Minor, .slice x_h_p0 x_h.Fields.length x_h_c0] 46, .shr x_h_p0 (cells enc_api_Field x_h.Fields)] ∧ law15_Few_j2 (law15_Few_L1 x_h r4 r6 r8 n1) x_h r4 r6 r8 l14 i15 t17 = some R) ?_ ?_
      · refine wp_region_list ?_
        refine op_val (ex_move hf rfl) rfl hf rfl rfl fun a hf => ?_
        refine op_val (ex_field fa_46_6 hf rfl) rfl hf rfl rfl fun a hf => ?_
        refine op_val (ex_load1 (o := 6) ag_42 (hO.blkSees (i := 3) rfl) rfl hf rfl) rfl hf rfl rfl fun a hf => ?_
        refine op_val (ex_len_l Tryz.underlying42 hf rfl) rfl hf rfl rfl fun a hf => ?_
        refine op_val (ex_lss (m := i15) (n := (x_h.Fields.length : Int)) hf rfl rfl) rfl hf rfl rfl fun a hf => ?_
        refine op_val (ex_move hf rfl) rfl hf rfl rfl fun a hf => ?_
        rcases bcase (decide (i15 < (x_h.Fields.length : Int))) with hc16 | hc16
        · have hm := it hc16 hm
          refine op_guard rfl hf rfl rfl (hc16) ?_
          refine op_val (ex_move hf rfl) rfl hf rfl rfl fun a hf => ?_
          refine op_guard rfl hf rfl rfl (hc16) ?_
          refine op_val (ex_lss (m := i15) (n := 120) hf rfl rfl) rfl hf rfl rfl fun a hf => ?_
          refine op_val (ex_pick_t hf rfl hc16 rfl) rfl hf rfl rfl fun a hf => ?_
          refine wpList_nil ?_
          refine nor_then ?_
          exact ⟨decide (i15 < 120), (hf.cons rfl (hf.cons rfl (hf.cons rfl (hf.cons rfl (hf.cons rfl hf.nil))))), hO, hm⟩
        · have hm := ie hc16 hm
          refine op_pass rfl hf rfl rfl (hc16) rfl rfl fun a hf => ?_
          refine op_pass rfl hf rfl rfl (hc16) rfl rfl fun a hf => ?_
          refine op_val (ex_pick_f hf rfl hc16 rfl) rfl hf rfl rfl fun a hf => ?_
          refine wpList_nil ?_
          refine nor_then ?_
          exact ⟨false, (hf.cons rfl (hf.cons rfl (hf.cons rfl (hf.cons rfl (hf.cons rfl hf.nil))))), hO, hm⟩
      · rintro a w ⟨t17, hf, hO, hm⟩
        rw [law15_Few_j2] at hm
        refine wp_cond_cut hf rfl (fun hc18 => ?_) (fun hc18 => ?_)
        · have hm := it hc18 hm
          refine wp_skip ?_
          refine nor_then (hK19 _ _ ?_)
          refine wp_seq_k fun _ hK32 => ?_
          refine wp_block ?_
          obtain ⟨x20, hx20, hm⟩ := ob hm
          obtain ⟨b21, o22, hix20, hSx20⟩ := elemAt (enc := enc_api_Field) (sz := 2) (xs := x_h.Fields) 42 Tryz.underlying42 sz_53 (by decide) (fun _ => rfl) (hO.sees (i := 4) rfl) hx20
          obtain ⟨r23, hr23, hm⟩ := ob hm
          obtain ⟨x24, hx24, hm⟩ := ob hm
          obtain ⟨b25, o26, hix24, hSx24⟩ := elemAt (enc := enc_api_Field) (sz := 2) (xs := x_h.Fields) 42 Tryz.underlying42 sz_53 (by decide) (fun _ => rfl) (hO.sees (i := 4) rfl) hx24
          obtain ⟨r27, hr27, hm⟩ := ob hm
          obtain ⟨hg31, hm⟩ := og hm
          refine wp_drawS' (S := Nat × Option Addr × Nat) (E0 := [(1, ptr b1 0), (2, ptr b2 0), (3, .slice p12 l14.length c13), (4, int i15)]) (by kernel_rfl) (fun k σ w => match k with | 0 => Dk.Own w0 [] w [.row (.slice p12 l14.length c13) 53 2 l14.length (cells enc_api_Field l14), .row (.slice none 0 0) 53 2 0 (cells enc_api_Field []), .blk b2 [int 0, str [], str [], int 0, str [], int 0, .slice none 0 0] 46, .blk b1 [int x_h.Kind, str r4, str r6, int x_h.Code, str r8, int x_h.Minor, .slice x_h_p0 x_h.Fields.length x_h_c0] 46, .shr x_h_p0 (cells enc_api_Field x_h.Fields)] | 1 => Dk.Own w0 [] w [.row (.slice p12 l14.length c13) 53 2 l14.length (cells enc_api_Field l14), .row (.slice none 0 0) 53 2 0 (cells enc_api_Field []), .blk b2 [int 0, str [], str [], int 0, str [], int 0, .slice none 0 0] 46, .blk b1 [int x_h.Kind, str r4, str r6, int x_h.Code, str r8, int x_h.Minor, .slice x_h_p0 x_h.Fields.length x_h_c0] 46, .shr x_h_p0 (cells enc_api_Field x_h.Fields)] | 2 => Dk.Own w0 [] w [.row (.slice p12 l14.length c13) 53 2 l14.length (cells enc_api_Field l14), .row (.slice none 0 0) 53 2 0 (cells enc_api_Field []), .blk b2 [int 0, str [], str [], int 0, str [], int 0, .slice none 0 0] 46, .blk b1 [int x_h.Kind, str r4, str r6, int x_h.Code, str r8, int x_h.Minor, .slice x_h_p0 x_h.Fields.length x_h_c0] 46, .shr x_h_p0 (cells enc_api_Field x_h.Fields)] | 3 => Dk.Own w0 [] w [.row (.slice (some ⟨(σ.1), 0, none⟩) (([(⟨r23, r27⟩ : api_Field)]).length) 1) 53 2 (([(⟨r23, r27⟩ : api_Field)]).length) (cells enc_api_Field ([(⟨r23, r27⟩ : api_Field)])), .row (.slice p12 l14.length c13) 53 2 l14.length (cells enc_api_Field l14), .row (.slice none 0 0) 53 2 0 (cells enc_api_Field []), .blk b2 [int 0, str [], str [], int 0, str [], int 0, .slice none 0 0] 46, .blk b1 [int x_h.Kind, str r4, str r6, int x_h.Code, str r8, int x_h.Minor, .slice x_h_p0 x_h.Fields.length x_h_c0] 46, .shr x_h_p0 (cells enc_api_Field x_h.Fields)] | _ => Dk.Own w0 [] w [.row (.slice (some ⟨(σ.1), 0, none⟩) (([(⟨r23, r27⟩ : api_Field)]).length) 1) 53 2 (([(⟨r23, r27⟩ : api_Field)]).length) (cells enc_api_Field ([(⟨r23, r27⟩ : api_Field)])), .row (.slice (σ.2.1) ((l14 ++ [(⟨r23, r27⟩ : api_Field)]).length) (σ.2.2)) 53 2 ((l14 ++ [(⟨r23, r27⟩ : api_Field)]).length) (cells enc_api_Field (l14 ++ [(⟨r23, r27⟩ : api_Field)])), .row (.slice none 0 0) 53 2 0 (cells enc_api_Field []), .blk b2 [int 0, str [], str [], int 0, str [], int 0, .slice none 0 0] 46, .blk b1 [int x_h.Kind, str r4, str r6, int x_h.Code, str r8, int x_h.Minor, .slice x_h_p0 x_h.Fields.length x_h_c0] 46, .shr x_h_p0 (cells enc_api_Field x_h.Fields)]) (fun σ => [⟨[(3, .slice p12 l14.length c13)], some (28, .slice p12 l14.length c13)⟩, ⟨[(1, ptr b1 0)], some (29, ptr b1 6)⟩, ⟨[(29, ptr b1 6)], some (30, .slice x_h_p0 x_h.Fields.length x_h_c0)⟩, ⟨[(4, int i15)], some (31, int i15)⟩, ⟨[(30, .slice x_h_p0 x_h.Fields.length x_h_c0), (31, int i15)], some (32, ptr b21 o22)⟩, ⟨[(32, ptr b21 o22)], some (33, ptr b21 o22)⟩, ⟨[(33, ptr b21 o22)], some (34, str x20.Name)⟩, ⟨[(34, str x20.Name)], some (35, str r23)⟩, ⟨[(1, ptr b1 0)], some (36, ptr b1 6)⟩, ⟨[(36, ptr b1 6)], some (37, .slice x_h_p0 x_h.Fields.length x_h_c0)⟩, ⟨[(4, int i15)], some (38, int i15)⟩, ⟨[(37, .slice x_h_p0 x_h.Fields.length x_h_c0), (38, int i15)], some (39, ptr b25 o26)⟩, ⟨[(39, ptr b25 o26)], some (40, ptr b25 (o26 + 1))⟩, ⟨[(40, ptr b25 (o26 + 1))], some (41, str x24.Value)⟩, ⟨[(41, str x24.Value)], some (42, str r27)⟩, ⟨[(35, str r23), (42, str r27)], some (43, .agg #[str r23, str r27])⟩, ⟨[(43, .agg #[str r23, str r27])], some (44, .slice (some ⟨(σ.1), 0, none⟩) (([(⟨r23, r27⟩ : api_Field)]).length) 1)⟩, ⟨[(28, .slice p12 l14.length c13), (44, .slice (some ⟨(σ.1), 0, none⟩) (([(⟨r23, r27⟩ : api_Field)]).length) 1)], some (45, .slice (σ.2.1) ((l14 ++ [(⟨r23, r27⟩ : api_Field)]).length) (σ.2.2))⟩, ⟨[(45, .slice (σ.2.1) ((l14 ++ [(⟨r23, r27⟩ : api_Field)]).length) (σ.2.2))], some (3, .slice (σ.2.1) ((l14 ++ [(⟨r23, r27⟩ : api_Field)]).length) (σ.2.2))⟩]) (0, none, 0) [7, 14, 16, 17] rfl (fun _ => rfl) (fun _ => rfl) (fun _ => rfl) rfl rfl (by decide) rfl hO.drew (hf.cons rfl (hf.cons rfl (hf.cons rfl (hf.cons rfl hf.nil)))) (fun σ => ⟨⟨rfl, trivial⟩, ⟨⟨rfl, trivial⟩, ⟨⟨rfl, trivial⟩, ⟨⟨rfl, trivial⟩, ⟨⟨rfl, ⟨rfl, trivial⟩⟩, ⟨⟨rfl, trivial⟩, ⟨⟨rfl, trivial⟩, ⟨⟨rfl, trivial⟩, ⟨⟨rfl, trivial⟩, ⟨⟨rfl, trivial⟩, ⟨⟨rfl, trivial⟩, ⟨⟨rfl, ⟨rfl, trivial⟩⟩, ⟨⟨rfl, trivial⟩, ⟨⟨rfl, trivial⟩, ⟨⟨rfl, trivial⟩, ⟨⟨rfl, ⟨rfl, trivial⟩⟩, ⟨⟨rfl, trivial⟩, ⟨⟨rfl, ⟨rfl, trivial⟩⟩, ⟨⟨rfl, trivial⟩, trivial⟩⟩⟩⟩⟩⟩⟩⟩⟩⟩⟩⟩⟩⟩⟩⟩⟩⟩⟩) ⟨sS_pure rfl (fun σ => rfl) (fun σ => rfl) (fun σ a w k _ _ _ _ hf => ex_move hf rfl), ⟨sS_pure rfl (fun σ => rfl) (fun σ => rfl) (fun σ a w k _ _ _ _ hf => ex_field fa_46_6 hf rfl), ⟨sS_pure rfl (fun σ => rfl) (fun σ => rfl) (fun σ a w k hk hlo hup hst hf => match k, hk, hlo, hup, hst, hf with | 0, _, _, _, hst, hf => have hO : Dk.Own w0 [] w [.row (.slice p12 l14.length c13) 53 2 l14.length (cells enc_api_Field l14), .row (.slice none 0 0) 53 2 0 (cells enc_api_Field []), .blk b2 [int 0, str [], str [], int 0, str [], int 0, .slice none 0 0] 46, .blk b1 [int x_h.Kind, str r4, str r6, int x_h.Code, str r8, int x_h.Minor, .slice x_h_p0 x_h.Fields.length x_h_c0] 46, .shr x_h_p0 (cells enc_api_Field x_h.Fields)] := hst; ex_load1 (o := 6) ag_42 (hO.blkSees (i := 3) rfl) rfl hf rfl | 1, _, _, _, hst, hf => have hO : Dk.Own w0 [] w [.row (.slice p12 l14.length c13) 53 2 l14.length (cells enc_api_Field l14), .row (.slice none 0 0) 53 2 0 (cells enc_api_Field []), .blk b2 [int 0, str [], str [], int 0, str [], int 0, .slice none 0 0] 46, .blk b1 [int x_h.Kind, str r4, str r6, int x_h.Code, str r8, int x_h.Minor, .slice x_h_p0 x_h.Fields.length x_h_c0] 46, .shr x_h_p0 (cells enc_api_Field x_h.Fields)] := hst; ex_load1 (o := 6) ag_42 (hO.blkSees (i := 3) rfl) rfl hf rfl | 2, _, _, _, hst, hf => have hO : Dk.Own w0 [] w [.row (.slice p12 l14.length c13) 53 2 l14.length (cells enc_api_Field l14), .row (.slice none 0 0) 53 2 0 (cells enc_api_Field []), .blk b2 [int 0, str [], str [], int 0, str [], int 0, .slice none 0 0] 46, .blk b1 [int x_h.Kind, str r4, str r6, int x_h.Code, str r8, int x_h.Minor, .slice x_h_p0 x_h.Fields.length x_h_c0] 46, .shr x_h_p0 (cells enc_api_Field x_h.Fields)] := hst; ex_load1 (o := 6) ag_42 (hO.blkSees (i := 3) rfl) rfl hf rfl | 3, _, _, _, hst, hf => have hO : Dk.Own w0 [] w [.row (.slice (some ⟨(σ.1), 0, none⟩) (([(⟨r23, r27⟩ : api_Field)]).length) 1) 53 2 (([(⟨r23, r27⟩ : api_Field)]).length) (cells enc_api_Field ([(⟨r23, r27⟩ : api_Field)])), .row (.slice p12 l14.length c13) 53 2 l14.length (cells enc_api_Field l14), .row (.slice none 0 0) 53 2 0 (cells enc_api_Field []), .blk b2 [int 0, str [], str [], int 0, str [], int 0, .slice none 0 0] 46, .blk b1 [int x_h.Kind, str r4, str r6, int x_h.Code, str r8, int x_h.Minor, .slice x_h_p0 x_h.Fields.length x_h_c0] 46, .shr x_h_p0 (cells enc_api_Field x_h.Fields)] := hst; ex_load1 (o := 6) ag_42 (hO.blkSees (i := 4) rfl) rfl hf rfl | 4, _, _, _, hst, hf => have hO : Dk.Own w0 [] w [.row (.slice (some ⟨(σ.1), 0, none⟩) (([(⟨r23, r27⟩ : api_Field)]).length) 1) 53 2 (([(⟨r23, r27⟩ : api_Field)]).length) (cells enc_api_Field ([(⟨r23, r27⟩ : api_Field)])), .row (.slice (σ.2.1) ((l14 ++ [(⟨r23, r27⟩ : api_Field)]).length) (σ.2.2)) 53 2 ((l14 ++ [(⟨r23, r27⟩ : api_Field)]).length) (cells enc_api_Field (l14 ++ [(⟨r23, r27⟩ : api_Field)])), .row (.slice none 0 0) 53 2 0 (cells enc_api_Field []), .blk b2 [int 0, str [], str [], int 0, str [], int 0, .slice none 0 0] 46, .blk b1 [int x_h.Kind, str r4, str r6, int x_h.Code, str r8, int x_h.Minor, .slice x_h_p0 x_h.Fields.length x_h_c0] 46, .shr x_h_p0 (cells enc_api_Field x_h.Fields)] := hst; ex_load1 (o := 6) ag_42 (hO.blkSees (i := 4) rfl) rfl hf rfl | k + 5, hk, _, _, _, _ => absurd hk (by simp)), ⟨sS_pure rfl (fun σ => rfl) (fun σ => rfl) (fun σ a w k _ _ _ _ hf => ex_move hf rfl), ⟨sS_pure rfl (fun σ => rfl) (fun σ => rfl) (fun σ a w k _ _ _ _ hf => ex_indexAddr hix20 hf rfl rfl), ⟨sS_pure rfl (fun σ => rfl) (fun σ => rfl) (fun σ a w k _ _ _ _ hf => ex_field fa_53_0 hf rfl), ⟨sS_pure rfl (fun σ => rfl) (fun σ => rfl) (fun σ a w k hk hlo hup hst hf => match k, hk, hlo, hup, hst, hf with | 0, _, _, _, hst, hf => have hO : Dk.Own w0 [] w [.row (.slice p12 l14.length c13) 53 2 l14.length (cells enc_api_Field l14), .row (.slice none 0 0) 53 2 0 (cells enc_api_Field []), .blk b2 [int 0, str [], str [], int 0, str [], int 0, .slice none 0 0] 46, .blk b1 [int x_h.Kind, str r4, str r6, int x_h.Code, str r8, int x_h.Minor, .slice x_h_p0 x_h.Fields.length x_h_c0] 46, .shr x_h_p0 (cells enc_api_Field x_h.Fields)] := hst; ex_load1 (o := 0) ag_9 (hSx20 _ (hO.sees (i := 4) rfl)) rfl hf rfl | 1, _, _, _, hst, hf => have hO : Dk.Own w0 [] w [.row (.slice p12 l14.length c13) 53 2 l14.length (cells enc_api_Field l14), .row (.slice none 0 0) 53 2 0 (cells enc_api_Field []), .blk b2 [int 0, str [], str [], int 0, str [], int 0, .slice none 0 0] 46, .blk b1 [int x_h.Kind, str r4, str r6, int x_h.Code, str r8, int x_h.Minor, .slice x_h_p0 x_h.Fields.length x_h_c0] 46, .shr x_h_p0 (cells enc_api_Field x_h.Fields)] := hst; ex_load1 (o := 0) ag_9 (hSx20 _ (hO.sees (i := 4) rfl)) rfl hf rfl | 2, _, _, _, hst, hf => have hO : Dk.Own w0 [] w [.row (.slice p12 l14.length c13) 53 2 l14.length (cells enc_api_Field l14), .row (.slice none 0 0) 53 2 0 (cells enc_api_Field []), .blk b2 [int 0, str [], str [], int 0, str [], int 0, .slice none 0 0] 46, .blk b1 [int x_h.Kind, str r4, str r6, int x_h.Code, str r8, int x_h.Minor, .slice x_h_p0 x_h.Fields.length x_h_c0] 46, .shr x_h_p0 (cells enc_api_Field x_h.Fields)] := hst; ex_load1 (o := 0) ag_9 (hSx20 _ (hO.sees (i := 4) rfl)) rfl hf rfl | 3, _, _, _, hst, hf => have hO : Dk.Own w0 [] w [.row (.slice (some ⟨(σ.1), 0, none⟩) (([(⟨r23, r27⟩ : api_Field)]).length) 1) 53 2 (([(⟨r23, r27⟩ : api_Field)]).length) (cells enc_api_Field ([(⟨r23, r27⟩ : api_Field)])), .row (.slice p12 l14.length c13) 53 2 l14.length (cells enc_api_Field l14), .row (.slice none 0 0) 53 2 0 (cells enc_api_Field []), .blk b2 [int 0, str [], str [], int 0, str [], int 0, .slice none 0 0] 46, .blk b1 [int x_h.Kind, str r4, str r6, int x_h.Code, str r8, int x_h.Minor, .slice x_h_p0 x_h.Fields.length x_h_c0] 46, .shr x_h_p0 (cells enc_api_Field x_h.Fields)] := hst; ex_load1 (o := 0) ag_9 (hSx20 _ (hO.sees (i := 5) rfl)) rfl hf rfl | 4, _, _, _, hst, hf => have hO : Dk.Own w0 [] w [.row (.slice (some ⟨(σ.1), 0, none⟩) (([(⟨r23, r27⟩ : api_Field)]).length) 1) 53 2 (([(⟨r23, r27⟩ : api_Field)]).length) (cells enc_api_Field ([(⟨r23, r27⟩ : api_Field)])), .row (.slice (σ.2.1) ((l14 ++ [(⟨r23, r27⟩ : api_Field)]).length) (σ.2.2)) 53 2 ((l14 ++ [(⟨r23, r27⟩ : api_Field)]).length) (cells enc_api_Field (l14 ++ [(⟨r23, r27⟩ : api_Field)])), .row (.slice none 0 0) 53 2 0 (cells enc_api_Field []), .blk b2 [int 0, str [], str [], int 0, str [], int 0, .slice none 0 0] 46, .blk b1 [int x_h.Kind, str r4, str r6, int x_h.Code, str r8, int x_h.Minor, .slice x_h_p0 x_h.Fields.length x_h_c0] 46, .shr x_h_p0 (cells enc_api_Field x_h.Fields)] := hst; ex_load1 (o := 0) ag_9 (hSx20 _ (hO.sees (i := 5) rfl)) rfl hf rfl | k + 5, hk, _, _, _, _ => absurd hk (by simp)), ⟨sS_call rfl (fun σ => rfl) (fun σ => rfl) rfl (fun σ a w (_ : _) hf => ex_call c_39 hf (vs := [str x20.Name]) rfl) (fun σ w (hO : Dk.Own w0 [] w [.row (.slice p12 l14.length c13) 53 2 l14.length (cells enc_api_Field l14), .row (.slice none 0 0) 53 2 0 (cells enc_api_Field []), .blk b2 [int 0, str [], str [], int 0, str [], int 0, .slice none 0 0] 46, .blk b1 [int x_h.Kind, str r4, str r6, int x_h.Code, str r8, int x_h.Minor, .slice x_h_p0 x_h.Fields.length x_h_c0] 46, .shr x_h_p0 (cells enc_api_Field x_h.Fields)]) => (w_law15_few x20.Name r23 _ (hG.own hF hO) hr23).mono fun e w' h => by obtain ⟨he, hb⟩ := h; exact ⟨((σ.1), (σ.2.1), (σ.2.2)), he, hO.grow hb, ⟨.inr rfl, ⟨.inr rfl, ⟨.inr rfl, ⟨.inr rfl, ⟨.inr rfl, ⟨.inr rfl, ⟨.inr rfl, ⟨.inr rfl, ⟨.inr rfl, ⟨.inr rfl, ⟨.inr rfl, ⟨.inr rfl, ⟨.inr rfl, ⟨.inr rfl, ⟨.inr rfl, ⟨.inr rfl, ⟨.inr rfl, ⟨.inr rfl, ⟨.inr rfl, trivial⟩⟩⟩⟩⟩⟩⟩⟩⟩⟩⟩⟩⟩⟩⟩⟩⟩⟩⟩⟩), ⟨sS_pure rfl (fun σ => rfl) (fun σ => rfl) (fun σ a w k _ _ _ _ hf => ex_field fa_46_6 hf rfl), ⟨sS_pure rfl (fun σ => rfl) (fun σ => rfl) (fun σ a w k hk hlo hup hst hf => match k, hk, hlo, hup, hst, hf with | 0, _, _, _, hst, hf => have hO : Dk.Own w0 [] w [.row (.slice p12 l14.length c13) 53 2 l14.length (cells enc_api_Field l14), .row (.slice none 0 0) 53 2 0 (cells enc_api_Field []), .blk b2 [int 0, str [], str [], int 0, str [], int 0, .slice none 0 0] 46, .blk b1 [int x_h.Kind, str r4, str r6, int x_h.Code, str r8, int x_h.Minor, .slice x_h_p0 x_h.Fields.length x_h_c0] 46, .shr x_h_p0 (cells enc_api_Field x_h.Fields)] := hst; ex_load1 (o := 6) ag_42 (hO.blkSees (i := 3) rfl) rfl hf rfl | 1, _, _, _, hst, hf => have hO : Dk.Own w0 [] w [.row (.slice p12 l14.length c13) 53 2 l14.length (cells enc_api_Field l14), .row (.slice none 0 0) 53 2 0 (cells enc_api_Field []), .blk b2 [int 0, str [], str [], int 0, str [], int 0, .slice none 0 0] 46, .blk b1 [int x_h.Kind, str r4, str r6, int x_h.Code, str r8, int x_h.Minor, .slice x_h_p0 x_h.Fields.length x_h_c0] 46, .shr x_h_p0 (cells enc_api_Field x_h.Fields)] := hst; ex_load1 (o := 6) ag_42 (hO.blkSees (i := 3) rfl) rfl hf rfl | 2, _, _, _, hst, hf => have hO : Dk.Own w0 [] w [.row (.slice p12 l14.length c13) 53 2 l14.length (cells enc_api_Field l14), .row (.slice none 0 0) 53 2 0 (cells enc_api_Field []), .blk b2 [int 0, str [], str [], int 0, str [], int 0, .slice none 0 0] 46, .blk b1 [int x_h.Kind, str r4, str r6, int x_h.Code, str r8, int x_h.Minor, .slice x_h_p0 x_h.Fields.length x_h_c0] 46, .shr x_h_p0 (cells enc_api_Field x_h.Fields)] := hst; ex_load1 (o := 6) ag_42 (hO.blkSees (i := 3) rfl) rfl hf rfl | 3, _, _, _, hst, hf => have hO : Dk.Own w0 [] w [.row (.slice (some ⟨(σ.1), 0, none⟩) (([(⟨r23, r27⟩ : api_Field)]).length) 1) 53 2 (([(⟨r23, r27⟩ : api_Field)]).length) (cells enc_api_Field ([(⟨r23, r27⟩ : api_Field)])), .row (.slice p12 l14.length c13) 53 2 l14.length (cells enc_api_Field l14), .row (.slice none 0 0) 53 2 0 (cells enc_api_Field []), .blk b2 [int 0, str [], str [], int 0, str [], int 0, .slice none 0 0] 46, .blk b1 [int x_h.Kind, str r4, str r6, int x_h.Code, str r8, int x_h.Minor, .slice x_h_p0 x_h.Fields.length x_h_c0] 46, .shr x_h_p0 (cells enc_api_Field x_h.Fields)] := hst; ex_load1 (o := 6) ag_42 (hO.blkSees (i := 4) rfl) rfl hf rfl | 4, _, _, _, hst, hf => have hO : Dk.Own w0 [] w [.row (.slice (some ⟨(σ.1), 0, none⟩) (([(⟨r23, r27⟩ : api_Field)]).length) 1) 53 2 (([(⟨r23, r27⟩ : api_Field)]).length) (cells enc_api_Field ([(⟨r23, r27⟩ : api_Field)])), .row (.slice (σ.2.1) ((l14 ++ [(⟨r23, r27⟩ : api_Field)]).length) (σ.2.2)) 53 2 ((l14 ++ [(⟨r23, r27⟩ : api_Field)]).length) (cells enc_api_Field (l14 ++ [(⟨r23, r27⟩ : api_Field)])), .row (.slice none 0 0) 53 2 0 (cells enc_api_Field []), .blk b2 [int 0, str [], str [], int 0, str [], int 0, .slice none 0 0] 46, .blk b1 [int x_h.Kind, str r4, str r6, int x_h.Code, str r8, int x_h.Minor, .slice x_h_p0 x_h.Fields.length x_h_c0] 46, .shr x_h_p0 (cells enc_api_Field x_h.Fields)] := hst; ex_load1 (o := 6) ag_42 (hO.blkSees (i := 4) rfl) rfl hf rfl | k + 5, hk, _, _, _, _ => absurd hk (by simp)), ⟨sS_pure rfl (fun σ => rfl) (fun σ => rfl) (fun σ a w k _ _ _ _ hf => ex_move hf rfl), ⟨sS_pure rfl (fun σ => rfl) (fun σ => rfl) (fun σ a w k _ _ _ _ hf => ex_indexAddr hix24 hf rfl rfl), ⟨sS_pure rfl (fun σ => rfl) (fun σ => rfl) (fun σ a w k _ _ _ _ hf => ex_field fa_53_1 hf rfl), ⟨sS_pure rfl (fun σ => rfl) (fun σ => rfl) (fun σ a w k hk hlo hup hst hf => match k, hk, hlo, hup, hst, hf with | 0, _, _, _, hst, hf => have hO : Dk.Own w0 [] w [.row (.slice p12 l14.length c13) 53 2 l14.length (cells enc_api_Field l14), .row (.slice none 0 0) 53 2 0 (cells enc_api_Field []), .blk b2 [int 0, str [], str [], int 0, str [], int 0, .slice none 0 0] 46, .blk b1 [int x_h.Kind, str r4, str r6, int x_h.Code, str r8, int x_h.Minor, .slice x_h_p0 x_h.Fields.length x_h_c0] 46, .shr x_h_p0 (cells enc_api_Field x_h.Fields)] := hst; ex_load1 (o := 1) ag_9 (hSx24 _ (hO.sees (i := 4) rfl)) rfl hf rfl | 1, _, _, _, hst, hf => have hO : Dk.Own w0 [] w [.row (.slice p12 l14.length c13) 53 2 l14.length (cells enc_api_Field l14), .row (.slice none 0 0) 53 2 0 (cells enc_api_Field []), .blk b2 [int 0, str [], str [], int 0, str [], int 0, .slice none 0 0] 46, .blk b1 [int x_h.Kind, str r4, str r6, int x_h.Code, str r8, int x_h.Minor, .slice x_h_p0 x_h.Fields.length x_h_c0] 46, .shr x_h_p0 (cells enc_api_Field x_h.Fields)] := hst; ex_load1 (o := 1) ag_9 (hSx24 _ (hO.sees (i := 4) rfl)) rfl hf rfl | 2, _, _, _, hst, hf => have hO : Dk.Own w0 [] w [.row (.slice p12 l14.length c13) 53 2 l14.length (cells enc_api_Field l14), .row (.slice none 0 0) 53 2 0 (cells enc_api_Field []), .blk b2 [int 0, str [], str [], int 0, str [], int 0, .slice none 0 0] 46, .blk b1 [int x_h.Kind, str r4, str r6, int x_h.Code, str r8, int x_h.Minor, .slice x_h_p0 x_h.Fields.length x_h_c0] 46, .shr x_h_p0 (cells enc_api_Field x_h.Fields)] := hst; ex_load1 (o := 1) ag_9 (hSx24 _ (hO.sees (i := 4) rfl)) rfl hf rfl | 3, _, _, _, hst, hf => have hO : Dk.Own w0 [] w [.row (.slice (some ⟨(σ.1), 0, none⟩) (([(⟨r23, r27⟩ : api_Field)]).length) 1) 53 2 (([(⟨r23, r27⟩ : api_Field)]).length) (cells enc_api_Field ([(⟨r23, r27⟩ : api_Field)])), .row (.slice p12 l14.length c13) 53 2 l14.length (cells enc_api_Field l14), .row (.slice none 0 0) 53 2 0 (cells enc_api_Field []), .blk b2 [int 0, str [], str [], int 0, str [], int 0, .slice none 0 0] 46, .blk b1 [int x_h.Kind, str r4, str r6, int x_h.Code, str r8, int x_h.Minor, .slice x_h_p0 x_h.Fields.length x_h_c0] 46, .shr x_h_p0 (cells enc_api_Field x_h.Fields)] := hst; ex_load1 (o := 1) ag_9 (hSx24 _ (hO.sees (i := 5) rfl)) rfl hf rfl | 4, _, _, _, hst, hf => have hO : Dk.Own w0 [] w [.row (.slice (some ⟨(σ.1), 0, none⟩) (([(⟨r23, r27⟩ : api_Field)]).length) 1) 53 2 (([(⟨r23, r27⟩ : api_Field)]).length) (cells enc_api_Field ([(⟨r23, r27⟩ : api_Field)])), .row (.slice (σ.2.1) ((l14 ++ [(⟨r23, r27⟩ : api_Field)]).length) (σ.2.2)) 53 2 ((l14 ++ [(⟨r23, r27⟩ : api_Field)]).length) (cells enc_api_Field (l14 ++ [(⟨r23, r27⟩ : api_Field)])), .row (.slice none 0 0) 53 2 0 (cells enc_api_Field []), .blk b2 [int 0, str [], str [], int 0, str [], int 0, .slice none 0 0] 46, .blk b1 [int x_h.Kind, str r4, str r6, int x_h.Code, str r8, int x_h.Minor, .slice x_h_p0 x_h.Fields.length x_h_c0] 46, .shr x_h_p0 (cells enc_api_Field x_h.Fields)] := hst; ex_load1 (o := 1) ag_9 (hSx24 _ (hO.sees (i := 5) rfl)) rfl hf rfl | k + 5, hk, _, _, _, _ => absurd hk (by simp)), ⟨sS_call rfl (fun σ => rfl) (fun σ => rfl) rfl (fun σ a w (_ : _) hf => ex_call c_39 hf (vs := [str x24.Value]) rfl) (fun σ w (hO : Dk.Own w0 [] w [.row (.slice p12 l14.length c13) 53 2 l14.length (cells enc_api_Field l14), .row (.slice none 0 0) 53 2 0 (cells enc_api_Field []), .blk b2 [int 0, str [], str [], int 0, str [], int 0, .slice none 0 0] 46, .blk b1 [int x_h.Kind, str r4, str r6, int x_h.Code, str r8, int x_h.Minor, .slice x_h_p0 x_h.Fields.length x_h_c0] 46, .shr x_h_p0 (cells enc_api_Field x_h.Fields)]) => (w_law15_few x24.Value r27 _ (hG.own hF hO) hr27).mono fun e w' h => by obtain ⟨he, hb⟩ := h; exact ⟨((σ.1), (σ.2.1), (σ.2.2)), he, hO.grow hb, ⟨.inr rfl, ⟨.inr rfl, ⟨.inr rfl, ⟨.inr rfl, ⟨.inr rfl, ⟨.inr rfl, ⟨.inr rfl, ⟨.inr rfl, ⟨.inr rfl, ⟨.inr rfl, ⟨.inr rfl, ⟨.inr rfl, ⟨.inr rfl, ⟨.inr rfl, ⟨.inr rfl, ⟨.inr rfl, ⟨.inr rfl, ⟨.inr rfl, ⟨.inr rfl, trivial⟩⟩⟩⟩⟩⟩⟩⟩⟩⟩⟩⟩⟩⟩⟩⟩⟩⟩⟩⟩), ⟨sS_pure rfl (fun σ => rfl) (fun σ => rfl) (fun σ a w k _ _ _ _ hf => ex_build (vs := [(0, str r23), (1, str r27)]) (v := .agg #[str r23, str r27]) hf rfl (by kernel_rfl)), ⟨sS_val rfl (fun σ => rfl) (fun σ => rfl) rfl (fun σ w (hO : Dk.Own w0 [] w [.row (.slice p12 l14.length c13) 53 2 l14.length (cells enc_api_Field l14), .row (.slice none 0 0) 53 2 0 (cells enc_api_Field []), .blk b2 [int 0, str [], str [], int 0, str [], int 0, .slice none 0 0] 46, .blk b1 [int x_h.Kind, str r4, str r6, int x_h.Code, str r8, int x_h.Minor, .slice x_h_p0 x_h.Fields.length x_h_c0] 46, .shr x_h_p0 (cells enc_api_Field x_h.Fields)]) => by obtain ⟨b28, w', hO', hr⟩ := ef_buildSlice (E := [(43, .agg #[str r23, str r27])]) (parts := #[(0, (.tmp 43))]) (t' := 42) (n := 1) (vs := [(0, .agg #[str r23, str r27])]) (cs := [str r23, str r27]) (e := 53) (sz := 2) (fun w => by kernel_rfl) rfl rfl hO rfl; exact ⟨(b28, (σ.2.1), (σ.2.2)), w', hO', ⟨.inr rfl, ⟨.inr rfl, ⟨.inr rfl, ⟨.inr rfl, ⟨.inr rfl, ⟨.inr rfl, ⟨.inr rfl, ⟨.inr rfl, ⟨.inr rfl, ⟨.inr rfl, ⟨.inr rfl, ⟨.inr rfl, ⟨.inr rfl, ⟨.inr rfl, ⟨.inr rfl, ⟨.inr rfl, ⟨.inl rfl, ⟨.inl rfl, ⟨.inr rfl, trivial⟩⟩⟩⟩⟩⟩⟩⟩⟩⟩⟩⟩⟩⟩⟩⟩⟩⟩⟩, hr⟩), ⟨sS_val rfl (fun σ => rfl) (fun σ => rfl) rfl (fun σ w (hO : Dk.Own w0 [] w [.row (.slice (some ⟨(σ.1), 0, none⟩) (([(⟨r23, r27⟩ : api_Field)]).length) 1) 53 2 (([(⟨r23, r27⟩ : api_Field)]).length) (cells enc_api_Field ([(⟨r23, r27⟩ : api_Field)])), .row (.slice p12 l14.length c13) 53 2 l14.length (cells enc_api_Field l14), .row (.slice none 0 0) 53 2 0 (cells enc_api_Field []), .blk b2 [int 0, str [], str [], int 0, str [], int 0, .slice none 0 0] 46, .blk b1 [int x_h.Kind, str r4, str r6, int x_h.Code, str r8, int x_h.Minor, .slice x_h_p0 x_h.Fields.length x_h_c0] 46, .shr x_h_p0 (cells enc_api_Field x_h.Fields)]) => by obtain ⟨p29, c30, w', hO', hr⟩ := ef_append (E := [(28, .slice p12 l14.length c13), (44, .slice (some ⟨(σ.1), 0, none⟩) (([(⟨r23, r27⟩ : api_Field)]).length) 1)]) (x := (.tmp 28)) (y := (.tmp 44)) el_42 (enc := enc_api_Field) (xs := l14) (ys := [(⟨r23, r27⟩ : api_Field)]) (i := 1) (fun _ => rfl) rfl (hO.rowSees (i := 0) rfl) (by simp [cells, enc_api_Field, Value.oneCell']) hg31 hO rfl rfl; exact ⟨((σ.1), p29, c30), w', hO', ⟨.inr rfl, ⟨.inr rfl, ⟨.inr rfl, ⟨.inr rfl, ⟨.inr rfl, ⟨.inr rfl, ⟨.inr rfl, ⟨.inr rfl, ⟨.inr rfl, ⟨.inr rfl, ⟨.inr rfl, ⟨.inr rfl, ⟨.inr rfl, ⟨.inr rfl, ⟨.inr rfl, ⟨.inr rfl, ⟨.inr rfl, ⟨.inl rfl, ⟨.inl rfl, trivial⟩⟩⟩⟩⟩⟩⟩⟩⟩⟩⟩⟩⟩⟩⟩⟩⟩⟩⟩, hr⟩), ⟨sS_pure rfl (fun σ => rfl) (fun σ => rfl) (fun σ a w k _ _ _ _ hf => ex_assign hf rfl), trivial⟩⟩⟩⟩⟩⟩⟩⟩⟩⟩⟩⟩⟩⟩⟩⟩⟩⟩⟩ ?_
          rintro ⟨b28, p29, c30⟩ a w hf hO
          have hO : Dk.Own w0 [] w [.row (.slice (some ⟨b28, 0, none⟩) (([(⟨r23, r27⟩ : api_Field)]).length) 1) 53 2 (([(⟨r23, r27⟩ : api_Field)]).length) (cells enc_api_Field ([(⟨r23, r27⟩ : api_Field)])), .row (.slice p29 ((l14 ++ [(⟨r23, r27⟩ : api_Field)]).length) c30) 53 2 ((l14 ++ [(⟨r23, r27⟩ : api_Field)]).length) (cells enc_api_Field (l14 ++ [(⟨r23, r27⟩ : api_Field)])), .row (.slice none 0 0) 53 2 0 (cells enc_api_Field []), .blk b2 [int 0, str [], str [], int 0, str [], int 0, .slice none 0 0] 46, .blk b1 [int x_h.Kind, str r4, str r6, int x_h.Code, str r8, int x_h.Minor, .slice x_h_p0 x_h.Fields.length x_h_c0] 46, .shr x_h_p0 (cells enc_api_Field x_h.Fields)] := hO
          have hf : Fits 49 [(1, ptr b1 0), (2, ptr b2 0), (3, .slice p29 ((l14 ++ [(⟨r23, r27⟩ : api_Field)]).length) c30), (4, int i15)] a := (hf.cons rfl (hf.cons rfl (hf.cons rfl (hf.cons rfl hf.nil))))
          refine nor_block ?_
          refine nor_then (hK32 _ _ ?_)
          refine wp_region_list ?_
          refine op_val (ex_move hf rfl) rfl hf rfl rfl fun a hf => ?_
          obtain ⟨i33, hi33, hm⟩ := ob hm
          refine op_val (ex_add hf rfl rfl hi33) rfl hf rfl rfl fun a hf => ?_
          refine op_val (ex_assign hf rfl) rfl hf rfl rfl fun a hf => ?_
          refine wpList_nil ?_
          refine nor_then ?_
          exact ⟨_, Nat.lt_succ_self _, p29, c30, l14 ++ [(⟨r23, r27⟩ : api_Field)], i33, (hf.cons rfl (hf.cons rfl (hf.cons rfl (hf.cons rfl hf.nil)))), (hO.sub (.cons _ (.cons_cons _ (.cons_cons _ (.cons_cons _ (.cons_cons _ (.cons_cons _ .slnil))))))), hm⟩
        · have hm := ie hc18 hm
          refine wp_exit ?_
          refine exit_then ?_
          refine exit_then ?_
          refine exit_here ?_
          refine nor_then (hK34 _ _ ?_)
          refine wp_seq_k fun _ hK35 => ?_
          refine wp_region_list ?_
          refine op_val (ex_move hf rfl) rfl hf rfl rfl fun a hf => ?_
          refine op_val (ex_field fa_46_6 hf rfl) rfl hf rfl rfl fun a hf => ?_
          refine op_store1 (i := 3) (o := 6) (v := .slice p12 l14.length c13) sz_42 rfl rfl rfl rfl hf rfl rfl hO fun w hO => ?_
          refine wpList_nil ?_
          refine nor_then (hK35 _ _ ?_)
          refine wp_seq_k fun _ hK36 => ?_
          refine wp_region_list ?_
          refine op_val (ex_loadN (o := 0) (vs := [int x_h.Kind, str r4, str r6, int x_h.Code, str r8, int x_h.Minor, .slice p12 l14.length c13]) ag_46 sz_46 (hO.blkSees (i := 3) rfl) rfl rfl hf rfl) rfl hf rfl rfl fun a hf => ?_
          refine op_storeN (i := 2) (n := 7) sz_46 rfl rfl rfl (by simp [Value.oneCell']) hf rfl rfl hO fun w hO => ?_
          refine wpList_nil ?_
          refine nor_then (hK36 _ _ ?_)
          refine wp_ret ?_
          obtain rfl := Option.some.inj hm
          exact post_ret Tryz.results18 hf (.cell rfl (run_loadVarN (n := 7) (vs := [int x_h.Kind, str r4, str r6, int x_h.Code, str r8, int x_h.Minor, .slice p12 l14.length c13]) ag_46 sz_46 rfl ((hO.blkSees (i := 2) rfl).cells (o := 0) (n := 7) rfl)) .nil) ⟨p12, c13, rfl, (hO.sub (.cons_cons _ (.cons _ (.cons _ (.cons _ (.cons _ .slnil))))))⟩
  · exact ⟨none, 0, [], 0, (hf.cons rfl (hf.cons rfl (hf.cons rfl (hf.cons rfl hf.nil)))), hO, hm⟩

set_option maxHeartbeats 1000000 in
theorem w_location_Fields (x_env : api_Env) (x_l : List api_Field) (R : List api_Field) (w0 : World) (hG : GlobT w0) {x_env_p0 : Option Addr} {x_env_c0 : Nat} (hs0 : Sees w0 x_env_p0 (cells enc_api_Swap x_env.Domains)) (hc0 : x_env.Domains.length ≤ x_env_c0) {x_env_p1 : Option Addr} {x_env_c1 : Nat} (hs1 : Sees w0 x_env_p1 (cells enc_api_Swap x_env.Locations)) (hc1 : x_env.Locations.length ≤ x_env_c1) {x_l_p2 : Option Addr} {x_l_c2 : Nat} (hs2 : Sees w0 x_l_p2 (cells enc_api_Field x_l)) (hc2 : x_l.length ≤ x_l_c2) (hm : location_Fields x_env x_l = some R) :
    Calls Tryz.prog 20 #[.agg #[str x_env.Client, str x_env.Host, str x_env.Scheme, str x_env.By, .slice x_env_p0 x_env.Domains.length x_env_c0, .slice x_env_p1 x_env.Locations.length x_env_c1], .slice x_l_p2 x_l.length x_l_c2] w0 fun e w' => ∃ (p0 : Option Addr) (c0 : Nat), e = .returned (.slice p0 R.length c0) ∧ Dk.Own w0 [] w' [.row (.slice p0 R.length c0) 53 2 R.length (cells enc_api_Field R)] := by
  rw [location_Fields] at hm
  refine calls_enter (vs := [.agg #[str x_env.Client, str x_env.Host, str x_env.Scheme, str x_env.By, .slice x_env_p0 x_env.Domains.length x_env_c0, .slice x_env_p1 x_env.Locations.length x_env_c1], .slice x_l_p2 x_l.length x_l_c2]) Tryz.func20 rfl Tryz.ntmps20 rfl fun a hf => ?_
  have hF : Away [] := away_nil
  have hO : Dk.Own w0 [] w0 [] := Dk.Own.refl w0
  have hO := hO.addShr hs0 (by simp [Res.shared])
  have hO := hO.addShr hs1 (by simp [Res.shared])
  have hO := hO.addShr hs2 (by simp [Res.shared])
  refine wp_seq_k fun _ hK2 => ?_
  refine wp_region_list ?_
  refine op_box (v := .agg #[str x_env.Client, str x_env.Host, str x_env.Scheme, str x_env.By, .slice x_env_p0 x_env.Domains.length x_env_c0, .slice x_env_p1 x_env.Locations.length x_env_c1]) (cs := [str x_env.Client, str x_env.Host, str x_env.Scheme, str x_env.By, .slice x_env_p0 x_env.Domains.length x_env_c0, .slice x_env_p1 x_env.Locations.length x_env_c1]) rfl hf rfl rfl hO fun a b1 w hf hO => ?_
  have hO := hO.nilRow 53 2
  refine op_val (ex_assign hf rfl) rfl hf rfl rfl fun a hf => ?_
  refine wpList_nil ?_
  refine nor_then (hK2 _ _ ?_)
  refine wp_seq_k fun _ hK7 => ?_
  refine wp_region_list ?_
  refine op_buildSlice (vs := []) (cs := []) (e := 53) (sz := 2) hf rfl rfl (fun w => by kernel_rfl) rfl rfl hO fun a b3 w hf hO => ?_
  refine op_val (ex_move hf rfl) rfl hf rfl rfl fun a hf => ?_
  obtain ⟨hg6, hm⟩ := og hm
  refine op_appendS el_42 (enc := enc_api_Field) (xs := []) (ys := x_l) (i := 0) (fun _ => rfl) rfl (hO.sees (i := 3) rfl) (by simp [enc_api_Field, Value.oneCell']) hg6 hf rfl rfl rfl hO fun a p4 c5 w hf hO => ?_
  refine op_val (ex_assign hf rfl) rfl hf rfl rfl fun a hf => ?_
  refine wpList_nil ?_
  refine nor_then (hK7 _ _ ?_)
  refine wp_seq_cut (fun a w => ∃ (p43 : Option Addr) (c44 : Nat) (l45 : List api_Field), Fits 46 [(5, .slice p43 l45.length c44)] a ∧ Dk.Own w0 [] w [.row (.slice p43 l45.length c44) 53 2 l45.length (cells enc_api_Field l45), .row (.slice none 0 0) 53 2 0 (cells enc_api_Field []), .blk b1 [str x_env.Client, str x_env.Host, str x_env.Scheme, str x_env.By, .slice x_env_p0 x_env.Domains.length x_env_c0, .slice x_env_p1 x_env.Locations.length x_env_c1] 41, .shr x_l_p2 (cells enc_api_Field x_l), .shr x_env_p1 (cells enc_api_Swap x_env.Locations), .shr x_env_p0 (cells enc_api_Swap x_env.Domains)] ∧ location_Fields_j4 l45 = some R) ?_ ?_
  · refine wp_seq_k fun _ hK8 => ?_
    refine wp_region_list ?_
    refine op_val (ex_move hf rfl) rfl hf rfl rfl fun a hf => ?_
    refine op_val (ex_len_l Tryz.underlying42 hf rfl) rfl hf rfl rfl fun a hf => ?_
    refine op_val (ex_move hf rfl) rfl hf rfl rfl fun a hf => ?_
    refine wpList_nil ?_
    refine nor_then (hK8 _ _ ?_)
    refine wp_block ?_
    refine wp_loop_n (fun k a w => ∃ (p9 : Option Addr) (c10 : Nat) (l11 : List api_Field) (i12 : Int), Fits 46 [(2, ptr b1 0), (5, .slice p9 l11.length c10), (11, .slice p9 l11.length c10), (12, int (x_l.length : Int)), (13, int i12)] a ∧ Dk.Own w0 [] w [.row (.slice p9 l11.length c10) 53 2 l11.length (cells enc_api_Field l11), .row (.slice none 0 0) 53 2 0 (cells enc_api_Field []), .blk b1 [str x_env.Client, str x_env.Host, str x_env.Scheme, str x_env.By, .slice x_env_p0 x_env.Domains.length x_env_c0, .slice x_env_p1 x_env.Locations.length x_env_c1] 41, .shr x_l_p2 (cells enc_api_Field x_l), .shr x_env_p1 (cells enc_api_Swap x_env.Locations), .shr x_env_p0 (cells enc_api_Swap x_env.Domains)] ∧ location_Fields_L1 x_env x_l k l11 i12 = some R) ?_ fuel ?_
    · rintro n1 a w ⟨p9, c10, l11, i12, hf, hO, hm⟩
      obtain _ | n1 := n1
      · rw [location_Fields_L1] at hm
        cases hm
      · rw [location_Fields_L1] at hm
        refine wp_seq_k fun _ hK13 => ?_
        refine wp_region_list ?_
        refine op_val (ex_lss (m := i12) (n := (x_l.length : Int)) hf rfl rfl) rfl hf rfl rfl fun a hf => ?_
        refine wpList_nil ?_
        refine nor_then (hK13 _ _ ?_)
        refine wp_seq_k fun _ hK15 => ?_
        refine wp_cond_cut hf rfl (fun hc14 => ?_) (fun hc14 => ?_)
        · have hm := it hc14 hm
          refine wp_skip ?_
          refine nor_then (hK15 _ _ ?_)
          refine wp_seq_cut (fun a w => ∃ (p39 : Option Addr) (c40 : Nat) (l41 : List api_Field), Fits 46 [(2, ptr b1 0), (5, .slice p39 l41.length c40), (11, .slice p39 l41.length c40), (12, int (x_l.length : Int)), (13, int i12)] a ∧ Dk.Own w0 [] w [.row (.slice p39 l41.length c40) 53 2 l41.length (cells enc_api_Field l41), .row (.slice none 0 0) 53 2 0 (cells enc_api_Field []), .blk b1 [str x_env.Client, str x_env.Host, str x_env.Scheme, str x_env.By, .slice x_env_p0 x_env.Domains.length x_env_c0, .slice x_env_p1 x_env.Locations.length x_env_c1] 41, .shr x_l_p2 (cells enc_api_Field x_l), .shr x_env_p1 (cells enc_api_Swap x_env.Locations), .shr x_env_p0 (cells enc_api_Swap x_env.Domains)] ∧ location_Fields_j3 (location_Fields_L1 x_env x_l n1) i12 l41 = some R) ?_ ?_
          · refine wp_block ?_
            refine wp_seq_k fun _ hK20 => ?_
            refine wp_region_list ?_
            refine op_val (ex_move hf rfl) rfl hf rfl rfl fun a hf => ?_
            obtain ⟨x16, hx16, hm⟩ := ob hm
            obtain ⟨b17, o18, hix16, hSx16, hAx16⟩ := elemAtRow (enc := enc_api_Field) (sz := 2) (xs := l11) 42 Tryz.underlying42 sz_53 (by decide) (fun _ => rfl) hO (i := 0) rfl hx16
            refine op_val (ex_indexAddr hix16 hf rfl rfl) rfl hf rfl rfl fun a hf => ?_
            refine op_val (ex_loadN (o := 0) (vs := [str x16.Name, str x16.Value]) ag_53 sz_53 (hSx16 _ (hO.rowSees (i := 0) rfl)) rfl rfl hf rfl) rfl hf rfl rfl fun a hf => ?_
            refine op_alloc al_53 hf rfl hO fun a b19 w hf hO => ?_
            refine op_val (ex_assign hf rfl) rfl hf rfl rfl fun a hf => ?_
            refine op_storeN (i := 0) (n := 2) sz_53 rfl rfl rfl (by simp [Value.oneCell']) hf rfl rfl hO fun w hO => ?_
            refine wpList_nil ?_
            refine nor_then (hK20 _ _ ?_)
            refine wp_seq_k fun _ hK22 => ?_
            refine wp_region_list ?_
            refine op_val (ex_field fa_53_0 hf rfl) rfl hf rfl rfl fun a hf => ?_
            refine op_val (ex_load1 (o := 0) ag_9 (hO.blkSees (i := 0) rfl) rfl hf rfl) rfl hf rfl rfl fun a hf => ?_
            obtain ⟨r21, hr21, hm⟩ := ob hm
            refine op_enter (ex_call c_40 hf (vs := [str x16.Name]) rfl) rfl hf rfl rfl (w_octet_Fold x16.Name r21 _ (hG.own hF hO).1 hr21) ?_
            rintro e w' ⟨he, hb⟩
            refine ⟨_, he, fun a hf => ?_⟩
            have hO := hO.grow hb
            refine wpList_nil ?_
            refine nor_then (hK22 _ _ ?_)
            refine wp_block ?_
            refine wp_seq_cut (fun a w => ∃ (t25 : Bool), Fits 46 [(2, ptr b1 0), (5, .slice p9 l11.length c10), (6, int i12), (7, ptr b19 0), (11, .slice p9 l11.length c10), (12, int (x_l.length : Int)), (13, int i12), (20, str r21), (21, .bool t25)] a ∧ Dk.Own w0 [] w [.blk b19 [str x16.Name, str x16.Value] 53, .row (.slice p9 l11.length c10) 53 2 l11.length (cells enc_api_Field l11), .row (.slice none 0 0) 53 2 0 (cells enc_api_Field []), .blk b1 [str x_env.Client, str x_env.Host, str x_env.Scheme, str x_env.By, .slice x_env_p0 x_env.Domains.length x_env_c0, .slice x_env_p1 x_env.Locations.length x_env_c1] 41, .shr x_l_p2 (cells enc_api_Field x_l), .shr x_env_p1 (cells enc_api_Swap x_env.Locations), .shr x_env_p0 (cells enc_api_Swap x_env.Domains)] ∧ location_Fields_j2 (location_Fields_L1 x_env x_l n1) x_env l11 i12 x16 r21 t25 = some R) ?_ ?_
            · refine wp_seq_k fun _ hK23 => ?_
              refine wp_region_list ?_
              refine op_val (ex_eql_s (l := r21) (m := [108, 111, 99, 97, 116, 105, 111, 110]) hf rfl rfl) rfl hf rfl rfl fun a hf => ?_
              refine op_val (ex_assign hf rfl) rfl hf rfl rfl fun a hf => ?_
              refine wpList_nil ?_
              refine nor_then (hK23 _ _ ?_)
              refine wp_cond_cut hf rfl (fun hc24 => ?_) (fun hc24 => ?_)
              · have hm := it hc24 hm
                refine wp_skip ?_
                refine nor_then ?_
                exact ⟨r21 == [108, 111, 99, 97, 116, 105, 111, 110], (hf.cons rfl (hf.cons rfl (hf.cons rfl (hf.cons rfl (hf.cons rfl (hf.cons rfl (hf.cons rfl (hf.cons rfl (hf.cons rfl hf.nil))))))))), hO, hm⟩
              · have hm := ie hc24 hm
                refine wp_region_list ?_
                refine op_val (ex_eql_s (l := r21) (m := [99, 111, 110, 116, 101, 110, 116, 45, 108, 111, 99, 97, 116, 105, 111, 110]) hf rfl rfl) rfl hf rfl rfl fun a hf => ?_
                refine op_val (ex_assign hf rfl) rfl hf rfl rfl fun a hf => ?_
                refine wpList_nil ?_
                refine nor_then ?_
                exact ⟨r21 == [99, 111, 110, 116, 101, 110, 116, 45, 108, 111, 99, 97, 116, 105, 111, 110], (hf.cons rfl (hf.cons rfl (hf.cons rfl (hf.cons rfl (hf.cons rfl (hf.cons rfl (hf.cons rfl (hf.cons rfl (hf.cons rfl hf.nil))))))))), hO, hm⟩
            · rintro a w ⟨t25, hf, hO, hm⟩
              rw [location_Fields_j2] at hm
              refine wp_cond_cut hf rfl (fun hc26 => ?_) (fun hc26 => ?_)
              · have hm := it hc26 hm
                refine wp_region_list ?_
                refine op_val (ex_move hf rfl) rfl hf rfl rfl fun a hf => ?_
                refine op_val (ex_move hf rfl) rfl hf rfl rfl fun a hf => ?_
                refine op_val (ex_field fa_53_1 hf rfl) rfl hf rfl rfl fun a hf => ?_
                refine op_val (ex_load1 (o := 1) ag_9 (hO.blkSees (i := 0) rfl) rfl hf rfl) rfl hf rfl rfl fun a hf => ?_
                refine op_val (ex_field fa_41_5 hf rfl) rfl hf rfl rfl fun a hf => ?_
                refine op_val (ex_load1 (o := 5) ag_22 (hO.blkSees (i := 3) rfl) rfl hf rfl) rfl hf rfl rfl fun a hf => ?_
                obtain ⟨r27, hr27, hm⟩ := ob hm
                refine op_enter (ex_call c_37 hf (vs := [str x16.Value, .slice x_env_p1 x_env.Locations.length x_env_c1]) rfl) rfl hf rfl rfl (w_location_Rewrite x16.Value x_env.Locations r27 _ (hG.own hF hO).1 (hO.sees (i := 5) rfl) hc1 hr27) ?_
                rintro e w' ⟨he, hb⟩
                refine ⟨_, he, fun a hf => ?_⟩
                have hO := hO.grow hb
                obtain ⟨x28, hx28, hm⟩ := ob hm
                obtain ⟨b29, o30, hix28, hSx28, hAx28⟩ := elemAtRow (enc := enc_api_Field) (sz := 2) (xs := l11) 42 Tryz.underlying42 sz_53 (by decide) (fun _ => rfl) hO (i := 1) rfl hx28
                refine op_val (ex_indexAddr hix28 hf rfl rfl) rfl hf rfl rfl fun a hf => ?_
                refine op_val (ex_field fa_53_1 hf rfl) rfl hf rfl rfl fun a hf => ?_
                obtain ⟨l31, hl31, hm⟩ := ob hm
                refine op_storeRow (enc := enc_api_Field) (i := 1) (rel := 1) (xs := l11) (v := str r27) sz_9 (fun _ => rfl) rfl hAx28 hx28 hl31 rfl (by decide) rfl rfl hf rfl rfl hO fun w hlen hO => ?_
                have hf : Fits 46 [(2, ptr b1 0), (5, .slice p9 l31.length c10), (6, int i12), (7, ptr b19 0), (11, .slice p9 l31.length c10), (12, int (x_l.length : Int)), (13, int i12), (20, str r21), (21, .bool t25), (24, .slice p9 l31.length c10), (25, int i12), (26, ptr b19 1), (27, str x16.Value), (28, ptr b1 5), (29, .slice x_env_p1 x_env.Locations.length x_env_c1), (30, str r27), (31, ptr b29 o30), (32, ptr b29 (o30 + 1))] a := by rw [hlen]; exact (hf.cons rfl (hf.cons rfl (hf.cons rfl (hf.cons rfl (hf.cons rfl (hf.cons rfl (hf.cons rfl (hf.cons rfl (hf.cons rfl (hf.cons rfl (hf.cons rfl (hf.cons rfl (hf.cons rfl (hf.cons rfl (hf.cons rfl (hf.cons rfl (hf.cons rfl (hf.cons rfl hf.nil))))))))))))))))))
                refine wpList_nil ?_
                refine nor_block ?_
                refine nor_block ?_
                refine nor_then ?_
                exact ⟨p9, c10, l31, (hf.cons rfl (hf.cons rfl (hf.cons rfl (hf.cons rfl (hf.cons rfl hf.nil))))), (hO.sub (.cons _ (.cons_cons _ (.cons_cons _ (.cons_cons _ (.cons_cons _ (.cons_cons _ (.cons_cons _ .slnil)))))))), hm⟩
              · have hm := ie hc26 hm
                refine wp_seq_k fun _ hK32 => ?_
                refine wp_region_list ?_
                refine op_val (ex_eql_s (l := r21) (m := [115, 101, 116, 45, 99, 111, 111, 107, 105, 101]) hf rfl rfl) rfl hf rfl rfl fun a hf => ?_
                refine op_val (ex_assign hf rfl) rfl hf rfl rfl fun a hf => ?_
                refine wpList_nil ?_
                refine nor_then (hK32 _ _ ?_)
                refine wp_cond_cut hf rfl (fun hc33 => ?_) (fun hc33 => ?_)
                · have hm := it hc33 hm
                  refine wp_region_list ?_
                  refine op_val (ex_move hf rfl) rfl hf rfl rfl fun a hf => ?_
                  refine op_val (ex_move hf rfl) rfl hf rfl rfl fun a hf => ?_
                  refine op_val (ex_field fa_53_1 hf rfl) rfl hf rfl rfl fun a hf => ?_
                  refine op_val (ex_load1 (o := 1) ag_9 (hO.blkSees (i := 0) rfl) rfl hf rfl) rfl hf rfl rfl fun a hf => ?_
                  refine op_val (ex_field fa_41_4 hf rfl) rfl hf rfl rfl fun a hf => ?_
                  refine op_val (ex_load1 (o := 4) ag_22 (hO.blkSees (i := 3) rfl) rfl hf rfl) rfl hf rfl rfl fun a hf => ?_
                  obtain ⟨r34, hr34, hm⟩ := ob hm
                  refine op_enter (ex_call c_10 hf (vs := [str x16.Value, .slice x_env_p0 x_env.Domains.length x_env_c0]) rfl) rfl hf rfl rfl (w_domains_Rewrite x16.Value x_env.Domains r34 _ (hG.own hF hO) (hO.sees (i := 6) rfl) hc0 hr34) ?_
                  rintro e w' ⟨he, hb⟩
                  refine ⟨_, he, fun a hf => ?_⟩
                  have hO := hO.grow hb
                  obtain ⟨x35, hx35, hm⟩ := ob hm
                  obtain ⟨b36, o37, hix35, hSx35, hAx35⟩ := elemAtRow (enc := enc_api_Field) (sz := 2) (xs := l11) 42 Tryz.underlying42 sz_53 (by decide) (fun _ => rfl) hO (i := 1) rfl hx35
                  refine op_val (ex_indexAddr hix35 hf rfl rfl) rfl hf rfl rfl fun a hf => ?_
                  refine op_val (ex_field fa_53_1 hf rfl) rfl hf rfl rfl fun a hf => ?_
                  obtain ⟨l38, hl38, hm⟩ := ob hm
                  refine op_storeRow (enc := enc_api_Field) (i := 1) (rel := 1) (xs := l11) (v := str r34) sz_9 (fun _ => rfl) rfl hAx35 hx35 hl38 rfl (by decide) rfl rfl hf rfl rfl hO fun w hlen hO => ?_
                  have hf : Fits 46 [(2, ptr b1 0), (5, .slice p9 l38.length c10), (6, int i12), (7, ptr b19 0), (11, .slice p9 l38.length c10), (12, int (x_l.length : Int)), (13, int i12), (33, .bool (r21 == [115, 101, 116, 45, 99, 111, 111, 107, 105, 101])), (35, .slice p9 l38.length c10), (36, int i12), (37, ptr b19 1), (38, str x16.Value), (39, ptr b1 4), (40, .slice x_env_p0 x_env.Domains.length x_env_c0), (41, str r34), (42, ptr b36 o37), (43, ptr b36 (o37 + 1))] a := by rw [hlen]; exact (hf.cons rfl (hf.cons rfl (hf.cons rfl (hf.cons rfl (hf.cons rfl (hf.cons rfl (hf.cons rfl (hf.cons rfl (hf.cons rfl (hf.cons rfl (hf.cons rfl (hf.cons rfl (hf.cons rfl (hf.cons rfl (hf.cons rfl (hf.cons rfl (hf.cons rfl hf.nil)))))))))))))))))
                  refine wpList_nil ?_
                  refine nor_block ?_
                  refine nor_block ?_
                  refine nor_then ?_
                  exact ⟨p9, c10, l38, (hf.cons rfl (hf.cons rfl (hf.cons rfl (hf.cons rfl (hf.cons rfl hf.nil))))), (hO.sub (.cons _ (.cons_cons _ (.cons_cons _ (.cons_cons _ (.cons_cons _ (.cons_cons _ (.cons_cons _ .slnil)))))))), hm⟩
                · have hm := ie hc33 hm
                  refine wp_skip ?_
                  refine nor_block ?_
                  refine nor_block ?_
                  refine nor_then ?_
                  exact ⟨p9, c10, l11, (hf.cons rfl (hf.cons rfl (hf.cons rfl (hf.cons rfl (hf.cons rfl hf.nil))))), (hO.sub (.cons _ (.cons_cons _ (.cons_cons _ (.cons_cons _ (.cons_cons _ (.cons_cons _ (.cons_cons _ .slnil)))))))), hm⟩
          · rintro a w ⟨p39, c40, l41, hf, hO, hm⟩
            rw [location_Fields_j3] at hm
            refine wp_region_list ?_
            obtain ⟨i42, hi42, hm⟩ := ob hm
            refine op_val (ex_add hf rfl rfl hi42) rfl hf rfl rfl fun a hf => ?_
            refine op_val (ex_move hf rfl) rfl hf rfl rfl fun a hf => ?_
            refine wpList_nil ?_
            refine nor_then ?_
            exact ⟨_, Nat.lt_succ_self _, p39, c40, l41, i42, (hf.cons rfl (hf.cons rfl (hf.cons rfl (hf.cons rfl (hf.cons rfl hf.nil))))), hO, hm⟩
        · have hm := ie hc14 hm
          refine wp_exit ?_
          refine exit_then ?_
          refine exit_then ?_
          refine exit_here ?_
          refine nor_then ?_
          exact ⟨p9, c10, l11, (hf.cons rfl hf.nil), hO, hm⟩
    · exact ⟨p4, c5, x_l, 0, (hf.cons rfl (hf.cons rfl (hf.cons rfl (hf.cons rfl (hf.cons rfl hf.nil))))), hO, hm⟩
  · rintro a w ⟨p43, c44, l45, hf, hO, hm⟩
    rw [location_Fields_j4] at hm
    refine wp_seq_k fun _ hK46 => ?_
    refine wp_region_list ?_
    refine op_val (ex_move hf rfl) rfl hf rfl rfl fun a hf => ?_
    refine op_val (ex_assign hf rfl) rfl hf rfl rfl fun a hf => ?_
    refine wpList_nil ?_
    refine nor_then (hK46 _ _ ?_)
    refine wp_ret ?_
    obtain rfl := Option.some.inj hm
    exact post_ret Tryz.results20 hf (.tmp rfl .nil) ⟨p43, c44, rfl, (hO.sub (.cons_cons _ (.cons _ (.cons _ (.cons _ (.cons _ (.cons _ .slnil)))))))⟩

end Go.Proofs
