/-
  Walks, written by a program (wip/gen): what its model says, the function returns; what was there before is as it was.
-/
import Derived.Test.YtnfkbhocbdheaabGreatDoorLib
import Derived.Test.YtnfkbhocbdheaabGreatDoorW0
import Derived.Test.YtnfkbhocbdheaabGreatDoorW1
import Derived.Test.YtnfkbhocbdheaabGreatDoorW4
import Derived.Test.YtnfkbhocbdheaabGreatDoorW7
set_option linter.unusedVariables false
set_option linter.unusedSimpArgs false
set_option maxRecDepth 100000
namespace Go.Proofs
open Go.Dk Go.Dm Go.RowKit

set_option maxHeartbeats 1000000 in
theorem w_law14_StartWrites (x_h : api_Head) (R : Bool) (w0 : World) (hG : GlobT w0) {x_h_p0 : Option Addr} {x_h_c0 : Nat} (hs0 : Sees w0 x_h_p0 (cells enc_api_Field x_h.Fields)) (hc0 : x_h.Fields.length ≤ x_h_c0) (hm : law14_StartWrites x_h = some R) :
    Calls Tryz.prog 4 #[.agg #[int x_h.Kind, str x_h.Method, str x_h.Target, int x_h.Code, str x_h.Reason, int x_h.Minor, .slice x_h_p0 x_h.Fields.length x_h_c0]] w0 fun e w' => e = .returned (.bool R) ∧ Below w0.heap.size w0 w' := by
  rw [law14_StartWrites] at hm
  refine calls_enter (vs := [.agg #[int x_h.Kind, str x_h.Method, str x_h.Target, int x_h.Code, str x_h.Reason, int x_h.Minor, .slice x_h_p0 x_h.Fields.length x_h_c0]]) Tryz.func4 rfl Tryz.ntmps4 rfl fun a hf => ?_
  have hF : Away [] := away_nil
  have hO : Dk.Own w0 [] w0 [] := Dk.Own.refl w0
  have hO := hO.addShr hs0 (by simp [Res.shared])
  refine wp_seq_k fun _ hK2 => ?_
  refine wp_region_list ?_
  refine op_box (v := .agg #[int x_h.Kind, str x_h.Method, str x_h.Target, int x_h.Code, str x_h.Reason, int x_h.Minor, .slice x_h_p0 x_h.Fields.length x_h_c0]) (cs := [int x_h.Kind, str x_h.Method, str x_h.Target, int x_h.Code, str x_h.Reason, int x_h.Minor, .slice x_h_p0 x_h.Fields.length x_h_c0]) rfl hf rfl rfl hO fun a b1 w hf hO => ?_
  refine op_val (ex_assign hf rfl) rfl hf rfl rfl fun a hf => ?_
  refine wpList_nil ?_
  refine nor_then (hK2 _ _ ?_)
  refine wp_seq_k fun _ hK7 => ?_
  refine wp_seq_k fun _ hK4 => ?_
  refine wp_region_list ?_
  obtain ⟨r3, hr3, hm⟩ := ob hm
  refine op_enter (ex_call c_9 hf (vs := []) rfl) rfl hf rfl rfl (w_law14_awake r3 _ (hG.own hF hO) hr3) ?_
  rintro e w' ⟨he, hb⟩
  refine ⟨_, he, fun a hf => ?_⟩
  have hO := hO.grow hb
  refine op_val (ex_not hf rfl) rfl hf rfl rfl fun a hf => ?_
  refine wpList_nil ?_
  refine nor_then (hK4 _ _ ?_)
  refine wp_cond_cut hf rfl (fun hc5 => ?_) (fun hc5 => ?_)
  · have hm := it hc5 hm
    refine wp_seq_k fun _ hK6 => ?_
    refine wp_region_list ?_
    refine op_val (ex_assign hf rfl) rfl hf rfl rfl fun a hf => ?_
    refine wpList_nil ?_
    refine nor_then (hK6 _ _ ?_)
    refine wp_ret ?_
    refine ret_then ?_
    obtain rfl := Option.some.inj hm
    exact post_ret Tryz.results4 hf (.tmp rfl .nil) ⟨rfl, hO.below⟩
  · have hm := ie hc5 hm
    refine wp_skip ?_
    refine nor_then (hK7 _ _ ?_)
    refine wp_seq_k fun _ hK9 => ?_
    refine wp_region_list ?_
    refine op_val (ex_field fa_27_1 hf rfl) rfl hf rfl rfl fun a hf => ?_
    refine op_val (ex_load1 (o := 1) ag_9 (hO.blkSees (i := 0) rfl) rfl hf rfl) rfl hf rfl rfl fun a hf => ?_
    obtain ⟨r8, hr8, hm⟩ := ob hm
    refine op_enter (ex_call c_10 hf (vs := [str x_h.Method]) rfl) rfl hf rfl rfl (w_law14_few x_h.Method r8 _ (hG.own hF hO).1 hr8) ?_
    rintro e w' ⟨he, hb⟩
    refine ⟨_, he, fun a hf => ?_⟩
    have hO := hO.grow hb
    refine op_val (ex_field fa_27_1 hf rfl) rfl hf rfl rfl fun a hf => ?_
    refine op_store1 (i := 0) (o := 1) (v := str r8) sz_9 rfl rfl rfl rfl hf rfl rfl hO fun w hO => ?_
    refine wpList_nil ?_
    refine nor_then (hK9 _ _ ?_)
    refine wp_seq_k fun _ hK11 => ?_
    refine wp_region_list ?_
    refine op_val (ex_field fa_27_2 hf rfl) rfl hf rfl rfl fun a hf => ?_
    refine op_val (ex_load1 (o := 2) ag_9 (hO.blkSees (i := 0) rfl) rfl hf rfl) rfl hf rfl rfl fun a hf => ?_
    obtain ⟨r10, hr10, hm⟩ := ob hm
    refine op_enter (ex_call c_10 hf (vs := [str x_h.Target]) rfl) rfl hf rfl rfl (w_law14_few x_h.Target r10 _ (hG.own hF hO).1 hr10) ?_
    rintro e w' ⟨he, hb⟩
    refine ⟨_, he, fun a hf => ?_⟩
    have hO := hO.grow hb
    refine op_val (ex_field fa_27_2 hf rfl) rfl hf rfl rfl fun a hf => ?_
    refine op_store1 (i := 0) (o := 2) (v := str r10) sz_9 rfl rfl rfl rfl hf rfl rfl hO fun w hO => ?_
    refine wpList_nil ?_
    refine nor_then (hK11 _ _ ?_)
    refine wp_seq_k fun _ hK13 => ?_
    refine wp_region_list ?_
    refine op_val (ex_field fa_27_4 hf rfl) rfl hf rfl rfl fun a hf => ?_
    refine op_val (ex_load1 (o := 4) ag_9 (hO.blkSees (i := 0) rfl) rfl hf rfl) rfl hf rfl rfl fun a hf => ?_
    obtain ⟨r12, hr12, hm⟩ := ob hm
    refine op_enter (ex_call c_10 hf (vs := [str x_h.Reason]) rfl) rfl hf rfl rfl (w_law14_few x_h.Reason r12 _ (hG.own hF hO).1 hr12) ?_
    rintro e w' ⟨he, hb⟩
    refine ⟨_, he, fun a hf => ?_⟩
    have hO := hO.grow hb
    refine op_val (ex_field fa_27_4 hf rfl) rfl hf rfl rfl fun a hf => ?_
    refine op_store1 (i := 0) (o := 4) (v := str r12) sz_9 rfl rfl rfl rfl hf rfl rfl hO fun w hO => ?_
    refine wpList_nil ?_
    refine nor_then (hK13 _ _ ?_)
    refine wp_seq_k fun _ hK15 => ?_
    refine wp_region_list ?_
    refine op_val (ex_loadN (o := 0) (vs := [int x_h.Kind, str r8, str r10, int x_h.Code, str r12, int x_h.Minor, .slice x_h_p0 x_h.Fields.length x_h_c0]) ag_27 sz_27 (hO.blkSees (i := 0) rfl) rfl rfl hf rfl) rfl hf rfl rfl fun a hf => ?_
    obtain ⟨r14, hr14, hm⟩ := ob hm
    refine op_enter (ex_call c_14 hf (vs := [.agg #[int x_h.Kind, str r8, str r10, int x_h.Code, str r12, int x_h.Minor, .slice x_h_p0 x_h.Fields.length x_h_c0]]) rfl) rfl hf rfl rfl (w_startline_Text (⟨x_h.Kind, r8, r10, x_h.Code, r12, x_h.Minor, x_h.Fields⟩ : api_Head) r14 _ (hG.own hF hO) (hO.sees (i := 1) rfl) hc0 hr14) ?_
    rintro e w' ⟨he, hb⟩
    refine ⟨_, he, fun a hf => ?_⟩
    have hO := hO.grow hb
    refine op_val (ex_move hf rfl) rfl hf rfl rfl fun a hf => ?_
    refine op_val (ex_extract hf rfl rfl) rfl hf rfl rfl fun a hf => ?_
    refine op_val (ex_extract hf rfl rfl) rfl hf rfl rfl fun a hf => ?_
    refine op_val (ex_assign hf rfl) rfl hf rfl rfl fun a hf => ?_
    refine op_val (ex_assign hf rfl) rfl hf rfl rfl fun a hf => ?_
    refine wpList_nil ?_
    refine nor_then (hK15 _ _ ?_)
    refine wp_seq_k fun _ hK17 => ?_
    refine wp_region_list ?_
    refine op_val (ex_loadN (o := 0) (vs := [int x_h.Kind, str r8, str r10, int x_h.Code, str r12, int x_h.Minor, .slice x_h_p0 x_h.Fields.length x_h_c0]) ag_27 sz_27 (hO.blkSees (i := 0) rfl) rfl rfl hf rfl) rfl hf rfl rfl fun a hf => ?_
    obtain ⟨r16, hr16, hm⟩ := ob hm
    refine op_enter (ex_call c_15 hf (vs := [.agg #[int x_h.Kind, str r8, str r10, int x_h.Code, str r12, int x_h.Minor, .slice x_h_p0 x_h.Fields.length x_h_c0]]) rfl) rfl hf rfl rfl (w_ref14_Text (⟨x_h.Kind, r8, r10, x_h.Code, r12, x_h.Minor, x_h.Fields⟩ : api_Head) r16 _ (hG.own hF hO).1 (hO.sees (i := 1) rfl) hc0 hr16) ?_
    rintro e w' ⟨he, hb⟩
    refine ⟨_, he, fun a hf => ?_⟩
    have hO := hO.grow hb
    refine op_val (ex_move hf rfl) rfl hf rfl rfl fun a hf => ?_
    refine op_val (ex_extract hf rfl rfl) rfl hf rfl rfl fun a hf => ?_
    refine op_val (ex_extract hf rfl rfl) rfl hf rfl rfl fun a hf => ?_
    refine op_val (ex_assign hf rfl) rfl hf rfl rfl fun a hf => ?_
    refine op_val (ex_assign hf rfl) rfl hf rfl rfl fun a hf => ?_
    refine wpList_nil ?_
    refine nor_then (hK17 _ _ ?_)
    refine wp_seq_k fun _ hK22 => ?_
    refine wp_seq_cut (fun a w => ∃ (t19 : Bool), Fits 59 [(1, ptr b1 0), (3, str r14.1), (4, int r14.2), (40, .bool t19)] a ∧ Dk.Own w0 [] w [.blk b1 [int x_h.Kind, str r8, str r10, int x_h.Code, str r12, int x_h.Minor, .slice x_h_p0 x_h.Fields.length x_h_c0] 27, .shr x_h_p0 (cells enc_api_Field x_h.Fields)] ∧ law14_StartWrites_j1 x_h r8 r10 r12 r14 t19 = some R) ?_ ?_
    · refine wp_region_list ?_
      refine op_val (ex_move hf rfl) rfl hf rfl rfl fun a hf => ?_
      refine op_val (ex_move hf rfl) rfl hf rfl rfl fun a hf => ?_
      refine op_val (ex_neq_s (l := r14.1) (m := r16.1) hf rfl rfl) rfl hf rfl rfl fun a hf => ?_
      refine op_val (ex_move hf rfl) rfl hf rfl rfl fun a hf => ?_
      rcases bcase (!(r14.1 == r16.1)) with hc18 | hc18
      · have hm := it hc18 hm
        refine op_pass rfl hf rfl rfl (hc18) rfl rfl fun a hf => ?_
        refine op_pass rfl hf rfl rfl (hc18) rfl rfl fun a hf => ?_
        refine op_pass rfl hf rfl rfl (hc18) rfl rfl fun a hf => ?_
        refine op_val (ex_pick_t hf rfl hc18 rfl) rfl hf rfl rfl fun a hf => ?_
        refine wpList_nil ?_
        refine nor_then ?_
        exact ⟨true, (hf.cons rfl (hf.cons rfl (hf.cons rfl (hf.cons rfl hf.nil)))), hO, hm⟩
      · have hm := ie hc18 hm
        refine op_guard rfl hf rfl rfl (hc18) ?_
        refine op_val (ex_move hf rfl) rfl hf rfl rfl fun a hf => ?_
        refine op_guard rfl hf rfl rfl (hc18) ?_
        refine op_val (ex_move hf rfl) rfl hf rfl rfl fun a hf => ?_
        refine op_guard rfl hf rfl rfl (hc18) ?_
        refine op_val (ex_neq (m := r14.2) (n := r16.2) hf rfl rfl) rfl hf rfl rfl fun a hf => ?_
        refine op_val (ex_pick_f hf rfl hc18 rfl) rfl hf rfl rfl fun a hf => ?_
        refine wpList_nil ?_
        refine nor_then ?_
        exact ⟨!(r14.2 == r16.2), (hf.cons rfl (hf.cons rfl (hf.cons rfl (hf.cons rfl hf.nil)))), hO, hm⟩
    · rintro a w ⟨t19, hf, hO, hm⟩
      rw [law14_StartWrites_j1] at hm
      refine wp_cond_cut hf rfl (fun hc20 => ?_) (fun hc20 => ?_)
      · have hm := it hc20 hm
        refine wp_seq_k fun _ hK21 => ?_
        refine wp_region_list ?_
        refine op_val (ex_assign hf rfl) rfl hf rfl rfl fun a hf => ?_
        refine wpList_nil ?_
        refine nor_then (hK21 _ _ ?_)
        refine wp_ret ?_
        refine ret_then ?_
        obtain rfl := Option.some.inj hm
        exact post_ret Tryz.results4 hf (.tmp rfl .nil) ⟨rfl, hO.below⟩
      · have hm := ie hc20 hm
        refine wp_skip ?_
        refine nor_then (hK22 _ _ ?_)
        refine wp_seq_k fun _ hK27 => ?_
        refine wp_region_list ?_
        refine op_val (ex_field fa_27_0 hf rfl) rfl hf rfl rfl fun a hf => ?_
        refine op_val (ex_load1 (o := 0) ag_22 (hO.blkSees (i := 0) rfl) rfl hf rfl) rfl hf rfl rfl fun a hf => ?_
        refine op_val (ex_move hf rfl) rfl hf rfl rfl fun a hf => ?_
        obtain ⟨r23, hr23, hm⟩ := ob hm
        refine op_enter (ex_call c_11 hf (vs := [int x_h.Kind, str r14.1]) rfl) rfl hf rfl rfl (w_startline_Parse x_h.Kind r14.1 r23 _ (hG.own hF hO) hr23) ?_
        rintro e w' ⟨p24, c25, he, hO'⟩
        refine ⟨_, he, fun a hf => ?_⟩
        have hO := hO.call hO' (by simp [Res.shared])
        refine op_val (ex_move hf rfl) rfl hf rfl rfl fun a hf => ?_
        refine op_val (ex_extract hf rfl rfl) rfl hf rfl rfl fun a hf => ?_
        refine op_val (ex_extract hf rfl rfl) rfl hf rfl rfl fun a hf => ?_
        refine op_alloc al_27 hf rfl hO fun a b26 w hf hO => ?_
        have hO := hO.nilRow 86 2
        refine op_storeN (i := 1) (n := 7) sz_27 rfl rfl rfl (by simp [Value.oneCell']) hf rfl rfl hO fun w hO => ?_
        refine op_val (ex_assign hf rfl) rfl hf rfl rfl fun a hf => ?_
        refine wpList_nil ?_
        refine nor_then (hK27 _ _ ?_)
        refine wp_seq_cut (fun a w => ∃ (t31 : Bool), Fits 59 [(2, .bool t31)] a ∧ Dk.Own w0 [] w [.row (.slice none 0 0) 86 2 0 (cells enc_api_Field []), .blk b26 [int r23.1.Kind, str r23.1.Method, str r23.1.Target, int r23.1.Code, str r23.1.Reason, int r23.1.Minor, .slice p24 r23.1.Fields.length c25] 27, .row (.slice p24 r23.1.Fields.length c25) 86 2 r23.1.Fields.length (cells enc_api_Field r23.1.Fields), .blk b1 [int x_h.Kind, str r8, str r10, int x_h.Code, str r12, int x_h.Minor, .slice x_h_p0 x_h.Fields.length x_h_c0] 27, .shr x_h_p0 (cells enc_api_Field x_h.Fields)] ∧ law14_StartWrites_j2 t31 = some R) ?_ ?_
        · refine wp_region_list ?_
          refine op_val (ex_move hf rfl) rfl hf rfl rfl fun a hf => ?_
          refine op_val (ex_neq (m := r14.2) (n := 0) hf rfl rfl) rfl hf rfl rfl fun a hf => ?_
          refine op_val (ex_move hf rfl) rfl hf rfl rfl fun a hf => ?_
          rcases bcase (!(r14.2 == 0)) with hc28 | hc28
          · have hm := it hc28 hm
            refine op_pass rfl hf rfl rfl (hc28) rfl rfl fun a hf => ?_
            refine op_pass rfl hf rfl rfl (hc28) rfl rfl fun a hf => ?_
            refine op_pass rfl hf rfl rfl (hc28) rfl rfl fun a hf => ?_
            refine op_passu rfl hf rfl rfl rfl rfl fun a hf => ?_
            refine op_passu rfl hf rfl rfl rfl rfl fun a hf => ?_
            refine op_passu rfl hf rfl rfl rfl rfl fun a hf => ?_
            refine op_pass rfl hf rfl rfl (hc28) rfl rfl fun a hf => ?_
            refine op_val (ex_pick_t hf rfl hc28 rfl) rfl hf rfl rfl fun a hf => ?_
            refine op_val (ex_assign hf rfl) rfl hf rfl rfl fun a hf => ?_
            refine wpList_nil ?_
            refine nor_then ?_
            exact ⟨true, (hf.cons rfl hf.nil), hO, hm⟩
          · have hm := ie hc28 hm
            refine op_guard rfl hf rfl rfl (hc28) ?_
            refine op_val (ex_move hf rfl) rfl hf rfl rfl fun a hf => ?_
            refine op_guard rfl hf rfl rfl (hc28) ?_
            refine op_val (ex_eql (m := r23.2) (n := 0) hf rfl rfl) rfl hf rfl rfl fun a hf => ?_
            refine op_guard rfl hf rfl rfl (hc28) ?_
            refine op_val (ex_move hf rfl) rfl hf rfl rfl fun a hf => ?_
            rcases bcase (r23.2 == 0) with hc29 | hc29
            · have hm := it hc29 hm
              refine op_guard rfl hf rfl rfl (hc29) ?_
              refine op_val (ex_loadN (o := 0) (vs := [int r23.1.Kind, str r23.1.Method, str r23.1.Target, int r23.1.Code, str r23.1.Reason, int r23.1.Minor, .slice p24 r23.1.Fields.length c25]) ag_27 sz_27 (hO.blkSees (i := 1) rfl) rfl rfl hf rfl) rfl hf rfl rfl fun a hf => ?_
              refine op_guard rfl hf rfl rfl (hc29) ?_
              refine op_val (ex_loadN (o := 0) (vs := [int x_h.Kind, str r8, str r10, int x_h.Code, str r12, int x_h.Minor, .slice x_h_p0 x_h.Fields.length x_h_c0]) ag_27 sz_27 (hO.blkSees (i := 3) rfl) rfl rfl hf rfl) rfl hf rfl rfl fun a hf => ?_
              refine op_guard rfl hf rfl rfl (hc29) ?_
              obtain ⟨r30, hr30, hm⟩ := ob hm
              refine op_enter (ex_call c_13 hf (vs := [.agg #[int r23.1.Kind, str r23.1.Method, str r23.1.Target, int r23.1.Code, str r23.1.Reason, int r23.1.Minor, .slice p24 r23.1.Fields.length c25], .agg #[int x_h.Kind, str r8, str r10, int x_h.Code, str r12, int x_h.Minor, .slice x_h_p0 x_h.Fields.length x_h_c0]]) rfl) rfl hf rfl rfl (w_ref14_Same r23.1 (⟨x_h.Kind, r8, r10, x_h.Code, r12, x_h.Minor, x_h.Fields⟩ : api_Head) r30 _ (hG.own hF hO).1 (hO.rowSees (i := 2) rfl) (hO.rowCap (i := 2) rfl) (hO.sees (i := 4) rfl) hc0 hr30) ?_
              rintro e w' ⟨he, hb⟩
              refine ⟨_, he, fun a hf => ?_⟩
              have hO := hO.grow hb
              refine op_guard rfl hf rfl rfl (hc28) ?_
              refine op_val (ex_pick_t hf rfl hc29 rfl) rfl hf rfl rfl fun a hf => ?_
              refine op_val (ex_pick_f hf rfl hc28 rfl) rfl hf rfl rfl fun a hf => ?_
              refine op_val (ex_assign hf rfl) rfl hf rfl rfl fun a hf => ?_
              refine wpList_nil ?_
              refine nor_then ?_
              exact ⟨r30, (hf.cons rfl hf.nil), hO, hm⟩
            · have hm := ie hc29 hm
              refine op_pass rfl hf rfl rfl (hc29) rfl rfl fun a hf => ?_
              refine op_pass rfl hf rfl rfl (hc29) rfl rfl fun a hf => ?_
              refine op_pass rfl hf rfl rfl (hc29) rfl rfl fun a hf => ?_
              refine op_guard rfl hf rfl rfl (hc28) ?_
              refine op_val (ex_pick_f hf rfl hc29 rfl) rfl hf rfl rfl fun a hf => ?_
              refine op_val (ex_pick_f hf rfl hc28 rfl) rfl hf rfl rfl fun a hf => ?_
              refine op_val (ex_assign hf rfl) rfl hf rfl rfl fun a hf => ?_
              refine wpList_nil ?_
              refine nor_then ?_
              exact ⟨false, (hf.cons rfl hf.nil), hO, hm⟩
        · rintro a w ⟨t31, hf, hO, hm⟩
          rw [law14_StartWrites_j2] at hm
          refine wp_ret ?_
          obtain rfl := Option.some.inj hm
          exact post_ret Tryz.results4 hf (.tmp rfl .nil) ⟨rfl, hO.below⟩

end Go.Proofs
