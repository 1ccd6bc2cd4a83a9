/-
  Walks, written by a program (wip/gen): what its model says, the function returns; what was there before is as it was.
-/
import Derived.Test.YtnfkbhocbdheaaaGreatDoorLib
import Derived.Test.YtnfkbhocbdheaaaGreatDoorW0
import Derived.Test.YtnfkbhocbdheaaaGreatDoorW2
import Derived.Test.YtnfkbhocbdheaaaGreatDoorW3
import Derived.Test.YtnfkbhocbdheaaaGreatDoorW5
set_option linter.unusedVariables false
set_option linter.unusedSimpArgs false
set_option maxRecDepth 100000
namespace Go.Proofs
open Go.Dk Go.Dm Go.RowKit

set_option maxHeartbeats 1000000 in
theorem w_law10_TargetWrites (x_t : api_Target) (R : Bool) (w0 : World) (hG : GlobT w0) (hm : law10_TargetWrites x_t = some R) :
    Calls Tryz.prog 4 #[.agg #[int x_t.Kind, str x_t.Scheme, int x_t.Host.Kind, str x_t.Host.Name, int x_t.Host.Port, str x_t.Path, str x_t.Query, .bool x_t.HasQuery]] w0 fun e w' => e = .returned (.bool R) ∧ Below w0.heap.size w0 w' := by
  rw [law10_TargetWrites] at hm
  refine calls_enter (vs := [.agg #[int x_t.Kind, str x_t.Scheme, int x_t.Host.Kind, str x_t.Host.Name, int x_t.Host.Port, str x_t.Path, str x_t.Query, .bool x_t.HasQuery]]) Tryz.func4 rfl Tryz.ntmps4 rfl fun a hf => ?_
  have hF : Away [] := away_nil
  have hO : Dk.Own w0 [] w0 [] := Dk.Own.refl w0
  refine wp_seq_k fun _ hK2 => ?_
  refine wp_region_list ?_
  refine op_box (v := .agg #[int x_t.Kind, str x_t.Scheme, int x_t.Host.Kind, str x_t.Host.Name, int x_t.Host.Port, str x_t.Path, str x_t.Query, .bool x_t.HasQuery]) (cs := [int x_t.Kind, str x_t.Scheme, int x_t.Host.Kind, str x_t.Host.Name, int x_t.Host.Port, str x_t.Path, str x_t.Query, .bool x_t.HasQuery]) rfl hf rfl rfl hO fun a b1 w hf hO => ?_
  refine op_val (ex_assign hf rfl) rfl hf rfl rfl fun a hf => ?_
  refine wpList_nil ?_
  refine nor_then (hK2 _ _ ?_)
  refine wp_seq_k fun _ hK7 => ?_
  refine wp_seq_k fun _ hK4 => ?_
  refine wp_region_list ?_
  obtain ⟨r3, hr3, hm⟩ := ob hm
  refine op_enter (ex_call c_8 hf (vs := []) rfl) rfl hf rfl rfl (w_law10_awake r3 _ (hG.own hF hO) hr3) ?_
  rintro e w' ⟨he, hb⟩
  refine ⟨_, he, fun a hf => ?_⟩
  have hO := hO.grow hb
  refine op_val (ex_not hf rfl) rfl hf rfl rfl fun a hf => ?_
  refine wpList_nil ?_
  refine nor_then (hK4 _ _ ?_)
  refine wp_cond_cut hf rfl (fun hc5 => ?_) (fun hc5 => ?_)
  · have hm := it hc5 hm
    refine wp_seq_k fun _ hK6 => ?_
    refine wp_region_list ?_
    refine op_val (ex_assign hf rfl) rfl hf rfl rfl fun a hf => ?_
    refine wpList_nil ?_
    refine nor_then (hK6 _ _ ?_)
    refine wp_ret ?_
    refine ret_then ?_
    obtain rfl := Option.some.inj hm
    exact post_ret Tryz.results4 hf (.tmp rfl .nil) ⟨rfl, hO.below⟩
  · have hm := ie hc5 hm
    refine wp_skip ?_
    refine nor_then (hK7 _ _ ?_)
    refine wp_seq_k fun _ hK9 => ?_
    refine wp_region_list ?_
    refine op_val (ex_field fa_29_1 hf rfl) rfl hf rfl rfl fun a hf => ?_
    refine op_val (ex_load1 (o := 1) ag_9 (hO.blkSees (i := 0) rfl) rfl hf rfl) rfl hf rfl rfl fun a hf => ?_
    obtain ⟨r8, hr8, hm⟩ := ob hm
    refine op_enter (ex_call c_9 hf (vs := [str x_t.Scheme]) rfl) rfl hf rfl rfl (w_law10_few x_t.Scheme r8 _ (hG.own hF hO).1 hr8) ?_
    rintro e w' ⟨he, hb⟩
    refine ⟨_, he, fun a hf => ?_⟩
    have hO := hO.grow hb
    refine op_val (ex_field fa_29_1 hf rfl) rfl hf rfl rfl fun a hf => ?_
    refine op_store1 (i := 0) (o := 1) (v := str r8) sz_9 rfl rfl rfl rfl hf rfl rfl hO fun w hO => ?_
    refine wpList_nil ?_
    refine nor_then (hK9 _ _ ?_)
    refine wp_seq_k fun _ hK11 => ?_
    refine wp_region_list ?_
    refine op_val (ex_field fa_29_3 hf rfl) rfl hf rfl rfl fun a hf => ?_
    refine op_val (ex_load1 (o := 5) ag_9 (hO.blkSees (i := 0) rfl) rfl hf rfl) rfl hf rfl rfl fun a hf => ?_
    obtain ⟨r10, hr10, hm⟩ := ob hm
    refine op_enter (ex_call c_9 hf (vs := [str x_t.Path]) rfl) rfl hf rfl rfl (w_law10_few x_t.Path r10 _ (hG.own hF hO).1 hr10) ?_
    rintro e w' ⟨he, hb⟩
    refine ⟨_, he, fun a hf => ?_⟩
    have hO := hO.grow hb
    refine op_val (ex_field fa_29_3 hf rfl) rfl hf rfl rfl fun a hf => ?_
    refine op_store1 (i := 0) (o := 5) (v := str r10) sz_9 rfl rfl rfl rfl hf rfl rfl hO fun w hO => ?_
    refine wpList_nil ?_
    refine nor_then (hK11 _ _ ?_)
    refine wp_seq_k fun _ hK13 => ?_
    refine wp_region_list ?_
    refine op_val (ex_field fa_29_4 hf rfl) rfl hf rfl rfl fun a hf => ?_
    refine op_val (ex_load1 (o := 6) ag_9 (hO.blkSees (i := 0) rfl) rfl hf rfl) rfl hf rfl rfl fun a hf => ?_
    obtain ⟨r12, hr12, hm⟩ := ob hm
    refine op_enter (ex_call c_9 hf (vs := [str x_t.Query]) rfl) rfl hf rfl rfl (w_law10_few x_t.Query r12 _ (hG.own hF hO).1 hr12) ?_
    rintro e w' ⟨he, hb⟩
    refine ⟨_, he, fun a hf => ?_⟩
    have hO := hO.grow hb
    refine op_val (ex_field fa_29_4 hf rfl) rfl hf rfl rfl fun a hf => ?_
    refine op_store1 (i := 0) (o := 6) (v := str r12) sz_9 rfl rfl rfl rfl hf rfl rfl hO fun w hO => ?_
    refine wpList_nil ?_
    refine nor_then (hK13 _ _ ?_)
    refine wp_seq_k fun _ hK15 => ?_
    refine wp_region_list ?_
    refine op_val (ex_field fa_29_2 hf rfl) rfl hf rfl rfl fun a hf => ?_
    refine op_val (ex_field fa_27_1 hf rfl) rfl hf rfl rfl fun a hf => ?_
    refine op_val (ex_load1 (o := 3) ag_9 (hO.blkSees (i := 0) rfl) rfl hf rfl) rfl hf rfl rfl fun a hf => ?_
    obtain ⟨r14, hr14, hm⟩ := ob hm
    refine op_enter (ex_call c_9 hf (vs := [str x_t.Host.Name]) rfl) rfl hf rfl rfl (w_law10_few x_t.Host.Name r14 _ (hG.own hF hO).1 hr14) ?_
    rintro e w' ⟨he, hb⟩
    refine ⟨_, he, fun a hf => ?_⟩
    have hO := hO.grow hb
    refine op_val (ex_field fa_29_2 hf rfl) rfl hf rfl rfl fun a hf => ?_
    refine op_val (ex_field fa_27_1 hf rfl) rfl hf rfl rfl fun a hf => ?_
    refine op_store1 (i := 0) (o := 3) (v := str r14) sz_9 rfl rfl rfl rfl hf rfl rfl hO fun w hO => ?_
    refine wpList_nil ?_
    refine nor_then (hK15 _ _ ?_)
    refine wp_seq_k fun _ hK17 => ?_
    refine wp_region_list ?_
    refine op_val (ex_loadN (o := 0) (vs := [int x_t.Kind, str r8, int x_t.Host.Kind, str r14, int x_t.Host.Port, str r10, str r12, .bool x_t.HasQuery]) ag_29 sz_29 (hO.blkSees (i := 0) rfl) rfl rfl hf rfl) rfl hf rfl rfl fun a hf => ?_
    obtain ⟨r16, hr16, hm⟩ := ob hm
    refine op_enter (ex_call c_12 hf (vs := [.agg #[int x_t.Kind, str r8, int x_t.Host.Kind, str r14, int x_t.Host.Port, str r10, str r12, .bool x_t.HasQuery]]) rfl) rfl hf rfl rfl (w_target_Text ((⟨x_t.Kind, r8, (⟨x_t.Host.Kind, r14, x_t.Host.Port⟩ : api_Host), r10, r12, x_t.HasQuery⟩ : api_Target)) r16 _ (hG.own hF hO) hr16) ?_
    rintro e w' ⟨he, hb⟩
    refine ⟨_, he, fun a hf => ?_⟩
    have hO := hO.grow hb
    refine op_val (ex_move hf rfl) rfl hf rfl rfl fun a hf => ?_
    refine op_val (ex_extract hf rfl rfl) rfl hf rfl rfl fun a hf => ?_
    refine op_val (ex_extract hf rfl rfl) rfl hf rfl rfl fun a hf => ?_
    refine op_val (ex_assign hf rfl) rfl hf rfl rfl fun a hf => ?_
    refine op_val (ex_assign hf rfl) rfl hf rfl rfl fun a hf => ?_
    refine wpList_nil ?_
    refine nor_then (hK17 _ _ ?_)
    refine wp_seq_k fun _ hK19 => ?_
    refine wp_region_list ?_
    refine op_val (ex_loadN (o := 0) (vs := [int x_t.Kind, str r8, int x_t.Host.Kind, str r14, int x_t.Host.Port, str r10, str r12, .bool x_t.HasQuery]) ag_29 sz_29 (hO.blkSees (i := 0) rfl) rfl rfl hf rfl) rfl hf rfl rfl fun a hf => ?_
    obtain ⟨r18, hr18, hm⟩ := ob hm
    refine op_enter (ex_call c_15 hf (vs := [.agg #[int x_t.Kind, str r8, int x_t.Host.Kind, str r14, int x_t.Host.Port, str r10, str r12, .bool x_t.HasQuery]]) rfl) rfl hf rfl rfl (w_ref10_Text ((⟨x_t.Kind, r8, (⟨x_t.Host.Kind, r14, x_t.Host.Port⟩ : api_Host), r10, r12, x_t.HasQuery⟩ : api_Target)) r18 _ (hG.own hF hO).1 hr18) ?_
    rintro e w' ⟨he, hb⟩
    refine ⟨_, he, fun a hf => ?_⟩
    have hO := hO.grow hb
    refine op_val (ex_move hf rfl) rfl hf rfl rfl fun a hf => ?_
    refine op_val (ex_extract hf rfl rfl) rfl hf rfl rfl fun a hf => ?_
    refine op_val (ex_extract hf rfl rfl) rfl hf rfl rfl fun a hf => ?_
    refine op_val (ex_assign hf rfl) rfl hf rfl rfl fun a hf => ?_
    refine op_val (ex_assign hf rfl) rfl hf rfl rfl fun a hf => ?_
    refine wpList_nil ?_
    refine nor_then (hK19 _ _ ?_)
    refine wp_seq_cut (fun a w => ∃ (t24 : Bool), Fits 52 [(2, .bool t24)] a ∧ Dk.Own w0 [] w [.blk b1 [int x_t.Kind, str r8, int x_t.Host.Kind, str r14, int x_t.Host.Port, str r10, str r12, .bool x_t.HasQuery] 29] ∧ law10_TargetWrites_j1 t24 = some R) ?_ ?_
    · refine wp_quiet (by kernel_rfl) (by kernel_rfl) hO ?_
      refine q_val (fun w hO => ex_move hf rfl) rfl hf rfl rfl fun a hf => ?_
      refine q_val (fun w hO => ex_move hf rfl) rfl hf rfl rfl fun a hf => ?_
      refine q_val (fun w hO => ex_eql_s (l := r16.1) (m := r18.1) hf rfl rfl) rfl hf rfl rfl fun a hf => ?_
      refine q_val (fun w hO => ex_move hf rfl) rfl hf rfl rfl fun a hf => ?_
      rcases bcase (r16.1 == r18.1) with hc20 | hc20
      · have hm := it hc20 hm
        refine q_guard rfl hf rfl rfl (hc20) ?_
        refine q_val (fun w hO => ex_move hf rfl) rfl hf rfl rfl fun a hf => ?_
        refine q_guard rfl hf rfl rfl (hc20) ?_
        refine q_val (fun w hO => ex_move hf rfl) rfl hf rfl rfl fun a hf => ?_
        refine q_guard rfl hf rfl rfl (hc20) ?_
        refine q_val (fun w hO => ex_eql (m := r16.2) (n := r18.2) hf rfl rfl) rfl hf rfl rfl fun a hf => ?_
        refine q_val (fun w hO => ex_pick_t hf rfl hc20 rfl) rfl hf rfl rfl fun a hf => ?_
        refine q_val (fun w hO => ex_move hf rfl) rfl hf rfl rfl fun a hf => ?_
        rcases bcase (r16.2 == r18.2) with hc21 | hc21
        · have hm := it hc21 hm
          refine q_guard rfl hf rfl rfl (hc21) ?_
          refine q_val (fun w hO => ex_loadN (o := 0) (vs := [int x_t.Kind, str r8, int x_t.Host.Kind, str r14, int x_t.Host.Port, str r10, str r12, .bool x_t.HasQuery]) ag_29 sz_29 (hO.blkSees (i := 0) rfl) rfl rfl hf rfl) rfl hf rfl rfl fun a hf => ?_
          refine q_guard rfl hf rfl rfl (hc21) ?_
          obtain ⟨r22, hr22, hm⟩ := ob hm
          refine q_call (fun w hO => ex_call c_13 hf (vs := [.agg #[int x_t.Kind, str r8, int x_t.Host.Kind, str r14, int x_t.Host.Port, str r10, str r12, .bool x_t.HasQuery]]) rfl) rfl hf rfl rfl (fun w hO => (w_target_Origin ((⟨x_t.Kind, r8, (⟨x_t.Host.Kind, r14, x_t.Host.Port⟩ : api_Host), r10, r12, x_t.HasQuery⟩ : api_Target)) r22 _ (hG.own hF hO).1 hr22).mono fun e w' ⟨he, hb⟩ => ⟨he, hO.grow hb⟩) fun a hf => ?_
          refine q_guard rfl hf rfl rfl (hc21) ?_
          refine q_val (fun w hO => ex_loadN (o := 0) (vs := [int x_t.Kind, str r8, int x_t.Host.Kind, str r14, int x_t.Host.Port, str r10, str r12, .bool x_t.HasQuery]) ag_29 sz_29 (hO.blkSees (i := 0) rfl) rfl rfl hf rfl) rfl hf rfl rfl fun a hf => ?_
          refine q_guard rfl hf rfl rfl (hc21) ?_
          obtain ⟨r23, hr23, hm⟩ := ob hm
          refine q_call (fun w hO => ex_call c_14 hf (vs := [.agg #[int x_t.Kind, str r8, int x_t.Host.Kind, str r14, int x_t.Host.Port, str r10, str r12, .bool x_t.HasQuery]]) rfl) rfl hf rfl rfl (fun w hO => (w_ref10_Origin ((⟨x_t.Kind, r8, (⟨x_t.Host.Kind, r14, x_t.Host.Port⟩ : api_Host), r10, r12, x_t.HasQuery⟩ : api_Target)) r23 _ (hG.own hF hO).1 hr23).mono fun e w' ⟨he, hb⟩ => ⟨he, hO.grow hb⟩) fun a hf => ?_
          refine q_guard rfl hf rfl rfl (hc21) ?_
          refine q_val (fun w hO => ex_eql_s (l := r22) (m := r23) hf rfl rfl) rfl hf rfl rfl fun a hf => ?_
          refine q_val (fun w hO => ex_pick_t hf rfl hc21 rfl) rfl hf rfl rfl fun a hf => ?_
          refine q_val (fun w hO => ex_assign hf rfl) rfl hf rfl rfl fun a hf => ?_
          refine wpQuiet_nil ?_
          intro w hO
          refine nor_then ?_
          exact ⟨r22 == r23, (hf.cons rfl hf.nil), hO, hm⟩
        · have hm := ie hc21 hm
          refine q_pass rfl hf rfl rfl (hc21) rfl rfl fun a hf => ?_
          refine q_pass rfl hf rfl rfl (hc21) rfl rfl fun a hf => ?_
          refine q_pass rfl hf rfl rfl (hc21) rfl rfl fun a hf => ?_
          refine q_pass rfl hf rfl rfl (hc21) rfl rfl fun a hf => ?_
          refine q_pass rfl hf rfl rfl (hc21) rfl rfl fun a hf => ?_
          refine q_val (fun w hO => ex_pick_f hf rfl hc21 rfl) rfl hf rfl rfl fun a hf => ?_
          refine q_val (fun w hO => ex_assign hf rfl) rfl hf rfl rfl fun a hf => ?_
          refine wpQuiet_nil ?_
          intro w hO
          refine nor_then ?_
          exact ⟨false, (hf.cons rfl hf.nil), hO, hm⟩
      · have hm := ie hc20 hm
        refine q_pass rfl hf rfl rfl (hc20) rfl rfl fun a hf => ?_
        refine q_pass rfl hf rfl rfl (hc20) rfl rfl fun a hf => ?_
        refine q_pass rfl hf rfl rfl (hc20) rfl rfl fun a hf => ?_
        refine q_val (fun w hO => ex_pick_f hf rfl hc20 rfl) rfl hf rfl rfl fun a hf => ?_
        refine q_val (fun w hO => ex_move hf rfl) rfl hf rfl rfl fun a hf => ?_
        refine q_pass rfl hf rfl rfl (rfl) rfl rfl fun a hf => ?_
        refine q_pass rfl hf rfl rfl (rfl) rfl rfl fun a hf => ?_
        refine q_pass rfl hf rfl rfl (rfl) rfl rfl fun a hf => ?_
        refine q_pass rfl hf rfl rfl (rfl) rfl rfl fun a hf => ?_
        refine q_pass rfl hf rfl rfl (rfl) rfl rfl fun a hf => ?_
        refine q_val (fun w hO => ex_pick_f hf rfl rfl rfl) rfl hf rfl rfl fun a hf => ?_
        refine q_val (fun w hO => ex_assign hf rfl) rfl hf rfl rfl fun a hf => ?_
        refine wpQuiet_nil ?_
        intro w hO
        refine nor_then ?_
        exact ⟨false, (hf.cons rfl hf.nil), hO, hm⟩
    · rintro a w ⟨t24, hf, hO, hm⟩
      rw [law10_TargetWrites_j1] at hm
      refine wp_ret ?_
      obtain rfl := Option.some.inj hm
      exact post_ret Tryz.results4 hf (.tmp rfl .nil) ⟨rfl, hO.below⟩

end Go.Proofs
