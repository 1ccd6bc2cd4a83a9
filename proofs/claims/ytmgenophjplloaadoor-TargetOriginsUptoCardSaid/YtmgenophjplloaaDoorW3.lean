/-
  Walks, written by a program (wip/gen): what its model says, the function returns; what was there before is as it was.
-/
import Derived.Test.YtmgenophjplloaaDoorLib
import Derived.Test.YtmgenophjplloaaDoorW2
set_option linter.unusedVariables false
set_option linter.unusedSimpArgs false
set_option maxRecDepth 100000
namespace Go.Proofs
open Go.Dk Go.Dm Go.RowKit

set_option maxHeartbeats 1000000 in
theorem w_target_Origin (x_t : api_Target) (R : Str) (w0 : World) (hG : Glob w0) (hm : target_Origin x_t = some R) :
    Calls Tryd.prog 7 #[.agg #[int x_t.Kind, str x_t.Scheme, int x_t.Host.Kind, str x_t.Host.Name, int x_t.Host.Port, str x_t.Path, str x_t.Query, .bool x_t.HasQuery]] w0 fun e w' => e = .returned (str R) ∧ Below w0.heap.size w0 w' := by
  rw [target_Origin] at hm
  refine calls_enter (vs := [.agg #[int x_t.Kind, str x_t.Scheme, int x_t.Host.Kind, str x_t.Host.Name, int x_t.Host.Port, str x_t.Path, str x_t.Query, .bool x_t.HasQuery]]) Tryd.func7 rfl Tryd.ntmps7 rfl fun a hf => ?_
  have hF : Away [] := away_nil
  have hO : Dk.Own w0 [] w0 [] := Dk.Own.refl w0
  refine wp_seq_k fun _ hK2 => ?_
  refine wp_region_list ?_
  refine op_box (v := .agg #[int x_t.Kind, str x_t.Scheme, int x_t.Host.Kind, str x_t.Host.Name, int x_t.Host.Port, str x_t.Path, str x_t.Query, .bool x_t.HasQuery]) (cs := [int x_t.Kind, str x_t.Scheme, int x_t.Host.Kind, str x_t.Host.Name, int x_t.Host.Port, str x_t.Path, str x_t.Query, .bool x_t.HasQuery]) rfl hf rfl rfl hO fun a b1 w hf hO => ?_
  refine op_val (ex_assign hf rfl) rfl hf rfl rfl fun a hf => ?_
  refine wpList_nil ?_
  refine nor_then (hK2 _ _ ?_)
  refine wp_seq_k fun _ hK10 => ?_
  refine wp_seq_k fun _ hK3 => ?_
  refine wp_region_list ?_
  refine op_val (ex_field fa_29_0 hf rfl) rfl hf rfl rfl fun a hf => ?_
  refine op_val (ex_load1 (o := 0) ag_24 (hO.blkSees (i := 0) rfl) rfl hf rfl) rfl hf rfl rfl fun a hf => ?_
  refine wpList_nil ?_
  refine nor_then (hK3 _ _ ?_)
  refine wp_block ?_
  refine wp_seq_k fun _ hK4 => ?_
  refine wp_region_list ?_
  refine op_val (ex_eql (m := x_t.Kind) (n := 4) hf rfl rfl) rfl hf rfl rfl fun a hf => ?_
  refine op_val (ex_assign hf rfl) rfl hf rfl rfl fun a hf => ?_
  refine wpList_nil ?_
  refine nor_then (hK4 _ _ ?_)
  refine wp_cond_cut hf rfl (fun hc5 => ?_) (fun hc5 => ?_)
  · have hm := it hc5 hm
    refine wp_seq_k fun _ hK6 => ?_
    refine wp_region_list ?_
    refine op_val (ex_assign hf rfl) rfl hf rfl rfl fun a hf => ?_
    refine wpList_nil ?_
    refine nor_then (hK6 _ _ ?_)
    refine wp_ret ?_
    refine ret_block ?_
    refine ret_then ?_
    obtain rfl := Option.some.inj hm
    exact post_ret Tryd.results7 hf (.tmp rfl .nil) ⟨rfl, hO.below⟩
  · have hm := ie hc5 hm
    refine wp_seq_k fun _ hK7 => ?_
    refine wp_region_list ?_
    refine op_val (ex_eql (m := x_t.Kind) (n := 3) hf rfl rfl) rfl hf rfl rfl fun a hf => ?_
    refine op_val (ex_assign hf rfl) rfl hf rfl rfl fun a hf => ?_
    refine wpList_nil ?_
    refine nor_then (hK7 _ _ ?_)
    refine wp_cond_cut hf rfl (fun hc8 => ?_) (fun hc8 => ?_)
    · have hm := it hc8 hm
      refine wp_seq_k fun _ hK9 => ?_
      refine wp_region_list ?_
      refine op_val (ex_assign hf rfl) rfl hf rfl rfl fun a hf => ?_
      refine wpList_nil ?_
      refine nor_then (hK9 _ _ ?_)
      refine wp_ret ?_
      refine ret_block ?_
      refine ret_then ?_
      obtain rfl := Option.some.inj hm
      exact post_ret Tryd.results7 hf (.tmp rfl .nil) ⟨rfl, hO.below⟩
    · have hm := ie hc8 hm
      refine wp_skip ?_
      refine nor_block ?_
      refine nor_then (hK10 _ _ ?_)
      refine wp_seq_k fun _ hK11 => ?_
      refine wp_region_list ?_
      refine op_val (ex_field fa_29_3 hf rfl) rfl hf rfl rfl fun a hf => ?_
      refine op_val (ex_load1 (o := 5) ag_9 (hO.blkSees (i := 0) rfl) rfl hf rfl) rfl hf rfl rfl fun a hf => ?_
      refine op_val (ex_assign hf rfl) rfl hf rfl rfl fun a hf => ?_
      refine wpList_nil ?_
      refine nor_then (hK11 _ _ ?_)
      refine wp_seq_cut (fun a w => ∃ (s14 : Str), Fits 20 [(1, ptr b1 0), (3, str s14)] a ∧ Dk.Own w0 [] w [.blk b1 [int x_t.Kind, str x_t.Scheme, int x_t.Host.Kind, str x_t.Host.Name, int x_t.Host.Port, str x_t.Path, str x_t.Query, .bool x_t.HasQuery] 29] ∧ target_Origin_j1 x_t s14 = some R) ?_ ?_
      · refine wp_seq_k fun _ hK12 => ?_
        refine wp_region_list ?_
        refine op_val (ex_move hf rfl) rfl hf rfl rfl fun a hf => ?_
        refine op_val (ex_eql_s (l := x_t.Path) (m := []) hf rfl rfl) rfl hf rfl rfl fun a hf => ?_
        refine wpList_nil ?_
        refine nor_then (hK12 _ _ ?_)
        refine wp_cond_cut hf rfl (fun hc13 => ?_) (fun hc13 => ?_)
        · have hm := it hc13 hm
          refine wp_region_list ?_
          refine op_val (ex_assign hf rfl) rfl hf rfl rfl fun a hf => ?_
          refine wpList_nil ?_
          refine nor_then ?_
          exact ⟨[47], (hf.cons rfl (hf.cons rfl hf.nil)), hO, hm⟩
        · have hm := ie hc13 hm
          refine wp_skip ?_
          refine nor_then ?_
          exact ⟨x_t.Path, (hf.cons rfl (hf.cons rfl hf.nil)), hO, hm⟩
      · rintro a w ⟨s14, hf, hO, hm⟩
        rw [target_Origin_j1] at hm
        refine wp_seq_k fun _ hK16 => ?_
        refine wp_region_list ?_
        refine op_val (ex_move hf rfl) rfl hf rfl rfl fun a hf => ?_
        refine op_val (ex_field fa_29_4 hf rfl) rfl hf rfl rfl fun a hf => ?_
        refine op_val (ex_load1 (o := 6) ag_9 (hO.blkSees (i := 0) rfl) rfl hf rfl) rfl hf rfl rfl fun a hf => ?_
        refine op_val (ex_field fa_29_5 hf rfl) rfl hf rfl rfl fun a hf => ?_
        refine op_val (ex_load1 (o := 7) ag_4 (hO.blkSees (i := 0) rfl) rfl hf rfl) rfl hf rfl rfl fun a hf => ?_
        obtain ⟨r15, hr15, hm⟩ := ob hm
        refine op_enter (ex_call c_10 hf (vs := [str s14, str x_t.Query, .bool x_t.HasQuery]) rfl) rfl hf rfl rfl (w_pathq_Join s14 x_t.Query x_t.HasQuery r15 _ (hG.own hF hO) hr15) ?_
        rintro e w' ⟨he, hb⟩
        refine ⟨_, he, fun a hf => ?_⟩
        have hO := hO.grow hb
        refine op_val (ex_assign hf rfl) rfl hf rfl rfl fun a hf => ?_
        refine wpList_nil ?_
        refine nor_then (hK16 _ _ ?_)
        refine wp_ret ?_
        obtain rfl := Option.some.inj hm
        exact post_ret Tryd.results7 hf (.tmp rfl .nil) ⟨rfl, hO.below⟩

set_option maxHeartbeats 1000000 in
theorem w_law10_awake (R : Bool) (w0 : World) (hG : GlobT w0) (hm : law10_awake = some R) :
    Calls Tryd.prog 4 #[] w0 fun e w' => e = .returned (.bool R) ∧ Below w0.heap.size w0 w' := by
  rw [law10_awake] at hm
  refine calls_enter (vs := []) Tryd.func4 rfl Tryd.ntmps4 rfl fun a hf => ?_
  have hF : Away [] := away_nil
  have hO : Dk.Own w0 [] w0 [] := Dk.Own.refl w0
  refine wp_seq_k fun _ hK1 => ?_
  refine wp_region_list ?_
  refine op_val (ex_assign hf rfl) rfl hf rfl rfl fun a hf => ?_
  refine wpList_nil ?_
  refine nor_then (hK1 _ _ ?_)
  refine wp_seq_k fun _ hK4 => ?_
  refine wp_region_list ?_
  obtain ⟨r2, hr2, hm⟩ := ob hm
  refine op_enter (ex_call c_6 hf (vs := [str [71, 69, 84], str [72, 84, 84, 80, 58, 47, 47, 97, 58, 56, 48, 63, 120]]) rfl) rfl hf rfl rfl (w_target_Parse [71, 69, 84] [72, 84, 84, 80, 58, 47, 47, 97, 58, 56, 48, 63, 120] r2 _ (hG.own hF hO) hr2) ?_
  rintro e w' ⟨he, hb⟩
  refine ⟨_, he, fun a hf => ?_⟩
  have hO := hO.grow hb
  refine op_val (ex_move hf rfl) rfl hf rfl rfl fun a hf => ?_
  refine op_val (ex_extract hf rfl rfl) rfl hf rfl rfl fun a hf => ?_
  refine op_val (ex_extract hf rfl rfl) rfl hf rfl rfl fun a hf => ?_
  refine op_alloc al_29 hf rfl hO fun a b3 w hf hO => ?_
  refine op_storeN (i := 0) (n := 8) sz_29 rfl rfl rfl (by simp [Value.oneCell']) hf rfl rfl hO fun w hO => ?_
  refine op_val (ex_assign hf rfl) rfl hf rfl rfl fun a hf => ?_
  refine wpList_nil ?_
  refine nor_then (hK4 _ _ ?_)
  refine wp_seq_cut (fun a w => ∃ (t8 : Bool), Fits 20 [(0, .bool t8)] a ∧ Dk.Own w0 [] w [.blk b3 [int r2.1.Kind, str r2.1.Scheme, int r2.1.Host.Kind, str r2.1.Host.Name, int r2.1.Host.Port, str r2.1.Path, str r2.1.Query, .bool r2.1.HasQuery] 29] ∧ law10_awake_j1 t8 = some R) ?_ ?_
  · refine wp_region_list ?_
    refine op_val (ex_move hf rfl) rfl hf rfl rfl fun a hf => ?_
    refine op_val (ex_eql (m := r2.2) (n := 0) hf rfl rfl) rfl hf rfl rfl fun a hf => ?_
    refine op_val (ex_move hf rfl) rfl hf rfl rfl fun a hf => ?_
    rcases bcase (r2.2 == 0) with hc5 | hc5
    · have hm := it hc5 hm
      refine op_guard rfl hf rfl rfl (hc5) ?_
      refine op_val (ex_loadN (o := 0) (vs := [int r2.1.Kind, str r2.1.Scheme, int r2.1.Host.Kind, str r2.1.Host.Name, int r2.1.Host.Port, str r2.1.Path, str r2.1.Query, .bool r2.1.HasQuery]) ag_29 sz_29 (hO.blkSees (i := 0) rfl) rfl rfl hf rfl) rfl hf rfl rfl fun a hf => ?_
      refine op_guard rfl hf rfl rfl (hc5) ?_
      refine op_val (ex_build (vs := [(0, int 1), (1, str [97]), (2, int 80)]) (v := .agg #[int 1, str [97], int 80]) hf rfl (by kernel_rfl)) rfl hf rfl rfl fun a hf => ?_
      refine op_guard rfl hf rfl rfl (hc5) ?_
      refine op_val (ex_build (vs := [(0, int 2), (1, str [104, 116, 116, 112]), (2, .agg #[int 1, str [97], int 80]), (4, str [120]), (5, .bool true)]) (v := .agg #[int 2, str [104, 116, 116, 112], int 1, str [97], int 80, str [], str [120], .bool true]) hf rfl (by kernel_rfl)) rfl hf rfl rfl fun a hf => ?_
      refine op_guard rfl hf rfl rfl (hc5) ?_
      refine op_val (ex_eql_t (by kernel_rfl) (eq_29 r2.1 ((⟨2, [104, 116, 116, 112], (⟨1, [97], 80⟩ : api_Host), [], [120], true⟩ : api_Target))) hf rfl rfl) rfl hf rfl rfl fun a hf => ?_
      refine op_val (ex_pick_t hf rfl hc5 rfl) rfl hf rfl rfl fun a hf => ?_
      refine op_val (ex_move hf rfl) rfl hf rfl rfl fun a hf => ?_
      rcases bcase (r2.1 == ((⟨2, [104, 116, 116, 112], (⟨1, [97], 80⟩ : api_Host), [], [120], true⟩ : api_Target))) with hc6 | hc6
      · have hm := it hc6 hm
        refine op_guard rfl hf rfl rfl (hc6) ?_
        refine op_val (ex_loadN (o := 0) (vs := [int r2.1.Kind, str r2.1.Scheme, int r2.1.Host.Kind, str r2.1.Host.Name, int r2.1.Host.Port, str r2.1.Path, str r2.1.Query, .bool r2.1.HasQuery]) ag_29 sz_29 (hO.blkSees (i := 0) rfl) rfl rfl hf rfl) rfl hf rfl rfl fun a hf => ?_
        refine op_guard rfl hf rfl rfl (hc6) ?_
        obtain ⟨r7, hr7, hm⟩ := ob hm
        refine op_enter (ex_call c_7 hf (vs := [.agg #[int r2.1.Kind, str r2.1.Scheme, int r2.1.Host.Kind, str r2.1.Host.Name, int r2.1.Host.Port, str r2.1.Path, str r2.1.Query, .bool r2.1.HasQuery]]) rfl) rfl hf rfl rfl (w_target_Origin r2.1 r7 _ (hG.own hF hO).1 hr7) ?_
        rintro e w' ⟨he, hb⟩
        refine ⟨_, he, fun a hf => ?_⟩
        have hO := hO.grow hb
        refine op_guard rfl hf rfl rfl (hc6) ?_
        refine op_val (ex_eql_s (l := r7) (m := [47, 63, 120]) hf rfl rfl) rfl hf rfl rfl fun a hf => ?_
        refine op_val (ex_pick_t hf rfl hc6 rfl) rfl hf rfl rfl fun a hf => ?_
        refine op_val (ex_assign hf rfl) rfl hf rfl rfl fun a hf => ?_
        refine wpList_nil ?_
        refine nor_then ?_
        exact ⟨r7 == [47, 63, 120], (hf.cons rfl hf.nil), hO, hm⟩
      · have hm := ie hc6 hm
        refine op_pass rfl hf rfl rfl (hc6) rfl rfl fun a hf => ?_
        refine op_pass rfl hf rfl rfl (hc6) rfl rfl fun a hf => ?_
        refine op_pass rfl hf rfl rfl (hc6) rfl rfl fun a hf => ?_
        refine op_val (ex_pick_f hf rfl hc6 rfl) rfl hf rfl rfl fun a hf => ?_
        refine op_val (ex_assign hf rfl) rfl hf rfl rfl fun a hf => ?_
        refine wpList_nil ?_
        refine nor_then ?_
        exact ⟨false, (hf.cons rfl hf.nil), hO, hm⟩
    · have hm := ie hc5 hm
      refine op_pass rfl hf rfl rfl (hc5) rfl rfl fun a hf => ?_
      refine op_pass rfl hf rfl rfl (hc5) rfl rfl fun a hf => ?_
      refine op_pass rfl hf rfl rfl (hc5) rfl rfl fun a hf => ?_
      refine op_pass rfl hf rfl rfl (hc5) rfl rfl fun a hf => ?_
      refine op_val (ex_pick_f hf rfl hc5 rfl) rfl hf rfl rfl fun a hf => ?_
      refine op_val (ex_move hf rfl) rfl hf rfl rfl fun a hf => ?_
      refine op_pass rfl hf rfl rfl (rfl) rfl rfl fun a hf => ?_
      refine op_pass rfl hf rfl rfl (rfl) rfl rfl fun a hf => ?_
      refine op_pass rfl hf rfl rfl (rfl) rfl rfl fun a hf => ?_
      refine op_val (ex_pick_f hf rfl rfl rfl) rfl hf rfl rfl fun a hf => ?_
      refine op_val (ex_assign hf rfl) rfl hf rfl rfl fun a hf => ?_
      refine wpList_nil ?_
      refine nor_then ?_
      exact ⟨false, (hf.cons rfl hf.nil), hO, hm⟩
  · rintro a w ⟨t8, hf, hO, hm⟩
    rw [law10_awake_j1] at hm
    refine wp_ret ?_
    obtain rfl := Option.some.inj hm
    exact post_ret Tryd.results4 hf (.tmp rfl .nil) ⟨rfl, hO.below⟩

set_option maxHeartbeats 1000000 in
theorem w_law10_few (x_s : Str) (R : Str) (w0 : World) (hG : Glob w0) (hm : law10_few x_s = some R) :
    Calls Tryd.prog 5 #[str x_s] w0 fun e w' => e = .returned (str R) ∧ Below w0.heap.size w0 w' := by
  rw [law10_few] at hm
  refine calls_enter (vs := [str x_s]) Tryd.func5 rfl Tryd.ntmps5 rfl fun a hf => ?_
  have hF : Away [] := away_nil
  have hO : Dk.Own w0 [] w0 [] := Dk.Own.refl w0
  refine wp_seq_k fun _ hK1 => ?_
  refine wp_region_list ?_
  refine op_val (ex_assign hf rfl) rfl hf rfl rfl fun a hf => ?_
  refine wpList_nil ?_
  refine nor_then (hK1 _ _ ?_)
  refine wp_seq_k fun _ hK3 => ?_
  refine wp_region_list ?_
  refine op_val (ex_move hf rfl) rfl hf rfl rfl fun a hf => ?_
  refine op_val (ex_move hf rfl) rfl hf rfl rfl fun a hf => ?_
  refine op_val (ex_len_s (l := x_s) Tryd.underlying9 hf rfl) rfl hf rfl rfl fun a hf => ?_
  refine op_val (ex_min (m := (x_s.length : Int)) (n := 150) hf rfl rfl) rfl hf rfl rfl fun a hf => ?_
  obtain ⟨s2, hs2, hm⟩ := ob hm
  refine op_val (ex_to_s (l := x_s) Tryd.underlying9 hf rfl rfl hs2) rfl hf rfl rfl fun a hf => ?_
  refine op_val (ex_assign hf rfl) rfl hf rfl rfl fun a hf => ?_
  refine wpList_nil ?_
  refine nor_then (hK3 _ _ ?_)
  refine wp_ret ?_
  obtain rfl := Option.some.inj hm
  exact post_ret Tryd.results5 hf (.tmp rfl .nil) ⟨rfl, hO.below⟩

set_option maxHeartbeats 1000000 in
theorem w_law10_TargetOrigins (x_a0 : Str) (x_a1 : Str) (R : Bool) (w0 : World) (hG : GlobT w0) (hm : law10_TargetOrigins x_a0 x_a1 = some R) :
    Calls Tryd.prog 3 #[str x_a0, str x_a1] w0 fun e w' => e = .returned (.bool R) ∧ Below w0.heap.size w0 w' := by
  rw [law10_TargetOrigins] at hm
  refine calls_enter (vs := [str x_a0, str x_a1]) Tryd.func3 rfl Tryd.ntmps3 rfl fun a hf => ?_
  have hF : Away [] := away_nil
  have hO : Dk.Own w0 [] w0 [] := Dk.Own.refl w0
  refine wp_seq_k fun _ hK1 => ?_
  refine wp_region_list ?_
  refine op_val (ex_assign hf rfl) rfl hf rfl rfl fun a hf => ?_
  refine wpList_nil ?_
  refine nor_then (hK1 _ _ ?_)
  refine wp_seq_k fun _ hK6 => ?_
  refine wp_seq_k fun _ hK3 => ?_
  refine wp_region_list ?_
  obtain ⟨r2, hr2, hm⟩ := ob hm
  refine op_enter (ex_call c_4 hf (vs := []) rfl) rfl hf rfl rfl (w_law10_awake r2 _ (hG.own hF hO) hr2) ?_
  rintro e w' ⟨he, hb⟩
  refine ⟨_, he, fun a hf => ?_⟩
  have hO := hO.grow hb
  refine op_val (ex_not hf rfl) rfl hf rfl rfl fun a hf => ?_
  refine wpList_nil ?_
  refine nor_then (hK3 _ _ ?_)
  refine wp_cond_cut hf rfl (fun hc4 => ?_) (fun hc4 => ?_)
  · have hm := it hc4 hm
    refine wp_seq_k fun _ hK5 => ?_
    refine wp_region_list ?_
    refine op_val (ex_assign hf rfl) rfl hf rfl rfl fun a hf => ?_
    refine wpList_nil ?_
    refine nor_then (hK5 _ _ ?_)
    refine wp_ret ?_
    refine ret_then ?_
    obtain rfl := Option.some.inj hm
    exact post_ret Tryd.results3 hf (.tmp rfl .nil) ⟨rfl, hO.below⟩
  · have hm := ie hc4 hm
    refine wp_skip ?_
    refine nor_then (hK6 _ _ ?_)
    refine wp_seq_k fun _ hK9 => ?_
    refine wp_region_list ?_
    refine op_val (ex_move hf rfl) rfl hf rfl rfl fun a hf => ?_
    obtain ⟨r7, hr7, hm⟩ := ob hm
    refine op_enter (ex_call c_5 hf (vs := [str x_a0]) rfl) rfl hf rfl rfl (w_law10_few x_a0 r7 _ (hG.own hF hO).1 hr7) ?_
    rintro e w' ⟨he, hb⟩
    refine ⟨_, he, fun a hf => ?_⟩
    have hO := hO.grow hb
    refine op_val (ex_move hf rfl) rfl hf rfl rfl fun a hf => ?_
    obtain ⟨r8, hr8, hm⟩ := ob hm
    refine op_enter (ex_call c_5 hf (vs := [str x_a1]) rfl) rfl hf rfl rfl (w_law10_few x_a1 r8 _ (hG.own hF hO).1 hr8) ?_
    rintro e w' ⟨he, hb⟩
    refine ⟨_, he, fun a hf => ?_⟩
    have hO := hO.grow hb
    refine op_val (ex_assign hf rfl) rfl hf rfl rfl fun a hf => ?_
    refine op_val (ex_assign hf rfl) rfl hf rfl rfl fun a hf => ?_
    refine wpList_nil ?_
    refine nor_then (hK9 _ _ ?_)
    refine wp_seq_k fun _ hK12 => ?_
    refine wp_region_list ?_
    refine op_val (ex_move hf rfl) rfl hf rfl rfl fun a hf => ?_
    refine op_val (ex_move hf rfl) rfl hf rfl rfl fun a hf => ?_
    obtain ⟨r10, hr10, hm⟩ := ob hm
    refine op_enter (ex_call c_6 hf (vs := [str r7, str r8]) rfl) rfl hf rfl rfl (w_target_Parse r7 r8 r10 _ (hG.own hF hO) hr10) ?_
    rintro e w' ⟨he, hb⟩
    refine ⟨_, he, fun a hf => ?_⟩
    have hO := hO.grow hb
    refine op_val (ex_move hf rfl) rfl hf rfl rfl fun a hf => ?_
    refine op_val (ex_extract hf rfl rfl) rfl hf rfl rfl fun a hf => ?_
    refine op_val (ex_extract hf rfl rfl) rfl hf rfl rfl fun a hf => ?_
    refine op_alloc al_29 hf rfl hO fun a b11 w hf hO => ?_
    refine op_storeN (i := 0) (n := 8) sz_29 rfl rfl rfl (by simp [Value.oneCell']) hf rfl rfl hO fun w hO => ?_
    refine op_val (ex_assign hf rfl) rfl hf rfl rfl fun a hf => ?_
    refine wpList_nil ?_
    refine nor_then (hK12 _ _ ?_)
    refine wp_seq_k fun _ hK16 => ?_
    refine wp_seq_k fun _ hK13 => ?_
    refine wp_region_list ?_
    refine op_val (ex_move hf rfl) rfl hf rfl rfl fun a hf => ?_
    refine op_val (ex_neq (m := r10.2) (n := 0) hf rfl rfl) rfl hf rfl rfl fun a hf => ?_
    refine wpList_nil ?_
    refine nor_then (hK13 _ _ ?_)
    refine wp_cond_cut hf rfl (fun hc14 => ?_) (fun hc14 => ?_)
    · have hm := it hc14 hm
      refine wp_seq_k fun _ hK15 => ?_
      refine wp_region_list ?_
      refine op_val (ex_loadN (o := 0) (vs := [int r10.1.Kind, str r10.1.Scheme, int r10.1.Host.Kind, str r10.1.Host.Name, int r10.1.Host.Port, str r10.1.Path, str r10.1.Query, .bool r10.1.HasQuery]) ag_29 sz_29 (hO.blkSees (i := 0) rfl) rfl rfl hf rfl) rfl hf rfl rfl fun a hf => ?_
      refine op_val (ex_build (vs := []) (v := .agg #[int 0, str [], int 0, str [], int 0, str [], str [], .bool false]) hf rfl (by kernel_rfl)) rfl hf rfl rfl fun a hf => ?_
      refine op_val (ex_eql_t (by kernel_rfl) (eq_29 r10.1 ((⟨0, [], (⟨0, [], 0⟩ : api_Host), [], [], false⟩ : api_Target))) hf rfl rfl) rfl hf rfl rfl fun a hf => ?_
      refine op_val (ex_assign hf rfl) rfl hf rfl rfl fun a hf => ?_
      refine wpList_nil ?_
      refine nor_then (hK15 _ _ ?_)
      refine wp_ret ?_
      refine ret_then ?_
      obtain rfl := Option.some.inj hm
      exact post_ret Tryd.results3 hf (.tmp rfl .nil) ⟨rfl, hO.below⟩
    · have hm := ie hc14 hm
      refine wp_skip ?_
      refine nor_then (hK16 _ _ ?_)
      refine wp_seq_k fun _ hK18 => ?_
      refine wp_region_list ?_
      refine op_val (ex_loadN (o := 0) (vs := [int r10.1.Kind, str r10.1.Scheme, int r10.1.Host.Kind, str r10.1.Host.Name, int r10.1.Host.Port, str r10.1.Path, str r10.1.Query, .bool r10.1.HasQuery]) ag_29 sz_29 (hO.blkSees (i := 0) rfl) rfl rfl hf rfl) rfl hf rfl rfl fun a hf => ?_
      obtain ⟨r17, hr17, hm⟩ := ob hm
      refine op_enter (ex_call c_7 hf (vs := [.agg #[int r10.1.Kind, str r10.1.Scheme, int r10.1.Host.Kind, str r10.1.Host.Name, int r10.1.Host.Port, str r10.1.Path, str r10.1.Query, .bool r10.1.HasQuery]]) rfl) rfl hf rfl rfl (w_target_Origin r10.1 r17 _ (hG.own hF hO).1 hr17) ?_
      rintro e w' ⟨he, hb⟩
      refine ⟨_, he, fun a hf => ?_⟩
      have hO := hO.grow hb
      refine op_val (ex_assign hf rfl) rfl hf rfl rfl fun a hf => ?_
      refine wpList_nil ?_
      refine nor_then (hK18 _ _ ?_)
      refine wp_seq_k fun _ hK23 => ?_
      refine wp_seq_k fun _ hK19 => ?_
      refine wp_region_list ?_
      refine op_val (ex_field fa_29_0 hf rfl) rfl hf rfl rfl fun a hf => ?_
      refine op_val (ex_load1 (o := 0) ag_24 (hO.blkSees (i := 0) rfl) rfl hf rfl) rfl hf rfl rfl fun a hf => ?_
      refine op_val (ex_eql (m := r10.1.Kind) (n := 3) hf rfl rfl) rfl hf rfl rfl fun a hf => ?_
      refine wpList_nil ?_
      refine nor_then (hK19 _ _ ?_)
      refine wp_cond_cut hf rfl (fun hc20 => ?_) (fun hc20 => ?_)
      · have hm := it hc20 hm
        refine wp_seq_cut (fun a w => ∃ (t22 : Bool), Fits 71 [(4, .bool t22)] a ∧ Dk.Own w0 [] w [.blk b11 [int r10.1.Kind, str r10.1.Scheme, int r10.1.Host.Kind, str r10.1.Host.Name, int r10.1.Host.Port, str r10.1.Path, str r10.1.Query, .bool r10.1.HasQuery] 29] ∧ law10_TargetOrigins_j1 t22 = some R) ?_ ?_
        · refine wp_region_list ?_
          refine op_val (ex_move hf rfl) rfl hf rfl rfl fun a hf => ?_
          refine op_val (ex_eql_s (l := r17) (m := []) hf rfl rfl) rfl hf rfl rfl fun a hf => ?_
          refine op_val (ex_move hf rfl) rfl hf rfl rfl fun a hf => ?_
          rcases bcase (r17 == []) with hc21 | hc21
          · have hm := it hc21 hm
            refine op_guard rfl hf rfl rfl (hc21) ?_
            refine op_val (ex_move hf rfl) rfl hf rfl rfl fun a hf => ?_
            refine op_guard rfl hf rfl rfl (hc21) ?_
            refine op_val (ex_eql_s (l := r7) (m := [67, 79, 78, 78, 69, 67, 84]) hf rfl rfl) rfl hf rfl rfl fun a hf => ?_
            refine op_val (ex_pick_t hf rfl hc21 rfl) rfl hf rfl rfl fun a hf => ?_
            refine op_val (ex_assign hf rfl) rfl hf rfl rfl fun a hf => ?_
            refine wpList_nil ?_
            refine nor_then ?_
            exact ⟨r7 == [67, 79, 78, 78, 69, 67, 84], (hf.cons rfl hf.nil), hO, hm⟩
          · have hm := ie hc21 hm
            refine op_pass rfl hf rfl rfl (hc21) rfl rfl fun a hf => ?_
            refine op_pass rfl hf rfl rfl (hc21) rfl rfl fun a hf => ?_
            refine op_val (ex_pick_f hf rfl hc21 rfl) rfl hf rfl rfl fun a hf => ?_
            refine op_val (ex_assign hf rfl) rfl hf rfl rfl fun a hf => ?_
            refine wpList_nil ?_
            refine nor_then ?_
            exact ⟨false, (hf.cons rfl hf.nil), hO, hm⟩
        · rintro a w ⟨t22, hf, hO, hm⟩
          rw [law10_TargetOrigins_j1] at hm
          refine wp_ret ?_
          refine ret_then ?_
          obtain rfl := Option.some.inj hm
          exact post_ret Tryd.results3 hf (.tmp rfl .nil) ⟨rfl, hO.below⟩
      · have hm := ie hc20 hm
        refine wp_skip ?_
        refine nor_then (hK23 _ _ ?_)
        refine wp_seq_k fun _ hK26 => ?_
        refine wp_region_list ?_
        refine op_val (ex_move hf rfl) rfl hf rfl rfl fun a hf => ?_
        refine op_val (ex_move hf rfl) rfl hf rfl rfl fun a hf => ?_
        obtain ⟨r24, hr24, hm⟩ := ob hm
        refine op_enter (ex_call c_6 hf (vs := [str r7, str r17]) rfl) rfl hf rfl rfl (w_target_Parse r7 r17 r24 _ (hG.own hF hO) hr24) ?_
        rintro e w' ⟨he, hb⟩
        refine ⟨_, he, fun a hf => ?_⟩
        have hO := hO.grow hb
        refine op_val (ex_move hf rfl) rfl hf rfl rfl fun a hf => ?_
        refine op_val (ex_extract hf rfl rfl) rfl hf rfl rfl fun a hf => ?_
        refine op_val (ex_extract hf rfl rfl) rfl hf rfl rfl fun a hf => ?_
        refine op_alloc al_29 hf rfl hO fun a b25 w hf hO => ?_
        refine op_storeN (i := 0) (n := 8) sz_29 rfl rfl rfl (by simp [Value.oneCell']) hf rfl rfl hO fun w hO => ?_
        refine op_val (ex_assign hf rfl) rfl hf rfl rfl fun a hf => ?_
        refine wpList_nil ?_
        refine nor_then (hK26 _ _ ?_)
        refine wp_seq_cut (fun a w => ∃ (t32 : Bool), Fits 71 [(4, .bool t32)] a ∧ Dk.Own w0 [] w [.blk b25 [int r24.1.Kind, str r24.1.Scheme, int r24.1.Host.Kind, str r24.1.Host.Name, int r24.1.Host.Port, str r24.1.Path, str r24.1.Query, .bool r24.1.HasQuery] 29, .blk b11 [int r10.1.Kind, str r10.1.Scheme, int r10.1.Host.Kind, str r10.1.Host.Name, int r10.1.Host.Port, str r10.1.Path, str r10.1.Query, .bool r10.1.HasQuery] 29] ∧ law10_TargetOrigins_j2 t32 = some R) ?_ ?_
        · refine wp_region_list ?_
          refine op_val (ex_move hf rfl) rfl hf rfl rfl fun a hf => ?_
          refine op_val (ex_eql (m := r24.2) (n := 0) hf rfl rfl) rfl hf rfl rfl fun a hf => ?_
          refine op_val (ex_move hf rfl) rfl hf rfl rfl fun a hf => ?_
          rcases bcase (r24.2 == 0) with hc27 | hc27
          · have hm := it hc27 hm
            refine op_guard rfl hf rfl rfl (hc27) ?_
            refine op_val (ex_field fa_29_0 hf rfl) rfl hf rfl rfl fun a hf => ?_
            refine op_guard rfl hf rfl rfl (hc27) ?_
            refine op_val (ex_load1 (o := 0) ag_24 (hO.blkSees (i := 0) rfl) rfl hf rfl) rfl hf rfl rfl fun a hf => ?_
            refine op_guard rfl hf rfl rfl (hc27) ?_
            refine op_val (ex_neq (m := r24.1.Kind) (n := 2) hf rfl rfl) rfl hf rfl rfl fun a hf => ?_
            refine op_val (ex_pick_t hf rfl hc27 rfl) rfl hf rfl rfl fun a hf => ?_
            refine op_val (ex_move hf rfl) rfl hf rfl rfl fun a hf => ?_
            rcases bcase (!(r24.1.Kind == 2)) with hc28 | hc28
            · have hm := it hc28 hm
              refine op_guard rfl hf rfl rfl (hc28) ?_
              refine op_val (ex_field fa_29_4 hf rfl) rfl hf rfl rfl fun a hf => ?_
              refine op_guard rfl hf rfl rfl (hc28) ?_
              refine op_val (ex_load1 (o := 6) ag_9 (hO.blkSees (i := 0) rfl) rfl hf rfl) rfl hf rfl rfl fun a hf => ?_
              refine op_guard rfl hf rfl rfl (hc28) ?_
              refine op_val (ex_field fa_29_4 hf rfl) rfl hf rfl rfl fun a hf => ?_
              refine op_guard rfl hf rfl rfl (hc28) ?_
              refine op_val (ex_load1 (o := 6) ag_9 (hO.blkSees (i := 1) rfl) rfl hf rfl) rfl hf rfl rfl fun a hf => ?_
              refine op_guard rfl hf rfl rfl (hc28) ?_
              refine op_val (ex_eql_s (l := r24.1.Query) (m := r10.1.Query) hf rfl rfl) rfl hf rfl rfl fun a hf => ?_
              refine op_val (ex_pick_t hf rfl hc28 rfl) rfl hf rfl rfl fun a hf => ?_
              refine op_val (ex_move hf rfl) rfl hf rfl rfl fun a hf => ?_
              rcases bcase (r24.1.Query == r10.1.Query) with hc29 | hc29
              · have hm := it hc29 hm
                refine op_guard rfl hf rfl rfl (hc29) ?_
                refine op_val (ex_field fa_29_5 hf rfl) rfl hf rfl rfl fun a hf => ?_
                refine op_guard rfl hf rfl rfl (hc29) ?_
                refine op_val (ex_load1 (o := 7) ag_4 (hO.blkSees (i := 0) rfl) rfl hf rfl) rfl hf rfl rfl fun a hf => ?_
                refine op_guard rfl hf rfl rfl (hc29) ?_
                refine op_val (ex_field fa_29_5 hf rfl) rfl hf rfl rfl fun a hf => ?_
                refine op_guard rfl hf rfl rfl (hc29) ?_
                refine op_val (ex_load1 (o := 7) ag_4 (hO.blkSees (i := 1) rfl) rfl hf rfl) rfl hf rfl rfl fun a hf => ?_
                refine op_guard rfl hf rfl rfl (hc29) ?_
                refine op_val (ex_eql_o Tryd.underlying4 hf rfl rfl) rfl hf rfl rfl fun a hf => ?_
                refine op_val (ex_pick_t hf rfl hc29 rfl) rfl hf rfl rfl fun a hf => ?_
                refine op_val (ex_move hf rfl) rfl hf rfl rfl fun a hf => ?_
                rcases bcase (r24.1.HasQuery == r10.1.HasQuery) with hc30 | hc30
                · have hm := it hc30 hm
                  refine op_guard rfl hf rfl rfl (hc30) ?_
                  refine op_val (ex_loadN (o := 0) (vs := [int r24.1.Kind, str r24.1.Scheme, int r24.1.Host.Kind, str r24.1.Host.Name, int r24.1.Host.Port, str r24.1.Path, str r24.1.Query, .bool r24.1.HasQuery]) ag_29 sz_29 (hO.blkSees (i := 0) rfl) rfl rfl hf rfl) rfl hf rfl rfl fun a hf => ?_
                  refine op_guard rfl hf rfl rfl (hc30) ?_
                  obtain ⟨r31, hr31, hm⟩ := ob hm
                  refine op_enter (ex_call c_7 hf (vs := [.agg #[int r24.1.Kind, str r24.1.Scheme, int r24.1.Host.Kind, str r24.1.Host.Name, int r24.1.Host.Port, str r24.1.Path, str r24.1.Query, .bool r24.1.HasQuery]]) rfl) rfl hf rfl rfl (w_target_Origin r24.1 r31 _ (hG.own hF hO).1 hr31) ?_
                  rintro e w' ⟨he, hb⟩
                  refine ⟨_, he, fun a hf => ?_⟩
                  have hO := hO.grow hb
                  refine op_guard rfl hf rfl rfl (hc30) ?_
                  refine op_val (ex_move hf rfl) rfl hf rfl rfl fun a hf => ?_
                  refine op_guard rfl hf rfl rfl (hc30) ?_
                  refine op_val (ex_eql_s (l := r31) (m := r17) hf rfl rfl) rfl hf rfl rfl fun a hf => ?_
                  refine op_val (ex_pick_t hf rfl hc30 rfl) rfl hf rfl rfl fun a hf => ?_
                  refine op_val (ex_assign hf rfl) rfl hf rfl rfl fun a hf => ?_
                  refine wpList_nil ?_
                  refine nor_then ?_
                  exact ⟨r31 == r17, (hf.cons rfl hf.nil), hO, hm⟩
                · have hm := ie hc30 hm
                  refine op_pass rfl hf rfl rfl (hc30) rfl rfl fun a hf => ?_
                  refine op_pass rfl hf rfl rfl (hc30) rfl rfl fun a hf => ?_
                  refine op_pass rfl hf rfl rfl (hc30) rfl rfl fun a hf => ?_
                  refine op_pass rfl hf rfl rfl (hc30) rfl rfl fun a hf => ?_
                  refine op_val (ex_pick_f hf rfl hc30 rfl) rfl hf rfl rfl fun a hf => ?_
                  refine op_val (ex_assign hf rfl) rfl hf rfl rfl fun a hf => ?_
                  refine wpList_nil ?_
                  refine nor_then ?_
                  exact ⟨false, (hf.cons rfl hf.nil), hO, hm⟩
              · have hm := ie hc29 hm
                refine op_pass rfl hf rfl rfl (hc29) rfl rfl fun a hf => ?_
                refine op_pass rfl hf rfl rfl (hc29) rfl rfl fun a hf => ?_
                refine op_pass rfl hf rfl rfl (hc29) rfl rfl fun a hf => ?_
                refine op_pass rfl hf rfl rfl (hc29) rfl rfl fun a hf => ?_
                refine op_pass rfl hf rfl rfl (hc29) rfl rfl fun a hf => ?_
                refine op_val (ex_pick_f hf rfl hc29 rfl) rfl hf rfl rfl fun a hf => ?_
                refine op_val (ex_move hf rfl) rfl hf rfl rfl fun a hf => ?_
                refine op_pass rfl hf rfl rfl (rfl) rfl rfl fun a hf => ?_
                refine op_pass rfl hf rfl rfl (rfl) rfl rfl fun a hf => ?_
                refine op_pass rfl hf rfl rfl (rfl) rfl rfl fun a hf => ?_
                refine op_pass rfl hf rfl rfl (rfl) rfl rfl fun a hf => ?_
                refine op_val (ex_pick_f hf rfl rfl rfl) rfl hf rfl rfl fun a hf => ?_
                refine op_val (ex_assign hf rfl) rfl hf rfl rfl fun a hf => ?_
                refine wpList_nil ?_
                refine nor_then ?_
                exact ⟨false, (hf.cons rfl hf.nil), hO, hm⟩
            · have hm := ie hc28 hm
              refine op_pass rfl hf rfl rfl (hc28) rfl rfl fun a hf => ?_
              refine op_pass rfl hf rfl rfl (hc28) rfl rfl fun a hf => ?_
              refine op_pass rfl hf rfl rfl (hc28) rfl rfl fun a hf => ?_
              refine op_pass rfl hf rfl rfl (hc28) rfl rfl fun a hf => ?_
              refine op_pass rfl hf rfl rfl (hc28) rfl rfl fun a hf => ?_
              refine op_val (ex_pick_f hf rfl hc28 rfl) rfl hf rfl rfl fun a hf => ?_
              refine op_val (ex_move hf rfl) rfl hf rfl rfl fun a hf => ?_
              refine op_pass rfl hf rfl rfl (rfl) rfl rfl fun a hf => ?_
              refine op_pass rfl hf rfl rfl (rfl) rfl rfl fun a hf => ?_
              refine op_pass rfl hf rfl rfl (rfl) rfl rfl fun a hf => ?_
              refine op_pass rfl hf rfl rfl (rfl) rfl rfl fun a hf => ?_
              refine op_pass rfl hf rfl rfl (rfl) rfl rfl fun a hf => ?_
              refine op_val (ex_pick_f hf rfl rfl rfl) rfl hf rfl rfl fun a hf => ?_
              refine op_val (ex_move hf rfl) rfl hf rfl rfl fun a hf => ?_
              refine op_pass rfl hf rfl rfl (rfl) rfl rfl fun a hf => ?_
              refine op_pass rfl hf rfl rfl (rfl) rfl rfl fun a hf => ?_
              refine op_pass rfl hf rfl rfl (rfl) rfl rfl fun a hf => ?_
              refine op_pass rfl hf rfl rfl (rfl) rfl rfl fun a hf => ?_
              refine op_val (ex_pick_f hf rfl rfl rfl) rfl hf rfl rfl fun a hf => ?_
              refine op_val (ex_assign hf rfl) rfl hf rfl rfl fun a hf => ?_
              refine wpList_nil ?_
              refine nor_then ?_
              exact ⟨false, (hf.cons rfl hf.nil), hO, hm⟩
          · have hm := ie hc27 hm
            refine op_pass rfl hf rfl rfl (hc27) rfl rfl fun a hf => ?_
            refine op_pass rfl hf rfl rfl (hc27) rfl rfl fun a hf => ?_
            refine op_pass rfl hf rfl rfl (hc27) rfl rfl fun a hf => ?_
            refine op_val (ex_pick_f hf rfl hc27 rfl) rfl hf rfl rfl fun a hf => ?_
            refine op_val (ex_move hf rfl) rfl hf rfl rfl fun a hf => ?_
            refine op_pass rfl hf rfl rfl (rfl) rfl rfl fun a hf => ?_
            refine op_pass rfl hf rfl rfl (rfl) rfl rfl fun a hf => ?_
            refine op_pass rfl hf rfl rfl (rfl) rfl rfl fun a hf => ?_
            refine op_pass rfl hf rfl rfl (rfl) rfl rfl fun a hf => ?_
            refine op_pass rfl hf rfl rfl (rfl) rfl rfl fun a hf => ?_
            refine op_val (ex_pick_f hf rfl rfl rfl) rfl hf rfl rfl fun a hf => ?_
            refine op_val (ex_move hf rfl) rfl hf rfl rfl fun a hf => ?_
            refine op_pass rfl hf rfl rfl (rfl) rfl rfl fun a hf => ?_
            refine op_pass rfl hf rfl rfl (rfl) rfl rfl fun a hf => ?_
            refine op_pass rfl hf rfl rfl (rfl) rfl rfl fun a hf => ?_
            refine op_pass rfl hf rfl rfl (rfl) rfl rfl fun a hf => ?_
            refine op_pass rfl hf rfl rfl (rfl) rfl rfl fun a hf => ?_
            refine op_val (ex_pick_f hf rfl rfl rfl) rfl hf rfl rfl fun a hf => ?_
            refine op_val (ex_move hf rfl) rfl hf rfl rfl fun a hf => ?_
            refine op_pass rfl hf rfl rfl (rfl) rfl rfl fun a hf => ?_
            refine op_pass rfl hf rfl rfl (rfl) rfl rfl fun a hf => ?_
            refine op_pass rfl hf rfl rfl (rfl) rfl rfl fun a hf => ?_
            refine op_pass rfl hf rfl rfl (rfl) rfl rfl fun a hf => ?_
            refine op_val (ex_pick_f hf rfl rfl rfl) rfl hf rfl rfl fun a hf => ?_
            refine op_val (ex_assign hf rfl) rfl hf rfl rfl fun a hf => ?_
            refine wpList_nil ?_
            refine nor_then ?_
            exact ⟨false, (hf.cons rfl hf.nil), hO, hm⟩
        · rintro a w ⟨t32, hf, hO, hm⟩
          rw [law10_TargetOrigins_j2] at hm
          refine wp_ret ?_
          obtain rfl := Option.some.inj hm
          exact post_ret Tryd.results3 hf (.tmp rfl .nil) ⟨rfl, hO.below⟩

end Go.Proofs
