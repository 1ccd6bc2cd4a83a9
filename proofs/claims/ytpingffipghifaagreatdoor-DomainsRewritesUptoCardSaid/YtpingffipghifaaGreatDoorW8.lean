/-
  Walks, written by a program (wip/gen): what its model says, the function returns; what was there before is as it was.
-/
import Derived.Test.YtpingffipghifaaGreatDoorLib
import Derived.Test.YtpingffipghifaaGreatDoorW6
import Derived.Test.YtpingffipghifaaGreatDoorW7
set_option linter.unusedVariables false
set_option linter.unusedSimpArgs false
set_option maxRecDepth 100000
namespace Go.Proofs
open Go.Dk Go.Dm Go.RowKit

set_option maxHeartbeats 1000000 in
theorem w_ref03_Read (x_s : Str) (x_base : Int) (x_most : Int) (R : Int × Int) (w0 : World) (hG : Glob w0) (hm : ref03_Read x_s x_base x_most = some R) :
    Calls Tryz.prog 99 #[str x_s, int x_base, int x_most] w0 fun e w' => e = .returned (.tuple #[int R.1, int R.2]) ∧ Below w0.heap.size w0 w' := by
  rw [ref03_Read] at hm
  refine calls_enter (vs := [str x_s, int x_base, int x_most]) Tryz.func99 rfl Tryz.ntmps99 rfl fun a hf => ?_
  have hF : Away [] := away_nil
  have hO : Dk.Own w0 [] w0 [] := Dk.Own.refl w0
  refine wp_seq_k fun _ hK1 => ?_
  refine wp_region_list ?_
  refine op_val (ex_assign hf rfl) rfl hf rfl rfl fun a hf => ?_
  refine op_val (ex_assign hf rfl) rfl hf rfl rfl fun a hf => ?_
  refine wpList_nil ?_
  refine nor_then (hK1 _ _ ?_)
  refine wp_seq_k fun _ hK3 => ?_
  refine wp_region_list ?_
  refine op_val (ex_move hf rfl) rfl hf rfl rfl fun a hf => ?_
  refine op_val (ex_move hf rfl) rfl hf rfl rfl fun a hf => ?_
  obtain ⟨r2, hr2, hm⟩ := ob hm
  refine op_enter (ex_call c_140 hf (vs := [str x_s, int x_base]) rfl) rfl hf rfl rfl (w_ref03_Plain x_s x_base r2 _ (hG.own hF hO) hr2) ?_
  rintro e w' ⟨he, hb⟩
  refine ⟨_, he, fun a hf => ?_⟩
  have hO := hO.grow hb
  refine op_val (ex_move hf rfl) rfl hf rfl rfl fun a hf => ?_
  refine op_val (ex_extract hf rfl rfl) rfl hf rfl rfl fun a hf => ?_
  refine op_val (ex_extract hf rfl rfl) rfl hf rfl rfl fun a hf => ?_
  refine op_val (ex_assign hf rfl) rfl hf rfl rfl fun a hf => ?_
  refine op_val (ex_assign hf rfl) rfl hf rfl rfl fun a hf => ?_
  refine wpList_nil ?_
  refine nor_then (hK3 _ _ ?_)
  refine wp_seq_k fun _ hK7 => ?_
  refine wp_seq_k fun _ hK4 => ?_
  refine wp_region_list ?_
  refine op_val (ex_move hf rfl) rfl hf rfl rfl fun a hf => ?_
  refine op_val (ex_not hf rfl) rfl hf rfl rfl fun a hf => ?_
  refine wpList_nil ?_
  refine nor_then (hK4 _ _ ?_)
  refine wp_cond_cut hf rfl (fun hc5 => ?_) (fun hc5 => ?_)
  · have hm := it hc5 hm
    refine wp_seq_k fun _ hK6 => ?_
    refine wp_region_list ?_
    refine op_val (ex_assign hf rfl) rfl hf rfl rfl fun a hf => ?_
    refine op_val (ex_assign hf rfl) rfl hf rfl rfl fun a hf => ?_
    refine wpList_nil ?_
    refine nor_then (hK6 _ _ ?_)
    refine wp_ret ?_
    refine ret_then ?_
    obtain rfl := Option.some.inj hm
    exact post_ret Tryz.results99 hf (.tmp rfl (.tmp rfl .nil)) ⟨rfl, hO.below⟩
  · have hm := ie hc5 hm
    refine wp_skip ?_
    refine nor_then (hK7 _ _ ?_)
    refine wp_seq_k fun _ hK14 => ?_
    refine wp_seq_cut (fun a w => ∃ (t11 : Bool), Fits 45 [(1, int x_base), (8, str r2.1), (28, .bool t11)] a ∧ Dk.Own w0 [] w [] ∧ ref03_Read_j1 x_base r2 t11 = some R) ?_ ?_
    · refine wp_region_list ?_
      refine op_val (ex_move hf rfl) rfl hf rfl rfl fun a hf => ?_
      refine op_val (ex_lss (m := x_most) (n := 0) hf rfl rfl) rfl hf rfl rfl fun a hf => ?_
      refine op_val (ex_move hf rfl) rfl hf rfl rfl fun a hf => ?_
      rcases bcase (decide (x_most < 0)) with hc8 | hc8
      · have hm := it hc8 hm
        refine op_pass rfl hf rfl rfl (hc8) rfl rfl fun a hf => ?_
        refine op_pass rfl hf rfl rfl (hc8) rfl rfl fun a hf => ?_
        refine op_pass rfl hf rfl rfl (hc8) rfl rfl fun a hf => ?_
        refine op_pass rfl hf rfl rfl (hc8) rfl rfl fun a hf => ?_
        refine op_pass rfl hf rfl rfl (hc8) rfl rfl fun a hf => ?_
        refine op_val (ex_pick_t hf rfl hc8 rfl) rfl hf rfl rfl fun a hf => ?_
        refine wpList_nil ?_
        refine nor_then ?_
        exact ⟨true, (hf.cons rfl (hf.cons rfl (hf.cons rfl hf.nil))), hO, hm⟩
      · have hm := ie hc8 hm
        refine op_guard rfl hf rfl rfl (hc8) ?_
        refine op_val (ex_move hf rfl) rfl hf rfl rfl fun a hf => ?_
        refine op_guard rfl hf rfl rfl (hc8) ?_
        refine op_val (ex_move hf rfl) rfl hf rfl rfl fun a hf => ?_
        refine op_guard rfl hf rfl rfl (hc8) ?_
        obtain ⟨r9, hr9, hm⟩ := ob hm
        refine op_enter (ex_call c_142 hf (vs := [int x_most, int x_base]) rfl) rfl hf rfl rfl (w_ref03_Digits x_most x_base r9 _ (hG.own hF hO) hr9) ?_
        rintro e w' ⟨he, hb⟩
        refine ⟨_, he, fun a hf => ?_⟩
        have hO := hO.grow hb
        refine op_guard rfl hf rfl rfl (hc8) ?_
        refine op_val (ex_move hf rfl) rfl hf rfl rfl fun a hf => ?_
        refine op_guard rfl hf rfl rfl (hc8) ?_
        obtain ⟨r10, hr10, hm⟩ := ob hm
        refine op_enter (ex_call c_141 hf (vs := [str r9, str r2.1]) rfl) rfl hf rfl rfl (w_ref03_Less r9 r2.1 r10 _ (hG.own hF hO) hr10) ?_
        rintro e w' ⟨he, hb⟩
        refine ⟨_, he, fun a hf => ?_⟩
        have hO := hO.grow hb
        refine op_val (ex_pick_f hf rfl hc8 rfl) rfl hf rfl rfl fun a hf => ?_
        refine wpList_nil ?_
        refine nor_then ?_
        exact ⟨r10, (hf.cons rfl (hf.cons rfl (hf.cons rfl hf.nil))), hO, hm⟩
    · rintro a w ⟨t11, hf, hO, hm⟩
      rw [ref03_Read_j1] at hm
      refine wp_cond_cut hf rfl (fun hc12 => ?_) (fun hc12 => ?_)
      · have hm := it hc12 hm
        refine wp_seq_k fun _ hK13 => ?_
        refine wp_region_list ?_
        refine op_val (ex_assign hf rfl) rfl hf rfl rfl fun a hf => ?_
        refine op_val (ex_assign hf rfl) rfl hf rfl rfl fun a hf => ?_
        refine wpList_nil ?_
        refine nor_then (hK13 _ _ ?_)
        refine wp_ret ?_
        refine ret_then ?_
        obtain rfl := Option.some.inj hm
        exact post_ret Tryz.results99 hf (.tmp rfl (.tmp rfl .nil)) ⟨rfl, hO.below⟩
      · have hm := ie hc12 hm
        refine wp_skip ?_
        refine nor_then (hK14 _ _ ?_)
        refine wp_seq_k fun _ hK15 => ?_
        refine wp_region_list ?_
        refine op_val (ex_assign hf rfl) rfl hf rfl rfl fun a hf => ?_
        refine wpList_nil ?_
        refine nor_then (hK15 _ _ ?_)
        refine wp_seq_k fun _ hK28 => ?_
        refine wp_seq_k fun _ hK16 => ?_
        refine wp_region_list ?_
        refine op_val (ex_assign hf rfl) rfl hf rfl rfl fun a hf => ?_
        refine wpList_nil ?_
        refine nor_then (hK16 _ _ ?_)
        refine wp_block ?_
        refine wp_loop_n (fun k a w => ∃ (i17 : Int) (i18 : Int), Fits 45 [(1, int x_base), (8, str r2.1), (10, int i17), (11, int i18)] a ∧ Dk.Own w0 [] w [] ∧ ref03_Read_L2 x_base r2 k i17 i18 = some R) ?_ fuel ?_
        · rintro n2 a w ⟨i17, i18, hf, hO, hm⟩
          obtain _ | n2 := n2
          · rw [ref03_Read_L2] at hm
            cases hm
          · rw [ref03_Read_L2] at hm
            refine wp_seq_k fun _ hK21 => ?_
            refine wp_seq_k fun _ hK19 => ?_
            refine wp_region_list ?_
            refine op_val (ex_move hf rfl) rfl hf rfl rfl fun a hf => ?_
            refine op_val (ex_move hf rfl) rfl hf rfl rfl fun a hf => ?_
            refine op_val (ex_len_s (l := r2.1) Tryz.underlying9 hf rfl) rfl hf rfl rfl fun a hf => ?_
            refine op_val (ex_lss (m := i18) (n := (r2.1.length : Int)) hf rfl rfl) rfl hf rfl rfl fun a hf => ?_
            refine wpList_nil ?_
            refine nor_then (hK19 _ _ ?_)
            refine wp_cond_cut hf rfl (fun hc20 => ?_) (fun hc20 => ?_)
            · have hm := it hc20 hm
              refine wp_skip ?_
              refine nor_then (hK21 _ _ ?_)
              refine wp_seq_k fun _ hK26 => ?_
              refine wp_block ?_
              refine wp_region_list ?_
              refine op_val (ex_move hf rfl) rfl hf rfl rfl fun a hf => ?_
              refine op_val (ex_move hf rfl) rfl hf rfl rfl fun a hf => ?_
              obtain ⟨i22, hi22, hm⟩ := ob hm
              refine op_val (ex_mul hf rfl rfl hi22) rfl hf rfl rfl fun a hf => ?_
              refine op_val (ex_move hf rfl) rfl hf rfl rfl fun a hf => ?_
              refine op_val (ex_move hf rfl) rfl hf rfl rfl fun a hf => ?_
              obtain ⟨b23, hb23, hm⟩ := ob hm
              refine op_val (ex_index (l := r2.1) Tryz.underlying9 hf rfl rfl hb23) rfl hf rfl rfl fun a hf => ?_
              refine op_val (ex_move hf rfl) rfl hf rfl rfl fun a hf => ?_
              obtain ⟨r24, hr24, hm⟩ := ob hm
              refine op_enter (ex_call c_143 hf (vs := [byte b23, int x_base]) rfl) rfl hf rfl rfl (w_ref03_worth b23 x_base r24 _ (hG.own hF hO) hr24) ?_
              rintro e w' ⟨he, hb⟩
              refine ⟨_, he, fun a hf => ?_⟩
              have hO := hO.grow hb
              obtain ⟨i25, hi25, hm⟩ := ob hm
              refine op_val (ex_add hf rfl rfl hi25) rfl hf rfl rfl fun a hf => ?_
              refine op_val (ex_assign hf rfl) rfl hf rfl rfl fun a hf => ?_
              refine wpList_nil ?_
              refine nor_block ?_
              refine nor_then (hK26 _ _ ?_)
              refine wp_region_list ?_
              refine op_val (ex_move hf rfl) rfl hf rfl rfl fun a hf => ?_
              obtain ⟨i27, hi27, hm⟩ := ob hm
              refine op_val (ex_add hf rfl rfl hi27) rfl hf rfl rfl fun a hf => ?_
              refine op_val (ex_assign hf rfl) rfl hf rfl rfl fun a hf => ?_
              refine wpList_nil ?_
              refine nor_then ?_
              exact ⟨_, Nat.lt_succ_self _, i25, i27, (hf.cons rfl (hf.cons rfl (hf.cons rfl (hf.cons rfl hf.nil)))), hO, hm⟩
            · have hm := ie hc20 hm
              refine wp_exit ?_
              refine exit_then ?_
              refine exit_then ?_
              refine exit_here ?_
              refine nor_then (hK28 _ _ ?_)
              refine wp_seq_k fun _ hK29 => ?_
              refine wp_region_list ?_
              refine op_val (ex_move hf rfl) rfl hf rfl rfl fun a hf => ?_
              refine op_val (ex_assign hf rfl) rfl hf rfl rfl fun a hf => ?_
              refine op_val (ex_assign hf rfl) rfl hf rfl rfl fun a hf => ?_
              refine wpList_nil ?_
              refine nor_then (hK29 _ _ ?_)
              refine wp_ret ?_
              obtain rfl := Option.some.inj hm
              exact post_ret Tryz.results99 hf (.tmp rfl (.tmp rfl .nil)) ⟨rfl, hO.below⟩
        · exact ⟨0, 0, (hf.cons rfl (hf.cons rfl (hf.cons rfl (hf.cons rfl hf.nil)))), hO, hm⟩

set_option maxHeartbeats 1000000 in
theorem w_ref03_Text (x_n : Int) (x_base : Int) (R : Str) (w0 : World) (hG : Glob w0) (hm : ref03_Text x_n x_base = some R) :
    Calls Tryz.prog 100 #[int x_n, int x_base] w0 fun e w' => e = .returned (str R) ∧ Below w0.heap.size w0 w' := by
  rw [ref03_Text] at hm
  refine calls_enter (vs := [int x_n, int x_base]) Tryz.func100 rfl Tryz.ntmps100 rfl fun a hf => ?_
  have hF : Away [] := away_nil
  have hO : Dk.Own w0 [] w0 [] := Dk.Own.refl w0
  refine wp_seq_k fun _ hK1 => ?_
  refine wp_region_list ?_
  refine op_val (ex_assign hf rfl) rfl hf rfl rfl fun a hf => ?_
  refine wpList_nil ?_
  refine nor_then (hK1 _ _ ?_)
  refine wp_seq_k fun _ hK5 => ?_
  refine wp_seq_k fun _ hK2 => ?_
  refine wp_region_list ?_
  refine op_val (ex_move hf rfl) rfl hf rfl rfl fun a hf => ?_
  refine op_val (ex_lss (m := x_n) (n := 0) hf rfl rfl) rfl hf rfl rfl fun a hf => ?_
  refine wpList_nil ?_
  refine nor_then (hK2 _ _ ?_)
  refine wp_cond_cut hf rfl (fun hc3 => ?_) (fun hc3 => ?_)
  · have hm := it hc3 hm
    refine wp_seq_k fun _ hK4 => ?_
    refine wp_region_list ?_
    refine op_val (ex_assign hf rfl) rfl hf rfl rfl fun a hf => ?_
    refine wpList_nil ?_
    refine nor_then (hK4 _ _ ?_)
    refine wp_ret ?_
    refine ret_then ?_
    obtain rfl := Option.some.inj hm
    exact post_ret Tryz.results100 hf (.tmp rfl .nil) ⟨rfl, hO.below⟩
  · have hm := ie hc3 hm
    refine wp_skip ?_
    refine nor_then (hK5 _ _ ?_)
    refine wp_seq_k fun _ hK7 => ?_
    refine wp_region_list ?_
    refine op_val (ex_move hf rfl) rfl hf rfl rfl fun a hf => ?_
    refine op_val (ex_move hf rfl) rfl hf rfl rfl fun a hf => ?_
    obtain ⟨r6, hr6, hm⟩ := ob hm
    refine op_enter (ex_call c_142 hf (vs := [int x_n, int x_base]) rfl) rfl hf rfl rfl (w_ref03_Digits x_n x_base r6 _ (hG.own hF hO) hr6) ?_
    rintro e w' ⟨he, hb⟩
    refine ⟨_, he, fun a hf => ?_⟩
    have hO := hO.grow hb
    refine op_val (ex_assign hf rfl) rfl hf rfl rfl fun a hf => ?_
    refine wpList_nil ?_
    refine nor_then (hK7 _ _ ?_)
    refine wp_ret ?_
    obtain rfl := Option.some.inj hm
    exact post_ret Tryz.results100 hf (.tmp rfl .nil) ⟨rfl, hO.below⟩

set_option maxHeartbeats 1000000 in
theorem w_ref08_Small (x_s : Str) (x_most : Int) (R : Int) (w0 : World) (hG : Glob w0) (hm : ref08_Small x_s x_most = some R) :
    Calls Tryz.prog 63 #[str x_s, int x_most] w0 fun e w' => e = .returned (int R) ∧ Below w0.heap.size w0 w' := by
  rw [ref08_Small] at hm
  refine calls_enter (vs := [str x_s, int x_most]) Tryz.func63 rfl Tryz.ntmps63 rfl fun a hf => ?_
  have hF : Away [] := away_nil
  have hO : Dk.Own w0 [] w0 [] := Dk.Own.refl w0
  refine wp_seq_k fun _ hK1 => ?_
  refine wp_region_list ?_
  refine op_val (ex_assign hf rfl) rfl hf rfl rfl fun a hf => ?_
  refine wpList_nil ?_
  refine nor_then (hK1 _ _ ?_)
  refine wp_seq_k fun _ hK5 => ?_
  refine wp_seq_k fun _ hK2 => ?_
  refine wp_region_list ?_
  refine op_val (ex_move hf rfl) rfl hf rfl rfl fun a hf => ?_
  refine op_val (ex_len_s (l := x_s) Tryz.underlying9 hf rfl) rfl hf rfl rfl fun a hf => ?_
  refine op_val (ex_gtr (m := (x_s.length : Int)) (n := 5) hf rfl rfl) rfl hf rfl rfl fun a hf => ?_
  refine wpList_nil ?_
  refine nor_then (hK2 _ _ ?_)
  refine wp_cond_cut hf rfl (fun hc3 => ?_) (fun hc3 => ?_)
  · have hm := it hc3 hm
    refine wp_seq_k fun _ hK4 => ?_
    refine wp_region_list ?_
    refine op_val (ex_assign hf rfl) rfl hf rfl rfl fun a hf => ?_
    refine wpList_nil ?_
    refine nor_then (hK4 _ _ ?_)
    refine wp_ret ?_
    refine ret_then ?_
    obtain rfl := Option.some.inj hm
    exact post_ret Tryz.results63 hf (.tmp rfl .nil) ⟨rfl, hO.below⟩
  · have hm := ie hc3 hm
    refine wp_skip ?_
    refine nor_then (hK5 _ _ ?_)
    refine wp_seq_k fun _ hK7 => ?_
    refine wp_region_list ?_
    refine op_val (ex_move hf rfl) rfl hf rfl rfl fun a hf => ?_
    refine op_val (ex_move hf rfl) rfl hf rfl rfl fun a hf => ?_
    obtain ⟨r6, hr6, hm⟩ := ob hm
    refine op_enter (ex_call c_99 hf (vs := [str x_s, int 10, int x_most]) rfl) rfl hf rfl rfl (w_ref03_Read x_s 10 x_most r6 _ (hG.own hF hO) hr6) ?_
    rintro e w' ⟨he, hb⟩
    refine ⟨_, he, fun a hf => ?_⟩
    have hO := hO.grow hb
    refine op_val (ex_move hf rfl) rfl hf rfl rfl fun a hf => ?_
    refine op_val (ex_extract hf rfl rfl) rfl hf rfl rfl fun a hf => ?_
    refine op_val (ex_extract hf rfl rfl) rfl hf rfl rfl fun a hf => ?_
    refine op_val (ex_assign hf rfl) rfl hf rfl rfl fun a hf => ?_
    refine op_val (ex_assign hf rfl) rfl hf rfl rfl fun a hf => ?_
    refine wpList_nil ?_
    refine nor_then (hK7 _ _ ?_)
    refine wp_seq_k fun _ hK13 => ?_
    refine wp_seq_cut (fun a w => ∃ (t10 : Bool), Fits 25 [(5, int r6.1), (23, .bool t10)] a ∧ Dk.Own w0 [] w [] ∧ ref08_Small_j1 r6 t10 = some R) ?_ ?_
    · refine wp_region_list ?_
      refine op_val (ex_move hf rfl) rfl hf rfl rfl fun a hf => ?_
      refine op_val (ex_neq (m := r6.2) (n := 0) hf rfl rfl) rfl hf rfl rfl fun a hf => ?_
      refine op_val (ex_move hf rfl) rfl hf rfl rfl fun a hf => ?_
      rcases bcase (!(r6.2 == 0)) with hc8 | hc8
      · have hm := it hc8 hm
        refine op_pass rfl hf rfl rfl (hc8) rfl rfl fun a hf => ?_
        refine op_pass rfl hf rfl rfl (hc8) rfl rfl fun a hf => ?_
        refine op_pass rfl hf rfl rfl (hc8) rfl rfl fun a hf => ?_
        refine op_pass rfl hf rfl rfl (hc8) rfl rfl fun a hf => ?_
        refine op_val (ex_pick_t hf rfl hc8 rfl) rfl hf rfl rfl fun a hf => ?_
        refine wpList_nil ?_
        refine nor_then ?_
        exact ⟨true, (hf.cons rfl (hf.cons rfl hf.nil)), hO, hm⟩
      · have hm := ie hc8 hm
        refine op_guard rfl hf rfl rfl (hc8) ?_
        refine op_val (ex_move hf rfl) rfl hf rfl rfl fun a hf => ?_
        refine op_guard rfl hf rfl rfl (hc8) ?_
        obtain ⟨r9, hr9, hm⟩ := ob hm
        refine op_enter (ex_call c_100 hf (vs := [int r6.1, int 10]) rfl) rfl hf rfl rfl (w_ref03_Text r6.1 10 r9 _ (hG.own hF hO) hr9) ?_
        rintro e w' ⟨he, hb⟩
        refine ⟨_, he, fun a hf => ?_⟩
        have hO := hO.grow hb
        refine op_guard rfl hf rfl rfl (hc8) ?_
        refine op_val (ex_move hf rfl) rfl hf rfl rfl fun a hf => ?_
        refine op_guard rfl hf rfl rfl (hc8) ?_
        refine op_val (ex_neq_s (l := r9) (m := x_s) hf rfl rfl) rfl hf rfl rfl fun a hf => ?_
        refine op_val (ex_pick_f hf rfl hc8 rfl) rfl hf rfl rfl fun a hf => ?_
        refine wpList_nil ?_
        refine nor_then ?_
        exact ⟨!(r9 == x_s), (hf.cons rfl (hf.cons rfl hf.nil)), hO, hm⟩
    · rintro a w ⟨t10, hf, hO, hm⟩
      rw [ref08_Small_j1] at hm
      refine wp_cond_cut hf rfl (fun hc11 => ?_) (fun hc11 => ?_)
      · have hm := it hc11 hm
        refine wp_seq_k fun _ hK12 => ?_
        refine wp_region_list ?_
        refine op_val (ex_assign hf rfl) rfl hf rfl rfl fun a hf => ?_
        refine wpList_nil ?_
        refine nor_then (hK12 _ _ ?_)
        refine wp_ret ?_
        refine ret_then ?_
        obtain rfl := Option.some.inj hm
        exact post_ret Tryz.results63 hf (.tmp rfl .nil) ⟨rfl, hO.below⟩
      · have hm := ie hc11 hm
        refine wp_skip ?_
        refine nor_then (hK13 _ _ ?_)
        refine wp_seq_k fun _ hK14 => ?_
        refine wp_region_list ?_
        refine op_val (ex_move hf rfl) rfl hf rfl rfl fun a hf => ?_
        refine op_val (ex_assign hf rfl) rfl hf rfl rfl fun a hf => ?_
        refine wpList_nil ?_
        refine nor_then (hK14 _ _ ?_)
        refine wp_ret ?_
        obtain rfl := Option.some.inj hm
        exact post_ret Tryz.results63 hf (.tmp rfl .nil) ⟨rfl, hO.below⟩

set_option maxHeartbeats 1000000 in
theorem w_ref08_Four (x_s : Str) (R : Bool) (w0 : World) (hG : Glob w0) (hm : ref08_Four x_s = some R) :
    Calls Tryz.prog 35 #[str x_s] w0 fun e w' => e = .returned (.bool R) ∧ Below w0.heap.size w0 w' := by
  rw [ref08_Four] at hm
  refine calls_enter (vs := [str x_s]) Tryz.func35 rfl Tryz.ntmps35 rfl fun a hf => ?_
  have hF : Away [] := away_nil
  have hO : Dk.Own w0 [] w0 [] := Dk.Own.refl w0
  refine wp_seq_k fun _ hK1 => ?_
  refine wp_region_list ?_
  refine op_val (ex_assign hf rfl) rfl hf rfl rfl fun a hf => ?_
  refine wpList_nil ?_
  refine nor_then (hK1 _ _ ?_)
  refine wp_seq_k fun _ hK5 => ?_
  refine wp_region_list ?_
  refine op_val (ex_move hf rfl) rfl hf rfl rfl fun a hf => ?_
  obtain ⟨r2, hr2, hm⟩ := ob hm
  refine op_enter (ex_call c_52 hf (vs := [str x_s, byte 46]) rfl) rfl hf rfl rfl (w_ref08_Parts x_s 46 r2 _ (hG.own hF hO) hr2) ?_
  rintro e w' ⟨p3, c4, he, hO'⟩
  refine ⟨_, he, fun a hf => ?_⟩
  have hO := hO.call hO' (by simp [Res.shared])
  refine op_val (ex_assign hf rfl) rfl hf rfl rfl fun a hf => ?_
  refine wpList_nil ?_
  refine nor_then (hK5 _ _ ?_)
  refine wp_seq_k fun _ hK20 => ?_
  refine wp_seq_k fun _ hK6 => ?_
  refine wp_region_list ?_
  refine op_val (ex_assign hf rfl) rfl hf rfl rfl fun a hf => ?_
  refine wpList_nil ?_
  refine nor_then (hK6 _ _ ?_)
  refine wp_block ?_
  refine wp_loop_n (fun k a w => ∃ (i7 : Int), Fits 22 [(3, .slice p3 r2.length c4), (4, int i7)] a ∧ Dk.Own w0 [] w [.row (.slice p3 r2.length c4) 9 1 r2.length (cells enc_str r2)] ∧ ref08_Four_L1 r2 k i7 = some R) ?_ fuel ?_
  · rintro n1 a w ⟨i7, hf, hO, hm⟩
    obtain _ | n1 := n1
    · rw [ref08_Four_L1] at hm
      cases hm
    · rw [ref08_Four_L1] at hm
      refine wp_seq_k fun _ hK10 => ?_
      refine wp_seq_k fun _ hK8 => ?_
      refine wp_region_list ?_
      refine op_val (ex_move hf rfl) rfl hf rfl rfl fun a hf => ?_
      refine op_val (ex_move hf rfl) rfl hf rfl rfl fun a hf => ?_
      refine op_val (ex_len_l Tryz.underlying70 hf rfl) rfl hf rfl rfl fun a hf => ?_
      refine op_val (ex_lss (m := i7) (n := (r2.length : Int)) hf rfl rfl) rfl hf rfl rfl fun a hf => ?_
      refine wpList_nil ?_
      refine nor_then (hK8 _ _ ?_)
      refine wp_cond_cut hf rfl (fun hc9 => ?_) (fun hc9 => ?_)
      · have hm := it hc9 hm
        refine wp_skip ?_
        refine nor_then (hK10 _ _ ?_)
        refine wp_seq_k fun _ hK18 => ?_
        refine wp_block ?_
        refine wp_seq_k fun _ hK15 => ?_
        refine wp_region_list ?_
        refine op_val (ex_move hf rfl) rfl hf rfl rfl fun a hf => ?_
        refine op_val (ex_move hf rfl) rfl hf rfl rfl fun a hf => ?_
        obtain ⟨x11, hx11, hm⟩ := ob hm
        obtain ⟨b12, o13, hix11, hSx11, hAx11⟩ := elemAtRow (enc := enc_str) (sz := 1) (xs := r2) 70 Tryz.underlying70 sz_9 (by decide) (fun _ => rfl) hO (i := 0) rfl hx11
        refine op_val (ex_indexAddr hix11 hf rfl rfl) rfl hf rfl rfl fun a hf => ?_
        refine op_val (ex_load1 (o := 0) ag_9 (hSx11 _ (hO.rowSees (i := 0) rfl)) rfl hf rfl) rfl hf rfl rfl fun a hf => ?_
        obtain ⟨r14, hr14, hm⟩ := ob hm
        refine op_enter (ex_call c_63 hf (vs := [str x11, int 255]) rfl) rfl hf rfl rfl (w_ref08_Small x11 255 r14 _ (hG.own hF hO) hr14) ?_
        rintro e w' ⟨he, hb⟩
        refine ⟨_, he, fun a hf => ?_⟩
        have hO := hO.grow hb
        refine op_val (ex_lss (m := r14) (n := 0) hf rfl rfl) rfl hf rfl rfl fun a hf => ?_
        refine wpList_nil ?_
        refine nor_then (hK15 _ _ ?_)
        refine wp_cond_cut hf rfl (fun hc16 => ?_) (fun hc16 => ?_)
        · have hm := it hc16 hm
          refine wp_seq_k fun _ hK17 => ?_
          refine wp_region_list ?_
          refine op_val (ex_assign hf rfl) rfl hf rfl rfl fun a hf => ?_
          refine wpList_nil ?_
          refine nor_then (hK17 _ _ ?_)
          refine wp_ret ?_
          refine ret_block ?_
          refine ret_then ?_
          refine ret_then ?_
          refine ret_block ?_
          refine ret_then ?_
          obtain rfl := Option.some.inj hm
          exact post_ret Tryz.results35 hf (.tmp rfl .nil) ⟨rfl, hO.below⟩
        · have hm := ie hc16 hm
          refine wp_skip ?_
          refine nor_block ?_
          refine nor_then (hK18 _ _ ?_)
          refine wp_region_list ?_
          refine op_val (ex_move hf rfl) rfl hf rfl rfl fun a hf => ?_
          obtain ⟨i19, hi19, hm⟩ := ob hm
          refine op_val (ex_add hf rfl rfl hi19) rfl hf rfl rfl fun a hf => ?_
          refine op_val (ex_assign hf rfl) rfl hf rfl rfl fun a hf => ?_
          refine wpList_nil ?_
          refine nor_then ?_
          exact ⟨_, Nat.lt_succ_self _, i19, (hf.cons rfl (hf.cons rfl hf.nil)), hO, hm⟩
      · have hm := ie hc9 hm
        refine wp_exit ?_
        refine exit_then ?_
        refine exit_then ?_
        refine exit_here ?_
        refine nor_then (hK20 _ _ ?_)
        refine wp_seq_k fun _ hK21 => ?_
        refine wp_region_list ?_
        refine op_val (ex_move hf rfl) rfl hf rfl rfl fun a hf => ?_
        refine op_val (ex_len_l Tryz.underlying70 hf rfl) rfl hf rfl rfl fun a hf => ?_
        refine op_val (ex_eql (m := (r2.length : Int)) (n := 4) hf rfl rfl) rfl hf rfl rfl fun a hf => ?_
        refine op_val (ex_assign hf rfl) rfl hf rfl rfl fun a hf => ?_
        refine wpList_nil ?_
        refine nor_then (hK21 _ _ ?_)
        refine wp_ret ?_
        obtain rfl := Option.some.inj hm
        exact post_ret Tryz.results35 hf (.tmp rfl .nil) ⟨rfl, hO.below⟩
  · exact ⟨0, (hf.cons rfl (hf.cons rfl hf.nil)), hO, hm⟩

set_option maxHeartbeats 1000000 in
theorem w_ref08_Under (x_name : Str) (x_domain : Str) (R : Bool) (w0 : World) (hG : Glob w0) (hm : ref08_Under x_name x_domain = some R) :
    Calls Tryz.prog 56 #[str x_name, str x_domain] w0 fun e w' => e = .returned (.bool R) ∧ Below w0.heap.size w0 w' := by
  rw [ref08_Under] at hm
  refine calls_enter (vs := [str x_name, str x_domain]) Tryz.func56 rfl Tryz.ntmps56 rfl fun a hf => ?_
  have hF : Away [] := away_nil
  have hO : Dk.Own w0 [] w0 [] := Dk.Own.refl w0
  refine wp_seq_k fun _ hK1 => ?_
  refine wp_region_list ?_
  refine op_val (ex_assign hf rfl) rfl hf rfl rfl fun a hf => ?_
  refine wpList_nil ?_
  refine nor_then (hK1 _ _ ?_)
  refine wp_seq_k fun _ hK12 => ?_
  refine wp_seq_cut (fun a w => ∃ (t9 : Bool), Fits 58 [(0, str x_name), (1, str x_domain), (23, .bool t9)] a ∧ Dk.Own w0 [] w [] ∧ ref08_Under_j1 x_name x_domain t9 = some R) ?_ ?_
  · refine wp_region_list ?_
    refine op_val (ex_move hf rfl) rfl hf rfl rfl fun a hf => ?_
    obtain ⟨r2, hr2, hm⟩ := ob hm
    refine op_enter (ex_call c_34 hf (vs := [str x_name]) rfl) rfl hf rfl rfl (w_ref08_Name x_name r2 _ (hG.own hF hO) hr2) ?_
    rintro e w' ⟨he, hb⟩
    refine ⟨_, he, fun a hf => ?_⟩
    have hO := hO.grow hb
    refine op_val (ex_not hf rfl) rfl hf rfl rfl fun a hf => ?_
    refine op_val (ex_move hf rfl) rfl hf rfl rfl fun a hf => ?_
    rcases bcase (!r2) with hc3 | hc3
    · have hm := it hc3 hm
      refine op_pass rfl hf rfl rfl (hc3) rfl rfl fun a hf => ?_
      refine op_pass rfl hf rfl rfl (hc3) rfl rfl fun a hf => ?_
      refine op_pass rfl hf rfl rfl (hc3) rfl rfl fun a hf => ?_
      refine op_val (ex_pick_t hf rfl hc3 rfl) rfl hf rfl rfl fun a hf => ?_
      refine op_val (ex_move hf rfl) rfl hf rfl rfl fun a hf => ?_
      refine op_pass rfl hf rfl rfl (rfl) rfl rfl fun a hf => ?_
      refine op_pass rfl hf rfl rfl (rfl) rfl rfl fun a hf => ?_
      refine op_val (ex_pick_t hf rfl rfl rfl) rfl hf rfl rfl fun a hf => ?_
      refine op_val (ex_move hf rfl) rfl hf rfl rfl fun a hf => ?_
      refine op_pass rfl hf rfl rfl (rfl) rfl rfl fun a hf => ?_
      refine op_pass rfl hf rfl rfl (rfl) rfl rfl fun a hf => ?_
      refine op_val (ex_pick_t hf rfl rfl rfl) rfl hf rfl rfl fun a hf => ?_
      refine wpList_nil ?_
      refine nor_then ?_
      exact ⟨true, (hf.cons rfl (hf.cons rfl (hf.cons rfl hf.nil))), hO, hm⟩
    · have hm := ie hc3 hm
      refine op_guard rfl hf rfl rfl (hc3) ?_
      refine op_val (ex_move hf rfl) rfl hf rfl rfl fun a hf => ?_
      refine op_guard rfl hf rfl rfl (hc3) ?_
      obtain ⟨r4, hr4, hm⟩ := ob hm
      refine op_enter (ex_call c_34 hf (vs := [str x_domain]) rfl) rfl hf rfl rfl (w_ref08_Name x_domain r4 _ (hG.own hF hO) hr4) ?_
      rintro e w' ⟨he, hb⟩
      refine ⟨_, he, fun a hf => ?_⟩
      have hO := hO.grow hb
      refine op_guard rfl hf rfl rfl (hc3) ?_
      refine op_val (ex_not hf rfl) rfl hf rfl rfl fun a hf => ?_
      refine op_val (ex_pick_f hf rfl hc3 rfl) rfl hf rfl rfl fun a hf => ?_
      refine op_val (ex_move hf rfl) rfl hf rfl rfl fun a hf => ?_
      rcases bcase (!r4) with hc5 | hc5
      · have hm := it hc5 hm
        refine op_pass rfl hf rfl rfl (hc5) rfl rfl fun a hf => ?_
        refine op_pass rfl hf rfl rfl (hc5) rfl rfl fun a hf => ?_
        refine op_val (ex_pick_t hf rfl hc5 rfl) rfl hf rfl rfl fun a hf => ?_
        refine op_val (ex_move hf rfl) rfl hf rfl rfl fun a hf => ?_
        refine op_pass rfl hf rfl rfl (rfl) rfl rfl fun a hf => ?_
        refine op_pass rfl hf rfl rfl (rfl) rfl rfl fun a hf => ?_
        refine op_val (ex_pick_t hf rfl rfl rfl) rfl hf rfl rfl fun a hf => ?_
        refine wpList_nil ?_
        refine nor_then ?_
        exact ⟨true, (hf.cons rfl (hf.cons rfl (hf.cons rfl hf.nil))), hO, hm⟩
      · have hm := ie hc5 hm
        refine op_guard rfl hf rfl rfl (hc5) ?_
        refine op_val (ex_move hf rfl) rfl hf rfl rfl fun a hf => ?_
        refine op_guard rfl hf rfl rfl (hc5) ?_
        obtain ⟨r6, hr6, hm⟩ := ob hm
        refine op_enter (ex_call c_35 hf (vs := [str x_name]) rfl) rfl hf rfl rfl (w_ref08_Four x_name r6 _ (hG.own hF hO) hr6) ?_
        rintro e w' ⟨he, hb⟩
        refine ⟨_, he, fun a hf => ?_⟩
        have hO := hO.grow hb
        refine op_val (ex_pick_f hf rfl hc5 rfl) rfl hf rfl rfl fun a hf => ?_
        refine op_val (ex_move hf rfl) rfl hf rfl rfl fun a hf => ?_
        rcases bcase (r6) with hc7 | hc7
        · have hm := it hc7 hm
          refine op_pass rfl hf rfl rfl (hc7) rfl rfl fun a hf => ?_
          refine op_pass rfl hf rfl rfl (hc7) rfl rfl fun a hf => ?_
          refine op_val (ex_pick_t hf rfl hc7 rfl) rfl hf rfl rfl fun a hf => ?_
          refine wpList_nil ?_
          refine nor_then ?_
          exact ⟨true, (hf.cons rfl (hf.cons rfl (hf.cons rfl hf.nil))), hO, hm⟩
        · have hm := ie hc7 hm
          refine op_guard rfl hf rfl rfl (hc7) ?_
          refine op_val (ex_move hf rfl) rfl hf rfl rfl fun a hf => ?_
          refine op_guard rfl hf rfl rfl (hc7) ?_
          obtain ⟨r8, hr8, hm⟩ := ob hm
          refine op_enter (ex_call c_35 hf (vs := [str x_domain]) rfl) rfl hf rfl rfl (w_ref08_Four x_domain r8 _ (hG.own hF hO) hr8) ?_
          rintro e w' ⟨he, hb⟩
          refine ⟨_, he, fun a hf => ?_⟩
          have hO := hO.grow hb
          refine op_val (ex_pick_f hf rfl hc7 rfl) rfl hf rfl rfl fun a hf => ?_
          refine wpList_nil ?_
          refine nor_then ?_
          exact ⟨r8, (hf.cons rfl (hf.cons rfl (hf.cons rfl hf.nil))), hO, hm⟩
  · rintro a w ⟨t9, hf, hO, hm⟩
    rw [ref08_Under_j1] at hm
    refine wp_cond_cut hf rfl (fun hc10 => ?_) (fun hc10 => ?_)
    · have hm := it hc10 hm
      refine wp_seq_k fun _ hK11 => ?_
      refine wp_region_list ?_
      refine op_val (ex_assign hf rfl) rfl hf rfl rfl fun a hf => ?_
      refine wpList_nil ?_
      refine nor_then (hK11 _ _ ?_)
      refine wp_ret ?_
      refine ret_then ?_
      obtain rfl := Option.some.inj hm
      exact post_ret Tryz.results56 hf (.tmp rfl .nil) ⟨rfl, hO.below⟩
    · have hm := ie hc10 hm
      refine wp_skip ?_
      refine nor_then (hK12 _ _ ?_)
      refine wp_seq_k fun _ hK15 => ?_
      refine wp_region_list ?_
      refine op_val (ex_move hf rfl) rfl hf rfl rfl fun a hf => ?_
      obtain ⟨r13, hr13, hm⟩ := ob hm
      refine op_enter (ex_call c_55 hf (vs := [str x_name]) rfl) rfl hf rfl rfl (w_ref01_Fold x_name r13 _ (hG.own hF hO) hr13) ?_
      rintro e w' ⟨he, hb⟩
      refine ⟨_, he, fun a hf => ?_⟩
      have hO := hO.grow hb
      refine op_val (ex_move hf rfl) rfl hf rfl rfl fun a hf => ?_
      obtain ⟨r14, hr14, hm⟩ := ob hm
      refine op_enter (ex_call c_55 hf (vs := [str x_domain]) rfl) rfl hf rfl rfl (w_ref01_Fold x_domain r14 _ (hG.own hF hO) hr14) ?_
      rintro e w' ⟨he, hb⟩
      refine ⟨_, he, fun a hf => ?_⟩
      have hO := hO.grow hb
      refine op_val (ex_assign hf rfl) rfl hf rfl rfl fun a hf => ?_
      refine op_val (ex_assign hf rfl) rfl hf rfl rfl fun a hf => ?_
      refine wpList_nil ?_
      refine nor_then (hK15 _ _ ?_)
      refine wp_seq_k fun _ hK17 => ?_
      refine wp_region_list ?_
      refine op_val (ex_move hf rfl) rfl hf rfl rfl fun a hf => ?_
      refine op_val (ex_len_s (l := r13) Tryz.underlying9 hf rfl) rfl hf rfl rfl fun a hf => ?_
      refine op_val (ex_move hf rfl) rfl hf rfl rfl fun a hf => ?_
      refine op_val (ex_len_s (l := r14) Tryz.underlying9 hf rfl) rfl hf rfl rfl fun a hf => ?_
      obtain ⟨i16, hi16, hm⟩ := ob hm
      refine op_val (ex_sub hf rfl rfl hi16) rfl hf rfl rfl fun a hf => ?_
      refine op_val (ex_assign hf rfl) rfl hf rfl rfl fun a hf => ?_
      refine wpList_nil ?_
      refine nor_then (hK17 _ _ ?_)
      refine wp_seq_cut (fun a w => ∃ (t30 : Bool), Fits 58 [(4, .bool t30)] a ∧ Dk.Own w0 [] w [] ∧ ref08_Under_j2 t30 = some R) ?_ ?_
      · refine wp_region_list ?_
        refine op_val (ex_move hf rfl) rfl hf rfl rfl fun a hf => ?_
        refine op_val (ex_eql (m := i16) (n := 0) hf rfl rfl) rfl hf rfl rfl fun a hf => ?_
        refine op_val (ex_move hf rfl) rfl hf rfl rfl fun a hf => ?_
        rcases bcase (i16 == 0) with hc18 | hc18
        · have hm := it hc18 hm
          refine op_guard rfl hf rfl rfl (hc18) ?_
          refine op_val (ex_move hf rfl) rfl hf rfl rfl fun a hf => ?_
          refine op_guard rfl hf rfl rfl (hc18) ?_
          refine op_val (ex_move hf rfl) rfl hf rfl rfl fun a hf => ?_
          refine op_guard rfl hf rfl rfl (hc18) ?_
          refine op_val (ex_eql_s (l := r13) (m := r14) hf rfl rfl) rfl hf rfl rfl fun a hf => ?_
          refine op_val (ex_pick_t hf rfl hc18 rfl) rfl hf rfl rfl fun a hf => ?_
          refine op_val (ex_move hf rfl) rfl hf rfl rfl fun a hf => ?_
          rcases bcase (r13 == r14) with hc19 | hc19
          · have hm := it hc19 hm
            refine op_pass rfl hf rfl rfl (hc19) rfl rfl fun a hf => ?_
            refine op_pass rfl hf rfl rfl (hc19) rfl rfl fun a hf => ?_
            refine op_pass rfl hf rfl rfl (hc19) rfl rfl fun a hf => ?_
            refine op_passu rfl hf rfl rfl rfl rfl fun a hf => ?_
            refine op_passu rfl hf rfl rfl rfl rfl fun a hf => ?_
            refine op_passu rfl hf rfl rfl rfl rfl fun a hf => ?_
            refine op_passu rfl hf rfl rfl rfl rfl fun a hf => ?_
            refine op_passu rfl hf rfl rfl rfl rfl fun a hf => ?_
            refine op_pass rfl hf rfl rfl (hc19) rfl rfl fun a hf => ?_
            refine op_pass rfl hf rfl rfl (hc19) rfl rfl fun a hf => ?_
            refine op_passu rfl hf rfl rfl rfl rfl fun a hf => ?_
            refine op_passu rfl hf rfl rfl rfl rfl fun a hf => ?_
            refine op_passu rfl hf rfl rfl rfl rfl fun a hf => ?_
            refine op_passu rfl hf rfl rfl rfl rfl fun a hf => ?_
            refine op_passu rfl hf rfl rfl rfl rfl fun a hf => ?_
            refine op_pass rfl hf rfl rfl (hc19) rfl rfl fun a hf => ?_
            refine op_val (ex_pick_t hf rfl hc19 rfl) rfl hf rfl rfl fun a hf => ?_
            refine op_val (ex_assign hf rfl) rfl hf rfl rfl fun a hf => ?_
            refine wpList_nil ?_
            refine nor_then ?_
            exact ⟨true, (hf.cons rfl hf.nil), hO, hm⟩
          · have hm := ie hc19 hm
            refine op_guard rfl hf rfl rfl (hc19) ?_
            refine op_val (ex_move hf rfl) rfl hf rfl rfl fun a hf => ?_
            refine op_guard rfl hf rfl rfl (hc19) ?_
            refine op_val (ex_gtr (m := i16) (n := 0) hf rfl rfl) rfl hf rfl rfl fun a hf => ?_
            refine op_guard rfl hf rfl rfl (hc19) ?_
            refine op_val (ex_move hf rfl) rfl hf rfl rfl fun a hf => ?_
            rcases bcase (decide (0 < i16)) with hc20 | hc20
            · have hm := it hc20 hm
              refine op_guard rfl hf rfl rfl (hc20) ?_
              refine op_val (ex_move hf rfl) rfl hf rfl rfl fun a hf => ?_
              refine op_guard rfl hf rfl rfl (hc20) ?_
              refine op_val (ex_move hf rfl) rfl hf rfl rfl fun a hf => ?_
              refine op_guard rfl hf rfl rfl (hc20) ?_
              obtain ⟨s21, hs21, hm⟩ := ob hm
              refine op_val (ex_from_s (l := r13) Tryz.underlying9 hf rfl rfl hs21) rfl hf rfl rfl fun a hf => ?_
              refine op_guard rfl hf rfl rfl (hc20) ?_
              refine op_val (ex_move hf rfl) rfl hf rfl rfl fun a hf => ?_
              refine op_guard rfl hf rfl rfl (hc20) ?_
              refine op_val (ex_eql_s (l := s21) (m := r14) hf rfl rfl) rfl hf rfl rfl fun a hf => ?_
              refine op_guard rfl hf rfl rfl (hc19) ?_
              refine op_val (ex_pick_t hf rfl hc20 rfl) rfl hf rfl rfl fun a hf => ?_
              refine op_guard rfl hf rfl rfl (hc19) ?_
              refine op_val (ex_move hf rfl) rfl hf rfl rfl fun a hf => ?_
              rcases bcase (s21 == r14) with hc22 | hc22
              · have hm := it hc22 hm
                refine op_guard rfl hf rfl rfl (hc22) ?_
                refine op_val (ex_move hf rfl) rfl hf rfl rfl fun a hf => ?_
                refine op_guard rfl hf rfl rfl (hc22) ?_
                refine op_val (ex_move hf rfl) rfl hf rfl rfl fun a hf => ?_
                refine op_guard rfl hf rfl rfl (hc22) ?_
                obtain ⟨i23, hi23, hm⟩ := ob hm
                refine op_val (ex_sub hf rfl rfl hi23) rfl hf rfl rfl fun a hf => ?_
                refine op_guard rfl hf rfl rfl (hc22) ?_
                obtain ⟨b24, hb24, hm⟩ := ob hm
                refine op_val (ex_index (l := r13) Tryz.underlying9 hf rfl rfl hb24) rfl hf rfl rfl fun a hf => ?_
                refine op_guard rfl hf rfl rfl (hc22) ?_
                refine op_val (ex_eql_b (b := b24) (c := 46) hf rfl rfl) rfl hf rfl rfl fun a hf => ?_
                refine op_guard rfl hf rfl rfl (hc19) ?_
                refine op_val (ex_pick_t hf rfl hc22 rfl) rfl hf rfl rfl fun a hf => ?_
                refine op_val (ex_pick_f hf rfl hc19 rfl) rfl hf rfl rfl fun a hf => ?_
                refine op_val (ex_assign hf rfl) rfl hf rfl rfl fun a hf => ?_
                refine wpList_nil ?_
                refine nor_then ?_
                exact ⟨b24 == 46, (hf.cons rfl hf.nil), hO, hm⟩
              · have hm := ie hc22 hm
                refine op_pass rfl hf rfl rfl (hc22) rfl rfl fun a hf => ?_
                refine op_pass rfl hf rfl rfl (hc22) rfl rfl fun a hf => ?_
                refine op_pass rfl hf rfl rfl (hc22) rfl rfl fun a hf => ?_
                refine op_pass rfl hf rfl rfl (hc22) rfl rfl fun a hf => ?_
                refine op_pass rfl hf rfl rfl (hc22) rfl rfl fun a hf => ?_
                refine op_guard rfl hf rfl rfl (hc19) ?_
                refine op_val (ex_pick_f hf rfl hc22 rfl) rfl hf rfl rfl fun a hf => ?_
                refine op_val (ex_pick_f hf rfl hc19 rfl) rfl hf rfl rfl fun a hf => ?_
                refine op_val (ex_assign hf rfl) rfl hf rfl rfl fun a hf => ?_
                refine wpList_nil ?_
                refine nor_then ?_
                exact ⟨false, (hf.cons rfl hf.nil), hO, hm⟩
            · have hm := ie hc20 hm
              refine op_pass rfl hf rfl rfl (hc20) rfl rfl fun a hf => ?_
              refine op_pass rfl hf rfl rfl (hc20) rfl rfl fun a hf => ?_
              refine op_pass rfl hf rfl rfl (hc20) rfl rfl fun a hf => ?_
              refine op_pass rfl hf rfl rfl (hc20) rfl rfl fun a hf => ?_
              refine op_pass rfl hf rfl rfl (hc20) rfl rfl fun a hf => ?_
              refine op_guard rfl hf rfl rfl (hc19) ?_
              refine op_val (ex_pick_f hf rfl hc20 rfl) rfl hf rfl rfl fun a hf => ?_
              refine op_guard rfl hf rfl rfl (hc19) ?_
              refine op_val (ex_move hf rfl) rfl hf rfl rfl fun a hf => ?_
              refine op_pass rfl hf rfl rfl (rfl) rfl rfl fun a hf => ?_
              refine op_pass rfl hf rfl rfl (rfl) rfl rfl fun a hf => ?_
              refine op_pass rfl hf rfl rfl (rfl) rfl rfl fun a hf => ?_
              refine op_pass rfl hf rfl rfl (rfl) rfl rfl fun a hf => ?_
              refine op_pass rfl hf rfl rfl (rfl) rfl rfl fun a hf => ?_
              refine op_guard rfl hf rfl rfl (hc19) ?_
              refine op_val (ex_pick_f hf rfl rfl rfl) rfl hf rfl rfl fun a hf => ?_
              refine op_val (ex_pick_f hf rfl hc19 rfl) rfl hf rfl rfl fun a hf => ?_
              refine op_val (ex_assign hf rfl) rfl hf rfl rfl fun a hf => ?_
              refine wpList_nil ?_
              refine nor_then ?_
              exact ⟨false, (hf.cons rfl hf.nil), hO, hm⟩
        · have hm := ie hc18 hm
          refine op_pass rfl hf rfl rfl (hc18) rfl rfl fun a hf => ?_
          refine op_pass rfl hf rfl rfl (hc18) rfl rfl fun a hf => ?_
          refine op_pass rfl hf rfl rfl (hc18) rfl rfl fun a hf => ?_
          refine op_val (ex_pick_f hf rfl hc18 rfl) rfl hf rfl rfl fun a hf => ?_
          refine op_val (ex_move hf rfl) rfl hf rfl rfl fun a hf => ?_
          refine op_guard rfl hf rfl rfl (rfl) ?_
          refine op_val (ex_move hf rfl) rfl hf rfl rfl fun a hf => ?_
          refine op_guard rfl hf rfl rfl (rfl) ?_
          refine op_val (ex_gtr (m := i16) (n := 0) hf rfl rfl) rfl hf rfl rfl fun a hf => ?_
          refine op_guard rfl hf rfl rfl (rfl) ?_
          refine op_val (ex_move hf rfl) rfl hf rfl rfl fun a hf => ?_
          rcases bcase (decide (0 < i16)) with hc25 | hc25
          · have hm := it hc25 hm
            refine op_guard rfl hf rfl rfl (hc25) ?_
            refine op_val (ex_move hf rfl) rfl hf rfl rfl fun a hf => ?_
            refine op_guard rfl hf rfl rfl (hc25) ?_
            refine op_val (ex_move hf rfl) rfl hf rfl rfl fun a hf => ?_
            refine op_guard rfl hf rfl rfl (hc25) ?_
            obtain ⟨s26, hs26, hm⟩ := ob hm
            refine op_val (ex_from_s (l := r13) Tryz.underlying9 hf rfl rfl hs26) rfl hf rfl rfl fun a hf => ?_
            refine op_guard rfl hf rfl rfl (hc25) ?_
            refine op_val (ex_move hf rfl) rfl hf rfl rfl fun a hf => ?_
            refine op_guard rfl hf rfl rfl (hc25) ?_
            refine op_val (ex_eql_s (l := s26) (m := r14) hf rfl rfl) rfl hf rfl rfl fun a hf => ?_
            refine op_guard rfl hf rfl rfl (rfl) ?_
            refine op_val (ex_pick_t hf rfl hc25 rfl) rfl hf rfl rfl fun a hf => ?_
            refine op_guard rfl hf rfl rfl (rfl) ?_
            refine op_val (ex_move hf rfl) rfl hf rfl rfl fun a hf => ?_
            rcases bcase (s26 == r14) with hc27 | hc27
            · have hm := it hc27 hm
              refine op_guard rfl hf rfl rfl (hc27) ?_
              refine op_val (ex_move hf rfl) rfl hf rfl rfl fun a hf => ?_
              refine op_guard rfl hf rfl rfl (hc27) ?_
              refine op_val (ex_move hf rfl) rfl hf rfl rfl fun a hf => ?_
              refine op_guard rfl hf rfl rfl (hc27) ?_
              obtain ⟨i28, hi28, hm⟩ := ob hm
              refine op_val (ex_sub hf rfl rfl hi28) rfl hf rfl rfl fun a hf => ?_
              refine op_guard rfl hf rfl rfl (hc27) ?_
              obtain ⟨b29, hb29, hm⟩ := ob hm
              refine op_val (ex_index (l := r13) Tryz.underlying9 hf rfl rfl hb29) rfl hf rfl rfl fun a hf => ?_
              refine op_guard rfl hf rfl rfl (hc27) ?_
              refine op_val (ex_eql_b (b := b29) (c := 46) hf rfl rfl) rfl hf rfl rfl fun a hf => ?_
              refine op_guard rfl hf rfl rfl (rfl) ?_
              refine op_val (ex_pick_t hf rfl hc27 rfl) rfl hf rfl rfl fun a hf => ?_
              refine op_val (ex_pick_f hf rfl rfl rfl) rfl hf rfl rfl fun a hf => ?_
              refine op_val (ex_assign hf rfl) rfl hf rfl rfl fun a hf => ?_
              refine wpList_nil ?_
              refine nor_then ?_
              exact ⟨b29 == 46, (hf.cons rfl hf.nil), hO, hm⟩
            · have hm := ie hc27 hm
              refine op_pass rfl hf rfl rfl (hc27) rfl rfl fun a hf => ?_
              refine op_pass rfl hf rfl rfl (hc27) rfl rfl fun a hf => ?_
              refine op_pass rfl hf rfl rfl (hc27) rfl rfl fun a hf => ?_
              refine op_pass rfl hf rfl rfl (hc27) rfl rfl fun a hf => ?_
              refine op_pass rfl hf rfl rfl (hc27) rfl rfl fun a hf => ?_
              refine op_guard rfl hf rfl rfl (rfl) ?_
              refine op_val (ex_pick_f hf rfl hc27 rfl) rfl hf rfl rfl fun a hf => ?_
              refine op_val (ex_pick_f hf rfl rfl rfl) rfl hf rfl rfl fun a hf => ?_
              refine op_val (ex_assign hf rfl) rfl hf rfl rfl fun a hf => ?_
              refine wpList_nil ?_
              refine nor_then ?_
              exact ⟨false, (hf.cons rfl hf.nil), hO, hm⟩
          · have hm := ie hc25 hm
            refine op_pass rfl hf rfl rfl (hc25) rfl rfl fun a hf => ?_
            refine op_pass rfl hf rfl rfl (hc25) rfl rfl fun a hf => ?_
            refine op_pass rfl hf rfl rfl (hc25) rfl rfl fun a hf => ?_
            refine op_pass rfl hf rfl rfl (hc25) rfl rfl fun a hf => ?_
            refine op_pass rfl hf rfl rfl (hc25) rfl rfl fun a hf => ?_
            refine op_guard rfl hf rfl rfl (rfl) ?_
            refine op_val (ex_pick_f hf rfl hc25 rfl) rfl hf rfl rfl fun a hf => ?_
            refine op_guard rfl hf rfl rfl (rfl) ?_
            refine op_val (ex_move hf rfl) rfl hf rfl rfl fun a hf => ?_
            refine op_pass rfl hf rfl rfl (rfl) rfl rfl fun a hf => ?_
            refine op_pass rfl hf rfl rfl (rfl) rfl rfl fun a hf => ?_
            refine op_pass rfl hf rfl rfl (rfl) rfl rfl fun a hf => ?_
            refine op_pass rfl hf rfl rfl (rfl) rfl rfl fun a hf => ?_
            refine op_pass rfl hf rfl rfl (rfl) rfl rfl fun a hf => ?_
            refine op_guard rfl hf rfl rfl (rfl) ?_
            refine op_val (ex_pick_f hf rfl rfl rfl) rfl hf rfl rfl fun a hf => ?_
            refine op_val (ex_pick_f hf rfl rfl rfl) rfl hf rfl rfl fun a hf => ?_
            refine op_val (ex_assign hf rfl) rfl hf rfl rfl fun a hf => ?_
            refine wpList_nil ?_
            refine nor_then ?_
            exact ⟨false, (hf.cons rfl hf.nil), hO, hm⟩
      · rintro a w ⟨t30, hf, hO, hm⟩
        rw [ref08_Under_j2] at hm
        refine wp_ret ?_
        obtain rfl := Option.some.inj hm
        exact post_ret Tryz.results56 hf (.tmp rfl .nil) ⟨rfl, hO.below⟩

set_option maxHeartbeats 1000000 in
theorem w_ref29_Map (x_name : Str) (x_l : List api_Swap) (R : Str × Bool) (w0 : World) (hG : Glob w0) {x_l_p0 : Option Addr} {x_l_c0 : Nat} (hs0 : Sees w0 x_l_p0 (cells enc_api_Swap x_l)) (hc0 : x_l.length ≤ x_l_c0) (hm : ref29_Map x_name x_l = some R) :
    Calls Tryz.prog 29 #[str x_name, .slice x_l_p0 x_l.length x_l_c0] w0 fun e w' => e = .returned (.tuple #[str R.1, .bool R.2]) ∧ Below w0.heap.size w0 w' := by
  rw [ref29_Map] at hm
  refine calls_enter (vs := [str x_name, .slice x_l_p0 x_l.length x_l_c0]) Tryz.func29 rfl Tryz.ntmps29 rfl fun a hf => ?_
  have hF : Away [] := away_nil
  have hO : Dk.Own w0 [] w0 [] := Dk.Own.refl w0
  have hO := hO.addShr hs0 (by simp [Res.shared])
  refine wp_seq_k fun _ hK1 => ?_
  refine wp_region_list ?_
  refine op_val (ex_assign hf rfl) rfl hf rfl rfl fun a hf => ?_
  refine op_val (ex_assign hf rfl) rfl hf rfl rfl fun a hf => ?_
  refine wpList_nil ?_
  refine nor_then (hK1 _ _ ?_)
  refine wp_seq_k fun _ hK2 => ?_
  refine wp_region_list ?_
  refine op_val (ex_move hf rfl) rfl hf rfl rfl fun a hf => ?_
  refine op_val (ex_assign hf rfl) rfl hf rfl rfl fun a hf => ?_
  refine wpList_nil ?_
  refine nor_then (hK2 _ _ ?_)
  refine wp_seq_cut (fun a w => ∃ (s8 : Str), Fits 49 [(0, str x_name), (1, .slice x_l_p0 x_l.length x_l_c0), (6, str s8)] a ∧ Dk.Own w0 [] w [.shr x_l_p0 (cells enc_api_Swap x_l)] ∧ ref29_Map_j2 x_name x_l s8 = some R) ?_ ?_
  · refine wp_seq_cut (fun a w => ∃ (t5 : Bool), Fits 49 [(0, str x_name), (1, .slice x_l_p0 x_l.length x_l_c0), (6, str x_name), (15, .bool t5)] a ∧ Dk.Own w0 [] w [.shr x_l_p0 (cells enc_api_Swap x_l)] ∧ ref29_Map_j1 x_name x_l t5 = some R) ?_ ?_
    · refine wp_region_list ?_
      refine op_val (ex_move hf rfl) rfl hf rfl rfl fun a hf => ?_
      refine op_val (ex_neq_s (l := x_name) (m := []) hf rfl rfl) rfl hf rfl rfl fun a hf => ?_
      refine op_val (ex_move hf rfl) rfl hf rfl rfl fun a hf => ?_
      rcases bcase (!(x_name == [])) with hc3 | hc3
      · have hm := it hc3 hm
        refine op_guard rfl hf rfl rfl (hc3) ?_
        refine op_val (ex_move hf rfl) rfl hf rfl rfl fun a hf => ?_
        refine op_guard rfl hf rfl rfl (hc3) ?_
        obtain ⟨b4, hb4, hm⟩ := ob hm
        refine op_val (ex_index (l := x_name) Tryz.underlying9 hf rfl rfl hb4) rfl hf rfl rfl fun a hf => ?_
        refine op_guard rfl hf rfl rfl (hc3) ?_
        refine op_val (ex_eql_b (b := b4) (c := 46) hf rfl rfl) rfl hf rfl rfl fun a hf => ?_
        refine op_val (ex_pick_t hf rfl hc3 rfl) rfl hf rfl rfl fun a hf => ?_
        refine wpList_nil ?_
        refine nor_then ?_
        exact ⟨b4 == 46, (hf.cons rfl (hf.cons rfl (hf.cons rfl (hf.cons rfl hf.nil)))), hO, hm⟩
      · have hm := ie hc3 hm
        refine op_pass rfl hf rfl rfl (hc3) rfl rfl fun a hf => ?_
        refine op_pass rfl hf rfl rfl (hc3) rfl rfl fun a hf => ?_
        refine op_pass rfl hf rfl rfl (hc3) rfl rfl fun a hf => ?_
        refine op_val (ex_pick_f hf rfl hc3 rfl) rfl hf rfl rfl fun a hf => ?_
        refine wpList_nil ?_
        refine nor_then ?_
        exact ⟨false, (hf.cons rfl (hf.cons rfl (hf.cons rfl (hf.cons rfl hf.nil)))), hO, hm⟩
    · rintro a w ⟨t5, hf, hO, hm⟩
      rw [ref29_Map_j1] at hm
      refine wp_cond_cut hf rfl (fun hc6 => ?_) (fun hc6 => ?_)
      · have hm := it hc6 hm
        refine wp_region_list ?_
        refine op_val (ex_move hf rfl) rfl hf rfl rfl fun a hf => ?_
        obtain ⟨s7, hs7, hm⟩ := ob hm
        refine op_val (ex_from_s (l := x_name) Tryz.underlying9 hf rfl rfl hs7) rfl hf rfl rfl fun a hf => ?_
        refine op_val (ex_assign hf rfl) rfl hf rfl rfl fun a hf => ?_
        refine wpList_nil ?_
        refine nor_then ?_
        exact ⟨s7, (hf.cons rfl (hf.cons rfl (hf.cons rfl hf.nil))), hO, hm⟩
      · have hm := ie hc6 hm
        refine wp_skip ?_
        refine nor_then ?_
        exact ⟨x_name, (hf.cons rfl (hf.cons rfl (hf.cons rfl hf.nil))), hO, hm⟩
  · rintro a w ⟨s8, hf, hO, hm⟩
    rw [ref29_Map_j2] at hm
    refine wp_seq_k fun _ hK32 => ?_
    refine wp_seq_k fun _ hK9 => ?_
    refine wp_region_list ?_
    refine op_val (ex_assign hf rfl) rfl hf rfl rfl fun a hf => ?_
    refine wpList_nil ?_
    refine nor_then (hK9 _ _ ?_)
    refine wp_block ?_
    refine wp_loop_n (fun k a w => ∃ (i10 : Int), Fits 49 [(0, str x_name), (1, .slice x_l_p0 x_l.length x_l_c0), (6, str s8), (7, int i10)] a ∧ Dk.Own w0 [] w [.shr x_l_p0 (cells enc_api_Swap x_l)] ∧ ref29_Map_L3 x_name x_l s8 k i10 = some R) ?_ fuel ?_
    · rintro n3 a w ⟨i10, hf, hO, hm⟩
      obtain _ | n3 := n3
      · rw [ref29_Map_L3] at hm
        cases hm
      · rw [ref29_Map_L3] at hm
        refine wp_seq_k fun _ hK13 => ?_
        refine wp_seq_k fun _ hK11 => ?_
        refine wp_region_list ?_
        refine op_val (ex_move hf rfl) rfl hf rfl rfl fun a hf => ?_
        refine op_val (ex_move hf rfl) rfl hf rfl rfl fun a hf => ?_
        refine op_val (ex_len_l Tryz.underlying22 hf rfl) rfl hf rfl rfl fun a hf => ?_
        refine op_val (ex_lss (m := i10) (n := (x_l.length : Int)) hf rfl rfl) rfl hf rfl rfl fun a hf => ?_
        refine wpList_nil ?_
        refine nor_then (hK11 _ _ ?_)
        refine wp_cond_cut hf rfl (fun hc12 => ?_) (fun hc12 => ?_)
        · have hm := it hc12 hm
          refine wp_skip ?_
          refine nor_then (hK13 _ _ ?_)
          refine wp_seq_k fun _ hK30 => ?_
          refine wp_block ?_
          refine wp_seq_k fun _ hK18 => ?_
          refine wp_region_list ?_
          refine op_val (ex_move hf rfl) rfl hf rfl rfl fun a hf => ?_
          refine op_val (ex_move hf rfl) rfl hf rfl rfl fun a hf => ?_
          refine op_val (ex_move hf rfl) rfl hf rfl rfl fun a hf => ?_
          obtain ⟨x14, hx14, hm⟩ := ob hm
          obtain ⟨b15, o16, hix14, hSx14⟩ := elemAt (enc := enc_api_Swap) (sz := 2) (xs := x_l) 22 Tryz.underlying22 sz_57 (by decide) (fun _ => rfl) (hO.sees (i := 0) rfl) hx14
          refine op_val (ex_indexAddr hix14 hf rfl rfl) rfl hf rfl rfl fun a hf => ?_
          refine op_val (ex_field fa_57_0 hf rfl) rfl hf rfl rfl fun a hf => ?_
          refine op_val (ex_load1 (o := 0) ag_9 (hSx14 _ (hO.sees (i := 0) rfl)) rfl hf rfl) rfl hf rfl rfl fun a hf => ?_
          obtain ⟨r17, hr17, hm⟩ := ob hm
          refine op_enter (ex_call c_56 hf (vs := [str s8, str x14.From]) rfl) rfl hf rfl rfl (w_ref08_Under s8 x14.From r17 _ (hG.own hF hO) hr17) ?_
          rintro e w' ⟨he, hb⟩
          refine ⟨_, he, fun a hf => ?_⟩
          have hO := hO.grow hb
          refine wpList_nil ?_
          refine nor_then (hK18 _ _ ?_)
          refine wp_cond_cut hf rfl (fun hc19 => ?_) (fun hc19 => ?_)
          · have hm := it hc19 hm
            refine wp_seq_k fun _ hK29 => ?_
            refine wp_quiet (by kernel_rfl) (by kernel_rfl) hO ?_
            refine q_val (fun w hO => ex_move hf rfl) rfl hf rfl rfl fun a hf => ?_
            refine q_val (fun w hO => ex_move hf rfl) rfl hf rfl rfl fun a hf => ?_
            refine q_val (fun w hO => ex_len_s (l := s8) Tryz.underlying9 hf rfl) rfl hf rfl rfl fun a hf => ?_
            refine q_val (fun w hO => ex_move hf rfl) rfl hf rfl rfl fun a hf => ?_
            refine q_val (fun w hO => ex_move hf rfl) rfl hf rfl rfl fun a hf => ?_
            obtain ⟨x20, hx20, hm⟩ := ob hm
            obtain ⟨b21, o22, hix20, hSx20⟩ := elemAt (enc := enc_api_Swap) (sz := 2) (xs := x_l) 22 Tryz.underlying22 sz_57 (by decide) (fun _ => rfl) (hO.sees (i := 0) rfl) hx20
            refine q_val (fun w hO => ex_indexAddr hix20 hf rfl rfl) rfl hf rfl rfl fun a hf => ?_
            refine q_val (fun w hO => ex_field fa_57_0 hf rfl) rfl hf rfl rfl fun a hf => ?_
            refine q_val (fun w hO => ex_load1 (o := 0) ag_9 (hSx20 _ (hO.sees (i := 0) rfl)) rfl hf rfl) rfl hf rfl rfl fun a hf => ?_
            refine q_val (fun w hO => ex_len_s (l := x20.From) Tryz.underlying9 hf rfl) rfl hf rfl rfl fun a hf => ?_
            obtain ⟨i23, hi23, hm⟩ := ob hm
            refine q_val (fun w hO => ex_sub hf rfl rfl hi23) rfl hf rfl rfl fun a hf => ?_
            obtain ⟨s24, hs24, hm⟩ := ob hm
            refine q_val (fun w hO => ex_to_s (l := s8) Tryz.underlying9 hf rfl rfl hs24) rfl hf rfl rfl fun a hf => ?_
            refine q_val (fun w hO => ex_move hf rfl) rfl hf rfl rfl fun a hf => ?_
            refine q_val (fun w hO => ex_move hf rfl) rfl hf rfl rfl fun a hf => ?_
            obtain ⟨x25, hx25, hm⟩ := ob hm
            obtain ⟨b26, o27, hix25, hSx25⟩ := elemAt (enc := enc_api_Swap) (sz := 2) (xs := x_l) 22 Tryz.underlying22 sz_57 (by decide) (fun _ => rfl) (hO.sees (i := 0) rfl) hx25
            refine q_val (fun w hO => ex_indexAddr hix25 hf rfl rfl) rfl hf rfl rfl fun a hf => ?_
            refine q_val (fun w hO => ex_field fa_57_1 hf rfl) rfl hf rfl rfl fun a hf => ?_
            refine q_val (fun w hO => ex_load1 (o := 1) ag_9 (hSx25 _ (hO.sees (i := 0) rfl)) rfl hf rfl) rfl hf rfl rfl fun a hf => ?_
            obtain ⟨s28, hs28, hm⟩ := ob hm
            refine q_val (fun w hO => ex_cat (l := s24) (m := x25.To) hf rfl rfl hs28) rfl hf rfl rfl fun a hf => ?_
            refine q_val (fun w hO => ex_assign hf rfl) rfl hf rfl rfl fun a hf => ?_
            refine q_val (fun w hO => ex_assign hf rfl) rfl hf rfl rfl fun a hf => ?_
            refine wpQuiet_nil ?_
            intro w hO
            refine nor_then (hK29 _ _ ?_)
            refine wp_ret ?_
            refine ret_block ?_
            refine ret_then ?_
            refine ret_then ?_
            refine ret_block ?_
            refine ret_then ?_
            obtain rfl := Option.some.inj hm
            exact post_ret Tryz.results29 hf (.tmp rfl (.tmp rfl .nil)) ⟨rfl, hO.below⟩
          · have hm := ie hc19 hm
            refine wp_skip ?_
            refine nor_block ?_
            refine nor_then (hK30 _ _ ?_)
            refine wp_region_list ?_
            refine op_val (ex_move hf rfl) rfl hf rfl rfl fun a hf => ?_
            obtain ⟨i31, hi31, hm⟩ := ob hm
            refine op_val (ex_add hf rfl rfl hi31) rfl hf rfl rfl fun a hf => ?_
            refine op_val (ex_assign hf rfl) rfl hf rfl rfl fun a hf => ?_
            refine wpList_nil ?_
            refine nor_then ?_
            exact ⟨_, Nat.lt_succ_self _, i31, (hf.cons rfl (hf.cons rfl (hf.cons rfl (hf.cons rfl hf.nil)))), hO, hm⟩
        · have hm := ie hc12 hm
          refine wp_exit ?_
          refine exit_then ?_
          refine exit_then ?_
          refine exit_here ?_
          refine nor_then (hK32 _ _ ?_)
          refine wp_seq_k fun _ hK33 => ?_
          refine wp_region_list ?_
          refine op_val (ex_move hf rfl) rfl hf rfl rfl fun a hf => ?_
          refine op_val (ex_assign hf rfl) rfl hf rfl rfl fun a hf => ?_
          refine op_val (ex_assign hf rfl) rfl hf rfl rfl fun a hf => ?_
          refine wpList_nil ?_
          refine nor_then (hK33 _ _ ?_)
          refine wp_ret ?_
          obtain rfl := Option.some.inj hm
          exact post_ret Tryz.results29 hf (.tmp rfl (.tmp rfl .nil)) ⟨rfl, hO.below⟩
    · exact ⟨0, (hf.cons rfl (hf.cons rfl (hf.cons rfl (hf.cons rfl hf.nil)))), hO, hm⟩

set_option maxHeartbeats 1000000 in
theorem w_ref28_Set (x_a0 : api_Cookie) (x_a1 : Str) (x_a2 : Str) (R : api_Cookie) (w0 : World) (hG : Glob w0) {x_a0_p0 : Option Addr} {x_a0_c0 : Nat} (hs0 : Sees w0 x_a0_p0 (cells enc_api_Attr x_a0.Attrs)) (hc0 : x_a0.Attrs.length ≤ x_a0_c0) (hm : ref28_Set x_a0 x_a1 x_a2 = some R) :
    Calls Tryz.prog 31 #[.agg #[str x_a0.Name, str x_a0.Value, .slice x_a0_p0 x_a0.Attrs.length x_a0_c0], str x_a1, str x_a2] w0 fun e w' => ∃ (p0 : Option Addr) (c0 : Nat), e = .returned (.agg #[str R.Name, str R.Value, .slice p0 R.Attrs.length c0]) ∧ Dk.Own w0 [] w' [.row (.slice p0 R.Attrs.length c0) 66 3 R.Attrs.length (cells enc_api_Attr R.Attrs)] := by
  rw [ref28_Set] at hm
  refine calls_enter (vs := [.agg #[str x_a0.Name, str x_a0.Value, .slice x_a0_p0 x_a0.Attrs.length x_a0_c0], str x_a1, str x_a2]) Tryz.func31 rfl Tryz.ntmps31 rfl fun a hf => ?_
  have hF : Away [] := away_nil
  have hO : Dk.Own w0 [] w0 [] := Dk.Own.refl w0
  have hO := hO.addShr hs0 (by simp [Res.shared])
  refine wp_seq_k fun _ hK3 => ?_
  refine wp_region_list ?_
  refine op_box (v := .agg #[str x_a0.Name, str x_a0.Value, .slice x_a0_p0 x_a0.Attrs.length x_a0_c0]) (cs := [str x_a0.Name, str x_a0.Value, .slice x_a0_p0 x_a0.Attrs.length x_a0_c0]) rfl hf rfl rfl hO fun a b1 w hf hO => ?_
  refine op_alloc al_33 hf rfl hO fun a b2 w hf hO => ?_
  have hO := hO.nilRow 66 3
  refine wpList_nil ?_
  refine nor_then (hK3 _ _ ?_)
  refine wp_seq_k fun _ hK5 => ?_
  refine wp_region_list ?_
  refine op_val (ex_loadN (o := 0) (vs := [str x_a0.Name, str x_a0.Value, .slice x_a0_p0 x_a0.Attrs.length x_a0_c0]) ag_33 sz_33 (hO.blkSees (i := 2) rfl) rfl rfl hf rfl) rfl hf rfl rfl fun a hf => ?_
  refine op_val (ex_move hf rfl) rfl hf rfl rfl fun a hf => ?_
  obtain ⟨r4, hr4, hm⟩ := ob hm
  refine op_enter (ex_call c_28 hf (vs := [.agg #[str x_a0.Name, str x_a0.Value, .slice x_a0_p0 x_a0.Attrs.length x_a0_c0], str x_a1]) rfl) rfl hf rfl rfl (w_ref28_Place x_a0 x_a1 r4 _ (hG.own hF hO) (hO.sees (i := 3) rfl) hc0 hr4) ?_
  rintro e w' ⟨he, hb⟩
  refine ⟨_, he, fun a hf => ?_⟩
  have hO := hO.grow hb
  refine op_val (ex_assign hf rfl) rfl hf rfl rfl fun a hf => ?_
  refine wpList_nil ?_
  refine nor_then (hK5 _ _ ?_)
  refine wp_seq_k fun _ hK7 => ?_
  refine wp_region_list ?_
  refine op_val (ex_field fa_33_0 hf rfl) rfl hf rfl rfl fun a hf => ?_
  refine op_val (ex_load1 (o := 0) ag_9 (hO.blkSees (i := 2) rfl) rfl hf rfl) rfl hf rfl rfl fun a hf => ?_
  refine op_val (ex_field fa_33_1 hf rfl) rfl hf rfl rfl fun a hf => ?_
  refine op_val (ex_load1 (o := 1) ag_9 (hO.blkSees (i := 2) rfl) rfl hf rfl) rfl hf rfl rfl fun a hf => ?_
  refine op_val (ex_build (vs := [(0, str x_a0.Name), (1, str x_a0.Value)]) (v := .agg #[str x_a0.Name, str x_a0.Value, .slice none 0 0]) hf rfl (by kernel_rfl)) rfl hf rfl rfl fun a hf => ?_
  refine op_alloc al_33 hf rfl hO fun a b6 w hf hO => ?_
  have hO := hO.nilRow 66 3
  refine op_storeN (i := 1) (n := 3) sz_33 rfl rfl rfl (by simp [Value.oneCell']) hf rfl rfl hO fun w hO => ?_
  have hO := hO.nilRow 66 3
  refine wpList_nil ?_
  refine nor_then (hK7 _ _ ?_)
  refine wp_seq_cut (fun a w => ∃ (p41 : Option Addr) (c42 : Nat) (l43 : List api_Attr) (s44 : Str) (s45 : Str), Fits 66 [(1, str x_a1), (2, str x_a2), (6, ptr b2 0), (7, int r4), (8, ptr b6 0)] a ∧ Dk.Own w0 [] w [.row (.slice p41 l43.length c42) 66 3 l43.length (cells enc_api_Attr l43), .row (.slice none 0 0) 66 3 0 (cells enc_api_Attr []), .blk b6 [str s44, str s45, .slice p41 l43.length c42] 33, .row (.slice none 0 0) 66 3 0 (cells enc_api_Attr []), .blk b2 [str [], str [], .slice none 0 0] 33, .blk b1 [str x_a0.Name, str x_a0.Value, .slice x_a0_p0 x_a0.Attrs.length x_a0_c0] 33, .shr x_a0_p0 (cells enc_api_Attr x_a0.Attrs)] ∧ ref28_Set_j3 x_a1 x_a2 r4 l43 s44 s45 = some R) ?_ ?_
  · refine wp_seq_k fun _ hK8 => ?_
    refine wp_region_list ?_
    refine op_val (ex_assign hf rfl) rfl hf rfl rfl fun a hf => ?_
    refine wpList_nil ?_
    refine nor_then (hK8 _ _ ?_)
    refine wp_block ?_
    refine wp_loop_n (fun k a w => ∃ (p9 : Option Addr) (c10 : Nat) (l11 : List api_Attr) (s12 : Str) (s13 : Str) (i14 : Int), Fits 66 [(1, str x_a1), (2, str x_a2), (3, ptr b1 0), (6, ptr b2 0), (7, int r4), (8, ptr b6 0), (9, int i14)] a ∧ Dk.Own w0 [] w [.row (.slice p9 l11.length c10) 66 3 l11.length (cells enc_api_Attr l11), .row (.slice none 0 0) 66 3 0 (cells enc_api_Attr []), .blk b6 [str s12, str s13, .slice p9 l11.length c10] 33, .row (.slice none 0 0) 66 3 0 (cells enc_api_Attr []), .blk b2 [str [], str [], .slice none 0 0] 33, .blk b1 [str x_a0.Name, str x_a0.Value, .slice x_a0_p0 x_a0.Attrs.length x_a0_c0] 33, .shr x_a0_p0 (cells enc_api_Attr x_a0.Attrs)] ∧ ref28_Set_L1 x_a0 x_a1 x_a2 r4 k l11 s12 s13 i14 = some R) ?_ fuel ?_
    · rintro n1 a w ⟨p9, c10, l11, s12, s13, i14, hf, hO, hm⟩
      obtain _ | n1 := n1
      · rw [ref28_Set_L1] at hm
        cases hm
      · rw [ref28_Set_L1] at hm
        refine wp_seq_k fun _ hK17 => ?_
        refine wp_seq_k fun _ hK15 => ?_
        refine wp_region_list ?_
        refine op_val (ex_move hf rfl) rfl hf rfl rfl fun a hf => ?_
        refine op_val (ex_field fa_33_2 hf rfl) rfl hf rfl rfl fun a hf => ?_
        refine op_val (ex_load1 (o := 2) ag_31 (hO.blkSees (i := 5) rfl) rfl hf rfl) rfl hf rfl rfl fun a hf => ?_
        refine op_val (ex_len_l Tryz.underlying31 hf rfl) rfl hf rfl rfl fun a hf => ?_
        refine op_val (ex_lss (m := i14) (n := (x_a0.Attrs.length : Int)) hf rfl rfl) rfl hf rfl rfl fun a hf => ?_
        refine wpList_nil ?_
        refine nor_then (hK15 _ _ ?_)
        refine wp_cond_cut hf rfl (fun hc16 => ?_) (fun hc16 => ?_)
        · have hm := it hc16 hm
          refine wp_skip ?_
          refine nor_then (hK17 _ _ ?_)
          refine wp_seq_cut (fun a w => ∃ (p37 : Option Addr) (c38 : Nat) (l39 : List api_Attr), Fits 66 [(1, str x_a1), (2, str x_a2), (3, ptr b1 0), (6, ptr b2 0), (7, int r4), (8, ptr b6 0), (9, int i14)] a ∧ Dk.Own w0 [] w [.row (.slice p37 l39.length c38) 66 3 l39.length (cells enc_api_Attr l39), .row (.slice none 0 0) 66 3 0 (cells enc_api_Attr []), .blk b6 [str s12, str s13, .slice p37 l39.length c38] 33, .row (.slice none 0 0) 66 3 0 (cells enc_api_Attr []), .blk b2 [str [], str [], .slice none 0 0] 33, .blk b1 [str x_a0.Name, str x_a0.Value, .slice x_a0_p0 x_a0.Attrs.length x_a0_c0] 33, .shr x_a0_p0 (cells enc_api_Attr x_a0.Attrs)] ∧ ref28_Set_j2 (ref28_Set_L1 x_a0 x_a1 x_a2 r4 n1) s12 s13 i14 l39 = some R) ?_ ?_
          · refine wp_block ?_
            refine wp_seq_k fun _ hK22 => ?_
            refine wp_region_list ?_
            refine op_val (ex_field fa_33_2 hf rfl) rfl hf rfl rfl fun a hf => ?_
            refine op_val (ex_load1 (o := 2) ag_31 (hO.blkSees (i := 5) rfl) rfl hf rfl) rfl hf rfl rfl fun a hf => ?_
            refine op_val (ex_move hf rfl) rfl hf rfl rfl fun a hf => ?_
            obtain ⟨x18, hx18, hm⟩ := ob hm
            obtain ⟨b19, o20, hix18, hSx18⟩ := elemAt (enc := enc_api_Attr) (sz := 3) (xs := x_a0.Attrs) 31 Tryz.underlying31 sz_66 (by decide) (fun _ => rfl) (hO.sees (i := 6) rfl) hx18
            refine op_val (ex_indexAddr hix18 hf rfl rfl) rfl hf rfl rfl fun a hf => ?_
            refine op_val (ex_loadN (o := 0) (vs := [str x18.Name, str x18.Value, .bool x18.Has]) ag_66 sz_66 (hSx18 _ (hO.sees (i := 6) rfl)) rfl rfl hf rfl) rfl hf rfl rfl fun a hf => ?_
            refine op_alloc al_66 hf rfl hO fun a b21 w hf hO => ?_
            refine op_storeN (i := 0) (n := 3) sz_66 rfl rfl rfl (by simp [Value.oneCell']) hf rfl rfl hO fun w hO => ?_
            refine wpList_nil ?_
            refine nor_then (hK22 _ _ ?_)
            refine wp_seq_k fun _ hK23 => ?_
            refine wp_region_list ?_
            refine op_val (ex_move hf rfl) rfl hf rfl rfl fun a hf => ?_
            refine op_val (ex_move hf rfl) rfl hf rfl rfl fun a hf => ?_
            refine op_val (ex_eql (m := i14) (n := r4) hf rfl rfl) rfl hf rfl rfl fun a hf => ?_
            refine wpList_nil ?_
            refine nor_then (hK23 _ _ ?_)
            refine wp_cond_cut hf rfl (fun hc24 => ?_) (fun hc24 => ?_)
            · have hm := it hc24 hm
              refine wp_region_list ?_
              refine op_val (ex_field fa_33_2 hf rfl) rfl hf rfl rfl fun a hf => ?_
              refine op_val (ex_load1 (o := 2) ag_31 (hO.blkSees (i := 3) rfl) rfl hf rfl) rfl hf rfl rfl fun a hf => ?_
              refine op_val (ex_field fa_66_0 hf rfl) rfl hf rfl rfl fun a hf => ?_
              refine op_val (ex_load1 (o := 0) ag_9 (hO.blkSees (i := 0) rfl) rfl hf rfl) rfl hf rfl rfl fun a hf => ?_
              refine op_val (ex_move hf rfl) rfl hf rfl rfl fun a hf => ?_
              refine op_val (ex_build (vs := [(0, str x18.Name), (1, str x_a2), (2, .bool true)]) (v := .agg #[str x18.Name, str x_a2, .bool true]) hf rfl (by kernel_rfl)) rfl hf rfl rfl fun a hf => ?_
              refine op_buildSlice (vs := [(0, .agg #[str x18.Name, str x_a2, .bool true])]) (cs := [str x18.Name, str x_a2, .bool true]) (e := 66) (sz := 3) hf rfl rfl (fun w => by kernel_rfl) rfl rfl hO fun a b25 w hf hO => ?_
              obtain ⟨hg28, hm⟩ := og hm
              refine op_appendT el_31 (enc := enc_api_Attr) (xs := l11) (ys := [(⟨x18.Name, x_a2, true⟩ : api_Attr)]) (i := 2) (fun _ => rfl) rfl (hO.rowSees (i := 0) rfl) (by simp [cells, enc_api_Attr, Value.oneCell']) hg28 hf rfl rfl rfl hO fun a p26 c27 w hf hO => ?_
              refine op_val (ex_field fa_33_2 hf rfl) rfl hf rfl rfl fun a hf => ?_
              refine op_store1 (i := 4) (o := 2) (v := .slice p26 ((l11 ++ [(⟨x18.Name, x_a2, true⟩ : api_Attr)]).length) c27) sz_31 rfl rfl rfl rfl hf rfl rfl hO fun w hO => ?_
              refine wpList_nil ?_
              refine nor_block ?_
              refine nor_then ?_
              exact ⟨p26, c27, l11 ++ [(⟨x18.Name, x_a2, true⟩ : api_Attr)], (hf.cons rfl (hf.cons rfl (hf.cons rfl (hf.cons rfl (hf.cons rfl (hf.cons rfl (hf.cons rfl hf.nil))))))), (hO.sub (.cons _ (.cons _ (.cons_cons _ (.cons_cons _ (.cons_cons _ (.cons_cons _ (.cons_cons _ (.cons_cons _ (.cons_cons _ .slnil)))))))))), hm⟩
            · have hm := ie hc24 hm
              refine wp_seq_k fun _ hK31 => ?_
              refine wp_region_list ?_
              refine op_val (ex_field fa_66_0 hf rfl) rfl hf rfl rfl fun a hf => ?_
              refine op_val (ex_load1 (o := 0) ag_9 (hO.blkSees (i := 0) rfl) rfl hf rfl) rfl hf rfl rfl fun a hf => ?_
              obtain ⟨r29, hr29, hm⟩ := ob hm
              refine op_enter (ex_call c_55 hf (vs := [str x18.Name]) rfl) rfl hf rfl rfl (w_ref01_Fold x18.Name r29 _ (hG.own hF hO) hr29) ?_
              rintro e w' ⟨he, hb⟩
              refine ⟨_, he, fun a hf => ?_⟩
              have hO := hO.grow hb
              refine op_val (ex_move hf rfl) rfl hf rfl rfl fun a hf => ?_
              obtain ⟨r30, hr30, hm⟩ := ob hm
              refine op_enter (ex_call c_55 hf (vs := [str x_a1]) rfl) rfl hf rfl rfl (w_ref01_Fold x_a1 r30 _ (hG.own hF hO) hr30) ?_
              rintro e w' ⟨he, hb⟩
              refine ⟨_, he, fun a hf => ?_⟩
              have hO := hO.grow hb
              refine op_val (ex_neq_s (l := r29) (m := r30) hf rfl rfl) rfl hf rfl rfl fun a hf => ?_
              refine wpList_nil ?_
              refine nor_then (hK31 _ _ ?_)
              refine wp_cond_cut hf rfl (fun hc32 => ?_) (fun hc32 => ?_)
              · have hm := it hc32 hm
                refine wp_region_list ?_
                refine op_val (ex_field fa_33_2 hf rfl) rfl hf rfl rfl fun a hf => ?_
                refine op_val (ex_load1 (o := 2) ag_31 (hO.blkSees (i := 3) rfl) rfl hf rfl) rfl hf rfl rfl fun a hf => ?_
                refine op_val (ex_loadN (o := 0) (vs := [str x18.Name, str x18.Value, .bool x18.Has]) ag_66 sz_66 (hO.blkSees (i := 0) rfl) rfl rfl hf rfl) rfl hf rfl rfl fun a hf => ?_
                refine op_buildSlice (vs := [(0, .agg #[str x18.Name, str x18.Value, .bool x18.Has])]) (cs := [str x18.Name, str x18.Value, .bool x18.Has]) (e := 66) (sz := 3) hf rfl rfl (fun w => by kernel_rfl) rfl rfl hO fun a b33 w hf hO => ?_
                obtain ⟨hg36, hm⟩ := og hm
                refine op_appendT el_31 (enc := enc_api_Attr) (xs := l11) (ys := [x18]) (i := 2) (fun _ => rfl) rfl (hO.rowSees (i := 0) rfl) (by simp [cells, enc_api_Attr, Value.oneCell']) hg36 hf rfl rfl rfl hO fun a p34 c35 w hf hO => ?_
                refine op_val (ex_field fa_33_2 hf rfl) rfl hf rfl rfl fun a hf => ?_
                refine op_store1 (i := 4) (o := 2) (v := .slice p34 ((l11 ++ [x18]).length) c35) sz_31 rfl rfl rfl rfl hf rfl rfl hO fun w hO => ?_
                refine wpList_nil ?_
                refine nor_block ?_
                refine nor_then ?_
                exact ⟨p34, c35, l11 ++ [x18], (hf.cons rfl (hf.cons rfl (hf.cons rfl (hf.cons rfl (hf.cons rfl (hf.cons rfl (hf.cons rfl hf.nil))))))), (hO.sub (.cons _ (.cons _ (.cons_cons _ (.cons_cons _ (.cons_cons _ (.cons_cons _ (.cons_cons _ (.cons_cons _ (.cons_cons _ .slnil)))))))))), hm⟩
              · have hm := ie hc32 hm
                refine wp_skip ?_
                refine nor_block ?_
                refine nor_then ?_
                exact ⟨p9, c10, l11, (hf.cons rfl (hf.cons rfl (hf.cons rfl (hf.cons rfl (hf.cons rfl (hf.cons rfl (hf.cons rfl hf.nil))))))), (hO.sub (.cons _ (.cons_cons _ (.cons_cons _ (.cons_cons _ (.cons_cons _ (.cons_cons _ (.cons_cons _ (.cons_cons _ .slnil))))))))), hm⟩
          · rintro a w ⟨p37, c38, l39, hf, hO, hm⟩
            rw [ref28_Set_j2] at hm
            refine wp_region_list ?_
            refine op_val (ex_move hf rfl) rfl hf rfl rfl fun a hf => ?_
            obtain ⟨i40, hi40, hm⟩ := ob hm
            refine op_val (ex_add hf rfl rfl hi40) rfl hf rfl rfl fun a hf => ?_
            refine op_val (ex_assign hf rfl) rfl hf rfl rfl fun a hf => ?_
            refine wpList_nil ?_
            refine nor_then ?_
            exact ⟨_, Nat.lt_succ_self _, p37, c38, l39, s12, s13, i40, (hf.cons rfl (hf.cons rfl (hf.cons rfl (hf.cons rfl (hf.cons rfl (hf.cons rfl (hf.cons rfl hf.nil))))))), hO, hm⟩
        · have hm := ie hc16 hm
          refine wp_exit ?_
          refine exit_then ?_
          refine exit_then ?_
          refine exit_here ?_
          refine nor_then ?_
          exact ⟨p9, c10, l11, s12, s13, (hf.cons rfl (hf.cons rfl (hf.cons rfl (hf.cons rfl (hf.cons rfl hf.nil))))), hO, hm⟩
    · exact ⟨none, 0, [], x_a0.Name, x_a0.Value, 0, (hf.cons rfl (hf.cons rfl (hf.cons rfl (hf.cons rfl (hf.cons rfl (hf.cons rfl (hf.cons rfl hf.nil))))))), hO, hm⟩
  · rintro a w ⟨p41, c42, l43, s44, s45, hf, hO, hm⟩
    rw [ref28_Set_j3] at hm
    refine wp_seq_cut (fun a w => ∃ (p52 : Option Addr) (c53 : Nat) (l54 : List api_Attr), Fits 66 [(6, ptr b2 0), (8, ptr b6 0)] a ∧ Dk.Own w0 [] w [.row (.slice p52 l54.length c53) 66 3 l54.length (cells enc_api_Attr l54), .row (.slice none 0 0) 66 3 0 (cells enc_api_Attr []), .blk b6 [str s44, str s45, .slice p52 l54.length c53] 33, .row (.slice none 0 0) 66 3 0 (cells enc_api_Attr []), .blk b2 [str [], str [], .slice none 0 0] 33, .blk b1 [str x_a0.Name, str x_a0.Value, .slice x_a0_p0 x_a0.Attrs.length x_a0_c0] 33, .shr x_a0_p0 (cells enc_api_Attr x_a0.Attrs)] ∧ ref28_Set_j4 s44 s45 l54 = some R) ?_ ?_
    · refine wp_seq_k fun _ hK46 => ?_
      refine wp_region_list ?_
      refine op_val (ex_move hf rfl) rfl hf rfl rfl fun a hf => ?_
      refine op_val (ex_lss (m := r4) (n := 0) hf rfl rfl) rfl hf rfl rfl fun a hf => ?_
      refine wpList_nil ?_
      refine nor_then (hK46 _ _ ?_)
      refine wp_cond_cut hf rfl (fun hc47 => ?_) (fun hc47 => ?_)
      · have hm := it hc47 hm
        refine wp_region_list ?_
        refine op_val (ex_field fa_33_2 hf rfl) rfl hf rfl rfl fun a hf => ?_
        refine op_val (ex_load1 (o := 2) ag_31 (hO.blkSees (i := 2) rfl) rfl hf rfl) rfl hf rfl rfl fun a hf => ?_
        refine op_val (ex_move hf rfl) rfl hf rfl rfl fun a hf => ?_
        refine op_val (ex_move hf rfl) rfl hf rfl rfl fun a hf => ?_
        refine op_val (ex_build (vs := [(0, str x_a1), (1, str x_a2), (2, .bool true)]) (v := .agg #[str x_a1, str x_a2, .bool true]) hf rfl (by kernel_rfl)) rfl hf rfl rfl fun a hf => ?_
        refine op_buildSlice (vs := [(0, .agg #[str x_a1, str x_a2, .bool true])]) (cs := [str x_a1, str x_a2, .bool true]) (e := 66) (sz := 3) hf rfl rfl (fun w => by kernel_rfl) rfl rfl hO fun a b48 w hf hO => ?_
        obtain ⟨hg51, hm⟩ := og hm
        refine op_appendT el_31 (enc := enc_api_Attr) (xs := l43) (ys := [(⟨x_a1, x_a2, true⟩ : api_Attr)]) (i := 1) (fun _ => rfl) rfl (hO.rowSees (i := 0) rfl) (by simp [cells, enc_api_Attr, Value.oneCell']) hg51 hf rfl rfl rfl hO fun a p49 c50 w hf hO => ?_
        refine op_val (ex_field fa_33_2 hf rfl) rfl hf rfl rfl fun a hf => ?_
        refine op_store1 (i := 3) (o := 2) (v := .slice p49 ((l43 ++ [(⟨x_a1, x_a2, true⟩ : api_Attr)]).length) c50) sz_31 rfl rfl rfl rfl hf rfl rfl hO fun w hO => ?_
        refine wpList_nil ?_
        refine nor_then ?_
        exact ⟨p49, c50, l43 ++ [(⟨x_a1, x_a2, true⟩ : api_Attr)], (hf.cons rfl (hf.cons rfl hf.nil)), (hO.sub (.cons _ (.cons_cons _ (.cons_cons _ (.cons_cons _ (.cons_cons _ (.cons_cons _ (.cons_cons _ (.cons_cons _ .slnil))))))))), hm⟩
      · have hm := ie hc47 hm
        refine wp_skip ?_
        refine nor_then ?_
        exact ⟨p41, c42, l43, (hf.cons rfl (hf.cons rfl hf.nil)), hO, hm⟩
    · rintro a w ⟨p52, c53, l54, hf, hO, hm⟩
      rw [ref28_Set_j4] at hm
      refine wp_seq_k fun _ hK55 => ?_
      refine wp_region_list ?_
      refine op_val (ex_loadN (o := 0) (vs := [str s44, str s45, .slice p52 l54.length c53]) ag_33 sz_33 (hO.blkSees (i := 2) rfl) rfl rfl hf rfl) rfl hf rfl rfl fun a hf => ?_
      refine op_storeN (i := 4) (n := 3) sz_33 rfl rfl rfl (by simp [Value.oneCell']) hf rfl rfl hO fun w hO => ?_
      refine wpList_nil ?_
      refine nor_then (hK55 _ _ ?_)
      refine wp_ret ?_
      obtain rfl := Option.some.inj hm
      exact post_ret Tryz.results31 hf (.cell rfl (run_loadVarN (n := 3) (vs := [str s44, str s45, .slice p52 l54.length c53]) ag_33 sz_33 rfl ((hO.blkSees (i := 4) rfl).cells (o := 0) (n := 3) rfl)) .nil) ⟨p52, c53, rfl, (hO.sub (.cons_cons _ (.cons _ (.cons _ (.cons _ (.cons _ (.cons _ (.cons _ .slnil))))))))⟩

set_option maxHeartbeats 1000000 in
theorem w_ref18_Same (x_a : List api_Attr) (x_b : List api_Attr) (R : Bool) (w0 : World) (hG : Glob w0) {x_a_p0 : Option Addr} {x_a_c0 : Nat} (hs0 : Sees w0 x_a_p0 (cells enc_api_Attr x_a)) (hc0 : x_a.length ≤ x_a_c0) {x_b_p1 : Option Addr} {x_b_c1 : Nat} (hs1 : Sees w0 x_b_p1 (cells enc_api_Attr x_b)) (hc1 : x_b.length ≤ x_b_c1) (hm : ref18_Same x_a x_b = some R) :
    Calls Tryz.prog 42 #[.slice x_a_p0 x_a.length x_a_c0, .slice x_b_p1 x_b.length x_b_c1] w0 fun e w' => e = .returned (.bool R) ∧ Below w0.heap.size w0 w' := by
  rw [ref18_Same] at hm
  refine calls_enter (vs := [.slice x_a_p0 x_a.length x_a_c0, .slice x_b_p1 x_b.length x_b_c1]) Tryz.func42 rfl Tryz.ntmps42 rfl fun a hf => ?_
  have hF : Away [] := away_nil
  have hO : Dk.Own w0 [] w0 [] := Dk.Own.refl w0
  have hO := hO.addShr hs0 (by simp [Res.shared])
  have hO := hO.addShr hs1 (by simp [Res.shared])
  refine wp_seq_k fun _ hK1 => ?_
  refine wp_region_list ?_
  refine op_val (ex_assign hf rfl) rfl hf rfl rfl fun a hf => ?_
  refine wpList_nil ?_
  refine nor_then (hK1 _ _ ?_)
  refine wp_seq_k fun _ hK5 => ?_
  refine wp_seq_k fun _ hK2 => ?_
  refine wp_region_list ?_
  refine op_val (ex_move hf rfl) rfl hf rfl rfl fun a hf => ?_
  refine op_val (ex_len_l Tryz.underlying31 hf rfl) rfl hf rfl rfl fun a hf => ?_
  refine op_val (ex_move hf rfl) rfl hf rfl rfl fun a hf => ?_
  refine op_val (ex_len_l Tryz.underlying31 hf rfl) rfl hf rfl rfl fun a hf => ?_
  refine op_val (ex_neq (m := (x_a.length : Int)) (n := (x_b.length : Int)) hf rfl rfl) rfl hf rfl rfl fun a hf => ?_
  refine wpList_nil ?_
  refine nor_then (hK2 _ _ ?_)
  refine wp_cond_cut hf rfl (fun hc3 => ?_) (fun hc3 => ?_)
  · have hm := it hc3 hm
    refine wp_seq_k fun _ hK4 => ?_
    refine wp_region_list ?_
    refine op_val (ex_assign hf rfl) rfl hf rfl rfl fun a hf => ?_
    refine wpList_nil ?_
    refine nor_then (hK4 _ _ ?_)
    refine wp_ret ?_
    refine ret_then ?_
    obtain rfl := Option.some.inj hm
    exact post_ret Tryz.results42 hf (.tmp rfl .nil) ⟨rfl, hO.below⟩
  · have hm := ie hc3 hm
    refine wp_skip ?_
    refine nor_then (hK5 _ _ ?_)
    refine wp_seq_k fun _ hK22 => ?_
    refine wp_seq_k fun _ hK6 => ?_
    refine wp_region_list ?_
    refine op_val (ex_assign hf rfl) rfl hf rfl rfl fun a hf => ?_
    refine wpList_nil ?_
    refine nor_then (hK6 _ _ ?_)
    refine wp_block ?_
    refine wp_loop_n (fun k a w => ∃ (i7 : Int), Fits 26 [(0, .slice x_a_p0 x_a.length x_a_c0), (1, .slice x_b_p1 x_b.length x_b_c1), (5, int i7)] a ∧ Dk.Own w0 [] w [.shr x_b_p1 (cells enc_api_Attr x_b), .shr x_a_p0 (cells enc_api_Attr x_a)] ∧ ref18_Same_L1 x_a x_b k i7 = some R) ?_ fuel ?_
    · rintro n1 a w ⟨i7, hf, hO, hm⟩
      obtain _ | n1 := n1
      · rw [ref18_Same_L1] at hm
        cases hm
      · rw [ref18_Same_L1] at hm
        refine wp_seq_k fun _ hK10 => ?_
        refine wp_seq_k fun _ hK8 => ?_
        refine wp_region_list ?_
        refine op_val (ex_move hf rfl) rfl hf rfl rfl fun a hf => ?_
        refine op_val (ex_move hf rfl) rfl hf rfl rfl fun a hf => ?_
        refine op_val (ex_len_l Tryz.underlying31 hf rfl) rfl hf rfl rfl fun a hf => ?_
        refine op_val (ex_lss (m := i7) (n := (x_a.length : Int)) hf rfl rfl) rfl hf rfl rfl fun a hf => ?_
        refine wpList_nil ?_
        refine nor_then (hK8 _ _ ?_)
        refine wp_cond_cut hf rfl (fun hc9 => ?_) (fun hc9 => ?_)
        · have hm := it hc9 hm
          refine wp_skip ?_
          refine nor_then (hK10 _ _ ?_)
          refine wp_seq_k fun _ hK20 => ?_
          refine wp_block ?_
          refine wp_seq_k fun _ hK17 => ?_
          refine wp_quiet (by kernel_rfl) (by kernel_rfl) hO ?_
          refine q_val (fun w hO => ex_move hf rfl) rfl hf rfl rfl fun a hf => ?_
          refine q_val (fun w hO => ex_move hf rfl) rfl hf rfl rfl fun a hf => ?_
          obtain ⟨x11, hx11, hm⟩ := ob hm
          obtain ⟨b12, o13, hix11, hSx11⟩ := elemAt (enc := enc_api_Attr) (sz := 3) (xs := x_a) 31 Tryz.underlying31 sz_66 (by decide) (fun _ => rfl) (hO.sees (i := 1) rfl) hx11
          refine q_val (fun w hO => ex_indexAddr hix11 hf rfl rfl) rfl hf rfl rfl fun a hf => ?_
          refine q_val (fun w hO => ex_loadN (o := 0) (vs := [str x11.Name, str x11.Value, .bool x11.Has]) ag_66 sz_66 (hSx11 _ (hO.sees (i := 1) rfl)) rfl rfl hf rfl) rfl hf rfl rfl fun a hf => ?_
          refine q_val (fun w hO => ex_move hf rfl) rfl hf rfl rfl fun a hf => ?_
          refine q_val (fun w hO => ex_move hf rfl) rfl hf rfl rfl fun a hf => ?_
          obtain ⟨x14, hx14, hm⟩ := ob hm
          obtain ⟨b15, o16, hix14, hSx14⟩ := elemAt (enc := enc_api_Attr) (sz := 3) (xs := x_b) 31 Tryz.underlying31 sz_66 (by decide) (fun _ => rfl) (hO.sees (i := 0) rfl) hx14
          refine q_val (fun w hO => ex_indexAddr hix14 hf rfl rfl) rfl hf rfl rfl fun a hf => ?_
          refine q_val (fun w hO => ex_loadN (o := 0) (vs := [str x14.Name, str x14.Value, .bool x14.Has]) ag_66 sz_66 (hSx14 _ (hO.sees (i := 0) rfl)) rfl rfl hf rfl) rfl hf rfl rfl fun a hf => ?_
          refine q_val (fun w hO => ex_neq_t (by kernel_rfl) (eq_66 x11 x14) hf rfl rfl) rfl hf rfl rfl fun a hf => ?_
          refine wpQuiet_nil ?_
          intro w hO
          refine nor_then (hK17 _ _ ?_)
          refine wp_cond_cut hf rfl (fun hc18 => ?_) (fun hc18 => ?_)
          · have hm := it hc18 hm
            refine wp_seq_k fun _ hK19 => ?_
            refine wp_region_list ?_
            refine op_val (ex_assign hf rfl) rfl hf rfl rfl fun a hf => ?_
            refine wpList_nil ?_
            refine nor_then (hK19 _ _ ?_)
            refine wp_ret ?_
            refine ret_block ?_
            refine ret_then ?_
            refine ret_then ?_
            refine ret_block ?_
            refine ret_then ?_
            obtain rfl := Option.some.inj hm
            exact post_ret Tryz.results42 hf (.tmp rfl .nil) ⟨rfl, hO.below⟩
          · have hm := ie hc18 hm
            refine wp_skip ?_
            refine nor_block ?_
            refine nor_then (hK20 _ _ ?_)
            refine wp_region_list ?_
            refine op_val (ex_move hf rfl) rfl hf rfl rfl fun a hf => ?_
            obtain ⟨i21, hi21, hm⟩ := ob hm
            refine op_val (ex_add hf rfl rfl hi21) rfl hf rfl rfl fun a hf => ?_
            refine op_val (ex_assign hf rfl) rfl hf rfl rfl fun a hf => ?_
            refine wpList_nil ?_
            refine nor_then ?_
            exact ⟨_, Nat.lt_succ_self _, i21, (hf.cons rfl (hf.cons rfl (hf.cons rfl hf.nil))), hO, hm⟩
        · have hm := ie hc9 hm
          refine wp_exit ?_
          refine exit_then ?_
          refine exit_then ?_
          refine exit_here ?_
          refine nor_then (hK22 _ _ ?_)
          refine wp_seq_k fun _ hK23 => ?_
          refine wp_region_list ?_
          refine op_val (ex_assign hf rfl) rfl hf rfl rfl fun a hf => ?_
          refine wpList_nil ?_
          refine nor_then (hK23 _ _ ?_)
          refine wp_ret ?_
          obtain rfl := Option.some.inj hm
          exact post_ret Tryz.results42 hf (.tmp rfl .nil) ⟨rfl, hO.below⟩
    · exact ⟨0, (hf.cons rfl (hf.cons rfl (hf.cons rfl hf.nil))), hO, hm⟩

set_option maxHeartbeats 1000000 in
theorem w_ref28_Same (x_a : api_Cookie) (x_b : api_Cookie) (R : Bool) (w0 : World) (hG : Glob w0) {x_a_p0 : Option Addr} {x_a_c0 : Nat} (hs0 : Sees w0 x_a_p0 (cells enc_api_Attr x_a.Attrs)) (hc0 : x_a.Attrs.length ≤ x_a_c0) {x_b_p1 : Option Addr} {x_b_c1 : Nat} (hs1 : Sees w0 x_b_p1 (cells enc_api_Attr x_b.Attrs)) (hc1 : x_b.Attrs.length ≤ x_b_c1) (hm : ref28_Same x_a x_b = some R) :
    Calls Tryz.prog 16 #[.agg #[str x_a.Name, str x_a.Value, .slice x_a_p0 x_a.Attrs.length x_a_c0], .agg #[str x_b.Name, str x_b.Value, .slice x_b_p1 x_b.Attrs.length x_b_c1]] w0 fun e w' => e = .returned (.bool R) ∧ Below w0.heap.size w0 w' := by
  rw [ref28_Same] at hm
  refine calls_enter (vs := [.agg #[str x_a.Name, str x_a.Value, .slice x_a_p0 x_a.Attrs.length x_a_c0], .agg #[str x_b.Name, str x_b.Value, .slice x_b_p1 x_b.Attrs.length x_b_c1]]) Tryz.func16 rfl Tryz.ntmps16 rfl fun a hf => ?_
  have hF : Away [] := away_nil
  have hO : Dk.Own w0 [] w0 [] := Dk.Own.refl w0
  have hO := hO.addShr hs0 (by simp [Res.shared])
  have hO := hO.addShr hs1 (by simp [Res.shared])
  refine wp_seq_k fun _ hK3 => ?_
  refine wp_region_list ?_
  refine op_box (v := .agg #[str x_a.Name, str x_a.Value, .slice x_a_p0 x_a.Attrs.length x_a_c0]) (cs := [str x_a.Name, str x_a.Value, .slice x_a_p0 x_a.Attrs.length x_a_c0]) rfl hf rfl rfl hO fun a b1 w hf hO => ?_
  refine op_box (v := .agg #[str x_b.Name, str x_b.Value, .slice x_b_p1 x_b.Attrs.length x_b_c1]) (cs := [str x_b.Name, str x_b.Value, .slice x_b_p1 x_b.Attrs.length x_b_c1]) rfl hf rfl rfl hO fun a b2 w hf hO => ?_
  refine op_val (ex_assign hf rfl) rfl hf rfl rfl fun a hf => ?_
  refine wpList_nil ?_
  refine nor_then (hK3 _ _ ?_)
  refine wp_seq_cut (fun a w => ∃ (t7 : Bool), Fits 24 [(4, .bool t7)] a ∧ Dk.Own w0 [] w [.blk b2 [str x_b.Name, str x_b.Value, .slice x_b_p1 x_b.Attrs.length x_b_c1] 33, .blk b1 [str x_a.Name, str x_a.Value, .slice x_a_p0 x_a.Attrs.length x_a_c0] 33, .shr x_b_p1 (cells enc_api_Attr x_b.Attrs), .shr x_a_p0 (cells enc_api_Attr x_a.Attrs)] ∧ ref28_Same_j1 t7 = some R) ?_ ?_
  · refine wp_region_list ?_
    refine op_val (ex_field fa_33_0 hf rfl) rfl hf rfl rfl fun a hf => ?_
    refine op_val (ex_load1 (o := 0) ag_9 (hO.blkSees (i := 1) rfl) rfl hf rfl) rfl hf rfl rfl fun a hf => ?_
    refine op_val (ex_field fa_33_0 hf rfl) rfl hf rfl rfl fun a hf => ?_
    refine op_val (ex_load1 (o := 0) ag_9 (hO.blkSees (i := 0) rfl) rfl hf rfl) rfl hf rfl rfl fun a hf => ?_
    refine op_val (ex_eql_s (l := x_a.Name) (m := x_b.Name) hf rfl rfl) rfl hf rfl rfl fun a hf => ?_
    refine op_val (ex_move hf rfl) rfl hf rfl rfl fun a hf => ?_
    rcases bcase (x_a.Name == x_b.Name) with hc4 | hc4
    · have hm := it hc4 hm
      refine op_guard rfl hf rfl rfl (hc4) ?_
      refine op_val (ex_field fa_33_1 hf rfl) rfl hf rfl rfl fun a hf => ?_
      refine op_guard rfl hf rfl rfl (hc4) ?_
      refine op_val (ex_load1 (o := 1) ag_9 (hO.blkSees (i := 1) rfl) rfl hf rfl) rfl hf rfl rfl fun a hf => ?_
      refine op_guard rfl hf rfl rfl (hc4) ?_
      refine op_val (ex_field fa_33_1 hf rfl) rfl hf rfl rfl fun a hf => ?_
      refine op_guard rfl hf rfl rfl (hc4) ?_
      refine op_val (ex_load1 (o := 1) ag_9 (hO.blkSees (i := 0) rfl) rfl hf rfl) rfl hf rfl rfl fun a hf => ?_
      refine op_guard rfl hf rfl rfl (hc4) ?_
      refine op_val (ex_eql_s (l := x_a.Value) (m := x_b.Value) hf rfl rfl) rfl hf rfl rfl fun a hf => ?_
      refine op_val (ex_pick_t hf rfl hc4 rfl) rfl hf rfl rfl fun a hf => ?_
      refine op_val (ex_move hf rfl) rfl hf rfl rfl fun a hf => ?_
      rcases bcase (x_a.Value == x_b.Value) with hc5 | hc5
      · have hm := it hc5 hm
        refine op_guard rfl hf rfl rfl (hc5) ?_
        refine op_val (ex_field fa_33_2 hf rfl) rfl hf rfl rfl fun a hf => ?_
        refine op_guard rfl hf rfl rfl (hc5) ?_
        refine op_val (ex_load1 (o := 2) ag_31 (hO.blkSees (i := 1) rfl) rfl hf rfl) rfl hf rfl rfl fun a hf => ?_
        refine op_guard rfl hf rfl rfl (hc5) ?_
        refine op_val (ex_field fa_33_2 hf rfl) rfl hf rfl rfl fun a hf => ?_
        refine op_guard rfl hf rfl rfl (hc5) ?_
        refine op_val (ex_load1 (o := 2) ag_31 (hO.blkSees (i := 0) rfl) rfl hf rfl) rfl hf rfl rfl fun a hf => ?_
        refine op_guard rfl hf rfl rfl (hc5) ?_
        obtain ⟨r6, hr6, hm⟩ := ob hm
        refine op_enter (ex_call c_42 hf (vs := [.slice x_a_p0 x_a.Attrs.length x_a_c0, .slice x_b_p1 x_b.Attrs.length x_b_c1]) rfl) rfl hf rfl rfl (w_ref18_Same x_a.Attrs x_b.Attrs r6 _ (hG.own hF hO) (hO.sees (i := 3) rfl) hc0 (hO.sees (i := 2) rfl) hc1 hr6) ?_
        rintro e w' ⟨he, hb⟩
        refine ⟨_, he, fun a hf => ?_⟩
        have hO := hO.grow hb
        refine op_val (ex_pick_t hf rfl hc5 rfl) rfl hf rfl rfl fun a hf => ?_
        refine op_val (ex_assign hf rfl) rfl hf rfl rfl fun a hf => ?_
        refine wpList_nil ?_
        refine nor_then ?_
        exact ⟨r6, (hf.cons rfl hf.nil), hO, hm⟩
      · have hm := ie hc5 hm
        refine op_pass rfl hf rfl rfl (hc5) rfl rfl fun a hf => ?_
        refine op_pass rfl hf rfl rfl (hc5) rfl rfl fun a hf => ?_
        refine op_pass rfl hf rfl rfl (hc5) rfl rfl fun a hf => ?_
        refine op_pass rfl hf rfl rfl (hc5) rfl rfl fun a hf => ?_
        refine op_pass rfl hf rfl rfl (hc5) rfl rfl fun a hf => ?_
        refine op_val (ex_pick_f hf rfl hc5 rfl) rfl hf rfl rfl fun a hf => ?_
        refine op_val (ex_assign hf rfl) rfl hf rfl rfl fun a hf => ?_
        refine wpList_nil ?_
        refine nor_then ?_
        exact ⟨false, (hf.cons rfl hf.nil), hO, hm⟩
    · have hm := ie hc4 hm
      refine op_pass rfl hf rfl rfl (hc4) rfl rfl fun a hf => ?_
      refine op_pass rfl hf rfl rfl (hc4) rfl rfl fun a hf => ?_
      refine op_pass rfl hf rfl rfl (hc4) rfl rfl fun a hf => ?_
      refine op_pass rfl hf rfl rfl (hc4) rfl rfl fun a hf => ?_
      refine op_pass rfl hf rfl rfl (hc4) rfl rfl fun a hf => ?_
      refine op_val (ex_pick_f hf rfl hc4 rfl) rfl hf rfl rfl fun a hf => ?_
      refine op_val (ex_move hf rfl) rfl hf rfl rfl fun a hf => ?_
      refine op_pass rfl hf rfl rfl (rfl) rfl rfl fun a hf => ?_
      refine op_pass rfl hf rfl rfl (rfl) rfl rfl fun a hf => ?_
      refine op_pass rfl hf rfl rfl (rfl) rfl rfl fun a hf => ?_
      refine op_pass rfl hf rfl rfl (rfl) rfl rfl fun a hf => ?_
      refine op_pass rfl hf rfl rfl (rfl) rfl rfl fun a hf => ?_
      refine op_val (ex_pick_f hf rfl rfl rfl) rfl hf rfl rfl fun a hf => ?_
      refine op_val (ex_assign hf rfl) rfl hf rfl rfl fun a hf => ?_
      refine wpList_nil ?_
      refine nor_then ?_
      exact ⟨false, (hf.cons rfl hf.nil), hO, hm⟩
  · rintro a w ⟨t7, hf, hO, hm⟩
    rw [ref28_Same_j1] at hm
    refine wp_ret ?_
    obtain rfl := Option.some.inj hm
    exact post_ret Tryz.results16 hf (.tmp rfl .nil) ⟨rfl, hO.below⟩

set_option maxHeartbeats 1000000 in
theorem w_ref28_Text (x_c : api_Cookie) (R : Str × Int) (w0 : World) (hG : Glob w0) {x_c_p0 : Option Addr} {x_c_c0 : Nat} (hs0 : Sees w0 x_c_p0 (cells enc_api_Attr x_c.Attrs)) (hc0 : x_c.Attrs.length ≤ x_c_c0) (hm : ref28_Text x_c = some R) :
    Calls Tryz.prog 30 #[.agg #[str x_c.Name, str x_c.Value, .slice x_c_p0 x_c.Attrs.length x_c_c0]] w0 fun e w' => e = .returned (.tuple #[str R.1, int R.2]) ∧ Below w0.heap.size w0 w' := by
  rw [ref28_Text] at hm
  refine calls_enter (vs := [.agg #[str x_c.Name, str x_c.Value, .slice x_c_p0 x_c.Attrs.length x_c_c0]]) Tryz.func30 rfl Tryz.ntmps30 rfl fun a hf => ?_
  have hF : Away [] := away_nil
  have hO : Dk.Own w0 [] w0 [] := Dk.Own.refl w0
  have hO := hO.addShr hs0 (by simp [Res.shared])
  refine wp_seq_k fun _ hK2 => ?_
  refine wp_region_list ?_
  refine op_box (v := .agg #[str x_c.Name, str x_c.Value, .slice x_c_p0 x_c.Attrs.length x_c_c0]) (cs := [str x_c.Name, str x_c.Value, .slice x_c_p0 x_c.Attrs.length x_c_c0]) rfl hf rfl rfl hO fun a b1 w hf hO => ?_
  refine op_val (ex_assign hf rfl) rfl hf rfl rfl fun a hf => ?_
  refine op_val (ex_assign hf rfl) rfl hf rfl rfl fun a hf => ?_
  refine wpList_nil ?_
  refine nor_then (hK2 _ _ ?_)
  refine wp_seq_k fun _ hK5 => ?_
  refine wp_region_list ?_
  refine op_val (ex_field fa_33_0 hf rfl) rfl hf rfl rfl fun a hf => ?_
  refine op_val (ex_load1 (o := 0) ag_9 (hO.blkSees (i := 0) rfl) rfl hf rfl) rfl hf rfl rfl fun a hf => ?_
  obtain ⟨s3, hs3, hm⟩ := ob hm
  refine op_val (ex_cat (l := x_c.Name) (m := [61]) hf rfl rfl hs3) rfl hf rfl rfl fun a hf => ?_
  refine op_val (ex_field fa_33_1 hf rfl) rfl hf rfl rfl fun a hf => ?_
  refine op_val (ex_load1 (o := 1) ag_9 (hO.blkSees (i := 0) rfl) rfl hf rfl) rfl hf rfl rfl fun a hf => ?_
  obtain ⟨s4, hs4, hm⟩ := ob hm
  refine op_val (ex_cat (l := s3) (m := x_c.Value) hf rfl rfl hs4) rfl hf rfl rfl fun a hf => ?_
  refine op_val (ex_assign hf rfl) rfl hf rfl rfl fun a hf => ?_
  refine wpList_nil ?_
  refine nor_then (hK5 _ _ ?_)
  refine wp_seq_k fun _ hK30 => ?_
  refine wp_seq_k fun _ hK6 => ?_
  refine wp_region_list ?_
  refine op_val (ex_assign hf rfl) rfl hf rfl rfl fun a hf => ?_
  refine wpList_nil ?_
  refine nor_then (hK6 _ _ ?_)
  refine wp_block ?_
  refine wp_loop_n (fun k a w => ∃ (s7 : Str) (i8 : Int), Fits 59 [(1, ptr b1 0), (4, str s7), (5, int i8)] a ∧ Dk.Own w0 [] w [.blk b1 [str x_c.Name, str x_c.Value, .slice x_c_p0 x_c.Attrs.length x_c_c0] 33, .shr x_c_p0 (cells enc_api_Attr x_c.Attrs)] ∧ ref28_Text_L1 x_c k s7 i8 = some R) ?_ fuel ?_
  · rintro n1 a w ⟨s7, i8, hf, hO, hm⟩
    obtain _ | n1 := n1
    · rw [ref28_Text_L1] at hm
      cases hm
    · rw [ref28_Text_L1] at hm
      refine wp_seq_k fun _ hK11 => ?_
      refine wp_seq_k fun _ hK9 => ?_
      refine wp_region_list ?_
      refine op_val (ex_move hf rfl) rfl hf rfl rfl fun a hf => ?_
      refine op_val (ex_field fa_33_2 hf rfl) rfl hf rfl rfl fun a hf => ?_
      refine op_val (ex_load1 (o := 2) ag_31 (hO.blkSees (i := 0) rfl) rfl hf rfl) rfl hf rfl rfl fun a hf => ?_
      refine op_val (ex_len_l Tryz.underlying31 hf rfl) rfl hf rfl rfl fun a hf => ?_
      refine op_val (ex_lss (m := i8) (n := (x_c.Attrs.length : Int)) hf rfl rfl) rfl hf rfl rfl fun a hf => ?_
      refine wpList_nil ?_
      refine nor_then (hK9 _ _ ?_)
      refine wp_cond_cut hf rfl (fun hc10 => ?_) (fun hc10 => ?_)
      · have hm := it hc10 hm
        refine wp_skip ?_
        refine nor_then (hK11 _ _ ?_)
        refine wp_seq_cut (fun a w => ∃ (s28 : Str), Fits 59 [(1, ptr b1 0), (4, str s28), (5, int i8)] a ∧ Dk.Own w0 [] w [.blk b1 [str x_c.Name, str x_c.Value, .slice x_c_p0 x_c.Attrs.length x_c_c0] 33, .shr x_c_p0 (cells enc_api_Attr x_c.Attrs)] ∧ ref28_Text_j2 (ref28_Text_L1 x_c n1) i8 s28 = some R) ?_ ?_
        · refine wp_block ?_
          refine wp_seq_k fun _ hK17 => ?_
          refine wp_region_list ?_
          refine op_val (ex_move hf rfl) rfl hf rfl rfl fun a hf => ?_
          obtain ⟨s12, hs12, hm⟩ := ob hm
          refine op_val (ex_cat (l := s7) (m := [59, 32]) hf rfl rfl hs12) rfl hf rfl rfl fun a hf => ?_
          refine op_val (ex_field fa_33_2 hf rfl) rfl hf rfl rfl fun a hf => ?_
          refine op_val (ex_load1 (o := 2) ag_31 (hO.blkSees (i := 0) rfl) rfl hf rfl) rfl hf rfl rfl fun a hf => ?_
          refine op_val (ex_move hf rfl) rfl hf rfl rfl fun a hf => ?_
          obtain ⟨x13, hx13, hm⟩ := ob hm
          obtain ⟨b14, o15, hix13, hSx13⟩ := elemAt (enc := enc_api_Attr) (sz := 3) (xs := x_c.Attrs) 31 Tryz.underlying31 sz_66 (by decide) (fun _ => rfl) (hO.sees (i := 1) rfl) hx13
          refine op_val (ex_indexAddr hix13 hf rfl rfl) rfl hf rfl rfl fun a hf => ?_
          refine op_val (ex_field fa_66_0 hf rfl) rfl hf rfl rfl fun a hf => ?_
          refine op_val (ex_load1 (o := 0) ag_9 (hSx13 _ (hO.sees (i := 1) rfl)) rfl hf rfl) rfl hf rfl rfl fun a hf => ?_
          obtain ⟨s16, hs16, hm⟩ := ob hm
          refine op_val (ex_cat (l := s12) (m := x13.Name) hf rfl rfl hs16) rfl hf rfl rfl fun a hf => ?_
          refine op_val (ex_assign hf rfl) rfl hf rfl rfl fun a hf => ?_
          refine wpList_nil ?_
          refine nor_then (hK17 _ _ ?_)
          refine wp_seq_k fun _ hK21 => ?_
          refine wp_region_list ?_
          refine op_val (ex_field fa_33_2 hf rfl) rfl hf rfl rfl fun a hf => ?_
          refine op_val (ex_load1 (o := 2) ag_31 (hO.blkSees (i := 0) rfl) rfl hf rfl) rfl hf rfl rfl fun a hf => ?_
          refine op_val (ex_move hf rfl) rfl hf rfl rfl fun a hf => ?_
          obtain ⟨x18, hx18, hm⟩ := ob hm
          obtain ⟨b19, o20, hix18, hSx18⟩ := elemAt (enc := enc_api_Attr) (sz := 3) (xs := x_c.Attrs) 31 Tryz.underlying31 sz_66 (by decide) (fun _ => rfl) (hO.sees (i := 1) rfl) hx18
          refine op_val (ex_indexAddr hix18 hf rfl rfl) rfl hf rfl rfl fun a hf => ?_
          refine op_val (ex_field fa_66_2 hf rfl) rfl hf rfl rfl fun a hf => ?_
          refine op_val (ex_load1 (o := 2) ag_4 (hSx18 _ (hO.sees (i := 1) rfl)) rfl hf rfl) rfl hf rfl rfl fun a hf => ?_
          refine wpList_nil ?_
          refine nor_then (hK21 _ _ ?_)
          refine wp_cond_cut hf rfl (fun hc22 => ?_) (fun hc22 => ?_)
          · have hm := it hc22 hm
            refine wp_region_list ?_
            refine op_val (ex_move hf rfl) rfl hf rfl rfl fun a hf => ?_
            obtain ⟨s23, hs23, hm⟩ := ob hm
            refine op_val (ex_cat (l := s16) (m := [61]) hf rfl rfl hs23) rfl hf rfl rfl fun a hf => ?_
            refine op_val (ex_field fa_33_2 hf rfl) rfl hf rfl rfl fun a hf => ?_
            refine op_val (ex_load1 (o := 2) ag_31 (hO.blkSees (i := 0) rfl) rfl hf rfl) rfl hf rfl rfl fun a hf => ?_
            refine op_val (ex_move hf rfl) rfl hf rfl rfl fun a hf => ?_
            obtain ⟨x24, hx24, hm⟩ := ob hm
            obtain ⟨b25, o26, hix24, hSx24⟩ := elemAt (enc := enc_api_Attr) (sz := 3) (xs := x_c.Attrs) 31 Tryz.underlying31 sz_66 (by decide) (fun _ => rfl) (hO.sees (i := 1) rfl) hx24
            refine op_val (ex_indexAddr hix24 hf rfl rfl) rfl hf rfl rfl fun a hf => ?_
            refine op_val (ex_field fa_66_1 hf rfl) rfl hf rfl rfl fun a hf => ?_
            refine op_val (ex_load1 (o := 1) ag_9 (hSx24 _ (hO.sees (i := 1) rfl)) rfl hf rfl) rfl hf rfl rfl fun a hf => ?_
            obtain ⟨s27, hs27, hm⟩ := ob hm
            refine op_val (ex_cat (l := s23) (m := x24.Value) hf rfl rfl hs27) rfl hf rfl rfl fun a hf => ?_
            refine op_val (ex_assign hf rfl) rfl hf rfl rfl fun a hf => ?_
            refine wpList_nil ?_
            refine nor_block ?_
            refine nor_then ?_
            exact ⟨s27, (hf.cons rfl (hf.cons rfl (hf.cons rfl hf.nil))), hO, hm⟩
          · have hm := ie hc22 hm
            refine wp_skip ?_
            refine nor_block ?_
            refine nor_then ?_
            exact ⟨s16, (hf.cons rfl (hf.cons rfl (hf.cons rfl hf.nil))), hO, hm⟩
        · rintro a w ⟨s28, hf, hO, hm⟩
          rw [ref28_Text_j2] at hm
          refine wp_region_list ?_
          refine op_val (ex_move hf rfl) rfl hf rfl rfl fun a hf => ?_
          obtain ⟨i29, hi29, hm⟩ := ob hm
          refine op_val (ex_add hf rfl rfl hi29) rfl hf rfl rfl fun a hf => ?_
          refine op_val (ex_assign hf rfl) rfl hf rfl rfl fun a hf => ?_
          refine wpList_nil ?_
          refine nor_then ?_
          exact ⟨_, Nat.lt_succ_self _, s28, i29, (hf.cons rfl (hf.cons rfl (hf.cons rfl hf.nil))), hO, hm⟩
      · have hm := ie hc10 hm
        refine wp_exit ?_
        refine exit_then ?_
        refine exit_then ?_
        refine exit_here ?_
        refine nor_then (hK30 _ _ ?_)
        refine wp_seq_k fun _ hK35 => ?_
        refine wp_region_list ?_
        refine op_val (ex_move hf rfl) rfl hf rfl rfl fun a hf => ?_
        obtain ⟨r31, hr31, hm⟩ := ob hm
        refine op_enter (ex_call c_27 hf (vs := [str s7]) rfl) rfl hf rfl rfl (w_ref28_Parse s7 r31 _ (hG.own hF hO) hr31) ?_
        rintro e w' ⟨p32, c33, he, hO'⟩
        refine ⟨_, he, fun a hf => ?_⟩
        have hO := hO.call hO' (by simp [Res.shared])
        refine op_val (ex_move hf rfl) rfl hf rfl rfl fun a hf => ?_
        refine op_val (ex_extract hf rfl rfl) rfl hf rfl rfl fun a hf => ?_
        refine op_val (ex_extract hf rfl rfl) rfl hf rfl rfl fun a hf => ?_
        refine op_alloc al_33 hf rfl hO fun a b34 w hf hO => ?_
        have hO := hO.nilRow 66 3
        refine op_storeN (i := 1) (n := 3) sz_33 rfl rfl rfl (by simp [Value.oneCell']) hf rfl rfl hO fun w hO => ?_
        refine op_val (ex_assign hf rfl) rfl hf rfl rfl fun a hf => ?_
        refine wpList_nil ?_
        refine nor_then (hK35 _ _ ?_)
        refine wp_seq_k fun _ hK41 => ?_
        refine wp_seq_cut (fun a w => ∃ (t38 : Bool), Fits 59 [(4, str s7), (57, .bool t38)] a ∧ Dk.Own w0 [] w [.row (.slice none 0 0) 66 3 0 (cells enc_api_Attr []), .blk b34 [str r31.1.Name, str r31.1.Value, .slice p32 r31.1.Attrs.length c33] 33, .row (.slice p32 r31.1.Attrs.length c33) 66 3 r31.1.Attrs.length (cells enc_api_Attr r31.1.Attrs), .blk b1 [str x_c.Name, str x_c.Value, .slice x_c_p0 x_c.Attrs.length x_c_c0] 33, .shr x_c_p0 (cells enc_api_Attr x_c.Attrs)] ∧ ref28_Text_j3 s7 t38 = some R) ?_ ?_
        · refine wp_region_list ?_
          refine op_val (ex_move hf rfl) rfl hf rfl rfl fun a hf => ?_
          refine op_val (ex_neq (m := r31.2) (n := 0) hf rfl rfl) rfl hf rfl rfl fun a hf => ?_
          refine op_val (ex_move hf rfl) rfl hf rfl rfl fun a hf => ?_
          rcases bcase (!(r31.2 == 0)) with hc36 | hc36
          · have hm := it hc36 hm
            refine op_pass rfl hf rfl rfl (hc36) rfl rfl fun a hf => ?_
            refine op_pass rfl hf rfl rfl (hc36) rfl rfl fun a hf => ?_
            refine op_pass rfl hf rfl rfl (hc36) rfl rfl fun a hf => ?_
            refine op_pass rfl hf rfl rfl (hc36) rfl rfl fun a hf => ?_
            refine op_val (ex_pick_t hf rfl hc36 rfl) rfl hf rfl rfl fun a hf => ?_
            refine wpList_nil ?_
            refine nor_then ?_
            exact ⟨true, (hf.cons rfl (hf.cons rfl hf.nil)), hO, hm⟩
          · have hm := ie hc36 hm
            refine op_guard rfl hf rfl rfl (hc36) ?_
            refine op_val (ex_loadN (o := 0) (vs := [str r31.1.Name, str r31.1.Value, .slice p32 r31.1.Attrs.length c33]) ag_33 sz_33 (hO.blkSees (i := 1) rfl) rfl rfl hf rfl) rfl hf rfl rfl fun a hf => ?_
            refine op_guard rfl hf rfl rfl (hc36) ?_
            refine op_val (ex_loadN (o := 0) (vs := [str x_c.Name, str x_c.Value, .slice x_c_p0 x_c.Attrs.length x_c_c0]) ag_33 sz_33 (hO.blkSees (i := 3) rfl) rfl rfl hf rfl) rfl hf rfl rfl fun a hf => ?_
            refine op_guard rfl hf rfl rfl (hc36) ?_
            obtain ⟨r37, hr37, hm⟩ := ob hm
            refine op_enter (ex_call c_16 hf (vs := [.agg #[str r31.1.Name, str r31.1.Value, .slice p32 r31.1.Attrs.length c33], .agg #[str x_c.Name, str x_c.Value, .slice x_c_p0 x_c.Attrs.length x_c_c0]]) rfl) rfl hf rfl rfl (w_ref28_Same r31.1 x_c r37 _ (hG.own hF hO) (hO.rowSees (i := 2) rfl) (hO.rowCap (i := 2) rfl) (hO.sees (i := 4) rfl) hc0 hr37) ?_
            rintro e w' ⟨he, hb⟩
            refine ⟨_, he, fun a hf => ?_⟩
            have hO := hO.grow hb
            refine op_guard rfl hf rfl rfl (hc36) ?_
            refine op_val (ex_not hf rfl) rfl hf rfl rfl fun a hf => ?_
            refine op_val (ex_pick_f hf rfl hc36 rfl) rfl hf rfl rfl fun a hf => ?_
            refine wpList_nil ?_
            refine nor_then ?_
            exact ⟨!r37, (hf.cons rfl (hf.cons rfl hf.nil)), hO, hm⟩
        · rintro a w ⟨t38, hf, hO, hm⟩
          rw [ref28_Text_j3] at hm
          refine wp_cond_cut hf rfl (fun hc39 => ?_) (fun hc39 => ?_)
          · have hm := it hc39 hm
            refine wp_seq_k fun _ hK40 => ?_
            refine wp_region_list ?_
            refine op_val (ex_assign hf rfl) rfl hf rfl rfl fun a hf => ?_
            refine op_val (ex_assign hf rfl) rfl hf rfl rfl fun a hf => ?_
            refine wpList_nil ?_
            refine nor_then (hK40 _ _ ?_)
            refine wp_ret ?_
            refine ret_then ?_
            obtain rfl := Option.some.inj hm
            exact post_ret Tryz.results30 hf (.tmp rfl (.tmp rfl .nil)) ⟨rfl, hO.below⟩
          · have hm := ie hc39 hm
            refine wp_skip ?_
            refine nor_then (hK41 _ _ ?_)
            refine wp_seq_k fun _ hK42 => ?_
            refine wp_region_list ?_
            refine op_val (ex_move hf rfl) rfl hf rfl rfl fun a hf => ?_
            refine op_val (ex_assign hf rfl) rfl hf rfl rfl fun a hf => ?_
            refine op_val (ex_assign hf rfl) rfl hf rfl rfl fun a hf => ?_
            refine wpList_nil ?_
            refine nor_then (hK42 _ _ ?_)
            refine wp_ret ?_
            obtain rfl := Option.some.inj hm
            exact post_ret Tryz.results30 hf (.tmp rfl (.tmp rfl .nil)) ⟨rfl, hO.below⟩
  · exact ⟨s4, 0, (hf.cons rfl (hf.cons rfl (hf.cons rfl hf.nil))), hO, hm⟩

end Go.Proofs
