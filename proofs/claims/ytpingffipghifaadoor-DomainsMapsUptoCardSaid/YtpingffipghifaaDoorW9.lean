/-
  Walks, written by a program (wip/gen): what its model says, the function returns; what was there before is as it was.
-/
import Derived.Test.YtpingffipghifaaDoorLib
import Derived.Test.YtpingffipghifaaDoorW3
import Derived.Test.YtpingffipghifaaDoorW4
import Derived.Test.YtpingffipghifaaDoorW7
import Derived.Test.YtpingffipghifaaDoorW8
set_option linter.unusedVariables false
set_option linter.unusedSimpArgs false
set_option maxRecDepth 100000
namespace Go.Proofs
open Go.Dk Go.Dm Go.RowKit

set_option maxHeartbeats 1000000 in
theorem w_ref08_Small (x_s : Str) (x_most : Int) (R : Int) (w0 : World) (hG : Glob w0) (hm : ref08_Small x_s x_most = some R) :
    Calls Tryd.prog 70 #[str x_s, int x_most] w0 fun e w' => e = .returned (int R) ∧ Below w0.heap.size w0 w' := by
  rw [ref08_Small] at hm
  refine calls_enter (vs := [str x_s, int x_most]) Tryd.func70 rfl Tryd.ntmps70 rfl fun a hf => ?_
  have hF : Away [] := away_nil
  have hO : Dk.Own w0 [] w0 [] := Dk.Own.refl w0
  refine wp_seq_k fun _ hK1 => ?_
  refine wp_region_list ?_
  refine op_val (ex_assign hf rfl) rfl hf rfl rfl fun a hf => ?_
  refine wpList_nil ?_
  refine nor_then (hK1 _ _ ?_)
  refine wp_seq_k fun _ hK5 => ?_
  refine wp_seq_k fun _ hK2 => ?_
  refine wp_region_list ?_
  refine op_val (ex_move hf rfl) rfl hf rfl rfl fun a hf => ?_
  refine op_val (ex_len_s (l := x_s) Tryd.underlying9 hf rfl) rfl hf rfl rfl fun a hf => ?_
  refine op_val (ex_gtr (m := (x_s.length : Int)) (n := 5) hf rfl rfl) rfl hf rfl rfl fun a hf => ?_
  refine wpList_nil ?_
  refine nor_then (hK2 _ _ ?_)
  refine wp_cond_cut hf rfl (fun hc3 => ?_) (fun hc3 => ?_)
  · have hm := it hc3 hm
    refine wp_seq_k fun _ hK4 => ?_
    refine wp_region_list ?_
    refine op_val (ex_assign hf rfl) rfl hf rfl rfl fun a hf => ?_
    refine wpList_nil ?_
    refine nor_then (hK4 _ _ ?_)
    refine wp_ret ?_
    refine ret_then ?_
    obtain rfl := Option.some.inj hm
    exact post_ret Tryd.results70 hf (.tmp rfl .nil) ⟨rfl, hO.below⟩
  · have hm := ie hc3 hm
    refine wp_skip ?_
    refine nor_then (hK5 _ _ ?_)
    refine wp_seq_k fun _ hK7 => ?_
    refine wp_region_list ?_
    refine op_val (ex_move hf rfl) rfl hf rfl rfl fun a hf => ?_
    refine op_val (ex_move hf rfl) rfl hf rfl rfl fun a hf => ?_
    obtain ⟨r6, hr6, hm⟩ := ob hm
    refine op_enter (ex_call c_107 hf (vs := [str x_s, int 10, int x_most]) rfl) rfl hf rfl rfl (w_ref03_Read x_s 10 x_most r6 _ (hG.own hF hO) hr6) ?_
    rintro e w' ⟨he, hb⟩
    refine ⟨_, he, fun a hf => ?_⟩
    have hO := hO.grow hb
    refine op_val (ex_move hf rfl) rfl hf rfl rfl fun a hf => ?_
    refine op_val (ex_extract hf rfl rfl) rfl hf rfl rfl fun a hf => ?_
    refine op_val (ex_extract hf rfl rfl) rfl hf rfl rfl fun a hf => ?_
    refine op_val (ex_assign hf rfl) rfl hf rfl rfl fun a hf => ?_
    refine op_val (ex_assign hf rfl) rfl hf rfl rfl fun a hf => ?_
    refine wpList_nil ?_
    refine nor_then (hK7 _ _ ?_)
    refine wp_seq_k fun _ hK13 => ?_
    refine wp_seq_cut (fun a w => ∃ (t10 : Bool), Fits 25 [(5, int r6.1), (23, .bool t10)] a ∧ Dk.Own w0 [] w [] ∧ ref08_Small_j1 r6 t10 = some R) ?_ ?_
    · refine wp_region_list ?_
      refine op_val (ex_move hf rfl) rfl hf rfl rfl fun a hf => ?_
      refine op_val (ex_neq (m := r6.2) (n := 0) hf rfl rfl) rfl hf rfl rfl fun a hf => ?_
      refine op_val (ex_move hf rfl) rfl hf rfl rfl fun a hf => ?_
      rcases bcase (!(r6.2 == 0)) with hc8 | hc8
      · have hm := it hc8 hm
        refine op_pass rfl hf rfl rfl (hc8) rfl rfl fun a hf => ?_
        refine op_pass rfl hf rfl rfl (hc8) rfl rfl fun a hf => ?_
        refine op_pass rfl hf rfl rfl (hc8) rfl rfl fun a hf => ?_
        refine op_pass rfl hf rfl rfl (hc8) rfl rfl fun a hf => ?_
        refine op_val (ex_pick_t hf rfl hc8 rfl) rfl hf rfl rfl fun a hf => ?_
        refine wpList_nil ?_
        refine nor_then ?_
        exact ⟨true, (hf.cons rfl (hf.cons rfl hf.nil)), hO, hm⟩
      · have hm := ie hc8 hm
        refine op_guard rfl hf rfl rfl (hc8) ?_
        refine op_val (ex_move hf rfl) rfl hf rfl rfl fun a hf => ?_
        refine op_guard rfl hf rfl rfl (hc8) ?_
        obtain ⟨r9, hr9, hm⟩ := ob hm
        refine op_enter (ex_call c_108 hf (vs := [int r6.1, int 10]) rfl) rfl hf rfl rfl (w_ref03_Text r6.1 10 r9 _ (hG.own hF hO) hr9) ?_
        rintro e w' ⟨he, hb⟩
        refine ⟨_, he, fun a hf => ?_⟩
        have hO := hO.grow hb
        refine op_guard rfl hf rfl rfl (hc8) ?_
        refine op_val (ex_move hf rfl) rfl hf rfl rfl fun a hf => ?_
        refine op_guard rfl hf rfl rfl (hc8) ?_
        refine op_val (ex_neq_s (l := r9) (m := x_s) hf rfl rfl) rfl hf rfl rfl fun a hf => ?_
        refine op_val (ex_pick_f hf rfl hc8 rfl) rfl hf rfl rfl fun a hf => ?_
        refine wpList_nil ?_
        refine nor_then ?_
        exact ⟨!(r9 == x_s), (hf.cons rfl (hf.cons rfl hf.nil)), hO, hm⟩
    · rintro a w ⟨t10, hf, hO, hm⟩
      rw [ref08_Small_j1] at hm
      refine wp_cond_cut hf rfl (fun hc11 => ?_) (fun hc11 => ?_)
      · have hm := it hc11 hm
        refine wp_seq_k fun _ hK12 => ?_
        refine wp_region_list ?_
        refine op_val (ex_assign hf rfl) rfl hf rfl rfl fun a hf => ?_
        refine wpList_nil ?_
        refine nor_then (hK12 _ _ ?_)
        refine wp_ret ?_
        refine ret_then ?_
        obtain rfl := Option.some.inj hm
        exact post_ret Tryd.results70 hf (.tmp rfl .nil) ⟨rfl, hO.below⟩
      · have hm := ie hc11 hm
        refine wp_skip ?_
        refine nor_then (hK13 _ _ ?_)
        refine wp_seq_k fun _ hK14 => ?_
        refine wp_region_list ?_
        refine op_val (ex_move hf rfl) rfl hf rfl rfl fun a hf => ?_
        refine op_val (ex_assign hf rfl) rfl hf rfl rfl fun a hf => ?_
        refine wpList_nil ?_
        refine nor_then (hK14 _ _ ?_)
        refine wp_ret ?_
        obtain rfl := Option.some.inj hm
        exact post_ret Tryd.results70 hf (.tmp rfl .nil) ⟨rfl, hO.below⟩

set_option maxHeartbeats 1000000 in
theorem w_ref08_Four (x_s : Str) (R : Bool) (w0 : World) (hG : Glob w0) (hm : ref08_Four x_s = some R) :
    Calls Tryd.prog 43 #[str x_s] w0 fun e w' => e = .returned (.bool R) ∧ Below w0.heap.size w0 w' := by
  rw [ref08_Four] at hm
  refine calls_enter (vs := [str x_s]) Tryd.func43 rfl Tryd.ntmps43 rfl fun a hf => ?_
  have hF : Away [] := away_nil
  have hO : Dk.Own w0 [] w0 [] := Dk.Own.refl w0
  refine wp_seq_k fun _ hK1 => ?_
  refine wp_region_list ?_
  refine op_val (ex_assign hf rfl) rfl hf rfl rfl fun a hf => ?_
  refine wpList_nil ?_
  refine nor_then (hK1 _ _ ?_)
  refine wp_seq_k fun _ hK5 => ?_
  refine wp_region_list ?_
  refine op_val (ex_move hf rfl) rfl hf rfl rfl fun a hf => ?_
  obtain ⟨r2, hr2, hm⟩ := ob hm
  refine op_enter (ex_call c_32 hf (vs := [str x_s, byte 46]) rfl) rfl hf rfl rfl (w_ref08_Parts x_s 46 r2 _ (hG.own hF hO) hr2) ?_
  rintro e w' ⟨p3, c4, he, hO'⟩
  refine ⟨_, he, fun a hf => ?_⟩
  have hO := hO.call hO' (by simp [Res.shared])
  refine op_val (ex_assign hf rfl) rfl hf rfl rfl fun a hf => ?_
  refine wpList_nil ?_
  refine nor_then (hK5 _ _ ?_)
  refine wp_seq_k fun _ hK20 => ?_
  refine wp_seq_k fun _ hK6 => ?_
  refine wp_region_list ?_
  refine op_val (ex_assign hf rfl) rfl hf rfl rfl fun a hf => ?_
  refine wpList_nil ?_
  refine nor_then (hK6 _ _ ?_)
  refine wp_block ?_
  refine wp_loop_n (fun k a w => ∃ (i7 : Int), Fits 22 [(3, .slice p3 r2.length c4), (4, int i7)] a ∧ Dk.Own w0 [] w [.row (.slice p3 r2.length c4) 9 1 r2.length (cells enc_str r2)] ∧ ref08_Four_L1 r2 k i7 = some R) ?_ fuel ?_
  · rintro n1 a w ⟨i7, hf, hO, hm⟩
    obtain _ | n1 := n1
    · rw [ref08_Four_L1] at hm
      cases hm
    · rw [ref08_Four_L1] at hm
      refine wp_seq_k fun _ hK10 => ?_
      refine wp_seq_k fun _ hK8 => ?_
      refine wp_region_list ?_
      refine op_val (ex_move hf rfl) rfl hf rfl rfl fun a hf => ?_
      refine op_val (ex_move hf rfl) rfl hf rfl rfl fun a hf => ?_
      refine op_val (ex_len_l Tryd.underlying55 hf rfl) rfl hf rfl rfl fun a hf => ?_
      refine op_val (ex_lss (m := i7) (n := (r2.length : Int)) hf rfl rfl) rfl hf rfl rfl fun a hf => ?_
      refine wpList_nil ?_
      refine nor_then (hK8 _ _ ?_)
      refine wp_cond_cut hf rfl (fun hc9 => ?_) (fun hc9 => ?_)
      · have hm := it hc9 hm
        refine wp_skip ?_
        refine nor_then (hK10 _ _ ?_)
        refine wp_seq_k fun _ hK18 => ?_
        refine wp_block ?_
        refine wp_seq_k fun _ hK15 => ?_
        refine wp_region_list ?_
        refine op_val (ex_move hf rfl) rfl hf rfl rfl fun a hf => ?_
        refine op_val (ex_move hf rfl) rfl hf rfl rfl fun a hf => ?_
        obtain ⟨x11, hx11, hm⟩ := ob hm
        obtain ⟨b12, o13, hix11, hSx11, hAx11⟩ := elemAtRow (enc := enc_str) (sz := 1) (xs := r2) 55 Tryd.underlying55 sz_9 (by decide) (fun _ => rfl) hO (i := 0) rfl hx11
        refine op_val (ex_indexAddr hix11 hf rfl rfl) rfl hf rfl rfl fun a hf => ?_
        refine op_val (ex_load1 (o := 0) ag_9 (hSx11 _ (hO.rowSees (i := 0) rfl)) rfl hf rfl) rfl hf rfl rfl fun a hf => ?_
        obtain ⟨r14, hr14, hm⟩ := ob hm
        refine op_enter (ex_call c_70 hf (vs := [str x11, int 255]) rfl) rfl hf rfl rfl (w_ref08_Small x11 255 r14 _ (hG.own hF hO) hr14) ?_
        rintro e w' ⟨he, hb⟩
        refine ⟨_, he, fun a hf => ?_⟩
        have hO := hO.grow hb
        refine op_val (ex_lss (m := r14) (n := 0) hf rfl rfl) rfl hf rfl rfl fun a hf => ?_
        refine wpList_nil ?_
        refine nor_then (hK15 _ _ ?_)
        refine wp_cond_cut hf rfl (fun hc16 => ?_) (fun hc16 => ?_)
        · have hm := it hc16 hm
          refine wp_seq_k fun _ hK17 => ?_
          refine wp_region_list ?_
          refine op_val (ex_assign hf rfl) rfl hf rfl rfl fun a hf => ?_
          refine wpList_nil ?_
          refine nor_then (hK17 _ _ ?_)
          refine wp_ret ?_
          refine ret_block ?_
          refine ret_then ?_
          refine ret_then ?_
          refine ret_block ?_
          refine ret_then ?_
          obtain rfl := Option.some.inj hm
          exact post_ret Tryd.results43 hf (.tmp rfl .nil) ⟨rfl, hO.below⟩
        · have hm := ie hc16 hm
          refine wp_skip ?_
          refine nor_block ?_
          refine nor_then (hK18 _ _ ?_)
          refine wp_region_list ?_
          refine op_val (ex_move hf rfl) rfl hf rfl rfl fun a hf => ?_
          obtain ⟨i19, hi19, hm⟩ := ob hm
          refine op_val (ex_add hf rfl rfl hi19) rfl hf rfl rfl fun a hf => ?_
          refine op_val (ex_assign hf rfl) rfl hf rfl rfl fun a hf => ?_
          refine wpList_nil ?_
          refine nor_then ?_
          exact ⟨_, Nat.lt_succ_self _, i19, (hf.cons rfl (hf.cons rfl hf.nil)), hO, hm⟩
      · have hm := ie hc9 hm
        refine wp_exit ?_
        refine exit_then ?_
        refine exit_then ?_
        refine exit_here ?_
        refine nor_then (hK20 _ _ ?_)
        refine wp_seq_k fun _ hK21 => ?_
        refine wp_region_list ?_
        refine op_val (ex_move hf rfl) rfl hf rfl rfl fun a hf => ?_
        refine op_val (ex_len_l Tryd.underlying55 hf rfl) rfl hf rfl rfl fun a hf => ?_
        refine op_val (ex_eql (m := (r2.length : Int)) (n := 4) hf rfl rfl) rfl hf rfl rfl fun a hf => ?_
        refine op_val (ex_assign hf rfl) rfl hf rfl rfl fun a hf => ?_
        refine wpList_nil ?_
        refine nor_then (hK21 _ _ ?_)
        refine wp_ret ?_
        obtain rfl := Option.some.inj hm
        exact post_ret Tryd.results43 hf (.tmp rfl .nil) ⟨rfl, hO.below⟩
  · exact ⟨0, (hf.cons rfl (hf.cons rfl hf.nil)), hO, hm⟩

set_option maxHeartbeats 1000000 in
theorem w_ref08_Under (x_name : Str) (x_domain : Str) (R : Bool) (w0 : World) (hG : Glob w0) (hm : ref08_Under x_name x_domain = some R) :
    Calls Tryd.prog 39 #[str x_name, str x_domain] w0 fun e w' => e = .returned (.bool R) ∧ Below w0.heap.size w0 w' := by
  rw [ref08_Under] at hm
  refine calls_enter (vs := [str x_name, str x_domain]) Tryd.func39 rfl Tryd.ntmps39 rfl fun a hf => ?_
  have hF : Away [] := away_nil
  have hO : Dk.Own w0 [] w0 [] := Dk.Own.refl w0
  refine wp_seq_k fun _ hK1 => ?_
  refine wp_region_list ?_
  refine op_val (ex_assign hf rfl) rfl hf rfl rfl fun a hf => ?_
  refine wpList_nil ?_
  refine nor_then (hK1 _ _ ?_)
  refine wp_seq_k fun _ hK12 => ?_
  refine wp_seq_cut (fun a w => ∃ (t9 : Bool), Fits 58 [(0, str x_name), (1, str x_domain), (23, .bool t9)] a ∧ Dk.Own w0 [] w [] ∧ ref08_Under_j1 x_name x_domain t9 = some R) ?_ ?_
  · refine wp_region_list ?_
    refine op_val (ex_move hf rfl) rfl hf rfl rfl fun a hf => ?_
    obtain ⟨r2, hr2, hm⟩ := ob hm
    refine op_enter (ex_call c_42 hf (vs := [str x_name]) rfl) rfl hf rfl rfl (w_ref08_Name x_name r2 _ (hG.own hF hO) hr2) ?_
    rintro e w' ⟨he, hb⟩
    refine ⟨_, he, fun a hf => ?_⟩
    have hO := hO.grow hb
    refine op_val (ex_not hf rfl) rfl hf rfl rfl fun a hf => ?_
    refine op_val (ex_move hf rfl) rfl hf rfl rfl fun a hf => ?_
    rcases bcase (!r2) with hc3 | hc3
    · have hm := it hc3 hm
      refine op_pass rfl hf rfl rfl (hc3) rfl rfl fun a hf => ?_
      refine op_pass rfl hf rfl rfl (hc3) rfl rfl fun a hf => ?_
      refine op_pass rfl hf rfl rfl (hc3) rfl rfl fun a hf => ?_
      refine op_val (ex_pick_t hf rfl hc3 rfl) rfl hf rfl rfl fun a hf => ?_
      refine op_val (ex_move hf rfl) rfl hf rfl rfl fun a hf => ?_
      refine op_pass rfl hf rfl rfl (rfl) rfl rfl fun a hf => ?_
      refine op_pass rfl hf rfl rfl (rfl) rfl rfl fun a hf => ?_
      refine op_val (ex_pick_t hf rfl rfl rfl) rfl hf rfl rfl fun a hf => ?_
      refine op_val (ex_move hf rfl) rfl hf rfl rfl fun a hf => ?_
      refine op_pass rfl hf rfl rfl (rfl) rfl rfl fun a hf => ?_
      refine op_pass rfl hf rfl rfl (rfl) rfl rfl fun a hf => ?_
      refine op_val (ex_pick_t hf rfl rfl rfl) rfl hf rfl rfl fun a hf => ?_
      refine wpList_nil ?_
      refine nor_then ?_
      exact ⟨true, (hf.cons rfl (hf.cons rfl (hf.cons rfl hf.nil))), hO, hm⟩
    · have hm := ie hc3 hm
      refine op_guard rfl hf rfl rfl (hc3) ?_
      refine op_val (ex_move hf rfl) rfl hf rfl rfl fun a hf => ?_
      refine op_guard rfl hf rfl rfl (hc3) ?_
      obtain ⟨r4, hr4, hm⟩ := ob hm
      refine op_enter (ex_call c_42 hf (vs := [str x_domain]) rfl) rfl hf rfl rfl (w_ref08_Name x_domain r4 _ (hG.own hF hO) hr4) ?_
      rintro e w' ⟨he, hb⟩
      refine ⟨_, he, fun a hf => ?_⟩
      have hO := hO.grow hb
      refine op_guard rfl hf rfl rfl (hc3) ?_
      refine op_val (ex_not hf rfl) rfl hf rfl rfl fun a hf => ?_
      refine op_val (ex_pick_f hf rfl hc3 rfl) rfl hf rfl rfl fun a hf => ?_
      refine op_val (ex_move hf rfl) rfl hf rfl rfl fun a hf => ?_
      rcases bcase (!r4) with hc5 | hc5
      · have hm := it hc5 hm
        refine op_pass rfl hf rfl rfl (hc5) rfl rfl fun a hf => ?_
        refine op_pass rfl hf rfl rfl (hc5) rfl rfl fun a hf => ?_
        refine op_val (ex_pick_t hf rfl hc5 rfl) rfl hf rfl rfl fun a hf => ?_
        refine op_val (ex_move hf rfl) rfl hf rfl rfl fun a hf => ?_
        refine op_pass rfl hf rfl rfl (rfl) rfl rfl fun a hf => ?_
        refine op_pass rfl hf rfl rfl (rfl) rfl rfl fun a hf => ?_
        refine op_val (ex_pick_t hf rfl rfl rfl) rfl hf rfl rfl fun a hf => ?_
        refine wpList_nil ?_
        refine nor_then ?_
        exact ⟨true, (hf.cons rfl (hf.cons rfl (hf.cons rfl hf.nil))), hO, hm⟩
      · have hm := ie hc5 hm
        refine op_guard rfl hf rfl rfl (hc5) ?_
        refine op_val (ex_move hf rfl) rfl hf rfl rfl fun a hf => ?_
        refine op_guard rfl hf rfl rfl (hc5) ?_
        obtain ⟨r6, hr6, hm⟩ := ob hm
        refine op_enter (ex_call c_43 hf (vs := [str x_name]) rfl) rfl hf rfl rfl (w_ref08_Four x_name r6 _ (hG.own hF hO) hr6) ?_
        rintro e w' ⟨he, hb⟩
        refine ⟨_, he, fun a hf => ?_⟩
        have hO := hO.grow hb
        refine op_val (ex_pick_f hf rfl hc5 rfl) rfl hf rfl rfl fun a hf => ?_
        refine op_val (ex_move hf rfl) rfl hf rfl rfl fun a hf => ?_
        rcases bcase (r6) with hc7 | hc7
        · have hm := it hc7 hm
          refine op_pass rfl hf rfl rfl (hc7) rfl rfl fun a hf => ?_
          refine op_pass rfl hf rfl rfl (hc7) rfl rfl fun a hf => ?_
          refine op_val (ex_pick_t hf rfl hc7 rfl) rfl hf rfl rfl fun a hf => ?_
          refine wpList_nil ?_
          refine nor_then ?_
          exact ⟨true, (hf.cons rfl (hf.cons rfl (hf.cons rfl hf.nil))), hO, hm⟩
        · have hm := ie hc7 hm
          refine op_guard rfl hf rfl rfl (hc7) ?_
          refine op_val (ex_move hf rfl) rfl hf rfl rfl fun a hf => ?_
          refine op_guard rfl hf rfl rfl (hc7) ?_
          obtain ⟨r8, hr8, hm⟩ := ob hm
          refine op_enter (ex_call c_43 hf (vs := [str x_domain]) rfl) rfl hf rfl rfl (w_ref08_Four x_domain r8 _ (hG.own hF hO) hr8) ?_
          rintro e w' ⟨he, hb⟩
          refine ⟨_, he, fun a hf => ?_⟩
          have hO := hO.grow hb
          refine op_val (ex_pick_f hf rfl hc7 rfl) rfl hf rfl rfl fun a hf => ?_
          refine wpList_nil ?_
          refine nor_then ?_
          exact ⟨r8, (hf.cons rfl (hf.cons rfl (hf.cons rfl hf.nil))), hO, hm⟩
  · rintro a w ⟨t9, hf, hO, hm⟩
    rw [ref08_Under_j1] at hm
    refine wp_cond_cut hf rfl (fun hc10 => ?_) (fun hc10 => ?_)
    · have hm := it hc10 hm
      refine wp_seq_k fun _ hK11 => ?_
      refine wp_region_list ?_
      refine op_val (ex_assign hf rfl) rfl hf rfl rfl fun a hf => ?_
      refine wpList_nil ?_
      refine nor_then (hK11 _ _ ?_)
      refine wp_ret ?_
      refine ret_then ?_
      obtain rfl := Option.some.inj hm
      exact post_ret Tryd.results39 hf (.tmp rfl .nil) ⟨rfl, hO.below⟩
    · have hm := ie hc10 hm
      refine wp_skip ?_
      refine nor_then (hK12 _ _ ?_)
      refine wp_seq_k fun _ hK15 => ?_
      refine wp_region_list ?_
      refine op_val (ex_move hf rfl) rfl hf rfl rfl fun a hf => ?_
      obtain ⟨r13, hr13, hm⟩ := ob hm
      refine op_enter (ex_call c_26 hf (vs := [str x_name]) rfl) rfl hf rfl rfl (w_ref01_Fold x_name r13 _ (hG.own hF hO) hr13) ?_
      rintro e w' ⟨he, hb⟩
      refine ⟨_, he, fun a hf => ?_⟩
      have hO := hO.grow hb
      refine op_val (ex_move hf rfl) rfl hf rfl rfl fun a hf => ?_
      obtain ⟨r14, hr14, hm⟩ := ob hm
      refine op_enter (ex_call c_26 hf (vs := [str x_domain]) rfl) rfl hf rfl rfl (w_ref01_Fold x_domain r14 _ (hG.own hF hO) hr14) ?_
      rintro e w' ⟨he, hb⟩
      refine ⟨_, he, fun a hf => ?_⟩
      have hO := hO.grow hb
      refine op_val (ex_assign hf rfl) rfl hf rfl rfl fun a hf => ?_
      refine op_val (ex_assign hf rfl) rfl hf rfl rfl fun a hf => ?_
      refine wpList_nil ?_
      refine nor_then (hK15 _ _ ?_)
      refine wp_seq_k fun _ hK17 => ?_
      refine wp_region_list ?_
      refine op_val (ex_move hf rfl) rfl hf rfl rfl fun a hf => ?_
      refine op_val (ex_len_s (l := r13) Tryd.underlying9 hf rfl) rfl hf rfl rfl fun a hf => ?_
      refine op_val (ex_move hf rfl) rfl hf rfl rfl fun a hf => ?_
      refine op_val (ex_len_s (l := r14) Tryd.underlying9 hf rfl) rfl hf rfl rfl fun a hf => ?_
      obtain ⟨i16, hi16, hm⟩ := ob hm
      refine op_val (ex_sub hf rfl rfl hi16) rfl hf rfl rfl fun a hf => ?_
      refine op_val (ex_assign hf rfl) rfl hf rfl rfl fun a hf => ?_
      refine wpList_nil ?_
      refine nor_then (hK17 _ _ ?_)
      refine wp_seq_cut (fun a w => ∃ (t30 : Bool), Fits 58 [(4, .bool t30)] a ∧ Dk.Own w0 [] w [] ∧ ref08_Under_j2 t30 = some R) ?_ ?_
      · refine wp_region_list ?_
        refine op_val (ex_move hf rfl) rfl hf rfl rfl fun a hf => ?_
        refine op_val (ex_eql (m := i16) (n := 0) hf rfl rfl) rfl hf rfl rfl fun a hf => ?_
        refine op_val (ex_move hf rfl) rfl hf rfl rfl fun a hf => ?_
        rcases bcase (i16 == 0) with hc18 | hc18
        · have hm := it hc18 hm
          refine op_guard rfl hf rfl rfl (hc18) ?_
          refine op_val (ex_move hf rfl) rfl hf rfl rfl fun a hf => ?_
          refine op_guard rfl hf rfl rfl (hc18) ?_
          refine op_val (ex_move hf rfl) rfl hf rfl rfl fun a hf => ?_
          refine op_guard rfl hf rfl rfl (hc18) ?_
          refine op_val (ex_eql_s (l := r13) (m := r14) hf rfl rfl) rfl hf rfl rfl fun a hf => ?_
          refine op_val (ex_pick_t hf rfl hc18 rfl) rfl hf rfl rfl fun a hf => ?_
          refine op_val (ex_move hf rfl) rfl hf rfl rfl fun a hf => ?_
          rcases bcase (r13 == r14) with hc19 | hc19
          · have hm := it hc19 hm
            refine op_pass rfl hf rfl rfl (hc19) rfl rfl fun a hf => ?_
            refine op_pass rfl hf rfl rfl (hc19) rfl rfl fun a hf => ?_
            refine op_pass rfl hf rfl rfl (hc19) rfl rfl fun a hf => ?_
            refine op_passu rfl hf rfl rfl rfl rfl fun a hf => ?_
            refine op_passu rfl hf rfl rfl rfl rfl fun a hf => ?_
            refine op_passu rfl hf rfl rfl rfl rfl fun a hf => ?_
            refine op_passu rfl hf rfl rfl rfl rfl fun a hf => ?_
            refine op_passu rfl hf rfl rfl rfl rfl fun a hf => ?_
            refine op_pass rfl hf rfl rfl (hc19) rfl rfl fun a hf => ?_
            refine op_pass rfl hf rfl rfl (hc19) rfl rfl fun a hf => ?_
            refine op_passu rfl hf rfl rfl rfl rfl fun a hf => ?_
            refine op_passu rfl hf rfl rfl rfl rfl fun a hf => ?_
            refine op_passu rfl hf rfl rfl rfl rfl fun a hf => ?_
            refine op_passu rfl hf rfl rfl rfl rfl fun a hf => ?_
            refine op_passu rfl hf rfl rfl rfl rfl fun a hf => ?_
            refine op_pass rfl hf rfl rfl (hc19) rfl rfl fun a hf => ?_
            refine op_val (ex_pick_t hf rfl hc19 rfl) rfl hf rfl rfl fun a hf => ?_
            refine op_val (ex_assign hf rfl) rfl hf rfl rfl fun a hf => ?_
            refine wpList_nil ?_
            refine nor_then ?_
            exact ⟨true, (hf.cons rfl hf.nil), hO, hm⟩
          · have hm := ie hc19 hm
            refine op_guard rfl hf rfl rfl (hc19) ?_
            refine op_val (ex_move hf rfl) rfl hf rfl rfl fun a hf => ?_
            refine op_guard rfl hf rfl rfl (hc19) ?_
            refine op_val (ex_gtr (m := i16) (n := 0) hf rfl rfl) rfl hf rfl rfl fun a hf => ?_
            refine op_guard rfl hf rfl rfl (hc19) ?_
            refine op_val (ex_move hf rfl) rfl hf rfl rfl fun a hf => ?_
            rcases bcase (decide (0 < i16)) with hc20 | hc20
            · have hm := it hc20 hm
              refine op_guard rfl hf rfl rfl (hc20) ?_
              refine op_val (ex_move hf rfl) rfl hf rfl rfl fun a hf => ?_
              refine op_guard rfl hf rfl rfl (hc20) ?_
              refine op_val (ex_move hf rfl) rfl hf rfl rfl fun a hf => ?_
              refine op_guard rfl hf rfl rfl (hc20) ?_
              obtain ⟨s21, hs21, hm⟩ := ob hm
              refine op_val (ex_from_s (l := r13) Tryd.underlying9 hf rfl rfl hs21) rfl hf rfl rfl fun a hf => ?_
              refine op_guard rfl hf rfl rfl (hc20) ?_
              refine op_val (ex_move hf rfl) rfl hf rfl rfl fun a hf => ?_
              refine op_guard rfl hf rfl rfl (hc20) ?_
              refine op_val (ex_eql_s (l := s21) (m := r14) hf rfl rfl) rfl hf rfl rfl fun a hf => ?_
              refine op_guard rfl hf rfl rfl (hc19) ?_
              refine op_val (ex_pick_t hf rfl hc20 rfl) rfl hf rfl rfl fun a hf => ?_
              refine op_guard rfl hf rfl rfl (hc19) ?_
              refine op_val (ex_move hf rfl) rfl hf rfl rfl fun a hf => ?_
              rcases bcase (s21 == r14) with hc22 | hc22
              · have hm := it hc22 hm
                refine op_guard rfl hf rfl rfl (hc22) ?_
                refine op_val (ex_move hf rfl) rfl hf rfl rfl fun a hf => ?_
                refine op_guard rfl hf rfl rfl (hc22) ?_
                refine op_val (ex_move hf rfl) rfl hf rfl rfl fun a hf => ?_
                refine op_guard rfl hf rfl rfl (hc22) ?_
                obtain ⟨i23, hi23, hm⟩ := ob hm
                refine op_val (ex_sub hf rfl rfl hi23) rfl hf rfl rfl fun a hf => ?_
                refine op_guard rfl hf rfl rfl (hc22) ?_
                obtain ⟨b24, hb24, hm⟩ := ob hm
                refine op_val (ex_index (l := r13) Tryd.underlying9 hf rfl rfl hb24) rfl hf rfl rfl fun a hf => ?_
                refine op_guard rfl hf rfl rfl (hc22) ?_
                refine op_val (ex_eql_b (b := b24) (c := 46) hf rfl rfl) rfl hf rfl rfl fun a hf => ?_
                refine op_guard rfl hf rfl rfl (hc19) ?_
                refine op_val (ex_pick_t hf rfl hc22 rfl) rfl hf rfl rfl fun a hf => ?_
                refine op_val (ex_pick_f hf rfl hc19 rfl) rfl hf rfl rfl fun a hf => ?_
                refine op_val (ex_assign hf rfl) rfl hf rfl rfl fun a hf => ?_
                refine wpList_nil ?_
                refine nor_then ?_
                exact ⟨b24 == 46, (hf.cons rfl hf.nil), hO, hm⟩
              · have hm := ie hc22 hm
                refine op_pass rfl hf rfl rfl (hc22) rfl rfl fun a hf => ?_
                refine op_pass rfl hf rfl rfl (hc22) rfl rfl fun a hf => ?_
                refine op_pass rfl hf rfl rfl (hc22) rfl rfl fun a hf => ?_
                refine op_pass rfl hf rfl rfl (hc22) rfl rfl fun a hf => ?_
                refine op_pass rfl hf rfl rfl (hc22) rfl rfl fun a hf => ?_
                refine op_guard rfl hf rfl rfl (hc19) ?_
                refine op_val (ex_pick_f hf rfl hc22 rfl) rfl hf rfl rfl fun a hf => ?_
                refine op_val (ex_pick_f hf rfl hc19 rfl) rfl hf rfl rfl fun a hf => ?_
                refine op_val (ex_assign hf rfl) rfl hf rfl rfl fun a hf => ?_
                refine wpList_nil ?_
                refine nor_then ?_
                exact ⟨false, (hf.cons rfl hf.nil), hO, hm⟩
            · have hm := ie hc20 hm
              refine op_pass rfl hf rfl rfl (hc20) rfl rfl fun a hf => ?_
              refine op_pass rfl hf rfl rfl (hc20) rfl rfl fun a hf => ?_
              refine op_pass rfl hf rfl rfl (hc20) rfl rfl fun a hf => ?_
              refine op_pass rfl hf rfl rfl (hc20) rfl rfl fun a hf => ?_
              refine op_pass rfl hf rfl rfl (hc20) rfl rfl fun a hf => ?_
              refine op_guard rfl hf rfl rfl (hc19) ?_
              refine op_val (ex_pick_f hf rfl hc20 rfl) rfl hf rfl rfl fun a hf => ?_
              refine op_guard rfl hf rfl rfl (hc19) ?_
              refine op_val (ex_move hf rfl) rfl hf rfl rfl fun a hf => ?_
              refine op_pass rfl hf rfl rfl (rfl) rfl rfl fun a hf => ?_
              refine op_pass rfl hf rfl rfl (rfl) rfl rfl fun a hf => ?_
              refine op_pass rfl hf rfl rfl (rfl) rfl rfl fun a hf => ?_
              refine op_pass rfl hf rfl rfl (rfl) rfl rfl fun a hf => ?_
              refine op_pass rfl hf rfl rfl (rfl) rfl rfl fun a hf => ?_
              refine op_guard rfl hf rfl rfl (hc19) ?_
              refine op_val (ex_pick_f hf rfl rfl rfl) rfl hf rfl rfl fun a hf => ?_
              refine op_val (ex_pick_f hf rfl hc19 rfl) rfl hf rfl rfl fun a hf => ?_
              refine op_val (ex_assign hf rfl) rfl hf rfl rfl fun a hf => ?_
              refine wpList_nil ?_
              refine nor_then ?_
              exact ⟨false, (hf.cons rfl hf.nil), hO, hm⟩
        · have hm := ie hc18 hm
          refine op_pass rfl hf rfl rfl (hc18) rfl rfl fun a hf => ?_
          refine op_pass rfl hf rfl rfl (hc18) rfl rfl fun a hf => ?_
          refine op_pass rfl hf rfl rfl (hc18) rfl rfl fun a hf => ?_
          refine op_val (ex_pick_f hf rfl hc18 rfl) rfl hf rfl rfl fun a hf => ?_
          refine op_val (ex_move hf rfl) rfl hf rfl rfl fun a hf => ?_
          refine op_guard rfl hf rfl rfl (rfl) ?_
          refine op_val (ex_move hf rfl) rfl hf rfl rfl fun a hf => ?_
          refine op_guard rfl hf rfl rfl (rfl) ?_
          refine op_val (ex_gtr (m := i16) (n := 0) hf rfl rfl) rfl hf rfl rfl fun a hf => ?_
          refine op_guard rfl hf rfl rfl (rfl) ?_
          refine op_val (ex_move hf rfl) rfl hf rfl rfl fun a hf => ?_
          rcases bcase (decide (0 < i16)) with hc25 | hc25
          · have hm := it hc25 hm
            refine op_guard rfl hf rfl rfl (hc25) ?_
            refine op_val (ex_move hf rfl) rfl hf rfl rfl fun a hf => ?_
            refine op_guard rfl hf rfl rfl (hc25) ?_
            refine op_val (ex_move hf rfl) rfl hf rfl rfl fun a hf => ?_
            refine op_guard rfl hf rfl rfl (hc25) ?_
            obtain ⟨s26, hs26, hm⟩ := ob hm
            refine op_val (ex_from_s (l := r13) Tryd.underlying9 hf rfl rfl hs26) rfl hf rfl rfl fun a hf => ?_
            refine op_guard rfl hf rfl rfl (hc25) ?_
            refine op_val (ex_move hf rfl) rfl hf rfl rfl fun a hf => ?_
            refine op_guard rfl hf rfl rfl (hc25) ?_
            refine op_val (ex_eql_s (l := s26) (m := r14) hf rfl rfl) rfl hf rfl rfl fun a hf => ?_
            refine op_guard rfl hf rfl rfl (rfl) ?_
            refine op_val (ex_pick_t hf rfl hc25 rfl) rfl hf rfl rfl fun a hf => ?_
            refine op_guard rfl hf rfl rfl (rfl) ?_
            refine op_val (ex_move hf rfl) rfl hf rfl rfl fun a hf => ?_
            rcases bcase (s26 == r14) with hc27 | hc27
            · have hm := it hc27 hm
              refine op_guard rfl hf rfl rfl (hc27) ?_
              refine op_val (ex_move hf rfl) rfl hf rfl rfl fun a hf => ?_
              refine op_guard rfl hf rfl rfl (hc27) ?_
              refine op_val (ex_move hf rfl) rfl hf rfl rfl fun a hf => ?_
              refine op_guard rfl hf rfl rfl (hc27) ?_
              obtain ⟨i28, hi28, hm⟩ := ob hm
              refine op_val (ex_sub hf rfl rfl hi28) rfl hf rfl rfl fun a hf => ?_
              refine op_guard rfl hf rfl rfl (hc27) ?_
              obtain ⟨b29, hb29, hm⟩ := ob hm
              refine op_val (ex_index (l := r13) Tryd.underlying9 hf rfl rfl hb29) rfl hf rfl rfl fun a hf => ?_
              refine op_guard rfl hf rfl rfl (hc27) ?_
              refine op_val (ex_eql_b (b := b29) (c := 46) hf rfl rfl) rfl hf rfl rfl fun a hf => ?_
              refine op_guard rfl hf rfl rfl (rfl) ?_
              refine op_val (ex_pick_t hf rfl hc27 rfl) rfl hf rfl rfl fun a hf => ?_
              refine op_val (ex_pick_f hf rfl rfl rfl) rfl hf rfl rfl fun a hf => ?_
              refine op_val (ex_assign hf rfl) rfl hf rfl rfl fun a hf => ?_
              refine wpList_nil ?_
              refine nor_then ?_
              exact ⟨b29 == 46, (hf.cons rfl hf.nil), hO, hm⟩
            · have hm := ie hc27 hm
              refine op_pass rfl hf rfl rfl (hc27) rfl rfl fun a hf => ?_
              refine op_pass rfl hf rfl rfl (hc27) rfl rfl fun a hf => ?_
              refine op_pass rfl hf rfl rfl (hc27) rfl rfl fun a hf => ?_
              refine op_pass rfl hf rfl rfl (hc27) rfl rfl fun a hf => ?_
              refine op_pass rfl hf rfl rfl (hc27) rfl rfl fun a hf => ?_
              refine op_guard rfl hf rfl rfl (rfl) ?_
              refine op_val (ex_pick_f hf rfl hc27 rfl) rfl hf rfl rfl fun a hf => ?_
              refine op_val (ex_pick_f hf rfl rfl rfl) rfl hf rfl rfl fun a hf => ?_
              refine op_val (ex_assign hf rfl) rfl hf rfl rfl fun a hf => ?_
              refine wpList_nil ?_
              refine nor_then ?_
              exact ⟨false, (hf.cons rfl hf.nil), hO, hm⟩
          · have hm := ie hc25 hm
            refine op_pass rfl hf rfl rfl (hc25) rfl rfl fun a hf => ?_
            refine op_pass rfl hf rfl rfl (hc25) rfl rfl fun a hf => ?_
            refine op_pass rfl hf rfl rfl (hc25) rfl rfl fun a hf => ?_
            refine op_pass rfl hf rfl rfl (hc25) rfl rfl fun a hf => ?_
            refine op_pass rfl hf rfl rfl (hc25) rfl rfl fun a hf => ?_
            refine op_guard rfl hf rfl rfl (rfl) ?_
            refine op_val (ex_pick_f hf rfl hc25 rfl) rfl hf rfl rfl fun a hf => ?_
            refine op_guard rfl hf rfl rfl (rfl) ?_
            refine op_val (ex_move hf rfl) rfl hf rfl rfl fun a hf => ?_
            refine op_pass rfl hf rfl rfl (rfl) rfl rfl fun a hf => ?_
            refine op_pass rfl hf rfl rfl (rfl) rfl rfl fun a hf => ?_
            refine op_pass rfl hf rfl rfl (rfl) rfl rfl fun a hf => ?_
            refine op_pass rfl hf rfl rfl (rfl) rfl rfl fun a hf => ?_
            refine op_pass rfl hf rfl rfl (rfl) rfl rfl fun a hf => ?_
            refine op_guard rfl hf rfl rfl (rfl) ?_
            refine op_val (ex_pick_f hf rfl rfl rfl) rfl hf rfl rfl fun a hf => ?_
            refine op_val (ex_pick_f hf rfl rfl rfl) rfl hf rfl rfl fun a hf => ?_
            refine op_val (ex_assign hf rfl) rfl hf rfl rfl fun a hf => ?_
            refine wpList_nil ?_
            refine nor_then ?_
            exact ⟨false, (hf.cons rfl hf.nil), hO, hm⟩
      · rintro a w ⟨t30, hf, hO, hm⟩
        rw [ref08_Under_j2] at hm
        refine wp_ret ?_
        obtain rfl := Option.some.inj hm
        exact post_ret Tryd.results39 hf (.tmp rfl .nil) ⟨rfl, hO.below⟩

set_option maxHeartbeats 1000000 in
theorem w_ref29_Map (x_name : Str) (x_l : List api_Swap) (R : Str × Bool) (w0 : World) (hG : Glob w0) {x_l_p0 : Option Addr} {x_l_c0 : Nat} (hs0 : Sees w0 x_l_p0 (cells enc_api_Swap x_l)) (hc0 : x_l.length ≤ x_l_c0) (hm : ref29_Map x_name x_l = some R) :
    Calls Tryd.prog 22 #[str x_name, .slice x_l_p0 x_l.length x_l_c0] w0 fun e w' => e = .returned (.tuple #[str R.1, .bool R.2]) ∧ Below w0.heap.size w0 w' := by
  rw [ref29_Map] at hm
  refine calls_enter (vs := [str x_name, .slice x_l_p0 x_l.length x_l_c0]) Tryd.func22 rfl Tryd.ntmps22 rfl fun a hf => ?_
  have hF : Away [] := away_nil
  have hO : Dk.Own w0 [] w0 [] := Dk.Own.refl w0
  have hO := hO.addShr hs0 (by simp [Res.shared])
  refine wp_seq_k fun _ hK1 => ?_
  refine wp_region_list ?_
  refine op_val (ex_assign hf rfl) rfl hf rfl rfl fun a hf => ?_
  refine op_val (ex_assign hf rfl) rfl hf rfl rfl fun a hf => ?_
  refine wpList_nil ?_
  refine nor_then (hK1 _ _ ?_)
  refine wp_seq_k fun _ hK2 => ?_
  refine wp_region_list ?_
  refine op_val (ex_move hf rfl) rfl hf rfl rfl fun a hf => ?_
  refine op_val (ex_assign hf rfl) rfl hf rfl rfl fun a hf => ?_
  refine wpList_nil ?_
  refine nor_then (hK2 _ _ ?_)
  refine wp_seq_cut (fun a w => ∃ (s8 : Str), Fits 49 [(0, str x_name), (1, .slice x_l_p0 x_l.length x_l_c0), (6, str s8)] a ∧ Dk.Own w0 [] w [.shr x_l_p0 (cells enc_api_Swap x_l)] ∧ ref29_Map_j2 x_name x_l s8 = some R) ?_ ?_
  · refine wp_seq_cut (fun a w => ∃ (t5 : Bool), Fits 49 [(0, str x_name), (1, .slice x_l_p0 x_l.length x_l_c0), (6, str x_name), (15, .bool t5)] a ∧ Dk.Own w0 [] w [.shr x_l_p0 (cells enc_api_Swap x_l)] ∧ ref29_Map_j1 x_name x_l t5 = some R) ?_ ?_
    · refine wp_region_list ?_
      refine op_val (ex_move hf rfl) rfl hf rfl rfl fun a hf => ?_
      refine op_val (ex_neq_s (l := x_name) (m := []) hf rfl rfl) rfl hf rfl rfl fun a hf => ?_
      refine op_val (ex_move hf rfl) rfl hf rfl rfl fun a hf => ?_
      rcases bcase (!(x_name == [])) with hc3 | hc3
      · have hm := it hc3 hm
        refine op_guard rfl hf rfl rfl (hc3) ?_
        refine op_val (ex_move hf rfl) rfl hf rfl rfl fun a hf => ?_
        refine op_guard rfl hf rfl rfl (hc3) ?_
        obtain ⟨b4, hb4, hm⟩ := ob hm
        refine op_val (ex_index (l := x_name) Tryd.underlying9 hf rfl rfl hb4) rfl hf rfl rfl fun a hf => ?_
        refine op_guard rfl hf rfl rfl (hc3) ?_
        refine op_val (ex_eql_b (b := b4) (c := 46) hf rfl rfl) rfl hf rfl rfl fun a hf => ?_
        refine op_val (ex_pick_t hf rfl hc3 rfl) rfl hf rfl rfl fun a hf => ?_
        refine wpList_nil ?_
        refine nor_then ?_
        exact ⟨b4 == 46, (hf.cons rfl (hf.cons rfl (hf.cons rfl (hf.cons rfl hf.nil)))), hO, hm⟩
      · have hm := ie hc3 hm
        refine op_pass rfl hf rfl rfl (hc3) rfl rfl fun a hf => ?_
        refine op_pass rfl hf rfl rfl (hc3) rfl rfl fun a hf => ?_
        refine op_pass rfl hf rfl rfl (hc3) rfl rfl fun a hf => ?_
        refine op_val (ex_pick_f hf rfl hc3 rfl) rfl hf rfl rfl fun a hf => ?_
        refine wpList_nil ?_
        refine nor_then ?_
        exact ⟨false, (hf.cons rfl (hf.cons rfl (hf.cons rfl (hf.cons rfl hf.nil)))), hO, hm⟩
    · rintro a w ⟨t5, hf, hO, hm⟩
      rw [ref29_Map_j1] at hm
      refine wp_cond_cut hf rfl (fun hc6 => ?_) (fun hc6 => ?_)
      · have hm := it hc6 hm
        refine wp_region_list ?_
        refine op_val (ex_move hf rfl) rfl hf rfl rfl fun a hf => ?_
        obtain ⟨s7, hs7, hm⟩ := ob hm
        refine op_val (ex_from_s (l := x_name) Tryd.underlying9 hf rfl rfl hs7) rfl hf rfl rfl fun a hf => ?_
        refine op_val (ex_assign hf rfl) rfl hf rfl rfl fun a hf => ?_
        refine wpList_nil ?_
        refine nor_then ?_
        exact ⟨s7, (hf.cons rfl (hf.cons rfl (hf.cons rfl hf.nil))), hO, hm⟩
      · have hm := ie hc6 hm
        refine wp_skip ?_
        refine nor_then ?_
        exact ⟨x_name, (hf.cons rfl (hf.cons rfl (hf.cons rfl hf.nil))), hO, hm⟩
  · rintro a w ⟨s8, hf, hO, hm⟩
    rw [ref29_Map_j2] at hm
    refine wp_seq_k fun _ hK32 => ?_
    refine wp_seq_k fun _ hK9 => ?_
    refine wp_region_list ?_
    refine op_val (ex_assign hf rfl) rfl hf rfl rfl fun a hf => ?_
    refine wpList_nil ?_
    refine nor_then (hK9 _ _ ?_)
    refine wp_block ?_
    refine wp_loop_n (fun k a w => ∃ (i10 : Int), Fits 49 [(0, str x_name), (1, .slice x_l_p0 x_l.length x_l_c0), (6, str s8), (7, int i10)] a ∧ Dk.Own w0 [] w [.shr x_l_p0 (cells enc_api_Swap x_l)] ∧ ref29_Map_L3 x_name x_l s8 k i10 = some R) ?_ fuel ?_
    · rintro n3 a w ⟨i10, hf, hO, hm⟩
      obtain _ | n3 := n3
      · rw [ref29_Map_L3] at hm
        cases hm
      · rw [ref29_Map_L3] at hm
        refine wp_seq_k fun _ hK13 => ?_
        refine wp_seq_k fun _ hK11 => ?_
        refine wp_region_list ?_
        refine op_val (ex_move hf rfl) rfl hf rfl rfl fun a hf => ?_
        refine op_val (ex_move hf rfl) rfl hf rfl rfl fun a hf => ?_
        refine op_val (ex_len_l Tryd.underlying45 hf rfl) rfl hf rfl rfl fun a hf => ?_
        refine op_val (ex_lss (m := i10) (n := (x_l.length : Int)) hf rfl rfl) rfl hf rfl rfl fun a hf => ?_
        refine wpList_nil ?_
        refine nor_then (hK11 _ _ ?_)
        refine wp_cond_cut hf rfl (fun hc12 => ?_) (fun hc12 => ?_)
        · have hm := it hc12 hm
          refine wp_skip ?_
          refine nor_then (hK13 _ _ ?_)
          refine wp_seq_k fun _ hK30 => ?_
          refine wp_block ?_
          refine wp_seq_k fun _ hK18 => ?_
          refine wp_region_list ?_
          refine op_val (ex_move hf rfl) rfl hf rfl rfl fun a hf => ?_
          refine op_val (ex_move hf rfl) rfl hf rfl rfl fun a hf => ?_
          refine op_val (ex_move hf rfl) rfl hf rfl rfl fun a hf => ?_
          obtain ⟨x14, hx14, hm⟩ := ob hm
          obtain ⟨b15, o16, hix14, hSx14⟩ := elemAt (enc := enc_api_Swap) (sz := 2) (xs := x_l) 45 Tryd.underlying45 sz_62 (by decide) (fun _ => rfl) (hO.sees (i := 0) rfl) hx14
          refine op_val (ex_indexAddr hix14 hf rfl rfl) rfl hf rfl rfl fun a hf => ?_
          refine op_val (ex_field fa_62_0 hf rfl) rfl hf rfl rfl fun a hf => ?_
          refine op_val (ex_load1 (o := 0) ag_9 (hSx14 _ (hO.sees (i := 0) rfl)) rfl hf rfl) rfl hf rfl rfl fun a hf => ?_
          obtain ⟨r17, hr17, hm⟩ := ob hm
          refine op_enter (ex_call c_39 hf (vs := [str s8, str x14.From]) rfl) rfl hf rfl rfl (w_ref08_Under s8 x14.From r17 _ (hG.own hF hO) hr17) ?_
          rintro e w' ⟨he, hb⟩
          refine ⟨_, he, fun a hf => ?_⟩
          have hO := hO.grow hb
          refine wpList_nil ?_
          refine nor_then (hK18 _ _ ?_)
          refine wp_cond_cut hf rfl (fun hc19 => ?_) (fun hc19 => ?_)
          · have hm := it hc19 hm
            refine wp_seq_k fun _ hK29 => ?_
            refine wp_quiet (by kernel_rfl) (by kernel_rfl) hO ?_
            refine q_val (fun w hO => ex_move hf rfl) rfl hf rfl rfl fun a hf => ?_
            refine q_val (fun w hO => ex_move hf rfl) rfl hf rfl rfl fun a hf => ?_
            refine q_val (fun w hO => ex_len_s (l := s8) Tryd.underlying9 hf rfl) rfl hf rfl rfl fun a hf => ?_
            refine q_val (fun w hO => ex_move hf rfl) rfl hf rfl rfl fun a hf => ?_
            refine q_val (fun w hO => ex_move hf rfl) rfl hf rfl rfl fun a hf => ?_
            obtain ⟨x20, hx20, hm⟩ := ob hm
            obtain ⟨b21, o22, hix20, hSx20⟩ := elemAt (enc := enc_api_Swap) (sz := 2) (xs := x_l) 45 Tryd.underlying45 sz_62 (by decide) (fun _ => rfl) (hO.sees (i := 0) rfl) hx20
            refine q_val (fun w hO => ex_indexAddr hix20 hf rfl rfl) rfl hf rfl rfl fun a hf => ?_
            refine q_val (fun w hO => ex_field fa_62_0 hf rfl) rfl hf rfl rfl fun a hf => ?_
            refine q_val (fun w hO => ex_load1 (o := 0) ag_9 (hSx20 _ (hO.sees (i := 0) rfl)) rfl hf rfl) rfl hf rfl rfl fun a hf => ?_
            refine q_val (fun w hO => ex_len_s (l := x20.From) Tryd.underlying9 hf rfl) rfl hf rfl rfl fun a hf => ?_
            obtain ⟨i23, hi23, hm⟩ := ob hm
            refine q_val (fun w hO => ex_sub hf rfl rfl hi23) rfl hf rfl rfl fun a hf => ?_
            obtain ⟨s24, hs24, hm⟩ := ob hm
            refine q_val (fun w hO => ex_to_s (l := s8) Tryd.underlying9 hf rfl rfl hs24) rfl hf rfl rfl fun a hf => ?_
            refine q_val (fun w hO => ex_move hf rfl) rfl hf rfl rfl fun a hf => ?_
            refine q_val (fun w hO => ex_move hf rfl) rfl hf rfl rfl fun a hf => ?_
            obtain ⟨x25, hx25, hm⟩ := ob hm
            obtain ⟨b26, o27, hix25, hSx25⟩ := elemAt (enc := enc_api_Swap) (sz := 2) (xs := x_l) 45 Tryd.underlying45 sz_62 (by decide) (fun _ => rfl) (hO.sees (i := 0) rfl) hx25
            refine q_val (fun w hO => ex_indexAddr hix25 hf rfl rfl) rfl hf rfl rfl fun a hf => ?_
            refine q_val (fun w hO => ex_field fa_62_1 hf rfl) rfl hf rfl rfl fun a hf => ?_
            refine q_val (fun w hO => ex_load1 (o := 1) ag_9 (hSx25 _ (hO.sees (i := 0) rfl)) rfl hf rfl) rfl hf rfl rfl fun a hf => ?_
            obtain ⟨s28, hs28, hm⟩ := ob hm
            refine q_val (fun w hO => ex_cat (l := s24) (m := x25.To) hf rfl rfl hs28) rfl hf rfl rfl fun a hf => ?_
            refine q_val (fun w hO => ex_assign hf rfl) rfl hf rfl rfl fun a hf => ?_
            refine q_val (fun w hO => ex_assign hf rfl) rfl hf rfl rfl fun a hf => ?_
            refine wpQuiet_nil ?_
            intro w hO
            refine nor_then (hK29 _ _ ?_)
            refine wp_ret ?_
            refine ret_block ?_
            refine ret_then ?_
            refine ret_then ?_
            refine ret_block ?_
            refine ret_then ?_
            obtain rfl := Option.some.inj hm
            exact post_ret Tryd.results22 hf (.tmp rfl (.tmp rfl .nil)) ⟨rfl, hO.below⟩
          · have hm := ie hc19 hm
            refine wp_skip ?_
            refine nor_block ?_
            refine nor_then (hK30 _ _ ?_)
            refine wp_region_list ?_
            refine op_val (ex_move hf rfl) rfl hf rfl rfl fun a hf => ?_
            obtain ⟨i31, hi31, hm⟩ := ob hm
            refine op_val (ex_add hf rfl rfl hi31) rfl hf rfl rfl fun a hf => ?_
            refine op_val (ex_assign hf rfl) rfl hf rfl rfl fun a hf => ?_
            refine wpList_nil ?_
            refine nor_then ?_
            exact ⟨_, Nat.lt_succ_self _, i31, (hf.cons rfl (hf.cons rfl (hf.cons rfl (hf.cons rfl hf.nil)))), hO, hm⟩
        · have hm := ie hc12 hm
          refine wp_exit ?_
          refine exit_then ?_
          refine exit_then ?_
          refine exit_here ?_
          refine nor_then (hK32 _ _ ?_)
          refine wp_seq_k fun _ hK33 => ?_
          refine wp_region_list ?_
          refine op_val (ex_move hf rfl) rfl hf rfl rfl fun a hf => ?_
          refine op_val (ex_assign hf rfl) rfl hf rfl rfl fun a hf => ?_
          refine op_val (ex_assign hf rfl) rfl hf rfl rfl fun a hf => ?_
          refine wpList_nil ?_
          refine nor_then (hK33 _ _ ?_)
          refine wp_ret ?_
          obtain rfl := Option.some.inj hm
          exact post_ret Tryd.results22 hf (.tmp rfl (.tmp rfl .nil)) ⟨rfl, hO.below⟩
    · exact ⟨0, (hf.cons rfl (hf.cons rfl (hf.cons rfl (hf.cons rfl hf.nil)))), hO, hm⟩

set_option maxHeartbeats 1000000 in
theorem w_ref29_Check (x_l : List api_Swap) (R : Int) (w0 : World) (hG : Glob w0) {x_l_p0 : Option Addr} {x_l_c0 : Nat} (hs0 : Sees w0 x_l_p0 (cells enc_api_Swap x_l)) (hc0 : x_l.length ≤ x_l_c0) (hm : ref29_Check x_l = some R) :
    Calls Tryd.prog 24 #[.slice x_l_p0 x_l.length x_l_c0] w0 fun e w' => e = .returned (int R) ∧ Below w0.heap.size w0 w' := by
  rw [ref29_Check] at hm
  refine calls_enter (vs := [.slice x_l_p0 x_l.length x_l_c0]) Tryd.func24 rfl Tryd.ntmps24 rfl fun a hf => ?_
  have hF : Away [] := away_nil
  have hO : Dk.Own w0 [] w0 [] := Dk.Own.refl w0
  have hO := hO.addShr hs0 (by simp [Res.shared])
  refine wp_seq_k fun _ hK1 => ?_
  refine wp_region_list ?_
  refine op_val (ex_assign hf rfl) rfl hf rfl rfl fun a hf => ?_
  refine wpList_nil ?_
  refine nor_then (hK1 _ _ ?_)
  refine wp_seq_k fun _ hK40 => ?_
  refine wp_seq_k fun _ hK2 => ?_
  refine wp_region_list ?_
  refine op_val (ex_assign hf rfl) rfl hf rfl rfl fun a hf => ?_
  refine wpList_nil ?_
  refine nor_then (hK2 _ _ ?_)
  refine wp_block ?_
  refine wp_loop_n (fun k a w => ∃ (i3 : Int), Fits 58 [(0, .slice x_l_p0 x_l.length x_l_c0), (3, int i3)] a ∧ Dk.Own w0 [] w [.shr x_l_p0 (cells enc_api_Swap x_l)] ∧ ref29_Check_L1 x_l k i3 = some R) ?_ fuel ?_
  · rintro n1 a w ⟨i3, hf, hO, hm⟩
    obtain _ | n1 := n1
    · rw [ref29_Check_L1] at hm
      cases hm
    · rw [ref29_Check_L1] at hm
      refine wp_seq_k fun _ hK6 => ?_
      refine wp_seq_k fun _ hK4 => ?_
      refine wp_region_list ?_
      refine op_val (ex_move hf rfl) rfl hf rfl rfl fun a hf => ?_
      refine op_val (ex_move hf rfl) rfl hf rfl rfl fun a hf => ?_
      refine op_val (ex_len_l Tryd.underlying45 hf rfl) rfl hf rfl rfl fun a hf => ?_
      refine op_val (ex_lss (m := i3) (n := (x_l.length : Int)) hf rfl rfl) rfl hf rfl rfl fun a hf => ?_
      refine wpList_nil ?_
      refine nor_then (hK4 _ _ ?_)
      refine wp_cond_cut hf rfl (fun hc5 => ?_) (fun hc5 => ?_)
      · have hm := it hc5 hm
        refine wp_skip ?_
        refine nor_then (hK6 _ _ ?_)
        refine wp_seq_k fun _ hK38 => ?_
        refine wp_block ?_
        refine wp_seq_k fun _ hK13 => ?_
        refine wp_quiet (by kernel_rfl) (by kernel_rfl) hO ?_
        refine q_val (fun w hO => ex_move hf rfl) rfl hf rfl rfl fun a hf => ?_
        refine q_val (fun w hO => ex_move hf rfl) rfl hf rfl rfl fun a hf => ?_
        obtain ⟨x7, hx7, hm⟩ := ob hm
        obtain ⟨b8, o9, hix7, hSx7⟩ := elemAt (enc := enc_api_Swap) (sz := 2) (xs := x_l) 45 Tryd.underlying45 sz_62 (by decide) (fun _ => rfl) (hO.sees (i := 0) rfl) hx7
        refine q_val (fun w hO => ex_indexAddr hix7 hf rfl rfl) rfl hf rfl rfl fun a hf => ?_
        refine q_val (fun w hO => ex_field fa_62_0 hf rfl) rfl hf rfl rfl fun a hf => ?_
        refine q_val (fun w hO => ex_load1 (o := 0) ag_9 (hSx7 _ (hO.sees (i := 0) rfl)) rfl hf rfl) rfl hf rfl rfl fun a hf => ?_
        refine q_val (fun w hO => ex_move hf rfl) rfl hf rfl rfl fun a hf => ?_
        refine q_val (fun w hO => ex_move hf rfl) rfl hf rfl rfl fun a hf => ?_
        obtain ⟨x10, hx10, hm⟩ := ob hm
        obtain ⟨b11, o12, hix10, hSx10⟩ := elemAt (enc := enc_api_Swap) (sz := 2) (xs := x_l) 45 Tryd.underlying45 sz_62 (by decide) (fun _ => rfl) (hO.sees (i := 0) rfl) hx10
        refine q_val (fun w hO => ex_indexAddr hix10 hf rfl rfl) rfl hf rfl rfl fun a hf => ?_
        refine q_val (fun w hO => ex_field fa_62_1 hf rfl) rfl hf rfl rfl fun a hf => ?_
        refine q_val (fun w hO => ex_load1 (o := 1) ag_9 (hSx10 _ (hO.sees (i := 0) rfl)) rfl hf rfl) rfl hf rfl rfl fun a hf => ?_
        refine q_val (fun w hO => ex_assign hf rfl) rfl hf rfl rfl fun a hf => ?_
        refine q_val (fun w hO => ex_assign hf rfl) rfl hf rfl rfl fun a hf => ?_
        refine wpQuiet_nil ?_
        intro w hO
        refine nor_then (hK13 _ _ ?_)
        refine wp_seq_k fun _ hK24 => ?_
        refine wp_seq_cut (fun a w => ∃ (t21 : Bool), Fits 58 [(0, .slice x_l_p0 x_l.length x_l_c0), (3, int i3), (5, str x10.To), (38, .bool t21)] a ∧ Dk.Own w0 [] w [.shr x_l_p0 (cells enc_api_Swap x_l)] ∧ ref29_Check_j2 (ref29_Check_L1 x_l n1) i3 x10 t21 = some R) ?_ ?_
        · refine wp_region_list ?_
          refine op_val (ex_move hf rfl) rfl hf rfl rfl fun a hf => ?_
          obtain ⟨r14, hr14, hm⟩ := ob hm
          refine op_enter (ex_call c_42 hf (vs := [str x7.From]) rfl) rfl hf rfl rfl (w_ref08_Name x7.From r14 _ (hG.own hF hO) hr14) ?_
          rintro e w' ⟨he, hb⟩
          refine ⟨_, he, fun a hf => ?_⟩
          have hO := hO.grow hb
          refine op_val (ex_not hf rfl) rfl hf rfl rfl fun a hf => ?_
          refine op_val (ex_move hf rfl) rfl hf rfl rfl fun a hf => ?_
          rcases bcase (!r14) with hc15 | hc15
          · have hm := it hc15 hm
            refine op_pass rfl hf rfl rfl (hc15) rfl rfl fun a hf => ?_
            refine op_pass rfl hf rfl rfl (hc15) rfl rfl fun a hf => ?_
            refine op_val (ex_pick_t hf rfl hc15 rfl) rfl hf rfl rfl fun a hf => ?_
            refine op_val (ex_move hf rfl) rfl hf rfl rfl fun a hf => ?_
            refine op_pass rfl hf rfl rfl (rfl) rfl rfl fun a hf => ?_
            refine op_pass rfl hf rfl rfl (rfl) rfl rfl fun a hf => ?_
            refine op_pass rfl hf rfl rfl (rfl) rfl rfl fun a hf => ?_
            refine op_val (ex_pick_t hf rfl rfl rfl) rfl hf rfl rfl fun a hf => ?_
            refine op_val (ex_move hf rfl) rfl hf rfl rfl fun a hf => ?_
            refine op_pass rfl hf rfl rfl (rfl) rfl rfl fun a hf => ?_
            refine op_pass rfl hf rfl rfl (rfl) rfl rfl fun a hf => ?_
            refine op_val (ex_pick_t hf rfl rfl rfl) rfl hf rfl rfl fun a hf => ?_
            refine wpList_nil ?_
            refine nor_then ?_
            exact ⟨true, (hf.cons rfl (hf.cons rfl (hf.cons rfl (hf.cons rfl hf.nil)))), hO, hm⟩
          · have hm := ie hc15 hm
            refine op_guard rfl hf rfl rfl (hc15) ?_
            refine op_val (ex_move hf rfl) rfl hf rfl rfl fun a hf => ?_
            refine op_guard rfl hf rfl rfl (hc15) ?_
            obtain ⟨r16, hr16, hm⟩ := ob hm
            refine op_enter (ex_call c_43 hf (vs := [str x7.From]) rfl) rfl hf rfl rfl (w_ref08_Four x7.From r16 _ (hG.own hF hO) hr16) ?_
            rintro e w' ⟨he, hb⟩
            refine ⟨_, he, fun a hf => ?_⟩
            have hO := hO.grow hb
            refine op_val (ex_pick_f hf rfl hc15 rfl) rfl hf rfl rfl fun a hf => ?_
            refine op_val (ex_move hf rfl) rfl hf rfl rfl fun a hf => ?_
            rcases bcase (r16) with hc17 | hc17
            · have hm := it hc17 hm
              refine op_pass rfl hf rfl rfl (hc17) rfl rfl fun a hf => ?_
              refine op_pass rfl hf rfl rfl (hc17) rfl rfl fun a hf => ?_
              refine op_pass rfl hf rfl rfl (hc17) rfl rfl fun a hf => ?_
              refine op_val (ex_pick_t hf rfl hc17 rfl) rfl hf rfl rfl fun a hf => ?_
              refine op_val (ex_move hf rfl) rfl hf rfl rfl fun a hf => ?_
              refine op_pass rfl hf rfl rfl (rfl) rfl rfl fun a hf => ?_
              refine op_pass rfl hf rfl rfl (rfl) rfl rfl fun a hf => ?_
              refine op_val (ex_pick_t hf rfl rfl rfl) rfl hf rfl rfl fun a hf => ?_
              refine wpList_nil ?_
              refine nor_then ?_
              exact ⟨true, (hf.cons rfl (hf.cons rfl (hf.cons rfl (hf.cons rfl hf.nil)))), hO, hm⟩
            · have hm := ie hc17 hm
              refine op_guard rfl hf rfl rfl (hc17) ?_
              refine op_val (ex_move hf rfl) rfl hf rfl rfl fun a hf => ?_
              refine op_guard rfl hf rfl rfl (hc17) ?_
              obtain ⟨r18, hr18, hm⟩ := ob hm
              refine op_enter (ex_call c_42 hf (vs := [str x10.To]) rfl) rfl hf rfl rfl (w_ref08_Name x10.To r18 _ (hG.own hF hO) hr18) ?_
              rintro e w' ⟨he, hb⟩
              refine ⟨_, he, fun a hf => ?_⟩
              have hO := hO.grow hb
              refine op_guard rfl hf rfl rfl (hc17) ?_
              refine op_val (ex_not hf rfl) rfl hf rfl rfl fun a hf => ?_
              refine op_val (ex_pick_f hf rfl hc17 rfl) rfl hf rfl rfl fun a hf => ?_
              refine op_val (ex_move hf rfl) rfl hf rfl rfl fun a hf => ?_
              rcases bcase (!r18) with hc19 | hc19
              · have hm := it hc19 hm
                refine op_pass rfl hf rfl rfl (hc19) rfl rfl fun a hf => ?_
                refine op_pass rfl hf rfl rfl (hc19) rfl rfl fun a hf => ?_
                refine op_val (ex_pick_t hf rfl hc19 rfl) rfl hf rfl rfl fun a hf => ?_
                refine wpList_nil ?_
                refine nor_then ?_
                exact ⟨true, (hf.cons rfl (hf.cons rfl (hf.cons rfl (hf.cons rfl hf.nil)))), hO, hm⟩
              · have hm := ie hc19 hm
                refine op_guard rfl hf rfl rfl (hc19) ?_
                refine op_val (ex_move hf rfl) rfl hf rfl rfl fun a hf => ?_
                refine op_guard rfl hf rfl rfl (hc19) ?_
                obtain ⟨r20, hr20, hm⟩ := ob hm
                refine op_enter (ex_call c_43 hf (vs := [str x10.To]) rfl) rfl hf rfl rfl (w_ref08_Four x10.To r20 _ (hG.own hF hO) hr20) ?_
                rintro e w' ⟨he, hb⟩
                refine ⟨_, he, fun a hf => ?_⟩
                have hO := hO.grow hb
                refine op_val (ex_pick_f hf rfl hc19 rfl) rfl hf rfl rfl fun a hf => ?_
                refine wpList_nil ?_
                refine nor_then ?_
                exact ⟨r20, (hf.cons rfl (hf.cons rfl (hf.cons rfl (hf.cons rfl hf.nil)))), hO, hm⟩
        · rintro a w ⟨t21, hf, hO, hm⟩
          rw [ref29_Check_j2] at hm
          refine wp_cond_cut hf rfl (fun hc22 => ?_) (fun hc22 => ?_)
          · have hm := it hc22 hm
            refine wp_seq_k fun _ hK23 => ?_
            refine wp_region_list ?_
            refine op_val (ex_assign hf rfl) rfl hf rfl rfl fun a hf => ?_
            refine wpList_nil ?_
            refine nor_then (hK23 _ _ ?_)
            refine wp_ret ?_
            refine ret_then ?_
            refine ret_block ?_
            refine ret_then ?_
            refine ret_then ?_
            refine ret_block ?_
            refine ret_then ?_
            obtain rfl := Option.some.inj hm
            exact post_ret Tryd.results24 hf (.tmp rfl .nil) ⟨rfl, hO.below⟩
          · have hm := ie hc22 hm
            refine wp_skip ?_
            refine nor_then (hK24 _ _ ?_)
            refine wp_seq_k fun _ hK25 => ?_
            refine wp_region_list ?_
            refine op_val (ex_assign hf rfl) rfl hf rfl rfl fun a hf => ?_
            refine wpList_nil ?_
            refine nor_then (hK25 _ _ ?_)
            refine wp_block ?_
            refine wp_loop_n (fun k a w => ∃ (i26 : Int), Fits 58 [(0, .slice x_l_p0 x_l.length x_l_c0), (3, int i3), (5, str x10.To), (6, int i26)] a ∧ Dk.Own w0 [] w [.shr x_l_p0 (cells enc_api_Swap x_l)] ∧ ref29_Check_L3 (ref29_Check_L1 x_l n1) i3 x10 k i26 = some R) ?_ fuel ?_
            · rintro n3 a w ⟨i26, hf, hO, hm⟩
              obtain _ | n3 := n3
              · rw [ref29_Check_L3] at hm
                cases hm
              · rw [ref29_Check_L3] at hm
                refine wp_seq_k fun _ hK29 => ?_
                refine wp_seq_k fun _ hK27 => ?_
                refine wp_region_list ?_
                refine op_val (ex_move hf rfl) rfl hf rfl rfl fun a hf => ?_
                refine op_val (ex_move hf rfl) rfl hf rfl rfl fun a hf => ?_
                refine op_val (ex_len_s (l := x10.To) Tryd.underlying9 hf rfl) rfl hf rfl rfl fun a hf => ?_
                refine op_val (ex_lss (m := i26) (n := (x10.To.length : Int)) hf rfl rfl) rfl hf rfl rfl fun a hf => ?_
                refine wpList_nil ?_
                refine nor_then (hK27 _ _ ?_)
                refine wp_cond_cut hf rfl (fun hc28 => ?_) (fun hc28 => ?_)
                · have hm := it hc28 hm
                  refine wp_skip ?_
                  refine nor_then (hK29 _ _ ?_)
                  refine wp_seq_k fun _ hK36 => ?_
                  refine wp_block ?_
                  refine wp_seq_cut (fun a w => ∃ (t33 : Bool), Fits 58 [(0, .slice x_l_p0 x_l.length x_l_c0), (3, int i3), (5, str x10.To), (6, int i26), (54, .bool t33)] a ∧ Dk.Own w0 [] w [.shr x_l_p0 (cells enc_api_Swap x_l)] ∧ ref29_Check_j4 (ref29_Check_L3 (ref29_Check_L1 x_l n1) i3 x10 n3) i26 t33 = some R) ?_ ?_
                  · refine wp_region_list ?_
                    refine op_val (ex_move hf rfl) rfl hf rfl rfl fun a hf => ?_
                    refine op_val (ex_move hf rfl) rfl hf rfl rfl fun a hf => ?_
                    obtain ⟨b30, hb30, hm⟩ := ob hm
                    refine op_val (ex_index (l := x10.To) Tryd.underlying9 hf rfl rfl hb30) rfl hf rfl rfl fun a hf => ?_
                    refine op_val (ex_eql_b (b := b30) (c := 44) hf rfl rfl) rfl hf rfl rfl fun a hf => ?_
                    refine op_val (ex_move hf rfl) rfl hf rfl rfl fun a hf => ?_
                    rcases bcase (b30 == 44) with hc31 | hc31
                    · have hm := it hc31 hm
                      refine op_pass rfl hf rfl rfl (hc31) rfl rfl fun a hf => ?_
                      refine op_pass rfl hf rfl rfl (hc31) rfl rfl fun a hf => ?_
                      refine op_pass rfl hf rfl rfl (hc31) rfl rfl fun a hf => ?_
                      refine op_pass rfl hf rfl rfl (hc31) rfl rfl fun a hf => ?_
                      refine op_val (ex_pick_t hf rfl hc31 rfl) rfl hf rfl rfl fun a hf => ?_
                      refine wpList_nil ?_
                      refine nor_then ?_
                      exact ⟨true, (hf.cons rfl (hf.cons rfl (hf.cons rfl (hf.cons rfl (hf.cons rfl hf.nil))))), hO, hm⟩
                    · have hm := ie hc31 hm
                      refine op_guard rfl hf rfl rfl (hc31) ?_
                      refine op_val (ex_move hf rfl) rfl hf rfl rfl fun a hf => ?_
                      refine op_guard rfl hf rfl rfl (hc31) ?_
                      refine op_val (ex_move hf rfl) rfl hf rfl rfl fun a hf => ?_
                      refine op_guard rfl hf rfl rfl (hc31) ?_
                      obtain ⟨b32, hb32, hm⟩ := ob hm
                      refine op_val (ex_index (l := x10.To) Tryd.underlying9 hf rfl rfl hb32) rfl hf rfl rfl fun a hf => ?_
                      refine op_guard rfl hf rfl rfl (hc31) ?_
                      refine op_val (ex_eql_b (b := b32) (c := 59) hf rfl rfl) rfl hf rfl rfl fun a hf => ?_
                      refine op_val (ex_pick_f hf rfl hc31 rfl) rfl hf rfl rfl fun a hf => ?_
                      refine wpList_nil ?_
                      refine nor_then ?_
                      exact ⟨b32 == 59, (hf.cons rfl (hf.cons rfl (hf.cons rfl (hf.cons rfl (hf.cons rfl hf.nil))))), hO, hm⟩
                  · rintro a w ⟨t33, hf, hO, hm⟩
                    rw [ref29_Check_j4] at hm
                    refine wp_cond_cut hf rfl (fun hc34 => ?_) (fun hc34 => ?_)
                    · have hm := it hc34 hm
                      refine wp_seq_k fun _ hK35 => ?_
                      refine wp_region_list ?_
                      refine op_val (ex_assign hf rfl) rfl hf rfl rfl fun a hf => ?_
                      refine wpList_nil ?_
                      refine nor_then (hK35 _ _ ?_)
                      refine wp_ret ?_
                      refine ret_block ?_
                      refine ret_then ?_
                      refine ret_then ?_
                      refine ret_block ?_
                      refine ret_block ?_
                      refine ret_then ?_
                      refine ret_then ?_
                      refine ret_block ?_
                      refine ret_then ?_
                      obtain rfl := Option.some.inj hm
                      exact post_ret Tryd.results24 hf (.tmp rfl .nil) ⟨rfl, hO.below⟩
                    · have hm := ie hc34 hm
                      refine wp_skip ?_
                      refine nor_block ?_
                      refine nor_then (hK36 _ _ ?_)
                      refine wp_region_list ?_
                      refine op_val (ex_move hf rfl) rfl hf rfl rfl fun a hf => ?_
                      obtain ⟨i37, hi37, hm⟩ := ob hm
                      refine op_val (ex_add hf rfl rfl hi37) rfl hf rfl rfl fun a hf => ?_
                      refine op_val (ex_assign hf rfl) rfl hf rfl rfl fun a hf => ?_
                      refine wpList_nil ?_
                      refine nor_then ?_
                      exact ⟨_, Nat.lt_succ_self _, i37, (hf.cons rfl (hf.cons rfl (hf.cons rfl (hf.cons rfl hf.nil)))), hO, hm⟩
                · have hm := ie hc28 hm
                  refine wp_exit ?_
                  refine exit_then ?_
                  refine exit_then ?_
                  refine exit_here ?_
                  refine nor_block ?_
                  refine nor_then (hK38 _ _ ?_)
                  refine wp_region_list ?_
                  refine op_val (ex_move hf rfl) rfl hf rfl rfl fun a hf => ?_
                  obtain ⟨i39, hi39, hm⟩ := ob hm
                  refine op_val (ex_add hf rfl rfl hi39) rfl hf rfl rfl fun a hf => ?_
                  refine op_val (ex_assign hf rfl) rfl hf rfl rfl fun a hf => ?_
                  refine wpList_nil ?_
                  refine nor_then ?_
                  exact ⟨_, Nat.lt_succ_self _, i39, (hf.cons rfl (hf.cons rfl hf.nil)), hO, hm⟩
            · exact ⟨0, (hf.cons rfl (hf.cons rfl (hf.cons rfl (hf.cons rfl hf.nil)))), hO, hm⟩
      · have hm := ie hc5 hm
        refine wp_exit ?_
        refine exit_then ?_
        refine exit_then ?_
        refine exit_here ?_
        refine nor_then (hK40 _ _ ?_)
        refine wp_seq_k fun _ hK44 => ?_
        refine wp_seq_k fun _ hK41 => ?_
        refine wp_region_list ?_
        refine op_val (ex_move hf rfl) rfl hf rfl rfl fun a hf => ?_
        refine op_val (ex_len_l Tryd.underlying45 hf rfl) rfl hf rfl rfl fun a hf => ?_
        refine op_val (ex_gtr (m := (x_l.length : Int)) (n := 64) hf rfl rfl) rfl hf rfl rfl fun a hf => ?_
        refine wpList_nil ?_
        refine nor_then (hK41 _ _ ?_)
        refine wp_cond_cut hf rfl (fun hc42 => ?_) (fun hc42 => ?_)
        · have hm := it hc42 hm
          refine wp_seq_k fun _ hK43 => ?_
          refine wp_region_list ?_
          refine op_val (ex_assign hf rfl) rfl hf rfl rfl fun a hf => ?_
          refine wpList_nil ?_
          refine nor_then (hK43 _ _ ?_)
          refine wp_ret ?_
          refine ret_then ?_
          obtain rfl := Option.some.inj hm
          exact post_ret Tryd.results24 hf (.tmp rfl .nil) ⟨rfl, hO.below⟩
        · have hm := ie hc42 hm
          refine wp_skip ?_
          refine nor_then (hK44 _ _ ?_)
          refine wp_seq_k fun _ hK45 => ?_
          refine wp_region_list ?_
          refine op_val (ex_assign hf rfl) rfl hf rfl rfl fun a hf => ?_
          refine wpList_nil ?_
          refine nor_then (hK45 _ _ ?_)
          refine wp_ret ?_
          obtain rfl := Option.some.inj hm
          exact post_ret Tryd.results24 hf (.tmp rfl .nil) ⟨rfl, hO.below⟩
  · exact ⟨0, (hf.cons rfl (hf.cons rfl hf.nil)), hO, hm⟩

set_option maxHeartbeats 1000000 in
theorem w_law29_DomainsMaps (x_name : Str) (x_l : List api_Swap) (R : Bool) (w0 : World) (hG : GlobT w0) {x_l_p0 : Option Addr} {x_l_c0 : Nat} (hs0 : Sees w0 x_l_p0 (cells enc_api_Swap x_l)) (hc0 : x_l.length ≤ x_l_c0) (hm : law29_DomainsMaps x_name x_l = some R) :
    Calls Tryd.prog 6 #[str x_name, .slice x_l_p0 x_l.length x_l_c0] w0 fun e w' => e = .returned (.bool R) ∧ Below w0.heap.size w0 w' := by
  rw [law29_DomainsMaps] at hm
  refine calls_enter (vs := [str x_name, .slice x_l_p0 x_l.length x_l_c0]) Tryd.func6 rfl Tryd.ntmps6 rfl fun a hf => ?_
  have hF : Away [] := away_nil
  have hO : Dk.Own w0 [] w0 [] := Dk.Own.refl w0
  have hO := hO.addShr hs0 (by simp [Res.shared])
  refine wp_seq_k fun _ hK1 => ?_
  refine wp_region_list ?_
  refine op_val (ex_assign hf rfl) rfl hf rfl rfl fun a hf => ?_
  refine wpList_nil ?_
  refine nor_then (hK1 _ _ ?_)
  refine wp_seq_k fun _ hK6 => ?_
  refine wp_seq_k fun _ hK3 => ?_
  refine wp_region_list ?_
  obtain ⟨r2, hr2, hm⟩ := ob hm
  refine op_enter (ex_call c_19 hf (vs := []) rfl) rfl hf rfl rfl (w_law29_awake r2 _ (hG.own hF hO) hr2) ?_
  rintro e w' ⟨he, hb⟩
  refine ⟨_, he, fun a hf => ?_⟩
  have hO := hO.grow hb
  refine op_val (ex_not hf rfl) rfl hf rfl rfl fun a hf => ?_
  refine wpList_nil ?_
  refine nor_then (hK3 _ _ ?_)
  refine wp_cond_cut hf rfl (fun hc4 => ?_) (fun hc4 => ?_)
  · have hm := it hc4 hm
    refine wp_seq_k fun _ hK5 => ?_
    refine wp_region_list ?_
    refine op_val (ex_assign hf rfl) rfl hf rfl rfl fun a hf => ?_
    refine wpList_nil ?_
    refine nor_then (hK5 _ _ ?_)
    refine wp_ret ?_
    refine ret_then ?_
    obtain rfl := Option.some.inj hm
    exact post_ret Tryd.results6 hf (.tmp rfl .nil) ⟨rfl, hO.below⟩
  · have hm := ie hc4 hm
    refine wp_skip ?_
    refine nor_then (hK6 _ _ ?_)
    refine wp_seq_k fun _ hK11 => ?_
    obtain ⟨s7, hs7, hm⟩ := ob hm
    obtain ⟨r8, hr8, hm⟩ := ob hm
    refine wp_drawS' (S := Option Addr × Nat) (E0 := [(0, str x_name), (1, .slice x_l_p0 x_l.length x_l_c0)]) (by kernel_rfl) (fun k σ w => match k with | 0 => Dk.Own w0 [] w [.shr x_l_p0 (cells enc_api_Swap x_l)] | _ => Dk.Own w0 [] w [.row (.slice (σ.1) r8.length (σ.2)) 62 2 r8.length (cells enc_api_Swap r8), .shr x_l_p0 (cells enc_api_Swap x_l)]) (fun σ => [⟨[(0, str x_name)], some (11, str x_name)⟩, ⟨[(0, str x_name)], some (12, str x_name)⟩, ⟨[(12, str x_name)], some (13, int (x_name.length : Int))⟩, ⟨[(13, int (x_name.length : Int))], some (14, int (min (x_name.length : Int) 100))⟩, ⟨[(11, str x_name), (14, int (min (x_name.length : Int) 100))], some (15, str s7)⟩, ⟨[(1, .slice x_l_p0 x_l.length x_l_c0)], some (16, .slice x_l_p0 x_l.length x_l_c0)⟩, ⟨[(16, .slice x_l_p0 x_l.length x_l_c0)], some (17, .slice (σ.1) r8.length (σ.2))⟩, ⟨[(15, str s7)], some (0, str s7)⟩, ⟨[(17, .slice (σ.1) r8.length (σ.2))], some (1, .slice (σ.1) r8.length (σ.2))⟩]) (none, 0) [6] rfl (fun _ => rfl) (fun _ => rfl) (fun _ => rfl) rfl rfl (by decide) rfl hO.drew (hf.cons rfl (hf.cons rfl hf.nil)) (fun σ => ⟨⟨rfl, trivial⟩, ⟨⟨rfl, trivial⟩, ⟨⟨rfl, trivial⟩, ⟨⟨rfl, trivial⟩, ⟨⟨rfl, ⟨rfl, trivial⟩⟩, ⟨⟨rfl, trivial⟩, ⟨⟨rfl, trivial⟩, ⟨⟨rfl, trivial⟩, ⟨⟨rfl, trivial⟩, trivial⟩⟩⟩⟩⟩⟩⟩⟩⟩) ⟨sS_pure rfl (fun σ => rfl) (fun σ => rfl) (fun σ a w k _ _ _ _ hf => ex_move hf rfl), ⟨sS_pure rfl (fun σ => rfl) (fun σ => rfl) (fun σ a w k _ _ _ _ hf => ex_move hf rfl), ⟨sS_pure rfl (fun σ => rfl) (fun σ => rfl) (fun σ a w k _ _ _ _ hf => ex_len_s (l := x_name) Tryd.underlying9 hf rfl), ⟨sS_pure rfl (fun σ => rfl) (fun σ => rfl) (fun σ a w k _ _ _ _ hf => ex_min (m := (x_name.length : Int)) (n := 100) hf rfl rfl), ⟨sS_pure rfl (fun σ => rfl) (fun σ => rfl) (fun σ a w k _ _ _ _ hf => ex_to_s (l := x_name) Tryd.underlying9 hf rfl rfl hs7), ⟨sS_pure rfl (fun σ => rfl) (fun σ => rfl) (fun σ a w k _ _ _ _ hf => ex_move hf rfl), ⟨sS_call rfl (fun σ => rfl) (fun σ => rfl) rfl (fun σ a w (_ : _) hf => ex_call c_20 hf (vs := [.slice x_l_p0 x_l.length x_l_c0]) rfl) (fun σ w (hO : Dk.Own w0 [] w [.shr x_l_p0 (cells enc_api_Swap x_l)]) => (w_law29_Few x_l r8 _ (hG.own hF hO).1 (hO.sees (i := 0) rfl) hc0 hr8).mono fun e w' h => by obtain ⟨p9, c10, he, hO'⟩ := h; exact ⟨(p9, c10), he, hO.call hO' (by simp [Res.shared]), ⟨.inr rfl, ⟨.inr rfl, ⟨.inr rfl, ⟨.inr rfl, ⟨.inr rfl, ⟨.inr rfl, ⟨.inl rfl, ⟨.inr rfl, ⟨.inl rfl, trivial⟩⟩⟩⟩⟩⟩⟩⟩⟩⟩), ⟨sS_pure rfl (fun σ => rfl) (fun σ => rfl) (fun σ a w k _ _ _ _ hf => ex_assign hf rfl), ⟨sS_pure rfl (fun σ => rfl) (fun σ => rfl) (fun σ a w k _ _ _ _ hf => ex_assign hf rfl), trivial⟩⟩⟩⟩⟩⟩⟩⟩⟩ ?_
    rintro ⟨p9, c10⟩ a w hf hO
    have hO : Dk.Own w0 [] w [.row (.slice p9 r8.length c10) 62 2 r8.length (cells enc_api_Swap r8), .shr x_l_p0 (cells enc_api_Swap x_l)] := hO
    have hf : Fits 45 [(0, str s7), (1, .slice p9 r8.length c10)] a := (hf.cons rfl (hf.cons rfl hf.nil))
    refine nor_then (hK11 _ _ ?_)
    refine wp_seq_k fun _ hK13 => ?_
    refine wp_region_list ?_
    refine op_val (ex_move hf rfl) rfl hf rfl rfl fun a hf => ?_
    refine op_val (ex_move hf rfl) rfl hf rfl rfl fun a hf => ?_
    obtain ⟨r12, hr12, hm⟩ := ob hm
    refine op_enter (ex_call c_21 hf (vs := [str s7, .slice p9 r8.length c10]) rfl) rfl hf rfl rfl (w_domains_Map s7 r8 r12 _ (hG.own hF hO) (hO.rowSees (i := 0) rfl) (hO.rowCap (i := 0) rfl) hr12) ?_
    rintro e w' ⟨he, hb⟩
    refine ⟨_, he, fun a hf => ?_⟩
    have hO := hO.grow hb
    refine op_val (ex_move hf rfl) rfl hf rfl rfl fun a hf => ?_
    refine op_val (ex_extract hf rfl rfl) rfl hf rfl rfl fun a hf => ?_
    refine op_val (ex_extract hf rfl rfl) rfl hf rfl rfl fun a hf => ?_
    refine op_val (ex_assign hf rfl) rfl hf rfl rfl fun a hf => ?_
    refine op_val (ex_assign hf rfl) rfl hf rfl rfl fun a hf => ?_
    refine wpList_nil ?_
    refine nor_then (hK13 _ _ ?_)
    refine wp_seq_k fun _ hK15 => ?_
    refine wp_region_list ?_
    refine op_val (ex_move hf rfl) rfl hf rfl rfl fun a hf => ?_
    refine op_val (ex_move hf rfl) rfl hf rfl rfl fun a hf => ?_
    obtain ⟨r14, hr14, hm⟩ := ob hm
    refine op_enter (ex_call c_22 hf (vs := [str s7, .slice p9 r8.length c10]) rfl) rfl hf rfl rfl (w_ref29_Map s7 r8 r14 _ (hG.own hF hO).1 (hO.rowSees (i := 0) rfl) (hO.rowCap (i := 0) rfl) hr14) ?_
    rintro e w' ⟨he, hb⟩
    refine ⟨_, he, fun a hf => ?_⟩
    have hO := hO.grow hb
    refine op_val (ex_move hf rfl) rfl hf rfl rfl fun a hf => ?_
    refine op_val (ex_extract hf rfl rfl) rfl hf rfl rfl fun a hf => ?_
    refine op_val (ex_extract hf rfl rfl) rfl hf rfl rfl fun a hf => ?_
    refine op_val (ex_assign hf rfl) rfl hf rfl rfl fun a hf => ?_
    refine op_val (ex_assign hf rfl) rfl hf rfl rfl fun a hf => ?_
    refine wpList_nil ?_
    refine nor_then (hK15 _ _ ?_)
    refine wp_seq_cut (fun a w => ∃ (t20 : Bool), Fits 45 [(4, .bool t20)] a ∧ Dk.Own w0 [] w [.row (.slice p9 r8.length c10) 62 2 r8.length (cells enc_api_Swap r8), .shr x_l_p0 (cells enc_api_Swap x_l)] ∧ law29_DomainsMaps_j1 t20 = some R) ?_ ?_
    · refine wp_region_list ?_
      refine op_val (ex_move hf rfl) rfl hf rfl rfl fun a hf => ?_
      refine op_val (ex_move hf rfl) rfl hf rfl rfl fun a hf => ?_
      refine op_val (ex_eql_s (l := r12.1) (m := r14.1) hf rfl rfl) rfl hf rfl rfl fun a hf => ?_
      refine op_val (ex_move hf rfl) rfl hf rfl rfl fun a hf => ?_
      rcases bcase (r12.1 == r14.1) with hc16 | hc16
      · have hm := it hc16 hm
        refine op_guard rfl hf rfl rfl (hc16) ?_
        refine op_val (ex_move hf rfl) rfl hf rfl rfl fun a hf => ?_
        refine op_guard rfl hf rfl rfl (hc16) ?_
        refine op_val (ex_move hf rfl) rfl hf rfl rfl fun a hf => ?_
        refine op_guard rfl hf rfl rfl (hc16) ?_
        refine op_val (ex_eql_o Tryd.underlying4 hf rfl rfl) rfl hf rfl rfl fun a hf => ?_
        refine op_val (ex_pick_t hf rfl hc16 rfl) rfl hf rfl rfl fun a hf => ?_
        refine op_val (ex_move hf rfl) rfl hf rfl rfl fun a hf => ?_
        rcases bcase (r12.2 == r14.2) with hc17 | hc17
        · have hm := it hc17 hm
          refine op_guard rfl hf rfl rfl (hc17) ?_
          refine op_val (ex_move hf rfl) rfl hf rfl rfl fun a hf => ?_
          refine op_guard rfl hf rfl rfl (hc17) ?_
          obtain ⟨r18, hr18, hm⟩ := ob hm
          refine op_enter (ex_call c_23 hf (vs := [.slice p9 r8.length c10]) rfl) rfl hf rfl rfl (w_domains_Check r8 r18 _ (hG.own hF hO) (hO.rowSees (i := 0) rfl) (hO.rowCap (i := 0) rfl) hr18) ?_
          rintro e w' ⟨he, hb⟩
          refine ⟨_, he, fun a hf => ?_⟩
          have hO := hO.grow hb
          refine op_guard rfl hf rfl rfl (hc17) ?_
          refine op_val (ex_move hf rfl) rfl hf rfl rfl fun a hf => ?_
          refine op_guard rfl hf rfl rfl (hc17) ?_
          obtain ⟨r19, hr19, hm⟩ := ob hm
          refine op_enter (ex_call c_24 hf (vs := [.slice p9 r8.length c10]) rfl) rfl hf rfl rfl (w_ref29_Check r8 r19 _ (hG.own hF hO).1 (hO.rowSees (i := 0) rfl) (hO.rowCap (i := 0) rfl) hr19) ?_
          rintro e w' ⟨he, hb⟩
          refine ⟨_, he, fun a hf => ?_⟩
          have hO := hO.grow hb
          refine op_guard rfl hf rfl rfl (hc17) ?_
          refine op_val (ex_eql (m := r18) (n := r19) hf rfl rfl) rfl hf rfl rfl fun a hf => ?_
          refine op_val (ex_pick_t hf rfl hc17 rfl) rfl hf rfl rfl fun a hf => ?_
          refine op_val (ex_assign hf rfl) rfl hf rfl rfl fun a hf => ?_
          refine wpList_nil ?_
          refine nor_then ?_
          exact ⟨r18 == r19, (hf.cons rfl hf.nil), hO, hm⟩
        · have hm := ie hc17 hm
          refine op_pass rfl hf rfl rfl (hc17) rfl rfl fun a hf => ?_
          refine op_pass rfl hf rfl rfl (hc17) rfl rfl fun a hf => ?_
          refine op_pass rfl hf rfl rfl (hc17) rfl rfl fun a hf => ?_
          refine op_pass rfl hf rfl rfl (hc17) rfl rfl fun a hf => ?_
          refine op_pass rfl hf rfl rfl (hc17) rfl rfl fun a hf => ?_
          refine op_val (ex_pick_f hf rfl hc17 rfl) rfl hf rfl rfl fun a hf => ?_
          refine op_val (ex_assign hf rfl) rfl hf rfl rfl fun a hf => ?_
          refine wpList_nil ?_
          refine nor_then ?_
          exact ⟨false, (hf.cons rfl hf.nil), hO, hm⟩
      · have hm := ie hc16 hm
        refine op_pass rfl hf rfl rfl (hc16) rfl rfl fun a hf => ?_
        refine op_pass rfl hf rfl rfl (hc16) rfl rfl fun a hf => ?_
        refine op_pass rfl hf rfl rfl (hc16) rfl rfl fun a hf => ?_
        refine op_val (ex_pick_f hf rfl hc16 rfl) rfl hf rfl rfl fun a hf => ?_
        refine op_val (ex_move hf rfl) rfl hf rfl rfl fun a hf => ?_
        refine op_pass rfl hf rfl rfl (rfl) rfl rfl fun a hf => ?_
        refine op_pass rfl hf rfl rfl (rfl) rfl rfl fun a hf => ?_
        refine op_pass rfl hf rfl rfl (rfl) rfl rfl fun a hf => ?_
        refine op_pass rfl hf rfl rfl (rfl) rfl rfl fun a hf => ?_
        refine op_pass rfl hf rfl rfl (rfl) rfl rfl fun a hf => ?_
        refine op_val (ex_pick_f hf rfl rfl rfl) rfl hf rfl rfl fun a hf => ?_
        refine op_val (ex_assign hf rfl) rfl hf rfl rfl fun a hf => ?_
        refine wpList_nil ?_
        refine nor_then ?_
        exact ⟨false, (hf.cons rfl hf.nil), hO, hm⟩
    · rintro a w ⟨t20, hf, hO, hm⟩
      rw [law29_DomainsMaps_j1] at hm
      refine wp_ret ?_
      obtain rfl := Option.some.inj hm
      exact post_ret Tryd.results6 hf (.tmp rfl .nil) ⟨rfl, hO.below⟩

end Go.Proofs
