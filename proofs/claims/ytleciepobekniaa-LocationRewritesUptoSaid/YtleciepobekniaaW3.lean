/-
  Walks, written by a program (wip/gen): what its model says, the function returns; what was there before is as it was.
-/
import Derived.Test.YtleciepobekniaaLib
import Derived.Test.YtleciepobekniaaW2
set_option linter.unusedVariables false
set_option linter.unusedSimpArgs false
set_option maxRecDepth 100000
namespace Go.Proofs
open Go.Dk Go.Dm Go.RowKit

set_option maxHeartbeats 1000000 in
theorem w_ref01_Digit (x_b : UInt8) (R : Bool) (w0 : World) (hG : Glob w0) (hm : ref01_Digit x_b = some R) :
    Calls Try.prog 23 #[byte x_b] w0 fun e w' => e = .returned (.bool R) ∧ Below w0.heap.size w0 w' := by
  rw [ref01_Digit] at hm
  refine calls_enter (vs := [byte x_b]) Try.func23 rfl Try.ntmps23 rfl fun a hf => ?_
  have hO : Own w0 [] w0 [] := Own.refl w0
  refine wp_seq_k fun _ hK1 => ?_
  refine wp_region_list ?_
  refine op_val (ex_assign hf rfl) rfl hf rfl rfl fun a hf => ?_
  refine wpList_nil ?_
  refine nor_then (hK1 _ _ ?_)
  refine wp_seq_k fun _ hK3 => ?_
  refine wp_region_list ?_
  refine op_val (ex_move hf rfl) rfl hf rfl rfl fun a hf => ?_
  obtain ⟨r2, hr2, hm⟩ := ob hm
  refine op_enter (ex_call c_21 hf (vs := [byte x_b, str [48, 49, 50, 51, 52, 53, 54, 55, 56, 57]]) rfl) rfl hf rfl rfl (w_ref01_In x_b [48, 49, 50, 51, 52, 53, 54, 55, 56, 57] r2 _ (hG.own hO) hr2) ?_
  rintro e w' ⟨he, hb⟩
  refine ⟨_, he, fun a hf => ?_⟩
  have hO := hO.grow hb
  refine op_val (ex_assign hf rfl) rfl hf rfl rfl fun a hf => ?_
  refine wpList_nil ?_
  refine nor_then (hK3 _ _ ?_)
  refine wp_ret ?_
  obtain rfl := Option.some.inj hm
  exact post_ret Try.results23 hf (.tmp rfl .nil) ⟨rfl, hO.below⟩

set_option maxHeartbeats 1000000 in
theorem w_ref11_scheme (x_s : Str) (R : Bool) (w0 : World) (hG : Glob w0) (hm : ref11_scheme x_s = some R) :
    Calls Try.prog 14 #[str x_s] w0 fun e w' => e = .returned (.bool R) ∧ Below w0.heap.size w0 w' := by
  rw [ref11_scheme] at hm
  refine calls_enter (vs := [str x_s]) Try.func14 rfl Try.ntmps14 rfl fun a hf => ?_
  have hO : Own w0 [] w0 [] := Own.refl w0
  refine wp_seq_k fun _ hK1 => ?_
  refine wp_region_list ?_
  refine op_val (ex_assign hf rfl) rfl hf rfl rfl fun a hf => ?_
  refine wpList_nil ?_
  refine nor_then (hK1 _ _ ?_)
  refine wp_seq_k fun _ hK21 => ?_
  refine wp_seq_k fun _ hK2 => ?_
  refine wp_region_list ?_
  refine op_val (ex_assign hf rfl) rfl hf rfl rfl fun a hf => ?_
  refine wpList_nil ?_
  refine nor_then (hK2 _ _ ?_)
  refine wp_block ?_
  refine wp_loop_n (fun k a w => ∃ (i3 : Int), Fits 36 [(0, str x_s), (3, int i3)] a ∧ Own w0 [] w [] ∧ ref11_scheme_L1 x_s k i3 = some R) ?_ fuel ?_
  · rintro n1 a w ⟨i3, hf, hO, hm⟩
    obtain _ | n1 := n1
    · rw [ref11_scheme_L1] at hm
      cases hm
    · rw [ref11_scheme_L1] at hm
      refine wp_seq_k fun _ hK6 => ?_
      refine wp_seq_k fun _ hK4 => ?_
      refine wp_region_list ?_
      refine op_val (ex_move hf rfl) rfl hf rfl rfl fun a hf => ?_
      refine op_val (ex_move hf rfl) rfl hf rfl rfl fun a hf => ?_
      refine op_val (ex_len_s (l := x_s) Try.underlying9 hf rfl) rfl hf rfl rfl fun a hf => ?_
      refine op_val (ex_lss (m := i3) (n := (x_s.length : Int)) hf rfl rfl) rfl hf rfl rfl fun a hf => ?_
      refine wpList_nil ?_
      refine nor_then (hK4 _ _ ?_)
      refine wp_cond_cut hf rfl (fun hc5 => ?_) (fun hc5 => ?_)
      · have hm := it hc5 hm
        refine wp_skip ?_
        refine nor_then (hK6 _ _ ?_)
        refine wp_seq_k fun _ hK19 => ?_
        refine wp_block ?_
        refine wp_seq_cut (fun a w => ∃ (t16 : Bool), Fits 36 [(0, str x_s), (3, int i3), (32, .bool t16)] a ∧ Own w0 [] w [] ∧ ref11_scheme_j2 (ref11_scheme_L1 x_s n1) i3 t16 = some R) ?_ ?_
        · refine wp_region_list ?_
          refine op_val (ex_move hf rfl) rfl hf rfl rfl fun a hf => ?_
          refine op_val (ex_move hf rfl) rfl hf rfl rfl fun a hf => ?_
          obtain ⟨b7, hb7, hm⟩ := ob hm
          refine op_val (ex_index (l := x_s) Try.underlying9 hf rfl rfl hb7) rfl hf rfl rfl fun a hf => ?_
          obtain ⟨r8, hr8, hm⟩ := ob hm
          refine op_enter (ex_call c_22 hf (vs := [byte b7]) rfl) rfl hf rfl rfl (w_ref01_Alpha b7 r8 _ (hG.own hO) hr8) ?_
          rintro e w' ⟨he, hb⟩
          refine ⟨_, he, fun a hf => ?_⟩
          have hO := hO.grow hb
          refine op_val (ex_not hf rfl) rfl hf rfl rfl fun a hf => ?_
          refine op_val (ex_move hf rfl) rfl hf rfl rfl fun a hf => ?_
          rcases bcase (!r8) with hc9 | hc9
          · have hm := it hc9 hm
            refine op_guard rfl hf rfl rfl (hc9) ?_
            refine op_val (ex_move hf rfl) rfl hf rfl rfl fun a hf => ?_
            refine op_guard rfl hf rfl rfl (hc9) ?_
            refine op_val (ex_eql (m := i3) (n := 0) hf rfl rfl) rfl hf rfl rfl fun a hf => ?_
            refine op_guard rfl hf rfl rfl (hc9) ?_
            refine op_val (ex_move hf rfl) rfl hf rfl rfl fun a hf => ?_
            rcases bcase (i3 == 0) with hc10 | hc10
            · have hm := it hc10 hm
              refine op_pass rfl hf rfl rfl (hc10) rfl rfl fun a hf => ?_
              refine op_pass rfl hf rfl rfl (hc10) rfl rfl fun a hf => ?_
              refine op_pass rfl hf rfl rfl (hc10) rfl rfl fun a hf => ?_
              refine op_pass rfl hf rfl rfl (hc10) rfl rfl fun a hf => ?_
              refine op_pass rfl hf rfl rfl (hc10) rfl rfl fun a hf => ?_
              refine op_pass rfl hf rfl rfl (hc10) rfl rfl fun a hf => ?_
              refine op_passu rfl hf rfl rfl rfl rfl fun a hf => ?_
              refine op_passu rfl hf rfl rfl rfl rfl fun a hf => ?_
              refine op_passu rfl hf rfl rfl rfl rfl fun a hf => ?_
              refine op_passu rfl hf rfl rfl rfl rfl fun a hf => ?_
              refine op_passu rfl hf rfl rfl rfl rfl fun a hf => ?_
              refine op_pass rfl hf rfl rfl (hc10) rfl rfl fun a hf => ?_
              refine op_guard rfl hf rfl rfl (hc9) ?_
              refine op_val (ex_pick_t hf rfl hc10 rfl) rfl hf rfl rfl fun a hf => ?_
              refine op_val (ex_pick_t hf rfl hc9 rfl) rfl hf rfl rfl fun a hf => ?_
              refine wpList_nil ?_
              refine nor_then ?_
              exact ⟨true, (hf.cons rfl (hf.cons rfl (hf.cons rfl hf.nil))), hO, hm⟩
            · have hm := ie hc10 hm
              refine op_guard rfl hf rfl rfl (hc10) ?_
              refine op_val (ex_move hf rfl) rfl hf rfl rfl fun a hf => ?_
              refine op_guard rfl hf rfl rfl (hc10) ?_
              refine op_val (ex_move hf rfl) rfl hf rfl rfl fun a hf => ?_
              refine op_guard rfl hf rfl rfl (hc10) ?_
              obtain ⟨b11, hb11, hm⟩ := ob hm
              refine op_val (ex_index (l := x_s) Try.underlying9 hf rfl rfl hb11) rfl hf rfl rfl fun a hf => ?_
              refine op_guard rfl hf rfl rfl (hc10) ?_
              obtain ⟨r12, hr12, hm⟩ := ob hm
              refine op_enter (ex_call c_23 hf (vs := [byte b11]) rfl) rfl hf rfl rfl (w_ref01_Digit b11 r12 _ (hG.own hO) hr12) ?_
              rintro e w' ⟨he, hb⟩
              refine ⟨_, he, fun a hf => ?_⟩
              have hO := hO.grow hb
              refine op_guard rfl hf rfl rfl (hc10) ?_
              refine op_val (ex_not hf rfl) rfl hf rfl rfl fun a hf => ?_
              refine op_guard rfl hf rfl rfl (hc10) ?_
              refine op_val (ex_move hf rfl) rfl hf rfl rfl fun a hf => ?_
              rcases bcase (!r12) with hc13 | hc13
              · have hm := it hc13 hm
                refine op_guard rfl hf rfl rfl (hc13) ?_
                refine op_val (ex_move hf rfl) rfl hf rfl rfl fun a hf => ?_
                refine op_guard rfl hf rfl rfl (hc13) ?_
                refine op_val (ex_move hf rfl) rfl hf rfl rfl fun a hf => ?_
                refine op_guard rfl hf rfl rfl (hc13) ?_
                obtain ⟨b14, hb14, hm⟩ := ob hm
                refine op_val (ex_index (l := x_s) Try.underlying9 hf rfl rfl hb14) rfl hf rfl rfl fun a hf => ?_
                refine op_guard rfl hf rfl rfl (hc13) ?_
                obtain ⟨r15, hr15, hm⟩ := ob hm
                refine op_enter (ex_call c_21 hf (vs := [byte b14, str [43, 45, 46]]) rfl) rfl hf rfl rfl (w_ref01_In b14 [43, 45, 46] r15 _ (hG.own hO) hr15) ?_
                rintro e w' ⟨he, hb⟩
                refine ⟨_, he, fun a hf => ?_⟩
                have hO := hO.grow hb
                refine op_guard rfl hf rfl rfl (hc13) ?_
                refine op_val (ex_not hf rfl) rfl hf rfl rfl fun a hf => ?_
                refine op_guard rfl hf rfl rfl (hc10) ?_
                refine op_val (ex_pick_t hf rfl hc13 rfl) rfl hf rfl rfl fun a hf => ?_
                refine op_guard rfl hf rfl rfl (hc9) ?_
                refine op_val (ex_pick_f hf rfl hc10 rfl) rfl hf rfl rfl fun a hf => ?_
                refine op_val (ex_pick_t hf rfl hc9 rfl) rfl hf rfl rfl fun a hf => ?_
                refine wpList_nil ?_
                refine nor_then ?_
                exact ⟨!r15, (hf.cons rfl (hf.cons rfl (hf.cons rfl hf.nil))), hO, hm⟩
              · have hm := ie hc13 hm
                refine op_pass rfl hf rfl rfl (hc13) rfl rfl fun a hf => ?_
                refine op_pass rfl hf rfl rfl (hc13) rfl rfl fun a hf => ?_
                refine op_pass rfl hf rfl rfl (hc13) rfl rfl fun a hf => ?_
                refine op_pass rfl hf rfl rfl (hc13) rfl rfl fun a hf => ?_
                refine op_pass rfl hf rfl rfl (hc13) rfl rfl fun a hf => ?_
                refine op_guard rfl hf rfl rfl (hc10) ?_
                refine op_val (ex_pick_f hf rfl hc13 rfl) rfl hf rfl rfl fun a hf => ?_
                refine op_guard rfl hf rfl rfl (hc9) ?_
                refine op_val (ex_pick_f hf rfl hc10 rfl) rfl hf rfl rfl fun a hf => ?_
                refine op_val (ex_pick_t hf rfl hc9 rfl) rfl hf rfl rfl fun a hf => ?_
                refine wpList_nil ?_
                refine nor_then ?_
                exact ⟨false, (hf.cons rfl (hf.cons rfl (hf.cons rfl hf.nil))), hO, hm⟩
          · have hm := ie hc9 hm
            refine op_pass rfl hf rfl rfl (hc9) rfl rfl fun a hf => ?_
            refine op_pass rfl hf rfl rfl (hc9) rfl rfl fun a hf => ?_
            refine op_pass rfl hf rfl rfl (hc9) rfl rfl fun a hf => ?_
            refine op_passu rfl hf rfl rfl rfl rfl fun a hf => ?_
            refine op_passu rfl hf rfl rfl rfl rfl fun a hf => ?_
            refine op_passu rfl hf rfl rfl rfl rfl fun a hf => ?_
            refine op_passu rfl hf rfl rfl rfl rfl fun a hf => ?_
            refine op_passu rfl hf rfl rfl rfl rfl fun a hf => ?_
            refine op_passu rfl hf rfl rfl rfl rfl fun a hf => ?_
            refine op_passu rfl hf rfl rfl rfl rfl fun a hf => ?_
            refine op_passu rfl hf rfl rfl rfl rfl fun a hf => ?_
            refine op_passu rfl hf rfl rfl rfl rfl fun a hf => ?_
            refine op_passu rfl hf rfl rfl rfl rfl fun a hf => ?_
            refine op_passu rfl hf rfl rfl rfl rfl fun a hf => ?_
            refine op_passu rfl hf rfl rfl rfl rfl fun a hf => ?_
            refine op_pass rfl hf rfl rfl (hc9) rfl rfl fun a hf => ?_
            refine op_val (ex_pick_f hf rfl hc9 rfl) rfl hf rfl rfl fun a hf => ?_
            refine wpList_nil ?_
            refine nor_then ?_
            exact ⟨false, (hf.cons rfl (hf.cons rfl (hf.cons rfl hf.nil))), hO, hm⟩
        · rintro a w ⟨t16, hf, hO, hm⟩
          rw [ref11_scheme_j2] at hm
          refine wp_cond_cut hf rfl (fun hc17 => ?_) (fun hc17 => ?_)
          · have hm := it hc17 hm
            refine wp_seq_k fun _ hK18 => ?_
            refine wp_region_list ?_
            refine op_val (ex_assign hf rfl) rfl hf rfl rfl fun a hf => ?_
            refine wpList_nil ?_
            refine nor_then (hK18 _ _ ?_)
            refine wp_ret ?_
            refine ret_block ?_
            refine ret_then ?_
            refine ret_then ?_
            refine ret_block ?_
            refine ret_then ?_
            obtain rfl := Option.some.inj hm
            exact post_ret Try.results14 hf (.tmp rfl .nil) ⟨rfl, hO.below⟩
          · have hm := ie hc17 hm
            refine wp_skip ?_
            refine nor_block ?_
            refine nor_then (hK19 _ _ ?_)
            refine wp_region_list ?_
            refine op_val (ex_move hf rfl) rfl hf rfl rfl fun a hf => ?_
            obtain ⟨i20, hi20, hm⟩ := ob hm
            refine op_val (ex_add hf rfl rfl hi20) rfl hf rfl rfl fun a hf => ?_
            refine op_val (ex_assign hf rfl) rfl hf rfl rfl fun a hf => ?_
            refine wpList_nil ?_
            refine nor_then ?_
            exact ⟨_, Nat.lt_succ_self _, i20, (hf.cons rfl (hf.cons rfl hf.nil)), hO, hm⟩
      · have hm := ie hc5 hm
        refine wp_exit ?_
        refine exit_then ?_
        refine exit_then ?_
        refine exit_here ?_
        refine nor_then (hK21 _ _ ?_)
        refine wp_seq_k fun _ hK22 => ?_
        refine wp_region_list ?_
        refine op_val (ex_move hf rfl) rfl hf rfl rfl fun a hf => ?_
        refine op_val (ex_len_s (l := x_s) Try.underlying9 hf rfl) rfl hf rfl rfl fun a hf => ?_
        refine op_val (ex_gtr (m := (x_s.length : Int)) (n := 0) hf rfl rfl) rfl hf rfl rfl fun a hf => ?_
        refine op_val (ex_assign hf rfl) rfl hf rfl rfl fun a hf => ?_
        refine wpList_nil ?_
        refine nor_then (hK22 _ _ ?_)
        refine wp_ret ?_
        obtain rfl := Option.some.inj hm
        exact post_ret Try.results14 hf (.tmp rfl .nil) ⟨rfl, hO.below⟩
  · exact ⟨0, (hf.cons rfl (hf.cons rfl hf.nil)), hO, hm⟩

set_option maxHeartbeats 1000000 in
theorem w_ref01_Hex (x_b : UInt8) (R : Bool) (w0 : World) (hG : Glob w0) (hm : ref01_Hex x_b = some R) :
    Calls Try.prog 30 #[byte x_b] w0 fun e w' => e = .returned (.bool R) ∧ Below w0.heap.size w0 w' := by
  rw [ref01_Hex] at hm
  refine calls_enter (vs := [byte x_b]) Try.func30 rfl Try.ntmps30 rfl fun a hf => ?_
  have hO : Own w0 [] w0 [] := Own.refl w0
  refine wp_seq_k fun _ hK1 => ?_
  refine wp_region_list ?_
  refine op_val (ex_assign hf rfl) rfl hf rfl rfl fun a hf => ?_
  refine wpList_nil ?_
  refine nor_then (hK1 _ _ ?_)
  refine wp_seq_k fun _ hK3 => ?_
  refine wp_region_list ?_
  refine op_val (ex_move hf rfl) rfl hf rfl rfl fun a hf => ?_
  obtain ⟨r2, hr2, hm⟩ := ob hm
  refine op_enter (ex_call c_21 hf (vs := [byte x_b, str [48, 49, 50, 51, 52, 53, 54, 55, 56, 57, 97, 98, 99, 100, 101, 102, 65, 66, 67, 68, 69, 70]]) rfl) rfl hf rfl rfl (w_ref01_In x_b [48, 49, 50, 51, 52, 53, 54, 55, 56, 57, 97, 98, 99, 100, 101, 102, 65, 66, 67, 68, 69, 70] r2 _ (hG.own hO) hr2) ?_
  rintro e w' ⟨he, hb⟩
  refine ⟨_, he, fun a hf => ?_⟩
  have hO := hO.grow hb
  refine op_val (ex_assign hf rfl) rfl hf rfl rfl fun a hf => ?_
  refine wpList_nil ?_
  refine nor_then (hK3 _ _ ?_)
  refine wp_ret ?_
  obtain rfl := Option.some.inj hm
  exact post_ret Try.results30 hf (.tmp rfl .nil) ⟨rfl, hO.below⟩

set_option maxHeartbeats 1000000 in
theorem w_ref01_Unreserved (x_b : UInt8) (R : Bool) (w0 : World) (hG : Glob w0) (hm : ref01_Unreserved x_b = some R) :
    Calls Try.prog 39 #[byte x_b] w0 fun e w' => e = .returned (.bool R) ∧ Below w0.heap.size w0 w' := by
  rw [ref01_Unreserved] at hm
  refine calls_enter (vs := [byte x_b]) Try.func39 rfl Try.ntmps39 rfl fun a hf => ?_
  have hO : Own w0 [] w0 [] := Own.refl w0
  refine wp_seq_k fun _ hK1 => ?_
  refine wp_region_list ?_
  refine op_val (ex_assign hf rfl) rfl hf rfl rfl fun a hf => ?_
  refine wpList_nil ?_
  refine nor_then (hK1 _ _ ?_)
  refine wp_seq_k fun _ hK3 => ?_
  refine wp_region_list ?_
  refine op_val (ex_move hf rfl) rfl hf rfl rfl fun a hf => ?_
  obtain ⟨r2, hr2, hm⟩ := ob hm
  refine op_enter (ex_call c_21 hf (vs := [byte x_b, str [97, 98, 99, 100, 101, 102, 103, 104, 105, 106, 107, 108, 109, 110, 111, 112, 113, 114, 115, 116, 117, 118, 119, 120, 121, 122, 65, 66, 67, 68, 69, 70, 71, 72, 73, 74, 75, 76, 77, 78, 79, 80, 81, 82, 83, 84, 85, 86, 87, 88, 89, 90, 48, 49, 50, 51, 52, 53, 54, 55, 56, 57, 45, 46, 95, 126]]) rfl) rfl hf rfl rfl (w_ref01_In x_b [97, 98, 99, 100, 101, 102, 103, 104, 105, 106, 107, 108, 109, 110, 111, 112, 113, 114, 115, 116, 117, 118, 119, 120, 121, 122, 65, 66, 67, 68, 69, 70, 71, 72, 73, 74, 75, 76, 77, 78, 79, 80, 81, 82, 83, 84, 85, 86, 87, 88, 89, 90, 48, 49, 50, 51, 52, 53, 54, 55, 56, 57, 45, 46, 95, 126] r2 _ (hG.own hO) hr2) ?_
  rintro e w' ⟨he, hb⟩
  refine ⟨_, he, fun a hf => ?_⟩
  have hO := hO.grow hb
  refine op_val (ex_assign hf rfl) rfl hf rfl rfl fun a hf => ?_
  refine wpList_nil ?_
  refine nor_then (hK3 _ _ ?_)
  refine wp_ret ?_
  obtain rfl := Option.some.inj hm
  exact post_ret Try.results39 hf (.tmp rfl .nil) ⟨rfl, hO.below⟩

set_option maxHeartbeats 1000000 in
theorem w_ref01_Sub (x_b : UInt8) (R : Bool) (w0 : World) (hG : Glob w0) (hm : ref01_Sub x_b = some R) :
    Calls Try.prog 40 #[byte x_b] w0 fun e w' => e = .returned (.bool R) ∧ Below w0.heap.size w0 w' := by
  rw [ref01_Sub] at hm
  refine calls_enter (vs := [byte x_b]) Try.func40 rfl Try.ntmps40 rfl fun a hf => ?_
  have hO : Own w0 [] w0 [] := Own.refl w0
  refine wp_seq_k fun _ hK1 => ?_
  refine wp_region_list ?_
  refine op_val (ex_assign hf rfl) rfl hf rfl rfl fun a hf => ?_
  refine wpList_nil ?_
  refine nor_then (hK1 _ _ ?_)
  refine wp_seq_k fun _ hK3 => ?_
  refine wp_region_list ?_
  refine op_val (ex_move hf rfl) rfl hf rfl rfl fun a hf => ?_
  obtain ⟨r2, hr2, hm⟩ := ob hm
  refine op_enter (ex_call c_21 hf (vs := [byte x_b, str [33, 36, 38, 39, 40, 41, 42, 43, 44, 59, 61]]) rfl) rfl hf rfl rfl (w_ref01_In x_b [33, 36, 38, 39, 40, 41, 42, 43, 44, 59, 61] r2 _ (hG.own hO) hr2) ?_
  rintro e w' ⟨he, hb⟩
  refine ⟨_, he, fun a hf => ?_⟩
  have hO := hO.grow hb
  refine op_val (ex_assign hf rfl) rfl hf rfl rfl fun a hf => ?_
  refine wpList_nil ?_
  refine nor_then (hK3 _ _ ?_)
  refine wp_ret ?_
  obtain rfl := Option.some.inj hm
  exact post_ret Try.results40 hf (.tmp rfl .nil) ⟨rfl, hO.below⟩

set_option maxHeartbeats 1000000 in
theorem w_ref01_Path (x_b : UInt8) (R : Bool) (w0 : World) (hG : Glob w0) (hm : ref01_Path x_b = some R) :
    Calls Try.prog 31 #[byte x_b] w0 fun e w' => e = .returned (.bool R) ∧ Below w0.heap.size w0 w' := by
  rw [ref01_Path] at hm
  refine calls_enter (vs := [byte x_b]) Try.func31 rfl Try.ntmps31 rfl fun a hf => ?_
  have hO : Own w0 [] w0 [] := Own.refl w0
  refine wp_seq_k fun _ hK1 => ?_
  refine wp_region_list ?_
  refine op_val (ex_assign hf rfl) rfl hf rfl rfl fun a hf => ?_
  refine wpList_nil ?_
  refine nor_then (hK1 _ _ ?_)
  refine wp_seq_cut (fun a w => ∃ (t7 : Bool), Fits 17 [(2, .bool t7)] a ∧ Own w0 [] w [] ∧ ref01_Path_j1 t7 = some R) ?_ ?_
  · refine wp_region_list ?_
    refine op_val (ex_move hf rfl) rfl hf rfl rfl fun a hf => ?_
    obtain ⟨r2, hr2, hm⟩ := ob hm
    refine op_enter (ex_call c_39 hf (vs := [byte x_b]) rfl) rfl hf rfl rfl (w_ref01_Unreserved x_b r2 _ (hG.own hO) hr2) ?_
    rintro e w' ⟨he, hb⟩
    refine ⟨_, he, fun a hf => ?_⟩
    have hO := hO.grow hb
    refine op_val (ex_move hf rfl) rfl hf rfl rfl fun a hf => ?_
    rcases bcase (r2) with hc3 | hc3
    · have hm := it hc3 hm
      refine op_pass rfl hf rfl rfl (hc3) rfl rfl fun a hf => ?_
      refine op_pass rfl hf rfl rfl (hc3) rfl rfl fun a hf => ?_
      refine op_val (ex_pick_t hf rfl hc3 rfl) rfl hf rfl rfl fun a hf => ?_
      refine op_val (ex_move hf rfl) rfl hf rfl rfl fun a hf => ?_
      refine op_pass rfl hf rfl rfl (rfl) rfl rfl fun a hf => ?_
      refine op_pass rfl hf rfl rfl (rfl) rfl rfl fun a hf => ?_
      refine op_val (ex_pick_t hf rfl rfl rfl) rfl hf rfl rfl fun a hf => ?_
      refine op_val (ex_move hf rfl) rfl hf rfl rfl fun a hf => ?_
      refine op_pass rfl hf rfl rfl (rfl) rfl rfl fun a hf => ?_
      refine op_pass rfl hf rfl rfl (rfl) rfl rfl fun a hf => ?_
      refine op_val (ex_pick_t hf rfl rfl rfl) rfl hf rfl rfl fun a hf => ?_
      refine op_val (ex_assign hf rfl) rfl hf rfl rfl fun a hf => ?_
      refine wpList_nil ?_
      refine nor_then ?_
      exact ⟨true, (hf.cons rfl hf.nil), hO, hm⟩
    · have hm := ie hc3 hm
      refine op_guard rfl hf rfl rfl (hc3) ?_
      refine op_val (ex_move hf rfl) rfl hf rfl rfl fun a hf => ?_
      refine op_guard rfl hf rfl rfl (hc3) ?_
      obtain ⟨r4, hr4, hm⟩ := ob hm
      refine op_enter (ex_call c_40 hf (vs := [byte x_b]) rfl) rfl hf rfl rfl (w_ref01_Sub x_b r4 _ (hG.own hO) hr4) ?_
      rintro e w' ⟨he, hb⟩
      refine ⟨_, he, fun a hf => ?_⟩
      have hO := hO.grow hb
      refine op_val (ex_pick_f hf rfl hc3 rfl) rfl hf rfl rfl fun a hf => ?_
      refine op_val (ex_move hf rfl) rfl hf rfl rfl fun a hf => ?_
      rcases bcase (r4) with hc5 | hc5
      · have hm := it hc5 hm
        refine op_pass rfl hf rfl rfl (hc5) rfl rfl fun a hf => ?_
        refine op_pass rfl hf rfl rfl (hc5) rfl rfl fun a hf => ?_
        refine op_val (ex_pick_t hf rfl hc5 rfl) rfl hf rfl rfl fun a hf => ?_
        refine op_val (ex_move hf rfl) rfl hf rfl rfl fun a hf => ?_
        refine op_pass rfl hf rfl rfl (rfl) rfl rfl fun a hf => ?_
        refine op_pass rfl hf rfl rfl (rfl) rfl rfl fun a hf => ?_
        refine op_val (ex_pick_t hf rfl rfl rfl) rfl hf rfl rfl fun a hf => ?_
        refine op_val (ex_assign hf rfl) rfl hf rfl rfl fun a hf => ?_
        refine wpList_nil ?_
        refine nor_then ?_
        exact ⟨true, (hf.cons rfl hf.nil), hO, hm⟩
      · have hm := ie hc5 hm
        refine op_guard rfl hf rfl rfl (hc5) ?_
        refine op_val (ex_move hf rfl) rfl hf rfl rfl fun a hf => ?_
        refine op_guard rfl hf rfl rfl (hc5) ?_
        refine op_val (ex_eql_b (b := x_b) (c := 58) hf rfl rfl) rfl hf rfl rfl fun a hf => ?_
        refine op_val (ex_pick_f hf rfl hc5 rfl) rfl hf rfl rfl fun a hf => ?_
        refine op_val (ex_move hf rfl) rfl hf rfl rfl fun a hf => ?_
        rcases bcase (x_b == 58) with hc6 | hc6
        · have hm := it hc6 hm
          refine op_pass rfl hf rfl rfl (hc6) rfl rfl fun a hf => ?_
          refine op_pass rfl hf rfl rfl (hc6) rfl rfl fun a hf => ?_
          refine op_val (ex_pick_t hf rfl hc6 rfl) rfl hf rfl rfl fun a hf => ?_
          refine op_val (ex_assign hf rfl) rfl hf rfl rfl fun a hf => ?_
          refine wpList_nil ?_
          refine nor_then ?_
          exact ⟨true, (hf.cons rfl hf.nil), hO, hm⟩
        · have hm := ie hc6 hm
          refine op_guard rfl hf rfl rfl (hc6) ?_
          refine op_val (ex_move hf rfl) rfl hf rfl rfl fun a hf => ?_
          refine op_guard rfl hf rfl rfl (hc6) ?_
          refine op_val (ex_eql_b (b := x_b) (c := 64) hf rfl rfl) rfl hf rfl rfl fun a hf => ?_
          refine op_val (ex_pick_f hf rfl hc6 rfl) rfl hf rfl rfl fun a hf => ?_
          refine op_val (ex_assign hf rfl) rfl hf rfl rfl fun a hf => ?_
          refine wpList_nil ?_
          refine nor_then ?_
          exact ⟨x_b == 64, (hf.cons rfl hf.nil), hO, hm⟩
  · rintro a w ⟨t7, hf, hO, hm⟩
    rw [ref01_Path_j1] at hm
    refine wp_ret ?_
    obtain rfl := Option.some.inj hm
    exact post_ret Try.results31 hf (.tmp rfl .nil) ⟨rfl, hO.below⟩

set_option maxHeartbeats 1000000 in
theorem w_ref09_Of_r (n0 : Nat) : ∀ (x_s : Str) (x_more : Str) (R : Bool) (w0 : World) (hG : Glob w0) (hm : ref09_Of_r n0 x_s x_more = some R),
    Calls Try.prog 24 #[str x_s, str x_more] w0 fun e w' => e = .returned (.bool R) ∧ Below w0.heap.size w0 w' := by
  induction n0 with
  | zero => intro x_s x_more R w0 hG  hm; rw [ref09_Of_r] at hm; cases hm
  | succ n0 ih =>
    intro x_s x_more R w0 hG  hm
    rw [ref09_Of_r] at hm
    refine calls_enter (vs := [str x_s, str x_more]) Try.func24 rfl Try.ntmps24 rfl fun a hf => ?_
    have hO : Own w0 [] w0 [] := Own.refl w0
    refine wp_seq_k fun _ hK1 => ?_
    refine wp_region_list ?_
    refine op_val (ex_assign hf rfl) rfl hf rfl rfl fun a hf => ?_
    refine wpList_nil ?_
    refine nor_then (hK1 _ _ ?_)
    refine wp_seq_k fun _ hK5 => ?_
    refine wp_seq_k fun _ hK2 => ?_
    refine wp_region_list ?_
    refine op_val (ex_move hf rfl) rfl hf rfl rfl fun a hf => ?_
    refine op_val (ex_eql_s (l := x_s) (m := []) hf rfl rfl) rfl hf rfl rfl fun a hf => ?_
    refine wpList_nil ?_
    refine nor_then (hK2 _ _ ?_)
    refine wp_cond_cut hf rfl (fun hc3 => ?_) (fun hc3 => ?_)
    · have hm := it hc3 hm
      refine wp_seq_k fun _ hK4 => ?_
      refine wp_region_list ?_
      refine op_val (ex_assign hf rfl) rfl hf rfl rfl fun a hf => ?_
      refine wpList_nil ?_
      refine nor_then (hK4 _ _ ?_)
      refine wp_ret ?_
      refine ret_then ?_
      obtain rfl := Option.some.inj hm
      exact post_ret Try.results24 hf (.tmp rfl .nil) ⟨rfl, hO.below⟩
    · have hm := ie hc3 hm
      refine wp_skip ?_
      refine nor_then (hK5 _ _ ?_)
      refine wp_seq_k fun _ hK19 => ?_
      refine wp_seq_k fun _ hK7 => ?_
      refine wp_region_list ?_
      refine op_val (ex_move hf rfl) rfl hf rfl rfl fun a hf => ?_
      obtain ⟨b6, hb6, hm⟩ := ob hm
      refine op_val (ex_index (l := x_s) Try.underlying9 hf rfl rfl hb6) rfl hf rfl rfl fun a hf => ?_
      refine op_val (ex_eql_b (b := b6) (c := 37) hf rfl rfl) rfl hf rfl rfl fun a hf => ?_
      refine wpList_nil ?_
      refine nor_then (hK7 _ _ ?_)
      refine wp_cond_cut hf rfl (fun hc8 => ?_) (fun hc8 => ?_)
      · have hm := it hc8 hm
        refine wp_seq_cut (fun a w => ∃ (t18 : Bool), Fits 44 [(4, .bool t18)] a ∧ Own w0 [] w [] ∧ ref09_Of_j1 t18 = some R) ?_ ?_
        · refine wp_region_list ?_
          refine op_val (ex_move hf rfl) rfl hf rfl rfl fun a hf => ?_
          refine op_val (ex_len_s (l := x_s) Try.underlying9 hf rfl) rfl hf rfl rfl fun a hf => ?_
          refine op_val (ex_gtr (m := (x_s.length : Int)) (n := 2) hf rfl rfl) rfl hf rfl rfl fun a hf => ?_
          refine op_val (ex_move hf rfl) rfl hf rfl rfl fun a hf => ?_
          rcases bcase (decide (2 < (x_s.length : Int))) with hc9 | hc9
          · have hm := it hc9 hm
            refine op_guard rfl hf rfl rfl (hc9) ?_
            refine op_val (ex_move hf rfl) rfl hf rfl rfl fun a hf => ?_
            refine op_guard rfl hf rfl rfl (hc9) ?_
            obtain ⟨b10, hb10, hm⟩ := ob hm
            refine op_val (ex_index (l := x_s) Try.underlying9 hf rfl rfl hb10) rfl hf rfl rfl fun a hf => ?_
            refine op_guard rfl hf rfl rfl (hc9) ?_
            obtain ⟨r11, hr11, hm⟩ := ob hm
            refine op_enter (ex_call c_30 hf (vs := [byte b10]) rfl) rfl hf rfl rfl (w_ref01_Hex b10 r11 _ (hG.own hO) hr11) ?_
            rintro e w' ⟨he, hb⟩
            refine ⟨_, he, fun a hf => ?_⟩
            have hO := hO.grow hb
            refine op_val (ex_pick_t hf rfl hc9 rfl) rfl hf rfl rfl fun a hf => ?_
            refine op_val (ex_move hf rfl) rfl hf rfl rfl fun a hf => ?_
            rcases bcase (r11) with hc12 | hc12
            · have hm := it hc12 hm
              refine op_guard rfl hf rfl rfl (hc12) ?_
              refine op_val (ex_move hf rfl) rfl hf rfl rfl fun a hf => ?_
              refine op_guard rfl hf rfl rfl (hc12) ?_
              obtain ⟨b13, hb13, hm⟩ := ob hm
              refine op_val (ex_index (l := x_s) Try.underlying9 hf rfl rfl hb13) rfl hf rfl rfl fun a hf => ?_
              refine op_guard rfl hf rfl rfl (hc12) ?_
              obtain ⟨r14, hr14, hm⟩ := ob hm
              refine op_enter (ex_call c_30 hf (vs := [byte b13]) rfl) rfl hf rfl rfl (w_ref01_Hex b13 r14 _ (hG.own hO) hr14) ?_
              rintro e w' ⟨he, hb⟩
              refine ⟨_, he, fun a hf => ?_⟩
              have hO := hO.grow hb
              refine op_val (ex_pick_t hf rfl hc12 rfl) rfl hf rfl rfl fun a hf => ?_
              refine op_val (ex_move hf rfl) rfl hf rfl rfl fun a hf => ?_
              rcases bcase (r14) with hc15 | hc15
              · have hm := it hc15 hm
                refine op_guard rfl hf rfl rfl (hc15) ?_
                refine op_val (ex_move hf rfl) rfl hf rfl rfl fun a hf => ?_
                refine op_guard rfl hf rfl rfl (hc15) ?_
                obtain ⟨s16, hs16, hm⟩ := ob hm
                refine op_val (ex_from_s (l := x_s) Try.underlying9 hf rfl rfl hs16) rfl hf rfl rfl fun a hf => ?_
                refine op_guard rfl hf rfl rfl (hc15) ?_
                refine op_val (ex_move hf rfl) rfl hf rfl rfl fun a hf => ?_
                refine op_guard rfl hf rfl rfl (hc15) ?_
                obtain ⟨r17, hr17, hm⟩ := ob hm
                refine op_enter (ex_call c_24 hf (vs := [str s16, str x_more]) rfl) rfl hf rfl rfl (ih s16 x_more r17 _ (hG.own hO) hr17) ?_
                rintro e w' ⟨he, hb⟩
                refine ⟨_, he, fun a hf => ?_⟩
                have hO := hO.grow hb
                refine op_val (ex_pick_t hf rfl hc15 rfl) rfl hf rfl rfl fun a hf => ?_
                refine op_val (ex_assign hf rfl) rfl hf rfl rfl fun a hf => ?_
                refine wpList_nil ?_
                refine nor_then ?_
                exact ⟨r17, (hf.cons rfl hf.nil), hO, hm⟩
              · have hm := ie hc15 hm
                refine op_pass rfl hf rfl rfl (hc15) rfl rfl fun a hf => ?_
                refine op_pass rfl hf rfl rfl (hc15) rfl rfl fun a hf => ?_
                refine op_pass rfl hf rfl rfl (hc15) rfl rfl fun a hf => ?_
                refine op_pass rfl hf rfl rfl (hc15) rfl rfl fun a hf => ?_
                refine op_val (ex_pick_f hf rfl hc15 rfl) rfl hf rfl rfl fun a hf => ?_
                refine op_val (ex_assign hf rfl) rfl hf rfl rfl fun a hf => ?_
                refine wpList_nil ?_
                refine nor_then ?_
                exact ⟨false, (hf.cons rfl hf.nil), hO, hm⟩
            · have hm := ie hc12 hm
              refine op_pass rfl hf rfl rfl (hc12) rfl rfl fun a hf => ?_
              refine op_pass rfl hf rfl rfl (hc12) rfl rfl fun a hf => ?_
              refine op_pass rfl hf rfl rfl (hc12) rfl rfl fun a hf => ?_
              refine op_val (ex_pick_f hf rfl hc12 rfl) rfl hf rfl rfl fun a hf => ?_
              refine op_val (ex_move hf rfl) rfl hf rfl rfl fun a hf => ?_
              refine op_pass rfl hf rfl rfl (rfl) rfl rfl fun a hf => ?_
              refine op_pass rfl hf rfl rfl (rfl) rfl rfl fun a hf => ?_
              refine op_pass rfl hf rfl rfl (rfl) rfl rfl fun a hf => ?_
              refine op_pass rfl hf rfl rfl (rfl) rfl rfl fun a hf => ?_
              refine op_val (ex_pick_f hf rfl rfl rfl) rfl hf rfl rfl fun a hf => ?_
              refine op_val (ex_assign hf rfl) rfl hf rfl rfl fun a hf => ?_
              refine wpList_nil ?_
              refine nor_then ?_
              exact ⟨false, (hf.cons rfl hf.nil), hO, hm⟩
          · have hm := ie hc9 hm
            refine op_pass rfl hf rfl rfl (hc9) rfl rfl fun a hf => ?_
            refine op_pass rfl hf rfl rfl (hc9) rfl rfl fun a hf => ?_
            refine op_pass rfl hf rfl rfl (hc9) rfl rfl fun a hf => ?_
            refine op_val (ex_pick_f hf rfl hc9 rfl) rfl hf rfl rfl fun a hf => ?_
            refine op_val (ex_move hf rfl) rfl hf rfl rfl fun a hf => ?_
            refine op_pass rfl hf rfl rfl (rfl) rfl rfl fun a hf => ?_
            refine op_pass rfl hf rfl rfl (rfl) rfl rfl fun a hf => ?_
            refine op_pass rfl hf rfl rfl (rfl) rfl rfl fun a hf => ?_
            refine op_val (ex_pick_f hf rfl rfl rfl) rfl hf rfl rfl fun a hf => ?_
            refine op_val (ex_move hf rfl) rfl hf rfl rfl fun a hf => ?_
            refine op_pass rfl hf rfl rfl (rfl) rfl rfl fun a hf => ?_
            refine op_pass rfl hf rfl rfl (rfl) rfl rfl fun a hf => ?_
            refine op_pass rfl hf rfl rfl (rfl) rfl rfl fun a hf => ?_
            refine op_pass rfl hf rfl rfl (rfl) rfl rfl fun a hf => ?_
            refine op_val (ex_pick_f hf rfl rfl rfl) rfl hf rfl rfl fun a hf => ?_
            refine op_val (ex_assign hf rfl) rfl hf rfl rfl fun a hf => ?_
            refine wpList_nil ?_
            refine nor_then ?_
            exact ⟨false, (hf.cons rfl hf.nil), hO, hm⟩
        · rintro a w ⟨t18, hf, hO, hm⟩
          rw [ref09_Of_j1] at hm
          refine wp_ret ?_
          refine ret_then ?_
          obtain rfl := Option.some.inj hm
          exact post_ret Try.results24 hf (.tmp rfl .nil) ⟨rfl, hO.below⟩
      · have hm := ie hc8 hm
        refine wp_skip ?_
        refine nor_then (hK19 _ _ ?_)
        refine wp_seq_cut (fun a w => ∃ (t30 : Bool), Fits 44 [(4, .bool t30)] a ∧ Own w0 [] w [] ∧ ref09_Of_j2 t30 = some R) ?_ ?_
        · refine wp_region_list ?_
          refine op_val (ex_move hf rfl) rfl hf rfl rfl fun a hf => ?_
          obtain ⟨b20, hb20, hm⟩ := ob hm
          refine op_val (ex_index (l := x_s) Try.underlying9 hf rfl rfl hb20) rfl hf rfl rfl fun a hf => ?_
          obtain ⟨r21, hr21, hm⟩ := ob hm
          refine op_enter (ex_call c_31 hf (vs := [byte b20]) rfl) rfl hf rfl rfl (w_ref01_Path b20 r21 _ (hG.own hO) hr21) ?_
          rintro e w' ⟨he, hb⟩
          refine ⟨_, he, fun a hf => ?_⟩
          have hO := hO.grow hb
          refine op_val (ex_move hf rfl) rfl hf rfl rfl fun a hf => ?_
          rcases bcase (r21) with hc22 | hc22
          · have hm := it hc22 hm
            refine op_pass rfl hf rfl rfl (hc22) rfl rfl fun a hf => ?_
            refine op_pass rfl hf rfl rfl (hc22) rfl rfl fun a hf => ?_
            refine op_pass rfl hf rfl rfl (hc22) rfl rfl fun a hf => ?_
            refine op_pass rfl hf rfl rfl (hc22) rfl rfl fun a hf => ?_
            refine op_val (ex_pick_t hf rfl hc22 rfl) rfl hf rfl rfl fun a hf => ?_
            refine op_val (ex_move hf rfl) rfl hf rfl rfl fun a hf => ?_
            refine op_guard rfl hf rfl rfl (rfl) ?_
            refine op_val (ex_move hf rfl) rfl hf rfl rfl fun a hf => ?_
            refine op_guard rfl hf rfl rfl (rfl) ?_
            obtain ⟨s23, hs23, hm⟩ := ob hm
            refine op_val (ex_from_s (l := x_s) Try.underlying9 hf rfl rfl hs23) rfl hf rfl rfl fun a hf => ?_
            refine op_guard rfl hf rfl rfl (rfl) ?_
            refine op_val (ex_move hf rfl) rfl hf rfl rfl fun a hf => ?_
            refine op_guard rfl hf rfl rfl (rfl) ?_
            obtain ⟨r24, hr24, hm⟩ := ob hm
            refine op_enter (ex_call c_24 hf (vs := [str s23, str x_more]) rfl) rfl hf rfl rfl (ih s23 x_more r24 _ (hG.own hO) hr24) ?_
            rintro e w' ⟨he, hb⟩
            refine ⟨_, he, fun a hf => ?_⟩
            have hO := hO.grow hb
            refine op_val (ex_pick_t hf rfl rfl rfl) rfl hf rfl rfl fun a hf => ?_
            refine op_val (ex_assign hf rfl) rfl hf rfl rfl fun a hf => ?_
            refine wpList_nil ?_
            refine nor_then ?_
            exact ⟨r24, (hf.cons rfl hf.nil), hO, hm⟩
          · have hm := ie hc22 hm
            refine op_guard rfl hf rfl rfl (hc22) ?_
            refine op_val (ex_move hf rfl) rfl hf rfl rfl fun a hf => ?_
            refine op_guard rfl hf rfl rfl (hc22) ?_
            obtain ⟨b25, hb25, hm⟩ := ob hm
            refine op_val (ex_index (l := x_s) Try.underlying9 hf rfl rfl hb25) rfl hf rfl rfl fun a hf => ?_
            refine op_guard rfl hf rfl rfl (hc22) ?_
            refine op_val (ex_move hf rfl) rfl hf rfl rfl fun a hf => ?_
            refine op_guard rfl hf rfl rfl (hc22) ?_
            obtain ⟨r26, hr26, hm⟩ := ob hm
            refine op_enter (ex_call c_21 hf (vs := [byte b25, str x_more]) rfl) rfl hf rfl rfl (w_ref01_In b25 x_more r26 _ (hG.own hO) hr26) ?_
            rintro e w' ⟨he, hb⟩
            refine ⟨_, he, fun a hf => ?_⟩
            have hO := hO.grow hb
            refine op_val (ex_pick_f hf rfl hc22 rfl) rfl hf rfl rfl fun a hf => ?_
            refine op_val (ex_move hf rfl) rfl hf rfl rfl fun a hf => ?_
            rcases bcase (r26) with hc27 | hc27
            · have hm := it hc27 hm
              refine op_guard rfl hf rfl rfl (hc27) ?_
              refine op_val (ex_move hf rfl) rfl hf rfl rfl fun a hf => ?_
              refine op_guard rfl hf rfl rfl (hc27) ?_
              obtain ⟨s28, hs28, hm⟩ := ob hm
              refine op_val (ex_from_s (l := x_s) Try.underlying9 hf rfl rfl hs28) rfl hf rfl rfl fun a hf => ?_
              refine op_guard rfl hf rfl rfl (hc27) ?_
              refine op_val (ex_move hf rfl) rfl hf rfl rfl fun a hf => ?_
              refine op_guard rfl hf rfl rfl (hc27) ?_
              obtain ⟨r29, hr29, hm⟩ := ob hm
              refine op_enter (ex_call c_24 hf (vs := [str s28, str x_more]) rfl) rfl hf rfl rfl (ih s28 x_more r29 _ (hG.own hO) hr29) ?_
              rintro e w' ⟨he, hb⟩
              refine ⟨_, he, fun a hf => ?_⟩
              have hO := hO.grow hb
              refine op_val (ex_pick_t hf rfl hc27 rfl) rfl hf rfl rfl fun a hf => ?_
              refine op_val (ex_assign hf rfl) rfl hf rfl rfl fun a hf => ?_
              refine wpList_nil ?_
              refine nor_then ?_
              exact ⟨r29, (hf.cons rfl hf.nil), hO, hm⟩
            · have hm := ie hc27 hm
              refine op_pass rfl hf rfl rfl (hc27) rfl rfl fun a hf => ?_
              refine op_pass rfl hf rfl rfl (hc27) rfl rfl fun a hf => ?_
              refine op_pass rfl hf rfl rfl (hc27) rfl rfl fun a hf => ?_
              refine op_pass rfl hf rfl rfl (hc27) rfl rfl fun a hf => ?_
              refine op_val (ex_pick_f hf rfl hc27 rfl) rfl hf rfl rfl fun a hf => ?_
              refine op_val (ex_assign hf rfl) rfl hf rfl rfl fun a hf => ?_
              refine wpList_nil ?_
              refine nor_then ?_
              exact ⟨false, (hf.cons rfl hf.nil), hO, hm⟩
        · rintro a w ⟨t30, hf, hO, hm⟩
          rw [ref09_Of_j2] at hm
          refine wp_ret ?_
          obtain rfl := Option.some.inj hm
          exact post_ret Try.results24 hf (.tmp rfl .nil) ⟨rfl, hO.below⟩
theorem w_ref09_Of (x_s : Str) (x_more : Str) (R : Bool) (w0 : World) (hG : Glob w0) (hm : ref09_Of x_s x_more = some R) :
    Calls Try.prog 24 #[str x_s, str x_more] w0 fun e w' => e = .returned (.bool R) ∧ Below w0.heap.size w0 w' :=
  w_ref09_Of_r fuel x_s x_more R w0 hG  hm

set_option maxHeartbeats 1000000 in
theorem w_ref11_right (x_a0 : api_Ref) (R : Bool) (w0 : World) (hG : Glob w0) (hm : ref11_right x_a0 = some R) :
    Calls Try.prog 15 #[.agg #[str x_a0.Scheme, str x_a0.Auth, str x_a0.Path, str x_a0.Query, str x_a0.Frag, .bool x_a0.HasAuth, .bool x_a0.HasQuery, .bool x_a0.HasFrag]] w0 fun e w' => e = .returned (.bool R) ∧ Below w0.heap.size w0 w' := by
  rw [ref11_right] at hm
  refine calls_enter (vs := [.agg #[str x_a0.Scheme, str x_a0.Auth, str x_a0.Path, str x_a0.Query, str x_a0.Frag, .bool x_a0.HasAuth, .bool x_a0.HasQuery, .bool x_a0.HasFrag]]) Try.func15 rfl Try.ntmps15 rfl fun a hf => ?_
  have hO : Own w0 [] w0 [] := Own.refl w0
  refine wp_seq_k fun _ hK2 => ?_
  refine wp_region_list ?_
  refine op_box (v := .agg #[str x_a0.Scheme, str x_a0.Auth, str x_a0.Path, str x_a0.Query, str x_a0.Frag, .bool x_a0.HasAuth, .bool x_a0.HasQuery, .bool x_a0.HasFrag]) (cs := [str x_a0.Scheme, str x_a0.Auth, str x_a0.Path, str x_a0.Query, str x_a0.Frag, .bool x_a0.HasAuth, .bool x_a0.HasQuery, .bool x_a0.HasFrag]) rfl hf rfl rfl hO fun a b1 w hf hO => ?_
  refine op_val (ex_assign hf rfl) rfl hf rfl rfl fun a hf => ?_
  refine wpList_nil ?_
  refine nor_then (hK2 _ _ ?_)
  refine wp_seq_k fun _ hK15 => ?_
  refine wp_seq_cut (fun a w => ∃ (t12 : Bool), Fits 76 [(1, ptr b1 0), (34, .bool t12)] a ∧ Own w0 [] w [.blk b1 [str x_a0.Scheme, str x_a0.Auth, str x_a0.Path, str x_a0.Query, str x_a0.Frag, .bool x_a0.HasAuth, .bool x_a0.HasQuery, .bool x_a0.HasFrag] 27] ∧ ref11_right_j1 x_a0 t12 = some R) ?_ ?_
  · refine wp_quiet (by kernel_rfl) (by kernel_rfl) hO ?_
    refine q_val (fun w hO => ex_field fa_27_1 hf rfl) rfl hf rfl rfl fun a hf => ?_
    refine q_val (fun w hO => ex_load1 (o := 1) ag_9 (hO.blkSees (i := 0) rfl) rfl hf rfl) rfl hf rfl rfl fun a hf => ?_
    obtain ⟨r3, hr3, hm⟩ := ob hm
    refine q_call (fun w hO => ex_call c_24 hf (vs := [str x_a0.Auth, str [91, 93]]) rfl) rfl hf rfl rfl (fun w hO => (w_ref09_Of x_a0.Auth [91, 93] r3 _ (hG.own hO) hr3).mono fun e w' ⟨he, hb⟩ => ⟨he, hO.grow hb⟩) fun a hf => ?_
    refine q_val (fun w hO => ex_not hf rfl) rfl hf rfl rfl fun a hf => ?_
    refine q_val (fun w hO => ex_move hf rfl) rfl hf rfl rfl fun a hf => ?_
    rcases bcase (!r3) with hc4 | hc4
    · have hm := it hc4 hm
      refine q_pass rfl hf rfl rfl (hc4) rfl rfl fun a hf => ?_
      refine q_pass rfl hf rfl rfl (hc4) rfl rfl fun a hf => ?_
      refine q_pass rfl hf rfl rfl (hc4) rfl rfl fun a hf => ?_
      refine q_pass rfl hf rfl rfl (hc4) rfl rfl fun a hf => ?_
      refine q_pass rfl hf rfl rfl (hc4) rfl rfl fun a hf => ?_
      refine q_pass rfl hf rfl rfl (hc4) rfl rfl fun a hf => ?_
      refine q_pass rfl hf rfl rfl (hc4) rfl rfl fun a hf => ?_
      refine q_val (fun w hO => ex_pick_t hf rfl hc4 rfl) rfl hf rfl rfl fun a hf => ?_
      refine q_val (fun w hO => ex_move hf rfl) rfl hf rfl rfl fun a hf => ?_
      refine q_pass rfl hf rfl rfl (rfl) rfl rfl fun a hf => ?_
      refine q_pass rfl hf rfl rfl (rfl) rfl rfl fun a hf => ?_
      refine q_pass rfl hf rfl rfl (rfl) rfl rfl fun a hf => ?_
      refine q_pass rfl hf rfl rfl (rfl) rfl rfl fun a hf => ?_
      refine q_val (fun w hO => ex_pick_t hf rfl rfl rfl) rfl hf rfl rfl fun a hf => ?_
      refine q_val (fun w hO => ex_move hf rfl) rfl hf rfl rfl fun a hf => ?_
      refine q_pass rfl hf rfl rfl (rfl) rfl rfl fun a hf => ?_
      refine q_pass rfl hf rfl rfl (rfl) rfl rfl fun a hf => ?_
      refine q_pass rfl hf rfl rfl (rfl) rfl rfl fun a hf => ?_
      refine q_pass rfl hf rfl rfl (rfl) rfl rfl fun a hf => ?_
      refine q_val (fun w hO => ex_pick_t hf rfl rfl rfl) rfl hf rfl rfl fun a hf => ?_
      refine q_val (fun w hO => ex_move hf rfl) rfl hf rfl rfl fun a hf => ?_
      refine q_pass rfl hf rfl rfl (rfl) rfl rfl fun a hf => ?_
      refine q_pass rfl hf rfl rfl (rfl) rfl rfl fun a hf => ?_
      refine q_pass rfl hf rfl rfl (rfl) rfl rfl fun a hf => ?_
      refine q_pass rfl hf rfl rfl (rfl) rfl rfl fun a hf => ?_
      refine q_val (fun w hO => ex_pick_t hf rfl rfl rfl) rfl hf rfl rfl fun a hf => ?_
      refine wpQuiet_nil ?_
      intro w hO
      refine nor_then ?_
      exact ⟨true, (hf.cons rfl (hf.cons rfl hf.nil)), hO, hm⟩
    · have hm := ie hc4 hm
      refine q_guard rfl hf rfl rfl (hc4) ?_
      refine q_val (fun w hO => ex_field fa_27_1 hf rfl) rfl hf rfl rfl fun a hf => ?_
      refine q_guard rfl hf rfl rfl (hc4) ?_
      refine q_val (fun w hO => ex_load1 (o := 1) ag_9 (hO.blkSees (i := 0) rfl) rfl hf rfl) rfl hf rfl rfl fun a hf => ?_
      refine q_guard rfl hf rfl rfl (hc4) ?_
      obtain ⟨r5, hr5, hm⟩ := ob hm
      refine q_call (fun w hO => ex_call c_13 hf (vs := [str x_a0.Auth, str [64]]) rfl) rfl hf rfl rfl (fun w hO => (w_ref11_first x_a0.Auth [64] r5 _ (hG.own hO) hr5).mono fun e w' ⟨he, hb⟩ => ⟨he, hO.grow hb⟩) fun a hf => ?_
      refine q_guard rfl hf rfl rfl (hc4) ?_
      refine q_val (fun w hO => ex_field fa_27_1 hf rfl) rfl hf rfl rfl fun a hf => ?_
      refine q_guard rfl hf rfl rfl (hc4) ?_
      refine q_val (fun w hO => ex_load1 (o := 1) ag_9 (hO.blkSees (i := 0) rfl) rfl hf rfl) rfl hf rfl rfl fun a hf => ?_
      refine q_guard rfl hf rfl rfl (hc4) ?_
      refine q_val (fun w hO => ex_len_s (l := x_a0.Auth) Try.underlying9 hf rfl) rfl hf rfl rfl fun a hf => ?_
      refine q_guard rfl hf rfl rfl (hc4) ?_
      refine q_val (fun w hO => ex_lss (m := r5) (n := (x_a0.Auth.length : Int)) hf rfl rfl) rfl hf rfl rfl fun a hf => ?_
      refine q_val (fun w hO => ex_pick_f hf rfl hc4 rfl) rfl hf rfl rfl fun a hf => ?_
      refine q_val (fun w hO => ex_move hf rfl) rfl hf rfl rfl fun a hf => ?_
      rcases bcase (decide (r5 < (x_a0.Auth.length : Int))) with hc6 | hc6
      · have hm := it hc6 hm
        refine q_pass rfl hf rfl rfl (hc6) rfl rfl fun a hf => ?_
        refine q_pass rfl hf rfl rfl (hc6) rfl rfl fun a hf => ?_
        refine q_pass rfl hf rfl rfl (hc6) rfl rfl fun a hf => ?_
        refine q_pass rfl hf rfl rfl (hc6) rfl rfl fun a hf => ?_
        refine q_val (fun w hO => ex_pick_t hf rfl hc6 rfl) rfl hf rfl rfl fun a hf => ?_
        refine q_val (fun w hO => ex_move hf rfl) rfl hf rfl rfl fun a hf => ?_
        refine q_pass rfl hf rfl rfl (rfl) rfl rfl fun a hf => ?_
        refine q_pass rfl hf rfl rfl (rfl) rfl rfl fun a hf => ?_
        refine q_pass rfl hf rfl rfl (rfl) rfl rfl fun a hf => ?_
        refine q_pass rfl hf rfl rfl (rfl) rfl rfl fun a hf => ?_
        refine q_val (fun w hO => ex_pick_t hf rfl rfl rfl) rfl hf rfl rfl fun a hf => ?_
        refine q_val (fun w hO => ex_move hf rfl) rfl hf rfl rfl fun a hf => ?_
        refine q_pass rfl hf rfl rfl (rfl) rfl rfl fun a hf => ?_
        refine q_pass rfl hf rfl rfl (rfl) rfl rfl fun a hf => ?_
        refine q_pass rfl hf rfl rfl (rfl) rfl rfl fun a hf => ?_
        refine q_pass rfl hf rfl rfl (rfl) rfl rfl fun a hf => ?_
        refine q_val (fun w hO => ex_pick_t hf rfl rfl rfl) rfl hf rfl rfl fun a hf => ?_
        refine wpQuiet_nil ?_
        intro w hO
        refine nor_then ?_
        exact ⟨true, (hf.cons rfl (hf.cons rfl hf.nil)), hO, hm⟩
      · have hm := ie hc6 hm
        refine q_guard rfl hf rfl rfl (hc6) ?_
        refine q_val (fun w hO => ex_field fa_27_2 hf rfl) rfl hf rfl rfl fun a hf => ?_
        refine q_guard rfl hf rfl rfl (hc6) ?_
        refine q_val (fun w hO => ex_load1 (o := 2) ag_9 (hO.blkSees (i := 0) rfl) rfl hf rfl) rfl hf rfl rfl fun a hf => ?_
        refine q_guard rfl hf rfl rfl (hc6) ?_
        obtain ⟨r7, hr7, hm⟩ := ob hm
        refine q_call (fun w hO => ex_call c_24 hf (vs := [str x_a0.Path, str [47]]) rfl) rfl hf rfl rfl (fun w hO => (w_ref09_Of x_a0.Path [47] r7 _ (hG.own hO) hr7).mono fun e w' ⟨he, hb⟩ => ⟨he, hO.grow hb⟩) fun a hf => ?_
        refine q_guard rfl hf rfl rfl (hc6) ?_
        refine q_val (fun w hO => ex_not hf rfl) rfl hf rfl rfl fun a hf => ?_
        refine q_val (fun w hO => ex_pick_f hf rfl hc6 rfl) rfl hf rfl rfl fun a hf => ?_
        refine q_val (fun w hO => ex_move hf rfl) rfl hf rfl rfl fun a hf => ?_
        rcases bcase (!r7) with hc8 | hc8
        · have hm := it hc8 hm
          refine q_pass rfl hf rfl rfl (hc8) rfl rfl fun a hf => ?_
          refine q_pass rfl hf rfl rfl (hc8) rfl rfl fun a hf => ?_
          refine q_pass rfl hf rfl rfl (hc8) rfl rfl fun a hf => ?_
          refine q_pass rfl hf rfl rfl (hc8) rfl rfl fun a hf => ?_
          refine q_val (fun w hO => ex_pick_t hf rfl hc8 rfl) rfl hf rfl rfl fun a hf => ?_
          refine q_val (fun w hO => ex_move hf rfl) rfl hf rfl rfl fun a hf => ?_
          refine q_pass rfl hf rfl rfl (rfl) rfl rfl fun a hf => ?_
          refine q_pass rfl hf rfl rfl (rfl) rfl rfl fun a hf => ?_
          refine q_pass rfl hf rfl rfl (rfl) rfl rfl fun a hf => ?_
          refine q_pass rfl hf rfl rfl (rfl) rfl rfl fun a hf => ?_
          refine q_val (fun w hO => ex_pick_t hf rfl rfl rfl) rfl hf rfl rfl fun a hf => ?_
          refine wpQuiet_nil ?_
          intro w hO
          refine nor_then ?_
          exact ⟨true, (hf.cons rfl (hf.cons rfl hf.nil)), hO, hm⟩
        · have hm := ie hc8 hm
          refine q_guard rfl hf rfl rfl (hc8) ?_
          refine q_val (fun w hO => ex_field fa_27_3 hf rfl) rfl hf rfl rfl fun a hf => ?_
          refine q_guard rfl hf rfl rfl (hc8) ?_
          refine q_val (fun w hO => ex_load1 (o := 3) ag_9 (hO.blkSees (i := 0) rfl) rfl hf rfl) rfl hf rfl rfl fun a hf => ?_
          refine q_guard rfl hf rfl rfl (hc8) ?_
          obtain ⟨r9, hr9, hm⟩ := ob hm
          refine q_call (fun w hO => ex_call c_24 hf (vs := [str x_a0.Query, str [47, 63]]) rfl) rfl hf rfl rfl (fun w hO => (w_ref09_Of x_a0.Query [47, 63] r9 _ (hG.own hO) hr9).mono fun e w' ⟨he, hb⟩ => ⟨he, hO.grow hb⟩) fun a hf => ?_
          refine q_guard rfl hf rfl rfl (hc8) ?_
          refine q_val (fun w hO => ex_not hf rfl) rfl hf rfl rfl fun a hf => ?_
          refine q_val (fun w hO => ex_pick_f hf rfl hc8 rfl) rfl hf rfl rfl fun a hf => ?_
          refine q_val (fun w hO => ex_move hf rfl) rfl hf rfl rfl fun a hf => ?_
          rcases bcase (!r9) with hc10 | hc10
          · have hm := it hc10 hm
            refine q_pass rfl hf rfl rfl (hc10) rfl rfl fun a hf => ?_
            refine q_pass rfl hf rfl rfl (hc10) rfl rfl fun a hf => ?_
            refine q_pass rfl hf rfl rfl (hc10) rfl rfl fun a hf => ?_
            refine q_pass rfl hf rfl rfl (hc10) rfl rfl fun a hf => ?_
            refine q_val (fun w hO => ex_pick_t hf rfl hc10 rfl) rfl hf rfl rfl fun a hf => ?_
            refine wpQuiet_nil ?_
            intro w hO
            refine nor_then ?_
            exact ⟨true, (hf.cons rfl (hf.cons rfl hf.nil)), hO, hm⟩
          · have hm := ie hc10 hm
            refine q_guard rfl hf rfl rfl (hc10) ?_
            refine q_val (fun w hO => ex_field fa_27_4 hf rfl) rfl hf rfl rfl fun a hf => ?_
            refine q_guard rfl hf rfl rfl (hc10) ?_
            refine q_val (fun w hO => ex_load1 (o := 4) ag_9 (hO.blkSees (i := 0) rfl) rfl hf rfl) rfl hf rfl rfl fun a hf => ?_
            refine q_guard rfl hf rfl rfl (hc10) ?_
            obtain ⟨r11, hr11, hm⟩ := ob hm
            refine q_call (fun w hO => ex_call c_24 hf (vs := [str x_a0.Frag, str [47, 63]]) rfl) rfl hf rfl rfl (fun w hO => (w_ref09_Of x_a0.Frag [47, 63] r11 _ (hG.own hO) hr11).mono fun e w' ⟨he, hb⟩ => ⟨he, hO.grow hb⟩) fun a hf => ?_
            refine q_guard rfl hf rfl rfl (hc10) ?_
            refine q_val (fun w hO => ex_not hf rfl) rfl hf rfl rfl fun a hf => ?_
            refine q_val (fun w hO => ex_pick_f hf rfl hc10 rfl) rfl hf rfl rfl fun a hf => ?_
            refine wpQuiet_nil ?_
            intro w hO
            refine nor_then ?_
            exact ⟨!r11, (hf.cons rfl (hf.cons rfl hf.nil)), hO, hm⟩
  · rintro a w ⟨t12, hf, hO, hm⟩
    rw [ref11_right_j1] at hm
    refine wp_cond_cut hf rfl (fun hc13 => ?_) (fun hc13 => ?_)
    · have hm := it hc13 hm
      refine wp_seq_k fun _ hK14 => ?_
      refine wp_region_list ?_
      refine op_val (ex_assign hf rfl) rfl hf rfl rfl fun a hf => ?_
      refine wpList_nil ?_
      refine nor_then (hK14 _ _ ?_)
      refine wp_ret ?_
      refine ret_then ?_
      obtain rfl := Option.some.inj hm
      exact post_ret Try.results15 hf (.tmp rfl .nil) ⟨rfl, hO.below⟩
    · have hm := ie hc13 hm
      refine wp_skip ?_
      refine nor_then (hK15 _ _ ?_)
      refine wp_seq_k fun _ hK21 => ?_
      refine wp_seq_k fun _ hK16 => ?_
      refine wp_region_list ?_
      refine op_val (ex_field fa_27_5 hf rfl) rfl hf rfl rfl fun a hf => ?_
      refine op_val (ex_load1 (o := 5) ag_4 (hO.blkSees (i := 0) rfl) rfl hf rfl) rfl hf rfl rfl fun a hf => ?_
      refine wpList_nil ?_
      refine nor_then (hK16 _ _ ?_)
      refine wp_cond_cut hf rfl (fun hc17 => ?_) (fun hc17 => ?_)
      · have hm := it hc17 hm
        refine wp_seq_cut (fun a w => ∃ (t20 : Bool), Fits 76 [(2, .bool t20)] a ∧ Own w0 [] w [.blk b1 [str x_a0.Scheme, str x_a0.Auth, str x_a0.Path, str x_a0.Query, str x_a0.Frag, .bool x_a0.HasAuth, .bool x_a0.HasQuery, .bool x_a0.HasFrag] 27] ∧ ref11_right_j2 t20 = some R) ?_ ?_
        · refine wp_region_list ?_
          refine op_val (ex_field fa_27_2 hf rfl) rfl hf rfl rfl fun a hf => ?_
          refine op_val (ex_load1 (o := 2) ag_9 (hO.blkSees (i := 0) rfl) rfl hf rfl) rfl hf rfl rfl fun a hf => ?_
          refine op_val (ex_eql_s (l := x_a0.Path) (m := []) hf rfl rfl) rfl hf rfl rfl fun a hf => ?_
          refine op_val (ex_move hf rfl) rfl hf rfl rfl fun a hf => ?_
          rcases bcase (x_a0.Path == []) with hc18 | hc18
          · have hm := it hc18 hm
            refine op_pass rfl hf rfl rfl (hc18) rfl rfl fun a hf => ?_
            refine op_pass rfl hf rfl rfl (hc18) rfl rfl fun a hf => ?_
            refine op_pass rfl hf rfl rfl (hc18) rfl rfl fun a hf => ?_
            refine op_pass rfl hf rfl rfl (hc18) rfl rfl fun a hf => ?_
            refine op_val (ex_pick_t hf rfl hc18 rfl) rfl hf rfl rfl fun a hf => ?_
            refine op_val (ex_assign hf rfl) rfl hf rfl rfl fun a hf => ?_
            refine wpList_nil ?_
            refine nor_then ?_
            exact ⟨true, (hf.cons rfl hf.nil), hO, hm⟩
          · have hm := ie hc18 hm
            refine op_guard rfl hf rfl rfl (hc18) ?_
            refine op_val (ex_field fa_27_2 hf rfl) rfl hf rfl rfl fun a hf => ?_
            refine op_guard rfl hf rfl rfl (hc18) ?_
            refine op_val (ex_load1 (o := 2) ag_9 (hO.blkSees (i := 0) rfl) rfl hf rfl) rfl hf rfl rfl fun a hf => ?_
            refine op_guard rfl hf rfl rfl (hc18) ?_
            obtain ⟨b19, hb19, hm⟩ := ob hm
            refine op_val (ex_index (l := x_a0.Path) Try.underlying9 hf rfl rfl hb19) rfl hf rfl rfl fun a hf => ?_
            refine op_guard rfl hf rfl rfl (hc18) ?_
            refine op_val (ex_eql_b (b := b19) (c := 47) hf rfl rfl) rfl hf rfl rfl fun a hf => ?_
            refine op_val (ex_pick_f hf rfl hc18 rfl) rfl hf rfl rfl fun a hf => ?_
            refine op_val (ex_assign hf rfl) rfl hf rfl rfl fun a hf => ?_
            refine wpList_nil ?_
            refine nor_then ?_
            exact ⟨b19 == 47, (hf.cons rfl hf.nil), hO, hm⟩
        · rintro a w ⟨t20, hf, hO, hm⟩
          rw [ref11_right_j2] at hm
          refine wp_ret ?_
          refine ret_then ?_
          obtain rfl := Option.some.inj hm
          exact post_ret Try.results15 hf (.tmp rfl .nil) ⟨rfl, hO.below⟩
      · have hm := ie hc17 hm
        refine wp_skip ?_
        refine nor_then (hK21 _ _ ?_)
        refine wp_seq_k fun _ hK27 => ?_
        refine wp_seq_cut (fun a w => ∃ (t24 : Bool), Fits 76 [(1, ptr b1 0), (55, .bool t24)] a ∧ Own w0 [] w [.blk b1 [str x_a0.Scheme, str x_a0.Auth, str x_a0.Path, str x_a0.Query, str x_a0.Frag, .bool x_a0.HasAuth, .bool x_a0.HasQuery, .bool x_a0.HasFrag] 27] ∧ ref11_right_j3 x_a0 t24 = some R) ?_ ?_
        · refine wp_region_list ?_
          refine op_val (ex_field fa_27_2 hf rfl) rfl hf rfl rfl fun a hf => ?_
          refine op_val (ex_load1 (o := 2) ag_9 (hO.blkSees (i := 0) rfl) rfl hf rfl) rfl hf rfl rfl fun a hf => ?_
          refine op_val (ex_len_s (l := x_a0.Path) Try.underlying9 hf rfl) rfl hf rfl rfl fun a hf => ?_
          refine op_val (ex_gtr (m := (x_a0.Path.length : Int)) (n := 1) hf rfl rfl) rfl hf rfl rfl fun a hf => ?_
          refine op_val (ex_move hf rfl) rfl hf rfl rfl fun a hf => ?_
          rcases bcase (decide (1 < (x_a0.Path.length : Int))) with hc22 | hc22
          · have hm := it hc22 hm
            refine op_guard rfl hf rfl rfl (hc22) ?_
            refine op_val (ex_field fa_27_2 hf rfl) rfl hf rfl rfl fun a hf => ?_
            refine op_guard rfl hf rfl rfl (hc22) ?_
            refine op_val (ex_load1 (o := 2) ag_9 (hO.blkSees (i := 0) rfl) rfl hf rfl) rfl hf rfl rfl fun a hf => ?_
            refine op_guard rfl hf rfl rfl (hc22) ?_
            obtain ⟨s23, hs23, hm⟩ := ob hm
            refine op_val (ex_to_s (l := x_a0.Path) Try.underlying9 hf rfl rfl hs23) rfl hf rfl rfl fun a hf => ?_
            refine op_guard rfl hf rfl rfl (hc22) ?_
            refine op_val (ex_eql_s (l := s23) (m := [47, 47]) hf rfl rfl) rfl hf rfl rfl fun a hf => ?_
            refine op_val (ex_pick_t hf rfl hc22 rfl) rfl hf rfl rfl fun a hf => ?_
            refine wpList_nil ?_
            refine nor_then ?_
            exact ⟨s23 == [47, 47], (hf.cons rfl (hf.cons rfl hf.nil)), hO, hm⟩
          · have hm := ie hc22 hm
            refine op_pass rfl hf rfl rfl (hc22) rfl rfl fun a hf => ?_
            refine op_pass rfl hf rfl rfl (hc22) rfl rfl fun a hf => ?_
            refine op_pass rfl hf rfl rfl (hc22) rfl rfl fun a hf => ?_
            refine op_pass rfl hf rfl rfl (hc22) rfl rfl fun a hf => ?_
            refine op_val (ex_pick_f hf rfl hc22 rfl) rfl hf rfl rfl fun a hf => ?_
            refine wpList_nil ?_
            refine nor_then ?_
            exact ⟨false, (hf.cons rfl (hf.cons rfl hf.nil)), hO, hm⟩
        · rintro a w ⟨t24, hf, hO, hm⟩
          rw [ref11_right_j3] at hm
          refine wp_cond_cut hf rfl (fun hc25 => ?_) (fun hc25 => ?_)
          · have hm := it hc25 hm
            refine wp_seq_k fun _ hK26 => ?_
            refine wp_region_list ?_
            refine op_val (ex_assign hf rfl) rfl hf rfl rfl fun a hf => ?_
            refine wpList_nil ?_
            refine nor_then (hK26 _ _ ?_)
            refine wp_ret ?_
            refine ret_then ?_
            obtain rfl := Option.some.inj hm
            exact post_ret Try.results15 hf (.tmp rfl .nil) ⟨rfl, hO.below⟩
          · have hm := ie hc25 hm
            refine wp_skip ?_
            refine nor_then (hK27 _ _ ?_)
            refine wp_seq_k fun _ hK29 => ?_
            refine wp_region_list ?_
            refine op_val (ex_field fa_27_2 hf rfl) rfl hf rfl rfl fun a hf => ?_
            refine op_val (ex_load1 (o := 2) ag_9 (hO.blkSees (i := 0) rfl) rfl hf rfl) rfl hf rfl rfl fun a hf => ?_
            obtain ⟨r28, hr28, hm⟩ := ob hm
            refine op_enter (ex_call c_13 hf (vs := [str x_a0.Path, str [58, 47]]) rfl) rfl hf rfl rfl (w_ref11_first x_a0.Path [58, 47] r28 _ (hG.own hO) hr28) ?_
            rintro e w' ⟨he, hb⟩
            refine ⟨_, he, fun a hf => ?_⟩
            have hO := hO.grow hb
            refine op_val (ex_assign hf rfl) rfl hf rfl rfl fun a hf => ?_
            refine wpList_nil ?_
            refine nor_then (hK29 _ _ ?_)
            refine wp_seq_cut (fun a w => ∃ (t33 : Bool), Fits 76 [(2, .bool t33)] a ∧ Own w0 [] w [.blk b1 [str x_a0.Scheme, str x_a0.Auth, str x_a0.Path, str x_a0.Query, str x_a0.Frag, .bool x_a0.HasAuth, .bool x_a0.HasQuery, .bool x_a0.HasFrag] 27] ∧ ref11_right_j4 t33 = some R) ?_ ?_
            · refine wp_region_list ?_
              refine op_val (ex_field fa_27_0 hf rfl) rfl hf rfl rfl fun a hf => ?_
              refine op_val (ex_load1 (o := 0) ag_9 (hO.blkSees (i := 0) rfl) rfl hf rfl) rfl hf rfl rfl fun a hf => ?_
              refine op_val (ex_neq_s (l := x_a0.Scheme) (m := []) hf rfl rfl) rfl hf rfl rfl fun a hf => ?_
              refine op_val (ex_move hf rfl) rfl hf rfl rfl fun a hf => ?_
              rcases bcase (!(x_a0.Scheme == [])) with hc30 | hc30
              · have hm := it hc30 hm
                refine op_pass rfl hf rfl rfl (hc30) rfl rfl fun a hf => ?_
                refine op_pass rfl hf rfl rfl (hc30) rfl rfl fun a hf => ?_
                refine op_pass rfl hf rfl rfl (hc30) rfl rfl fun a hf => ?_
                refine op_pass rfl hf rfl rfl (hc30) rfl rfl fun a hf => ?_
                refine op_pass rfl hf rfl rfl (hc30) rfl rfl fun a hf => ?_
                refine op_val (ex_pick_t hf rfl hc30 rfl) rfl hf rfl rfl fun a hf => ?_
                refine op_val (ex_move hf rfl) rfl hf rfl rfl fun a hf => ?_
                refine op_pass rfl hf rfl rfl (rfl) rfl rfl fun a hf => ?_
                refine op_pass rfl hf rfl rfl (rfl) rfl rfl fun a hf => ?_
                refine op_pass rfl hf rfl rfl (rfl) rfl rfl fun a hf => ?_
                refine op_pass rfl hf rfl rfl (rfl) rfl rfl fun a hf => ?_
                refine op_pass rfl hf rfl rfl (rfl) rfl rfl fun a hf => ?_
                refine op_val (ex_pick_t hf rfl rfl rfl) rfl hf rfl rfl fun a hf => ?_
                refine op_val (ex_assign hf rfl) rfl hf rfl rfl fun a hf => ?_
                refine wpList_nil ?_
                refine nor_then ?_
                exact ⟨true, (hf.cons rfl hf.nil), hO, hm⟩
              · have hm := ie hc30 hm
                refine op_guard rfl hf rfl rfl (hc30) ?_
                refine op_val (ex_move hf rfl) rfl hf rfl rfl fun a hf => ?_
                refine op_guard rfl hf rfl rfl (hc30) ?_
                refine op_val (ex_field fa_27_2 hf rfl) rfl hf rfl rfl fun a hf => ?_
                refine op_guard rfl hf rfl rfl (hc30) ?_
                refine op_val (ex_load1 (o := 2) ag_9 (hO.blkSees (i := 0) rfl) rfl hf rfl) rfl hf rfl rfl fun a hf => ?_
                refine op_guard rfl hf rfl rfl (hc30) ?_
                refine op_val (ex_len_s (l := x_a0.Path) Try.underlying9 hf rfl) rfl hf rfl rfl fun a hf => ?_
                refine op_guard rfl hf rfl rfl (hc30) ?_
                refine op_val (ex_eql (m := r28) (n := (x_a0.Path.length : Int)) hf rfl rfl) rfl hf rfl rfl fun a hf => ?_
                refine op_val (ex_pick_f hf rfl hc30 rfl) rfl hf rfl rfl fun a hf => ?_
                refine op_val (ex_move hf rfl) rfl hf rfl rfl fun a hf => ?_
                rcases bcase (r28 == (x_a0.Path.length : Int)) with hc31 | hc31
                · have hm := it hc31 hm
                  refine op_pass rfl hf rfl rfl (hc31) rfl rfl fun a hf => ?_
                  refine op_pass rfl hf rfl rfl (hc31) rfl rfl fun a hf => ?_
                  refine op_pass rfl hf rfl rfl (hc31) rfl rfl fun a hf => ?_
                  refine op_pass rfl hf rfl rfl (hc31) rfl rfl fun a hf => ?_
                  refine op_pass rfl hf rfl rfl (hc31) rfl rfl fun a hf => ?_
                  refine op_val (ex_pick_t hf rfl hc31 rfl) rfl hf rfl rfl fun a hf => ?_
                  refine op_val (ex_assign hf rfl) rfl hf rfl rfl fun a hf => ?_
                  refine wpList_nil ?_
                  refine nor_then ?_
                  exact ⟨true, (hf.cons rfl hf.nil), hO, hm⟩
                · have hm := ie hc31 hm
                  refine op_guard rfl hf rfl rfl (hc31) ?_
                  refine op_val (ex_field fa_27_2 hf rfl) rfl hf rfl rfl fun a hf => ?_
                  refine op_guard rfl hf rfl rfl (hc31) ?_
                  refine op_val (ex_load1 (o := 2) ag_9 (hO.blkSees (i := 0) rfl) rfl hf rfl) rfl hf rfl rfl fun a hf => ?_
                  refine op_guard rfl hf rfl rfl (hc31) ?_
                  refine op_val (ex_move hf rfl) rfl hf rfl rfl fun a hf => ?_
                  refine op_guard rfl hf rfl rfl (hc31) ?_
                  obtain ⟨b32, hb32, hm⟩ := ob hm
                  refine op_val (ex_index (l := x_a0.Path) Try.underlying9 hf rfl rfl hb32) rfl hf rfl rfl fun a hf => ?_
                  refine op_guard rfl hf rfl rfl (hc31) ?_
                  refine op_val (ex_eql_b (b := b32) (c := 47) hf rfl rfl) rfl hf rfl rfl fun a hf => ?_
                  refine op_val (ex_pick_f hf rfl hc31 rfl) rfl hf rfl rfl fun a hf => ?_
                  refine op_val (ex_assign hf rfl) rfl hf rfl rfl fun a hf => ?_
                  refine wpList_nil ?_
                  refine nor_then ?_
                  exact ⟨b32 == 47, (hf.cons rfl hf.nil), hO, hm⟩
            · rintro a w ⟨t33, hf, hO, hm⟩
              rw [ref11_right_j4] at hm
              refine wp_ret ?_
              obtain rfl := Option.some.inj hm
              exact post_ret Try.results15 hf (.tmp rfl .nil) ⟨rfl, hO.below⟩

set_option maxHeartbeats 1000000 in
theorem w_ref11_Parse (x_a0 : Str) (R : api_Ref × Int) (w0 : World) (hG : Glob w0) (hm : ref11_Parse x_a0 = some R) :
    Calls Try.prog 7 #[str x_a0] w0 fun e w' => e = .returned (.tuple #[.agg #[str R.1.Scheme, str R.1.Auth, str R.1.Path, str R.1.Query, str R.1.Frag, .bool R.1.HasAuth, .bool R.1.HasQuery, .bool R.1.HasFrag], int R.2]) ∧ Below w0.heap.size w0 w' := by
  rw [ref11_Parse] at hm
  refine calls_enter (vs := [str x_a0]) Try.func7 rfl Try.ntmps7 rfl fun a hf => ?_
  have hO : Own w0 [] w0 [] := Own.refl w0
  refine wp_seq_k fun _ hK2 => ?_
  refine wp_region_list ?_
  refine op_alloc al_27 hf rfl hO fun a b1 w hf hO => ?_
  refine op_val (ex_assign hf rfl) rfl hf rfl rfl fun a hf => ?_
  refine wpList_nil ?_
  refine nor_then (hK2 _ _ ?_)
  refine wp_seq_k fun _ hK4 => ?_
  refine wp_region_list ?_
  refine op_val (ex_build (vs := []) (v := .agg #[str [], str [], str [], str [], str [], .bool false, .bool false, .bool false]) hf rfl (by kernel_rfl)) rfl hf rfl rfl fun a hf => ?_
  refine op_alloc al_27 hf rfl hO fun a b3 w hf hO => ?_
  refine op_storeN (i := 0) (n := 8) sz_27 rfl rfl rfl (by simp [Value.oneCell']) hf rfl rfl hO fun w hO => ?_
  refine wpList_nil ?_
  refine nor_then (hK4 _ _ ?_)
  refine wp_seq_k fun _ hK6 => ?_
  refine wp_region_list ?_
  refine op_val (ex_move hf rfl) rfl hf rfl rfl fun a hf => ?_
  obtain ⟨r5, hr5, hm⟩ := ob hm
  refine op_enter (ex_call c_13 hf (vs := [str x_a0, str [35]]) rfl) rfl hf rfl rfl (w_ref11_first x_a0 [35] r5 _ (hG.own hO) hr5) ?_
  rintro e w' ⟨he, hb⟩
  refine ⟨_, he, fun a hf => ?_⟩
  have hO := hO.grow hb
  refine op_val (ex_assign hf rfl) rfl hf rfl rfl fun a hf => ?_
  refine wpList_nil ?_
  refine nor_then (hK6 _ _ ?_)
  refine wp_seq_cut (fun a w => ∃ (s14 : Str) (s15 : Str) (t16 : Bool), Fits 94 [(0, str s14), (2, ptr b1 0), (4, ptr b3 0)] a ∧ Own w0 [] w [.blk b3 [str [], str [], str [], str [], str s15, .bool false, .bool false, .bool t16] 27, .blk b1 [str [], str [], str [], str [], str [], .bool false, .bool false, .bool false] 27] ∧ ref11_Parse_j1 s14 s15 t16 = some R) ?_ ?_
  · refine wp_seq_k fun _ hK7 => ?_
    refine wp_region_list ?_
    refine op_val (ex_move hf rfl) rfl hf rfl rfl fun a hf => ?_
    refine op_val (ex_move hf rfl) rfl hf rfl rfl fun a hf => ?_
    refine op_val (ex_len_s (l := x_a0) Try.underlying9 hf rfl) rfl hf rfl rfl fun a hf => ?_
    refine op_val (ex_lss (m := r5) (n := (x_a0.length : Int)) hf rfl rfl) rfl hf rfl rfl fun a hf => ?_
    refine wpList_nil ?_
    refine nor_then (hK7 _ _ ?_)
    refine wp_cond_cut hf rfl (fun hc8 => ?_) (fun hc8 => ?_)
    · have hm := it hc8 hm
      refine wp_seq_k fun _ hK9 => ?_
      refine wp_region_list ?_
      refine op_val (ex_field fa_27_7 hf rfl) rfl hf rfl rfl fun a hf => ?_
      refine op_store1 (i := 0) (o := 7) (v := .bool true) sz_4 rfl rfl rfl rfl hf rfl rfl hO fun w hO => ?_
      refine wpList_nil ?_
      refine nor_then (hK9 _ _ ?_)
      refine wp_seq_k fun _ hK12 => ?_
      refine wp_region_list ?_
      refine op_val (ex_move hf rfl) rfl hf rfl rfl fun a hf => ?_
      refine op_val (ex_move hf rfl) rfl hf rfl rfl fun a hf => ?_
      obtain ⟨i10, hi10, hm⟩ := ob hm
      refine op_val (ex_add hf rfl rfl hi10) rfl hf rfl rfl fun a hf => ?_
      obtain ⟨s11, hs11, hm⟩ := ob hm
      refine op_val (ex_from_s (l := x_a0) Try.underlying9 hf rfl rfl hs11) rfl hf rfl rfl fun a hf => ?_
      refine op_val (ex_field fa_27_4 hf rfl) rfl hf rfl rfl fun a hf => ?_
      refine op_store1 (i := 0) (o := 4) (v := str s11) sz_9 rfl rfl rfl rfl hf rfl rfl hO fun w hO => ?_
      refine wpList_nil ?_
      refine nor_then (hK12 _ _ ?_)
      refine wp_region_list ?_
      refine op_val (ex_move hf rfl) rfl hf rfl rfl fun a hf => ?_
      refine op_val (ex_move hf rfl) rfl hf rfl rfl fun a hf => ?_
      obtain ⟨s13, hs13, hm⟩ := ob hm
      refine op_val (ex_to_s (l := x_a0) Try.underlying9 hf rfl rfl hs13) rfl hf rfl rfl fun a hf => ?_
      refine op_val (ex_assign hf rfl) rfl hf rfl rfl fun a hf => ?_
      refine wpList_nil ?_
      refine nor_then ?_
      exact ⟨s13, s11, true, (hf.cons rfl (hf.cons rfl (hf.cons rfl hf.nil))), hO, hm⟩
    · have hm := ie hc8 hm
      refine wp_skip ?_
      refine nor_then ?_
      exact ⟨x_a0, [], false, (hf.cons rfl (hf.cons rfl (hf.cons rfl hf.nil))), hO, hm⟩
  · rintro a w ⟨s14, s15, t16, hf, hO, hm⟩
    rw [ref11_Parse_j1] at hm
    refine wp_seq_k fun _ hK18 => ?_
    refine wp_region_list ?_
    refine op_val (ex_move hf rfl) rfl hf rfl rfl fun a hf => ?_
    obtain ⟨r17, hr17, hm⟩ := ob hm
    refine op_enter (ex_call c_13 hf (vs := [str s14, str [63]]) rfl) rfl hf rfl rfl (w_ref11_first s14 [63] r17 _ (hG.own hO) hr17) ?_
    rintro e w' ⟨he, hb⟩
    refine ⟨_, he, fun a hf => ?_⟩
    have hO := hO.grow hb
    refine op_val (ex_assign hf rfl) rfl hf rfl rfl fun a hf => ?_
    refine wpList_nil ?_
    refine nor_then (hK18 _ _ ?_)
    refine wp_seq_cut (fun a w => ∃ (s26 : Str) (s27 : Str) (t28 : Bool), Fits 94 [(0, str s26), (2, ptr b1 0), (4, ptr b3 0)] a ∧ Own w0 [] w [.blk b3 [str [], str [], str [], str s27, str s15, .bool false, .bool t28, .bool t16] 27, .blk b1 [str [], str [], str [], str [], str [], .bool false, .bool false, .bool false] 27] ∧ ref11_Parse_j2 s15 t16 s26 s27 t28 = some R) ?_ ?_
    · refine wp_seq_k fun _ hK19 => ?_
      refine wp_region_list ?_
      refine op_val (ex_move hf rfl) rfl hf rfl rfl fun a hf => ?_
      refine op_val (ex_move hf rfl) rfl hf rfl rfl fun a hf => ?_
      refine op_val (ex_len_s (l := s14) Try.underlying9 hf rfl) rfl hf rfl rfl fun a hf => ?_
      refine op_val (ex_lss (m := r17) (n := (s14.length : Int)) hf rfl rfl) rfl hf rfl rfl fun a hf => ?_
      refine wpList_nil ?_
      refine nor_then (hK19 _ _ ?_)
      refine wp_cond_cut hf rfl (fun hc20 => ?_) (fun hc20 => ?_)
      · have hm := it hc20 hm
        refine wp_seq_k fun _ hK21 => ?_
        refine wp_region_list ?_
        refine op_val (ex_field fa_27_6 hf rfl) rfl hf rfl rfl fun a hf => ?_
        refine op_store1 (i := 0) (o := 6) (v := .bool true) sz_4 rfl rfl rfl rfl hf rfl rfl hO fun w hO => ?_
        refine wpList_nil ?_
        refine nor_then (hK21 _ _ ?_)
        refine wp_seq_k fun _ hK24 => ?_
        refine wp_region_list ?_
        refine op_val (ex_move hf rfl) rfl hf rfl rfl fun a hf => ?_
        refine op_val (ex_move hf rfl) rfl hf rfl rfl fun a hf => ?_
        obtain ⟨i22, hi22, hm⟩ := ob hm
        refine op_val (ex_add hf rfl rfl hi22) rfl hf rfl rfl fun a hf => ?_
        obtain ⟨s23, hs23, hm⟩ := ob hm
        refine op_val (ex_from_s (l := s14) Try.underlying9 hf rfl rfl hs23) rfl hf rfl rfl fun a hf => ?_
        refine op_val (ex_field fa_27_3 hf rfl) rfl hf rfl rfl fun a hf => ?_
        refine op_store1 (i := 0) (o := 3) (v := str s23) sz_9 rfl rfl rfl rfl hf rfl rfl hO fun w hO => ?_
        refine wpList_nil ?_
        refine nor_then (hK24 _ _ ?_)
        refine wp_region_list ?_
        refine op_val (ex_move hf rfl) rfl hf rfl rfl fun a hf => ?_
        refine op_val (ex_move hf rfl) rfl hf rfl rfl fun a hf => ?_
        obtain ⟨s25, hs25, hm⟩ := ob hm
        refine op_val (ex_to_s (l := s14) Try.underlying9 hf rfl rfl hs25) rfl hf rfl rfl fun a hf => ?_
        refine op_val (ex_assign hf rfl) rfl hf rfl rfl fun a hf => ?_
        refine wpList_nil ?_
        refine nor_then ?_
        exact ⟨s25, s23, true, (hf.cons rfl (hf.cons rfl (hf.cons rfl hf.nil))), hO, hm⟩
      · have hm := ie hc20 hm
        refine wp_skip ?_
        refine nor_then ?_
        exact ⟨s14, [], false, (hf.cons rfl (hf.cons rfl (hf.cons rfl hf.nil))), hO, hm⟩
    · rintro a w ⟨s26, s27, t28, hf, hO, hm⟩
      rw [ref11_Parse_j2] at hm
      refine wp_seq_k fun _ hK30 => ?_
      refine wp_region_list ?_
      refine op_val (ex_move hf rfl) rfl hf rfl rfl fun a hf => ?_
      obtain ⟨r29, hr29, hm⟩ := ob hm
      refine op_enter (ex_call c_13 hf (vs := [str s26, str [58, 47]]) rfl) rfl hf rfl rfl (w_ref11_first s26 [58, 47] r29 _ (hG.own hO) hr29) ?_
      rintro e w' ⟨he, hb⟩
      refine ⟨_, he, fun a hf => ?_⟩
      have hO := hO.grow hb
      refine op_val (ex_assign hf rfl) rfl hf rfl rfl fun a hf => ?_
      refine wpList_nil ?_
      refine nor_then (hK30 _ _ ?_)
      refine wp_seq_cut (fun a w => ∃ (s42 : Str) (s43 : Str), Fits 94 [(0, str s42), (2, ptr b1 0), (4, ptr b3 0)] a ∧ Own w0 [] w [.blk b3 [str s43, str [], str [], str s27, str s15, .bool false, .bool t28, .bool t16] 27, .blk b1 [str [], str [], str [], str [], str [], .bool false, .bool false, .bool false] 27] ∧ ref11_Parse_j4 s15 t16 s27 t28 s42 s43 = some R) ?_ ?_
      · refine wp_seq_cut (fun a w => ∃ (t36 : Bool), Fits 94 [(0, str s26), (2, ptr b1 0), (4, ptr b3 0), (7, int r29), (57, .bool t36)] a ∧ Own w0 [] w [.blk b3 [str [], str [], str [], str s27, str s15, .bool false, .bool t28, .bool t16] 27, .blk b1 [str [], str [], str [], str [], str [], .bool false, .bool false, .bool false] 27] ∧ ref11_Parse_j3 s15 t16 s26 s27 t28 r29 t36 = some R) ?_ ?_
        · refine wp_region_list ?_
          refine op_val (ex_move hf rfl) rfl hf rfl rfl fun a hf => ?_
          refine op_val (ex_move hf rfl) rfl hf rfl rfl fun a hf => ?_
          refine op_val (ex_len_s (l := s26) Try.underlying9 hf rfl) rfl hf rfl rfl fun a hf => ?_
          refine op_val (ex_lss (m := r29) (n := (s26.length : Int)) hf rfl rfl) rfl hf rfl rfl fun a hf => ?_
          refine op_val (ex_move hf rfl) rfl hf rfl rfl fun a hf => ?_
          rcases bcase (decide (r29 < (s26.length : Int))) with hc31 | hc31
          · have hm := it hc31 hm
            refine op_guard rfl hf rfl rfl (hc31) ?_
            refine op_val (ex_move hf rfl) rfl hf rfl rfl fun a hf => ?_
            refine op_guard rfl hf rfl rfl (hc31) ?_
            refine op_val (ex_move hf rfl) rfl hf rfl rfl fun a hf => ?_
            refine op_guard rfl hf rfl rfl (hc31) ?_
            obtain ⟨b32, hb32, hm⟩ := ob hm
            refine op_val (ex_index (l := s26) Try.underlying9 hf rfl rfl hb32) rfl hf rfl rfl fun a hf => ?_
            refine op_guard rfl hf rfl rfl (hc31) ?_
            refine op_val (ex_eql_b (b := b32) (c := 58) hf rfl rfl) rfl hf rfl rfl fun a hf => ?_
            refine op_val (ex_pick_t hf rfl hc31 rfl) rfl hf rfl rfl fun a hf => ?_
            refine op_val (ex_move hf rfl) rfl hf rfl rfl fun a hf => ?_
            rcases bcase (b32 == 58) with hc33 | hc33
            · have hm := it hc33 hm
              refine op_guard rfl hf rfl rfl (hc33) ?_
              refine op_val (ex_move hf rfl) rfl hf rfl rfl fun a hf => ?_
              refine op_guard rfl hf rfl rfl (hc33) ?_
              refine op_val (ex_move hf rfl) rfl hf rfl rfl fun a hf => ?_
              refine op_guard rfl hf rfl rfl (hc33) ?_
              obtain ⟨s34, hs34, hm⟩ := ob hm
              refine op_val (ex_to_s (l := s26) Try.underlying9 hf rfl rfl hs34) rfl hf rfl rfl fun a hf => ?_
              refine op_guard rfl hf rfl rfl (hc33) ?_
              obtain ⟨r35, hr35, hm⟩ := ob hm
              refine op_enter (ex_call c_14 hf (vs := [str s34]) rfl) rfl hf rfl rfl (w_ref11_scheme s34 r35 _ (hG.own hO) hr35) ?_
              rintro e w' ⟨he, hb⟩
              refine ⟨_, he, fun a hf => ?_⟩
              have hO := hO.grow hb
              refine op_val (ex_pick_t hf rfl hc33 rfl) rfl hf rfl rfl fun a hf => ?_
              refine wpList_nil ?_
              refine nor_then ?_
              exact ⟨r35, (hf.cons rfl (hf.cons rfl (hf.cons rfl (hf.cons rfl (hf.cons rfl hf.nil))))), hO, hm⟩
            · have hm := ie hc33 hm
              refine op_pass rfl hf rfl rfl (hc33) rfl rfl fun a hf => ?_
              refine op_pass rfl hf rfl rfl (hc33) rfl rfl fun a hf => ?_
              refine op_pass rfl hf rfl rfl (hc33) rfl rfl fun a hf => ?_
              refine op_pass rfl hf rfl rfl (hc33) rfl rfl fun a hf => ?_
              refine op_val (ex_pick_f hf rfl hc33 rfl) rfl hf rfl rfl fun a hf => ?_
              refine wpList_nil ?_
              refine nor_then ?_
              exact ⟨false, (hf.cons rfl (hf.cons rfl (hf.cons rfl (hf.cons rfl (hf.cons rfl hf.nil))))), hO, hm⟩
          · have hm := ie hc31 hm
            refine op_pass rfl hf rfl rfl (hc31) rfl rfl fun a hf => ?_
            refine op_pass rfl hf rfl rfl (hc31) rfl rfl fun a hf => ?_
            refine op_pass rfl hf rfl rfl (hc31) rfl rfl fun a hf => ?_
            refine op_pass rfl hf rfl rfl (hc31) rfl rfl fun a hf => ?_
            refine op_val (ex_pick_f hf rfl hc31 rfl) rfl hf rfl rfl fun a hf => ?_
            refine op_val (ex_move hf rfl) rfl hf rfl rfl fun a hf => ?_
            refine op_pass rfl hf rfl rfl (rfl) rfl rfl fun a hf => ?_
            refine op_pass rfl hf rfl rfl (rfl) rfl rfl fun a hf => ?_
            refine op_pass rfl hf rfl rfl (rfl) rfl rfl fun a hf => ?_
            refine op_pass rfl hf rfl rfl (rfl) rfl rfl fun a hf => ?_
            refine op_val (ex_pick_f hf rfl rfl rfl) rfl hf rfl rfl fun a hf => ?_
            refine wpList_nil ?_
            refine nor_then ?_
            exact ⟨false, (hf.cons rfl (hf.cons rfl (hf.cons rfl (hf.cons rfl (hf.cons rfl hf.nil))))), hO, hm⟩
        · rintro a w ⟨t36, hf, hO, hm⟩
          rw [ref11_Parse_j3] at hm
          refine wp_cond_cut hf rfl (fun hc37 => ?_) (fun hc37 => ?_)
          · have hm := it hc37 hm
            refine wp_seq_k fun _ hK39 => ?_
            refine wp_region_list ?_
            refine op_val (ex_move hf rfl) rfl hf rfl rfl fun a hf => ?_
            refine op_val (ex_move hf rfl) rfl hf rfl rfl fun a hf => ?_
            obtain ⟨s38, hs38, hm⟩ := ob hm
            refine op_val (ex_to_s (l := s26) Try.underlying9 hf rfl rfl hs38) rfl hf rfl rfl fun a hf => ?_
            refine op_val (ex_field fa_27_0 hf rfl) rfl hf rfl rfl fun a hf => ?_
            refine op_store1 (i := 0) (o := 0) (v := str s38) sz_9 rfl rfl rfl rfl hf rfl rfl hO fun w hO => ?_
            refine wpList_nil ?_
            refine nor_then (hK39 _ _ ?_)
            refine wp_region_list ?_
            refine op_val (ex_move hf rfl) rfl hf rfl rfl fun a hf => ?_
            refine op_val (ex_move hf rfl) rfl hf rfl rfl fun a hf => ?_
            obtain ⟨i40, hi40, hm⟩ := ob hm
            refine op_val (ex_add hf rfl rfl hi40) rfl hf rfl rfl fun a hf => ?_
            obtain ⟨s41, hs41, hm⟩ := ob hm
            refine op_val (ex_from_s (l := s26) Try.underlying9 hf rfl rfl hs41) rfl hf rfl rfl fun a hf => ?_
            refine op_val (ex_assign hf rfl) rfl hf rfl rfl fun a hf => ?_
            refine wpList_nil ?_
            refine nor_then ?_
            exact ⟨s41, s38, (hf.cons rfl (hf.cons rfl (hf.cons rfl hf.nil))), hO, hm⟩
          · have hm := ie hc37 hm
            refine wp_skip ?_
            refine nor_then ?_
            exact ⟨s26, [], (hf.cons rfl (hf.cons rfl (hf.cons rfl hf.nil))), hO, hm⟩
      · rintro a w ⟨s42, s43, hf, hO, hm⟩
        rw [ref11_Parse_j4] at hm
        refine wp_seq_cut (fun a w => ∃ (s57 : Str) (s58 : Str) (t59 : Bool), Fits 94 [(0, str s57), (2, ptr b1 0), (4, ptr b3 0)] a ∧ Own w0 [] w [.blk b3 [str s43, str s58, str [], str s27, str s15, .bool t59, .bool t28, .bool t16] 27, .blk b1 [str [], str [], str [], str [], str [], .bool false, .bool false, .bool false] 27] ∧ ref11_Parse_j6 s15 t16 s27 t28 s43 s57 s58 t59 = some R) ?_ ?_
        · refine wp_seq_cut (fun a w => ∃ (t46 : Bool), Fits 94 [(0, str s42), (2, ptr b1 0), (4, ptr b3 0), (73, .bool t46)] a ∧ Own w0 [] w [.blk b3 [str s43, str [], str [], str s27, str s15, .bool false, .bool t28, .bool t16] 27, .blk b1 [str [], str [], str [], str [], str [], .bool false, .bool false, .bool false] 27] ∧ ref11_Parse_j5 s15 t16 s27 t28 s42 s43 t46 = some R) ?_ ?_
          · refine wp_region_list ?_
            refine op_val (ex_move hf rfl) rfl hf rfl rfl fun a hf => ?_
            refine op_val (ex_len_s (l := s42) Try.underlying9 hf rfl) rfl hf rfl rfl fun a hf => ?_
            refine op_val (ex_gtr (m := (s42.length : Int)) (n := 1) hf rfl rfl) rfl hf rfl rfl fun a hf => ?_
            refine op_val (ex_move hf rfl) rfl hf rfl rfl fun a hf => ?_
            rcases bcase (decide (1 < (s42.length : Int))) with hc44 | hc44
            · have hm := it hc44 hm
              refine op_guard rfl hf rfl rfl (hc44) ?_
              refine op_val (ex_move hf rfl) rfl hf rfl rfl fun a hf => ?_
              refine op_guard rfl hf rfl rfl (hc44) ?_
              obtain ⟨s45, hs45, hm⟩ := ob hm
              refine op_val (ex_to_s (l := s42) Try.underlying9 hf rfl rfl hs45) rfl hf rfl rfl fun a hf => ?_
              refine op_guard rfl hf rfl rfl (hc44) ?_
              refine op_val (ex_eql_s (l := s45) (m := [47, 47]) hf rfl rfl) rfl hf rfl rfl fun a hf => ?_
              refine op_val (ex_pick_t hf rfl hc44 rfl) rfl hf rfl rfl fun a hf => ?_
              refine wpList_nil ?_
              refine nor_then ?_
              exact ⟨s45 == [47, 47], (hf.cons rfl (hf.cons rfl (hf.cons rfl (hf.cons rfl hf.nil)))), hO, hm⟩
            · have hm := ie hc44 hm
              refine op_pass rfl hf rfl rfl (hc44) rfl rfl fun a hf => ?_
              refine op_pass rfl hf rfl rfl (hc44) rfl rfl fun a hf => ?_
              refine op_pass rfl hf rfl rfl (hc44) rfl rfl fun a hf => ?_
              refine op_val (ex_pick_f hf rfl hc44 rfl) rfl hf rfl rfl fun a hf => ?_
              refine wpList_nil ?_
              refine nor_then ?_
              exact ⟨false, (hf.cons rfl (hf.cons rfl (hf.cons rfl (hf.cons rfl hf.nil)))), hO, hm⟩
          · rintro a w ⟨t46, hf, hO, hm⟩
            rw [ref11_Parse_j5] at hm
            refine wp_cond_cut hf rfl (fun hc47 => ?_) (fun hc47 => ?_)
            · have hm := it hc47 hm
              refine wp_seq_k fun _ hK48 => ?_
              refine wp_region_list ?_
              refine op_val (ex_field fa_27_5 hf rfl) rfl hf rfl rfl fun a hf => ?_
              refine op_store1 (i := 0) (o := 5) (v := .bool true) sz_4 rfl rfl rfl rfl hf rfl rfl hO fun w hO => ?_
              refine wpList_nil ?_
              refine nor_then (hK48 _ _ ?_)
              refine wp_seq_k fun _ hK51 => ?_
              refine wp_region_list ?_
              refine op_val (ex_move hf rfl) rfl hf rfl rfl fun a hf => ?_
              obtain ⟨s49, hs49, hm⟩ := ob hm
              refine op_val (ex_from_s (l := s42) Try.underlying9 hf rfl rfl hs49) rfl hf rfl rfl fun a hf => ?_
              obtain ⟨r50, hr50, hm⟩ := ob hm
              refine op_enter (ex_call c_13 hf (vs := [str s49, str [47]]) rfl) rfl hf rfl rfl (w_ref11_first s49 [47] r50 _ (hG.own hO) hr50) ?_
              rintro e w' ⟨he, hb⟩
              refine ⟨_, he, fun a hf => ?_⟩
              have hO := hO.grow hb
              refine op_val (ex_assign hf rfl) rfl hf rfl rfl fun a hf => ?_
              refine wpList_nil ?_
              refine nor_then (hK51 _ _ ?_)
              refine wp_seq_k fun _ hK54 => ?_
              refine wp_region_list ?_
              refine op_val (ex_move hf rfl) rfl hf rfl rfl fun a hf => ?_
              refine op_val (ex_move hf rfl) rfl hf rfl rfl fun a hf => ?_
              obtain ⟨i52, hi52, hm⟩ := ob hm
              refine op_val (ex_add hf rfl rfl hi52) rfl hf rfl rfl fun a hf => ?_
              obtain ⟨s53, hs53, hm⟩ := ob hm
              refine op_val (ex_sub_s (l := s42) Try.underlying9 hf rfl rfl rfl hs53) rfl hf rfl rfl fun a hf => ?_
              refine op_val (ex_field fa_27_1 hf rfl) rfl hf rfl rfl fun a hf => ?_
              refine op_store1 (i := 0) (o := 1) (v := str s53) sz_9 rfl rfl rfl rfl hf rfl rfl hO fun w hO => ?_
              refine wpList_nil ?_
              refine nor_then (hK54 _ _ ?_)
              refine wp_region_list ?_
              refine op_val (ex_move hf rfl) rfl hf rfl rfl fun a hf => ?_
              refine op_val (ex_move hf rfl) rfl hf rfl rfl fun a hf => ?_
              obtain ⟨i55, hi55, hm⟩ := ob hm
              refine op_val (ex_add hf rfl rfl hi55) rfl hf rfl rfl fun a hf => ?_
              obtain ⟨s56, hs56, hm⟩ := ob hm
              refine op_val (ex_from_s (l := s42) Try.underlying9 hf rfl rfl hs56) rfl hf rfl rfl fun a hf => ?_
              refine op_val (ex_assign hf rfl) rfl hf rfl rfl fun a hf => ?_
              refine wpList_nil ?_
              refine nor_then ?_
              exact ⟨s56, s53, true, (hf.cons rfl (hf.cons rfl (hf.cons rfl hf.nil))), hO, hm⟩
            · have hm := ie hc47 hm
              refine wp_skip ?_
              refine nor_then ?_
              exact ⟨s42, [], false, (hf.cons rfl (hf.cons rfl (hf.cons rfl hf.nil))), hO, hm⟩
        · rintro a w ⟨s57, s58, t59, hf, hO, hm⟩
          rw [ref11_Parse_j6] at hm
          refine wp_seq_k fun _ hK60 => ?_
          refine wp_region_list ?_
          refine op_val (ex_move hf rfl) rfl hf rfl rfl fun a hf => ?_
          refine op_val (ex_field fa_27_2 hf rfl) rfl hf rfl rfl fun a hf => ?_
          refine op_store1 (i := 0) (o := 2) (v := str s57) sz_9 rfl rfl rfl rfl hf rfl rfl hO fun w hO => ?_
          refine wpList_nil ?_
          refine nor_then (hK60 _ _ ?_)
          refine wp_seq_k fun _ hK65 => ?_
          refine wp_seq_k fun _ hK62 => ?_
          refine wp_region_list ?_
          refine op_val (ex_loadN (o := 0) (vs := [str s43, str s58, str s57, str s27, str s15, .bool t59, .bool t28, .bool t16]) ag_27 sz_27 (hO.blkSees (i := 0) rfl) rfl rfl hf rfl) rfl hf rfl rfl fun a hf => ?_
          obtain ⟨r61, hr61, hm⟩ := ob hm
          refine op_enter (ex_call c_15 hf (vs := [.agg #[str s43, str s58, str s57, str s27, str s15, .bool t59, .bool t28, .bool t16]]) rfl) rfl hf rfl rfl (w_ref11_right (⟨s43, s58, s57, s27, s15, t59, t28, t16⟩ : api_Ref) r61 _ (hG.own hO) hr61) ?_
          rintro e w' ⟨he, hb⟩
          refine ⟨_, he, fun a hf => ?_⟩
          have hO := hO.grow hb
          refine op_val (ex_not hf rfl) rfl hf rfl rfl fun a hf => ?_
          refine wpList_nil ?_
          refine nor_then (hK62 _ _ ?_)
          refine wp_cond_cut hf rfl (fun hc63 => ?_) (fun hc63 => ?_)
          · have hm := it hc63 hm
            refine wp_seq_k fun _ hK64 => ?_
            refine wp_region_list ?_
            refine op_val (ex_build (vs := []) (v := .agg #[str [], str [], str [], str [], str [], .bool false, .bool false, .bool false]) hf rfl (by kernel_rfl)) rfl hf rfl rfl fun a hf => ?_
            refine op_storeN (i := 1) (n := 8) sz_27 rfl rfl rfl (by simp [Value.oneCell']) hf rfl rfl hO fun w hO => ?_
            refine op_val (ex_assign hf rfl) rfl hf rfl rfl fun a hf => ?_
            refine wpList_nil ?_
            refine nor_then (hK64 _ _ ?_)
            refine wp_ret ?_
            refine ret_then ?_
            obtain rfl := Option.some.inj hm
            exact post_ret Try.results7 hf (.cell rfl (run_loadVarN (n := 8) (vs := [str [], str [], str [], str [], str [], .bool false, .bool false, .bool false]) ag_27 sz_27 rfl ((hO.blkSees (i := 1) rfl).cells (o := 0) (n := 8) rfl)) (.tmp rfl .nil)) ⟨rfl, hO.below⟩
          · have hm := ie hc63 hm
            refine wp_skip ?_
            refine nor_then (hK65 _ _ ?_)
            refine wp_seq_k fun _ hK66 => ?_
            refine wp_region_list ?_
            refine op_val (ex_loadN (o := 0) (vs := [str s43, str s58, str s57, str s27, str s15, .bool t59, .bool t28, .bool t16]) ag_27 sz_27 (hO.blkSees (i := 0) rfl) rfl rfl hf rfl) rfl hf rfl rfl fun a hf => ?_
            refine op_storeN (i := 1) (n := 8) sz_27 rfl rfl rfl (by simp [Value.oneCell']) hf rfl rfl hO fun w hO => ?_
            refine op_val (ex_assign hf rfl) rfl hf rfl rfl fun a hf => ?_
            refine wpList_nil ?_
            refine nor_then (hK66 _ _ ?_)
            refine wp_ret ?_
            obtain rfl := Option.some.inj hm
            exact post_ret Try.results7 hf (.cell rfl (run_loadVarN (n := 8) (vs := [str s43, str s58, str s57, str s27, str s15, .bool t59, .bool t28, .bool t16]) ag_27 sz_27 rfl ((hO.blkSees (i := 1) rfl).cells (o := 0) (n := 8) rfl)) (.tmp rfl .nil)) ⟨rfl, hO.below⟩

set_option maxHeartbeats 1000000 in
theorem w_ref11_Swap (x_a0 : Str) (x_a1 : List api_Swap) (R : Str × Bool) (w0 : World) (hG : Glob w0) {x_a1_p0 : Option Addr} {x_a1_c0 : Nat} (hs0 : Sees w0 x_a1_p0 (cells enc_api_Swap x_a1)) (hm : ref11_Swap x_a0 x_a1 = some R) :
    Calls Try.prog 16 #[str x_a0, .slice x_a1_p0 x_a1.length x_a1_c0] w0 fun e w' => e = .returned (.tuple #[str R.1, .bool R.2]) ∧ Below w0.heap.size w0 w' := by
  rw [ref11_Swap] at hm
  refine calls_enter (vs := [str x_a0, .slice x_a1_p0 x_a1.length x_a1_c0]) Try.func16 rfl Try.ntmps16 rfl fun a hf => ?_
  have hO : Own w0 [] w0 [] := Own.refl w0
  have hO := hO.addShr hs0 (by simp [Res.shared])
  refine wp_seq_k fun _ hK1 => ?_
  refine wp_region_list ?_
  refine op_val (ex_assign hf rfl) rfl hf rfl rfl fun a hf => ?_
  refine op_val (ex_assign hf rfl) rfl hf rfl rfl fun a hf => ?_
  refine wpList_nil ?_
  refine nor_then (hK1 _ _ ?_)
  refine wp_seq_k fun _ hK35 => ?_
  refine wp_seq_k fun _ hK2 => ?_
  refine wp_region_list ?_
  refine op_val (ex_assign hf rfl) rfl hf rfl rfl fun a hf => ?_
  refine wpList_nil ?_
  refine nor_then (hK2 _ _ ?_)
  refine wp_block ?_
  refine wp_loop_n (fun k a w => ∃ (i3 : Int), Fits 66 [(0, str x_a0), (1, .slice x_a1_p0 x_a1.length x_a1_c0), (6, int i3)] a ∧ Own w0 [] w [.shr x_a1_p0 (cells enc_api_Swap x_a1)] ∧ ref11_Swap_L1 x_a0 x_a1 k i3 = some R) ?_ fuel ?_
  · rintro n1 a w ⟨i3, hf, hO, hm⟩
    obtain _ | n1 := n1
    · rw [ref11_Swap_L1] at hm
      cases hm
    · rw [ref11_Swap_L1] at hm
      refine wp_seq_k fun _ hK6 => ?_
      refine wp_seq_k fun _ hK4 => ?_
      refine wp_region_list ?_
      refine op_val (ex_move hf rfl) rfl hf rfl rfl fun a hf => ?_
      refine op_val (ex_move hf rfl) rfl hf rfl rfl fun a hf => ?_
      refine op_val (ex_len_l Try.underlying22 hf rfl) rfl hf rfl rfl fun a hf => ?_
      refine op_val (ex_lss (m := i3) (n := (x_a1.length : Int)) hf rfl rfl) rfl hf rfl rfl fun a hf => ?_
      refine wpList_nil ?_
      refine nor_then (hK4 _ _ ?_)
      refine wp_cond_cut hf rfl (fun hc5 => ?_) (fun hc5 => ?_)
      · have hm := it hc5 hm
        refine wp_skip ?_
        refine nor_then (hK6 _ _ ?_)
        refine wp_seq_cut (fun a w => Fits 66 [(0, str x_a0), (1, .slice x_a1_p0 x_a1.length x_a1_c0), (6, int i3)] a ∧ Own w0 [] w [.shr x_a1_p0 (cells enc_api_Swap x_a1)] ∧ ref11_Swap_j4 (ref11_Swap_L1 x_a0 x_a1 n1) i3 = some R) ?_ ?_
        · refine wp_block ?_
          refine wp_seq_k fun _ hK10 => ?_
          refine wp_region_list ?_
          refine op_val (ex_move hf rfl) rfl hf rfl rfl fun a hf => ?_
          refine op_val (ex_move hf rfl) rfl hf rfl rfl fun a hf => ?_
          obtain ⟨x7, hx7, hm⟩ := ob hm
          obtain ⟨b8, o9, hix7, hSx7⟩ := elemAt (enc := enc_api_Swap) (sz := 2) (xs := x_a1) 22 Try.underlying22 sz_36 (by decide) (fun _ => rfl) (hO.sees (i := 0) rfl) hx7
          refine op_val (ex_indexAddr hix7 hf rfl rfl) rfl hf rfl rfl fun a hf => ?_
          refine op_val (ex_field fa_36_0 hf rfl) rfl hf rfl rfl fun a hf => ?_
          refine op_val (ex_load1 (o := 0) ag_9 (hSx7 _ (hO.sees (i := 0) rfl)) rfl hf rfl) rfl hf rfl rfl fun a hf => ?_
          refine op_val (ex_len_s (l := x7.From) Try.underlying9 hf rfl) rfl hf rfl rfl fun a hf => ?_
          refine op_val (ex_assign hf rfl) rfl hf rfl rfl fun a hf => ?_
          refine wpList_nil ?_
          refine nor_then (hK10 _ _ ?_)
          refine wp_seq_k fun _ hK19 => ?_
          refine wp_seq_cut (fun a w => ∃ (t17 : Bool), Fits 66 [(0, str x_a0), (1, .slice x_a1_p0 x_a1.length x_a1_c0), (6, int i3), (7, int (x7.From.length : Int)), (38, .bool t17)] a ∧ Own w0 [] w [.shr x_a1_p0 (cells enc_api_Swap x_a1)] ∧ ref11_Swap_j2 (ref11_Swap_L1 x_a0 x_a1 n1) x_a0 x_a1 i3 x7 t17 = some R) ?_ ?_
          · refine wp_quiet (by kernel_rfl) (by kernel_rfl) hO ?_
            refine q_val (fun w hO => ex_move hf rfl) rfl hf rfl rfl fun a hf => ?_
            refine q_val (fun w hO => ex_eql (m := (x7.From.length : Int)) (n := 0) hf rfl rfl) rfl hf rfl rfl fun a hf => ?_
            refine q_val (fun w hO => ex_move hf rfl) rfl hf rfl rfl fun a hf => ?_
            rcases bcase ((x7.From.length : Int) == 0) with hc11 | hc11
            · have hm := it hc11 hm
              refine q_pass rfl hf rfl rfl (hc11) rfl rfl fun a hf => ?_
              refine q_pass rfl hf rfl rfl (hc11) rfl rfl fun a hf => ?_
              refine q_pass rfl hf rfl rfl (hc11) rfl rfl fun a hf => ?_
              refine q_pass rfl hf rfl rfl (hc11) rfl rfl fun a hf => ?_
              refine q_val (fun w hO => ex_pick_t hf rfl hc11 rfl) rfl hf rfl rfl fun a hf => ?_
              refine q_val (fun w hO => ex_move hf rfl) rfl hf rfl rfl fun a hf => ?_
              refine q_pass rfl hf rfl rfl (rfl) rfl rfl fun a hf => ?_
              refine q_pass rfl hf rfl rfl (rfl) rfl rfl fun a hf => ?_
              refine q_pass rfl hf rfl rfl (rfl) rfl rfl fun a hf => ?_
              refine q_pass rfl hf rfl rfl (rfl) rfl rfl fun a hf => ?_
              refine q_pass rfl hf rfl rfl (rfl) rfl rfl fun a hf => ?_
              refine q_pass rfl hf rfl rfl (rfl) rfl rfl fun a hf => ?_
              refine q_pass rfl hf rfl rfl (rfl) rfl rfl fun a hf => ?_
              refine q_pass rfl hf rfl rfl (rfl) rfl rfl fun a hf => ?_
              refine q_pass rfl hf rfl rfl (rfl) rfl rfl fun a hf => ?_
              refine q_val (fun w hO => ex_pick_t hf rfl rfl rfl) rfl hf rfl rfl fun a hf => ?_
              refine wpQuiet_nil ?_
              intro w hO
              refine nor_then ?_
              exact ⟨true, (hf.cons rfl (hf.cons rfl (hf.cons rfl (hf.cons rfl (hf.cons rfl hf.nil))))), hO, hm⟩
            · have hm := ie hc11 hm
              refine q_guard rfl hf rfl rfl (hc11) ?_
              refine q_val (fun w hO => ex_move hf rfl) rfl hf rfl rfl fun a hf => ?_
              refine q_guard rfl hf rfl rfl (hc11) ?_
              refine q_val (fun w hO => ex_move hf rfl) rfl hf rfl rfl fun a hf => ?_
              refine q_guard rfl hf rfl rfl (hc11) ?_
              refine q_val (fun w hO => ex_len_s (l := x_a0) Try.underlying9 hf rfl) rfl hf rfl rfl fun a hf => ?_
              refine q_guard rfl hf rfl rfl (hc11) ?_
              refine q_val (fun w hO => ex_gtr (m := (x7.From.length : Int)) (n := (x_a0.length : Int)) hf rfl rfl) rfl hf rfl rfl fun a hf => ?_
              refine q_val (fun w hO => ex_pick_f hf rfl hc11 rfl) rfl hf rfl rfl fun a hf => ?_
              refine q_val (fun w hO => ex_move hf rfl) rfl hf rfl rfl fun a hf => ?_
              rcases bcase (decide ((x_a0.length : Int) < (x7.From.length : Int))) with hc12 | hc12
              · have hm := it hc12 hm
                refine q_pass rfl hf rfl rfl (hc12) rfl rfl fun a hf => ?_
                refine q_pass rfl hf rfl rfl (hc12) rfl rfl fun a hf => ?_
                refine q_pass rfl hf rfl rfl (hc12) rfl rfl fun a hf => ?_
                refine q_pass rfl hf rfl rfl (hc12) rfl rfl fun a hf => ?_
                refine q_pass rfl hf rfl rfl (hc12) rfl rfl fun a hf => ?_
                refine q_pass rfl hf rfl rfl (hc12) rfl rfl fun a hf => ?_
                refine q_pass rfl hf rfl rfl (hc12) rfl rfl fun a hf => ?_
                refine q_pass rfl hf rfl rfl (hc12) rfl rfl fun a hf => ?_
                refine q_pass rfl hf rfl rfl (hc12) rfl rfl fun a hf => ?_
                refine q_val (fun w hO => ex_pick_t hf rfl hc12 rfl) rfl hf rfl rfl fun a hf => ?_
                refine wpQuiet_nil ?_
                intro w hO
                refine nor_then ?_
                exact ⟨true, (hf.cons rfl (hf.cons rfl (hf.cons rfl (hf.cons rfl (hf.cons rfl hf.nil))))), hO, hm⟩
              · have hm := ie hc12 hm
                refine q_guard rfl hf rfl rfl (hc12) ?_
                refine q_val (fun w hO => ex_move hf rfl) rfl hf rfl rfl fun a hf => ?_
                refine q_guard rfl hf rfl rfl (hc12) ?_
                refine q_val (fun w hO => ex_move hf rfl) rfl hf rfl rfl fun a hf => ?_
                refine q_guard rfl hf rfl rfl (hc12) ?_
                obtain ⟨s13, hs13, hm⟩ := ob hm
                refine q_val (fun w hO => ex_to_s (l := x_a0) Try.underlying9 hf rfl rfl hs13) rfl hf rfl rfl fun a hf => ?_
                refine q_guard rfl hf rfl rfl (hc12) ?_
                refine q_val (fun w hO => ex_move hf rfl) rfl hf rfl rfl fun a hf => ?_
                refine q_guard rfl hf rfl rfl (hc12) ?_
                refine q_val (fun w hO => ex_move hf rfl) rfl hf rfl rfl fun a hf => ?_
                refine q_guard rfl hf rfl rfl (hc12) ?_
                obtain ⟨x14, hx14, hm⟩ := ob hm
                obtain ⟨b15, o16, hix14, hSx14⟩ := elemAt (enc := enc_api_Swap) (sz := 2) (xs := x_a1) 22 Try.underlying22 sz_36 (by decide) (fun _ => rfl) (hO.sees (i := 0) rfl) hx14
                refine q_val (fun w hO => ex_indexAddr hix14 hf rfl rfl) rfl hf rfl rfl fun a hf => ?_
                refine q_guard rfl hf rfl rfl (hc12) ?_
                refine q_val (fun w hO => ex_field fa_36_0 hf rfl) rfl hf rfl rfl fun a hf => ?_
                refine q_guard rfl hf rfl rfl (hc12) ?_
                refine q_val (fun w hO => ex_load1 (o := 0) ag_9 (hSx14 _ (hO.sees (i := 0) rfl)) rfl hf rfl) rfl hf rfl rfl fun a hf => ?_
                refine q_guard rfl hf rfl rfl (hc12) ?_
                refine q_val (fun w hO => ex_neq_s (l := s13) (m := x14.From) hf rfl rfl) rfl hf rfl rfl fun a hf => ?_
                refine q_val (fun w hO => ex_pick_f hf rfl hc12 rfl) rfl hf rfl rfl fun a hf => ?_
                refine wpQuiet_nil ?_
                intro w hO
                refine nor_then ?_
                exact ⟨!(s13 == x14.From), (hf.cons rfl (hf.cons rfl (hf.cons rfl (hf.cons rfl (hf.cons rfl hf.nil))))), hO, hm⟩
          · rintro a w ⟨t17, hf, hO, hm⟩
            rw [ref11_Swap_j2] at hm
            refine wp_cond_cut hf rfl (fun hc18 => ?_) (fun hc18 => ?_)
            · have hm := it hc18 hm
              refine wp_exit ?_
              refine exit_then ?_
              refine exit_here ?_
              refine nor_then ?_
              exact ⟨(hf.cons rfl (hf.cons rfl (hf.cons rfl hf.nil))), hO, hm⟩
            · have hm := ie hc18 hm
              refine wp_skip ?_
              refine nor_then (hK19 _ _ ?_)
              refine wp_seq_cut (fun a w => ∃ (t26 : Bool), Fits 66 [(0, str x_a0), (1, .slice x_a1_p0 x_a1.length x_a1_c0), (6, int i3), (7, int (x7.From.length : Int)), (55, .bool t26)] a ∧ Own w0 [] w [.shr x_a1_p0 (cells enc_api_Swap x_a1)] ∧ ref11_Swap_j3 (ref11_Swap_L1 x_a0 x_a1 n1) x_a0 x_a1 i3 x7 t26 = some R) ?_ ?_
              · refine wp_region_list ?_
                refine op_val (ex_move hf rfl) rfl hf rfl rfl fun a hf => ?_
                refine op_val (ex_move hf rfl) rfl hf rfl rfl fun a hf => ?_
                refine op_val (ex_len_s (l := x_a0) Try.underlying9 hf rfl) rfl hf rfl rfl fun a hf => ?_
                refine op_val (ex_eql (m := (x7.From.length : Int)) (n := (x_a0.length : Int)) hf rfl rfl) rfl hf rfl rfl fun a hf => ?_
                refine op_val (ex_move hf rfl) rfl hf rfl rfl fun a hf => ?_
                rcases bcase ((x7.From.length : Int) == (x_a0.length : Int)) with hc20 | hc20
                · have hm := it hc20 hm
                  refine op_pass rfl hf rfl rfl (hc20) rfl rfl fun a hf => ?_
                  refine op_pass rfl hf rfl rfl (hc20) rfl rfl fun a hf => ?_
                  refine op_pass rfl hf rfl rfl (hc20) rfl rfl fun a hf => ?_
                  refine op_pass rfl hf rfl rfl (hc20) rfl rfl fun a hf => ?_
                  refine op_pass rfl hf rfl rfl (hc20) rfl rfl fun a hf => ?_
                  refine op_val (ex_pick_t hf rfl hc20 rfl) rfl hf rfl rfl fun a hf => ?_
                  refine op_val (ex_move hf rfl) rfl hf rfl rfl fun a hf => ?_
                  refine op_pass rfl hf rfl rfl (rfl) rfl rfl fun a hf => ?_
                  refine op_pass rfl hf rfl rfl (rfl) rfl rfl fun a hf => ?_
                  refine op_pass rfl hf rfl rfl (rfl) rfl rfl fun a hf => ?_
                  refine op_pass rfl hf rfl rfl (rfl) rfl rfl fun a hf => ?_
                  refine op_val (ex_pick_t hf rfl rfl rfl) rfl hf rfl rfl fun a hf => ?_
                  refine wpList_nil ?_
                  refine nor_then ?_
                  exact ⟨true, (hf.cons rfl (hf.cons rfl (hf.cons rfl (hf.cons rfl (hf.cons rfl hf.nil))))), hO, hm⟩
                · have hm := ie hc20 hm
                  refine op_guard rfl hf rfl rfl (hc20) ?_
                  refine op_val (ex_move hf rfl) rfl hf rfl rfl fun a hf => ?_
                  refine op_guard rfl hf rfl rfl (hc20) ?_
                  refine op_val (ex_move hf rfl) rfl hf rfl rfl fun a hf => ?_
                  refine op_guard rfl hf rfl rfl (hc20) ?_
                  obtain ⟨i21, hi21, hm⟩ := ob hm
                  refine op_val (ex_sub hf rfl rfl hi21) rfl hf rfl rfl fun a hf => ?_
                  refine op_guard rfl hf rfl rfl (hc20) ?_
                  obtain ⟨b22, hb22, hm⟩ := ob hm
                  refine op_val (ex_index (l := x_a0) Try.underlying9 hf rfl rfl hb22) rfl hf rfl rfl fun a hf => ?_
                  refine op_guard rfl hf rfl rfl (hc20) ?_
                  refine op_val (ex_eql_b (b := b22) (c := 47) hf rfl rfl) rfl hf rfl rfl fun a hf => ?_
                  refine op_val (ex_pick_f hf rfl hc20 rfl) rfl hf rfl rfl fun a hf => ?_
                  refine op_val (ex_move hf rfl) rfl hf rfl rfl fun a hf => ?_
                  rcases bcase (b22 == 47) with hc23 | hc23
                  · have hm := it hc23 hm
                    refine op_pass rfl hf rfl rfl (hc23) rfl rfl fun a hf => ?_
                    refine op_pass rfl hf rfl rfl (hc23) rfl rfl fun a hf => ?_
                    refine op_pass rfl hf rfl rfl (hc23) rfl rfl fun a hf => ?_
                    refine op_pass rfl hf rfl rfl (hc23) rfl rfl fun a hf => ?_
                    refine op_val (ex_pick_t hf rfl hc23 rfl) rfl hf rfl rfl fun a hf => ?_
                    refine wpList_nil ?_
                    refine nor_then ?_
                    exact ⟨true, (hf.cons rfl (hf.cons rfl (hf.cons rfl (hf.cons rfl (hf.cons rfl hf.nil))))), hO, hm⟩
                  · have hm := ie hc23 hm
                    refine op_guard rfl hf rfl rfl (hc23) ?_
                    refine op_val (ex_move hf rfl) rfl hf rfl rfl fun a hf => ?_
                    refine op_guard rfl hf rfl rfl (hc23) ?_
                    refine op_val (ex_move hf rfl) rfl hf rfl rfl fun a hf => ?_
                    refine op_guard rfl hf rfl rfl (hc23) ?_
                    obtain ⟨b24, hb24, hm⟩ := ob hm
                    refine op_val (ex_index (l := x_a0) Try.underlying9 hf rfl rfl hb24) rfl hf rfl rfl fun a hf => ?_
                    refine op_guard rfl hf rfl rfl (hc23) ?_
                    obtain ⟨r25, hr25, hm⟩ := ob hm
                    refine op_enter (ex_call c_21 hf (vs := [byte b24, str [47, 63, 35]]) rfl) rfl hf rfl rfl (w_ref01_In b24 [47, 63, 35] r25 _ (hG.own hO) hr25) ?_
                    rintro e w' ⟨he, hb⟩
                    refine ⟨_, he, fun a hf => ?_⟩
                    have hO := hO.grow hb
                    refine op_val (ex_pick_f hf rfl hc23 rfl) rfl hf rfl rfl fun a hf => ?_
                    refine wpList_nil ?_
                    refine nor_then ?_
                    exact ⟨r25, (hf.cons rfl (hf.cons rfl (hf.cons rfl (hf.cons rfl (hf.cons rfl hf.nil))))), hO, hm⟩
              · rintro a w ⟨t26, hf, hO, hm⟩
                rw [ref11_Swap_j3] at hm
                refine wp_cond_cut hf rfl (fun hc27 => ?_) (fun hc27 => ?_)
                · have hm := it hc27 hm
                  refine wp_seq_k fun _ hK33 => ?_
                  refine wp_quiet (by kernel_rfl) (by kernel_rfl) hO ?_
                  refine q_val (fun w hO => ex_move hf rfl) rfl hf rfl rfl fun a hf => ?_
                  refine q_val (fun w hO => ex_move hf rfl) rfl hf rfl rfl fun a hf => ?_
                  obtain ⟨x28, hx28, hm⟩ := ob hm
                  obtain ⟨b29, o30, hix28, hSx28⟩ := elemAt (enc := enc_api_Swap) (sz := 2) (xs := x_a1) 22 Try.underlying22 sz_36 (by decide) (fun _ => rfl) (hO.sees (i := 0) rfl) hx28
                  refine q_val (fun w hO => ex_indexAddr hix28 hf rfl rfl) rfl hf rfl rfl fun a hf => ?_
                  refine q_val (fun w hO => ex_field fa_36_1 hf rfl) rfl hf rfl rfl fun a hf => ?_
                  refine q_val (fun w hO => ex_load1 (o := 1) ag_9 (hSx28 _ (hO.sees (i := 0) rfl)) rfl hf rfl) rfl hf rfl rfl fun a hf => ?_
                  refine q_val (fun w hO => ex_move hf rfl) rfl hf rfl rfl fun a hf => ?_
                  refine q_val (fun w hO => ex_move hf rfl) rfl hf rfl rfl fun a hf => ?_
                  obtain ⟨s31, hs31, hm⟩ := ob hm
                  refine q_val (fun w hO => ex_from_s (l := x_a0) Try.underlying9 hf rfl rfl hs31) rfl hf rfl rfl fun a hf => ?_
                  obtain ⟨s32, hs32, hm⟩ := ob hm
                  refine q_val (fun w hO => ex_cat (l := x28.To) (m := s31) hf rfl rfl hs32) rfl hf rfl rfl fun a hf => ?_
                  refine q_val (fun w hO => ex_assign hf rfl) rfl hf rfl rfl fun a hf => ?_
                  refine q_val (fun w hO => ex_assign hf rfl) rfl hf rfl rfl fun a hf => ?_
                  refine wpQuiet_nil ?_
                  intro w hO
                  refine nor_then (hK33 _ _ ?_)
                  refine wp_ret ?_
                  refine ret_block ?_
                  refine ret_then ?_
                  refine ret_then ?_
                  refine ret_block ?_
                  refine ret_then ?_
                  obtain rfl := Option.some.inj hm
                  exact post_ret Try.results16 hf (.tmp rfl (.tmp rfl .nil)) ⟨rfl, hO.below⟩
                · have hm := ie hc27 hm
                  refine wp_skip ?_
                  refine nor_block ?_
                  refine nor_then ?_
                  exact ⟨(hf.cons rfl (hf.cons rfl (hf.cons rfl hf.nil))), hO, hm⟩
        · rintro a w ⟨hf, hO, hm⟩
          rw [ref11_Swap_j4] at hm
          refine wp_region_list ?_
          refine op_val (ex_move hf rfl) rfl hf rfl rfl fun a hf => ?_
          obtain ⟨i34, hi34, hm⟩ := ob hm
          refine op_val (ex_add hf rfl rfl hi34) rfl hf rfl rfl fun a hf => ?_
          refine op_val (ex_assign hf rfl) rfl hf rfl rfl fun a hf => ?_
          refine wpList_nil ?_
          refine nor_then ?_
          exact ⟨_, Nat.lt_succ_self _, i34, (hf.cons rfl (hf.cons rfl (hf.cons rfl hf.nil))), hO, hm⟩
      · have hm := ie hc5 hm
        refine wp_exit ?_
        refine exit_then ?_
        refine exit_then ?_
        refine exit_here ?_
        refine nor_then (hK35 _ _ ?_)
        refine wp_seq_k fun _ hK36 => ?_
        refine wp_region_list ?_
        refine op_val (ex_move hf rfl) rfl hf rfl rfl fun a hf => ?_
        refine op_val (ex_assign hf rfl) rfl hf rfl rfl fun a hf => ?_
        refine op_val (ex_assign hf rfl) rfl hf rfl rfl fun a hf => ?_
        refine wpList_nil ?_
        refine nor_then (hK36 _ _ ?_)
        refine wp_ret ?_
        obtain rfl := Option.some.inj hm
        exact post_ret Try.results16 hf (.tmp rfl (.tmp rfl .nil)) ⟨rfl, hO.below⟩
  · exact ⟨0, (hf.cons rfl (hf.cons rfl (hf.cons rfl hf.nil))), hO, hm⟩

end Go.Proofs
