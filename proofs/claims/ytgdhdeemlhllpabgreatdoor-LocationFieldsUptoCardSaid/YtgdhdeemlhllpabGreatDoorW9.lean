/-
  Walks, written by a program (wip/gen): what its model says, the function returns; what was there before is as it was.
-/
import Derived.Test.YtgdhdeemlhllpabGreatDoorLib
import Derived.Test.YtgdhdeemlhllpabGreatDoorW2
import Derived.Test.YtgdhdeemlhllpabGreatDoorW3
import Derived.Test.YtgdhdeemlhllpabGreatDoorW6
import Derived.Test.YtgdhdeemlhllpabGreatDoorW8
set_option linter.unusedVariables false
set_option linter.unusedSimpArgs false
set_option maxRecDepth 100000
namespace Go.Proofs
open Go.Dk Go.Dm Go.RowKit

set_option maxHeartbeats 1000000 in
theorem w_ref11_Swap (x_a0 : Str) (x_a1 : List api_Swap) (R : Str × Bool) (w0 : World) (hG : Glob w0) {x_a1_p0 : Option Addr} {x_a1_c0 : Nat} (hs0 : Sees w0 x_a1_p0 (cells enc_api_Swap x_a1)) (hc0 : x_a1.length ≤ x_a1_c0) (hm : ref11_Swap x_a0 x_a1 = some R) :
    Calls Tryz.prog 75 #[str x_a0, .slice x_a1_p0 x_a1.length x_a1_c0] w0 fun e w' => e = .returned (.tuple #[str R.1, .bool R.2]) ∧ Below w0.heap.size w0 w' := by
 rw [ref11_Swap] at hm
 refine calls_enter (vs := [str x_a0, .slice x_a1_p0 x_a1.length x_a1_c0]) Tryz.func75 rfl Tryz.ntmps75 rfl fun a hf => ?_
 have hF : Away [] := away_nil
 have hO : Dk.Own w0 [] w0 [] := Dk.Own.refl w0
 have hO := hO.addShr hs0 (by simp [Res.shared])
 refine wp_seq_k fun _ hK1 => ?_
 refine wp_region_list ?_
 refine op_as hf rfl rfl fun a hf => ?_
 refine op_as hf rfl rfl fun a hf => ?_
 refine wpList_nil ?_
 refine nor_then (hK1 _ _ ?_)
 refine wp_seq_k fun _ hK35 => ?_
 refine wp_seq_k fun _ hK2 => ?_
 refine wp_region_list ?_
 refine op_as hf rfl rfl fun a hf => ?_
 refine wpList_nil ?_
 refine nor_then (hK2 _ _ ?_)
 refine wp_block ?_
 refine wp_loop_n (fun k a w => ∃ (i3 : Int), Fits 66 [(0, str x_a0), (1, .slice x_a1_p0 x_a1.length x_a1_c0), (6, int i3)] a ∧ Dk.Own w0 [] w [.shr x_a1_p0 (cells enc_api_Swap x_a1)] ∧ ref11_Swap_L1 x_a0 x_a1 k i3 = some R) ?_ fuel ?_
 rintro n1 a w ⟨i3, hf, hO, hm⟩
 obtain _ | n1 := n1
 rw [ref11_Swap_L1] at hm
 cases hm
 rw [ref11_Swap_L1] at hm
 refine wp_seq_k fun _ hK6 => ?_
 refine wp_seq_k fun _ hK4 => ?_
 refine wp_region_list ?_
 refine op_mv hf rfl rfl fun a hf => ?_
 refine op_mv hf rfl rfl fun a hf => ?_
 refine op_val (ex_len_l Tryz.underlying22 hf rfl) rfl hf rfl rfl fun a hf => ?_
 refine op_val (ex_lss (m := i3) (n := (x_a1.length : Int)) hf rfl rfl) rfl hf rfl rfl fun a hf => ?_
 refine wpList_nil ?_
 refine nor_then (hK4 _ _ ?_)
 refine wp_cond_cut hf rfl (fun hc5 => ?_) (fun hc5 => ?_)
 have hm := it hc5 hm
 refine wp_skip ?_
 refine nor_then (hK6 _ _ ?_)
 refine wp_seq_cut (fun a w => Fits 66 [(0, str x_a0), (1, .slice x_a1_p0 x_a1.length x_a1_c0), (6, int i3)] a ∧ Dk.Own w0 [] w [.shr x_a1_p0 (cells enc_api_Swap x_a1)] ∧ ref11_Swap_j4 (ref11_Swap_L1 x_a0 x_a1 n1) i3 = some R) ?_ ?_
 refine wp_block ?_
 refine wp_seq_k fun _ hK10 => ?_
 refine wp_region_list ?_
 refine op_mv hf rfl rfl fun a hf => ?_
 refine op_mv hf rfl rfl fun a hf => ?_
 obtain ⟨x7, hx7, hm⟩ := ob hm
 obtain ⟨b8, o9, hix7, hSx7⟩ := elemAt (enc := enc_api_Swap) (sz := 2) (xs := x_a1) 22 Tryz.underlying22 sz_56 (by decide) (fun _ => rfl) (hO.sees (i := 0) rfl) hx7
 refine op_val (ex_indexAddr hix7 hf rfl rfl) rfl hf rfl rfl fun a hf => ?_
 refine op_val (ex_field fa_56_0 hf rfl) rfl hf rfl rfl fun a hf => ?_
 refine op_val (ex_load1 (o := 0) ag_9 (hSx7 _ (hO.sees (i := 0) rfl)) rfl hf rfl) rfl hf rfl rfl fun a hf => ?_
 refine op_val (ex_len_s (l := x7.From) Tryz.underlying9 hf rfl) rfl hf rfl rfl fun a hf => ?_
 refine op_as hf rfl rfl fun a hf => ?_
 refine wpList_nil ?_
 refine nor_then (hK10 _ _ ?_)
 refine wp_seq_k fun _ hK19 => ?_
 refine wp_seq_cut (fun a w => ∃ (t17 : Bool), Fits 66 [(0, str x_a0), (1, .slice x_a1_p0 x_a1.length x_a1_c0), (6, int i3), (7, int (x7.From.length : Int)), (38, .bool t17)] a ∧ Dk.Own w0 [] w [.shr x_a1_p0 (cells enc_api_Swap x_a1)] ∧ ref11_Swap_j2 (ref11_Swap_L1 x_a0 x_a1 n1) x_a0 x_a1 i3 x7 t17 = some R) ?_ ?_
 refine wp_quiet (by kernel_rfl) (by kernel_rfl) hO ?_
 refine q_val (fun w hO => ex_move hf rfl) rfl hf rfl rfl fun a hf => ?_
 refine q_val (fun w hO => ex_eql (m := (x7.From.length : Int)) (n := 0) hf rfl rfl) rfl hf rfl rfl fun a hf => ?_
 refine q_val (fun w hO => ex_move hf rfl) rfl hf rfl rfl fun a hf => ?_
 rcases bcase ((x7.From.length : Int) == 0) with hc11 | hc11
 have hm := it hc11 hm
 refine q_pass rfl hf rfl rfl (hc11) rfl rfl fun a hf => ?_
 refine q_pass rfl hf rfl rfl (hc11) rfl rfl fun a hf => ?_
 refine q_pass rfl hf rfl rfl (hc11) rfl rfl fun a hf => ?_
 refine q_pass rfl hf rfl rfl (hc11) rfl rfl fun a hf => ?_
 refine q_val (fun w hO => ex_pick_t hf rfl hc11 rfl) rfl hf rfl rfl fun a hf => ?_
 refine q_val (fun w hO => ex_move hf rfl) rfl hf rfl rfl fun a hf => ?_
 refine q_pass rfl hf rfl rfl (rfl) rfl rfl fun a hf => ?_
 refine q_pass rfl hf rfl rfl (rfl) rfl rfl fun a hf => ?_
 refine q_pass rfl hf rfl rfl (rfl) rfl rfl fun a hf => ?_
 refine q_pass rfl hf rfl rfl (rfl) rfl rfl fun a hf => ?_
 refine q_pass rfl hf rfl rfl (rfl) rfl rfl fun a hf => ?_
 refine q_pass rfl hf rfl rfl (rfl) rfl rfl fun a hf => ?_
 refine q_pass rfl hf rfl rfl (rfl) rfl rfl fun a hf => ?_
 refine q_pass rfl hf rfl rfl (rfl) rfl rfl fun a hf => ?_
 refine q_pass rfl hf rfl rfl (rfl) rfl rfl fun a hf => ?_
 refine q_val (fun w hO => ex_pick_t hf rfl rfl rfl) rfl hf rfl rfl fun a hf => ?_
 refine wpQuiet_nil ?_
 intro w hO
 refine nor_then ?_
 exact ⟨true, (hf.cons rfl (hf.cons rfl (hf.cons rfl (hf.cons rfl (hf.cons rfl hf.nil))))), hO, hm⟩
 have hm := ie hc11 hm
 refine q_guard rfl hf rfl rfl (hc11) ?_
 refine q_val (fun w hO => ex_move hf rfl) rfl hf rfl rfl fun a hf => ?_
 refine q_guard rfl hf rfl rfl (hc11) ?_
 refine q_val (fun w hO => ex_move hf rfl) rfl hf rfl rfl fun a hf => ?_
 refine q_guard rfl hf rfl rfl (hc11) ?_
 refine q_val (fun w hO => ex_len_s (l := x_a0) Tryz.underlying9 hf rfl) rfl hf rfl rfl fun a hf => ?_
 refine q_guard rfl hf rfl rfl (hc11) ?_
 refine q_val (fun w hO => ex_gtr (m := (x7.From.length : Int)) (n := (x_a0.length : Int)) hf rfl rfl) rfl hf rfl rfl fun a hf => ?_
 refine q_val (fun w hO => ex_pick_f hf rfl hc11 rfl) rfl hf rfl rfl fun a hf => ?_
 refine q_val (fun w hO => ex_move hf rfl) rfl hf rfl rfl fun a hf => ?_
 rcases bcase (decide ((x_a0.length : Int) < (x7.From.length : Int))) with hc12 | hc12
 have hm := it hc12 hm
 refine q_pass rfl hf rfl rfl (hc12) rfl rfl fun a hf => ?_
 refine q_pass rfl hf rfl rfl (hc12) rfl rfl fun a hf => ?_
 refine q_pass rfl hf rfl rfl (hc12) rfl rfl fun a hf => ?_
 refine q_pass rfl hf rfl rfl (hc12) rfl rfl fun a hf => ?_
 refine q_pass rfl hf rfl rfl (hc12) rfl rfl fun a hf => ?_
 refine q_pass rfl hf rfl rfl (hc12) rfl rfl fun a hf => ?_
 refine q_pass rfl hf rfl rfl (hc12) rfl rfl fun a hf => ?_
 refine q_pass rfl hf rfl rfl (hc12) rfl rfl fun a hf => ?_
 refine q_pass rfl hf rfl rfl (hc12) rfl rfl fun a hf => ?_
 refine q_val (fun w hO => ex_pick_t hf rfl hc12 rfl) rfl hf rfl rfl fun a hf => ?_
 refine wpQuiet_nil ?_
 intro w hO
 refine nor_then ?_
 exact ⟨true, (hf.cons rfl (hf.cons rfl (hf.cons rfl (hf.cons rfl (hf.cons rfl hf.nil))))), hO, hm⟩
 have hm := ie hc12 hm
 refine q_guard rfl hf rfl rfl (hc12) ?_
 refine q_val (fun w hO => ex_move hf rfl) rfl hf rfl rfl fun a hf => ?_
 refine q_guard rfl hf rfl rfl (hc12) ?_
 refine q_val (fun w hO => ex_move hf rfl) rfl hf rfl rfl fun a hf => ?_
 refine q_guard rfl hf rfl rfl (hc12) ?_
 obtain ⟨s13, hs13, hm⟩ := ob hm
 refine q_val (fun w hO => ex_to_s (l := x_a0) Tryz.underlying9 hf rfl rfl hs13) rfl hf rfl rfl fun a hf => ?_
 refine q_guard rfl hf rfl rfl (hc12) ?_
 refine q_val (fun w hO => ex_move hf rfl) rfl hf rfl rfl fun a hf => ?_
 refine q_guard rfl hf rfl rfl (hc12) ?_
 refine q_val (fun w hO => ex_move hf rfl) rfl hf rfl rfl fun a hf => ?_
 refine q_guard rfl hf rfl rfl (hc12) ?_
 obtain ⟨x14, hx14, hm⟩ := ob hm
 obtain ⟨b15, o16, hix14, hSx14⟩ := elemAt (enc := enc_api_Swap) (sz := 2) (xs := x_a1) 22 Tryz.underlying22 sz_56 (by decide) (fun _ => rfl) (hO.sees (i := 0) rfl) hx14
 refine q_val (fun w hO => ex_indexAddr hix14 hf rfl rfl) rfl hf rfl rfl fun a hf => ?_
 refine q_guard rfl hf rfl rfl (hc12) ?_
 refine q_val (fun w hO => ex_field fa_56_0 hf rfl) rfl hf rfl rfl fun a hf => ?_
 refine q_guard rfl hf rfl rfl (hc12) ?_
 refine q_val (fun w hO => ex_load1 (o := 0) ag_9 (hSx14 _ (hO.sees (i := 0) rfl)) rfl hf rfl) rfl hf rfl rfl fun a hf => ?_
 refine q_guard rfl hf rfl rfl (hc12) ?_
 refine q_val (fun w hO => ex_neq_s (l := s13) (m := x14.From) hf rfl rfl) rfl hf rfl rfl fun a hf => ?_
 refine q_val (fun w hO => ex_pick_f hf rfl hc12 rfl) rfl hf rfl rfl fun a hf => ?_
 refine wpQuiet_nil ?_
 intro w hO
 refine nor_then ?_
 exact ⟨!(s13 == x14.From), (hf.cons rfl (hf.cons rfl (hf.cons rfl (hf.cons rfl (hf.cons rfl hf.nil))))), hO, hm⟩
 rintro a w ⟨t17, hf, hO, hm⟩
 rw [ref11_Swap_j2] at hm
 refine wp_cond_cut hf rfl (fun hc18 => ?_) (fun hc18 => ?_)
 have hm := it hc18 hm
 refine wp_exit ?_
 refine exit_then ?_
 refine exit_here ?_
 refine nor_then ?_
 exact ⟨(hf.cons rfl (hf.cons rfl (hf.cons rfl hf.nil))), hO, hm⟩
 have hm := ie hc18 hm
 refine wp_skip ?_
 refine nor_then (hK19 _ _ ?_)
 refine wp_seq_cut (fun a w => ∃ (t26 : Bool), Fits 66 [(0, str x_a0), (1, .slice x_a1_p0 x_a1.length x_a1_c0), (6, int i3), (7, int (x7.From.length : Int)), (55, .bool t26)] a ∧ Dk.Own w0 [] w [.shr x_a1_p0 (cells enc_api_Swap x_a1)] ∧ ref11_Swap_j3 (ref11_Swap_L1 x_a0 x_a1 n1) x_a0 x_a1 i3 x7 t26 = some R) ?_ ?_
 refine wp_region_list ?_
 refine op_mv hf rfl rfl fun a hf => ?_
 refine op_mv hf rfl rfl fun a hf => ?_
 refine op_val (ex_len_s (l := x_a0) Tryz.underlying9 hf rfl) rfl hf rfl rfl fun a hf => ?_
 refine op_val (ex_eql (m := (x7.From.length : Int)) (n := (x_a0.length : Int)) hf rfl rfl) rfl hf rfl rfl fun a hf => ?_
 refine op_mv hf rfl rfl fun a hf => ?_
 rcases bcase ((x7.From.length : Int) == (x_a0.length : Int)) with hc20 | hc20
 have hm := it hc20 hm
 refine op_pass rfl hf rfl rfl (hc20) rfl rfl fun a hf => ?_
 refine op_pass rfl hf rfl rfl (hc20) rfl rfl fun a hf => ?_
 refine op_pass rfl hf rfl rfl (hc20) rfl rfl fun a hf => ?_
 refine op_pass rfl hf rfl rfl (hc20) rfl rfl fun a hf => ?_
 refine op_pass rfl hf rfl rfl (hc20) rfl rfl fun a hf => ?_
 refine op_val (ex_pick_t hf rfl hc20 rfl) rfl hf rfl rfl fun a hf => ?_
 refine op_mv hf rfl rfl fun a hf => ?_
 refine op_pass rfl hf rfl rfl (rfl) rfl rfl fun a hf => ?_
 refine op_pass rfl hf rfl rfl (rfl) rfl rfl fun a hf => ?_
 refine op_pass rfl hf rfl rfl (rfl) rfl rfl fun a hf => ?_
 refine op_pass rfl hf rfl rfl (rfl) rfl rfl fun a hf => ?_
 refine op_val (ex_pick_t hf rfl rfl rfl) rfl hf rfl rfl fun a hf => ?_
 refine wpList_nil ?_
 refine nor_then ?_
 exact ⟨true, (hf.cons rfl (hf.cons rfl (hf.cons rfl (hf.cons rfl (hf.cons rfl hf.nil))))), hO, hm⟩
 have hm := ie hc20 hm
 refine op_guard rfl hf rfl rfl (hc20) ?_
 refine op_mv hf rfl rfl fun a hf => ?_
 refine op_guard rfl hf rfl rfl (hc20) ?_
 refine op_mv hf rfl rfl fun a hf => ?_
 refine op_guard rfl hf rfl rfl (hc20) ?_
 obtain ⟨i21, hi21, hm⟩ := ob hm
 refine op_val (ex_sub hf rfl rfl hi21) rfl hf rfl rfl fun a hf => ?_
 refine op_guard rfl hf rfl rfl (hc20) ?_
 obtain ⟨b22, hb22, hm⟩ := ob hm
 refine op_val (ex_index (l := x_a0) Tryz.underlying9 hf rfl rfl hb22) rfl hf rfl rfl fun a hf => ?_
 refine op_guard rfl hf rfl rfl (hc20) ?_
 refine op_val (ex_eql_b (b := b22) (c := 47) hf rfl rfl) rfl hf rfl rfl fun a hf => ?_
 refine op_val (ex_pick_f hf rfl hc20 rfl) rfl hf rfl rfl fun a hf => ?_
 refine op_mv hf rfl rfl fun a hf => ?_
 rcases bcase (b22 == 47) with hc23 | hc23
 have hm := it hc23 hm
 refine op_pass rfl hf rfl rfl (hc23) rfl rfl fun a hf => ?_
 refine op_pass rfl hf rfl rfl (hc23) rfl rfl fun a hf => ?_
 refine op_pass rfl hf rfl rfl (hc23) rfl rfl fun a hf => ?_
 refine op_pass rfl hf rfl rfl (hc23) rfl rfl fun a hf => ?_
 refine op_val (ex_pick_t hf rfl hc23 rfl) rfl hf rfl rfl fun a hf => ?_
 refine wpList_nil ?_
 refine nor_then ?_
 exact ⟨true, (hf.cons rfl (hf.cons rfl (hf.cons rfl (hf.cons rfl (hf.cons rfl hf.nil))))), hO, hm⟩
 have hm := ie hc23 hm
 refine op_guard rfl hf rfl rfl (hc23) ?_
 refine op_mv hf rfl rfl fun a hf => ?_
 refine op_guard rfl hf rfl rfl (hc23) ?_
 refine op_mv hf rfl rfl fun a hf => ?_
 refine op_guard rfl hf rfl rfl (hc23) ?_
 obtain ⟨b24, hb24, hm⟩ := ob hm
 refine op_val (ex_index (l := x_a0) Tryz.underlying9 hf rfl rfl hb24) rfl hf rfl rfl fun a hf => ?_
 refine op_guard rfl hf rfl rfl (hc23) ?_
 obtain ⟨r25, hr25, hm⟩ := ob hm
 refine op_enter (ex_call c_89 hf (vs := [byte b24, str [47, 63, 35]]) rfl) rfl hf rfl rfl (w_ref01_In b24 [47, 63, 35] r25 _ (hG.own hF hO) hr25) ?_
 rintro e w' ⟨he, hb⟩
 refine ⟨_, he, fun a hf => ?_⟩
 have hO := hO.grow hb
 refine op_val (ex_pick_f hf rfl hc23 rfl) rfl hf rfl rfl fun a hf => ?_
 refine wpList_nil ?_
 refine nor_then ?_
 exact ⟨r25, (hf.cons rfl (hf.cons rfl (hf.cons rfl (hf.cons rfl (hf.cons rfl hf.nil))))), hO, hm⟩
 rintro a w ⟨t26, hf, hO, hm⟩
 rw [ref11_Swap_j3] at hm
 refine wp_cond_cut hf rfl (fun hc27 => ?_) (fun hc27 => ?_)
 have hm := it hc27 hm
 refine wp_seq_k fun _ hK33 => ?_
 refine wp_quiet (by kernel_rfl) (by kernel_rfl) hO ?_
 refine q_val (fun w hO => ex_move hf rfl) rfl hf rfl rfl fun a hf => ?_
 refine q_val (fun w hO => ex_move hf rfl) rfl hf rfl rfl fun a hf => ?_
 obtain ⟨x28, hx28, hm⟩ := ob hm
 obtain ⟨b29, o30, hix28, hSx28⟩ := elemAt (enc := enc_api_Swap) (sz := 2) (xs := x_a1) 22 Tryz.underlying22 sz_56 (by decide) (fun _ => rfl) (hO.sees (i := 0) rfl) hx28
 refine q_val (fun w hO => ex_indexAddr hix28 hf rfl rfl) rfl hf rfl rfl fun a hf => ?_
 refine q_val (fun w hO => ex_field fa_56_1 hf rfl) rfl hf rfl rfl fun a hf => ?_
 refine q_val (fun w hO => ex_load1 (o := 1) ag_9 (hSx28 _ (hO.sees (i := 0) rfl)) rfl hf rfl) rfl hf rfl rfl fun a hf => ?_
 refine q_val (fun w hO => ex_move hf rfl) rfl hf rfl rfl fun a hf => ?_
 refine q_val (fun w hO => ex_move hf rfl) rfl hf rfl rfl fun a hf => ?_
 obtain ⟨s31, hs31, hm⟩ := ob hm
 refine q_val (fun w hO => ex_from_s (l := x_a0) Tryz.underlying9 hf rfl rfl hs31) rfl hf rfl rfl fun a hf => ?_
 obtain ⟨s32, hs32, hm⟩ := ob hm
 refine q_val (fun w hO => ex_cat (l := x28.To) (m := s31) hf rfl rfl hs32) rfl hf rfl rfl fun a hf => ?_
 refine q_val (fun w hO => ex_assign hf rfl) rfl hf rfl rfl fun a hf => ?_
 refine q_val (fun w hO => ex_assign hf rfl) rfl hf rfl rfl fun a hf => ?_
 refine wpQuiet_nil ?_
 intro w hO
 refine nor_then (hK33 _ _ ?_)
 refine wp_ret ?_
 refine ret_block ?_
 refine ret_then ?_
 refine ret_then ?_
 refine ret_block ?_
 refine ret_then ?_
 obtain rfl := Option.some.inj hm
 exact post_ret Tryz.results75 hf (.tmp rfl (.tmp rfl .nil)) ⟨rfl, hO.below⟩
 have hm := ie hc27 hm
 refine wp_skip ?_
 refine nor_block ?_
 refine nor_then ?_
 exact ⟨(hf.cons rfl (hf.cons rfl (hf.cons rfl hf.nil))), hO, hm⟩
 rintro a w ⟨hf, hO, hm⟩
 rw [ref11_Swap_j4] at hm
 refine wp_region_list ?_
 refine op_mv hf rfl rfl fun a hf => ?_
 obtain ⟨i34, hi34, hm⟩ := ob hm
 refine op_val (ex_add hf rfl rfl hi34) rfl hf rfl rfl fun a hf => ?_
 refine op_as hf rfl rfl fun a hf => ?_
 refine wpList_nil ?_
 refine nor_then ?_
 exact ⟨_, Nat.lt_succ_self _, i34, (hf.cons rfl (hf.cons rfl (hf.cons rfl hf.nil))), hO, hm⟩
 have hm := ie hc5 hm
 refine wp_exit ?_
 refine exit_then ?_
 refine exit_then ?_
 refine exit_here ?_
 refine nor_then (hK35 _ _ ?_)
 refine wp_seq_k fun _ hK36 => ?_
 refine wp_region_list ?_
 refine op_mv hf rfl rfl fun a hf => ?_
 refine op_as hf rfl rfl fun a hf => ?_
 refine op_as hf rfl rfl fun a hf => ?_
 refine wpList_nil ?_
 refine nor_then (hK36 _ _ ?_)
 refine wp_ret ?_
 obtain rfl := Option.some.inj hm
 exact post_ret Tryz.results75 hf (.tmp rfl (.tmp rfl .nil)) ⟨rfl, hO.below⟩
 exact ⟨0, (hf.cons rfl (hf.cons rfl (hf.cons rfl hf.nil))), hO, hm⟩

set_option maxHeartbeats 1000000 in
theorem w_ref30_Rewrite (x_s : Str) (x_l : List api_Swap) (R : Str) (w0 : World) (hG : Glob w0) {x_l_p0 : Option Addr} {x_l_c0 : Nat} (hs0 : Sees w0 x_l_p0 (cells enc_api_Swap x_l)) (hc0 : x_l.length ≤ x_l_c0) (hm : ref30_Rewrite x_s x_l = some R) :
    Calls Tryz.prog 42 #[str x_s, .slice x_l_p0 x_l.length x_l_c0] w0 fun e w' => e = .returned (str R) ∧ Below w0.heap.size w0 w' := by
 rw [ref30_Rewrite] at hm
 refine calls_enter (vs := [str x_s, .slice x_l_p0 x_l.length x_l_c0]) Tryz.func42 rfl Tryz.ntmps42 rfl fun a hf => ?_
 have hF : Away [] := away_nil
 have hO : Dk.Own w0 [] w0 [] := Dk.Own.refl w0
 have hO := hO.addShr hs0 (by simp [Res.shared])
 refine wp_seq_k fun _ hK1 => ?_
 refine wp_region_list ?_
 refine op_as hf rfl rfl fun a hf => ?_
 refine wpList_nil ?_
 refine nor_then (hK1 _ _ ?_)
 refine wp_seq_k fun _ hK4 => ?_
 refine wp_region_list ?_
 refine op_mv hf rfl rfl fun a hf => ?_
 obtain ⟨r2, hr2, hm⟩ := ob hm
 refine op_enter (ex_call c_74 hf (vs := [str x_s]) rfl) rfl hf rfl rfl (w_ref11_Parse x_s r2 _ (hG.own hF hO) hr2) ?_
 rintro e w' ⟨he, hb⟩
 refine ⟨_, he, fun a hf => ?_⟩
 have hO := hO.grow hb
 refine op_mv hf rfl rfl fun a hf => ?_
 refine op_val (ex_extract hf rfl rfl) rfl hf rfl rfl fun a hf => ?_
 refine op_val (ex_extract hf rfl rfl) rfl hf rfl rfl fun a hf => ?_
 refine op_alloc al_90 hf rfl hO fun a b3 w hf hO => ?_
 refine op_storeN (i := 0) (n := 8) sz_90 rfl rfl rfl (by simp [Value.oneCell']) hf rfl rfl hO fun w hO => ?_
 refine op_as hf rfl rfl fun a hf => ?_
 refine wpList_nil ?_
 refine nor_then (hK4 _ _ ?_)
 refine wp_seq_k fun _ hK6 => ?_
 refine wp_region_list ?_
 refine op_mv hf rfl rfl fun a hf => ?_
 refine op_mv hf rfl rfl fun a hf => ?_
 obtain ⟨r5, hr5, hm⟩ := ob hm
 refine op_enter (ex_call c_75 hf (vs := [str x_s, .slice x_l_p0 x_l.length x_l_c0]) rfl) rfl hf rfl rfl (w_ref11_Swap x_s x_l r5 _ (hG.own hF hO) (hO.sees (i := 1) rfl) hc0 hr5) ?_
 rintro e w' ⟨he, hb⟩
 refine ⟨_, he, fun a hf => ?_⟩
 have hO := hO.grow hb
 refine op_mv hf rfl rfl fun a hf => ?_
 refine op_val (ex_extract hf rfl rfl) rfl hf rfl rfl fun a hf => ?_
 refine op_val (ex_extract hf rfl rfl) rfl hf rfl rfl fun a hf => ?_
 refine op_as hf rfl rfl fun a hf => ?_
 refine op_as hf rfl rfl fun a hf => ?_
 refine wpList_nil ?_
 refine nor_then (hK6 _ _ ?_)
 refine wp_seq_k fun _ hK9 => ?_
 refine wp_region_list ?_
 refine op_mv hf rfl rfl fun a hf => ?_
 obtain ⟨r7, hr7, hm⟩ := ob hm
 refine op_enter (ex_call c_74 hf (vs := [str r5.1]) rfl) rfl hf rfl rfl (w_ref11_Parse r5.1 r7 _ (hG.own hF hO) hr7) ?_
 rintro e w' ⟨he, hb⟩
 refine ⟨_, he, fun a hf => ?_⟩
 have hO := hO.grow hb
 refine op_mv hf rfl rfl fun a hf => ?_
 refine op_val (ex_extract hf rfl rfl) rfl hf rfl rfl fun a hf => ?_
 refine op_val (ex_extract hf rfl rfl) rfl hf rfl rfl fun a hf => ?_
 refine op_alloc al_90 hf rfl hO fun a b8 w hf hO => ?_
 refine op_storeN (i := 0) (n := 8) sz_90 rfl rfl rfl (by simp [Value.oneCell']) hf rfl rfl hO fun w hO => ?_
 refine op_as hf rfl rfl fun a hf => ?_
 refine wpList_nil ?_
 refine nor_then (hK9 _ _ ?_)
 refine wp_seq_k fun _ hK15 => ?_
 refine wp_seq_cut (fun a w => ∃ (t12 : Bool), Fits 38 [(0, str x_s), (7, str r5.1), (35, .bool t12)] a ∧ Dk.Own w0 [] w [.blk b8 [str r7.1.Scheme, str r7.1.Auth, str r7.1.Path, str r7.1.Query, str r7.1.Frag, .bool r7.1.HasAuth, .bool r7.1.HasQuery, .bool r7.1.HasFrag] 90, .blk b3 [str r2.1.Scheme, str r2.1.Auth, str r2.1.Path, str r2.1.Query, str r2.1.Frag, .bool r2.1.HasAuth, .bool r2.1.HasQuery, .bool r2.1.HasFrag] 90, .shr x_l_p0 (cells enc_api_Swap x_l)] ∧ ref30_Rewrite_j1 x_s r5 t12 = some R) ?_ ?_
 refine wp_region_list ?_
 refine op_mv hf rfl rfl fun a hf => ?_
 refine op_val (ex_eql (m := r2.2) (n := 0) hf rfl rfl) rfl hf rfl rfl fun a hf => ?_
 refine op_mv hf rfl rfl fun a hf => ?_
 rcases bcase (r2.2 == 0) with hc10 | hc10
 have hm := it hc10 hm
 refine op_guard rfl hf rfl rfl (hc10) ?_
 refine op_mv hf rfl rfl fun a hf => ?_
 refine op_val (ex_pick_t hf rfl hc10 rfl) rfl hf rfl rfl fun a hf => ?_
 refine op_mv hf rfl rfl fun a hf => ?_
 rcases bcase (r5.2) with hc11 | hc11
 have hm := it hc11 hm
 refine op_guard rfl hf rfl rfl (hc11) ?_
 refine op_mv hf rfl rfl fun a hf => ?_
 refine op_guard rfl hf rfl rfl (hc11) ?_
 refine op_val (ex_eql (m := r7.2) (n := 0) hf rfl rfl) rfl hf rfl rfl fun a hf => ?_
 refine op_val (ex_pick_t hf rfl hc11 rfl) rfl hf rfl rfl fun a hf => ?_
 refine wpList_nil ?_
 refine nor_then ?_
 exact ⟨r7.2 == 0, (hf.cons rfl (hf.cons rfl (hf.cons rfl hf.nil))), hO, hm⟩
 have hm := ie hc11 hm
 refine op_pass rfl hf rfl rfl (hc11) rfl rfl fun a hf => ?_
 refine op_pass rfl hf rfl rfl (hc11) rfl rfl fun a hf => ?_
 refine op_val (ex_pick_f hf rfl hc11 rfl) rfl hf rfl rfl fun a hf => ?_
 refine wpList_nil ?_
 refine nor_then ?_
 exact ⟨false, (hf.cons rfl (hf.cons rfl (hf.cons rfl hf.nil))), hO, hm⟩
 have hm := ie hc10 hm
 refine op_pass rfl hf rfl rfl (hc10) rfl rfl fun a hf => ?_
 refine op_val (ex_pick_f hf rfl hc10 rfl) rfl hf rfl rfl fun a hf => ?_
 refine op_mv hf rfl rfl fun a hf => ?_
 refine op_pass rfl hf rfl rfl (rfl) rfl rfl fun a hf => ?_
 refine op_pass rfl hf rfl rfl (rfl) rfl rfl fun a hf => ?_
 refine op_val (ex_pick_f hf rfl rfl rfl) rfl hf rfl rfl fun a hf => ?_
 refine wpList_nil ?_
 refine nor_then ?_
 exact ⟨false, (hf.cons rfl (hf.cons rfl (hf.cons rfl hf.nil))), hO, hm⟩
 rintro a w ⟨t12, hf, hO, hm⟩
 rw [ref30_Rewrite_j1] at hm
 refine wp_cond_cut hf rfl (fun hc13 => ?_) (fun hc13 => ?_)
 have hm := it hc13 hm
 refine wp_seq_k fun _ hK14 => ?_
 refine wp_region_list ?_
 refine op_mv hf rfl rfl fun a hf => ?_
 refine op_as hf rfl rfl fun a hf => ?_
 refine wpList_nil ?_
 refine nor_then (hK14 _ _ ?_)
 refine wp_ret ?_
 refine ret_then ?_
 obtain rfl := Option.some.inj hm
 exact post_ret Tryz.results42 hf (.tmp rfl .nil) ⟨rfl, hO.below⟩
 have hm := ie hc13 hm
 refine wp_skip ?_
 refine nor_then (hK15 _ _ ?_)
 refine wp_seq_k fun _ hK16 => ?_
 refine wp_region_list ?_
 refine op_mv hf rfl rfl fun a hf => ?_
 refine op_as hf rfl rfl fun a hf => ?_
 refine wpList_nil ?_
 refine nor_then (hK16 _ _ ?_)
 refine wp_ret ?_
 obtain rfl := Option.some.inj hm
 exact post_ret Tryz.results42 hf (.tmp rfl .nil) ⟨rfl, hO.below⟩

set_option maxHeartbeats 1000000 in
theorem w_ref01_Blank (x_b : UInt8) (R : Bool) (w0 : World) (hG : Glob w0) (hm : ref01_Blank x_b = some R) :
    Calls Tryz.prog 168 #[byte x_b] w0 fun e w' => e = .returned (.bool R) ∧ Below w0.heap.size w0 w' := by
 rw [ref01_Blank] at hm
 refine calls_enter (vs := [byte x_b]) Tryz.func168 rfl Tryz.ntmps168 rfl fun a hf => ?_
 have hF : Away [] := away_nil
 have hO : Dk.Own w0 [] w0 [] := Dk.Own.refl w0
 refine wp_seq_k fun _ hK1 => ?_
 refine wp_region_list ?_
 refine op_as hf rfl rfl fun a hf => ?_
 refine wpList_nil ?_
 refine nor_then (hK1 _ _ ?_)
 refine wp_seq_cut (fun a w => ∃ (t3 : Bool), Fits 9 [(2, .bool t3)] a ∧ Dk.Own w0 [] w [] ∧ ref01_Blank_j1 t3 = some R) ?_ ?_
 refine wp_region_list ?_
 refine op_mv hf rfl rfl fun a hf => ?_
 refine op_val (ex_eql_b (b := x_b) (c := 32) hf rfl rfl) rfl hf rfl rfl fun a hf => ?_
 refine op_mv hf rfl rfl fun a hf => ?_
 rcases bcase (x_b == 32) with hc2 | hc2
 have hm := it hc2 hm
 refine op_pass rfl hf rfl rfl (hc2) rfl rfl fun a hf => ?_
 refine op_pass rfl hf rfl rfl (hc2) rfl rfl fun a hf => ?_
 refine op_val (ex_pick_t hf rfl hc2 rfl) rfl hf rfl rfl fun a hf => ?_
 refine op_as hf rfl rfl fun a hf => ?_
 refine wpList_nil ?_
 refine nor_then ?_
 exact ⟨true, (hf.cons rfl hf.nil), hO, hm⟩
 have hm := ie hc2 hm
 refine op_guard rfl hf rfl rfl (hc2) ?_
 refine op_mv hf rfl rfl fun a hf => ?_
 refine op_guard rfl hf rfl rfl (hc2) ?_
 refine op_val (ex_eql_b (b := x_b) (c := 9) hf rfl rfl) rfl hf rfl rfl fun a hf => ?_
 refine op_val (ex_pick_f hf rfl hc2 rfl) rfl hf rfl rfl fun a hf => ?_
 refine op_as hf rfl rfl fun a hf => ?_
 refine wpList_nil ?_
 refine nor_then ?_
 exact ⟨x_b == 9, (hf.cons rfl hf.nil), hO, hm⟩
 rintro a w ⟨t3, hf, hO, hm⟩
 rw [ref01_Blank_j1] at hm
 refine wp_ret ?_
 obtain rfl := Option.some.inj hm
 exact post_ret Tryz.results168 hf (.tmp rfl .nil) ⟨rfl, hO.below⟩

set_option maxHeartbeats 1000000 in
theorem w_ref06_Trim (x_s : Str) (R : Str) (w0 : World) (hG : Glob w0) (hm : ref06_Trim x_s = some R) :
    Calls Tryz.prog 150 #[str x_s] w0 fun e w' => e = .returned (str R) ∧ Below w0.heap.size w0 w' := by
 rw [ref06_Trim] at hm
 refine calls_enter (vs := [str x_s]) Tryz.func150 rfl Tryz.ntmps150 rfl fun a hf => ?_
 have hF : Away [] := away_nil
 have hO : Dk.Own w0 [] w0 [] := Dk.Own.refl w0
 refine wp_seq_k fun _ hK1 => ?_
 refine wp_region_list ?_
 refine op_as hf rfl rfl fun a hf => ?_
 refine wpList_nil ?_
 refine nor_then (hK1 _ _ ?_)
 refine wp_seq_k fun _ hK10 => ?_
 refine wp_block ?_
 refine wp_loop_n (fun k a w => ∃ (s2 : Str), Fits 30 [(0, str s2)] a ∧ Dk.Own w0 [] w [] ∧ ref06_Trim_L1 k s2 = some R) ?_ fuel ?_
 rintro n1 a w ⟨s2, hf, hO, hm⟩
 obtain _ | n1 := n1
 rw [ref06_Trim_L1] at hm
 cases hm
 rw [ref06_Trim_L1] at hm
 refine wp_seq_k fun _ hK8 => ?_
 refine wp_seq_cut (fun a w => ∃ (t6 : Bool), Fits 30 [(0, str s2), (10, .bool t6)] a ∧ Dk.Own w0 [] w [] ∧ ref06_Trim_j2 (ref06_Trim_L1 n1) s2 t6 = some R) ?_ ?_
 refine wp_region_list ?_
 refine op_mv hf rfl rfl fun a hf => ?_
 refine op_val (ex_len_s (l := s2) Tryz.underlying9 hf rfl) rfl hf rfl rfl fun a hf => ?_
 refine op_val (ex_gtr (m := (s2.length : Int)) (n := 0) hf rfl rfl) rfl hf rfl rfl fun a hf => ?_
 refine op_mv hf rfl rfl fun a hf => ?_
 rcases bcase (decide (0 < (s2.length : Int))) with hc3 | hc3
 have hm := it hc3 hm
 refine op_guard rfl hf rfl rfl (hc3) ?_
 refine op_mv hf rfl rfl fun a hf => ?_
 refine op_guard rfl hf rfl rfl (hc3) ?_
 obtain ⟨b4, hb4, hm⟩ := ob hm
 refine op_val (ex_index (l := s2) Tryz.underlying9 hf rfl rfl hb4) rfl hf rfl rfl fun a hf => ?_
 refine op_guard rfl hf rfl rfl (hc3) ?_
 obtain ⟨r5, hr5, hm⟩ := ob hm
 refine op_enter (ex_call c_168 hf (vs := [byte b4]) rfl) rfl hf rfl rfl (w_ref01_Blank b4 r5 _ (hG.own hF hO) hr5) ?_
 rintro e w' ⟨he, hb⟩
 refine ⟨_, he, fun a hf => ?_⟩
 have hO := hO.grow hb
 refine op_val (ex_pick_t hf rfl hc3 rfl) rfl hf rfl rfl fun a hf => ?_
 refine wpList_nil ?_
 refine nor_then ?_
 exact ⟨r5, (hf.cons rfl (hf.cons rfl hf.nil)), hO, hm⟩
 have hm := ie hc3 hm
 refine op_pass rfl hf rfl rfl (hc3) rfl rfl fun a hf => ?_
 refine op_pass rfl hf rfl rfl (hc3) rfl rfl fun a hf => ?_
 refine op_pass rfl hf rfl rfl (hc3) rfl rfl fun a hf => ?_
 refine op_val (ex_pick_f hf rfl hc3 rfl) rfl hf rfl rfl fun a hf => ?_
 refine wpList_nil ?_
 refine nor_then ?_
 exact ⟨false, (hf.cons rfl (hf.cons rfl hf.nil)), hO, hm⟩
 rintro a w ⟨t6, hf, hO, hm⟩
 rw [ref06_Trim_j2] at hm
 refine wp_cond_cut hf rfl (fun hc7 => ?_) (fun hc7 => ?_)
 have hm := it hc7 hm
 refine wp_skip ?_
 refine nor_then (hK8 _ _ ?_)
 refine wp_block ?_
 refine wp_region_list ?_
 refine op_mv hf rfl rfl fun a hf => ?_
 obtain ⟨s9, hs9, hm⟩ := ob hm
 refine op_val (ex_from_s (l := s2) Tryz.underlying9 hf rfl rfl hs9) rfl hf rfl rfl fun a hf => ?_
 refine op_as hf rfl rfl fun a hf => ?_
 refine wpList_nil ?_
 refine nor_block ?_
 refine nor_then ?_
 exact ⟨_, Nat.lt_succ_self _, s9, (hf.cons rfl hf.nil), hO, hm⟩
 have hm := ie hc7 hm
 refine wp_exit ?_
 refine exit_then ?_
 refine exit_then ?_
 refine exit_here ?_
 refine nor_then (hK10 _ _ ?_)
 refine wp_seq_k fun _ hK21 => ?_
 refine wp_block ?_
 refine wp_loop_n (fun k a w => ∃ (s11 : Str), Fits 30 [(0, str s11)] a ∧ Dk.Own w0 [] w [] ∧ ref06_Trim_L3 k s11 = some R) ?_ fuel ?_
 rintro n3 a w ⟨s11, hf, hO, hm⟩
 obtain _ | n3 := n3
 rw [ref06_Trim_L3] at hm
 cases hm
 rw [ref06_Trim_L3] at hm
 refine wp_seq_k fun _ hK18 => ?_
 refine wp_seq_cut (fun a w => ∃ (t16 : Bool), Fits 30 [(0, str s11), (23, .bool t16)] a ∧ Dk.Own w0 [] w [] ∧ ref06_Trim_j4 (ref06_Trim_L3 n3) s11 t16 = some R) ?_ ?_
 refine wp_region_list ?_
 refine op_mv hf rfl rfl fun a hf => ?_
 refine op_val (ex_len_s (l := s11) Tryz.underlying9 hf rfl) rfl hf rfl rfl fun a hf => ?_
 refine op_val (ex_gtr (m := (s11.length : Int)) (n := 0) hf rfl rfl) rfl hf rfl rfl fun a hf => ?_
 refine op_mv hf rfl rfl fun a hf => ?_
 rcases bcase (decide (0 < (s11.length : Int))) with hc12 | hc12
 have hm := it hc12 hm
 refine op_guard rfl hf rfl rfl (hc12) ?_
 refine op_mv hf rfl rfl fun a hf => ?_
 refine op_guard rfl hf rfl rfl (hc12) ?_
 refine op_mv hf rfl rfl fun a hf => ?_
 refine op_guard rfl hf rfl rfl (hc12) ?_
 refine op_val (ex_len_s (l := s11) Tryz.underlying9 hf rfl) rfl hf rfl rfl fun a hf => ?_
 refine op_guard rfl hf rfl rfl (hc12) ?_
 obtain ⟨i13, hi13, hm⟩ := ob hm
 refine op_val (ex_sub hf rfl rfl hi13) rfl hf rfl rfl fun a hf => ?_
 refine op_guard rfl hf rfl rfl (hc12) ?_
 obtain ⟨b14, hb14, hm⟩ := ob hm
 refine op_val (ex_index (l := s11) Tryz.underlying9 hf rfl rfl hb14) rfl hf rfl rfl fun a hf => ?_
 refine op_guard rfl hf rfl rfl (hc12) ?_
 obtain ⟨r15, hr15, hm⟩ := ob hm
 refine op_enter (ex_call c_168 hf (vs := [byte b14]) rfl) rfl hf rfl rfl (w_ref01_Blank b14 r15 _ (hG.own hF hO) hr15) ?_
 rintro e w' ⟨he, hb⟩
 refine ⟨_, he, fun a hf => ?_⟩
 have hO := hO.grow hb
 refine op_val (ex_pick_t hf rfl hc12 rfl) rfl hf rfl rfl fun a hf => ?_
 refine wpList_nil ?_
 refine nor_then ?_
 exact ⟨r15, (hf.cons rfl (hf.cons rfl hf.nil)), hO, hm⟩
 have hm := ie hc12 hm
 refine op_pass rfl hf rfl rfl (hc12) rfl rfl fun a hf => ?_
 refine op_pass rfl hf rfl rfl (hc12) rfl rfl fun a hf => ?_
 refine op_pass rfl hf rfl rfl (hc12) rfl rfl fun a hf => ?_
 refine op_pass rfl hf rfl rfl (hc12) rfl rfl fun a hf => ?_
 refine op_pass rfl hf rfl rfl (hc12) rfl rfl fun a hf => ?_
 refine op_pass rfl hf rfl rfl (hc12) rfl rfl fun a hf => ?_
 refine op_val (ex_pick_f hf rfl hc12 rfl) rfl hf rfl rfl fun a hf => ?_
 refine wpList_nil ?_
 refine nor_then ?_
 exact ⟨false, (hf.cons rfl (hf.cons rfl hf.nil)), hO, hm⟩
 rintro a w ⟨t16, hf, hO, hm⟩
 rw [ref06_Trim_j4] at hm
 refine wp_cond_cut hf rfl (fun hc17 => ?_) (fun hc17 => ?_)
 have hm := it hc17 hm
 refine wp_skip ?_
 refine nor_then (hK18 _ _ ?_)
 refine wp_block ?_
 refine wp_region_list ?_
 refine op_mv hf rfl rfl fun a hf => ?_
 refine op_mv hf rfl rfl fun a hf => ?_
 refine op_val (ex_len_s (l := s11) Tryz.underlying9 hf rfl) rfl hf rfl rfl fun a hf => ?_
 obtain ⟨i19, hi19, hm⟩ := ob hm
 refine op_val (ex_sub hf rfl rfl hi19) rfl hf rfl rfl fun a hf => ?_
 obtain ⟨s20, hs20, hm⟩ := ob hm
 refine op_val (ex_to_s (l := s11) Tryz.underlying9 hf rfl rfl hs20) rfl hf rfl rfl fun a hf => ?_
 refine op_as hf rfl rfl fun a hf => ?_
 refine wpList_nil ?_
 refine nor_block ?_
 refine nor_then ?_
 exact ⟨_, Nat.lt_succ_self _, s20, (hf.cons rfl hf.nil), hO, hm⟩
 have hm := ie hc17 hm
 refine wp_exit ?_
 refine exit_then ?_
 refine exit_then ?_
 refine exit_here ?_
 refine nor_then (hK21 _ _ ?_)
 refine wp_seq_k fun _ hK22 => ?_
 refine wp_region_list ?_
 refine op_mv hf rfl rfl fun a hf => ?_
 refine op_as hf rfl rfl fun a hf => ?_
 refine wpList_nil ?_
 refine nor_then (hK22 _ _ ?_)
 refine wp_ret ?_
 obtain rfl := Option.some.inj hm
 exact post_ret Tryz.results150 hf (.tmp rfl .nil) ⟨rfl, hO.below⟩
 exact ⟨s2, (hf.cons rfl hf.nil), hO, hm⟩
 exact ⟨x_s, (hf.cons rfl hf.nil), hO, hm⟩

set_option maxHeartbeats 1000000 in
theorem w_ref01_Tok (x_b : UInt8) (R : Bool) (w0 : World) (hG : Glob w0) (hm : ref01_Tok x_b = some R) :
    Calls Tryz.prog 169 #[byte x_b] w0 fun e w' => e = .returned (.bool R) ∧ Below w0.heap.size w0 w' := by
 rw [ref01_Tok] at hm
 refine calls_enter (vs := [byte x_b]) Tryz.func169 rfl Tryz.ntmps169 rfl fun a hf => ?_
 have hF : Away [] := away_nil
 have hO : Dk.Own w0 [] w0 [] := Dk.Own.refl w0
 refine wp_seq_k fun _ hK1 => ?_
 refine wp_region_list ?_
 refine op_as hf rfl rfl fun a hf => ?_
 refine wpList_nil ?_
 refine nor_then (hK1 _ _ ?_)
 refine wp_seq_k fun _ hK3 => ?_
 refine wp_region_list ?_
 refine op_mv hf rfl rfl fun a hf => ?_
 obtain ⟨r2, hr2, hm⟩ := ob hm
 refine op_enter (ex_call c_89 hf (vs := [byte x_b, str [97, 98, 99, 100, 101, 102, 103, 104, 105, 106, 107, 108, 109, 110, 111, 112, 113, 114, 115, 116, 117, 118, 119, 120, 121, 122, 65, 66, 67, 68, 69, 70, 71, 72, 73, 74, 75, 76, 77, 78, 79, 80, 81, 82, 83, 84, 85, 86, 87, 88, 89, 90, 48, 49, 50, 51, 52, 53, 54, 55, 56, 57, 33, 35, 36, 37, 38, 39, 42, 43, 45, 46, 94, 95, 96, 124, 126]]) rfl) rfl hf rfl rfl (w_ref01_In x_b [97, 98, 99, 100, 101, 102, 103, 104, 105, 106, 107, 108, 109, 110, 111, 112, 113, 114, 115, 116, 117, 118, 119, 120, 121, 122, 65, 66, 67, 68, 69, 70, 71, 72, 73, 74, 75, 76, 77, 78, 79, 80, 81, 82, 83, 84, 85, 86, 87, 88, 89, 90, 48, 49, 50, 51, 52, 53, 54, 55, 56, 57, 33, 35, 36, 37, 38, 39, 42, 43, 45, 46, 94, 95, 96, 124, 126] r2 _ (hG.own hF hO) hr2) ?_
 rintro e w' ⟨he, hb⟩
 refine ⟨_, he, fun a hf => ?_⟩
 have hO := hO.grow hb
 refine op_as hf rfl rfl fun a hf => ?_
 refine wpList_nil ?_
 refine nor_then (hK3 _ _ ?_)
 refine wp_ret ?_
 obtain rfl := Option.some.inj hm
 exact post_ret Tryz.results169 hf (.tmp rfl .nil) ⟨rfl, hO.below⟩

set_option maxHeartbeats 1000000 in
theorem w_ref01_Token (x_s : Str) (R : Bool) (w0 : World) (hG : Glob w0) (hm : ref01_Token x_s = some R) :
    Calls Tryz.prog 151 #[str x_s] w0 fun e w' => e = .returned (.bool R) ∧ Below w0.heap.size w0 w' := by
 rw [ref01_Token] at hm
 refine calls_enter (vs := [str x_s]) Tryz.func151 rfl Tryz.ntmps151 rfl fun a hf => ?_
 have hF : Away [] := away_nil
 have hO : Dk.Own w0 [] w0 [] := Dk.Own.refl w0
 refine wp_seq_k fun _ hK1 => ?_
 refine wp_region_list ?_
 refine op_as hf rfl rfl fun a hf => ?_
 refine wpList_nil ?_
 refine nor_then (hK1 _ _ ?_)
 refine wp_seq_k fun _ hK14 => ?_
 refine wp_seq_k fun _ hK2 => ?_
 refine wp_region_list ?_
 refine op_as hf rfl rfl fun a hf => ?_
 refine wpList_nil ?_
 refine nor_then (hK2 _ _ ?_)
 refine wp_block ?_
 refine wp_loop_n (fun k a w => ∃ (i3 : Int), Fits 18 [(0, str x_s), (3, int i3)] a ∧ Dk.Own w0 [] w [] ∧ ref01_Token_L1 x_s k i3 = some R) ?_ fuel ?_
 rintro n1 a w ⟨i3, hf, hO, hm⟩
 obtain _ | n1 := n1
 rw [ref01_Token_L1] at hm
 cases hm
 rw [ref01_Token_L1] at hm
 refine wp_seq_k fun _ hK6 => ?_
 refine wp_seq_k fun _ hK4 => ?_
 refine wp_region_list ?_
 refine op_mv hf rfl rfl fun a hf => ?_
 refine op_mv hf rfl rfl fun a hf => ?_
 refine op_val (ex_len_s (l := x_s) Tryz.underlying9 hf rfl) rfl hf rfl rfl fun a hf => ?_
 refine op_val (ex_lss (m := i3) (n := (x_s.length : Int)) hf rfl rfl) rfl hf rfl rfl fun a hf => ?_
 refine wpList_nil ?_
 refine nor_then (hK4 _ _ ?_)
 refine wp_cond_cut hf rfl (fun hc5 => ?_) (fun hc5 => ?_)
 have hm := it hc5 hm
 refine wp_skip ?_
 refine nor_then (hK6 _ _ ?_)
 refine wp_seq_k fun _ hK12 => ?_
 refine wp_block ?_
 refine wp_seq_k fun _ hK9 => ?_
 refine wp_region_list ?_
 refine op_mv hf rfl rfl fun a hf => ?_
 refine op_mv hf rfl rfl fun a hf => ?_
 obtain ⟨b7, hb7, hm⟩ := ob hm
 refine op_val (ex_index (l := x_s) Tryz.underlying9 hf rfl rfl hb7) rfl hf rfl rfl fun a hf => ?_
 obtain ⟨r8, hr8, hm⟩ := ob hm
 refine op_enter (ex_call c_169 hf (vs := [byte b7]) rfl) rfl hf rfl rfl (w_ref01_Tok b7 r8 _ (hG.own hF hO) hr8) ?_
 rintro e w' ⟨he, hb⟩
 refine ⟨_, he, fun a hf => ?_⟩
 have hO := hO.grow hb
 refine op_val (ex_not hf rfl) rfl hf rfl rfl fun a hf => ?_
 refine wpList_nil ?_
 refine nor_then (hK9 _ _ ?_)
 refine wp_cond_cut hf rfl (fun hc10 => ?_) (fun hc10 => ?_)
 have hm := it hc10 hm
 refine wp_seq_k fun _ hK11 => ?_
 refine wp_region_list ?_
 refine op_as hf rfl rfl fun a hf => ?_
 refine wpList_nil ?_
 refine nor_then (hK11 _ _ ?_)
 refine wp_ret ?_
 refine ret_block ?_
 refine ret_then ?_
 refine ret_then ?_
 refine ret_block ?_
 refine ret_then ?_
 obtain rfl := Option.some.inj hm
 exact post_ret Tryz.results151 hf (.tmp rfl .nil) ⟨rfl, hO.below⟩
 have hm := ie hc10 hm
 refine wp_skip ?_
 refine nor_block ?_
 refine nor_then (hK12 _ _ ?_)
 refine wp_region_list ?_
 refine op_mv hf rfl rfl fun a hf => ?_
 obtain ⟨i13, hi13, hm⟩ := ob hm
 refine op_val (ex_add hf rfl rfl hi13) rfl hf rfl rfl fun a hf => ?_
 refine op_as hf rfl rfl fun a hf => ?_
 refine wpList_nil ?_
 refine nor_then ?_
 exact ⟨_, Nat.lt_succ_self _, i13, (hf.cons rfl (hf.cons rfl hf.nil)), hO, hm⟩
 have hm := ie hc5 hm
 refine wp_exit ?_
 refine exit_then ?_
 refine exit_then ?_
 refine exit_here ?_
 refine nor_then (hK14 _ _ ?_)
 refine wp_seq_k fun _ hK15 => ?_
 refine wp_region_list ?_
 refine op_mv hf rfl rfl fun a hf => ?_
 refine op_val (ex_len_s (l := x_s) Tryz.underlying9 hf rfl) rfl hf rfl rfl fun a hf => ?_
 refine op_val (ex_gtr (m := (x_s.length : Int)) (n := 0) hf rfl rfl) rfl hf rfl rfl fun a hf => ?_
 refine op_as hf rfl rfl fun a hf => ?_
 refine wpList_nil ?_
 refine nor_then (hK15 _ _ ?_)
 refine wp_ret ?_
 obtain rfl := Option.some.inj hm
 exact post_ret Tryz.results151 hf (.tmp rfl .nil) ⟨rfl, hO.below⟩
 exact ⟨0, (hf.cons rfl (hf.cons rfl hf.nil)), hO, hm⟩

set_option maxHeartbeats 1000000 in
theorem w_ref01_Value (x_b : UInt8) (R : Bool) (w0 : World) (hG : Glob w0) (hm : ref01_Value x_b = some R) :
    Calls Tryz.prog 152 #[byte x_b] w0 fun e w' => e = .returned (.bool R) ∧ Below w0.heap.size w0 w' := by
 rw [ref01_Value] at hm
 refine calls_enter (vs := [byte x_b]) Tryz.func152 rfl Tryz.ntmps152 rfl fun a hf => ?_
 have hF : Away [] := away_nil
 have hO : Dk.Own w0 [] w0 [] := Dk.Own.refl w0
 refine wp_seq_k fun _ hK1 => ?_
 refine wp_region_list ?_
 refine op_as hf rfl rfl fun a hf => ?_
 refine wpList_nil ?_
 refine nor_then (hK1 _ _ ?_)
 refine wp_seq_cut (fun a w => ∃ (t4 : Bool), Fits 13 [(2, .bool t4)] a ∧ Dk.Own w0 [] w [] ∧ ref01_Value_j1 t4 = some R) ?_ ?_
 refine wp_region_list ?_
 refine op_mv hf rfl rfl fun a hf => ?_
 refine op_val (ex_geq_b (b := x_b) (c := 32) hf rfl rfl) rfl hf rfl rfl fun a hf => ?_
 refine op_mv hf rfl rfl fun a hf => ?_
 rcases bcase (decide (32 ≤ x_b)) with hc2 | hc2
 have hm := it hc2 hm
 refine op_guard rfl hf rfl rfl (hc2) ?_
 refine op_mv hf rfl rfl fun a hf => ?_
 refine op_guard rfl hf rfl rfl (hc2) ?_
 refine op_val (ex_neq_b (b := x_b) (c := 127) hf rfl rfl) rfl hf rfl rfl fun a hf => ?_
 refine op_val (ex_pick_t hf rfl hc2 rfl) rfl hf rfl rfl fun a hf => ?_
 refine op_mv hf rfl rfl fun a hf => ?_
 rcases bcase (!(x_b == 127)) with hc3 | hc3
 have hm := it hc3 hm
 refine op_pass rfl hf rfl rfl (hc3) rfl rfl fun a hf => ?_
 refine op_pass rfl hf rfl rfl (hc3) rfl rfl fun a hf => ?_
 refine op_val (ex_pick_t hf rfl hc3 rfl) rfl hf rfl rfl fun a hf => ?_
 refine op_as hf rfl rfl fun a hf => ?_
 refine wpList_nil ?_
 refine nor_then ?_
 exact ⟨true, (hf.cons rfl hf.nil), hO, hm⟩
 have hm := ie hc3 hm
 refine op_guard rfl hf rfl rfl (hc3) ?_
 refine op_mv hf rfl rfl fun a hf => ?_
 refine op_guard rfl hf rfl rfl (hc3) ?_
 refine op_val (ex_eql_b (b := x_b) (c := 9) hf rfl rfl) rfl hf rfl rfl fun a hf => ?_
 refine op_val (ex_pick_f hf rfl hc3 rfl) rfl hf rfl rfl fun a hf => ?_
 refine op_as hf rfl rfl fun a hf => ?_
 refine wpList_nil ?_
 refine nor_then ?_
 exact ⟨x_b == 9, (hf.cons rfl hf.nil), hO, hm⟩
 have hm := ie hc2 hm
 refine op_pass rfl hf rfl rfl (hc2) rfl rfl fun a hf => ?_
 refine op_pass rfl hf rfl rfl (hc2) rfl rfl fun a hf => ?_
 refine op_val (ex_pick_f hf rfl hc2 rfl) rfl hf rfl rfl fun a hf => ?_
 refine op_mv hf rfl rfl fun a hf => ?_
 refine op_guard rfl hf rfl rfl (rfl) ?_
 refine op_mv hf rfl rfl fun a hf => ?_
 refine op_guard rfl hf rfl rfl (rfl) ?_
 refine op_val (ex_eql_b (b := x_b) (c := 9) hf rfl rfl) rfl hf rfl rfl fun a hf => ?_
 refine op_val (ex_pick_f hf rfl rfl rfl) rfl hf rfl rfl fun a hf => ?_
 refine op_as hf rfl rfl fun a hf => ?_
 refine wpList_nil ?_
 refine nor_then ?_
 exact ⟨x_b == 9, (hf.cons rfl hf.nil), hO, hm⟩
 rintro a w ⟨t4, hf, hO, hm⟩
 rw [ref01_Value_j1] at hm
 refine wp_ret ?_
 obtain rfl := Option.some.inj hm
 exact post_ret Tryz.results152 hf (.tmp rfl .nil) ⟨rfl, hO.below⟩

set_option maxHeartbeats 1000000 in
theorem w_ref28_part (x_s : Str) (R : api_Attr × Bool) (w0 : World) (hG : Glob w0) (hm : ref28_part x_s = some R) :
    Calls Tryz.prog 118 #[str x_s] w0 fun e w' => e = .returned (.tuple #[.agg #[str R.1.Name, str R.1.Value, .bool R.1.Has], .bool R.2]) ∧ Below w0.heap.size w0 w' := by
 rw [ref28_part] at hm
 refine calls_enter (vs := [str x_s]) Tryz.func118 rfl Tryz.ntmps118 rfl fun a hf => ?_
 have hF : Away [] := away_nil
 have hO : Dk.Own w0 [] w0 [] := Dk.Own.refl w0
 refine wp_seq_k fun _ hK2 => ?_
 refine wp_region_list ?_
 refine op_alloc al_64 hf rfl hO fun a b1 w hf hO => ?_
 refine op_as hf rfl rfl fun a hf => ?_
 refine wpList_nil ?_
 refine nor_then (hK2 _ _ ?_)
 refine wp_seq_k fun _ hK4 => ?_
 refine wp_region_list ?_
 refine op_mv hf rfl rfl fun a hf => ?_
 obtain ⟨r3, hr3, hm⟩ := ob hm
 refine op_enter (ex_call c_150 hf (vs := [str x_s]) rfl) rfl hf rfl rfl (w_ref06_Trim x_s r3 _ (hG.own hF hO) hr3) ?_
 rintro e w' ⟨he, hb⟩
 refine ⟨_, he, fun a hf => ?_⟩
 have hO := hO.grow hb
 refine op_as hf rfl rfl fun a hf => ?_
 refine wpList_nil ?_
 refine nor_then (hK4 _ _ ?_)
 refine wp_seq_k fun _ hK5 => ?_
 refine wp_region_list ?_
 refine op_as hf rfl rfl fun a hf => ?_
 refine wpList_nil ?_
 refine nor_then (hK5 _ _ ?_)
 refine wp_seq_k fun _ hK13 => ?_
 refine wp_block ?_
 refine wp_loop_n (fun k a w => ∃ (i6 : Int), Fits 58 [(0, str r3), (2, ptr b1 0), (4, int i6)] a ∧ Dk.Own w0 [] w [.blk b1 [str [], str [], .bool false] 64] ∧ ref28_part_L1 r3 k i6 = some R) ?_ fuel ?_
 rintro n1 a w ⟨i6, hf, hO, hm⟩
 obtain _ | n1 := n1
 rw [ref28_part_L1] at hm
 cases hm
 rw [ref28_part_L1] at hm
 refine wp_seq_k fun _ hK11 => ?_
 refine wp_seq_cut (fun a w => ∃ (t9 : Bool), Fits 58 [(0, str r3), (2, ptr b1 0), (4, int i6), (18, .bool t9)] a ∧ Dk.Own w0 [] w [.blk b1 [str [], str [], .bool false] 64] ∧ ref28_part_j2 (ref28_part_L1 r3 n1) r3 i6 t9 = some R) ?_ ?_
 refine wp_region_list ?_
 refine op_mv hf rfl rfl fun a hf => ?_
 refine op_mv hf rfl rfl fun a hf => ?_
 refine op_val (ex_len_s (l := r3) Tryz.underlying9 hf rfl) rfl hf rfl rfl fun a hf => ?_
 refine op_val (ex_lss (m := i6) (n := (r3.length : Int)) hf rfl rfl) rfl hf rfl rfl fun a hf => ?_
 refine op_mv hf rfl rfl fun a hf => ?_
 rcases bcase (decide (i6 < (r3.length : Int))) with hc7 | hc7
 have hm := it hc7 hm
 refine op_guard rfl hf rfl rfl (hc7) ?_
 refine op_mv hf rfl rfl fun a hf => ?_
 refine op_guard rfl hf rfl rfl (hc7) ?_
 refine op_mv hf rfl rfl fun a hf => ?_
 refine op_guard rfl hf rfl rfl (hc7) ?_
 obtain ⟨b8, hb8, hm⟩ := ob hm
 refine op_val (ex_index (l := r3) Tryz.underlying9 hf rfl rfl hb8) rfl hf rfl rfl fun a hf => ?_
 refine op_guard rfl hf rfl rfl (hc7) ?_
 refine op_val (ex_neq_b (b := b8) (c := 61) hf rfl rfl) rfl hf rfl rfl fun a hf => ?_
 refine op_val (ex_pick_t hf rfl hc7 rfl) rfl hf rfl rfl fun a hf => ?_
 refine wpList_nil ?_
 refine nor_then ?_
 exact ⟨!(b8 == 61), (hf.cons rfl (hf.cons rfl (hf.cons rfl (hf.cons rfl hf.nil)))), hO, hm⟩
 have hm := ie hc7 hm
 refine op_pass rfl hf rfl rfl (hc7) rfl rfl fun a hf => ?_
 refine op_pass rfl hf rfl rfl (hc7) rfl rfl fun a hf => ?_
 refine op_pass rfl hf rfl rfl (hc7) rfl rfl fun a hf => ?_
 refine op_pass rfl hf rfl rfl (hc7) rfl rfl fun a hf => ?_
 refine op_val (ex_pick_f hf rfl hc7 rfl) rfl hf rfl rfl fun a hf => ?_
 refine wpList_nil ?_
 refine nor_then ?_
 exact ⟨false, (hf.cons rfl (hf.cons rfl (hf.cons rfl (hf.cons rfl hf.nil)))), hO, hm⟩
 rintro a w ⟨t9, hf, hO, hm⟩
 rw [ref28_part_j2] at hm
 refine wp_cond_cut hf rfl (fun hc10 => ?_) (fun hc10 => ?_)
 have hm := it hc10 hm
 refine wp_skip ?_
 refine nor_then (hK11 _ _ ?_)
 refine wp_block ?_
 refine wp_region_list ?_
 refine op_mv hf rfl rfl fun a hf => ?_
 obtain ⟨i12, hi12, hm⟩ := ob hm
 refine op_val (ex_add hf rfl rfl hi12) rfl hf rfl rfl fun a hf => ?_
 refine op_as hf rfl rfl fun a hf => ?_
 refine wpList_nil ?_
 refine nor_block ?_
 refine nor_then ?_
 exact ⟨_, Nat.lt_succ_self _, i12, (hf.cons rfl (hf.cons rfl (hf.cons rfl hf.nil))), hO, hm⟩
 have hm := ie hc10 hm
 refine wp_exit ?_
 refine exit_then ?_
 refine exit_then ?_
 refine exit_here ?_
 refine nor_then (hK13 _ _ ?_)
 refine wp_seq_k fun _ hK19 => ?_
 refine wp_seq_k fun _ hK16 => ?_
 refine wp_region_list ?_
 refine op_mv hf rfl rfl fun a hf => ?_
 refine op_mv hf rfl rfl fun a hf => ?_
 obtain ⟨s14, hs14, hm⟩ := ob hm
 refine op_val (ex_to_s (l := r3) Tryz.underlying9 hf rfl rfl hs14) rfl hf rfl rfl fun a hf => ?_
 obtain ⟨r15, hr15, hm⟩ := ob hm
 refine op_enter (ex_call c_151 hf (vs := [str s14]) rfl) rfl hf rfl rfl (w_ref01_Token s14 r15 _ (hG.own hF hO) hr15) ?_
 rintro e w' ⟨he, hb⟩
 refine ⟨_, he, fun a hf => ?_⟩
 have hO := hO.grow hb
 refine op_val (ex_not hf rfl) rfl hf rfl rfl fun a hf => ?_
 refine wpList_nil ?_
 refine nor_then (hK16 _ _ ?_)
 refine wp_cond_cut hf rfl (fun hc17 => ?_) (fun hc17 => ?_)
 have hm := it hc17 hm
 refine wp_seq_k fun _ hK18 => ?_
 refine wp_region_list ?_
 refine op_val (ex_build (vs := []) (v := .agg #[str [], str [], .bool false]) hf rfl (by kernel_rfl)) rfl hf rfl rfl fun a hf => ?_
 refine op_storeN (i := 0) (n := 3) sz_64 rfl rfl rfl (by simp [Value.oneCell']) hf rfl rfl hO fun w hO => ?_
 refine op_as hf rfl rfl fun a hf => ?_
 refine wpList_nil ?_
 refine nor_then (hK18 _ _ ?_)
 refine wp_ret ?_
 refine ret_then ?_
 obtain rfl := Option.some.inj hm
 exact post_ret Tryz.results118 hf (.cell rfl (run_loadVarN (n := 3) (vs := [str [], str [], .bool false]) ag_64 sz_64 rfl ((hO.blkSees (i := 0) rfl).cells (o := 0) (n := 3) rfl)) (.tmp rfl .nil)) ⟨rfl, hO.below⟩
 have hm := ie hc17 hm
 refine wp_skip ?_
 refine nor_then (hK19 _ _ ?_)
 refine wp_seq_k fun _ hK23 => ?_
 refine wp_seq_k fun _ hK20 => ?_
 refine wp_region_list ?_
 refine op_mv hf rfl rfl fun a hf => ?_
 refine op_mv hf rfl rfl fun a hf => ?_
 refine op_val (ex_len_s (l := r3) Tryz.underlying9 hf rfl) rfl hf rfl rfl fun a hf => ?_
 refine op_val (ex_eql (m := i6) (n := (r3.length : Int)) hf rfl rfl) rfl hf rfl rfl fun a hf => ?_
 refine wpList_nil ?_
 refine nor_then (hK20 _ _ ?_)
 refine wp_cond_cut hf rfl (fun hc21 => ?_) (fun hc21 => ?_)
 have hm := it hc21 hm
 refine wp_seq_k fun _ hK22 => ?_
 refine wp_region_list ?_
 refine op_mv hf rfl rfl fun a hf => ?_
 refine op_val (ex_build (vs := [(0, str r3)]) (v := .agg #[str r3, str [], .bool false]) hf rfl (by kernel_rfl)) rfl hf rfl rfl fun a hf => ?_
 refine op_storeN (i := 0) (n := 3) sz_64 rfl rfl rfl (by simp [Value.oneCell']) hf rfl rfl hO fun w hO => ?_
 refine op_as hf rfl rfl fun a hf => ?_
 refine wpList_nil ?_
 refine nor_then (hK22 _ _ ?_)
 refine wp_ret ?_
 refine ret_then ?_
 obtain rfl := Option.some.inj hm
 exact post_ret Tryz.results118 hf (.cell rfl (run_loadVarN (n := 3) (vs := [str r3, str [], .bool false]) ag_64 sz_64 rfl ((hO.blkSees (i := 0) rfl).cells (o := 0) (n := 3) rfl)) (.tmp rfl .nil)) ⟨rfl, hO.below⟩
 have hm := ie hc21 hm
 refine wp_skip ?_
 refine nor_then (hK23 _ _ ?_)
 refine wp_seq_k fun _ hK26 => ?_
 refine wp_region_list ?_
 refine op_mv hf rfl rfl fun a hf => ?_
 refine op_mv hf rfl rfl fun a hf => ?_
 obtain ⟨i24, hi24, hm⟩ := ob hm
 refine op_val (ex_add hf rfl rfl hi24) rfl hf rfl rfl fun a hf => ?_
 obtain ⟨s25, hs25, hm⟩ := ob hm
 refine op_val (ex_from_s (l := r3) Tryz.underlying9 hf rfl rfl hs25) rfl hf rfl rfl fun a hf => ?_
 refine op_as hf rfl rfl fun a hf => ?_
 refine wpList_nil ?_
 refine nor_then (hK26 _ _ ?_)
 refine wp_seq_k fun _ hK39 => ?_
 refine wp_seq_k fun _ hK27 => ?_
 refine wp_region_list ?_
 refine op_as hf rfl rfl fun a hf => ?_
 refine wpList_nil ?_
 refine nor_then (hK27 _ _ ?_)
 refine wp_block ?_
 refine wp_loop_n (fun k a w => ∃ (i28 : Int), Fits 58 [(0, str r3), (2, ptr b1 0), (4, int i6), (5, str s25), (6, int i28)] a ∧ Dk.Own w0 [] w [.blk b1 [str [], str [], .bool false] 64] ∧ ref28_part_L3 r3 i6 s25 k i28 = some R) ?_ fuel ?_
 rintro n3 a w ⟨i28, hf, hO, hm⟩
 obtain _ | n3 := n3
 rw [ref28_part_L3] at hm
 cases hm
 rw [ref28_part_L3] at hm
 refine wp_seq_k fun _ hK31 => ?_
 refine wp_seq_k fun _ hK29 => ?_
 refine wp_region_list ?_
 refine op_mv hf rfl rfl fun a hf => ?_
 refine op_mv hf rfl rfl fun a hf => ?_
 refine op_val (ex_len_s (l := s25) Tryz.underlying9 hf rfl) rfl hf rfl rfl fun a hf => ?_
 refine op_val (ex_lss (m := i28) (n := (s25.length : Int)) hf rfl rfl) rfl hf rfl rfl fun a hf => ?_
 refine wpList_nil ?_
 refine nor_then (hK29 _ _ ?_)
 refine wp_cond_cut hf rfl (fun hc30 => ?_) (fun hc30 => ?_)
 have hm := it hc30 hm
 refine wp_skip ?_
 refine nor_then (hK31 _ _ ?_)
 refine wp_seq_k fun _ hK37 => ?_
 refine wp_block ?_
 refine wp_seq_k fun _ hK34 => ?_
 refine wp_region_list ?_
 refine op_mv hf rfl rfl fun a hf => ?_
 refine op_mv hf rfl rfl fun a hf => ?_
 obtain ⟨b32, hb32, hm⟩ := ob hm
 refine op_val (ex_index (l := s25) Tryz.underlying9 hf rfl rfl hb32) rfl hf rfl rfl fun a hf => ?_
 obtain ⟨r33, hr33, hm⟩ := ob hm
 refine op_enter (ex_call c_152 hf (vs := [byte b32]) rfl) rfl hf rfl rfl (w_ref01_Value b32 r33 _ (hG.own hF hO) hr33) ?_
 rintro e w' ⟨he, hb⟩
 refine ⟨_, he, fun a hf => ?_⟩
 have hO := hO.grow hb
 refine op_val (ex_not hf rfl) rfl hf rfl rfl fun a hf => ?_
 refine wpList_nil ?_
 refine nor_then (hK34 _ _ ?_)
 refine wp_cond_cut hf rfl (fun hc35 => ?_) (fun hc35 => ?_)
 have hm := it hc35 hm
 refine wp_seq_k fun _ hK36 => ?_
 refine wp_region_list ?_
 refine op_val (ex_build (vs := []) (v := .agg #[str [], str [], .bool false]) hf rfl (by kernel_rfl)) rfl hf rfl rfl fun a hf => ?_
 refine op_storeN (i := 0) (n := 3) sz_64 rfl rfl rfl (by simp [Value.oneCell']) hf rfl rfl hO fun w hO => ?_
 refine op_as hf rfl rfl fun a hf => ?_
 refine wpList_nil ?_
 refine nor_then (hK36 _ _ ?_)
 refine wp_ret ?_
 refine ret_block ?_
 refine ret_then ?_
 refine ret_then ?_
 refine ret_block ?_
 refine ret_then ?_
 obtain rfl := Option.some.inj hm
 exact post_ret Tryz.results118 hf (.cell rfl (run_loadVarN (n := 3) (vs := [str [], str [], .bool false]) ag_64 sz_64 rfl ((hO.blkSees (i := 0) rfl).cells (o := 0) (n := 3) rfl)) (.tmp rfl .nil)) ⟨rfl, hO.below⟩
 have hm := ie hc35 hm
 refine wp_skip ?_
 refine nor_block ?_
 refine nor_then (hK37 _ _ ?_)
 refine wp_region_list ?_
 refine op_mv hf rfl rfl fun a hf => ?_
 obtain ⟨i38, hi38, hm⟩ := ob hm
 refine op_val (ex_add hf rfl rfl hi38) rfl hf rfl rfl fun a hf => ?_
 refine op_as hf rfl rfl fun a hf => ?_
 refine wpList_nil ?_
 refine nor_then ?_
 exact ⟨_, Nat.lt_succ_self _, i38, (hf.cons rfl (hf.cons rfl (hf.cons rfl (hf.cons rfl (hf.cons rfl hf.nil))))), hO, hm⟩
 have hm := ie hc30 hm
 refine wp_exit ?_
 refine exit_then ?_
 refine exit_then ?_
 refine exit_here ?_
 refine nor_then (hK39 _ _ ?_)
 refine wp_seq_k fun _ hK42 => ?_
 obtain ⟨s40, hs40, hm⟩ := ob hm
 obtain ⟨r41, hr41, hm⟩ := ob hm
 refine wp_drawS' (S := Unit) (E0 := [(0, str r3), (2, ptr b1 0), (4, int i6), (5, str s25)]) (by kernel_rfl) (fun k σ w => match k with | 0 => Dk.Own w0 [] w [.blk b1 [str [], str [], .bool false] 64] | 1 => Dk.Own w0 [] w [.blk b1 [str [], str [], .bool false] 64] | _ => Dk.Own w0 [] w [.blk b1 [str s40, str s25, .bool true] 64]) (fun σ => [⟨[(0, str r3)], some (49, str r3)⟩, ⟨[(4, int i6)], some (50, int i6)⟩, ⟨[(49, str r3), (50, int i6)], some (51, str s40)⟩, ⟨[(5, str s25)], some (52, str s25)⟩, ⟨[(51, str s40), (52, str s25)], some (53, .agg #[str s40, str s25, .bool true])⟩, ⟨[(5, str s25)], some (54, str s25)⟩, ⟨[(54, str s25)], some (55, str r41)⟩, ⟨[(5, str s25)], some (56, str s25)⟩, ⟨[(55, str r41), (56, str s25)], some (57, .bool (r41 == s25))⟩, ⟨[(2, ptr b1 0), (53, .agg #[str s40, str s25, .bool true])], none⟩, ⟨[(57, .bool (r41 == s25))], some (3, .bool (r41 == s25))⟩]) () [6, 9] rfl (fun _ => rfl) (fun _ => rfl) (fun _ => rfl) rfl rfl (by decide) rfl hO.drew (hf.cons rfl (hf.cons rfl (hf.cons rfl (hf.cons rfl hf.nil)))) (fun σ => ⟨⟨rfl, trivial⟩, ⟨rfl, trivial⟩, ⟨rfl, rfl, trivial⟩, ⟨rfl, trivial⟩, ⟨rfl, rfl, trivial⟩, ⟨rfl, trivial⟩, ⟨rfl, trivial⟩, ⟨rfl, trivial⟩, ⟨rfl, rfl, trivial⟩, ⟨rfl, rfl, trivial⟩, ⟨rfl, trivial⟩, trivial⟩) ⟨sS_pure rfl (fun σ => rfl) (fun σ => rfl) (fun σ a w k _ _ _ _ hf => ex_move hf rfl), sS_pure rfl (fun σ => rfl) (fun σ => rfl) (fun σ a w k _ _ _ _ hf => ex_move hf rfl), sS_pure rfl (fun σ => rfl) (fun σ => rfl) (fun σ a w k _ _ _ _ hf => ex_to_s (l := r3) Tryz.underlying9 hf rfl rfl hs40), sS_pure rfl (fun σ => rfl) (fun σ => rfl) (fun σ a w k _ _ _ _ hf => ex_move hf rfl), sS_pure rfl (fun σ => rfl) (fun σ => rfl) (fun σ a w k _ _ _ _ hf => ex_build (vs := [(0, str s40), (1, str s25), (2, .bool true)]) (v := .agg #[str s40, str s25, .bool true]) hf rfl (by kernel_rfl)), sS_pure rfl (fun σ => rfl) (fun σ => rfl) (fun σ a w k _ _ _ _ hf => ex_move hf rfl), sS_call rfl (fun σ => rfl) (fun σ => rfl) rfl (fun σ a w (_ : _) hf => ex_call c_150 hf (vs := [str s25]) rfl) (fun σ w (hO : Dk.Own w0 [] w _) => (w_ref06_Trim s25 r41 _ (hG.own hF hO) hr41).mono fun e w' h => by obtain ⟨he, hb⟩ := h; exact ⟨(), he, hO.grow hb, .inr rfl, .inr rfl, .inr rfl, .inr rfl, .inr rfl, .inr rfl, .inr rfl, .inr rfl, .inr rfl, .inr rfl, .inr rfl, trivial⟩), sS_pure rfl (fun σ => rfl) (fun σ => rfl) (fun σ a w k _ _ _ _ hf => ex_move hf rfl), sS_pure rfl (fun σ => rfl) (fun σ => rfl) (fun σ a w k _ _ _ _ hf => ex_eql_s (l := r41) (m := s25) hf rfl rfl), sS_skip rfl (fun σ => rfl) (fun σ => rfl) rfl (fun σ w (hO : Dk.Own w0 [] w _) => by obtain ⟨w', hO', hr⟩ := ef_storeN (x := (.tmp 2)) (y := (.tmp 53)) (E := [(2, ptr b1 0), (53, .agg #[str s40, str s25, .bool true])]) (i := 0) (n := 3) (vs := [str s40, str s25, .bool true]) sz_64 rfl rfl rfl (by simp [Value.oneCell']) hO rfl rfl; exact ⟨(), w', hO', ⟨.inr rfl, .inr rfl, .inr rfl, .inr rfl, .inr rfl, .inr rfl, .inr rfl, .inr rfl, .inr rfl, .inr rfl, .inr rfl, trivial⟩, hr⟩), sS_pure rfl (fun σ => rfl) (fun σ => rfl) (fun σ a w k _ _ _ _ hf => ex_assign hf rfl), trivial⟩ ?_
 rintro _ a w hf hO
 have hO : Dk.Own w0 [] w _ := hO
 have hf : Fits 58 [(2, ptr b1 0), (3, .bool (r41 == s25))] a := (hf.cons rfl (hf.cons rfl hf.nil))
 refine nor_then (hK42 _ _ ?_)
 refine wp_ret ?_
 obtain rfl := Option.some.inj hm
 exact post_ret Tryz.results118 hf (.cell rfl (run_loadVarN (n := 3) (vs := [str s40, str s25, .bool true]) ag_64 sz_64 rfl ((hO.blkSees (i := 0) rfl).cells (o := 0) (n := 3) rfl)) (.tmp rfl .nil)) ⟨rfl, hO.below⟩
 exact ⟨0, (hf.cons rfl (hf.cons rfl (hf.cons rfl (hf.cons rfl (hf.cons rfl hf.nil))))), hO, hm⟩
 exact ⟨0, (hf.cons rfl (hf.cons rfl (hf.cons rfl hf.nil))), hO, hm⟩

set_option maxHeartbeats 1000000 in
theorem w_ref28_value (x_a0 : Str) (R : Bool) (w0 : World) (hG : Glob w0) (hm : ref28_value x_a0 = some R) :
    Calls Tryz.prog 119 #[str x_a0] w0 fun e w' => e = .returned (.bool R) ∧ Below w0.heap.size w0 w' := by
 rw [ref28_value] at hm
 refine calls_enter (vs := [str x_a0]) Tryz.func119 rfl Tryz.ntmps119 rfl fun a hf => ?_
 have hF : Away [] := away_nil
 have hO : Dk.Own w0 [] w0 [] := Dk.Own.refl w0
 refine wp_seq_k fun _ hK1 => ?_
 refine wp_region_list ?_
 refine op_as hf rfl rfl fun a hf => ?_
 refine wpList_nil ?_
 refine nor_then (hK1 _ _ ?_)
 refine wp_seq_k fun _ hK2 => ?_
 refine wp_region_list ?_
 refine op_mv hf rfl rfl fun a hf => ?_
 refine op_val (ex_len_s (l := x_a0) Tryz.underlying9 hf rfl) rfl hf rfl rfl fun a hf => ?_
 refine op_as hf rfl rfl fun a hf => ?_
 refine wpList_nil ?_
 refine nor_then (hK2 _ _ ?_)
 refine wp_seq_cut (fun a w => ∃ (s12 : Str), Fits 65 [(0, str s12)] a ∧ Dk.Own w0 [] w [] ∧ ref28_value_j2 s12 = some R) ?_ ?_
 refine wp_seq_cut (fun a w => ∃ (t8 : Bool), Fits 65 [(0, str x_a0), (3, int (x_a0.length : Int)), (20, .bool t8)] a ∧ Dk.Own w0 [] w [] ∧ ref28_value_j1 x_a0 t8 = some R) ?_ ?_
 refine wp_region_list ?_
 refine op_mv hf rfl rfl fun a hf => ?_
 refine op_val (ex_gtr (m := (x_a0.length : Int)) (n := 1) hf rfl rfl) rfl hf rfl rfl fun a hf => ?_
 refine op_mv hf rfl rfl fun a hf => ?_
 rcases bcase (decide (1 < (x_a0.length : Int))) with hc3 | hc3
 have hm := it hc3 hm
 refine op_guard rfl hf rfl rfl (hc3) ?_
 refine op_mv hf rfl rfl fun a hf => ?_
 refine op_guard rfl hf rfl rfl (hc3) ?_
 obtain ⟨b4, hb4, hm⟩ := ob hm
 refine op_val (ex_index (l := x_a0) Tryz.underlying9 hf rfl rfl hb4) rfl hf rfl rfl fun a hf => ?_
 refine op_guard rfl hf rfl rfl (hc3) ?_
 refine op_val (ex_eql_b (b := b4) (c := 34) hf rfl rfl) rfl hf rfl rfl fun a hf => ?_
 refine op_val (ex_pick_t hf rfl hc3 rfl) rfl hf rfl rfl fun a hf => ?_
 refine op_mv hf rfl rfl fun a hf => ?_
 rcases bcase (b4 == 34) with hc5 | hc5
 have hm := it hc5 hm
 refine op_guard rfl hf rfl rfl (hc5) ?_
 refine op_mv hf rfl rfl fun a hf => ?_
 refine op_guard rfl hf rfl rfl (hc5) ?_
 refine op_mv hf rfl rfl fun a hf => ?_
 refine op_guard rfl hf rfl rfl (hc5) ?_
 obtain ⟨i6, hi6, hm⟩ := ob hm
 refine op_val (ex_sub hf rfl rfl hi6) rfl hf rfl rfl fun a hf => ?_
 refine op_guard rfl hf rfl rfl (hc5) ?_
 obtain ⟨b7, hb7, hm⟩ := ob hm
 refine op_val (ex_index (l := x_a0) Tryz.underlying9 hf rfl rfl hb7) rfl hf rfl rfl fun a hf => ?_
 refine op_guard rfl hf rfl rfl (hc5) ?_
 refine op_val (ex_eql_b (b := b7) (c := 34) hf rfl rfl) rfl hf rfl rfl fun a hf => ?_
 refine op_val (ex_pick_t hf rfl hc5 rfl) rfl hf rfl rfl fun a hf => ?_
 refine wpList_nil ?_
 refine nor_then ?_
 exact ⟨b7 == 34, (hf.cons rfl (hf.cons rfl (hf.cons rfl hf.nil))), hO, hm⟩
 have hm := ie hc5 hm
 refine op_pass rfl hf rfl rfl (hc5) rfl rfl fun a hf => ?_
 refine op_pass rfl hf rfl rfl (hc5) rfl rfl fun a hf => ?_
 refine op_pass rfl hf rfl rfl (hc5) rfl rfl fun a hf => ?_
 refine op_pass rfl hf rfl rfl (hc5) rfl rfl fun a hf => ?_
 refine op_pass rfl hf rfl rfl (hc5) rfl rfl fun a hf => ?_
 refine op_val (ex_pick_f hf rfl hc5 rfl) rfl hf rfl rfl fun a hf => ?_
 refine wpList_nil ?_
 refine nor_then ?_
 exact ⟨false, (hf.cons rfl (hf.cons rfl (hf.cons rfl hf.nil))), hO, hm⟩
 have hm := ie hc3 hm
 refine op_pass rfl hf rfl rfl (hc3) rfl rfl fun a hf => ?_
 refine op_pass rfl hf rfl rfl (hc3) rfl rfl fun a hf => ?_
 refine op_pass rfl hf rfl rfl (hc3) rfl rfl fun a hf => ?_
 refine op_val (ex_pick_f hf rfl hc3 rfl) rfl hf rfl rfl fun a hf => ?_
 refine op_mv hf rfl rfl fun a hf => ?_
 refine op_pass rfl hf rfl rfl (rfl) rfl rfl fun a hf => ?_
 refine op_pass rfl hf rfl rfl (rfl) rfl rfl fun a hf => ?_
 refine op_pass rfl hf rfl rfl (rfl) rfl rfl fun a hf => ?_
 refine op_pass rfl hf rfl rfl (rfl) rfl rfl fun a hf => ?_
 refine op_pass rfl hf rfl rfl (rfl) rfl rfl fun a hf => ?_
 refine op_val (ex_pick_f hf rfl rfl rfl) rfl hf rfl rfl fun a hf => ?_
 refine wpList_nil ?_
 refine nor_then ?_
 exact ⟨false, (hf.cons rfl (hf.cons rfl (hf.cons rfl hf.nil))), hO, hm⟩
 rintro a w ⟨t8, hf, hO, hm⟩
 rw [ref28_value_j1] at hm
 refine wp_cond_cut hf rfl (fun hc9 => ?_) (fun hc9 => ?_)
 have hm := it hc9 hm
 refine wp_region_list ?_
 refine op_mv hf rfl rfl fun a hf => ?_
 refine op_mv hf rfl rfl fun a hf => ?_
 obtain ⟨i10, hi10, hm⟩ := ob hm
 refine op_val (ex_sub hf rfl rfl hi10) rfl hf rfl rfl fun a hf => ?_
 obtain ⟨s11, hs11, hm⟩ := ob hm
 refine op_val (ex_sub_s (l := x_a0) Tryz.underlying9 hf rfl rfl rfl hs11) rfl hf rfl rfl fun a hf => ?_
 refine op_as hf rfl rfl fun a hf => ?_
 refine wpList_nil ?_
 refine nor_then ?_
 exact ⟨s11, (hf.cons rfl hf.nil), hO, hm⟩
 have hm := ie hc9 hm
 refine wp_skip ?_
 refine nor_then ?_
 exact ⟨x_a0, (hf.cons rfl hf.nil), hO, hm⟩
 rintro a w ⟨s12, hf, hO, hm⟩
 rw [ref28_value_j2] at hm
 refine wp_seq_k fun _ hK34 => ?_
 refine wp_seq_k fun _ hK13 => ?_
 refine wp_region_list ?_
 refine op_as hf rfl rfl fun a hf => ?_
 refine wpList_nil ?_
 refine nor_then (hK13 _ _ ?_)
 refine wp_block ?_
 refine wp_loop_n (fun k a w => ∃ (i14 : Int), Fits 65 [(0, str s12), (4, int i14)] a ∧ Dk.Own w0 [] w [] ∧ ref28_value_L3 s12 k i14 = some R) ?_ fuel ?_
 rintro n3 a w ⟨i14, hf, hO, hm⟩
 obtain _ | n3 := n3
 rw [ref28_value_L3] at hm
 cases hm
 rw [ref28_value_L3] at hm
 refine wp_seq_k fun _ hK17 => ?_
 refine wp_seq_k fun _ hK15 => ?_
 refine wp_region_list ?_
 refine op_mv hf rfl rfl fun a hf => ?_
 refine op_mv hf rfl rfl fun a hf => ?_
 refine op_val (ex_len_s (l := s12) Tryz.underlying9 hf rfl) rfl hf rfl rfl fun a hf => ?_
 refine op_val (ex_lss (m := i14) (n := (s12.length : Int)) hf rfl rfl) rfl hf rfl rfl fun a hf => ?_
 refine wpList_nil ?_
 refine nor_then (hK15 _ _ ?_)
 refine wp_cond_cut hf rfl (fun hc16 => ?_) (fun hc16 => ?_)
 have hm := it hc16 hm
 refine wp_skip ?_
 refine nor_then (hK17 _ _ ?_)
 refine wp_seq_k fun _ hK32 => ?_
 refine wp_block ?_
 refine wp_seq_cut (fun a w => ∃ (t29 : Bool), Fits 65 [(0, str s12), (4, int i14), (64, .bool t29)] a ∧ Dk.Own w0 [] w [] ∧ ref28_value_j4 (ref28_value_L3 s12 n3) i14 t29 = some R) ?_ ?_
 refine wp_region_list ?_
 refine op_mv hf rfl rfl fun a hf => ?_
 refine op_mv hf rfl rfl fun a hf => ?_
 obtain ⟨b18, hb18, hm⟩ := ob hm
 refine op_val (ex_index (l := s12) Tryz.underlying9 hf rfl rfl hb18) rfl hf rfl rfl fun a hf => ?_
 refine op_val (ex_lss_b (b := b18) (c := 33) hf rfl rfl) rfl hf rfl rfl fun a hf => ?_
 refine op_mv hf rfl rfl fun a hf => ?_
 rcases bcase (decide (b18 < 33)) with hc19 | hc19
 have hm := it hc19 hm
 refine op_pass rfl hf rfl rfl (hc19) rfl rfl fun a hf => ?_
 refine op_pass rfl hf rfl rfl (hc19) rfl rfl fun a hf => ?_
 refine op_pass rfl hf rfl rfl (hc19) rfl rfl fun a hf => ?_
 refine op_pass rfl hf rfl rfl (hc19) rfl rfl fun a hf => ?_
 refine op_val (ex_pick_t hf rfl hc19 rfl) rfl hf rfl rfl fun a hf => ?_
 refine op_mv hf rfl rfl fun a hf => ?_
 refine op_pass rfl hf rfl rfl (rfl) rfl rfl fun a hf => ?_
 refine op_pass rfl hf rfl rfl (rfl) rfl rfl fun a hf => ?_
 refine op_pass rfl hf rfl rfl (rfl) rfl rfl fun a hf => ?_
 refine op_pass rfl hf rfl rfl (rfl) rfl rfl fun a hf => ?_
 refine op_val (ex_pick_t hf rfl rfl rfl) rfl hf rfl rfl fun a hf => ?_
 refine op_mv hf rfl rfl fun a hf => ?_
 refine op_pass rfl hf rfl rfl (rfl) rfl rfl fun a hf => ?_
 refine op_pass rfl hf rfl rfl (rfl) rfl rfl fun a hf => ?_
 refine op_pass rfl hf rfl rfl (rfl) rfl rfl fun a hf => ?_
 refine op_pass rfl hf rfl rfl (rfl) rfl rfl fun a hf => ?_
 refine op_val (ex_pick_t hf rfl rfl rfl) rfl hf rfl rfl fun a hf => ?_
 refine op_mv hf rfl rfl fun a hf => ?_
 refine op_pass rfl hf rfl rfl (rfl) rfl rfl fun a hf => ?_
 refine op_pass rfl hf rfl rfl (rfl) rfl rfl fun a hf => ?_
 refine op_pass rfl hf rfl rfl (rfl) rfl rfl fun a hf => ?_
 refine op_pass rfl hf rfl rfl (rfl) rfl rfl fun a hf => ?_
 refine op_val (ex_pick_t hf rfl rfl rfl) rfl hf rfl rfl fun a hf => ?_
 refine op_mv hf rfl rfl fun a hf => ?_
 refine op_pass rfl hf rfl rfl (rfl) rfl rfl fun a hf => ?_
 refine op_pass rfl hf rfl rfl (rfl) rfl rfl fun a hf => ?_
 refine op_pass rfl hf rfl rfl (rfl) rfl rfl fun a hf => ?_
 refine op_pass rfl hf rfl rfl (rfl) rfl rfl fun a hf => ?_
 refine op_val (ex_pick_t hf rfl rfl rfl) rfl hf rfl rfl fun a hf => ?_
 refine wpList_nil ?_
 refine nor_then ?_
 exact ⟨true, (hf.cons rfl (hf.cons rfl (hf.cons rfl hf.nil))), hO, hm⟩
 have hm := ie hc19 hm
 refine op_guard rfl hf rfl rfl (hc19) ?_
 refine op_mv hf rfl rfl fun a hf => ?_
 refine op_guard rfl hf rfl rfl (hc19) ?_
 refine op_mv hf rfl rfl fun a hf => ?_
 refine op_guard rfl hf rfl rfl (hc19) ?_
 obtain ⟨b20, hb20, hm⟩ := ob hm
 refine op_val (ex_index (l := s12) Tryz.underlying9 hf rfl rfl hb20) rfl hf rfl rfl fun a hf => ?_
 refine op_guard rfl hf rfl rfl (hc19) ?_
 refine op_val (ex_gtr_b (b := b20) (c := 126) hf rfl rfl) rfl hf rfl rfl fun a hf => ?_
 refine op_val (ex_pick_f hf rfl hc19 rfl) rfl hf rfl rfl fun a hf => ?_
 refine op_mv hf rfl rfl fun a hf => ?_
 rcases bcase (decide (126 < b20)) with hc21 | hc21
 have hm := it hc21 hm
 refine op_pass rfl hf rfl rfl (hc21) rfl rfl fun a hf => ?_
 refine op_pass rfl hf rfl rfl (hc21) rfl rfl fun a hf => ?_
 refine op_pass rfl hf rfl rfl (hc21) rfl rfl fun a hf => ?_
 refine op_pass rfl hf rfl rfl (hc21) rfl rfl fun a hf => ?_
 refine op_val (ex_pick_t hf rfl hc21 rfl) rfl hf rfl rfl fun a hf => ?_
 refine op_mv hf rfl rfl fun a hf => ?_
 refine op_pass rfl hf rfl rfl (rfl) rfl rfl fun a hf => ?_
 refine op_pass rfl hf rfl rfl (rfl) rfl rfl fun a hf => ?_
 refine op_pass rfl hf rfl rfl (rfl) rfl rfl fun a hf => ?_
 refine op_pass rfl hf rfl rfl (rfl) rfl rfl fun a hf => ?_
 refine op_val (ex_pick_t hf rfl rfl rfl) rfl hf rfl rfl fun a hf => ?_
 refine op_mv hf rfl rfl fun a hf => ?_
 refine op_pass rfl hf rfl rfl (rfl) rfl rfl fun a hf => ?_
 refine op_pass rfl hf rfl rfl (rfl) rfl rfl fun a hf => ?_
 refine op_pass rfl hf rfl rfl (rfl) rfl rfl fun a hf => ?_
 refine op_pass rfl hf rfl rfl (rfl) rfl rfl fun a hf => ?_
 refine op_val (ex_pick_t hf rfl rfl rfl) rfl hf rfl rfl fun a hf => ?_
 refine op_mv hf rfl rfl fun a hf => ?_
 refine op_pass rfl hf rfl rfl (rfl) rfl rfl fun a hf => ?_
 refine op_pass rfl hf rfl rfl (rfl) rfl rfl fun a hf => ?_
 refine op_pass rfl hf rfl rfl (rfl) rfl rfl fun a hf => ?_
 refine op_pass rfl hf rfl rfl (rfl) rfl rfl fun a hf => ?_
 refine op_val (ex_pick_t hf rfl rfl rfl) rfl hf rfl rfl fun a hf => ?_
 refine wpList_nil ?_
 refine nor_then ?_
 exact ⟨true, (hf.cons rfl (hf.cons rfl (hf.cons rfl hf.nil))), hO, hm⟩
 have hm := ie hc21 hm
 refine op_guard rfl hf rfl rfl (hc21) ?_
 refine op_mv hf rfl rfl fun a hf => ?_
 refine op_guard rfl hf rfl rfl (hc21) ?_
 refine op_mv hf rfl rfl fun a hf => ?_
 refine op_guard rfl hf rfl rfl (hc21) ?_
 obtain ⟨b22, hb22, hm⟩ := ob hm
 refine op_val (ex_index (l := s12) Tryz.underlying9 hf rfl rfl hb22) rfl hf rfl rfl fun a hf => ?_
 refine op_guard rfl hf rfl rfl (hc21) ?_
 refine op_val (ex_eql_b (b := b22) (c := 34) hf rfl rfl) rfl hf rfl rfl fun a hf => ?_
 refine op_val (ex_pick_f hf rfl hc21 rfl) rfl hf rfl rfl fun a hf => ?_
 refine op_mv hf rfl rfl fun a hf => ?_
 rcases bcase (b22 == 34) with hc23 | hc23
 have hm := it hc23 hm
 refine op_pass rfl hf rfl rfl (hc23) rfl rfl fun a hf => ?_
 refine op_pass rfl hf rfl rfl (hc23) rfl rfl fun a hf => ?_
 refine op_pass rfl hf rfl rfl (hc23) rfl rfl fun a hf => ?_
 refine op_pass rfl hf rfl rfl (hc23) rfl rfl fun a hf => ?_
 refine op_val (ex_pick_t hf rfl hc23 rfl) rfl hf rfl rfl fun a hf => ?_
 refine op_mv hf rfl rfl fun a hf => ?_
 refine op_pass rfl hf rfl rfl (rfl) rfl rfl fun a hf => ?_
 refine op_pass rfl hf rfl rfl (rfl) rfl rfl fun a hf => ?_
 refine op_pass rfl hf rfl rfl (rfl) rfl rfl fun a hf => ?_
 refine op_pass rfl hf rfl rfl (rfl) rfl rfl fun a hf => ?_
 refine op_val (ex_pick_t hf rfl rfl rfl) rfl hf rfl rfl fun a hf => ?_
 refine op_mv hf rfl rfl fun a hf => ?_
 refine op_pass rfl hf rfl rfl (rfl) rfl rfl fun a hf => ?_
 refine op_pass rfl hf rfl rfl (rfl) rfl rfl fun a hf => ?_
 refine op_pass rfl hf rfl rfl (rfl) rfl rfl fun a hf => ?_
 refine op_pass rfl hf rfl rfl (rfl) rfl rfl fun a hf => ?_
 refine op_val (ex_pick_t hf rfl rfl rfl) rfl hf rfl rfl fun a hf => ?_
 refine wpList_nil ?_
 refine nor_then ?_
 exact ⟨true, (hf.cons rfl (hf.cons rfl (hf.cons rfl hf.nil))), hO, hm⟩
 have hm := ie hc23 hm
 refine op_guard rfl hf rfl rfl (hc23) ?_
 refine op_mv hf rfl rfl fun a hf => ?_
 refine op_guard rfl hf rfl rfl (hc23) ?_
 refine op_mv hf rfl rfl fun a hf => ?_
 refine op_guard rfl hf rfl rfl (hc23) ?_
 obtain ⟨b24, hb24, hm⟩ := ob hm
 refine op_val (ex_index (l := s12) Tryz.underlying9 hf rfl rfl hb24) rfl hf rfl rfl fun a hf => ?_
 refine op_guard rfl hf rfl rfl (hc23) ?_
 refine op_val (ex_eql_b (b := b24) (c := 44) hf rfl rfl) rfl hf rfl rfl fun a hf => ?_
 refine op_val (ex_pick_f hf rfl hc23 rfl) rfl hf rfl rfl fun a hf => ?_
 refine op_mv hf rfl rfl fun a hf => ?_
 rcases bcase (b24 == 44) with hc25 | hc25
 have hm := it hc25 hm
 refine op_pass rfl hf rfl rfl (hc25) rfl rfl fun a hf => ?_
 refine op_pass rfl hf rfl rfl (hc25) rfl rfl fun a hf => ?_
 refine op_pass rfl hf rfl rfl (hc25) rfl rfl fun a hf => ?_
 refine op_pass rfl hf rfl rfl (hc25) rfl rfl fun a hf => ?_
 refine op_val (ex_pick_t hf rfl hc25 rfl) rfl hf rfl rfl fun a hf => ?_
 refine op_mv hf rfl rfl fun a hf => ?_
 refine op_pass rfl hf rfl rfl (rfl) rfl rfl fun a hf => ?_
 refine op_pass rfl hf rfl rfl (rfl) rfl rfl fun a hf => ?_
 refine op_pass rfl hf rfl rfl (rfl) rfl rfl fun a hf => ?_
 refine op_pass rfl hf rfl rfl (rfl) rfl rfl fun a hf => ?_
 refine op_val (ex_pick_t hf rfl rfl rfl) rfl hf rfl rfl fun a hf => ?_
 refine wpList_nil ?_
 refine nor_then ?_
 exact ⟨true, (hf.cons rfl (hf.cons rfl (hf.cons rfl hf.nil))), hO, hm⟩
 have hm := ie hc25 hm
 refine op_guard rfl hf rfl rfl (hc25) ?_
 refine op_mv hf rfl rfl fun a hf => ?_
 refine op_guard rfl hf rfl rfl (hc25) ?_
 refine op_mv hf rfl rfl fun a hf => ?_
 refine op_guard rfl hf rfl rfl (hc25) ?_
 obtain ⟨b26, hb26, hm⟩ := ob hm
 refine op_val (ex_index (l := s12) Tryz.underlying9 hf rfl rfl hb26) rfl hf rfl rfl fun a hf => ?_
 refine op_guard rfl hf rfl rfl (hc25) ?_
 refine op_val (ex_eql_b (b := b26) (c := 59) hf rfl rfl) rfl hf rfl rfl fun a hf => ?_
 refine op_val (ex_pick_f hf rfl hc25 rfl) rfl hf rfl rfl fun a hf => ?_
 refine op_mv hf rfl rfl fun a hf => ?_
 rcases bcase (b26 == 59) with hc27 | hc27
 have hm := it hc27 hm
 refine op_pass rfl hf rfl rfl (hc27) rfl rfl fun a hf => ?_
 refine op_pass rfl hf rfl rfl (hc27) rfl rfl fun a hf => ?_
 refine op_pass rfl hf rfl rfl (hc27) rfl rfl fun a hf => ?_
 refine op_pass rfl hf rfl rfl (hc27) rfl rfl fun a hf => ?_
 refine op_val (ex_pick_t hf rfl hc27 rfl) rfl hf rfl rfl fun a hf => ?_
 refine wpList_nil ?_
 refine nor_then ?_
 exact ⟨true, (hf.cons rfl (hf.cons rfl (hf.cons rfl hf.nil))), hO, hm⟩
 have hm := ie hc27 hm
 refine op_guard rfl hf rfl rfl (hc27) ?_
 refine op_mv hf rfl rfl fun a hf => ?_
 refine op_guard rfl hf rfl rfl (hc27) ?_
 refine op_mv hf rfl rfl fun a hf => ?_
 refine op_guard rfl hf rfl rfl (hc27) ?_
 obtain ⟨b28, hb28, hm⟩ := ob hm
 refine op_val (ex_index (l := s12) Tryz.underlying9 hf rfl rfl hb28) rfl hf rfl rfl fun a hf => ?_
 refine op_guard rfl hf rfl rfl (hc27) ?_
 refine op_val (ex_eql_b (b := b28) (c := 92) hf rfl rfl) rfl hf rfl rfl fun a hf => ?_
 refine op_val (ex_pick_f hf rfl hc27 rfl) rfl hf rfl rfl fun a hf => ?_
 refine wpList_nil ?_
 refine nor_then ?_
 exact ⟨b28 == 92, (hf.cons rfl (hf.cons rfl (hf.cons rfl hf.nil))), hO, hm⟩
 rintro a w ⟨t29, hf, hO, hm⟩
 rw [ref28_value_j4] at hm
 refine wp_cond_cut hf rfl (fun hc30 => ?_) (fun hc30 => ?_)
 have hm := it hc30 hm
 refine wp_seq_k fun _ hK31 => ?_
 refine wp_region_list ?_
 refine op_as hf rfl rfl fun a hf => ?_
 refine wpList_nil ?_
 refine nor_then (hK31 _ _ ?_)
 refine wp_ret ?_
 refine ret_block ?_
 refine ret_then ?_
 refine ret_then ?_
 refine ret_block ?_
 refine ret_then ?_
 obtain rfl := Option.some.inj hm
 exact post_ret Tryz.results119 hf (.tmp rfl .nil) ⟨rfl, hO.below⟩
 have hm := ie hc30 hm
 refine wp_skip ?_
 refine nor_block ?_
 refine nor_then (hK32 _ _ ?_)
 refine wp_region_list ?_
 refine op_mv hf rfl rfl fun a hf => ?_
 obtain ⟨i33, hi33, hm⟩ := ob hm
 refine op_val (ex_add hf rfl rfl hi33) rfl hf rfl rfl fun a hf => ?_
 refine op_as hf rfl rfl fun a hf => ?_
 refine wpList_nil ?_
 refine nor_then ?_
 exact ⟨_, Nat.lt_succ_self _, i33, (hf.cons rfl (hf.cons rfl hf.nil)), hO, hm⟩
 have hm := ie hc16 hm
 refine wp_exit ?_
 refine exit_then ?_
 refine exit_then ?_
 refine exit_here ?_
 refine nor_then (hK34 _ _ ?_)
 refine wp_seq_k fun _ hK35 => ?_
 refine wp_region_list ?_
 refine op_as hf rfl rfl fun a hf => ?_
 refine wpList_nil ?_
 refine nor_then (hK35 _ _ ?_)
 refine wp_ret ?_
 obtain rfl := Option.some.inj hm
 exact post_ret Tryz.results119 hf (.tmp rfl .nil) ⟨rfl, hO.below⟩
 exact ⟨0, (hf.cons rfl (hf.cons rfl hf.nil)), hO, hm⟩

set_option maxHeartbeats 1000000 in
theorem w_ref28_Parse (x_s : Str) (R : api_Cookie × Int) (w0 : World) (hG : Glob w0) (hm : ref28_Parse x_s = some R) :
    Calls Tryz.prog 76 #[str x_s] w0 fun e w' => ∃ (p0 : Option Addr) (c0 : Nat), e = .returned (.tuple #[.agg #[str R.1.Name, str R.1.Value, .slice p0 R.1.Attrs.length c0], int R.2]) ∧ Dk.Own w0 [] w' [.row (.slice p0 R.1.Attrs.length c0) 64 3 R.1.Attrs.length (cells enc_api_Attr R.1.Attrs)] := by
 rw [ref28_Parse] at hm
 refine calls_enter (vs := [str x_s]) Tryz.func76 rfl Tryz.ntmps76 rfl fun a hf => ?_
 have hF : Away [] := away_nil
 have hO : Dk.Own w0 [] w0 [] := Dk.Own.refl w0
 refine wp_seq_k fun _ hK2 => ?_
 refine wp_region_list ?_
 refine op_alloc al_31 hf rfl hO fun a b1 w hf hO => ?_
 have hO := hO.nilRow 64 3
 refine op_as hf rfl rfl fun a hf => ?_
 refine wpList_nil ?_
 refine nor_then (hK2 _ _ ?_)
 refine wp_seq_k fun _ hK6 => ?_
 refine wp_region_list ?_
 refine op_mv hf rfl rfl fun a hf => ?_
 obtain ⟨r3, hr3, hm⟩ := ob hm
 refine op_enter (ex_call c_50 hf (vs := [str x_s, byte 59]) rfl) rfl hf rfl rfl (w_ref08_Parts x_s 59 r3 _ (hG.own hF hO) hr3) ?_
 rintro e w' ⟨p4, c5, he, hO'⟩
 refine ⟨_, he, fun a hf => ?_⟩
 have hO := hO.call hO' (by simp [Res.shared])
 refine op_as hf rfl rfl fun a hf => ?_
 refine wpList_nil ?_
 refine nor_then (hK6 _ _ ?_)
 refine wp_seq_k fun _ hK8 => ?_
 refine wp_region_list ?_
 refine op_val (ex_build (vs := []) (v := .agg #[str [], str [], .slice none 0 0]) hf rfl (by kernel_rfl)) rfl hf rfl rfl fun a hf => ?_
 refine op_alloc al_31 hf rfl hO fun a b7 w hf hO => ?_
 have hO := hO.nilRow 64 3
 refine op_storeN (i := 1) (n := 3) sz_31 rfl rfl rfl (by simp [Value.oneCell']) hf rfl rfl hO fun w hO => ?_
 have hO := hO.nilRow 64 3
 refine wpList_nil ?_
 refine nor_then (hK8 _ _ ?_)
 refine wp_seq_cut (fun a w => ∃ (s46 : Str) (s47 : Str) (p48 : Option Addr) (c49 : Nat) (l50 : List api_Attr), Fits 59 [(2, ptr b1 0), (5, ptr b7 0)] a ∧ Dk.Own w0 [] w [.row (.slice p48 l50.length c49) 64 3 l50.length (cells enc_api_Attr l50), .row (.slice none 0 0) 64 3 0 (cells enc_api_Attr []), .blk b7 [str s46, str s47, .slice p48 l50.length c49] 31, .row (.slice p4 r3.length c5) 9 1 r3.length (cells enc_str r3), .row (.slice none 0 0) 64 3 0 (cells enc_api_Attr []), .blk b1 [str [], str [], .slice none 0 0] 31] ∧ ref28_Parse_j4 s46 s47 l50 = some R) ?_ ?_
 refine wp_seq_k fun _ hK9 => ?_
 refine wp_region_list ?_
 refine op_as hf rfl rfl fun a hf => ?_
 refine wpList_nil ?_
 refine nor_then (hK9 _ _ ?_)
 refine wp_block ?_
 refine wp_loop_n (fun k a w => ∃ (p10 : Option Addr) (c11 : Nat) (l12 : List api_Attr) (s13 : Str) (s14 : Str) (i15 : Int), Fits 59 [(2, ptr b1 0), (4, .slice p4 r3.length c5), (5, ptr b7 0), (6, int i15)] a ∧ Dk.Own w0 [] w [.row (.slice p10 l12.length c11) 64 3 l12.length (cells enc_api_Attr l12), .row (.slice none 0 0) 64 3 0 (cells enc_api_Attr []), .blk b7 [str s13, str s14, .slice p10 l12.length c11] 31, .row (.slice p4 r3.length c5) 9 1 r3.length (cells enc_str r3), .row (.slice none 0 0) 64 3 0 (cells enc_api_Attr []), .blk b1 [str [], str [], .slice none 0 0] 31] ∧ ref28_Parse_L1 r3 k l12 s13 s14 i15 = some R) ?_ fuel ?_
 rintro n1 a w ⟨p10, c11, l12, s13, s14, i15, hf, hO, hm⟩
 obtain _ | n1 := n1
 rw [ref28_Parse_L1] at hm
 cases hm
 rw [ref28_Parse_L1] at hm
 refine wp_seq_k fun _ hK18 => ?_
 refine wp_seq_k fun _ hK16 => ?_
 refine wp_region_list ?_
 refine op_mv hf rfl rfl fun a hf => ?_
 refine op_mv hf rfl rfl fun a hf => ?_
 refine op_val (ex_len_l Tryz.underlying61 hf rfl) rfl hf rfl rfl fun a hf => ?_
 refine op_val (ex_lss (m := i15) (n := (r3.length : Int)) hf rfl rfl) rfl hf rfl rfl fun a hf => ?_
 refine wpList_nil ?_
 refine nor_then (hK16 _ _ ?_)
 refine wp_cond_cut hf rfl (fun hc17 => ?_) (fun hc17 => ?_)
 have hm := it hc17 hm
 refine wp_skip ?_
 refine nor_then (hK18 _ _ ?_)
 refine wp_seq_cut (fun a w => ∃ (s40 : Str) (s41 : Str) (p42 : Option Addr) (c43 : Nat) (l44 : List api_Attr), Fits 59 [(2, ptr b1 0), (4, .slice p4 r3.length c5), (5, ptr b7 0), (6, int i15)] a ∧ Dk.Own w0 [] w [.row (.slice p42 l44.length c43) 64 3 l44.length (cells enc_api_Attr l44), .row (.slice none 0 0) 64 3 0 (cells enc_api_Attr []), .blk b7 [str s40, str s41, .slice p42 l44.length c43] 31, .row (.slice p4 r3.length c5) 9 1 r3.length (cells enc_str r3), .row (.slice none 0 0) 64 3 0 (cells enc_api_Attr []), .blk b1 [str [], str [], .slice none 0 0] 31] ∧ ref28_Parse_j3 (ref28_Parse_L1 r3 n1) i15 s40 s41 l44 = some R) ?_ ?_
 refine wp_block ?_
 refine wp_seq_k fun _ hK24 => ?_
 refine wp_region_list ?_
 refine op_mv hf rfl rfl fun a hf => ?_
 refine op_mv hf rfl rfl fun a hf => ?_
 obtain ⟨x19, hx19, hm⟩ := ob hm
 obtain ⟨b20, o21, hix19, hSx19, hAx19⟩ := elemAtRow (enc := enc_str) (sz := 1) (xs := r3) 61 Tryz.underlying61 sz_9 (by decide) (fun _ => rfl) hO (i := 3) rfl hx19
 refine op_val (ex_indexAddr hix19 hf rfl rfl) rfl hf rfl rfl fun a hf => ?_
 refine op_val (ex_load1 (o := 0) ag_9 (hSx19 _ (hO.rowSees (i := 3) rfl)) rfl hf rfl) rfl hf rfl rfl fun a hf => ?_
 obtain ⟨r22, hr22, hm⟩ := ob hm
 refine op_enter (ex_call c_118 hf (vs := [str x19]) rfl) rfl hf rfl rfl (w_ref28_part x19 r22 _ (hG.own hF hO) hr22) ?_
 rintro e w' ⟨he, hb⟩
 refine ⟨_, he, fun a hf => ?_⟩
 have hO := hO.grow hb
 refine op_mv hf rfl rfl fun a hf => ?_
 refine op_val (ex_extract hf rfl rfl) rfl hf rfl rfl fun a hf => ?_
 refine op_val (ex_extract hf rfl rfl) rfl hf rfl rfl fun a hf => ?_
 refine op_alloc al_64 hf rfl hO fun a b23 w hf hO => ?_
 refine op_storeN (i := 0) (n := 3) sz_64 rfl rfl rfl (by simp [Value.oneCell']) hf rfl rfl hO fun w hO => ?_
 refine op_as hf rfl rfl fun a hf => ?_
 refine wpList_nil ?_
 refine nor_then (hK24 _ _ ?_)
 refine wp_seq_k fun _ hK32 => ?_
 refine wp_seq_cut (fun a w => ∃ (t29 : Bool), Fits 59 [(2, ptr b1 0), (4, .slice p4 r3.length c5), (5, ptr b7 0), (6, int i15), (7, ptr b23 0), (42, .bool t29)] a ∧ Dk.Own w0 [] w [.blk b23 [str r22.1.Name, str r22.1.Value, .bool r22.1.Has] 64, .row (.slice p10 l12.length c11) 64 3 l12.length (cells enc_api_Attr l12), .row (.slice none 0 0) 64 3 0 (cells enc_api_Attr []), .blk b7 [str s13, str s14, .slice p10 l12.length c11] 31, .row (.slice p4 r3.length c5) 9 1 r3.length (cells enc_str r3), .row (.slice none 0 0) 64 3 0 (cells enc_api_Attr []), .blk b1 [str [], str [], .slice none 0 0] 31] ∧ ref28_Parse_j2 (ref28_Parse_L1 r3 n1) l12 s13 s14 i15 r22 t29 = some R) ?_ ?_
 refine wp_region_list ?_
 refine op_mv hf rfl rfl fun a hf => ?_
 refine op_val (ex_not hf rfl) rfl hf rfl rfl fun a hf => ?_
 refine op_mv hf rfl rfl fun a hf => ?_
 rcases bcase (!r22.2) with hc25 | hc25
 have hm := it hc25 hm
 refine op_pass rfl hf rfl rfl (hc25) rfl rfl fun a hf => ?_
 refine op_pass rfl hf rfl rfl (hc25) rfl rfl fun a hf => ?_
 refine op_pass rfl hf rfl rfl (hc25) rfl rfl fun a hf => ?_
 refine op_passu rfl hf rfl rfl rfl rfl fun a hf => ?_
 refine op_passu rfl hf rfl rfl rfl rfl fun a hf => ?_
 refine op_passu rfl hf rfl rfl rfl rfl fun a hf => ?_
 refine op_passu rfl hf rfl rfl rfl rfl fun a hf => ?_
 refine op_passu rfl hf rfl rfl rfl rfl fun a hf => ?_
 refine op_passu rfl hf rfl rfl rfl rfl fun a hf => ?_
 refine op_passu rfl hf rfl rfl rfl rfl fun a hf => ?_
 refine op_passu rfl hf rfl rfl rfl rfl fun a hf => ?_
 refine op_passu rfl hf rfl rfl rfl rfl fun a hf => ?_
 refine op_pass rfl hf rfl rfl (hc25) rfl rfl fun a hf => ?_
 refine op_val (ex_pick_t hf rfl hc25 rfl) rfl hf rfl rfl fun a hf => ?_
 refine wpList_nil ?_
 refine nor_then ?_
 exact ⟨true, (hf.cons rfl (hf.cons rfl (hf.cons rfl (hf.cons rfl (hf.cons rfl (hf.cons rfl hf.nil)))))), hO, hm⟩
 have hm := ie hc25 hm
 refine op_guard rfl hf rfl rfl (hc25) ?_
 refine op_mv hf rfl rfl fun a hf => ?_
 refine op_guard rfl hf rfl rfl (hc25) ?_
 refine op_val (ex_eql (m := i15) (n := 0) hf rfl rfl) rfl hf rfl rfl fun a hf => ?_
 refine op_guard rfl hf rfl rfl (hc25) ?_
 refine op_mv hf rfl rfl fun a hf => ?_
 rcases bcase (i15 == 0) with hc26 | hc26
 have hm := it hc26 hm
 refine op_guard rfl hf rfl rfl (hc26) ?_
 refine op_val (ex_field fa_64_2 hf rfl) rfl hf rfl rfl fun a hf => ?_
 refine op_guard rfl hf rfl rfl (hc26) ?_
 refine op_val (ex_load1 (o := 2) ag_4 (hO.blkSees (i := 0) rfl) rfl hf rfl) rfl hf rfl rfl fun a hf => ?_
 refine op_guard rfl hf rfl rfl (hc26) ?_
 refine op_val (ex_not hf rfl) rfl hf rfl rfl fun a hf => ?_
 refine op_guard rfl hf rfl rfl (hc26) ?_
 refine op_mv hf rfl rfl fun a hf => ?_
 rcases bcase (!r22.1.Has) with hc27 | hc27
 have hm := it hc27 hm
 refine op_pass rfl hf rfl rfl (hc27) rfl rfl fun a hf => ?_
 refine op_pass rfl hf rfl rfl (hc27) rfl rfl fun a hf => ?_
 refine op_pass rfl hf rfl rfl (hc27) rfl rfl fun a hf => ?_
 refine op_pass rfl hf rfl rfl (hc27) rfl rfl fun a hf => ?_
 refine op_guard rfl hf rfl rfl (hc26) ?_
 refine op_val (ex_pick_t hf rfl hc27 rfl) rfl hf rfl rfl fun a hf => ?_
 refine op_guard rfl hf rfl rfl (hc25) ?_
 refine op_val (ex_pick_t hf rfl hc26 rfl) rfl hf rfl rfl fun a hf => ?_
 refine op_val (ex_pick_f hf rfl hc25 rfl) rfl hf rfl rfl fun a hf => ?_
 refine wpList_nil ?_
 refine nor_then ?_
 exact ⟨true, (hf.cons rfl (hf.cons rfl (hf.cons rfl (hf.cons rfl (hf.cons rfl (hf.cons rfl hf.nil)))))), hO, hm⟩
 have hm := ie hc27 hm
 refine op_guard rfl hf rfl rfl (hc27) ?_
 refine op_val (ex_field fa_64_1 hf rfl) rfl hf rfl rfl fun a hf => ?_
 refine op_guard rfl hf rfl rfl (hc27) ?_
 refine op_val (ex_load1 (o := 1) ag_9 (hO.blkSees (i := 0) rfl) rfl hf rfl) rfl hf rfl rfl fun a hf => ?_
 refine op_guard rfl hf rfl rfl (hc27) ?_
 obtain ⟨r28, hr28, hm⟩ := ob hm
 refine op_enter (ex_call c_119 hf (vs := [str r22.1.Value]) rfl) rfl hf rfl rfl (w_ref28_value r22.1.Value r28 _ (hG.own hF hO) hr28) ?_
 rintro e w' ⟨he, hb⟩
 refine ⟨_, he, fun a hf => ?_⟩
 have hO := hO.grow hb
 refine op_guard rfl hf rfl rfl (hc27) ?_
 refine op_val (ex_not hf rfl) rfl hf rfl rfl fun a hf => ?_
 refine op_guard rfl hf rfl rfl (hc26) ?_
 refine op_val (ex_pick_f hf rfl hc27 rfl) rfl hf rfl rfl fun a hf => ?_
 refine op_guard rfl hf rfl rfl (hc25) ?_
 refine op_val (ex_pick_t hf rfl hc26 rfl) rfl hf rfl rfl fun a hf => ?_
 refine op_val (ex_pick_f hf rfl hc25 rfl) rfl hf rfl rfl fun a hf => ?_
 refine wpList_nil ?_
 refine nor_then ?_
 exact ⟨!r28, (hf.cons rfl (hf.cons rfl (hf.cons rfl (hf.cons rfl (hf.cons rfl (hf.cons rfl hf.nil)))))), hO, hm⟩
 have hm := ie hc26 hm
 refine op_pass rfl hf rfl rfl (hc26) rfl rfl fun a hf => ?_
 refine op_pass rfl hf rfl rfl (hc26) rfl rfl fun a hf => ?_
 refine op_pass rfl hf rfl rfl (hc26) rfl rfl fun a hf => ?_
 refine op_pass rfl hf rfl rfl (hc26) rfl rfl fun a hf => ?_
 refine op_passu rfl hf rfl rfl rfl rfl fun a hf => ?_
 refine op_passu rfl hf rfl rfl rfl rfl fun a hf => ?_
 refine op_passu rfl hf rfl rfl rfl rfl fun a hf => ?_
 refine op_passu rfl hf rfl rfl rfl rfl fun a hf => ?_
 refine op_pass rfl hf rfl rfl (hc26) rfl rfl fun a hf => ?_
 refine op_guard rfl hf rfl rfl (hc25) ?_
 refine op_val (ex_pick_f hf rfl hc26 rfl) rfl hf rfl rfl fun a hf => ?_
 refine op_val (ex_pick_f hf rfl hc25 rfl) rfl hf rfl rfl fun a hf => ?_
 refine wpList_nil ?_
 refine nor_then ?_
 exact ⟨false, (hf.cons rfl (hf.cons rfl (hf.cons rfl (hf.cons rfl (hf.cons rfl (hf.cons rfl hf.nil)))))), hO, hm⟩
 rintro a w ⟨t29, hf, hO, hm⟩
 rw [ref28_Parse_j2] at hm
 refine wp_cond_cut hf rfl (fun hc30 => ?_) (fun hc30 => ?_)
 have hm := it hc30 hm
 refine wp_seq_k fun _ hK31 => ?_
 refine wp_region_list ?_
 refine op_val (ex_build (vs := []) (v := .agg #[str [], str [], .slice none 0 0]) hf rfl (by kernel_rfl)) rfl hf rfl rfl fun a hf => ?_
 refine op_storeN (i := 6) (n := 3) sz_31 rfl rfl rfl (by simp [Value.oneCell']) hf rfl rfl hO fun w hO => ?_
 have hO := hO.nilRow 64 3
 refine op_as hf rfl rfl fun a hf => ?_
 refine wpList_nil ?_
 refine nor_then (hK31 _ _ ?_)
 refine wp_ret ?_
 refine ret_then ?_
 refine ret_block ?_
 refine ret_then ?_
 refine ret_then ?_
 refine ret_block ?_
 refine ret_then ?_
 obtain rfl := Option.some.inj hm
 exact post_ret Tryz.results76 hf (.cell rfl (run_loadVarN (n := 3) (vs := [str [], str [], .slice none 0 0]) ag_31 sz_31 rfl ((hO.blkSees (i := 7) rfl).cells (o := 0) (n := 3) rfl)) (.tmp rfl .nil)) ⟨none, 0, rfl, (hO.sub (.cons_cons _ (.cons _ (.cons _ (.cons _ (.cons _ (.cons _ (.cons _ (.cons _ .slnil)))))))))⟩
 have hm := ie hc30 hm
 refine wp_skip ?_
 refine nor_then (hK32 _ _ ?_)
 refine wp_seq_k fun _ hK33 => ?_
 refine wp_region_list ?_
 refine op_mv hf rfl rfl fun a hf => ?_
 refine op_val (ex_eql (m := i15) (n := 0) hf rfl rfl) rfl hf rfl rfl fun a hf => ?_
 refine wpList_nil ?_
 refine nor_then (hK33 _ _ ?_)
 refine wp_cond_cut hf rfl (fun hc34 => ?_) (fun hc34 => ?_)
 have hm := it hc34 hm
 refine wp_seq_k fun _ hK35 => ?_
 refine wp_region_list ?_
 refine op_val (ex_field fa_64_0 hf rfl) rfl hf rfl rfl fun a hf => ?_
 refine op_val (ex_load1 (o := 0) ag_9 (hO.blkSees (i := 0) rfl) rfl hf rfl) rfl hf rfl rfl fun a hf => ?_
 refine op_val (ex_field fa_31_0 hf rfl) rfl hf rfl rfl fun a hf => ?_
 refine op_store1 (i := 3) (o := 0) (v := str r22.1.Name) sz_9 rfl rfl rfl rfl hf rfl rfl hO fun w hO => ?_
 refine wpList_nil ?_
 refine nor_then (hK35 _ _ ?_)
 refine wp_region_list ?_
 refine op_val (ex_field fa_64_1 hf rfl) rfl hf rfl rfl fun a hf => ?_
 refine op_val (ex_load1 (o := 1) ag_9 (hO.blkSees (i := 0) rfl) rfl hf rfl) rfl hf rfl rfl fun a hf => ?_
 refine op_val (ex_field fa_31_1 hf rfl) rfl hf rfl rfl fun a hf => ?_
 refine op_store1 (i := 3) (o := 1) (v := str r22.1.Value) sz_9 rfl rfl rfl rfl hf rfl rfl hO fun w hO => ?_
 refine wpList_nil ?_
 refine nor_block ?_
 refine nor_then ?_
 exact ⟨r22.1.Name, r22.1.Value, p10, c11, l12, (hf.cons rfl (hf.cons rfl (hf.cons rfl (hf.cons rfl hf.nil)))), (hO.sub (.cons _ (.cons_cons _ (.cons_cons _ (.cons_cons _ (.cons_cons _ (.cons_cons _ (.cons_cons _ .slnil)))))))), hm⟩
 have hm := ie hc34 hm
 refine wp_region_list ?_
 refine op_val (ex_field fa_31_2 hf rfl) rfl hf rfl rfl fun a hf => ?_
 refine op_val (ex_load1 (o := 2) ag_29 (hO.blkSees (i := 3) rfl) rfl hf rfl) rfl hf rfl rfl fun a hf => ?_
 refine op_val (ex_loadN (o := 0) (vs := [str r22.1.Name, str r22.1.Value, .bool r22.1.Has]) ag_64 sz_64 (hO.blkSees (i := 0) rfl) rfl rfl hf rfl) rfl hf rfl rfl fun a hf => ?_
 refine op_buildSlice (vs := [(0, .agg #[str r22.1.Name, str r22.1.Value, .bool r22.1.Has])]) (cs := [str r22.1.Name, str r22.1.Value, .bool r22.1.Has]) (e := 64) (sz := 3) hf rfl rfl (fun w => by kernel_rfl) rfl rfl hO fun a b36 w hf hO => ?_
 obtain ⟨hg39, hm⟩ := og hm
 refine op_appendT el_29 (enc := enc_api_Attr) (xs := l12) (ys := [r22.1]) (i := 2) (fun _ => rfl) rfl (hO.rowSees (i := 0) rfl) (by simp [cells, enc_api_Attr, Value.oneCell']) hg39 hf rfl rfl rfl hO fun a p37 c38 w hf hO => ?_
 refine op_val (ex_field fa_31_2 hf rfl) rfl hf rfl rfl fun a hf => ?_
 refine op_store1 (i := 4) (o := 2) (v := .slice p37 ((l12 ++ [r22.1]).length) c38) sz_29 rfl rfl rfl rfl hf rfl rfl hO fun w hO => ?_
 refine wpList_nil ?_
 refine nor_block ?_
 refine nor_then ?_
 exact ⟨s13, s14, p37, c38, l12 ++ [r22.1], (hf.cons rfl (hf.cons rfl (hf.cons rfl (hf.cons rfl hf.nil)))), (hO.sub (.cons _ (.cons _ (.cons_cons _ (.cons_cons _ (.cons_cons _ (.cons_cons _ (.cons_cons _ (.cons_cons _ .slnil))))))))), hm⟩
 rintro a w ⟨s40, s41, p42, c43, l44, hf, hO, hm⟩
 rw [ref28_Parse_j3] at hm
 refine wp_region_list ?_
 refine op_mv hf rfl rfl fun a hf => ?_
 obtain ⟨i45, hi45, hm⟩ := ob hm
 refine op_val (ex_add hf rfl rfl hi45) rfl hf rfl rfl fun a hf => ?_
 refine op_as hf rfl rfl fun a hf => ?_
 refine wpList_nil ?_
 refine nor_then ?_
 exact ⟨_, Nat.lt_succ_self _, p42, c43, l44, s40, s41, i45, (hf.cons rfl (hf.cons rfl (hf.cons rfl (hf.cons rfl hf.nil)))), hO, hm⟩
 have hm := ie hc17 hm
 refine wp_exit ?_
 refine exit_then ?_
 refine exit_then ?_
 refine exit_here ?_
 refine nor_then ?_
 exact ⟨s13, s14, p10, c11, l12, (hf.cons rfl (hf.cons rfl hf.nil)), hO, hm⟩
 exact ⟨none, 0, [], [], [], 0, (hf.cons rfl (hf.cons rfl (hf.cons rfl (hf.cons rfl hf.nil)))), hO, hm⟩
 rintro a w ⟨s46, s47, p48, c49, l50, hf, hO, hm⟩
 rw [ref28_Parse_j4] at hm
 refine wp_seq_k fun _ hK51 => ?_
 refine wp_region_list ?_
 refine op_val (ex_loadN (o := 0) (vs := [str s46, str s47, .slice p48 l50.length c49]) ag_31 sz_31 (hO.blkSees (i := 2) rfl) rfl rfl hf rfl) rfl hf rfl rfl fun a hf => ?_
 refine op_storeN (i := 5) (n := 3) sz_31 rfl rfl rfl (by simp [Value.oneCell']) hf rfl rfl hO fun w hO => ?_
 refine op_as hf rfl rfl fun a hf => ?_
 refine wpList_nil ?_
 refine nor_then (hK51 _ _ ?_)
 refine wp_ret ?_
 obtain rfl := Option.some.inj hm
 exact post_ret Tryz.results76 hf (.cell rfl (run_loadVarN (n := 3) (vs := [str s46, str s47, .slice p48 l50.length c49]) ag_31 sz_31 rfl ((hO.blkSees (i := 5) rfl).cells (o := 0) (n := 3) rfl)) (.tmp rfl .nil)) ⟨p48, c49, rfl, (hO.sub (.cons_cons _ (.cons _ (.cons _ (.cons _ (.cons _ (.cons _ .slnil)))))))⟩

set_option maxHeartbeats 1000000 in
theorem w_ref08_Under (x_name : Str) (x_domain : Str) (R : Bool) (w0 : World) (hG : Glob w0) (hm : ref08_Under x_name x_domain = some R) :
    Calls Tryz.prog 120 #[str x_name, str x_domain] w0 fun e w' => e = .returned (.bool R) ∧ Below w0.heap.size w0 w' := by
 rw [ref08_Under] at hm
 refine calls_enter (vs := [str x_name, str x_domain]) Tryz.func120 rfl Tryz.ntmps120 rfl fun a hf => ?_
 have hF : Away [] := away_nil
 have hO : Dk.Own w0 [] w0 [] := Dk.Own.refl w0
 refine wp_seq_k fun _ hK1 => ?_
 refine wp_region_list ?_
 refine op_as hf rfl rfl fun a hf => ?_
 refine wpList_nil ?_
 refine nor_then (hK1 _ _ ?_)
 refine wp_seq_k fun _ hK12 => ?_
 refine wp_seq_cut (fun a w => ∃ (t9 : Bool), Fits 58 [(0, str x_name), (1, str x_domain), (23, .bool t9)] a ∧ Dk.Own w0 [] w [] ∧ ref08_Under_j1 x_name x_domain t9 = some R) ?_ ?_
 refine wp_region_list ?_
 refine op_mv hf rfl rfl fun a hf => ?_
 obtain ⟨r2, hr2, hm⟩ := ob hm
 refine op_enter (ex_call c_25 hf (vs := [str x_name]) rfl) rfl hf rfl rfl (w_ref08_Name x_name r2 _ (hG.own hF hO) hr2) ?_
 rintro e w' ⟨he, hb⟩
 refine ⟨_, he, fun a hf => ?_⟩
 have hO := hO.grow hb
 refine op_val (ex_not hf rfl) rfl hf rfl rfl fun a hf => ?_
 refine op_mv hf rfl rfl fun a hf => ?_
 rcases bcase (!r2) with hc3 | hc3
 have hm := it hc3 hm
 refine op_pass rfl hf rfl rfl (hc3) rfl rfl fun a hf => ?_
 refine op_pass rfl hf rfl rfl (hc3) rfl rfl fun a hf => ?_
 refine op_pass rfl hf rfl rfl (hc3) rfl rfl fun a hf => ?_
 refine op_val (ex_pick_t hf rfl hc3 rfl) rfl hf rfl rfl fun a hf => ?_
 refine op_mv hf rfl rfl fun a hf => ?_
 refine op_pass rfl hf rfl rfl (rfl) rfl rfl fun a hf => ?_
 refine op_pass rfl hf rfl rfl (rfl) rfl rfl fun a hf => ?_
 refine op_val (ex_pick_t hf rfl rfl rfl) rfl hf rfl rfl fun a hf => ?_
 refine op_mv hf rfl rfl fun a hf => ?_
 refine op_pass rfl hf rfl rfl (rfl) rfl rfl fun a hf => ?_
 refine op_pass rfl hf rfl rfl (rfl) rfl rfl fun a hf => ?_
 refine op_val (ex_pick_t hf rfl rfl rfl) rfl hf rfl rfl fun a hf => ?_
 refine wpList_nil ?_
 refine nor_then ?_
 exact ⟨true, (hf.cons rfl (hf.cons rfl (hf.cons rfl hf.nil))), hO, hm⟩
 have hm := ie hc3 hm
 refine op_guard rfl hf rfl rfl (hc3) ?_
 refine op_mv hf rfl rfl fun a hf => ?_
 refine op_guard rfl hf rfl rfl (hc3) ?_
 obtain ⟨r4, hr4, hm⟩ := ob hm
 refine op_enter (ex_call c_25 hf (vs := [str x_domain]) rfl) rfl hf rfl rfl (w_ref08_Name x_domain r4 _ (hG.own hF hO) hr4) ?_
 rintro e w' ⟨he, hb⟩
 refine ⟨_, he, fun a hf => ?_⟩
 have hO := hO.grow hb
 refine op_guard rfl hf rfl rfl (hc3) ?_
 refine op_val (ex_not hf rfl) rfl hf rfl rfl fun a hf => ?_
 refine op_val (ex_pick_f hf rfl hc3 rfl) rfl hf rfl rfl fun a hf => ?_
 refine op_mv hf rfl rfl fun a hf => ?_
 rcases bcase (!r4) with hc5 | hc5
 have hm := it hc5 hm
 refine op_pass rfl hf rfl rfl (hc5) rfl rfl fun a hf => ?_
 refine op_pass rfl hf rfl rfl (hc5) rfl rfl fun a hf => ?_
 refine op_val (ex_pick_t hf rfl hc5 rfl) rfl hf rfl rfl fun a hf => ?_
 refine op_mv hf rfl rfl fun a hf => ?_
 refine op_pass rfl hf rfl rfl (rfl) rfl rfl fun a hf => ?_
 refine op_pass rfl hf rfl rfl (rfl) rfl rfl fun a hf => ?_
 refine op_val (ex_pick_t hf rfl rfl rfl) rfl hf rfl rfl fun a hf => ?_
 refine wpList_nil ?_
 refine nor_then ?_
 exact ⟨true, (hf.cons rfl (hf.cons rfl (hf.cons rfl hf.nil))), hO, hm⟩
 have hm := ie hc5 hm
 refine op_guard rfl hf rfl rfl (hc5) ?_
 refine op_mv hf rfl rfl fun a hf => ?_
 refine op_guard rfl hf rfl rfl (hc5) ?_
 obtain ⟨r6, hr6, hm⟩ := ob hm
 refine op_enter (ex_call c_26 hf (vs := [str x_name]) rfl) rfl hf rfl rfl (w_ref08_Four x_name r6 _ (hG.own hF hO) hr6) ?_
 rintro e w' ⟨he, hb⟩
 refine ⟨_, he, fun a hf => ?_⟩
 have hO := hO.grow hb
 refine op_val (ex_pick_f hf rfl hc5 rfl) rfl hf rfl rfl fun a hf => ?_
 refine op_mv hf rfl rfl fun a hf => ?_
 rcases bcase (r6) with hc7 | hc7
 have hm := it hc7 hm
 refine op_pass rfl hf rfl rfl (hc7) rfl rfl fun a hf => ?_
 refine op_pass rfl hf rfl rfl (hc7) rfl rfl fun a hf => ?_
 refine op_val (ex_pick_t hf rfl hc7 rfl) rfl hf rfl rfl fun a hf => ?_
 refine wpList_nil ?_
 refine nor_then ?_
 exact ⟨true, (hf.cons rfl (hf.cons rfl (hf.cons rfl hf.nil))), hO, hm⟩
 have hm := ie hc7 hm
 refine op_guard rfl hf rfl rfl (hc7) ?_
 refine op_mv hf rfl rfl fun a hf => ?_
 refine op_guard rfl hf rfl rfl (hc7) ?_
 obtain ⟨r8, hr8, hm⟩ := ob hm
 refine op_enter (ex_call c_26 hf (vs := [str x_domain]) rfl) rfl hf rfl rfl (w_ref08_Four x_domain r8 _ (hG.own hF hO) hr8) ?_
 rintro e w' ⟨he, hb⟩
 refine ⟨_, he, fun a hf => ?_⟩
 have hO := hO.grow hb
 refine op_val (ex_pick_f hf rfl hc7 rfl) rfl hf rfl rfl fun a hf => ?_
 refine wpList_nil ?_
 refine nor_then ?_
 exact ⟨r8, (hf.cons rfl (hf.cons rfl (hf.cons rfl hf.nil))), hO, hm⟩
 rintro a w ⟨t9, hf, hO, hm⟩
 rw [ref08_Under_j1] at hm
 refine wp_cond_cut hf rfl (fun hc10 => ?_) (fun hc10 => ?_)
 have hm := it hc10 hm
 refine wp_seq_k fun _ hK11 => ?_
 refine wp_region_list ?_
 refine op_as hf rfl rfl fun a hf => ?_
 refine wpList_nil ?_
 refine nor_then (hK11 _ _ ?_)
 refine wp_ret ?_
 refine ret_then ?_
 obtain rfl := Option.some.inj hm
 exact post_ret Tryz.results120 hf (.tmp rfl .nil) ⟨rfl, hO.below⟩
 have hm := ie hc10 hm
 refine wp_skip ?_
 refine nor_then (hK12 _ _ ?_)
 refine wp_seq_k fun _ hK15 => ?_
 refine wp_region_list ?_
 refine op_mv hf rfl rfl fun a hf => ?_
 obtain ⟨r13, hr13, hm⟩ := ob hm
 refine op_enter (ex_call c_70 hf (vs := [str x_name]) rfl) rfl hf rfl rfl (w_ref01_Fold x_name r13 _ (hG.own hF hO) hr13) ?_
 rintro e w' ⟨he, hb⟩
 refine ⟨_, he, fun a hf => ?_⟩
 have hO := hO.grow hb
 refine op_mv hf rfl rfl fun a hf => ?_
 obtain ⟨r14, hr14, hm⟩ := ob hm
 refine op_enter (ex_call c_70 hf (vs := [str x_domain]) rfl) rfl hf rfl rfl (w_ref01_Fold x_domain r14 _ (hG.own hF hO) hr14) ?_
 rintro e w' ⟨he, hb⟩
 refine ⟨_, he, fun a hf => ?_⟩
 have hO := hO.grow hb
 refine op_as hf rfl rfl fun a hf => ?_
 refine op_as hf rfl rfl fun a hf => ?_
 refine wpList_nil ?_
 refine nor_then (hK15 _ _ ?_)
 refine wp_seq_k fun _ hK17 => ?_
 refine wp_region_list ?_
 refine op_mv hf rfl rfl fun a hf => ?_
 refine op_val (ex_len_s (l := r13) Tryz.underlying9 hf rfl) rfl hf rfl rfl fun a hf => ?_
 refine op_mv hf rfl rfl fun a hf => ?_
 refine op_val (ex_len_s (l := r14) Tryz.underlying9 hf rfl) rfl hf rfl rfl fun a hf => ?_
 obtain ⟨i16, hi16, hm⟩ := ob hm
 refine op_val (ex_sub hf rfl rfl hi16) rfl hf rfl rfl fun a hf => ?_
 refine op_as hf rfl rfl fun a hf => ?_
 refine wpList_nil ?_
 refine nor_then (hK17 _ _ ?_)
 refine wp_seq_cut (fun a w => ∃ (t30 : Bool), Fits 58 [(4, .bool t30)] a ∧ Dk.Own w0 [] w [] ∧ ref08_Under_j2 t30 = some R) ?_ ?_
 refine wp_region_list ?_
 refine op_mv hf rfl rfl fun a hf => ?_
 refine op_val (ex_eql (m := i16) (n := 0) hf rfl rfl) rfl hf rfl rfl fun a hf => ?_
 refine op_mv hf rfl rfl fun a hf => ?_
 rcases bcase (i16 == 0) with hc18 | hc18
 have hm := it hc18 hm
 refine op_guard rfl hf rfl rfl (hc18) ?_
 refine op_mv hf rfl rfl fun a hf => ?_
 refine op_guard rfl hf rfl rfl (hc18) ?_
 refine op_mv hf rfl rfl fun a hf => ?_
 refine op_guard rfl hf rfl rfl (hc18) ?_
 refine op_val (ex_eql_s (l := r13) (m := r14) hf rfl rfl) rfl hf rfl rfl fun a hf => ?_
 refine op_val (ex_pick_t hf rfl hc18 rfl) rfl hf rfl rfl fun a hf => ?_
 refine op_mv hf rfl rfl fun a hf => ?_
 rcases bcase (r13 == r14) with hc19 | hc19
 have hm := it hc19 hm
 refine op_pass rfl hf rfl rfl (hc19) rfl rfl fun a hf => ?_
 refine op_pass rfl hf rfl rfl (hc19) rfl rfl fun a hf => ?_
 refine op_pass rfl hf rfl rfl (hc19) rfl rfl fun a hf => ?_
 refine op_passu rfl hf rfl rfl rfl rfl fun a hf => ?_
 refine op_passu rfl hf rfl rfl rfl rfl fun a hf => ?_
 refine op_passu rfl hf rfl rfl rfl rfl fun a hf => ?_
 refine op_passu rfl hf rfl rfl rfl rfl fun a hf => ?_
 refine op_passu rfl hf rfl rfl rfl rfl fun a hf => ?_
 refine op_pass rfl hf rfl rfl (hc19) rfl rfl fun a hf => ?_
 refine op_pass rfl hf rfl rfl (hc19) rfl rfl fun a hf => ?_
 refine op_passu rfl hf rfl rfl rfl rfl fun a hf => ?_
 refine op_passu rfl hf rfl rfl rfl rfl fun a hf => ?_
 refine op_passu rfl hf rfl rfl rfl rfl fun a hf => ?_
 refine op_passu rfl hf rfl rfl rfl rfl fun a hf => ?_
 refine op_passu rfl hf rfl rfl rfl rfl fun a hf => ?_
 refine op_pass rfl hf rfl rfl (hc19) rfl rfl fun a hf => ?_
 refine op_val (ex_pick_t hf rfl hc19 rfl) rfl hf rfl rfl fun a hf => ?_
 refine op_as hf rfl rfl fun a hf => ?_
 refine wpList_nil ?_
 refine nor_then ?_
 exact ⟨true, (hf.cons rfl hf.nil), hO, hm⟩
 have hm := ie hc19 hm
 refine op_guard rfl hf rfl rfl (hc19) ?_
 refine op_mv hf rfl rfl fun a hf => ?_
 refine op_guard rfl hf rfl rfl (hc19) ?_
 refine op_val (ex_gtr (m := i16) (n := 0) hf rfl rfl) rfl hf rfl rfl fun a hf => ?_
 refine op_guard rfl hf rfl rfl (hc19) ?_
 refine op_mv hf rfl rfl fun a hf => ?_
 rcases bcase (decide (0 < i16)) with hc20 | hc20
 have hm := it hc20 hm
 refine op_guard rfl hf rfl rfl (hc20) ?_
 refine op_mv hf rfl rfl fun a hf => ?_
 refine op_guard rfl hf rfl rfl (hc20) ?_
 refine op_mv hf rfl rfl fun a hf => ?_
 refine op_guard rfl hf rfl rfl (hc20) ?_
 obtain ⟨s21, hs21, hm⟩ := ob hm
 refine op_val (ex_from_s (l := r13) Tryz.underlying9 hf rfl rfl hs21) rfl hf rfl rfl fun a hf => ?_
 refine op_guard rfl hf rfl rfl (hc20) ?_
 refine op_mv hf rfl rfl fun a hf => ?_
 refine op_guard rfl hf rfl rfl (hc20) ?_
 refine op_val (ex_eql_s (l := s21) (m := r14) hf rfl rfl) rfl hf rfl rfl fun a hf => ?_
 refine op_guard rfl hf rfl rfl (hc19) ?_
 refine op_val (ex_pick_t hf rfl hc20 rfl) rfl hf rfl rfl fun a hf => ?_
 refine op_guard rfl hf rfl rfl (hc19) ?_
 refine op_mv hf rfl rfl fun a hf => ?_
 rcases bcase (s21 == r14) with hc22 | hc22
 have hm := it hc22 hm
 refine op_guard rfl hf rfl rfl (hc22) ?_
 refine op_mv hf rfl rfl fun a hf => ?_
 refine op_guard rfl hf rfl rfl (hc22) ?_
 refine op_mv hf rfl rfl fun a hf => ?_
 refine op_guard rfl hf rfl rfl (hc22) ?_
 obtain ⟨i23, hi23, hm⟩ := ob hm
 refine op_val (ex_sub hf rfl rfl hi23) rfl hf rfl rfl fun a hf => ?_
 refine op_guard rfl hf rfl rfl (hc22) ?_
 obtain ⟨b24, hb24, hm⟩ := ob hm
 refine op_val (ex_index (l := r13) Tryz.underlying9 hf rfl rfl hb24) rfl hf rfl rfl fun a hf => ?_
 refine op_guard rfl hf rfl rfl (hc22) ?_
 refine op_val (ex_eql_b (b := b24) (c := 46) hf rfl rfl) rfl hf rfl rfl fun a hf => ?_
 refine op_guard rfl hf rfl rfl (hc19) ?_
 refine op_val (ex_pick_t hf rfl hc22 rfl) rfl hf rfl rfl fun a hf => ?_
 refine op_val (ex_pick_f hf rfl hc19 rfl) rfl hf rfl rfl fun a hf => ?_
 refine op_as hf rfl rfl fun a hf => ?_
 refine wpList_nil ?_
 refine nor_then ?_
 exact ⟨b24 == 46, (hf.cons rfl hf.nil), hO, hm⟩
 have hm := ie hc22 hm
 refine op_pass rfl hf rfl rfl (hc22) rfl rfl fun a hf => ?_
 refine op_pass rfl hf rfl rfl (hc22) rfl rfl fun a hf => ?_
 refine op_pass rfl hf rfl rfl (hc22) rfl rfl fun a hf => ?_
 refine op_pass rfl hf rfl rfl (hc22) rfl rfl fun a hf => ?_
 refine op_pass rfl hf rfl rfl (hc22) rfl rfl fun a hf => ?_
 refine op_guard rfl hf rfl rfl (hc19) ?_
 refine op_val (ex_pick_f hf rfl hc22 rfl) rfl hf rfl rfl fun a hf => ?_
 refine op_val (ex_pick_f hf rfl hc19 rfl) rfl hf rfl rfl fun a hf => ?_
 refine op_as hf rfl rfl fun a hf => ?_
 refine wpList_nil ?_
 refine nor_then ?_
 exact ⟨false, (hf.cons rfl hf.nil), hO, hm⟩
 have hm := ie hc20 hm
 refine op_pass rfl hf rfl rfl (hc20) rfl rfl fun a hf => ?_
 refine op_pass rfl hf rfl rfl (hc20) rfl rfl fun a hf => ?_
 refine op_pass rfl hf rfl rfl (hc20) rfl rfl fun a hf => ?_
 refine op_pass rfl hf rfl rfl (hc20) rfl rfl fun a hf => ?_
 refine op_pass rfl hf rfl rfl (hc20) rfl rfl fun a hf => ?_
 refine op_guard rfl hf rfl rfl (hc19) ?_
 refine op_val (ex_pick_f hf rfl hc20 rfl) rfl hf rfl rfl fun a hf => ?_
 refine op_guard rfl hf rfl rfl (hc19) ?_
 refine op_mv hf rfl rfl fun a hf => ?_
 refine op_pass rfl hf rfl rfl (rfl) rfl rfl fun a hf => ?_
 refine op_pass rfl hf rfl rfl (rfl) rfl rfl fun a hf => ?_
 refine op_pass rfl hf rfl rfl (rfl) rfl rfl fun a hf => ?_
 refine op_pass rfl hf rfl rfl (rfl) rfl rfl fun a hf => ?_
 refine op_pass rfl hf rfl rfl (rfl) rfl rfl fun a hf => ?_
 refine op_guard rfl hf rfl rfl (hc19) ?_
 refine op_val (ex_pick_f hf rfl rfl rfl) rfl hf rfl rfl fun a hf => ?_
 refine op_val (ex_pick_f hf rfl hc19 rfl) rfl hf rfl rfl fun a hf => ?_
 refine op_as hf rfl rfl fun a hf => ?_
 refine wpList_nil ?_
 refine nor_then ?_
 exact ⟨false, (hf.cons rfl hf.nil), hO, hm⟩
 have hm := ie hc18 hm
 refine op_pass rfl hf rfl rfl (hc18) rfl rfl fun a hf => ?_
 refine op_pass rfl hf rfl rfl (hc18) rfl rfl fun a hf => ?_
 refine op_pass rfl hf rfl rfl (hc18) rfl rfl fun a hf => ?_
 refine op_val (ex_pick_f hf rfl hc18 rfl) rfl hf rfl rfl fun a hf => ?_
 refine op_mv hf rfl rfl fun a hf => ?_
 refine op_guard rfl hf rfl rfl (rfl) ?_
 refine op_mv hf rfl rfl fun a hf => ?_
 refine op_guard rfl hf rfl rfl (rfl) ?_
 refine op_val (ex_gtr (m := i16) (n := 0) hf rfl rfl) rfl hf rfl rfl fun a hf => ?_
 refine op_guard rfl hf rfl rfl (rfl) ?_
 refine op_mv hf rfl rfl fun a hf => ?_
 rcases bcase (decide (0 < i16)) with hc25 | hc25
 have hm := it hc25 hm
 refine op_guard rfl hf rfl rfl (hc25) ?_
 refine op_mv hf rfl rfl fun a hf => ?_
 refine op_guard rfl hf rfl rfl (hc25) ?_
 refine op_mv hf rfl rfl fun a hf => ?_
 refine op_guard rfl hf rfl rfl (hc25) ?_
 obtain ⟨s26, hs26, hm⟩ := ob hm
 refine op_val (ex_from_s (l := r13) Tryz.underlying9 hf rfl rfl hs26) rfl hf rfl rfl fun a hf => ?_
 refine op_guard rfl hf rfl rfl (hc25) ?_
 refine op_mv hf rfl rfl fun a hf => ?_
 refine op_guard rfl hf rfl rfl (hc25) ?_
 refine op_val (ex_eql_s (l := s26) (m := r14) hf rfl rfl) rfl hf rfl rfl fun a hf => ?_
 refine op_guard rfl hf rfl rfl (rfl) ?_
 refine op_val (ex_pick_t hf rfl hc25 rfl) rfl hf rfl rfl fun a hf => ?_
 refine op_guard rfl hf rfl rfl (rfl) ?_
 refine op_mv hf rfl rfl fun a hf => ?_
 rcases bcase (s26 == r14) with hc27 | hc27
 have hm := it hc27 hm
 refine op_guard rfl hf rfl rfl (hc27) ?_
 refine op_mv hf rfl rfl fun a hf => ?_
 refine op_guard rfl hf rfl rfl (hc27) ?_
 refine op_mv hf rfl rfl fun a hf => ?_
 refine op_guard rfl hf rfl rfl (hc27) ?_
 obtain ⟨i28, hi28, hm⟩ := ob hm
 refine op_val (ex_sub hf rfl rfl hi28) rfl hf rfl rfl fun a hf => ?_
 refine op_guard rfl hf rfl rfl (hc27) ?_
 obtain ⟨b29, hb29, hm⟩ := ob hm
 refine op_val (ex_index (l := r13) Tryz.underlying9 hf rfl rfl hb29) rfl hf rfl rfl fun a hf => ?_
 refine op_guard rfl hf rfl rfl (hc27) ?_
 refine op_val (ex_eql_b (b := b29) (c := 46) hf rfl rfl) rfl hf rfl rfl fun a hf => ?_
 refine op_guard rfl hf rfl rfl (rfl) ?_
 refine op_val (ex_pick_t hf rfl hc27 rfl) rfl hf rfl rfl fun a hf => ?_
 refine op_val (ex_pick_f hf rfl rfl rfl) rfl hf rfl rfl fun a hf => ?_
 refine op_as hf rfl rfl fun a hf => ?_
 refine wpList_nil ?_
 refine nor_then ?_
 exact ⟨b29 == 46, (hf.cons rfl hf.nil), hO, hm⟩
 have hm := ie hc27 hm
 refine op_pass rfl hf rfl rfl (hc27) rfl rfl fun a hf => ?_
 refine op_pass rfl hf rfl rfl (hc27) rfl rfl fun a hf => ?_
 refine op_pass rfl hf rfl rfl (hc27) rfl rfl fun a hf => ?_
 refine op_pass rfl hf rfl rfl (hc27) rfl rfl fun a hf => ?_
 refine op_pass rfl hf rfl rfl (hc27) rfl rfl fun a hf => ?_
 refine op_guard rfl hf rfl rfl (rfl) ?_
 refine op_val (ex_pick_f hf rfl hc27 rfl) rfl hf rfl rfl fun a hf => ?_
 refine op_val (ex_pick_f hf rfl rfl rfl) rfl hf rfl rfl fun a hf => ?_
 refine op_as hf rfl rfl fun a hf => ?_
 refine wpList_nil ?_
 refine nor_then ?_
 exact ⟨false, (hf.cons rfl hf.nil), hO, hm⟩
 have hm := ie hc25 hm
 refine op_pass rfl hf rfl rfl (hc25) rfl rfl fun a hf => ?_
 refine op_pass rfl hf rfl rfl (hc25) rfl rfl fun a hf => ?_
 refine op_pass rfl hf rfl rfl (hc25) rfl rfl fun a hf => ?_
 refine op_pass rfl hf rfl rfl (hc25) rfl rfl fun a hf => ?_
 refine op_pass rfl hf rfl rfl (hc25) rfl rfl fun a hf => ?_
 refine op_guard rfl hf rfl rfl (rfl) ?_
 refine op_val (ex_pick_f hf rfl hc25 rfl) rfl hf rfl rfl fun a hf => ?_
 refine op_guard rfl hf rfl rfl (rfl) ?_
 refine op_mv hf rfl rfl fun a hf => ?_
 refine op_pass rfl hf rfl rfl (rfl) rfl rfl fun a hf => ?_
 refine op_pass rfl hf rfl rfl (rfl) rfl rfl fun a hf => ?_
 refine op_pass rfl hf rfl rfl (rfl) rfl rfl fun a hf => ?_
 refine op_pass rfl hf rfl rfl (rfl) rfl rfl fun a hf => ?_
 refine op_pass rfl hf rfl rfl (rfl) rfl rfl fun a hf => ?_
 refine op_guard rfl hf rfl rfl (rfl) ?_
 refine op_val (ex_pick_f hf rfl rfl rfl) rfl hf rfl rfl fun a hf => ?_
 refine op_val (ex_pick_f hf rfl rfl rfl) rfl hf rfl rfl fun a hf => ?_
 refine op_as hf rfl rfl fun a hf => ?_
 refine wpList_nil ?_
 refine nor_then ?_
 exact ⟨false, (hf.cons rfl hf.nil), hO, hm⟩
 rintro a w ⟨t30, hf, hO, hm⟩
 rw [ref08_Under_j2] at hm
 refine wp_ret ?_
 obtain rfl := Option.some.inj hm
 exact post_ret Tryz.results120 hf (.tmp rfl .nil) ⟨rfl, hO.below⟩

set_option maxHeartbeats 1000000 in
theorem w_ref29_Map (x_name : Str) (x_l : List api_Swap) (R : Str × Bool) (w0 : World) (hG : Glob w0) {x_l_p0 : Option Addr} {x_l_c0 : Nat} (hs0 : Sees w0 x_l_p0 (cells enc_api_Swap x_l)) (hc0 : x_l.length ≤ x_l_c0) (hm : ref29_Map x_name x_l = some R) :
    Calls Tryz.prog 77 #[str x_name, .slice x_l_p0 x_l.length x_l_c0] w0 fun e w' => e = .returned (.tuple #[str R.1, .bool R.2]) ∧ Below w0.heap.size w0 w' := by
 rw [ref29_Map] at hm
 refine calls_enter (vs := [str x_name, .slice x_l_p0 x_l.length x_l_c0]) Tryz.func77 rfl Tryz.ntmps77 rfl fun a hf => ?_
 have hF : Away [] := away_nil
 have hO : Dk.Own w0 [] w0 [] := Dk.Own.refl w0
 have hO := hO.addShr hs0 (by simp [Res.shared])
 refine wp_seq_k fun _ hK1 => ?_
 refine wp_region_list ?_
 refine op_as hf rfl rfl fun a hf => ?_
 refine op_as hf rfl rfl fun a hf => ?_
 refine wpList_nil ?_
 refine nor_then (hK1 _ _ ?_)
 refine wp_seq_k fun _ hK2 => ?_
 refine wp_region_list ?_
 refine op_mv hf rfl rfl fun a hf => ?_
 refine op_as hf rfl rfl fun a hf => ?_
 refine wpList_nil ?_
 refine nor_then (hK2 _ _ ?_)
 refine wp_seq_cut (fun a w => ∃ (s8 : Str), Fits 49 [(0, str x_name), (1, .slice x_l_p0 x_l.length x_l_c0), (6, str s8)] a ∧ Dk.Own w0 [] w [.shr x_l_p0 (cells enc_api_Swap x_l)] ∧ ref29_Map_j2 x_name x_l s8 = some R) ?_ ?_
 refine wp_seq_cut (fun a w => ∃ (t5 : Bool), Fits 49 [(0, str x_name), (1, .slice x_l_p0 x_l.length x_l_c0), (6, str x_name), (15, .bool t5)] a ∧ Dk.Own w0 [] w [.shr x_l_p0 (cells enc_api_Swap x_l)] ∧ ref29_Map_j1 x_name x_l t5 = some R) ?_ ?_
 refine wp_region_list ?_
 refine op_mv hf rfl rfl fun a hf => ?_
 refine op_val (ex_neq_s (l := x_name) (m := []) hf rfl rfl) rfl hf rfl rfl fun a hf => ?_
 refine op_mv hf rfl rfl fun a hf => ?_
 rcases bcase (!(x_name == [])) with hc3 | hc3
 have hm := it hc3 hm
 refine op_guard rfl hf rfl rfl (hc3) ?_
 refine op_mv hf rfl rfl fun a hf => ?_
 refine op_guard rfl hf rfl rfl (hc3) ?_
 obtain ⟨b4, hb4, hm⟩ := ob hm
 refine op_val (ex_index (l := x_name) Tryz.underlying9 hf rfl rfl hb4) rfl hf rfl rfl fun a hf => ?_
 refine op_guard rfl hf rfl rfl (hc3) ?_
 refine op_val (ex_eql_b (b := b4) (c := 46) hf rfl rfl) rfl hf rfl rfl fun a hf => ?_
 refine op_val (ex_pick_t hf rfl hc3 rfl) rfl hf rfl rfl fun a hf => ?_
 refine wpList_nil ?_
 refine nor_then ?_
 exact ⟨b4 == 46, (hf.cons rfl (hf.cons rfl (hf.cons rfl (hf.cons rfl hf.nil)))), hO, hm⟩
 have hm := ie hc3 hm
 refine op_pass rfl hf rfl rfl (hc3) rfl rfl fun a hf => ?_
 refine op_pass rfl hf rfl rfl (hc3) rfl rfl fun a hf => ?_
 refine op_pass rfl hf rfl rfl (hc3) rfl rfl fun a hf => ?_
 refine op_val (ex_pick_f hf rfl hc3 rfl) rfl hf rfl rfl fun a hf => ?_
 refine wpList_nil ?_
 refine nor_then ?_
 exact ⟨false, (hf.cons rfl (hf.cons rfl (hf.cons rfl (hf.cons rfl hf.nil)))), hO, hm⟩
 rintro a w ⟨t5, hf, hO, hm⟩
 rw [ref29_Map_j1] at hm
 refine wp_cond_cut hf rfl (fun hc6 => ?_) (fun hc6 => ?_)
 have hm := it hc6 hm
 refine wp_region_list ?_
 refine op_mv hf rfl rfl fun a hf => ?_
 obtain ⟨s7, hs7, hm⟩ := ob hm
 refine op_val (ex_from_s (l := x_name) Tryz.underlying9 hf rfl rfl hs7) rfl hf rfl rfl fun a hf => ?_
 refine op_as hf rfl rfl fun a hf => ?_
 refine wpList_nil ?_
 refine nor_then ?_
 exact ⟨s7, (hf.cons rfl (hf.cons rfl (hf.cons rfl hf.nil))), hO, hm⟩
 have hm := ie hc6 hm
 refine wp_skip ?_
 refine nor_then ?_
 exact ⟨x_name, (hf.cons rfl (hf.cons rfl (hf.cons rfl hf.nil))), hO, hm⟩
 rintro a w ⟨s8, hf, hO, hm⟩
 rw [ref29_Map_j2] at hm
 refine wp_seq_k fun _ hK32 => ?_
 refine wp_seq_k fun _ hK9 => ?_
 refine wp_region_list ?_
 refine op_as hf rfl rfl fun a hf => ?_
 refine wpList_nil ?_
 refine nor_then (hK9 _ _ ?_)
 refine wp_block ?_
 refine wp_loop_n (fun k a w => ∃ (i10 : Int), Fits 49 [(0, str x_name), (1, .slice x_l_p0 x_l.length x_l_c0), (6, str s8), (7, int i10)] a ∧ Dk.Own w0 [] w [.shr x_l_p0 (cells enc_api_Swap x_l)] ∧ ref29_Map_L3 x_name x_l s8 k i10 = some R) ?_ fuel ?_
 rintro n3 a w ⟨i10, hf, hO, hm⟩
 obtain _ | n3 := n3
 rw [ref29_Map_L3] at hm
 cases hm
 rw [ref29_Map_L3] at hm
 refine wp_seq_k fun _ hK13 => ?_
 refine wp_seq_k fun _ hK11 => ?_
 refine wp_region_list ?_
 refine op_mv hf rfl rfl fun a hf => ?_
 refine op_mv hf rfl rfl fun a hf => ?_
 refine op_val (ex_len_l Tryz.underlying22 hf rfl) rfl hf rfl rfl fun a hf => ?_
 refine op_val (ex_lss (m := i10) (n := (x_l.length : Int)) hf rfl rfl) rfl hf rfl rfl fun a hf => ?_
 refine wpList_nil ?_
 refine nor_then (hK11 _ _ ?_)
 refine wp_cond_cut hf rfl (fun hc12 => ?_) (fun hc12 => ?_)
 have hm := it hc12 hm
 refine wp_skip ?_
 refine nor_then (hK13 _ _ ?_)
 refine wp_seq_k fun _ hK30 => ?_
 refine wp_block ?_
 refine wp_seq_k fun _ hK18 => ?_
 refine wp_region_list ?_
 refine op_mv hf rfl rfl fun a hf => ?_
 refine op_mv hf rfl rfl fun a hf => ?_
 refine op_mv hf rfl rfl fun a hf => ?_
 obtain ⟨x14, hx14, hm⟩ := ob hm
 obtain ⟨b15, o16, hix14, hSx14⟩ := elemAt (enc := enc_api_Swap) (sz := 2) (xs := x_l) 22 Tryz.underlying22 sz_56 (by decide) (fun _ => rfl) (hO.sees (i := 0) rfl) hx14
 refine op_val (ex_indexAddr hix14 hf rfl rfl) rfl hf rfl rfl fun a hf => ?_
 refine op_val (ex_field fa_56_0 hf rfl) rfl hf rfl rfl fun a hf => ?_
 refine op_val (ex_load1 (o := 0) ag_9 (hSx14 _ (hO.sees (i := 0) rfl)) rfl hf rfl) rfl hf rfl rfl fun a hf => ?_
 obtain ⟨r17, hr17, hm⟩ := ob hm
 refine op_enter (ex_call c_120 hf (vs := [str s8, str x14.From]) rfl) rfl hf rfl rfl (w_ref08_Under s8 x14.From r17 _ (hG.own hF hO) hr17) ?_
 rintro e w' ⟨he, hb⟩
 refine ⟨_, he, fun a hf => ?_⟩
 have hO := hO.grow hb
 refine wpList_nil ?_
 refine nor_then (hK18 _ _ ?_)
 refine wp_cond_cut hf rfl (fun hc19 => ?_) (fun hc19 => ?_)
 have hm := it hc19 hm
 refine wp_seq_k fun _ hK29 => ?_
 refine wp_quiet (by kernel_rfl) (by kernel_rfl) hO ?_
 refine q_val (fun w hO => ex_move hf rfl) rfl hf rfl rfl fun a hf => ?_
 refine q_val (fun w hO => ex_move hf rfl) rfl hf rfl rfl fun a hf => ?_
 refine q_val (fun w hO => ex_len_s (l := s8) Tryz.underlying9 hf rfl) rfl hf rfl rfl fun a hf => ?_
 refine q_val (fun w hO => ex_move hf rfl) rfl hf rfl rfl fun a hf => ?_
 refine q_val (fun w hO => ex_move hf rfl) rfl hf rfl rfl fun a hf => ?_
 obtain ⟨x20, hx20, hm⟩ := ob hm
 obtain ⟨b21, o22, hix20, hSx20⟩ := elemAt (enc := enc_api_Swap) (sz := 2) (xs := x_l) 22 Tryz.underlying22 sz_56 (by decide) (fun _ => rfl) (hO.sees (i := 0) rfl) hx20
 refine q_val (fun w hO => ex_indexAddr hix20 hf rfl rfl) rfl hf rfl rfl fun a hf => ?_
 refine q_val (fun w hO => ex_field fa_56_0 hf rfl) rfl hf rfl rfl fun a hf => ?_
 refine q_val (fun w hO => ex_load1 (o := 0) ag_9 (hSx20 _ (hO.sees (i := 0) rfl)) rfl hf rfl) rfl hf rfl rfl fun a hf => ?_
 refine q_val (fun w hO => ex_len_s (l := x20.From) Tryz.underlying9 hf rfl) rfl hf rfl rfl fun a hf => ?_
 obtain ⟨i23, hi23, hm⟩ := ob hm
 refine q_val (fun w hO => ex_sub hf rfl rfl hi23) rfl hf rfl rfl fun a hf => ?_
 obtain ⟨s24, hs24, hm⟩ := ob hm
 refine q_val (fun w hO => ex_to_s (l := s8) Tryz.underlying9 hf rfl rfl hs24) rfl hf rfl rfl fun a hf => ?_
 refine q_val (fun w hO => ex_move hf rfl) rfl hf rfl rfl fun a hf => ?_
 refine q_val (fun w hO => ex_move hf rfl) rfl hf rfl rfl fun a hf => ?_
 obtain ⟨x25, hx25, hm⟩ := ob hm
 obtain ⟨b26, o27, hix25, hSx25⟩ := elemAt (enc := enc_api_Swap) (sz := 2) (xs := x_l) 22 Tryz.underlying22 sz_56 (by decide) (fun _ => rfl) (hO.sees (i := 0) rfl) hx25
 refine q_val (fun w hO => ex_indexAddr hix25 hf rfl rfl) rfl hf rfl rfl fun a hf => ?_
 refine q_val (fun w hO => ex_field fa_56_1 hf rfl) rfl hf rfl rfl fun a hf => ?_
 refine q_val (fun w hO => ex_load1 (o := 1) ag_9 (hSx25 _ (hO.sees (i := 0) rfl)) rfl hf rfl) rfl hf rfl rfl fun a hf => ?_
 obtain ⟨s28, hs28, hm⟩ := ob hm
 refine q_val (fun w hO => ex_cat (l := s24) (m := x25.To) hf rfl rfl hs28) rfl hf rfl rfl fun a hf => ?_
 refine q_val (fun w hO => ex_assign hf rfl) rfl hf rfl rfl fun a hf => ?_
 refine q_val (fun w hO => ex_assign hf rfl) rfl hf rfl rfl fun a hf => ?_
 refine wpQuiet_nil ?_
 intro w hO
 refine nor_then (hK29 _ _ ?_)
 refine wp_ret ?_
 refine ret_block ?_
 refine ret_then ?_
 refine ret_then ?_
 refine ret_block ?_
 refine ret_then ?_
 obtain rfl := Option.some.inj hm
 exact post_ret Tryz.results77 hf (.tmp rfl (.tmp rfl .nil)) ⟨rfl, hO.below⟩
 have hm := ie hc19 hm
 refine wp_skip ?_
 refine nor_block ?_
 refine nor_then (hK30 _ _ ?_)
 refine wp_region_list ?_
 refine op_mv hf rfl rfl fun a hf => ?_
 obtain ⟨i31, hi31, hm⟩ := ob hm
 refine op_val (ex_add hf rfl rfl hi31) rfl hf rfl rfl fun a hf => ?_
 refine op_as hf rfl rfl fun a hf => ?_
 refine wpList_nil ?_
 refine nor_then ?_
 exact ⟨_, Nat.lt_succ_self _, i31, (hf.cons rfl (hf.cons rfl (hf.cons rfl (hf.cons rfl hf.nil)))), hO, hm⟩
 have hm := ie hc12 hm
 refine wp_exit ?_
 refine exit_then ?_
 refine exit_then ?_
 refine exit_here ?_
 refine nor_then (hK32 _ _ ?_)
 refine wp_seq_k fun _ hK33 => ?_
 refine wp_region_list ?_
 refine op_mv hf rfl rfl fun a hf => ?_
 refine op_as hf rfl rfl fun a hf => ?_
 refine op_as hf rfl rfl fun a hf => ?_
 refine wpList_nil ?_
 refine nor_then (hK33 _ _ ?_)
 refine wp_ret ?_
 obtain rfl := Option.some.inj hm
 exact post_ret Tryz.results77 hf (.tmp rfl (.tmp rfl .nil)) ⟨rfl, hO.below⟩
 exact ⟨0, (hf.cons rfl (hf.cons rfl (hf.cons rfl (hf.cons rfl hf.nil)))), hO, hm⟩

end Go.Proofs
