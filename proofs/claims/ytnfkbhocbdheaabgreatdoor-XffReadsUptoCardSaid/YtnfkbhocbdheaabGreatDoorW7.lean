/-
  Walks, written by a program (wip/gen): what its model says, the function returns; what was there before is as it was.
-/
import Derived.Test.YtnfkbhocbdheaabGreatDoorLib
import Derived.Test.YtnfkbhocbdheaabGreatDoorW2
import Derived.Test.YtnfkbhocbdheaabGreatDoorW4
import Derived.Test.YtnfkbhocbdheaabGreatDoorW5
import Derived.Test.YtnfkbhocbdheaabGreatDoorW6
set_option linter.unusedVariables false
set_option linter.unusedSimpArgs false
set_option maxRecDepth 100000
namespace Go.Proofs
open Go.Dk Go.Dm Go.RowKit

set_option maxHeartbeats 1000000 in
theorem w_ref01_Fold (x_s : Str) (R : Str) (w0 : World) (hG : Glob w0) (hm : ref01_Fold x_s = some R) :
    Calls Tryz.prog 56 #[str x_s] w0 fun e w' => e = .returned (str R) ∧ Below w0.heap.size w0 w' := by
 rw [ref01_Fold] at hm
 refine calls_enter (vs := [str x_s]) Tryz.func56 rfl Tryz.ntmps56 rfl fun a hf => ?_
 have hF : Away [] := away_nil
 have hO : Dk.Own w0 [] w0 [] := Dk.Own.refl w0
 refine wp_seq_k fun _ hK1 => ?_
 refine wp_region_list ?_
 refine op_as hf rfl rfl fun a hf => ?_
 refine wpList_nil ?_
 refine nor_then (hK1 _ _ ?_)
 refine wp_seq_k fun _ hK2 => ?_
 refine wp_region_list ?_
 refine op_as hf rfl rfl fun a hf => ?_
 refine wpList_nil ?_
 refine nor_then (hK2 _ _ ?_)
 refine wp_seq_k fun _ hK30 => ?_
 refine wp_seq_k fun _ hK3 => ?_
 refine wp_region_list ?_
 refine op_as hf rfl rfl fun a hf => ?_
 refine wpList_nil ?_
 refine nor_then (hK3 _ _ ?_)
 refine wp_block ?_
 refine wp_loop_n (fun k a w => ∃ (s4 : Str) (i5 : Int), Fits 36 [(0, str x_s), (3, str s4), (4, int i5)] a ∧ Dk.Own w0 [] w [] ∧ ref01_Fold_L1 x_s k s4 i5 = some R) ?_ fuel ?_
 rintro n1 a w ⟨s4, i5, hf, hO, hm⟩
 obtain _ | n1 := n1
 rw [ref01_Fold_L1] at hm
 cases hm
 rw [ref01_Fold_L1] at hm
 refine wp_seq_k fun _ hK8 => ?_
 refine wp_seq_k fun _ hK6 => ?_
 refine wp_region_list ?_
 refine op_mv hf rfl rfl fun a hf => ?_
 refine op_mv hf rfl rfl fun a hf => ?_
 refine op_val (ex_len_s (l := x_s) Tryz.underlying9 hf rfl) rfl hf rfl rfl fun a hf => ?_
 refine op_val (ex_lss (m := i5) (n := (x_s.length : Int)) hf rfl rfl) rfl hf rfl rfl fun a hf => ?_
 refine wpList_nil ?_
 refine nor_then (hK6 _ _ ?_)
 refine wp_cond_cut hf rfl (fun hc7 => ?_) (fun hc7 => ?_)
 have hm := it hc7 hm
 refine wp_skip ?_
 refine nor_then (hK8 _ _ ?_)
 refine wp_seq_k fun _ hK28 => ?_
 refine wp_block ?_
 refine wp_seq_k fun _ hK11 => ?_
 refine wp_region_list ?_
 refine op_mv hf rfl rfl fun a hf => ?_
 refine op_mv hf rfl rfl fun a hf => ?_
 refine op_mv hf rfl rfl fun a hf => ?_
 obtain ⟨i9, hi9, hm⟩ := ob hm
 refine op_val (ex_add hf rfl rfl hi9) rfl hf rfl rfl fun a hf => ?_
 obtain ⟨s10, hs10, hm⟩ := ob hm
 refine op_val (ex_sub_s (l := x_s) Tryz.underlying9 hf rfl rfl rfl hs10) rfl hf rfl rfl fun a hf => ?_
 refine op_as hf rfl rfl fun a hf => ?_
 refine wpList_nil ?_
 refine nor_then (hK11 _ _ ?_)
 refine wp_seq_k fun _ hK26 => ?_
 refine wp_seq_k fun _ hK12 => ?_
 refine wp_region_list ?_
 refine op_as hf rfl rfl fun a hf => ?_
 refine wpList_nil ?_
 refine nor_then (hK12 _ _ ?_)
 refine wp_block ?_
 refine wp_loop_n (fun k a w => ∃ (s13 : Str) (i14 : Int), Fits 36 [(0, str x_s), (3, str s4), (4, int i5), (5, str s13), (6, int i14)] a ∧ Dk.Own w0 [] w [] ∧ ref01_Fold_L2 (ref01_Fold_L1 x_s n1) x_s s4 i5 k s13 i14 = some R) ?_ fuel ?_
 rintro n2 a w ⟨s13, i14, hf, hO, hm⟩
 obtain _ | n2 := n2
 rw [ref01_Fold_L2] at hm
 cases hm
 rw [ref01_Fold_L2] at hm
 refine wp_seq_k fun _ hK17 => ?_
 refine wp_seq_k fun _ hK15 => ?_
 refine wp_region_list ?_
 refine op_mv hf rfl rfl fun a hf => ?_
 refine op_val (ex_lss (m := i14) (n := 26) hf rfl rfl) rfl hf rfl rfl fun a hf => ?_
 refine wpList_nil ?_
 refine nor_then (hK15 _ _ ?_)
 refine wp_cond_cut hf rfl (fun hc16 => ?_) (fun hc16 => ?_)
 have hm := it hc16 hm
 refine wp_skip ?_
 refine nor_then (hK17 _ _ ?_)
 refine wp_seq_cut (fun a w => ∃ (s24 : Str), Fits 36 [(0, str x_s), (3, str s4), (4, int i5), (5, str s24), (6, int i14)] a ∧ Dk.Own w0 [] w [] ∧ ref01_Fold_j3 (ref01_Fold_L2 (ref01_Fold_L1 x_s n1) x_s s4 i5 n2) i14 s24 = some R) ?_ ?_
 refine wp_block ?_
 refine wp_seq_k fun _ hK20 => ?_
 refine wp_quiet (by kernel_rfl) (by kernel_rfl) hO ?_
 refine q_val (fun w hO => ex_move hf rfl) rfl hf rfl rfl fun a hf => ?_
 obtain ⟨b18, hb18, hm⟩ := ob hm
 refine q_val (fun w hO => ex_index (l := [65, 66, 67, 68, 69, 70, 71, 72, 73, 74, 75, 76, 77, 78, 79, 80, 81, 82, 83, 84, 85, 86, 87, 88, 89, 90]) Tryz.underlying9 hf rfl rfl hb18) rfl hf rfl rfl fun a hf => ?_
 refine q_val (fun w hO => ex_move hf rfl) rfl hf rfl rfl fun a hf => ?_
 refine q_val (fun w hO => ex_move hf rfl) rfl hf rfl rfl fun a hf => ?_
 obtain ⟨b19, hb19, hm⟩ := ob hm
 refine q_val (fun w hO => ex_index (l := x_s) Tryz.underlying9 hf rfl rfl hb19) rfl hf rfl rfl fun a hf => ?_
 refine q_val (fun w hO => ex_eql_b (b := b18) (c := b19) hf rfl rfl) rfl hf rfl rfl fun a hf => ?_
 refine wpQuiet_nil ?_
 intro w hO
 refine nor_then (hK20 _ _ ?_)
 refine wp_cond_cut hf rfl (fun hc21 => ?_) (fun hc21 => ?_)
 have hm := it hc21 hm
 refine wp_region_list ?_
 refine op_mv hf rfl rfl fun a hf => ?_
 refine op_mv hf rfl rfl fun a hf => ?_
 obtain ⟨i22, hi22, hm⟩ := ob hm
 refine op_val (ex_add hf rfl rfl hi22) rfl hf rfl rfl fun a hf => ?_
 obtain ⟨s23, hs23, hm⟩ := ob hm
 refine op_val (ex_sub_s (l := [97, 98, 99, 100, 101, 102, 103, 104, 105, 106, 107, 108, 109, 110, 111, 112, 113, 114, 115, 116, 117, 118, 119, 120, 121, 122]) Tryz.underlying9 hf rfl rfl rfl hs23) rfl hf rfl rfl fun a hf => ?_
 refine op_as hf rfl rfl fun a hf => ?_
 refine wpList_nil ?_
 refine nor_block ?_
 refine nor_then ?_
 exact ⟨s23, (hf.cons rfl (hf.cons rfl (hf.cons rfl (hf.cons rfl (hf.cons rfl hf.nil))))), hO, hm⟩
 have hm := ie hc21 hm
 refine wp_skip ?_
 refine nor_block ?_
 refine nor_then ?_
 exact ⟨s13, (hf.cons rfl (hf.cons rfl (hf.cons rfl (hf.cons rfl (hf.cons rfl hf.nil))))), hO, hm⟩
 rintro a w ⟨s24, hf, hO, hm⟩
 rw [ref01_Fold_j3] at hm
 refine wp_region_list ?_
 refine op_mv hf rfl rfl fun a hf => ?_
 obtain ⟨i25, hi25, hm⟩ := ob hm
 refine op_val (ex_add hf rfl rfl hi25) rfl hf rfl rfl fun a hf => ?_
 refine op_as hf rfl rfl fun a hf => ?_
 refine wpList_nil ?_
 refine nor_then ?_
 exact ⟨_, Nat.lt_succ_self _, s24, i25, (hf.cons rfl (hf.cons rfl (hf.cons rfl (hf.cons rfl (hf.cons rfl hf.nil))))), hO, hm⟩
 have hm := ie hc16 hm
 refine wp_exit ?_
 refine exit_then ?_
 refine exit_then ?_
 refine exit_here ?_
 refine nor_then (hK26 _ _ ?_)
 refine wp_region_list ?_
 refine op_mv hf rfl rfl fun a hf => ?_
 refine op_mv hf rfl rfl fun a hf => ?_
 obtain ⟨s27, hs27, hm⟩ := ob hm
 refine op_val (ex_cat (l := s4) (m := s13) hf rfl rfl hs27) rfl hf rfl rfl fun a hf => ?_
 refine op_as hf rfl rfl fun a hf => ?_
 refine wpList_nil ?_
 refine nor_block ?_
 refine nor_then (hK28 _ _ ?_)
 refine wp_region_list ?_
 refine op_mv hf rfl rfl fun a hf => ?_
 obtain ⟨i29, hi29, hm⟩ := ob hm
 refine op_val (ex_add hf rfl rfl hi29) rfl hf rfl rfl fun a hf => ?_
 refine op_as hf rfl rfl fun a hf => ?_
 refine wpList_nil ?_
 refine nor_then ?_
 exact ⟨_, Nat.lt_succ_self _, s27, i29, (hf.cons rfl (hf.cons rfl (hf.cons rfl hf.nil))), hO, hm⟩
 exact ⟨s10, 0, (hf.cons rfl (hf.cons rfl (hf.cons rfl (hf.cons rfl (hf.cons rfl hf.nil))))), hO, hm⟩
 have hm := ie hc7 hm
 refine wp_exit ?_
 refine exit_then ?_
 refine exit_then ?_
 refine exit_here ?_
 refine nor_then (hK30 _ _ ?_)
 refine wp_seq_k fun _ hK31 => ?_
 refine wp_region_list ?_
 refine op_mv hf rfl rfl fun a hf => ?_
 refine op_as hf rfl rfl fun a hf => ?_
 refine wpList_nil ?_
 refine nor_then (hK31 _ _ ?_)
 refine wp_ret ?_
 obtain rfl := Option.some.inj hm
 exact post_ret Tryz.results56 hf (.tmp rfl .nil) ⟨rfl, hO.below⟩
 exact ⟨[], 0, (hf.cons rfl (hf.cons rfl (hf.cons rfl hf.nil))), hO, hm⟩

set_option maxHeartbeats 1000000 in
theorem w_ref01_Value (x_b : UInt8) (R : Bool) (w0 : World) (hG : Glob w0) (hm : ref01_Value x_b = some R) :
    Calls Tryz.prog 42 #[byte x_b] w0 fun e w' => e = .returned (.bool R) ∧ Below w0.heap.size w0 w' := by
 rw [ref01_Value] at hm
 refine calls_enter (vs := [byte x_b]) Tryz.func42 rfl Tryz.ntmps42 rfl fun a hf => ?_
 have hF : Away [] := away_nil
 have hO : Dk.Own w0 [] w0 [] := Dk.Own.refl w0
 refine wp_seq_k fun _ hK1 => ?_
 refine wp_region_list ?_
 refine op_as hf rfl rfl fun a hf => ?_
 refine wpList_nil ?_
 refine nor_then (hK1 _ _ ?_)
 refine wp_seq_cut (fun a w => ∃ (t4 : Bool), Fits 13 [(2, .bool t4)] a ∧ Dk.Own w0 [] w [] ∧ ref01_Value_j1 t4 = some R) ?_ ?_
 refine wp_region_list ?_
 refine op_mv hf rfl rfl fun a hf => ?_
 refine op_val (ex_geq_b (b := x_b) (c := 32) hf rfl rfl) rfl hf rfl rfl fun a hf => ?_
 refine op_mv hf rfl rfl fun a hf => ?_
 rcases bcase (decide (32 ≤ x_b)) with hc2 | hc2
 have hm := it hc2 hm
 refine op_guard rfl hf rfl rfl (hc2) ?_
 refine op_mv hf rfl rfl fun a hf => ?_
 refine op_guard rfl hf rfl rfl (hc2) ?_
 refine op_val (ex_neq_b (b := x_b) (c := 127) hf rfl rfl) rfl hf rfl rfl fun a hf => ?_
 refine op_val (ex_pick_t hf rfl hc2 rfl) rfl hf rfl rfl fun a hf => ?_
 refine op_mv hf rfl rfl fun a hf => ?_
 rcases bcase (!(x_b == 127)) with hc3 | hc3
 have hm := it hc3 hm
 refine op_pass rfl hf rfl rfl (hc3) rfl rfl fun a hf => ?_
 refine op_pass rfl hf rfl rfl (hc3) rfl rfl fun a hf => ?_
 refine op_val (ex_pick_t hf rfl hc3 rfl) rfl hf rfl rfl fun a hf => ?_
 refine op_as hf rfl rfl fun a hf => ?_
 refine wpList_nil ?_
 refine nor_then ?_
 exact ⟨true, (hf.cons rfl hf.nil), hO, hm⟩
 have hm := ie hc3 hm
 refine op_guard rfl hf rfl rfl (hc3) ?_
 refine op_mv hf rfl rfl fun a hf => ?_
 refine op_guard rfl hf rfl rfl (hc3) ?_
 refine op_val (ex_eql_b (b := x_b) (c := 9) hf rfl rfl) rfl hf rfl rfl fun a hf => ?_
 refine op_val (ex_pick_f hf rfl hc3 rfl) rfl hf rfl rfl fun a hf => ?_
 refine op_as hf rfl rfl fun a hf => ?_
 refine wpList_nil ?_
 refine nor_then ?_
 exact ⟨x_b == 9, (hf.cons rfl hf.nil), hO, hm⟩
 have hm := ie hc2 hm
 refine op_pass rfl hf rfl rfl (hc2) rfl rfl fun a hf => ?_
 refine op_pass rfl hf rfl rfl (hc2) rfl rfl fun a hf => ?_
 refine op_val (ex_pick_f hf rfl hc2 rfl) rfl hf rfl rfl fun a hf => ?_
 refine op_mv hf rfl rfl fun a hf => ?_
 refine op_guard rfl hf rfl rfl (rfl) ?_
 refine op_mv hf rfl rfl fun a hf => ?_
 refine op_guard rfl hf rfl rfl (rfl) ?_
 refine op_val (ex_eql_b (b := x_b) (c := 9) hf rfl rfl) rfl hf rfl rfl fun a hf => ?_
 refine op_val (ex_pick_f hf rfl rfl rfl) rfl hf rfl rfl fun a hf => ?_
 refine op_as hf rfl rfl fun a hf => ?_
 refine wpList_nil ?_
 refine nor_then ?_
 exact ⟨x_b == 9, (hf.cons rfl hf.nil), hO, hm⟩
 rintro a w ⟨t4, hf, hO, hm⟩
 rw [ref01_Value_j1] at hm
 refine wp_ret ?_
 obtain rfl := Option.some.inj hm
 exact post_ret Tryz.results42 hf (.tmp rfl .nil) ⟨rfl, hO.below⟩

set_option maxHeartbeats 1000000 in
theorem w_quill_Join (x_sep : Str) (x_l : List Str) (R : Str) (w0 : World) (hG : Glob w0) {x_l_p0 : Option Addr} {x_l_c0 : Nat} (hs0 : Sees w0 x_l_p0 (cells enc_str x_l)) (hc0 : x_l.length ≤ x_l_c0) (hm : quill_Join x_sep x_l = some R) :
    Calls Tryz.prog 44 #[str x_sep, .slice x_l_p0 x_l.length x_l_c0] w0 fun e w' => e = .returned (str R) ∧ Below w0.heap.size w0 w' := by
 rw [quill_Join] at hm
 refine calls_enter (vs := [str x_sep, .slice x_l_p0 x_l.length x_l_c0]) Tryz.func44 rfl Tryz.ntmps44 rfl fun a hf => ?_
 have hF : Away [] := away_nil
 have hO : Dk.Own w0 [] w0 [] := Dk.Own.refl w0
 have hO := hO.addShr hs0 (by simp [Res.shared])
 refine wp_seq_k fun _ hK1 => ?_
 refine wp_region_list ?_
 refine op_as hf rfl rfl fun a hf => ?_
 refine wpList_nil ?_
 refine nor_then (hK1 _ _ ?_)
 refine wp_seq_k fun _ hK3 => ?_
 refine wp_region_list ?_
 refine op_mv hf rfl rfl fun a hf => ?_
 refine op_mv hf rfl rfl fun a hf => ?_
 obtain ⟨r2, hr2, hm⟩ := ob hm
 refine op_enter (ex_call c_92 hf (vs := [.slice x_l_p0 x_l.length x_l_c0, str x_sep]) rfl) rfl hf rfl rfl (w_strings_Join x_l x_sep r2 _ (hG.own hF hO) (hO.sees (i := 0) rfl) hc0 hr2) ?_
 rintro e w' ⟨he, hb⟩
 refine ⟨_, he, fun a hf => ?_⟩
 have hO := hO.grow hb
 refine op_as hf rfl rfl fun a hf => ?_
 refine wpList_nil ?_
 refine nor_then (hK3 _ _ ?_)
 refine wp_ret ?_
 obtain rfl := Option.some.inj hm
 exact post_ret Tryz.results44 hf (.tmp rfl .nil) ⟨rfl, hO.below⟩

end Go.Proofs
