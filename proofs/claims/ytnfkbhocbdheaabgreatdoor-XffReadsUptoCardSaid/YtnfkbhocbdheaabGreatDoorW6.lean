/-
  Walks, written by a program (wip/gen): what its model says, the function returns; what was there before is as it was.
-/
import Derived.Test.YtnfkbhocbdheaabGreatDoorLib
import Derived.Test.YtnfkbhocbdheaabGreatDoorW4
import Derived.Test.YtnfkbhocbdheaabGreatDoorW5
set_option linter.unusedVariables false
set_option linter.unusedSimpArgs false
set_option maxRecDepth 100000
namespace Go.Proofs
open Go.Dk Go.Dm Go.RowKit

set_option maxHeartbeats 1000000 in
theorem w_ref08_Four (x_s : Str) (R : Bool) (w0 : World) (hG : Glob w0) (hm : ref08_Four x_s = some R) :
    Calls Tryz.prog 55 #[str x_s] w0 fun e w' => e = .returned (.bool R) ∧ Below w0.heap.size w0 w' := by
 rw [ref08_Four] at hm
 refine calls_enter (vs := [str x_s]) Tryz.func55 rfl Tryz.ntmps55 rfl fun a hf => ?_
 have hF : Away [] := away_nil
 have hO : Dk.Own w0 [] w0 [] := Dk.Own.refl w0
 refine wp_seq_k fun _ hK1 => ?_
 refine wp_region_list ?_
 refine op_as hf rfl rfl fun a hf => ?_
 refine wpList_nil ?_
 refine nor_then (hK1 _ _ ?_)
 refine wp_seq_k fun _ hK5 => ?_
 refine wp_region_list ?_
 refine op_mv hf rfl rfl fun a hf => ?_
 obtain ⟨r2, hr2, hm⟩ := ob hm
 refine op_enter (ex_call c_37 hf (vs := [str x_s, byte 46]) rfl) rfl hf rfl rfl (w_ref08_Parts x_s 46 r2 _ (hG.own hF hO) hr2) ?_
 rintro e w' ⟨p3, c4, he, hO'⟩
 refine ⟨_, he, fun a hf => ?_⟩
 have hO := hO.call hO' (by simp [Res.shared])
 refine op_as hf rfl rfl fun a hf => ?_
 refine wpList_nil ?_
 refine nor_then (hK5 _ _ ?_)
 refine wp_seq_k fun _ hK20 => ?_
 refine wp_seq_k fun _ hK6 => ?_
 refine wp_region_list ?_
 refine op_as hf rfl rfl fun a hf => ?_
 refine wpList_nil ?_
 refine nor_then (hK6 _ _ ?_)
 refine wp_block ?_
 refine wp_loop_n (fun k a w => ∃ (i7 : Int), Fits 22 [(3, .slice p3 r2.length c4), (4, int i7)] a ∧ Dk.Own w0 [] w [.row (.slice p3 r2.length c4) 9 1 r2.length (cells enc_str r2)] ∧ ref08_Four_L1 r2 k i7 = some R) ?_ fuel ?_
 rintro n1 a w ⟨i7, hf, hO, hm⟩
 obtain _ | n1 := n1
 rw [ref08_Four_L1] at hm
 cases hm
 rw [ref08_Four_L1] at hm
 refine wp_seq_k fun _ hK10 => ?_
 refine wp_seq_k fun _ hK8 => ?_
 refine wp_region_list ?_
 refine op_mv hf rfl rfl fun a hf => ?_
 refine op_mv hf rfl rfl fun a hf => ?_
 refine op_val (ex_len_l Tryz.underlying40 hf rfl) rfl hf rfl rfl fun a hf => ?_
 refine op_val (ex_lss (m := i7) (n := (r2.length : Int)) hf rfl rfl) rfl hf rfl rfl fun a hf => ?_
 refine wpList_nil ?_
 refine nor_then (hK8 _ _ ?_)
 refine wp_cond_cut hf rfl (fun hc9 => ?_) (fun hc9 => ?_)
 have hm := it hc9 hm
 refine wp_skip ?_
 refine nor_then (hK10 _ _ ?_)
 refine wp_seq_k fun _ hK18 => ?_
 refine wp_block ?_
 refine wp_seq_k fun _ hK15 => ?_
 refine wp_region_list ?_
 refine op_mv hf rfl rfl fun a hf => ?_
 refine op_mv hf rfl rfl fun a hf => ?_
 obtain ⟨x11, hx11, hm⟩ := ob hm
 obtain ⟨b12, o13, hix11, hSx11, hAx11⟩ := elemAtRow (enc := enc_str) (sz := 1) (xs := r2) 40 Tryz.underlying40 sz_9 (by decide) (fun _ => rfl) hO (i := 0) rfl hx11
 refine op_val (ex_indexAddr hix11 hf rfl rfl) rfl hf rfl rfl fun a hf => ?_
 refine op_val (ex_load1 (o := 0) ag_9 (hSx11 _ (hO.rowSees (i := 0) rfl)) rfl hf rfl) rfl hf rfl rfl fun a hf => ?_
 obtain ⟨r14, hr14, hm⟩ := ob hm
 refine op_enter (ex_call c_106 hf (vs := [str x11, int 255]) rfl) rfl hf rfl rfl (w_ref08_Small x11 255 r14 _ (hG.own hF hO) hr14) ?_
 rintro e w' ⟨he, hb⟩
 refine ⟨_, he, fun a hf => ?_⟩
 have hO := hO.grow hb
 refine op_val (ex_lss (m := r14) (n := 0) hf rfl rfl) rfl hf rfl rfl fun a hf => ?_
 refine wpList_nil ?_
 refine nor_then (hK15 _ _ ?_)
 refine wp_cond_cut hf rfl (fun hc16 => ?_) (fun hc16 => ?_)
 have hm := it hc16 hm
 refine wp_seq_k fun _ hK17 => ?_
 refine wp_region_list ?_
 refine op_as hf rfl rfl fun a hf => ?_
 refine wpList_nil ?_
 refine nor_then (hK17 _ _ ?_)
 refine wp_ret ?_
 refine ret_block ?_
 refine ret_then ?_
 refine ret_then ?_
 refine ret_block ?_
 refine ret_then ?_
 obtain rfl := Option.some.inj hm
 exact post_ret Tryz.results55 hf (.tmp rfl .nil) ⟨rfl, hO.below⟩
 have hm := ie hc16 hm
 refine wp_skip ?_
 refine nor_block ?_
 refine nor_then (hK18 _ _ ?_)
 refine wp_region_list ?_
 refine op_mv hf rfl rfl fun a hf => ?_
 obtain ⟨i19, hi19, hm⟩ := ob hm
 refine op_val (ex_add hf rfl rfl hi19) rfl hf rfl rfl fun a hf => ?_
 refine op_as hf rfl rfl fun a hf => ?_
 refine wpList_nil ?_
 refine nor_then ?_
 exact ⟨_, Nat.lt_succ_self _, i19, (hf.cons rfl (hf.cons rfl hf.nil)), hO, hm⟩
 have hm := ie hc9 hm
 refine wp_exit ?_
 refine exit_then ?_
 refine exit_then ?_
 refine exit_here ?_
 refine nor_then (hK20 _ _ ?_)
 refine wp_seq_k fun _ hK21 => ?_
 refine wp_region_list ?_
 refine op_mv hf rfl rfl fun a hf => ?_
 refine op_val (ex_len_l Tryz.underlying40 hf rfl) rfl hf rfl rfl fun a hf => ?_
 refine op_val (ex_eql (m := (r2.length : Int)) (n := 4) hf rfl rfl) rfl hf rfl rfl fun a hf => ?_
 refine op_as hf rfl rfl fun a hf => ?_
 refine wpList_nil ?_
 refine nor_then (hK21 _ _ ?_)
 refine wp_ret ?_
 obtain rfl := Option.some.inj hm
 exact post_ret Tryz.results55 hf (.tmp rfl .nil) ⟨rfl, hO.below⟩
 exact ⟨0, (hf.cons rfl (hf.cons rfl hf.nil)), hO, hm⟩

set_option maxHeartbeats 1000000 in
theorem w_ref01_Hex (x_b : UInt8) (R : Bool) (w0 : World) (hG : Glob w0) (hm : ref01_Hex x_b = some R) :
    Calls Tryz.prog 154 #[byte x_b] w0 fun e w' => e = .returned (.bool R) ∧ Below w0.heap.size w0 w' := by
 rw [ref01_Hex] at hm
 refine calls_enter (vs := [byte x_b]) Tryz.func154 rfl Tryz.ntmps154 rfl fun a hf => ?_
 have hF : Away [] := away_nil
 have hO : Dk.Own w0 [] w0 [] := Dk.Own.refl w0
 refine wp_seq_k fun _ hK1 => ?_
 refine wp_region_list ?_
 refine op_as hf rfl rfl fun a hf => ?_
 refine wpList_nil ?_
 refine nor_then (hK1 _ _ ?_)
 refine wp_seq_k fun _ hK3 => ?_
 refine wp_region_list ?_
 refine op_mv hf rfl rfl fun a hf => ?_
 obtain ⟨r2, hr2, hm⟩ := ob hm
 refine op_enter (ex_call c_133 hf (vs := [byte x_b, str [48, 49, 50, 51, 52, 53, 54, 55, 56, 57, 97, 98, 99, 100, 101, 102, 65, 66, 67, 68, 69, 70]]) rfl) rfl hf rfl rfl (w_ref01_In x_b [48, 49, 50, 51, 52, 53, 54, 55, 56, 57, 97, 98, 99, 100, 101, 102, 65, 66, 67, 68, 69, 70] r2 _ (hG.own hF hO) hr2) ?_
 rintro e w' ⟨he, hb⟩
 refine ⟨_, he, fun a hf => ?_⟩
 have hO := hO.grow hb
 refine op_as hf rfl rfl fun a hf => ?_
 refine wpList_nil ?_
 refine nor_then (hK3 _ _ ?_)
 refine wp_ret ?_
 obtain rfl := Option.some.inj hm
 exact post_ret Tryz.results154 hf (.tmp rfl .nil) ⟨rfl, hO.below⟩

set_option maxHeartbeats 1000000 in
theorem w_ref08_whole (x_s : Str) (R : Bool) (w0 : World) (hG : Glob w0) (hm : ref08_whole x_s = some R) :
    Calls Tryz.prog 105 #[str x_s] w0 fun e w' => e = .returned (.bool R) ∧ Below w0.heap.size w0 w' := by
 rw [ref08_whole] at hm
 refine calls_enter (vs := [str x_s]) Tryz.func105 rfl Tryz.ntmps105 rfl fun a hf => ?_
 have hF : Away [] := away_nil
 have hO : Dk.Own w0 [] w0 [] := Dk.Own.refl w0
 refine wp_seq_k fun _ hK1 => ?_
 refine wp_region_list ?_
 refine op_as hf rfl rfl fun a hf => ?_
 refine wpList_nil ?_
 refine nor_then (hK1 _ _ ?_)
 refine wp_seq_k fun _ hK5 => ?_
 refine wp_region_list ?_
 refine op_mv hf rfl rfl fun a hf => ?_
 obtain ⟨r2, hr2, hm⟩ := ob hm
 refine op_enter (ex_call c_37 hf (vs := [str x_s, byte 58]) rfl) rfl hf rfl rfl (w_ref08_Parts x_s 58 r2 _ (hG.own hF hO) hr2) ?_
 rintro e w' ⟨p3, c4, he, hO'⟩
 refine ⟨_, he, fun a hf => ?_⟩
 have hO := hO.call hO' (by simp [Res.shared])
 refine op_as hf rfl rfl fun a hf => ?_
 refine wpList_nil ?_
 refine nor_then (hK5 _ _ ?_)
 refine wp_seq_k fun _ hK6 => ?_
 refine wp_region_list ?_
 refine op_as hf rfl rfl fun a hf => ?_
 refine wpList_nil ?_
 refine nor_then (hK6 _ _ ?_)
 refine wp_seq_k fun _ hK57 => ?_
 refine wp_seq_k fun _ hK7 => ?_
 refine wp_region_list ?_
 refine op_as hf rfl rfl fun a hf => ?_
 refine wpList_nil ?_
 refine nor_then (hK7 _ _ ?_)
 refine wp_block ?_
 refine wp_loop_n (fun k a w => ∃ (i8 : Int) (i9 : Int), Fits 64 [(3, .slice p3 r2.length c4), (4, int i8), (5, int i9)] a ∧ Dk.Own w0 [] w [.row (.slice p3 r2.length c4) 9 1 r2.length (cells enc_str r2)] ∧ ref08_whole_L1 r2 k i8 i9 = some R) ?_ fuel ?_
 rintro n1 a w ⟨i8, i9, hf, hO, hm⟩
 obtain _ | n1 := n1
 rw [ref08_whole_L1] at hm
 cases hm
 rw [ref08_whole_L1] at hm
 refine wp_seq_k fun _ hK12 => ?_
 refine wp_seq_k fun _ hK10 => ?_
 refine wp_region_list ?_
 refine op_mv hf rfl rfl fun a hf => ?_
 refine op_mv hf rfl rfl fun a hf => ?_
 refine op_val (ex_len_l Tryz.underlying40 hf rfl) rfl hf rfl rfl fun a hf => ?_
 refine op_val (ex_lss (m := i9) (n := (r2.length : Int)) hf rfl rfl) rfl hf rfl rfl fun a hf => ?_
 refine wpList_nil ?_
 refine nor_then (hK10 _ _ ?_)
 refine wp_cond_cut hf rfl (fun hc11 => ?_) (fun hc11 => ?_)
 have hm := it hc11 hm
 refine wp_skip ?_
 refine nor_then (hK12 _ _ ?_)
 refine wp_seq_cut (fun a w => ∃ (i55 : Int), Fits 64 [(3, .slice p3 r2.length c4), (4, int i55), (5, int i9)] a ∧ Dk.Own w0 [] w [.row (.slice p3 r2.length c4) 9 1 r2.length (cells enc_str r2)] ∧ ref08_whole_j5 (ref08_whole_L1 r2 n1) i9 i55 = some R) ?_ ?_
 refine wp_block ?_
 refine wp_seq_k fun _ hK23 => ?_
 refine wp_seq_cut (fun a w => ∃ (t19 : Bool), Fits 64 [(3, .slice p3 r2.length c4), (4, int i8), (5, int i9), (26, .bool t19)] a ∧ Dk.Own w0 [] w [.row (.slice p3 r2.length c4) 9 1 r2.length (cells enc_str r2)] ∧ ref08_whole_j2 (ref08_whole_L1 r2 n1) r2 i8 i9 t19 = some R) ?_ ?_
 refine wp_region_list ?_
 refine op_mv hf rfl rfl fun a hf => ?_
 refine op_mv hf rfl rfl fun a hf => ?_
 refine op_val (ex_len_l Tryz.underlying40 hf rfl) rfl hf rfl rfl fun a hf => ?_
 obtain ⟨i13, hi13, hm⟩ := ob hm
 refine op_val (ex_sub hf rfl rfl hi13) rfl hf rfl rfl fun a hf => ?_
 refine op_val (ex_eql (m := i9) (n := i13) hf rfl rfl) rfl hf rfl rfl fun a hf => ?_
 refine op_mv hf rfl rfl fun a hf => ?_
 rcases bcase (i9 == i13) with hc14 | hc14
 have hm := it hc14 hm
 refine op_guard rfl hf rfl rfl (hc14) ?_
 refine op_mv hf rfl rfl fun a hf => ?_
 refine op_guard rfl hf rfl rfl (hc14) ?_
 refine op_mv hf rfl rfl fun a hf => ?_
 refine op_guard rfl hf rfl rfl (hc14) ?_
 obtain ⟨x15, hx15, hm⟩ := ob hm
 obtain ⟨b16, o17, hix15, hSx15, hAx15⟩ := elemAtRow (enc := enc_str) (sz := 1) (xs := r2) 40 Tryz.underlying40 sz_9 (by decide) (fun _ => rfl) hO (i := 0) rfl hx15
 refine op_val (ex_indexAddr hix15 hf rfl rfl) rfl hf rfl rfl fun a hf => ?_
 refine op_guard rfl hf rfl rfl (hc14) ?_
 refine op_val (ex_load1 (o := 0) ag_9 (hSx15 _ (hO.rowSees (i := 0) rfl)) rfl hf rfl) rfl hf rfl rfl fun a hf => ?_
 refine op_guard rfl hf rfl rfl (hc14) ?_
 obtain ⟨r18, hr18, hm⟩ := ob hm
 refine op_enter (ex_call c_55 hf (vs := [str x15]) rfl) rfl hf rfl rfl (w_ref08_Four x15 r18 _ (hG.own hF hO) hr18) ?_
 rintro e w' ⟨he, hb⟩
 refine ⟨_, he, fun a hf => ?_⟩
 have hO := hO.grow hb
 refine op_val (ex_pick_t hf rfl hc14 rfl) rfl hf rfl rfl fun a hf => ?_
 refine wpList_nil ?_
 refine nor_then ?_
 exact ⟨r18, (hf.cons rfl (hf.cons rfl (hf.cons rfl (hf.cons rfl hf.nil)))), hO, hm⟩
 have hm := ie hc14 hm
 refine op_pass rfl hf rfl rfl (hc14) rfl rfl fun a hf => ?_
 refine op_pass rfl hf rfl rfl (hc14) rfl rfl fun a hf => ?_
 refine op_pass rfl hf rfl rfl (hc14) rfl rfl fun a hf => ?_
 refine op_pass rfl hf rfl rfl (hc14) rfl rfl fun a hf => ?_
 refine op_pass rfl hf rfl rfl (hc14) rfl rfl fun a hf => ?_
 refine op_val (ex_pick_f hf rfl hc14 rfl) rfl hf rfl rfl fun a hf => ?_
 refine wpList_nil ?_
 refine nor_then ?_
 exact ⟨false, (hf.cons rfl (hf.cons rfl (hf.cons rfl (hf.cons rfl hf.nil)))), hO, hm⟩
 rintro a w ⟨t19, hf, hO, hm⟩
 rw [ref08_whole_j2] at hm
 refine wp_cond_cut hf rfl (fun hc20 => ?_) (fun hc20 => ?_)
 have hm := it hc20 hm
 refine wp_seq_k fun _ hK22 => ?_
 refine wp_region_list ?_
 refine op_mv hf rfl rfl fun a hf => ?_
 obtain ⟨i21, hi21, hm⟩ := ob hm
 refine op_val (ex_add hf rfl rfl hi21) rfl hf rfl rfl fun a hf => ?_
 refine op_as hf rfl rfl fun a hf => ?_
 refine wpList_nil ?_
 refine nor_then (hK22 _ _ ?_)
 refine wp_exit ?_
 refine exit_then ?_
 refine exit_here ?_
 refine nor_then ?_
 exact ⟨i21, (hf.cons rfl (hf.cons rfl (hf.cons rfl hf.nil))), hO, hm⟩
 have hm := ie hc20 hm
 refine wp_skip ?_
 refine nor_then (hK23 _ _ ?_)
 refine wp_seq_k fun _ hK42 => ?_
 refine wp_seq_k fun _ hK24 => ?_
 refine wp_region_list ?_
 refine op_as hf rfl rfl fun a hf => ?_
 refine wpList_nil ?_
 refine nor_then (hK24 _ _ ?_)
 refine wp_block ?_
 refine wp_loop_n (fun k a w => ∃ (i25 : Int), Fits 64 [(3, .slice p3 r2.length c4), (4, int i8), (5, int i9), (6, int i25)] a ∧ Dk.Own w0 [] w [.row (.slice p3 r2.length c4) 9 1 r2.length (cells enc_str r2)] ∧ ref08_whole_L3 (ref08_whole_L1 r2 n1) r2 i8 i9 k i25 = some R) ?_ fuel ?_
 rintro n3 a w ⟨i25, hf, hO, hm⟩
 obtain _ | n3 := n3
 rw [ref08_whole_L3] at hm
 cases hm
 rw [ref08_whole_L3] at hm
 refine wp_seq_k fun _ hK31 => ?_
 refine wp_seq_k fun _ hK29 => ?_
 refine wp_region_list ?_
 refine op_mv hf rfl rfl fun a hf => ?_
 refine op_mv hf rfl rfl fun a hf => ?_
 refine op_mv hf rfl rfl fun a hf => ?_
 obtain ⟨x26, hx26, hm⟩ := ob hm
 obtain ⟨b27, o28, hix26, hSx26, hAx26⟩ := elemAtRow (enc := enc_str) (sz := 1) (xs := r2) 40 Tryz.underlying40 sz_9 (by decide) (fun _ => rfl) hO (i := 0) rfl hx26
 refine op_val (ex_indexAddr hix26 hf rfl rfl) rfl hf rfl rfl fun a hf => ?_
 refine op_val (ex_load1 (o := 0) ag_9 (hSx26 _ (hO.rowSees (i := 0) rfl)) rfl hf rfl) rfl hf rfl rfl fun a hf => ?_
 refine op_val (ex_len_s (l := x26) Tryz.underlying9 hf rfl) rfl hf rfl rfl fun a hf => ?_
 refine op_val (ex_lss (m := i25) (n := (x26.length : Int)) hf rfl rfl) rfl hf rfl rfl fun a hf => ?_
 refine wpList_nil ?_
 refine nor_then (hK29 _ _ ?_)
 refine wp_cond_cut hf rfl (fun hc30 => ?_) (fun hc30 => ?_)
 have hm := it hc30 hm
 refine wp_skip ?_
 refine nor_then (hK31 _ _ ?_)
 refine wp_seq_k fun _ hK40 => ?_
 refine wp_block ?_
 refine wp_seq_k fun _ hK37 => ?_
 refine wp_region_list ?_
 refine op_mv hf rfl rfl fun a hf => ?_
 refine op_mv hf rfl rfl fun a hf => ?_
 obtain ⟨x32, hx32, hm⟩ := ob hm
 obtain ⟨b33, o34, hix32, hSx32, hAx32⟩ := elemAtRow (enc := enc_str) (sz := 1) (xs := r2) 40 Tryz.underlying40 sz_9 (by decide) (fun _ => rfl) hO (i := 0) rfl hx32
 refine op_val (ex_indexAddr hix32 hf rfl rfl) rfl hf rfl rfl fun a hf => ?_
 refine op_val (ex_load1 (o := 0) ag_9 (hSx32 _ (hO.rowSees (i := 0) rfl)) rfl hf rfl) rfl hf rfl rfl fun a hf => ?_
 refine op_mv hf rfl rfl fun a hf => ?_
 obtain ⟨b35, hb35, hm⟩ := ob hm
 refine op_val (ex_index (l := x32) Tryz.underlying9 hf rfl rfl hb35) rfl hf rfl rfl fun a hf => ?_
 obtain ⟨r36, hr36, hm⟩ := ob hm
 refine op_enter (ex_call c_154 hf (vs := [byte b35]) rfl) rfl hf rfl rfl (w_ref01_Hex b35 r36 _ (hG.own hF hO) hr36) ?_
 rintro e w' ⟨he, hb⟩
 refine ⟨_, he, fun a hf => ?_⟩
 have hO := hO.grow hb
 refine op_val (ex_not hf rfl) rfl hf rfl rfl fun a hf => ?_
 refine wpList_nil ?_
 refine nor_then (hK37 _ _ ?_)
 refine wp_cond_cut hf rfl (fun hc38 => ?_) (fun hc38 => ?_)
 have hm := it hc38 hm
 refine wp_seq_k fun _ hK39 => ?_
 refine wp_region_list ?_
 refine op_as hf rfl rfl fun a hf => ?_
 refine wpList_nil ?_
 refine nor_then (hK39 _ _ ?_)
 refine wp_ret ?_
 refine ret_block ?_
 refine ret_then ?_
 refine ret_then ?_
 refine ret_block ?_
 refine ret_then ?_
 refine ret_block ?_
 refine ret_then ?_
 refine ret_then ?_
 refine ret_block ?_
 refine ret_then ?_
 obtain rfl := Option.some.inj hm
 exact post_ret Tryz.results105 hf (.tmp rfl .nil) ⟨rfl, hO.below⟩
 have hm := ie hc38 hm
 refine wp_skip ?_
 refine nor_block ?_
 refine nor_then (hK40 _ _ ?_)
 refine wp_region_list ?_
 refine op_mv hf rfl rfl fun a hf => ?_
 obtain ⟨i41, hi41, hm⟩ := ob hm
 refine op_val (ex_add hf rfl rfl hi41) rfl hf rfl rfl fun a hf => ?_
 refine op_as hf rfl rfl fun a hf => ?_
 refine wpList_nil ?_
 refine nor_then ?_
 exact ⟨_, Nat.lt_succ_self _, i41, (hf.cons rfl (hf.cons rfl (hf.cons rfl (hf.cons rfl hf.nil)))), hO, hm⟩
 have hm := ie hc30 hm
 refine wp_exit ?_
 refine exit_then ?_
 refine exit_then ?_
 refine exit_here ?_
 refine nor_then (hK42 _ _ ?_)
 refine wp_seq_k fun _ hK53 => ?_
 refine wp_seq_cut (fun a w => ∃ (t50 : Bool), Fits 64 [(3, .slice p3 r2.length c4), (4, int i8), (5, int i9), (59, .bool t50)] a ∧ Dk.Own w0 [] w [.row (.slice p3 r2.length c4) 9 1 r2.length (cells enc_str r2)] ∧ ref08_whole_j4 (ref08_whole_L1 r2 n1) i8 i9 t50 = some R) ?_ ?_
 refine wp_region_list ?_
 refine op_mv hf rfl rfl fun a hf => ?_
 refine op_mv hf rfl rfl fun a hf => ?_
 obtain ⟨x43, hx43, hm⟩ := ob hm
 obtain ⟨b44, o45, hix43, hSx43, hAx43⟩ := elemAtRow (enc := enc_str) (sz := 1) (xs := r2) 40 Tryz.underlying40 sz_9 (by decide) (fun _ => rfl) hO (i := 0) rfl hx43
 refine op_val (ex_indexAddr hix43 hf rfl rfl) rfl hf rfl rfl fun a hf => ?_
 refine op_val (ex_load1 (o := 0) ag_9 (hSx43 _ (hO.rowSees (i := 0) rfl)) rfl hf rfl) rfl hf rfl rfl fun a hf => ?_
 refine op_val (ex_len_s (l := x43) Tryz.underlying9 hf rfl) rfl hf rfl rfl fun a hf => ?_
 refine op_val (ex_lss (m := (x43.length : Int)) (n := 1) hf rfl rfl) rfl hf rfl rfl fun a hf => ?_
 refine op_mv hf rfl rfl fun a hf => ?_
 rcases bcase (decide ((x43.length : Int) < 1)) with hc46 | hc46
 have hm := it hc46 hm
 refine op_pass rfl hf rfl rfl (hc46) rfl rfl fun a hf => ?_
 refine op_pass rfl hf rfl rfl (hc46) rfl rfl fun a hf => ?_
 refine op_pass rfl hf rfl rfl (hc46) rfl rfl fun a hf => ?_
 refine op_pass rfl hf rfl rfl (hc46) rfl rfl fun a hf => ?_
 refine op_pass rfl hf rfl rfl (hc46) rfl rfl fun a hf => ?_
 refine op_pass rfl hf rfl rfl (hc46) rfl rfl fun a hf => ?_
 refine op_val (ex_pick_t hf rfl hc46 rfl) rfl hf rfl rfl fun a hf => ?_
 refine wpList_nil ?_
 refine nor_then ?_
 exact ⟨true, (hf.cons rfl (hf.cons rfl (hf.cons rfl (hf.cons rfl hf.nil)))), hO, hm⟩
 have hm := ie hc46 hm
 refine op_guard rfl hf rfl rfl (hc46) ?_
 refine op_mv hf rfl rfl fun a hf => ?_
 refine op_guard rfl hf rfl rfl (hc46) ?_
 refine op_mv hf rfl rfl fun a hf => ?_
 refine op_guard rfl hf rfl rfl (hc46) ?_
 obtain ⟨x47, hx47, hm⟩ := ob hm
 obtain ⟨b48, o49, hix47, hSx47, hAx47⟩ := elemAtRow (enc := enc_str) (sz := 1) (xs := r2) 40 Tryz.underlying40 sz_9 (by decide) (fun _ => rfl) hO (i := 0) rfl hx47
 refine op_val (ex_indexAddr hix47 hf rfl rfl) rfl hf rfl rfl fun a hf => ?_
 refine op_guard rfl hf rfl rfl (hc46) ?_
 refine op_val (ex_load1 (o := 0) ag_9 (hSx47 _ (hO.rowSees (i := 0) rfl)) rfl hf rfl) rfl hf rfl rfl fun a hf => ?_
 refine op_guard rfl hf rfl rfl (hc46) ?_
 refine op_val (ex_len_s (l := x47) Tryz.underlying9 hf rfl) rfl hf rfl rfl fun a hf => ?_
 refine op_guard rfl hf rfl rfl (hc46) ?_
 refine op_val (ex_gtr (m := (x47.length : Int)) (n := 4) hf rfl rfl) rfl hf rfl rfl fun a hf => ?_
 refine op_val (ex_pick_f hf rfl hc46 rfl) rfl hf rfl rfl fun a hf => ?_
 refine wpList_nil ?_
 refine nor_then ?_
 exact ⟨decide (4 < (x47.length : Int)), (hf.cons rfl (hf.cons rfl (hf.cons rfl (hf.cons rfl hf.nil)))), hO, hm⟩
 rintro a w ⟨t50, hf, hO, hm⟩
 rw [ref08_whole_j4] at hm
 refine wp_cond_cut hf rfl (fun hc51 => ?_) (fun hc51 => ?_)
 have hm := it hc51 hm
 refine wp_seq_k fun _ hK52 => ?_
 refine wp_region_list ?_
 refine op_as hf rfl rfl fun a hf => ?_
 refine wpList_nil ?_
 refine nor_then (hK52 _ _ ?_)
 refine wp_ret ?_
 refine ret_then ?_
 refine ret_block ?_
 refine ret_then ?_
 refine ret_then ?_
 refine ret_block ?_
 refine ret_then ?_
 obtain rfl := Option.some.inj hm
 exact post_ret Tryz.results105 hf (.tmp rfl .nil) ⟨rfl, hO.below⟩
 have hm := ie hc51 hm
 refine wp_skip ?_
 refine nor_then (hK53 _ _ ?_)
 refine wp_region_list ?_
 refine op_mv hf rfl rfl fun a hf => ?_
 obtain ⟨i54, hi54, hm⟩ := ob hm
 refine op_val (ex_add hf rfl rfl hi54) rfl hf rfl rfl fun a hf => ?_
 refine op_as hf rfl rfl fun a hf => ?_
 refine wpList_nil ?_
 refine nor_block ?_
 refine nor_then ?_
 exact ⟨i54, (hf.cons rfl (hf.cons rfl (hf.cons rfl hf.nil))), hO, hm⟩
 exact ⟨0, (hf.cons rfl (hf.cons rfl (hf.cons rfl (hf.cons rfl hf.nil)))), hO, hm⟩
 rintro a w ⟨i55, hf, hO, hm⟩
 rw [ref08_whole_j5] at hm
 refine wp_region_list ?_
 refine op_mv hf rfl rfl fun a hf => ?_
 obtain ⟨i56, hi56, hm⟩ := ob hm
 refine op_val (ex_add hf rfl rfl hi56) rfl hf rfl rfl fun a hf => ?_
 refine op_as hf rfl rfl fun a hf => ?_
 refine wpList_nil ?_
 refine nor_then ?_
 exact ⟨_, Nat.lt_succ_self _, i55, i56, (hf.cons rfl (hf.cons rfl (hf.cons rfl hf.nil))), hO, hm⟩
 have hm := ie hc11 hm
 refine wp_exit ?_
 refine exit_then ?_
 refine exit_then ?_
 refine exit_here ?_
 refine nor_then (hK57 _ _ ?_)
 refine wp_seq_k fun _ hK58 => ?_
 refine wp_region_list ?_
 refine op_mv hf rfl rfl fun a hf => ?_
 refine op_val (ex_eql (m := i8) (n := 8) hf rfl rfl) rfl hf rfl rfl fun a hf => ?_
 refine op_as hf rfl rfl fun a hf => ?_
 refine wpList_nil ?_
 refine nor_then (hK58 _ _ ?_)
 refine wp_ret ?_
 obtain rfl := Option.some.inj hm
 exact post_ret Tryz.results105 hf (.tmp rfl .nil) ⟨rfl, hO.below⟩
 exact ⟨0, 0, (hf.cons rfl (hf.cons rfl (hf.cons rfl hf.nil))), hO, hm⟩

set_option maxHeartbeats 1000000 in
theorem w_ref08_Six (x_s : Str) (R : Bool) (w0 : World) (hG : Glob w0) (hm : ref08_Six x_s = some R) :
    Calls Tryz.prog 54 #[str x_s] w0 fun e w' => e = .returned (.bool R) ∧ Below w0.heap.size w0 w' := by
 rw [ref08_Six] at hm
 refine calls_enter (vs := [str x_s]) Tryz.func54 rfl Tryz.ntmps54 rfl fun a hf => ?_
 have hF : Away [] := away_nil
 have hO : Dk.Own w0 [] w0 [] := Dk.Own.refl w0
 refine wp_seq_k fun _ hK1 => ?_
 refine wp_region_list ?_
 refine op_as hf rfl rfl fun a hf => ?_
 refine wpList_nil ?_
 refine nor_then (hK1 _ _ ?_)
 refine wp_seq_k fun _ hK55 => ?_
 refine wp_seq_k fun _ hK2 => ?_
 refine wp_region_list ?_
 refine op_as hf rfl rfl fun a hf => ?_
 refine wpList_nil ?_
 refine nor_then (hK2 _ _ ?_)
 refine wp_block ?_
 refine wp_loop_n (fun k a w => ∃ (i3 : Int), Fits 59 [(0, str x_s), (3, int i3)] a ∧ Dk.Own w0 [] w [] ∧ ref08_Six_L1 x_s k i3 = some R) ?_ fuel ?_
 rintro n1 a w ⟨i3, hf, hO, hm⟩
 obtain _ | n1 := n1
 rw [ref08_Six_L1] at hm
 cases hm
 rw [ref08_Six_L1] at hm
 refine wp_seq_k fun _ hK7 => ?_
 refine wp_seq_k fun _ hK5 => ?_
 refine wp_region_list ?_
 refine op_mv hf rfl rfl fun a hf => ?_
 obtain ⟨i4, hi4, hm⟩ := ob hm
 refine op_val (ex_add hf rfl rfl hi4) rfl hf rfl rfl fun a hf => ?_
 refine op_mv hf rfl rfl fun a hf => ?_
 refine op_val (ex_len_s (l := x_s) Tryz.underlying9 hf rfl) rfl hf rfl rfl fun a hf => ?_
 refine op_val (ex_lss (m := i4) (n := (x_s.length : Int)) hf rfl rfl) rfl hf rfl rfl fun a hf => ?_
 refine wpList_nil ?_
 refine nor_then (hK5 _ _ ?_)
 refine wp_cond_cut hf rfl (fun hc6 => ?_) (fun hc6 => ?_)
 have hm := it hc6 hm
 refine wp_skip ?_
 refine nor_then (hK7 _ _ ?_)
 refine wp_seq_k fun _ hK53 => ?_
 refine wp_block ?_
 refine wp_seq_k fun _ hK14 => ?_
 refine wp_seq_cut (fun a w => ∃ (t12 : Bool), Fits 59 [(0, str x_s), (3, int i3), (24, .bool t12)] a ∧ Dk.Own w0 [] w [] ∧ ref08_Six_j2 (ref08_Six_L1 x_s n1) x_s i3 t12 = some R) ?_ ?_
 refine wp_region_list ?_
 refine op_mv hf rfl rfl fun a hf => ?_
 refine op_mv hf rfl rfl fun a hf => ?_
 obtain ⟨b8, hb8, hm⟩ := ob hm
 refine op_val (ex_index (l := x_s) Tryz.underlying9 hf rfl rfl hb8) rfl hf rfl rfl fun a hf => ?_
 refine op_val (ex_neq_b (b := b8) (c := 58) hf rfl rfl) rfl hf rfl rfl fun a hf => ?_
 refine op_mv hf rfl rfl fun a hf => ?_
 rcases bcase (!(b8 == 58)) with hc9 | hc9
 have hm := it hc9 hm
 refine op_pass rfl hf rfl rfl (hc9) rfl rfl fun a hf => ?_
 refine op_pass rfl hf rfl rfl (hc9) rfl rfl fun a hf => ?_
 refine op_pass rfl hf rfl rfl (hc9) rfl rfl fun a hf => ?_
 refine op_pass rfl hf rfl rfl (hc9) rfl rfl fun a hf => ?_
 refine op_pass rfl hf rfl rfl (hc9) rfl rfl fun a hf => ?_
 refine op_val (ex_pick_t hf rfl hc9 rfl) rfl hf rfl rfl fun a hf => ?_
 refine wpList_nil ?_
 refine nor_then ?_
 exact ⟨true, (hf.cons rfl (hf.cons rfl (hf.cons rfl hf.nil))), hO, hm⟩
 have hm := ie hc9 hm
 refine op_guard rfl hf rfl rfl (hc9) ?_
 refine op_mv hf rfl rfl fun a hf => ?_
 refine op_guard rfl hf rfl rfl (hc9) ?_
 refine op_mv hf rfl rfl fun a hf => ?_
 refine op_guard rfl hf rfl rfl (hc9) ?_
 obtain ⟨i10, hi10, hm⟩ := ob hm
 refine op_val (ex_add hf rfl rfl hi10) rfl hf rfl rfl fun a hf => ?_
 refine op_guard rfl hf rfl rfl (hc9) ?_
 obtain ⟨b11, hb11, hm⟩ := ob hm
 refine op_val (ex_index (l := x_s) Tryz.underlying9 hf rfl rfl hb11) rfl hf rfl rfl fun a hf => ?_
 refine op_guard rfl hf rfl rfl (hc9) ?_
 refine op_val (ex_neq_b (b := b11) (c := 58) hf rfl rfl) rfl hf rfl rfl fun a hf => ?_
 refine op_val (ex_pick_f hf rfl hc9 rfl) rfl hf rfl rfl fun a hf => ?_
 refine wpList_nil ?_
 refine nor_then ?_
 exact ⟨!(b11 == 58), (hf.cons rfl (hf.cons rfl (hf.cons rfl hf.nil))), hO, hm⟩
 rintro a w ⟨t12, hf, hO, hm⟩
 rw [ref08_Six_j2] at hm
 refine wp_cond_cut hf rfl (fun hc13 => ?_) (fun hc13 => ?_)
 have hm := it hc13 hm
 refine wp_exit ?_
 refine exit_then ?_
 refine exit_here ?_
 refine nor_then (hK53 _ _ ?_)
 refine wp_region_list ?_
 refine op_mv hf rfl rfl fun a hf => ?_
 obtain ⟨i54, hi54, hm⟩ := ob hm
 refine op_val (ex_add hf rfl rfl hi54) rfl hf rfl rfl fun a hf => ?_
 refine op_as hf rfl rfl fun a hf => ?_
 refine wpList_nil ?_
 refine nor_then ?_
 exact ⟨_, Nat.lt_succ_self _, i54, (hf.cons rfl (hf.cons rfl hf.nil)), hO, hm⟩
 have hm := ie hc13 hm
 refine wp_skip ?_
 refine nor_then (hK14 _ _ ?_)
 refine wp_seq_k fun _ hK51 => ?_
 refine wp_seq_k fun _ hK15 => ?_
 refine wp_region_list ?_
 refine op_as hf rfl rfl fun a hf => ?_
 refine wpList_nil ?_
 refine nor_then (hK15 _ _ ?_)
 refine wp_block ?_
 refine wp_loop_n (fun k a w => ∃ (i16 : Int), Fits 59 [(0, str x_s), (3, int i3), (4, int i16)] a ∧ Dk.Own w0 [] w [] ∧ ref08_Six_L3 x_s i3 k i16 = some R) ?_ fuel ?_
 rintro n3 a w ⟨i16, hf, hO, hm⟩
 obtain _ | n3 := n3
 rw [ref08_Six_L3] at hm
 cases hm
 rw [ref08_Six_L3] at hm
 refine wp_seq_k fun _ hK19 => ?_
 refine wp_seq_k fun _ hK17 => ?_
 refine wp_region_list ?_
 refine op_mv hf rfl rfl fun a hf => ?_
 refine op_val (ex_leq (m := i16) (n := 8) hf rfl rfl) rfl hf rfl rfl fun a hf => ?_
 refine wpList_nil ?_
 refine nor_then (hK17 _ _ ?_)
 refine wp_cond_cut hf rfl (fun hc18 => ?_) (fun hc18 => ?_)
 have hm := it hc18 hm
 refine wp_skip ?_
 refine nor_then (hK19 _ _ ?_)
 refine wp_seq_k fun _ hK49 => ?_
 refine wp_block ?_
 refine wp_seq_k fun _ hK21 => ?_
 refine wp_region_list ?_
 refine op_mv hf rfl rfl fun a hf => ?_
 refine op_mv hf rfl rfl fun a hf => ?_
 obtain ⟨s20, hs20, hm⟩ := ob hm
 refine op_val (ex_to_s (l := x_s) Tryz.underlying9 hf rfl rfl hs20) rfl hf rfl rfl fun a hf => ?_
 refine op_as hf rfl rfl fun a hf => ?_
 refine wpList_nil ?_
 refine nor_then (hK21 _ _ ?_)
 refine wp_seq_k fun _ hK35 => ?_
 refine wp_seq_k fun _ hK22 => ?_
 refine wp_region_list ?_
 refine op_as hf rfl rfl fun a hf => ?_
 refine wpList_nil ?_
 refine nor_then (hK22 _ _ ?_)
 refine wp_block ?_
 refine wp_loop_n (fun k a w => ∃ (s23 : Str) (i24 : Int), Fits 59 [(0, str x_s), (3, int i3), (4, int i16), (5, str s23), (6, int i24)] a ∧ Dk.Own w0 [] w [] ∧ ref08_Six_L4 (ref08_Six_L3 x_s i3 n3) x_s i3 i16 k s23 i24 = some R) ?_ fuel ?_
 rintro n4 a w ⟨s23, i24, hf, hO, hm⟩
 obtain _ | n4 := n4
 rw [ref08_Six_L4] at hm
 cases hm
 rw [ref08_Six_L4] at hm
 refine wp_seq_k fun _ hK27 => ?_
 refine wp_seq_k fun _ hK25 => ?_
 refine wp_region_list ?_
 refine op_mv hf rfl rfl fun a hf => ?_
 refine op_mv hf rfl rfl fun a hf => ?_
 refine op_val (ex_lss (m := i24) (n := i16) hf rfl rfl) rfl hf rfl rfl fun a hf => ?_
 refine wpList_nil ?_
 refine nor_then (hK25 _ _ ?_)
 refine wp_cond_cut hf rfl (fun hc26 => ?_) (fun hc26 => ?_)
 have hm := it hc26 hm
 refine wp_skip ?_
 refine nor_then (hK27 _ _ ?_)
 refine wp_seq_k fun _ hK33 => ?_
 refine wp_block ?_
 refine wp_seq_cut (fun a w => ∃ (s31 : Str), Fits 59 [(0, str x_s), (3, int i3), (4, int i16), (5, str s31), (6, int i24)] a ∧ Dk.Own w0 [] w [] ∧ ref08_Six_j5 (ref08_Six_L4 (ref08_Six_L3 x_s i3 n3) x_s i3 i16 n4) i24 s31 = some R) ?_ ?_
 refine wp_seq_k fun _ hK28 => ?_
 refine wp_region_list ?_
 refine op_mv hf rfl rfl fun a hf => ?_
 refine op_val (ex_neq_s (l := s23) (m := []) hf rfl rfl) rfl hf rfl rfl fun a hf => ?_
 refine wpList_nil ?_
 refine nor_then (hK28 _ _ ?_)
 refine wp_cond_cut hf rfl (fun hc29 => ?_) (fun hc29 => ?_)
 have hm := it hc29 hm
 refine wp_region_list ?_
 refine op_mv hf rfl rfl fun a hf => ?_
 obtain ⟨s30, hs30, hm⟩ := ob hm
 refine op_val (ex_cat (l := s23) (m := [58]) hf rfl rfl hs30) rfl hf rfl rfl fun a hf => ?_
 refine op_as hf rfl rfl fun a hf => ?_
 refine wpList_nil ?_
 refine nor_then ?_
 exact ⟨s30, (hf.cons rfl (hf.cons rfl (hf.cons rfl (hf.cons rfl (hf.cons rfl hf.nil))))), hO, hm⟩
 have hm := ie hc29 hm
 refine wp_skip ?_
 refine nor_then ?_
 exact ⟨s23, (hf.cons rfl (hf.cons rfl (hf.cons rfl (hf.cons rfl (hf.cons rfl hf.nil))))), hO, hm⟩
 rintro a w ⟨s31, hf, hO, hm⟩
 rw [ref08_Six_j5] at hm
 refine wp_region_list ?_
 refine op_mv hf rfl rfl fun a hf => ?_
 obtain ⟨s32, hs32, hm⟩ := ob hm
 refine op_val (ex_cat (l := s31) (m := [48]) hf rfl rfl hs32) rfl hf rfl rfl fun a hf => ?_
 refine op_as hf rfl rfl fun a hf => ?_
 refine wpList_nil ?_
 refine nor_block ?_
 refine nor_then (hK33 _ _ ?_)
 refine wp_region_list ?_
 refine op_mv hf rfl rfl fun a hf => ?_
 obtain ⟨i34, hi34, hm⟩ := ob hm
 refine op_val (ex_add hf rfl rfl hi34) rfl hf rfl rfl fun a hf => ?_
 refine op_as hf rfl rfl fun a hf => ?_
 refine wpList_nil ?_
 refine nor_then ?_
 exact ⟨_, Nat.lt_succ_self _, s32, i34, (hf.cons rfl (hf.cons rfl (hf.cons rfl (hf.cons rfl (hf.cons rfl hf.nil))))), hO, hm⟩
 have hm := ie hc26 hm
 refine wp_exit ?_
 refine exit_then ?_
 refine exit_then ?_
 refine exit_here ?_
 refine nor_then (hK35 _ _ ?_)
 refine wp_seq_cut (fun a w => ∃ (s44 : Str), Fits 59 [(0, str x_s), (3, int i3), (4, int i16), (5, str s44)] a ∧ Dk.Own w0 [] w [] ∧ ref08_Six_j6 (ref08_Six_L3 x_s i3 n3) i16 s44 = some R) ?_ ?_
 refine wp_seq_k fun _ hK38 => ?_
 refine wp_region_list ?_
 refine op_mv hf rfl rfl fun a hf => ?_
 refine op_mv hf rfl rfl fun a hf => ?_
 obtain ⟨i36, hi36, hm⟩ := ob hm
 refine op_val (ex_add hf rfl rfl hi36) rfl hf rfl rfl fun a hf => ?_
 obtain ⟨s37, hs37, hm⟩ := ob hm
 refine op_val (ex_from_s (l := x_s) Tryz.underlying9 hf rfl rfl hs37) rfl hf rfl rfl fun a hf => ?_
 refine op_val (ex_neq_s (l := s37) (m := []) hf rfl rfl) rfl hf rfl rfl fun a hf => ?_
 refine wpList_nil ?_
 refine nor_then (hK38 _ _ ?_)
 refine wp_cond_cut hf rfl (fun hc39 => ?_) (fun hc39 => ?_)
 have hm := it hc39 hm
 refine wp_region_list ?_
 refine op_mv hf rfl rfl fun a hf => ?_
 obtain ⟨s40, hs40, hm⟩ := ob hm
 refine op_val (ex_cat (l := s23) (m := [58]) hf rfl rfl hs40) rfl hf rfl rfl fun a hf => ?_
 refine op_mv hf rfl rfl fun a hf => ?_
 refine op_mv hf rfl rfl fun a hf => ?_
 obtain ⟨i41, hi41, hm⟩ := ob hm
 refine op_val (ex_add hf rfl rfl hi41) rfl hf rfl rfl fun a hf => ?_
 obtain ⟨s42, hs42, hm⟩ := ob hm
 refine op_val (ex_from_s (l := x_s) Tryz.underlying9 hf rfl rfl hs42) rfl hf rfl rfl fun a hf => ?_
 obtain ⟨s43, hs43, hm⟩ := ob hm
 refine op_val (ex_cat (l := s40) (m := s42) hf rfl rfl hs43) rfl hf rfl rfl fun a hf => ?_
 refine op_as hf rfl rfl fun a hf => ?_
 refine wpList_nil ?_
 refine nor_then ?_
 exact ⟨s43, (hf.cons rfl (hf.cons rfl (hf.cons rfl (hf.cons rfl hf.nil)))), hO, hm⟩
 have hm := ie hc39 hm
 refine wp_skip ?_
 refine nor_then ?_
 exact ⟨s23, (hf.cons rfl (hf.cons rfl (hf.cons rfl (hf.cons rfl hf.nil)))), hO, hm⟩
 rintro a w ⟨s44, hf, hO, hm⟩
 rw [ref08_Six_j6] at hm
 refine wp_seq_k fun _ hK46 => ?_
 refine wp_region_list ?_
 refine op_mv hf rfl rfl fun a hf => ?_
 obtain ⟨r45, hr45, hm⟩ := ob hm
 refine op_enter (ex_call c_105 hf (vs := [str s44]) rfl) rfl hf rfl rfl (w_ref08_whole s44 r45 _ (hG.own hF hO) hr45) ?_
 rintro e w' ⟨he, hb⟩
 refine ⟨_, he, fun a hf => ?_⟩
 have hO := hO.grow hb
 refine wpList_nil ?_
 refine nor_then (hK46 _ _ ?_)
 refine wp_cond_cut hf rfl (fun hc47 => ?_) (fun hc47 => ?_)
 have hm := it hc47 hm
 refine wp_seq_k fun _ hK48 => ?_
 refine wp_region_list ?_
 refine op_as hf rfl rfl fun a hf => ?_
 refine wpList_nil ?_
 refine nor_then (hK48 _ _ ?_)
 refine wp_ret ?_
 refine ret_block ?_
 refine ret_then ?_
 refine ret_then ?_
 refine ret_block ?_
 refine ret_then ?_
 refine ret_block ?_
 refine ret_then ?_
 refine ret_then ?_
 refine ret_block ?_
 refine ret_then ?_
 obtain rfl := Option.some.inj hm
 exact post_ret Tryz.results54 hf (.tmp rfl .nil) ⟨rfl, hO.below⟩
 have hm := ie hc47 hm
 refine wp_skip ?_
 refine nor_block ?_
 refine nor_then (hK49 _ _ ?_)
 refine wp_region_list ?_
 refine op_mv hf rfl rfl fun a hf => ?_
 obtain ⟨i50, hi50, hm⟩ := ob hm
 refine op_val (ex_add hf rfl rfl hi50) rfl hf rfl rfl fun a hf => ?_
 refine op_as hf rfl rfl fun a hf => ?_
 refine wpList_nil ?_
 refine nor_then ?_
 exact ⟨_, Nat.lt_succ_self _, i50, (hf.cons rfl (hf.cons rfl (hf.cons rfl hf.nil))), hO, hm⟩
 exact ⟨s20, 0, (hf.cons rfl (hf.cons rfl (hf.cons rfl (hf.cons rfl (hf.cons rfl hf.nil))))), hO, hm⟩
 have hm := ie hc18 hm
 refine wp_exit ?_
 refine exit_then ?_
 refine exit_then ?_
 refine exit_here ?_
 refine nor_then (hK51 _ _ ?_)
 refine wp_seq_k fun _ hK52 => ?_
 refine wp_region_list ?_
 refine op_as hf rfl rfl fun a hf => ?_
 refine wpList_nil ?_
 refine nor_then (hK52 _ _ ?_)
 refine wp_ret ?_
 refine ret_block ?_
 refine ret_then ?_
 refine ret_then ?_
 refine ret_block ?_
 refine ret_then ?_
 obtain rfl := Option.some.inj hm
 exact post_ret Tryz.results54 hf (.tmp rfl .nil) ⟨rfl, hO.below⟩
 exact ⟨1, (hf.cons rfl (hf.cons rfl (hf.cons rfl hf.nil))), hO, hm⟩
 have hm := ie hc6 hm
 refine wp_exit ?_
 refine exit_then ?_
 refine exit_then ?_
 refine exit_here ?_
 refine nor_then (hK55 _ _ ?_)
 refine wp_seq_k fun _ hK57 => ?_
 refine wp_region_list ?_
 refine op_mv hf rfl rfl fun a hf => ?_
 obtain ⟨r56, hr56, hm⟩ := ob hm
 refine op_enter (ex_call c_105 hf (vs := [str x_s]) rfl) rfl hf rfl rfl (w_ref08_whole x_s r56 _ (hG.own hF hO) hr56) ?_
 rintro e w' ⟨he, hb⟩
 refine ⟨_, he, fun a hf => ?_⟩
 have hO := hO.grow hb
 refine op_as hf rfl rfl fun a hf => ?_
 refine wpList_nil ?_
 refine nor_then (hK57 _ _ ?_)
 refine wp_ret ?_
 obtain rfl := Option.some.inj hm
 exact post_ret Tryz.results54 hf (.tmp rfl .nil) ⟨rfl, hO.below⟩
 exact ⟨0, (hf.cons rfl (hf.cons rfl hf.nil)), hO, hm⟩

end Go.Proofs
