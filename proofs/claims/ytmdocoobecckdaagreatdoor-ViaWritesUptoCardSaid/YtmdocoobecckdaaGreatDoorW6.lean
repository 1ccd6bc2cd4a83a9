/-
  Walks, written by a program (wip/gen): what its model says, the function returns; what was there before is as it was.
-/
import Derived.Test.YtmdocoobecckdaaGreatDoorLib
import Derived.Test.YtmdocoobecckdaaGreatDoorW3
import Derived.Test.YtmdocoobecckdaaGreatDoorW4
import Derived.Test.YtmdocoobecckdaaGreatDoorW5
set_option linter.unusedVariables false
set_option linter.unusedSimpArgs false
set_option maxRecDepth 100000
namespace Go.Proofs
open Go.Dk Go.Dm Go.RowKit

set_option maxHeartbeats 1000000 in
theorem w_ref08_Four (x_s : Str) (R : Bool) (w0 : World) (hG : Glob w0) (hm : ref08_Four x_s = some R) :
    Calls Tryz.prog 42 #[str x_s] w0 fun e w' => e = .returned (.bool R) ∧ Below w0.heap.size w0 w' := by
 rw [ref08_Four] at hm
 refine calls_enter (vs := [str x_s]) Tryz.func42 rfl Tryz.ntmps42 rfl fun a hf => ?_
 have hF : Away [] := away_nil
 have hO : Dk.Own w0 [] w0 [] := Dk.Own.refl w0
 refine wp_seq_k fun _ hK1 => ?_
 refine wp_region_list ?_
 refine op_as hf rfl rfl fun a hf => ?_
 refine wpList_nil ?_
 refine nor_then (hK1 _ _ ?_)
 refine wp_seq_k fun _ hK5 => ?_
 refine wp_region_list ?_
 refine op_mv hf rfl rfl fun a hf => ?_
 obtain ⟨r2, hr2, hm⟩ := ob hm
 refine op_enter (ex_call c_50 hf (vs := [str x_s, byte 46]) rfl) rfl hf rfl rfl (w_ref08_Parts x_s 46 r2 _ (hG.own hF hO) hr2) ?_
 rintro e w' ⟨p3, c4, he, hO'⟩
 refine ⟨_, he, fun a hf => ?_⟩
 have hO := hO.call hO' (by simp [Res.shared])
 refine op_as hf rfl rfl fun a hf => ?_
 refine wpList_nil ?_
 refine nor_then (hK5 _ _ ?_)
 refine wp_seq_k fun _ hK20 => ?_
 refine wp_seq_k fun _ hK6 => ?_
 refine wp_region_list ?_
 refine op_as hf rfl rfl fun a hf => ?_
 refine wpList_nil ?_
 refine nor_then (hK6 _ _ ?_)
 refine wp_block ?_
 refine wp_loop_n (fun k a w => ∃ (i7 : Int), Fits 22 [(3, .slice p3 r2.length c4), (4, int i7)] a ∧ Dk.Own w0 [] w [.row (.slice p3 r2.length c4) 9 1 r2.length (cells enc_str r2)] ∧ ref08_Four_L1 r2 k i7 = some R) ?_ fuel ?_
 rintro n1 a w ⟨i7, hf, hO, hm⟩
 obtain _ | n1 := n1
 rw [ref08_Four_L1] at hm
 cases hm
 rw [ref08_Four_L1] at hm
 refine wp_seq_k fun _ hK10 => ?_
 refine wp_seq_k fun _ hK8 => ?_
 refine wp_region_list ?_
 refine op_mv hf rfl rfl fun a hf => ?_
 refine op_mv hf rfl rfl fun a hf => ?_
 refine op_val (ex_len_l Tryz.underlying50 hf rfl) rfl hf rfl rfl fun a hf => ?_
 refine op_val (ex_lss (m := i7) (n := (r2.length : Int)) hf rfl rfl) rfl hf rfl rfl fun a hf => ?_
 refine wpList_nil ?_
 refine nor_then (hK8 _ _ ?_)
 refine wp_cond_cut hf rfl (fun hc9 => ?_) (fun hc9 => ?_)
 have hm := it hc9 hm
 refine wp_skip ?_
 refine nor_then (hK10 _ _ ?_)
 refine wp_seq_k fun _ hK18 => ?_
 refine wp_block ?_
 refine wp_seq_k fun _ hK15 => ?_
 refine wp_region_list ?_
 refine op_mv hf rfl rfl fun a hf => ?_
 refine op_mv hf rfl rfl fun a hf => ?_
 obtain ⟨x11, hx11, hm⟩ := ob hm
 obtain ⟨b12, o13, hix11, hSx11, hAx11⟩ := elemAtRow (enc := enc_str) (sz := 1) (xs := r2) 50 Tryz.underlying50 sz_9 (by decide) (fun _ => rfl) hO (i := 0) rfl hx11
 refine op_val (ex_indexAddr hix11 hf rfl rfl) rfl hf rfl rfl fun a hf => ?_
 refine op_val (ex_load1 (o := 0) ag_9 (hSx11 _ (hO.rowSees (i := 0) rfl)) rfl hf rfl) rfl hf rfl rfl fun a hf => ?_
 obtain ⟨r14, hr14, hm⟩ := ob hm
 refine op_enter (ex_call c_73 hf (vs := [str x11, int 255]) rfl) rfl hf rfl rfl (w_ref08_Small x11 255 r14 _ (hG.own hF hO) hr14) ?_
 rintro e w' ⟨he, hb⟩
 refine ⟨_, he, fun a hf => ?_⟩
 have hO := hO.grow hb
 refine op_val (ex_lss (m := r14) (n := 0) hf rfl rfl) rfl hf rfl rfl fun a hf => ?_
 refine wpList_nil ?_
 refine nor_then (hK15 _ _ ?_)
 refine wp_cond_cut hf rfl (fun hc16 => ?_) (fun hc16 => ?_)
 have hm := it hc16 hm
 refine wp_seq_k fun _ hK17 => ?_
 refine wp_region_list ?_
 refine op_as hf rfl rfl fun a hf => ?_
 refine wpList_nil ?_
 refine nor_then (hK17 _ _ ?_)
 refine wp_ret ?_
 refine ret_block ?_
 refine ret_then ?_
 refine ret_then ?_
 refine ret_block ?_
 refine ret_then ?_
 obtain rfl := Option.some.inj hm
 exact post_ret Tryz.results42 hf (.tmp rfl .nil) ⟨rfl, hO.below⟩
 have hm := ie hc16 hm
 refine wp_skip ?_
 refine nor_block ?_
 refine nor_then (hK18 _ _ ?_)
 refine wp_region_list ?_
 refine op_mv hf rfl rfl fun a hf => ?_
 obtain ⟨i19, hi19, hm⟩ := ob hm
 refine op_val (ex_add hf rfl rfl hi19) rfl hf rfl rfl fun a hf => ?_
 refine op_as hf rfl rfl fun a hf => ?_
 refine wpList_nil ?_
 refine nor_then ?_
 exact ⟨_, Nat.lt_succ_self _, i19, (hf.cons rfl (hf.cons rfl hf.nil)), hO, hm⟩
 have hm := ie hc9 hm
 refine wp_exit ?_
 refine exit_then ?_
 refine exit_then ?_
 refine exit_here ?_
 refine nor_then (hK20 _ _ ?_)
 refine wp_seq_k fun _ hK21 => ?_
 refine wp_region_list ?_
 refine op_mv hf rfl rfl fun a hf => ?_
 refine op_val (ex_len_l Tryz.underlying50 hf rfl) rfl hf rfl rfl fun a hf => ?_
 refine op_val (ex_eql (m := (r2.length : Int)) (n := 4) hf rfl rfl) rfl hf rfl rfl fun a hf => ?_
 refine op_as hf rfl rfl fun a hf => ?_
 refine wpList_nil ?_
 refine nor_then (hK21 _ _ ?_)
 refine wp_ret ?_
 obtain rfl := Option.some.inj hm
 exact post_ret Tryz.results42 hf (.tmp rfl .nil) ⟨rfl, hO.below⟩
 exact ⟨0, (hf.cons rfl (hf.cons rfl hf.nil)), hO, hm⟩

set_option maxHeartbeats 1000000 in
theorem w_ref01_Hex (x_b : UInt8) (R : Bool) (w0 : World) (hG : Glob w0) (hm : ref01_Hex x_b = some R) :
    Calls Tryz.prog 109 #[byte x_b] w0 fun e w' => e = .returned (.bool R) ∧ Below w0.heap.size w0 w' := by
 rw [ref01_Hex] at hm
 refine calls_enter (vs := [byte x_b]) Tryz.func109 rfl Tryz.ntmps109 rfl fun a hf => ?_
 have hF : Away [] := away_nil
 have hO : Dk.Own w0 [] w0 [] := Dk.Own.refl w0
 refine wp_seq_k fun _ hK1 => ?_
 refine wp_region_list ?_
 refine op_as hf rfl rfl fun a hf => ?_
 refine wpList_nil ?_
 refine nor_then (hK1 _ _ ?_)
 refine wp_seq_k fun _ hK3 => ?_
 refine wp_region_list ?_
 refine op_mv hf rfl rfl fun a hf => ?_
 obtain ⟨r2, hr2, hm⟩ := ob hm
 refine op_enter (ex_call c_105 hf (vs := [byte x_b, str [48, 49, 50, 51, 52, 53, 54, 55, 56, 57, 97, 98, 99, 100, 101, 102, 65, 66, 67, 68, 69, 70]]) rfl) rfl hf rfl rfl (w_ref01_In x_b [48, 49, 50, 51, 52, 53, 54, 55, 56, 57, 97, 98, 99, 100, 101, 102, 65, 66, 67, 68, 69, 70] r2 _ (hG.own hF hO) hr2) ?_
 rintro e w' ⟨he, hb⟩
 refine ⟨_, he, fun a hf => ?_⟩
 have hO := hO.grow hb
 refine op_as hf rfl rfl fun a hf => ?_
 refine wpList_nil ?_
 refine nor_then (hK3 _ _ ?_)
 refine wp_ret ?_
 obtain rfl := Option.some.inj hm
 exact post_ret Tryz.results109 hf (.tmp rfl .nil) ⟨rfl, hO.below⟩

set_option maxHeartbeats 1000000 in
theorem w_ref08_whole (x_s : Str) (R : Bool) (w0 : World) (hG : Glob w0) (hm : ref08_whole x_s = some R) :
    Calls Tryz.prog 72 #[str x_s] w0 fun e w' => e = .returned (.bool R) ∧ Below w0.heap.size w0 w' := by
 rw [ref08_whole] at hm
 refine calls_enter (vs := [str x_s]) Tryz.func72 rfl Tryz.ntmps72 rfl fun a hf => ?_
 have hF : Away [] := away_nil
 have hO : Dk.Own w0 [] w0 [] := Dk.Own.refl w0
 refine wp_seq_k fun _ hK1 => ?_
 refine wp_region_list ?_
 refine op_as hf rfl rfl fun a hf => ?_
 refine wpList_nil ?_
 refine nor_then (hK1 _ _ ?_)
 refine wp_seq_k fun _ hK5 => ?_
 refine wp_region_list ?_
 refine op_mv hf rfl rfl fun a hf => ?_
 obtain ⟨r2, hr2, hm⟩ := ob hm
 refine op_enter (ex_call c_50 hf (vs := [str x_s, byte 58]) rfl) rfl hf rfl rfl (w_ref08_Parts x_s 58 r2 _ (hG.own hF hO) hr2) ?_
 rintro e w' ⟨p3, c4, he, hO'⟩
 refine ⟨_, he, fun a hf => ?_⟩
 have hO := hO.call hO' (by simp [Res.shared])
 refine op_as hf rfl rfl fun a hf => ?_
 refine wpList_nil ?_
 refine nor_then (hK5 _ _ ?_)
 refine wp_seq_k fun _ hK6 => ?_
 refine wp_region_list ?_
 refine op_as hf rfl rfl fun a hf => ?_
 refine wpList_nil ?_
 refine nor_then (hK6 _ _ ?_)
 refine wp_seq_k fun _ hK57 => ?_
 refine wp_seq_k fun _ hK7 => ?_
 refine wp_region_list ?_
 refine op_as hf rfl rfl fun a hf => ?_
 refine wpList_nil ?_
 refine nor_then (hK7 _ _ ?_)
 refine wp_block ?_
 refine wp_loop_n (fun k a w => ∃ (i8 : Int) (i9 : Int), Fits 64 [(3, .slice p3 r2.length c4), (4, int i8), (5, int i9)] a ∧ Dk.Own w0 [] w [.row (.slice p3 r2.length c4) 9 1 r2.length (cells enc_str r2)] ∧ ref08_whole_L1 r2 k i8 i9 = some R) ?_ fuel ?_
 rintro n1 a w ⟨i8, i9, hf, hO, hm⟩
 obtain _ | n1 := n1
 rw [ref08_whole_L1] at hm
 cases hm
 rw [ref08_whole_L1] at hm
 refine wp_seq_k fun _ hK12 => ?_
 refine wp_seq_k fun _ hK10 => ?_
 refine wp_region_list ?_
 refine op_mv hf rfl rfl fun a hf => ?_
 refine op_mv hf rfl rfl fun a hf => ?_
 refine op_val (ex_len_l Tryz.underlying50 hf rfl) rfl hf rfl rfl fun a hf => ?_
 refine op_val (ex_lss (m := i9) (n := (r2.length : Int)) hf rfl rfl) rfl hf rfl rfl fun a hf => ?_
 refine wpList_nil ?_
 refine nor_then (hK10 _ _ ?_)
 refine wp_cond_cut hf rfl (fun hc11 => ?_) (fun hc11 => ?_)
 have hm := it hc11 hm
 refine wp_skip ?_
 refine nor_then (hK12 _ _ ?_)
 refine wp_seq_cut (fun a w => ∃ (i55 : Int), Fits 64 [(3, .slice p3 r2.length c4), (4, int i55), (5, int i9)] a ∧ Dk.Own w0 [] w [.row (.slice p3 r2.length c4) 9 1 r2.length (cells enc_str r2)] ∧ ref08_whole_j5 (ref08_whole_L1 r2 n1) i9 i55 = some R) ?_ ?_
 refine wp_block ?_
 refine wp_seq_k fun _ hK23 => ?_
 refine wp_seq_cut (fun a w => ∃ (t19 : Bool), Fits 64 [(3, .slice p3 r2.length c4), (4, int i8), (5, int i9), (26, .bool t19)] a ∧ Dk.Own w0 [] w [.row (.slice p3 r2.length c4) 9 1 r2.length (cells enc_str r2)] ∧ ref08_whole_j2 (ref08_whole_L1 r2 n1) r2 i8 i9 t19 = some R) ?_ ?_
 refine wp_region_list ?_
 refine op_mv hf rfl rfl fun a hf => ?_
 refine op_mv hf rfl rfl fun a hf => ?_
 refine op_val (ex_len_l Tryz.underlying50 hf rfl) rfl hf rfl rfl fun a hf => ?_
 obtain ⟨i13, hi13, hm⟩ := ob hm
 refine op_val (ex_sub hf rfl rfl hi13) rfl hf rfl rfl fun a hf => ?_
 refine op_val (ex_eql (m := i9) (n := i13) hf rfl rfl) rfl hf rfl rfl fun a hf => ?_
 refine op_mv hf rfl rfl fun a hf => ?_
 rcases bcase (i9 == i13) with hc14 | hc14
 have hm := it hc14 hm
 refine op_guard rfl hf rfl rfl (hc14) ?_
 refine op_mv hf rfl rfl fun a hf => ?_
 refine op_guard rfl hf rfl rfl (hc14) ?_
 refine op_mv hf rfl rfl fun a hf => ?_
 refine op_guard rfl hf rfl rfl (hc14) ?_
 obtain ⟨x15, hx15, hm⟩ := ob hm
 obtain ⟨b16, o17, hix15, hSx15, hAx15⟩ := elemAtRow (enc := enc_str) (sz := 1) (xs := r2) 50 Tryz.underlying50 sz_9 (by decide) (fun _ => rfl) hO (i := 0) rfl hx15
 refine op_val (ex_indexAddr hix15 hf rfl rfl) rfl hf rfl rfl fun a hf => ?_
 refine op_guard rfl hf rfl rfl (hc14) ?_
 refine op_val (ex_load1 (o := 0) ag_9 (hSx15 _ (hO.rowSees (i := 0) rfl)) rfl hf rfl) rfl hf rfl rfl fun a hf => ?_
 refine op_guard rfl hf rfl rfl (hc14) ?_
 obtain ⟨r18, hr18, hm⟩ := ob hm
 refine op_enter (ex_call c_42 hf (vs := [str x15]) rfl) rfl hf rfl rfl (w_ref08_Four x15 r18 _ (hG.own hF hO) hr18) ?_
 rintro e w' ⟨he, hb⟩
 refine ⟨_, he, fun a hf => ?_⟩
 have hO := hO.grow hb
 refine op_val (ex_pick_t hf rfl hc14 rfl) rfl hf rfl rfl fun a hf => ?_
 refine wpList_nil ?_
 refine nor_then ?_
 exact ⟨r18, (hf.cons rfl (hf.cons rfl (hf.cons rfl (hf.cons rfl hf.nil)))), hO, hm⟩
 have hm := ie hc14 hm
 refine op_pass rfl hf rfl rfl (hc14) rfl rfl fun a hf => ?_
 refine op_pass rfl hf rfl rfl (hc14) rfl rfl fun a hf => ?_
 refine op_pass rfl hf rfl rfl (hc14) rfl rfl fun a hf => ?_
 refine op_pass rfl hf rfl rfl (hc14) rfl rfl fun a hf => ?_
 refine op_pass rfl hf rfl rfl (hc14) rfl rfl fun a hf => ?_
 refine op_val (ex_pick_f hf rfl hc14 rfl) rfl hf rfl rfl fun a hf => ?_
 refine wpList_nil ?_
 refine nor_then ?_
 exact ⟨false, (hf.cons rfl (hf.cons rfl (hf.cons rfl (hf.cons rfl hf.nil)))), hO, hm⟩
 rintro a w ⟨t19, hf, hO, hm⟩
 rw [ref08_whole_j2] at hm
 refine wp_cond_cut hf rfl (fun hc20 => ?_) (fun hc20 => ?_)
 have hm := it hc20 hm
 refine wp_seq_k fun _ hK22 => ?_
 refine wp_region_list ?_
 refine op_mv hf rfl rfl fun a hf => ?_
 obtain ⟨i21, hi21, hm⟩ := ob hm
 refine op_val (ex_add hf rfl rfl hi21) rfl hf rfl rfl fun a hf => ?_
 refine op_as hf rfl rfl fun a hf => ?_
 refine wpList_nil ?_
 refine nor_then (hK22 _ _ ?_)
 refine wp_exit ?_
 refine exit_then ?_
 refine exit_here ?_
 refine nor_then ?_
 exact ⟨i21, (hf.cons rfl (hf.cons rfl (hf.cons rfl hf.nil))), hO, hm⟩
 have hm := ie hc20 hm
 refine wp_skip ?_
 refine nor_then (hK23 _ _ ?_)
 refine wp_seq_k fun _ hK42 => ?_
 refine wp_seq_k fun _ hK24 => ?_
 refine wp_region_list ?_
 refine op_as hf rfl rfl fun a hf => ?_
 refine wpList_nil ?_
 refine nor_then (hK24 _ _ ?_)
 refine wp_block ?_
 refine wp_loop_n (fun k a w => ∃ (i25 : Int), Fits 64 [(3, .slice p3 r2.length c4), (4, int i8), (5, int i9), (6, int i25)] a ∧ Dk.Own w0 [] w [.row (.slice p3 r2.length c4) 9 1 r2.length (cells enc_str r2)] ∧ ref08_whole_L3 (ref08_whole_L1 r2 n1) r2 i8 i9 k i25 = some R) ?_ fuel ?_
 rintro n3 a w ⟨i25, hf, hO, hm⟩
 obtain _ | n3 := n3
 rw [ref08_whole_L3] at hm
 cases hm
 rw [ref08_whole_L3] at hm
 refine wp_seq_k fun _ hK31 => ?_
 refine wp_seq_k fun _ hK29 => ?_
 refine wp_region_list ?_
 refine op_mv hf rfl rfl fun a hf => ?_
 refine op_mv hf rfl rfl fun a hf => ?_
 refine op_mv hf rfl rfl fun a hf => ?_
 obtain ⟨x26, hx26, hm⟩ := ob hm
 obtain ⟨b27, o28, hix26, hSx26, hAx26⟩ := elemAtRow (enc := enc_str) (sz := 1) (xs := r2) 50 Tryz.underlying50 sz_9 (by decide) (fun _ => rfl) hO (i := 0) rfl hx26
 refine op_val (ex_indexAddr hix26 hf rfl rfl) rfl hf rfl rfl fun a hf => ?_
 refine op_val (ex_load1 (o := 0) ag_9 (hSx26 _ (hO.rowSees (i := 0) rfl)) rfl hf rfl) rfl hf rfl rfl fun a hf => ?_
 refine op_val (ex_len_s (l := x26) Tryz.underlying9 hf rfl) rfl hf rfl rfl fun a hf => ?_
 refine op_val (ex_lss (m := i25) (n := (x26.length : Int)) hf rfl rfl) rfl hf rfl rfl fun a hf => ?_
 refine wpList_nil ?_
 refine nor_then (hK29 _ _ ?_)
 refine wp_cond_cut hf rfl (fun hc30 => ?_) (fun hc30 => ?_)
 have hm := it hc30 hm
 refine wp_skip ?_
 refine nor_then (hK31 _ _ ?_)
 refine wp_seq_k fun _ hK40 => ?_
 refine wp_block ?_
 refine wp_seq_k fun _ hK37 => ?_
 refine wp_region_list ?_
 refine op_mv hf rfl rfl fun a hf => ?_
 refine op_mv hf rfl rfl fun a hf => ?_
 obtain ⟨x32, hx32, hm⟩ := ob hm
 obtain ⟨b33, o34, hix32, hSx32, hAx32⟩ := elemAtRow (enc := enc_str) (sz := 1) (xs := r2) 50 Tryz.underlying50 sz_9 (by decide) (fun _ => rfl) hO (i := 0) rfl hx32
 refine op_val (ex_indexAddr hix32 hf rfl rfl) rfl hf rfl rfl fun a hf => ?_
 refine op_val (ex_load1 (o := 0) ag_9 (hSx32 _ (hO.rowSees (i := 0) rfl)) rfl hf rfl) rfl hf rfl rfl fun a hf => ?_
 refine op_mv hf rfl rfl fun a hf => ?_
 obtain ⟨b35, hb35, hm⟩ := ob hm
 refine op_val (ex_index (l := x32) Tryz.underlying9 hf rfl rfl hb35) rfl hf rfl rfl fun a hf => ?_
 obtain ⟨r36, hr36, hm⟩ := ob hm
 refine op_enter (ex_call c_109 hf (vs := [byte b35]) rfl) rfl hf rfl rfl (w_ref01_Hex b35 r36 _ (hG.own hF hO) hr36) ?_
 rintro e w' ⟨he, hb⟩
 refine ⟨_, he, fun a hf => ?_⟩
 have hO := hO.grow hb
 refine op_val (ex_not hf rfl) rfl hf rfl rfl fun a hf => ?_
 refine wpList_nil ?_
 refine nor_then (hK37 _ _ ?_)
 refine wp_cond_cut hf rfl (fun hc38 => ?_) (fun hc38 => ?_)
 have hm := it hc38 hm
 refine wp_seq_k fun _ hK39 => ?_
 refine wp_region_list ?_
 refine op_as hf rfl rfl fun a hf => ?_
 refine wpList_nil ?_
 refine nor_then (hK39 _ _ ?_)
 refine wp_ret ?_
 refine ret_block ?_
 refine ret_then ?_
 refine ret_then ?_
 refine ret_block ?_
 refine ret_then ?_
 refine ret_block ?_
 refine ret_then ?_
 refine ret_then ?_
 refine ret_block ?_
 refine ret_then ?_
 obtain rfl := Option.some.inj hm
 exact post_ret Tryz.results72 hf (.tmp rfl .nil) ⟨rfl, hO.below⟩
 have hm := ie hc38 hm
 refine wp_skip ?_
 refine nor_block ?_
 refine nor_then (hK40 _ _ ?_)
 refine wp_region_list ?_
 refine op_mv hf rfl rfl fun a hf => ?_
 obtain ⟨i41, hi41, hm⟩ := ob hm
 refine op_val (ex_add hf rfl rfl hi41) rfl hf rfl rfl fun a hf => ?_
 refine op_as hf rfl rfl fun a hf => ?_
 refine wpList_nil ?_
 refine nor_then ?_
 exact ⟨_, Nat.lt_succ_self _, i41, (hf.cons rfl (hf.cons rfl (hf.cons rfl (hf.cons rfl hf.nil)))), hO, hm⟩
 have hm := ie hc30 hm
 refine wp_exit ?_
 refine exit_then ?_
 refine exit_then ?_
 refine exit_here ?_
 refine nor_then (hK42 _ _ ?_)
 refine wp_seq_k fun _ hK53 => ?_
 refine wp_seq_cut (fun a w => ∃ (t50 : Bool), Fits 64 [(3, .slice p3 r2.length c4), (4, int i8), (5, int i9), (59, .bool t50)] a ∧ Dk.Own w0 [] w [.row (.slice p3 r2.length c4) 9 1 r2.length (cells enc_str r2)] ∧ ref08_whole_j4 (ref08_whole_L1 r2 n1) i8 i9 t50 = some R) ?_ ?_
 refine wp_region_list ?_
 refine op_mv hf rfl rfl fun a hf => ?_
 refine op_mv hf rfl rfl fun a hf => ?_
 obtain ⟨x43, hx43, hm⟩ := ob hm
 obtain ⟨b44, o45, hix43, hSx43, hAx43⟩ := elemAtRow (enc := enc_str) (sz := 1) (xs := r2) 50 Tryz.underlying50 sz_9 (by decide) (fun _ => rfl) hO (i := 0) rfl hx43
 refine op_val (ex_indexAddr hix43 hf rfl rfl) rfl hf rfl rfl fun a hf => ?_
 refine op_val (ex_load1 (o := 0) ag_9 (hSx43 _ (hO.rowSees (i := 0) rfl)) rfl hf rfl) rfl hf rfl rfl fun a hf => ?_
 refine op_val (ex_len_s (l := x43) Tryz.underlying9 hf rfl) rfl hf rfl rfl fun a hf => ?_
 refine op_val (ex_lss (m := (x43.length : Int)) (n := 1) hf rfl rfl) rfl hf rfl rfl fun a hf => ?_
 refine op_mv hf rfl rfl fun a hf => ?_
 rcases bcase (decide ((x43.length : Int) < 1)) with hc46 | hc46
 have hm := it hc46 hm
 refine op_pass rfl hf rfl rfl (hc46) rfl rfl fun a hf => ?_
 refine op_pass rfl hf rfl rfl (hc46) rfl rfl fun a hf => ?_
 refine op_pass rfl hf rfl rfl (hc46) rfl rfl fun a hf => ?_
 refine op_pass rfl hf rfl rfl (hc46) rfl rfl fun a hf => ?_
 refine op_pass rfl hf rfl rfl (hc46) rfl rfl fun a hf => ?_
 refine op_pass rfl hf rfl rfl (hc46) rfl rfl fun a hf => ?_
 refine op_val (ex_pick_t hf rfl hc46 rfl) rfl hf rfl rfl fun a hf => ?_
 refine wpList_nil ?_
 refine nor_then ?_
 exact ⟨true, (hf.cons rfl (hf.cons rfl (hf.cons rfl (hf.cons rfl hf.nil)))), hO, hm⟩
 have hm := ie hc46 hm
 refine op_guard rfl hf rfl rfl (hc46) ?_
 refine op_mv hf rfl rfl fun a hf => ?_
 refine op_guard rfl hf rfl rfl (hc46) ?_
 refine op_mv hf rfl rfl fun a hf => ?_
 refine op_guard rfl hf rfl rfl (hc46) ?_
 obtain ⟨x47, hx47, hm⟩ := ob hm
 obtain ⟨b48, o49, hix47, hSx47, hAx47⟩ := elemAtRow (enc := enc_str) (sz := 1) (xs := r2) 50 Tryz.underlying50 sz_9 (by decide) (fun _ => rfl) hO (i := 0) rfl hx47
 refine op_val (ex_indexAddr hix47 hf rfl rfl) rfl hf rfl rfl fun a hf => ?_
 refine op_guard rfl hf rfl rfl (hc46) ?_
 refine op_val (ex_load1 (o := 0) ag_9 (hSx47 _ (hO.rowSees (i := 0) rfl)) rfl hf rfl) rfl hf rfl rfl fun a hf => ?_
 refine op_guard rfl hf rfl rfl (hc46) ?_
 refine op_val (ex_len_s (l := x47) Tryz.underlying9 hf rfl) rfl hf rfl rfl fun a hf => ?_
 refine op_guard rfl hf rfl rfl (hc46) ?_
 refine op_val (ex_gtr (m := (x47.length : Int)) (n := 4) hf rfl rfl) rfl hf rfl rfl fun a hf => ?_
 refine op_val (ex_pick_f hf rfl hc46 rfl) rfl hf rfl rfl fun a hf => ?_
 refine wpList_nil ?_
 refine nor_then ?_
 exact ⟨decide (4 < (x47.length : Int)), (hf.cons rfl (hf.cons rfl (hf.cons rfl (hf.cons rfl hf.nil)))), hO, hm⟩
 rintro a w ⟨t50, hf, hO, hm⟩
 rw [ref08_whole_j4] at hm
 refine wp_cond_cut hf rfl (fun hc51 => ?_) (fun hc51 => ?_)
 have hm := it hc51 hm
 refine wp_seq_k fun _ hK52 => ?_
 refine wp_region_list ?_
 refine op_as hf rfl rfl fun a hf => ?_
 refine wpList_nil ?_
 refine nor_then (hK52 _ _ ?_)
 refine wp_ret ?_
 refine ret_then ?_
 refine ret_block ?_
 refine ret_then ?_
 refine ret_then ?_
 refine ret_block ?_
 refine ret_then ?_
 obtain rfl := Option.some.inj hm
 exact post_ret Tryz.results72 hf (.tmp rfl .nil) ⟨rfl, hO.below⟩
 have hm := ie hc51 hm
 refine wp_skip ?_
 refine nor_then (hK53 _ _ ?_)
 refine wp_region_list ?_
 refine op_mv hf rfl rfl fun a hf => ?_
 obtain ⟨i54, hi54, hm⟩ := ob hm
 refine op_val (ex_add hf rfl rfl hi54) rfl hf rfl rfl fun a hf => ?_
 refine op_as hf rfl rfl fun a hf => ?_
 refine wpList_nil ?_
 refine nor_block ?_
 refine nor_then ?_
 exact ⟨i54, (hf.cons rfl (hf.cons rfl (hf.cons rfl hf.nil))), hO, hm⟩
 exact ⟨0, (hf.cons rfl (hf.cons rfl (hf.cons rfl (hf.cons rfl hf.nil)))), hO, hm⟩
 rintro a w ⟨i55, hf, hO, hm⟩
 rw [ref08_whole_j5] at hm
 refine wp_region_list ?_
 refine op_mv hf rfl rfl fun a hf => ?_
 obtain ⟨i56, hi56, hm⟩ := ob hm
 refine op_val (ex_add hf rfl rfl hi56) rfl hf rfl rfl fun a hf => ?_
 refine op_as hf rfl rfl fun a hf => ?_
 refine wpList_nil ?_
 refine nor_then ?_
 exact ⟨_, Nat.lt_succ_self _, i55, i56, (hf.cons rfl (hf.cons rfl (hf.cons rfl hf.nil))), hO, hm⟩
 have hm := ie hc11 hm
 refine wp_exit ?_
 refine exit_then ?_
 refine exit_then ?_
 refine exit_here ?_
 refine nor_then (hK57 _ _ ?_)
 refine wp_seq_k fun _ hK58 => ?_
 refine wp_region_list ?_
 refine op_mv hf rfl rfl fun a hf => ?_
 refine op_val (ex_eql (m := i8) (n := 8) hf rfl rfl) rfl hf rfl rfl fun a hf => ?_
 refine op_as hf rfl rfl fun a hf => ?_
 refine wpList_nil ?_
 refine nor_then (hK58 _ _ ?_)
 refine wp_ret ?_
 obtain rfl := Option.some.inj hm
 exact post_ret Tryz.results72 hf (.tmp rfl .nil) ⟨rfl, hO.below⟩
 exact ⟨0, 0, (hf.cons rfl (hf.cons rfl (hf.cons rfl hf.nil))), hO, hm⟩

set_option maxHeartbeats 1000000 in
theorem w_ref08_Six (x_s : Str) (R : Bool) (w0 : World) (hG : Glob w0) (hm : ref08_Six x_s = some R) :
    Calls Tryz.prog 41 #[str x_s] w0 fun e w' => e = .returned (.bool R) ∧ Below w0.heap.size w0 w' := by
 rw [ref08_Six] at hm
 refine calls_enter (vs := [str x_s]) Tryz.func41 rfl Tryz.ntmps41 rfl fun a hf => ?_
 have hF : Away [] := away_nil
 have hO : Dk.Own w0 [] w0 [] := Dk.Own.refl w0
 refine wp_seq_k fun _ hK1 => ?_
 refine wp_region_list ?_
 refine op_as hf rfl rfl fun a hf => ?_
 refine wpList_nil ?_
 refine nor_then (hK1 _ _ ?_)
 refine wp_seq_k fun _ hK55 => ?_
 refine wp_seq_k fun _ hK2 => ?_
 refine wp_region_list ?_
 refine op_as hf rfl rfl fun a hf => ?_
 refine wpList_nil ?_
 refine nor_then (hK2 _ _ ?_)
 refine wp_block ?_
 refine wp_loop_n (fun k a w => ∃ (i3 : Int), Fits 59 [(0, str x_s), (3, int i3)] a ∧ Dk.Own w0 [] w [] ∧ ref08_Six_L1 x_s k i3 = some R) ?_ fuel ?_
 rintro n1 a w ⟨i3, hf, hO, hm⟩
 obtain _ | n1 := n1
 rw [ref08_Six_L1] at hm
 cases hm
 rw [ref08_Six_L1] at hm
 refine wp_seq_k fun _ hK7 => ?_
 refine wp_seq_k fun _ hK5 => ?_
 refine wp_region_list ?_
 refine op_mv hf rfl rfl fun a hf => ?_
 obtain ⟨i4, hi4, hm⟩ := ob hm
 refine op_val (ex_add hf rfl rfl hi4) rfl hf rfl rfl fun a hf => ?_
 refine op_mv hf rfl rfl fun a hf => ?_
 refine op_val (ex_len_s (l := x_s) Tryz.underlying9 hf rfl) rfl hf rfl rfl fun a hf => ?_
 refine op_val (ex_lss (m := i4) (n := (x_s.length : Int)) hf rfl rfl) rfl hf rfl rfl fun a hf => ?_
 refine wpList_nil ?_
 refine nor_then (hK5 _ _ ?_)
 refine wp_cond_cut hf rfl (fun hc6 => ?_) (fun hc6 => ?_)
 have hm := it hc6 hm
 refine wp_skip ?_
 refine nor_then (hK7 _ _ ?_)
 refine wp_seq_k fun _ hK53 => ?_
 refine wp_block ?_
 refine wp_seq_k fun _ hK14 => ?_
 refine wp_seq_cut (fun a w => ∃ (t12 : Bool), Fits 59 [(0, str x_s), (3, int i3), (24, .bool t12)] a ∧ Dk.Own w0 [] w [] ∧ ref08_Six_j2 (ref08_Six_L1 x_s n1) x_s i3 t12 = some R) ?_ ?_
 refine wp_region_list ?_
 refine op_mv hf rfl rfl fun a hf => ?_
 refine op_mv hf rfl rfl fun a hf => ?_
 obtain ⟨b8, hb8, hm⟩ := ob hm
 refine op_val (ex_index (l := x_s) Tryz.underlying9 hf rfl rfl hb8) rfl hf rfl rfl fun a hf => ?_
 refine op_val (ex_neq_b (b := b8) (c := 58) hf rfl rfl) rfl hf rfl rfl fun a hf => ?_
 refine op_mv hf rfl rfl fun a hf => ?_
 rcases bcase (!(b8 == 58)) with hc9 | hc9
 have hm := it hc9 hm
 refine op_pass rfl hf rfl rfl (hc9) rfl rfl fun a hf => ?_
 refine op_pass rfl hf rfl rfl (hc9) rfl rfl fun a hf => ?_
 refine op_pass rfl hf rfl rfl (hc9) rfl rfl fun a hf => ?_
 refine op_pass rfl hf rfl rfl (hc9) rfl rfl fun a hf => ?_
 refine op_pass rfl hf rfl rfl (hc9) rfl rfl fun a hf => ?_
 refine op_val (ex_pick_t hf rfl hc9 rfl) rfl hf rfl rfl fun a hf => ?_
 refine wpList_nil ?_
 refine nor_then ?_
 exact ⟨true, (hf.cons rfl (hf.cons rfl (hf.cons rfl hf.nil))), hO, hm⟩
 have hm := ie hc9 hm
 refine op_guard rfl hf rfl rfl (hc9) ?_
 refine op_mv hf rfl rfl fun a hf => ?_
 refine op_guard rfl hf rfl rfl (hc9) ?_
 refine op_mv hf rfl rfl fun a hf => ?_
 refine op_guard rfl hf rfl rfl (hc9) ?_
 obtain ⟨i10, hi10, hm⟩ := ob hm
 refine op_val (ex_add hf rfl rfl hi10) rfl hf rfl rfl fun a hf => ?_
 refine op_guard rfl hf rfl rfl (hc9) ?_
 obtain ⟨b11, hb11, hm⟩ := ob hm
 refine op_val (ex_index (l := x_s) Tryz.underlying9 hf rfl rfl hb11) rfl hf rfl rfl fun a hf => ?_
 refine op_guard rfl hf rfl rfl (hc9) ?_
 refine op_val (ex_neq_b (b := b11) (c := 58) hf rfl rfl) rfl hf rfl rfl fun a hf => ?_
 refine op_val (ex_pick_f hf rfl hc9 rfl) rfl hf rfl rfl fun a hf => ?_
 refine wpList_nil ?_
 refine nor_then ?_
 exact ⟨!(b11 == 58), (hf.cons rfl (hf.cons rfl (hf.cons rfl hf.nil))), hO, hm⟩
 rintro a w ⟨t12, hf, hO, hm⟩
 rw [ref08_Six_j2] at hm
 refine wp_cond_cut hf rfl (fun hc13 => ?_) (fun hc13 => ?_)
 have hm := it hc13 hm
 refine wp_exit ?_
 refine exit_then ?_
 refine exit_here ?_
 refine nor_then (hK53 _ _ ?_)
 refine wp_region_list ?_
 refine op_mv hf rfl rfl fun a hf => ?_
 obtain ⟨i54, hi54, hm⟩ := ob hm
 refine op_val (ex_add hf rfl rfl hi54) rfl hf rfl rfl fun a hf => ?_
 refine op_as hf rfl rfl fun a hf => ?_
 refine wpList_nil ?_
 refine nor_then ?_
 exact ⟨_, Nat.lt_succ_self _, i54, (hf.cons rfl (hf.cons rfl hf.nil)), hO, hm⟩
 have hm := ie hc13 hm
 refine wp_skip ?_
 refine nor_then (hK14 _ _ ?_)
 refine wp_seq_k fun _ hK51 => ?_
 refine wp_seq_k fun _ hK15 => ?_
 refine wp_region_list ?_
 refine op_as hf rfl rfl fun a hf => ?_
 refine wpList_nil ?_
 refine nor_then (hK15 _ _ ?_)
 refine wp_block ?_
 refine wp_loop_n (fun k a w => ∃ (i16 : Int), Fits 59 [(0, str x_s), (3, int i3), (4, int i16)] a ∧ Dk.Own w0 [] w [] ∧ ref08_Six_L3 x_s i3 k i16 = some R) ?_ fuel ?_
 rintro n3 a w ⟨i16, hf, hO, hm⟩
 obtain _ | n3 := n3
 rw [ref08_Six_L3] at hm
 cases hm
 rw [ref08_Six_L3] at hm
 refine wp_seq_k fun _ hK19 => ?_
 refine wp_seq_k fun _ hK17 => ?_
 refine wp_region_list ?_
 refine op_mv hf rfl rfl fun a hf => ?_
 refine op_val (ex_leq (m := i16) (n := 8) hf rfl rfl) rfl hf rfl rfl fun a hf => ?_
 refine wpList_nil ?_
 refine nor_then (hK17 _ _ ?_)
 refine wp_cond_cut hf rfl (fun hc18 => ?_) (fun hc18 => ?_)
 have hm := it hc18 hm
 refine wp_skip ?_
 refine nor_then (hK19 _ _ ?_)
 refine wp_seq_k fun _ hK49 => ?_
 refine wp_block ?_
 refine wp_seq_k fun _ hK21 => ?_
 refine wp_region_list ?_
 refine op_mv hf rfl rfl fun a hf => ?_
 refine op_mv hf rfl rfl fun a hf => ?_
 obtain ⟨s20, hs20, hm⟩ := ob hm
 refine op_val (ex_to_s (l := x_s) Tryz.underlying9 hf rfl rfl hs20) rfl hf rfl rfl fun a hf => ?_
 refine op_as hf rfl rfl fun a hf => ?_
 refine wpList_nil ?_
 refine nor_then (hK21 _ _ ?_)
 refine wp_seq_k fun _ hK35 => ?_
 refine wp_seq_k fun _ hK22 => ?_
 refine wp_region_list ?_
 refine op_as hf rfl rfl fun a hf => ?_
 refine wpList_nil ?_
 refine nor_then (hK22 _ _ ?_)
 refine wp_block ?_
 refine wp_loop_n (fun k a w => ∃ (s23 : Str) (i24 : Int), Fits 59 [(0, str x_s), (3, int i3), (4, int i16), (5, str s23), (6, int i24)] a ∧ Dk.Own w0 [] w [] ∧ ref08_Six_L4 (ref08_Six_L3 x_s i3 n3) x_s i3 i16 k s23 i24 = some R) ?_ fuel ?_
 rintro n4 a w ⟨s23, i24, hf, hO, hm⟩
 obtain _ | n4 := n4
 rw [ref08_Six_L4] at hm
 cases hm
 rw [ref08_Six_L4] at hm
 refine wp_seq_k fun _ hK27 => ?_
 refine wp_seq_k fun _ hK25 => ?_
 refine wp_region_list ?_
 refine op_mv hf rfl rfl fun a hf => ?_
 refine op_mv hf rfl rfl fun a hf => ?_
 refine op_val (ex_lss (m := i24) (n := i16) hf rfl rfl) rfl hf rfl rfl fun a hf => ?_
 refine wpList_nil ?_
 refine nor_then (hK25 _ _ ?_)
 refine wp_cond_cut hf rfl (fun hc26 => ?_) (fun hc26 => ?_)
 have hm := it hc26 hm
 refine wp_skip ?_
 refine nor_then (hK27 _ _ ?_)
 refine wp_seq_k fun _ hK33 => ?_
 refine wp_block ?_
 refine wp_seq_cut (fun a w => ∃ (s31 : Str), Fits 59 [(0, str x_s), (3, int i3), (4, int i16), (5, str s31), (6, int i24)] a ∧ Dk.Own w0 [] w [] ∧ ref08_Six_j5 (ref08_Six_L4 (ref08_Six_L3 x_s i3 n3) x_s i3 i16 n4) i24 s31 = some R) ?_ ?_
 refine wp_seq_k fun _ hK28 => ?_
 refine wp_region_list ?_
 refine op_mv hf rfl rfl fun a hf => ?_
 refine op_val (ex_neq_s (l := s23) (m := []) hf rfl rfl) rfl hf rfl rfl fun a hf => ?_
 refine wpList_nil ?_
 refine nor_then (hK28 _ _ ?_)
 refine wp_cond_cut hf rfl (fun hc29 => ?_) (fun hc29 => ?_)
 have hm := it hc29 hm
 refine wp_region_list ?_
 refine op_mv hf rfl rfl fun a hf => ?_
 obtain ⟨s30, hs30, hm⟩ := ob hm
 refine op_val (ex_cat (l := s23) (m := [58]) hf rfl rfl hs30) rfl hf rfl rfl fun a hf => ?_
 refine op_as hf rfl rfl fun a hf => ?_
 refine wpList_nil ?_
 refine nor_then ?_
 exact ⟨s30, (hf.cons rfl (hf.cons rfl (hf.cons rfl (hf.cons rfl (hf.cons rfl hf.nil))))), hO, hm⟩
 have hm := ie hc29 hm
 refine wp_skip ?_
 refine nor_then ?_
 exact ⟨s23, (hf.cons rfl (hf.cons rfl (hf.cons rfl (hf.cons rfl (hf.cons rfl hf.nil))))), hO, hm⟩
 rintro a w ⟨s31, hf, hO, hm⟩
 rw [ref08_Six_j5] at hm
 refine wp_region_list ?_
 refine op_mv hf rfl rfl fun a hf => ?_
 obtain ⟨s32, hs32, hm⟩ := ob hm
 refine op_val (ex_cat (l := s31) (m := [48]) hf rfl rfl hs32) rfl hf rfl rfl fun a hf => ?_
 refine op_as hf rfl rfl fun a hf => ?_
 refine wpList_nil ?_
 refine nor_block ?_
 refine nor_then (hK33 _ _ ?_)
 refine wp_region_list ?_
 refine op_mv hf rfl rfl fun a hf => ?_
 obtain ⟨i34, hi34, hm⟩ := ob hm
 refine op_val (ex_add hf rfl rfl hi34) rfl hf rfl rfl fun a hf => ?_
 refine op_as hf rfl rfl fun a hf => ?_
 refine wpList_nil ?_
 refine nor_then ?_
 exact ⟨_, Nat.lt_succ_self _, s32, i34, (hf.cons rfl (hf.cons rfl (hf.cons rfl (hf.cons rfl (hf.cons rfl hf.nil))))), hO, hm⟩
 have hm := ie hc26 hm
 refine wp_exit ?_
 refine exit_then ?_
 refine exit_then ?_
 refine exit_here ?_
 refine nor_then (hK35 _ _ ?_)
 refine wp_seq_cut (fun a w => ∃ (s44 : Str), Fits 59 [(0, str x_s), (3, int i3), (4, int i16), (5, str s44)] a ∧ Dk.Own w0 [] w [] ∧ ref08_Six_j6 (ref08_Six_L3 x_s i3 n3) i16 s44 = some R) ?_ ?_
 refine wp_seq_k fun _ hK38 => ?_
 refine wp_region_list ?_
 refine op_mv hf rfl rfl fun a hf => ?_
 refine op_mv hf rfl rfl fun a hf => ?_
 obtain ⟨i36, hi36, hm⟩ := ob hm
 refine op_val (ex_add hf rfl rfl hi36) rfl hf rfl rfl fun a hf => ?_
 obtain ⟨s37, hs37, hm⟩ := ob hm
 refine op_val (ex_from_s (l := x_s) Tryz.underlying9 hf rfl rfl hs37) rfl hf rfl rfl fun a hf => ?_
 refine op_val (ex_neq_s (l := s37) (m := []) hf rfl rfl) rfl hf rfl rfl fun a hf => ?_
 refine wpList_nil ?_
 refine nor_then (hK38 _ _ ?_)
 refine wp_cond_cut hf rfl (fun hc39 => ?_) (fun hc39 => ?_)
 have hm := it hc39 hm
 refine wp_region_list ?_
 refine op_mv hf rfl rfl fun a hf => ?_
 obtain ⟨s40, hs40, hm⟩ := ob hm
 refine op_val (ex_cat (l := s23) (m := [58]) hf rfl rfl hs40) rfl hf rfl rfl fun a hf => ?_
 refine op_mv hf rfl rfl fun a hf => ?_
 refine op_mv hf rfl rfl fun a hf => ?_
 obtain ⟨i41, hi41, hm⟩ := ob hm
 refine op_val (ex_add hf rfl rfl hi41) rfl hf rfl rfl fun a hf => ?_
 obtain ⟨s42, hs42, hm⟩ := ob hm
 refine op_val (ex_from_s (l := x_s) Tryz.underlying9 hf rfl rfl hs42) rfl hf rfl rfl fun a hf => ?_
 obtain ⟨s43, hs43, hm⟩ := ob hm
 refine op_val (ex_cat (l := s40) (m := s42) hf rfl rfl hs43) rfl hf rfl rfl fun a hf => ?_
 refine op_as hf rfl rfl fun a hf => ?_
 refine wpList_nil ?_
 refine nor_then ?_
 exact ⟨s43, (hf.cons rfl (hf.cons rfl (hf.cons rfl (hf.cons rfl hf.nil)))), hO, hm⟩
 have hm := ie hc39 hm
 refine wp_skip ?_
 refine nor_then ?_
 exact ⟨s23, (hf.cons rfl (hf.cons rfl (hf.cons rfl (hf.cons rfl hf.nil)))), hO, hm⟩
 rintro a w ⟨s44, hf, hO, hm⟩
 rw [ref08_Six_j6] at hm
 refine wp_seq_k fun _ hK46 => ?_
 refine wp_region_list ?_
 refine op_mv hf rfl rfl fun a hf => ?_
 obtain ⟨r45, hr45, hm⟩ := ob hm
 refine op_enter (ex_call c_72 hf (vs := [str s44]) rfl) rfl hf rfl rfl (w_ref08_whole s44 r45 _ (hG.own hF hO) hr45) ?_
 rintro e w' ⟨he, hb⟩
 refine ⟨_, he, fun a hf => ?_⟩
 have hO := hO.grow hb
 refine wpList_nil ?_
 refine nor_then (hK46 _ _ ?_)
 refine wp_cond_cut hf rfl (fun hc47 => ?_) (fun hc47 => ?_)
 have hm := it hc47 hm
 refine wp_seq_k fun _ hK48 => ?_
 refine wp_region_list ?_
 refine op_as hf rfl rfl fun a hf => ?_
 refine wpList_nil ?_
 refine nor_then (hK48 _ _ ?_)
 refine wp_ret ?_
 refine ret_block ?_
 refine ret_then ?_
 refine ret_then ?_
 refine ret_block ?_
 refine ret_then ?_
 refine ret_block ?_
 refine ret_then ?_
 refine ret_then ?_
 refine ret_block ?_
 refine ret_then ?_
 obtain rfl := Option.some.inj hm
 exact post_ret Tryz.results41 hf (.tmp rfl .nil) ⟨rfl, hO.below⟩
 have hm := ie hc47 hm
 refine wp_skip ?_
 refine nor_block ?_
 refine nor_then (hK49 _ _ ?_)
 refine wp_region_list ?_
 refine op_mv hf rfl rfl fun a hf => ?_
 obtain ⟨i50, hi50, hm⟩ := ob hm
 refine op_val (ex_add hf rfl rfl hi50) rfl hf rfl rfl fun a hf => ?_
 refine op_as hf rfl rfl fun a hf => ?_
 refine wpList_nil ?_
 refine nor_then ?_
 exact ⟨_, Nat.lt_succ_self _, i50, (hf.cons rfl (hf.cons rfl (hf.cons rfl hf.nil))), hO, hm⟩
 exact ⟨s20, 0, (hf.cons rfl (hf.cons rfl (hf.cons rfl (hf.cons rfl (hf.cons rfl hf.nil))))), hO, hm⟩
 have hm := ie hc18 hm
 refine wp_exit ?_
 refine exit_then ?_
 refine exit_then ?_
 refine exit_here ?_
 refine nor_then (hK51 _ _ ?_)
 refine wp_seq_k fun _ hK52 => ?_
 refine wp_region_list ?_
 refine op_as hf rfl rfl fun a hf => ?_
 refine wpList_nil ?_
 refine nor_then (hK52 _ _ ?_)
 refine wp_ret ?_
 refine ret_block ?_
 refine ret_then ?_
 refine ret_then ?_
 refine ret_block ?_
 refine ret_then ?_
 obtain rfl := Option.some.inj hm
 exact post_ret Tryz.results41 hf (.tmp rfl .nil) ⟨rfl, hO.below⟩
 exact ⟨1, (hf.cons rfl (hf.cons rfl (hf.cons rfl hf.nil))), hO, hm⟩
 have hm := ie hc6 hm
 refine wp_exit ?_
 refine exit_then ?_
 refine exit_then ?_
 refine exit_here ?_
 refine nor_then (hK55 _ _ ?_)
 refine wp_seq_k fun _ hK57 => ?_
 refine wp_region_list ?_
 refine op_mv hf rfl rfl fun a hf => ?_
 obtain ⟨r56, hr56, hm⟩ := ob hm
 refine op_enter (ex_call c_72 hf (vs := [str x_s]) rfl) rfl hf rfl rfl (w_ref08_whole x_s r56 _ (hG.own hF hO) hr56) ?_
 rintro e w' ⟨he, hb⟩
 refine ⟨_, he, fun a hf => ?_⟩
 have hO := hO.grow hb
 refine op_as hf rfl rfl fun a hf => ?_
 refine wpList_nil ?_
 refine nor_then (hK57 _ _ ?_)
 refine wp_ret ?_
 obtain rfl := Option.some.inj hm
 exact post_ret Tryz.results41 hf (.tmp rfl .nil) ⟨rfl, hO.below⟩
 exact ⟨0, (hf.cons rfl (hf.cons rfl hf.nil)), hO, hm⟩

set_option maxHeartbeats 1000000 in
theorem w_commas_splitter_end (x_p : commas_splitter) (x_at : Int) (R : commas_splitter) (w0 : World) (hG : Glob w0) {x_p_b0 : Nat} {x_p_b1 : Nat} {x_p_p2 : Option Addr} {x_p_c2 : Nat} {F : List Nat} (hF : Away F) (hO : Dk.Own w0 F w0 [.blk x_p_b0 [ptr x_p_b1 0, .slice x_p_p2 x_p.f_out.length x_p_c2, int x_p.f_from, str x_p.f_s] 138, .blk x_p_b1 [str x_p.Scanner.f_s, int x_p.Scanner.f_at] 126, .row (.slice x_p_p2 x_p.f_out.length x_p_c2) 9 1 x_p.f_out.length (cells enc_str x_p.f_out)]) (hm : commas_splitter_end x_p x_at = some R) :
    Calls Tryz.prog 92 #[ptr x_p_b0 0, int x_at] w0 fun e w' => ∃ (p0 : Option Addr) (c0 : Nat), e = .returned (.tuple #[]) ∧ Dk.Own w0 F w' [.blk x_p_b0 [ptr x_p_b1 0, .slice p0 R.f_out.length c0, int R.f_from, str R.f_s] 138, .blk x_p_b1 [str R.Scanner.f_s, int R.Scanner.f_at] 126, .row (.slice p0 R.f_out.length c0) 9 1 R.f_out.length (cells enc_str R.f_out)] := by
 rw [commas_splitter_end] at hm
 refine calls_enter (vs := [ptr x_p_b0 0, int x_at]) Tryz.func92 rfl Tryz.ntmps92 rfl fun a hf => ?_
 refine wp_seq_cut (fun a w => ∃ (p10 : Option Addr) (c11 : Nat) (l12 : List Str), Fits 36 [(0, ptr x_p_b0 0)] a ∧ Dk.Own w0 F w [.blk x_p_b0 [ptr x_p_b1 0, .slice p10 l12.length c11, int x_p.f_from, str x_p.f_s] 138, .blk x_p_b1 [str x_p.Scanner.f_s, int x_p.Scanner.f_at] 126, .row (.slice p10 l12.length c11) 9 1 l12.length (cells enc_str l12)] ∧ commas_splitter_end_j1 x_p l12 = some R) ?_ ?_
 refine wp_seq_k fun _ hK3 => ?_
 refine wp_quiet (by kernel_rfl) (by kernel_rfl) hO ?_
 refine q_val (fun w hO => ex_move hf rfl) rfl hf rfl rfl fun a hf => ?_
 refine q_val (fun w hO => ex_nilCheck hf rfl) rfl hf rfl rfl fun a hf => ?_
 refine q_val (fun w hO => ex_field fa_138_3 hf rfl) rfl hf rfl rfl fun a hf => ?_
 refine q_val (fun w hO => ex_load1 (o := 3) ag_9 (hO.blkSees (i := 0) rfl) rfl hf rfl) rfl hf rfl rfl fun a hf => ?_
 refine q_val (fun w hO => ex_move hf rfl) rfl hf rfl rfl fun a hf => ?_
 refine q_val (fun w hO => ex_nilCheck hf rfl) rfl hf rfl rfl fun a hf => ?_
 refine q_val (fun w hO => ex_field fa_138_2 hf rfl) rfl hf rfl rfl fun a hf => ?_
 refine q_val (fun w hO => ex_load1 (o := 2) ag_3 (hO.blkSees (i := 0) rfl) rfl hf rfl) rfl hf rfl rfl fun a hf => ?_
 refine q_val (fun w hO => ex_move hf rfl) rfl hf rfl rfl fun a hf => ?_
 obtain ⟨s1, hs1, hm⟩ := ob hm
 refine q_val (fun w hO => ex_sub_s (l := x_p.f_s) Tryz.underlying9 hf rfl rfl rfl hs1) rfl hf rfl rfl fun a hf => ?_
 obtain ⟨r2, hr2, hm⟩ := ob hm
 refine q_call (fun w hO => ex_call c_130 hf (vs := [str s1, str [32, 9]]) rfl) rfl hf rfl rfl (fun w hO => (w_strings_Trim s1 [32, 9] r2 _ (hG.own hF hO) hr2).mono fun e w' ⟨he, hb⟩ => ⟨he, hO.grow hb⟩) fun a hf => ?_
 refine q_val (fun w hO => ex_assign hf rfl) rfl hf rfl rfl fun a hf => ?_
 refine wpQuiet_nil ?_
 intro w hO
 refine nor_then (hK3 _ _ ?_)
 refine wp_seq_k fun _ hK4 => ?_
 refine wp_region_list ?_
 refine op_mv hf rfl rfl fun a hf => ?_
 refine op_val (ex_neq_s (l := r2) (m := []) hf rfl rfl) rfl hf rfl rfl fun a hf => ?_
 refine wpList_nil ?_
 refine nor_then (hK4 _ _ ?_)
 refine wp_cond_cut hf rfl (fun hc5 => ?_) (fun hc5 => ?_)
 have hm := it hc5 hm
 refine wp_region_list ?_
 refine op_mv hf rfl rfl fun a hf => ?_
 refine op_mv hf rfl rfl fun a hf => ?_
 refine op_val (ex_nilCheck hf rfl) rfl hf rfl rfl fun a hf => ?_
 refine op_val (ex_field fa_138_1 hf rfl) rfl hf rfl rfl fun a hf => ?_
 refine op_val (ex_load1 (o := 1) ag_50 (hO.blkSees (i := 0) rfl) rfl hf rfl) rfl hf rfl rfl fun a hf => ?_
 refine op_mv hf rfl rfl fun a hf => ?_
 refine op_buildSlice (vs := [(0, str r2)]) (cs := [str r2]) (e := 9) (sz := 1) hf rfl rfl (fun w => by kernel_rfl) rfl rfl hO fun a b6 w hf hO => ?_
 obtain ⟨hg9, hm⟩ := og hm
 refine op_appendT el_50 (enc := enc_str) (xs := x_p.f_out) (ys := ([r2] : List Str)) (i := 3) (fun _ => rfl) rfl (hO.rowSees (i := 0) rfl) (by simp [cells, enc_str, Value.oneCell']) hg9 hf rfl rfl rfl hO fun a p7 c8 w hf hO => ?_
 refine op_val (ex_nilCheck hf rfl) rfl hf rfl rfl fun a hf => ?_
 refine op_val (ex_field fa_138_1 hf rfl) rfl hf rfl rfl fun a hf => ?_
 refine op_store1 (i := 1) (o := 1) (v := .slice p7 ((x_p.f_out ++ ([r2] : List Str)).length) c8) sz_50 rfl rfl rfl rfl hf rfl rfl hO fun w hO => ?_
 refine wpList_nil ?_
 refine nor_then ?_
 exact ⟨p7, c8, x_p.f_out ++ ([r2] : List Str), (hf.cons rfl hf.nil), (hO.sub (.cons _ (.cons_cons _ (.cons_cons _ (.cons_cons _ .slnil))))), hm⟩
 have hm := ie hc5 hm
 refine wp_skip ?_
 refine nor_then ?_
 exact ⟨x_p_p2, x_p_c2, x_p.f_out, (hf.cons rfl hf.nil), hO, hm⟩
 rintro a w ⟨p10, c11, l12, hf, hO, hm⟩
 rw [commas_splitter_end_j1] at hm
 refine wp_region_list ?_
 refine op_mv hf rfl rfl fun a hf => ?_
 refine op_mv hf rfl rfl fun a hf => ?_
 refine op_val (ex_nilCheck hf rfl) rfl hf rfl rfl fun a hf => ?_
 refine op_val (ex_field fa_138_0 hf rfl) rfl hf rfl rfl fun a hf => ?_
 refine op_val (ex_load1 (o := 0) ag_88 (hO.blkSees (i := 0) rfl) rfl hf rfl) rfl hf rfl rfl fun a hf => ?_
 obtain ⟨r13, hr13, hm⟩ := ob hm
 refine op_enter (ex_call c_120 hf (vs := [ptr x_p_b1 0]) rfl) rfl hf rfl rfl (w_scan_Scanner_At x_p.Scanner r13 _ (hG.own hF hO) (hO.blkSees (i := 1) rfl) hr13) ?_
 rintro e w' ⟨he, hb⟩
 refine ⟨_, he, fun a hf => ?_⟩
 have hO := hO.grow hb
 refine op_val (ex_nilCheck hf rfl) rfl hf rfl rfl fun a hf => ?_
 refine op_val (ex_field fa_138_2 hf rfl) rfl hf rfl rfl fun a hf => ?_
 refine op_store1 (i := 0) (o := 2) (v := int r13) sz_3 rfl rfl rfl rfl hf rfl rfl hO fun w hO => ?_
 refine wpList_nil ?_
 obtain rfl := Option.some.inj hm
 exact post_end Tryz.results92 hf .nil ⟨p10, c11, rfl, hO⟩

set_option maxHeartbeats 1000000 in
theorem w_commas_splitter_comment (x_p : commas_splitter) (R : Bool × commas_splitter) (w0 : World) (hG : Glob w0) {x_p_b0 : Nat} {x_p_b1 : Nat} {x_p_p2 : Option Addr} {x_p_c2 : Nat} {F : List Nat} (hF : Away F) (hO : Dk.Own w0 F w0 [.blk x_p_b0 [ptr x_p_b1 0, .slice x_p_p2 x_p.f_out.length x_p_c2, int x_p.f_from, str x_p.f_s] 138, .blk x_p_b1 [str x_p.Scanner.f_s, int x_p.Scanner.f_at] 126, .row (.slice x_p_p2 x_p.f_out.length x_p_c2) 9 1 x_p.f_out.length (cells enc_str x_p.f_out)]) (hm : commas_splitter_comment x_p = some R) :
    Calls Tryz.prog 128 #[ptr x_p_b0 0] w0 fun e w' => ∃ (p0 : Option Addr) (c0 : Nat), e = .returned (.bool R.1) ∧ Dk.Own w0 F w' [.blk x_p_b0 [ptr x_p_b1 0, .slice p0 R.2.f_out.length c0, int R.2.f_from, str R.2.f_s] 138, .blk x_p_b1 [str R.2.Scanner.f_s, int R.2.Scanner.f_at] 126, .row (.slice p0 R.2.f_out.length c0) 9 1 R.2.f_out.length (cells enc_str R.2.f_out)] := by
 rw [commas_splitter_comment] at hm
 refine calls_enter (vs := [ptr x_p_b0 0]) Tryz.func128 rfl Tryz.ntmps128 rfl fun a hf => ?_
 refine wp_seq_k fun _ hK1 => ?_
 refine wp_region_list ?_
 refine op_as hf rfl rfl fun a hf => ?_
 refine wpList_nil ?_
 refine nor_then (hK1 _ _ ?_)
 refine wp_seq_cut (fun a w => ∃ (s33 : Str) (i34 : Int), Fits 52 [] a ∧ Dk.Own w0 F w [.blk x_p_b0 [ptr x_p_b1 0, .slice x_p_p2 x_p.f_out.length x_p_c2, int x_p.f_from, str x_p.f_s] 138, .blk x_p_b1 [str s33, int i34] 126, .row (.slice x_p_p2 x_p.f_out.length x_p_c2) 9 1 x_p.f_out.length (cells enc_str x_p.f_out)] ∧ commas_splitter_comment_j2 x_p s33 i34 = some R) ?_ ?_
 refine wp_seq_k fun _ hK2 => ?_
 refine wp_region_list ?_
 refine op_as hf rfl rfl fun a hf => ?_
 refine wpList_nil ?_
 refine nor_then (hK2 _ _ ?_)
 refine wp_block ?_
 refine wp_loop_n (fun k a w => ∃ (s3 : Str) (i4 : Int) (i5 : Int), Fits 52 [(0, ptr x_p_b0 0), (3, int i5)] a ∧ Dk.Own w0 F w [.blk x_p_b0 [ptr x_p_b1 0, .slice x_p_p2 x_p.f_out.length x_p_c2, int x_p.f_from, str x_p.f_s] 138, .blk x_p_b1 [str s3, int i4] 126, .row (.slice x_p_p2 x_p.f_out.length x_p_c2) 9 1 x_p.f_out.length (cells enc_str x_p.f_out)] ∧ commas_splitter_comment_L1 x_p k s3 i4 i5 = some R) ?_ fuel ?_
 rintro n1 a w ⟨s3, i4, i5, hf, hO, hm⟩
 obtain _ | n1 := n1
 rw [commas_splitter_comment_L1] at hm
 cases hm
 rw [commas_splitter_comment_L1] at hm
 refine wp_seq_k fun _ hK8 => ?_
 refine wp_seq_k fun _ hK6 => ?_
 refine wp_region_list ?_
 refine op_mv hf rfl rfl fun a hf => ?_
 refine op_val (ex_gtr (m := i5) (n := 0) hf rfl rfl) rfl hf rfl rfl fun a hf => ?_
 refine wpList_nil ?_
 refine nor_then (hK6 _ _ ?_)
 refine wp_cond_cut hf rfl (fun hc7 => ?_) (fun hc7 => ?_)
 have hm := it hc7 hm
 refine wp_skip ?_
 refine nor_then (hK8 _ _ ?_)
 refine wp_block ?_
 refine wp_seq_k fun _ hK10 => ?_
 refine wp_region_list ?_
 refine op_mv hf rfl rfl fun a hf => ?_
 refine op_val (ex_nilCheck hf rfl) rfl hf rfl rfl fun a hf => ?_
 refine op_val (ex_field fa_138_0 hf rfl) rfl hf rfl rfl fun a hf => ?_
 refine op_val (ex_load1 (o := 0) ag_88 (hO.blkSees (i := 0) rfl) rfl hf rfl) rfl hf rfl rfl fun a hf => ?_
 obtain ⟨r9, hr9, hm⟩ := ob hm
 refine op_enter (ex_call c_79 hf (vs := [ptr x_p_b1 0]) rfl) rfl hf rfl rfl (w_scan_Scanner_Peek (⟨s3, i4⟩ : scan_Scanner) r9 _ (hG.own hF hO) (hO.blkSees (i := 1) rfl) hr9) ?_
 rintro e w' ⟨he, hb⟩
 refine ⟨_, he, fun a hf => ?_⟩
 have hO := hO.grow hb
 refine op_mv hf rfl rfl fun a hf => ?_
 refine op_val (ex_extract hf rfl rfl) rfl hf rfl rfl fun a hf => ?_
 refine op_val (ex_extract hf rfl rfl) rfl hf rfl rfl fun a hf => ?_
 refine op_as hf rfl rfl fun a hf => ?_
 refine op_as hf rfl rfl fun a hf => ?_
 refine wpList_nil ?_
 refine nor_then (hK10 _ _ ?_)
 refine wp_seq_k fun _ hK14 => ?_
 refine wp_seq_k fun _ hK11 => ?_
 refine wp_region_list ?_
 refine op_mv hf rfl rfl fun a hf => ?_
 refine op_val (ex_not hf rfl) rfl hf rfl rfl fun a hf => ?_
 refine wpList_nil ?_
 refine nor_then (hK11 _ _ ?_)
 refine wp_cond_cut hf rfl (fun hc12 => ?_) (fun hc12 => ?_)
 have hm := it hc12 hm
 refine wp_seq_k fun _ hK13 => ?_
 refine wp_region_list ?_
 refine op_as hf rfl rfl fun a hf => ?_
 refine wpList_nil ?_
 refine nor_then (hK13 _ _ ?_)
 refine wp_ret ?_
 refine ret_then ?_
 refine ret_block ?_
 refine ret_then ?_
 refine ret_block ?_
 refine ret_then ?_
 obtain rfl := Option.some.inj hm
 exact post_ret Tryz.results128 hf (.tmp rfl .nil) ⟨x_p_p2, x_p_c2, rfl, hO⟩
 have hm := ie hc12 hm
 refine wp_skip ?_
 refine nor_then (hK14 _ _ ?_)
 refine wp_seq_k fun _ hK17 => ?_
 refine wp_region_list ?_
 refine op_mv hf rfl rfl fun a hf => ?_
 refine op_val (ex_nilCheck hf rfl) rfl hf rfl rfl fun a hf => ?_
 refine op_val (ex_field fa_138_0 hf rfl) rfl hf rfl rfl fun a hf => ?_
 refine op_val (ex_load1 (o := 0) ag_88 (hO.blkSees (i := 0) rfl) rfl hf rfl) rfl hf rfl rfl fun a hf => ?_
 refine op_mv hf rfl rfl fun a hf => ?_
 obtain ⟨r15, hr15, hm⟩ := ob hm
 have hch16 := (show Dk.Own w0 F _ ([.blk x_p_b1 [str s3, int i4] 126] ++ [.blk x_p_b0 [ptr x_p_b1 0, .slice x_p_p2 x_p.f_out.length x_p_c2, int x_p.f_from, str x_p.f_s] 138, .row (.slice x_p_p2 x_p.f_out.length x_p_c2) 9 1 x_p.f_out.length (cells enc_str x_p.f_out)]) from hO.choose [1, 0, 2] rfl)
 have hfar16 := Dk.Own.far hch16 rfl hF hG.size
 have hlend16 := hch16.lend (S := []) rfl trivial
 have hcl16 := w_scan_Scanner_Byte (⟨s3, i4⟩ : scan_Scanner) r9.1 r15 _ (hG.own hF hO) hfar16 hlend16 hr15
 refine op_enter (ex_call c_47 hf (vs := [ptr x_p_b1 0, byte r9.1]) rfl) rfl hf rfl rfl (hcl16) ?_
 rintro e w' ⟨he, hO'⟩
 refine ⟨_, he, fun a hf => ?_⟩
 have hO := hch16.back rfl hO' rfl
 refine wpList_nil ?_
 refine nor_then (hK17 _ _ ?_)
 refine wp_seq_k fun _ hK18 => ?_
 refine wp_region_list ?_
 refine op_mv hf rfl rfl fun a hf => ?_
 refine wpList_nil ?_
 refine nor_then (hK18 _ _ ?_)
 refine wp_block ?_
 refine wp_seq_k fun _ hK19 => ?_
 refine wp_region_list ?_
 refine op_val (ex_eql_b (b := r9.1) (c := 40) hf rfl rfl) rfl hf rfl rfl fun a hf => ?_
 refine op_as hf rfl rfl fun a hf => ?_
 refine wpList_nil ?_
 refine nor_then (hK19 _ _ ?_)
 refine wp_cond_cut hf rfl (fun hc20 => ?_) (fun hc20 => ?_)
 have hm := it hc20 hm
 refine wp_region_list ?_
 refine op_mv hf rfl rfl fun a hf => ?_
 obtain ⟨i21, hi21, hm⟩ := ob hm
 refine op_val (ex_add hf rfl rfl hi21) rfl hf rfl rfl fun a hf => ?_
 refine op_as hf rfl rfl fun a hf => ?_
 refine wpList_nil ?_
 refine nor_block ?_
 refine nor_block ?_
 refine nor_then ?_
 exact ⟨_, Nat.lt_succ_self _, r15.2.f_s, r15.2.f_at, i21, (hf.cons rfl (hf.cons rfl hf.nil)), (hO.choose [1, 0, 2] rfl), hm⟩
 have hm := ie hc20 hm
 refine wp_seq_k fun _ hK22 => ?_
 refine wp_region_list ?_
 refine op_val (ex_eql_b (b := r9.1) (c := 41) hf rfl rfl) rfl hf rfl rfl fun a hf => ?_
 refine op_as hf rfl rfl fun a hf => ?_
 refine wpList_nil ?_
 refine nor_then (hK22 _ _ ?_)
 refine wp_cond_cut hf rfl (fun hc23 => ?_) (fun hc23 => ?_)
 have hm := it hc23 hm
 refine wp_region_list ?_
 refine op_mv hf rfl rfl fun a hf => ?_
 obtain ⟨i24, hi24, hm⟩ := ob hm
 refine op_val (ex_sub hf rfl rfl hi24) rfl hf rfl rfl fun a hf => ?_
 refine op_as hf rfl rfl fun a hf => ?_
 refine wpList_nil ?_
 refine nor_block ?_
 refine nor_block ?_
 refine nor_then ?_
 exact ⟨_, Nat.lt_succ_self _, r15.2.f_s, r15.2.f_at, i24, (hf.cons rfl (hf.cons rfl hf.nil)), (hO.choose [1, 0, 2] rfl), hm⟩
 have hm := ie hc23 hm
 refine wp_seq_k fun _ hK25 => ?_
 refine wp_region_list ?_
 refine op_val (ex_eql_b (b := r9.1) (c := 92) hf rfl rfl) rfl hf rfl rfl fun a hf => ?_
 refine op_as hf rfl rfl fun a hf => ?_
 refine wpList_nil ?_
 refine nor_then (hK25 _ _ ?_)
 refine wp_cond_cut hf rfl (fun hc26 => ?_) (fun hc26 => ?_)
 have hm := it hc26 hm
 refine wp_seq_k fun _ hK28 => ?_
 refine wp_region_list ?_
 refine op_mv hf rfl rfl fun a hf => ?_
 refine op_val (ex_nilCheck hf rfl) rfl hf rfl rfl fun a hf => ?_
 refine op_val (ex_field fa_138_0 hf rfl) rfl hf rfl rfl fun a hf => ?_
 refine op_val (ex_load1 (o := 0) ag_88 (hO.blkSees (i := 1) rfl) rfl hf rfl) rfl hf rfl rfl fun a hf => ?_
 obtain ⟨r27, hr27, hm⟩ := ob hm
 refine op_enter (ex_call c_79 hf (vs := [ptr x_p_b1 0]) rfl) rfl hf rfl rfl (w_scan_Scanner_Peek r15.2 r27 _ (hG.own hF hO) (hO.blkSees (i := 0) rfl) hr27) ?_
 rintro e w' ⟨he, hb⟩
 refine ⟨_, he, fun a hf => ?_⟩
 have hO := hO.grow hb
 refine op_mv hf rfl rfl fun a hf => ?_
 refine op_val (ex_extract hf rfl rfl) rfl hf rfl rfl fun a hf => ?_
 refine op_val (ex_extract hf rfl rfl) rfl hf rfl rfl fun a hf => ?_
 refine op_as hf rfl rfl fun a hf => ?_
 refine op_as hf rfl rfl fun a hf => ?_
 refine wpList_nil ?_
 refine nor_then (hK28 _ _ ?_)
 refine wp_seq_k fun _ hK29 => ?_
 refine wp_region_list ?_
 refine op_mv hf rfl rfl fun a hf => ?_
 refine wpList_nil ?_
 refine nor_then (hK29 _ _ ?_)
 refine wp_cond_cut hf rfl (fun hc30 => ?_) (fun hc30 => ?_)
 have hm := it hc30 hm
 refine wp_region_list ?_
 refine op_mv hf rfl rfl fun a hf => ?_
 refine op_val (ex_nilCheck hf rfl) rfl hf rfl rfl fun a hf => ?_
 refine op_val (ex_field fa_138_0 hf rfl) rfl hf rfl rfl fun a hf => ?_
 refine op_val (ex_load1 (o := 0) ag_88 (hO.blkSees (i := 1) rfl) rfl hf rfl) rfl hf rfl rfl fun a hf => ?_
 refine op_mv hf rfl rfl fun a hf => ?_
 obtain ⟨r31, hr31, hm⟩ := ob hm
 have hch32 := (show Dk.Own w0 F _ ([.blk x_p_b1 [str r15.2.f_s, int r15.2.f_at] 126] ++ [.blk x_p_b0 [ptr x_p_b1 0, .slice x_p_p2 x_p.f_out.length x_p_c2, int x_p.f_from, str x_p.f_s] 138, .row (.slice x_p_p2 x_p.f_out.length x_p_c2) 9 1 x_p.f_out.length (cells enc_str x_p.f_out)]) from hO)
 have hfar32 := Dk.Own.far hch32 rfl hF hG.size
 have hlend32 := hch32.lend (S := []) rfl trivial
 have hcl32 := w_scan_Scanner_Byte r15.2 r27.1 r31 _ (hG.own hF hO) hfar32 hlend32 hr31
 refine op_enter (ex_call c_47 hf (vs := [ptr x_p_b1 0, byte r27.1]) rfl) rfl hf rfl rfl (hcl32) ?_
 rintro e w' ⟨he, hO'⟩
 refine ⟨_, he, fun a hf => ?_⟩
 have hO := hch32.back rfl hO' rfl
 refine wpList_nil ?_
 refine nor_block ?_
 refine nor_block ?_
 refine nor_then ?_
 exact ⟨_, Nat.lt_succ_self _, r31.2.f_s, r31.2.f_at, i5, (hf.cons rfl (hf.cons rfl hf.nil)), (hO.choose [1, 0, 2] rfl), hm⟩
 have hm := ie hc30 hm
 refine wp_skip ?_
 refine nor_block ?_
 refine nor_block ?_
 refine nor_then ?_
 exact ⟨_, Nat.lt_succ_self _, r15.2.f_s, r15.2.f_at, i5, (hf.cons rfl (hf.cons rfl hf.nil)), (hO.choose [1, 0, 2] rfl), hm⟩
 have hm := ie hc26 hm
 refine wp_skip ?_
 refine nor_block ?_
 refine nor_block ?_
 refine nor_then ?_
 exact ⟨_, Nat.lt_succ_self _, r15.2.f_s, r15.2.f_at, i5, (hf.cons rfl (hf.cons rfl hf.nil)), (hO.choose [1, 0, 2] rfl), hm⟩
 have hm := ie hc7 hm
 refine wp_exit ?_
 refine exit_then ?_
 refine exit_then ?_
 refine exit_here ?_
 refine nor_then ?_
 exact ⟨s3, i4, hf.nil, hO, hm⟩
 exact ⟨x_p.Scanner.f_s, x_p.Scanner.f_at, 1, (hf.cons rfl (hf.cons rfl hf.nil)), hO, hm⟩
 rintro a w ⟨s33, i34, hf, hO, hm⟩
 rw [commas_splitter_comment_j2] at hm
 refine wp_seq_k fun _ hK35 => ?_
 refine wp_region_list ?_
 refine op_as hf rfl rfl fun a hf => ?_
 refine wpList_nil ?_
 refine nor_then (hK35 _ _ ?_)
 refine wp_ret ?_
 obtain rfl := Option.some.inj hm
 exact post_ret Tryz.results128 hf (.tmp rfl .nil) ⟨x_p_p2, x_p_c2, rfl, hO⟩

set_option maxHeartbeats 1000000 in
theorem w_commas_splitter_step (x_p : commas_splitter) (R : Bool × commas_splitter) (w0 : World) (hG : Glob w0) {x_p_b0 : Nat} {x_p_b1 : Nat} {x_p_p2 : Option Addr} {x_p_c2 : Nat} {F : List Nat} (hF : Away F) (hO : Dk.Own w0 F w0 [.blk x_p_b0 [ptr x_p_b1 0, .slice x_p_p2 x_p.f_out.length x_p_c2, int x_p.f_from, str x_p.f_s] 138, .blk x_p_b1 [str x_p.Scanner.f_s, int x_p.Scanner.f_at] 126, .row (.slice x_p_p2 x_p.f_out.length x_p_c2) 9 1 x_p.f_out.length (cells enc_str x_p.f_out)]) (hm : commas_splitter_step x_p = some R) :
    Calls Tryz.prog 91 #[ptr x_p_b0 0] w0 fun e w' => ∃ (p0 : Option Addr) (c0 : Nat), e = .returned (.bool R.1) ∧ Dk.Own w0 F w' [.blk x_p_b0 [ptr x_p_b1 0, .slice p0 R.2.f_out.length c0, int R.2.f_from, str R.2.f_s] 138, .blk x_p_b1 [str R.2.Scanner.f_s, int R.2.Scanner.f_at] 126, .row (.slice p0 R.2.f_out.length c0) 9 1 R.2.f_out.length (cells enc_str R.2.f_out)] := by
 rw [commas_splitter_step] at hm
 refine calls_enter (vs := [ptr x_p_b0 0]) Tryz.func91 rfl Tryz.ntmps91 rfl fun a hf => ?_
 refine wp_seq_k fun _ hK1 => ?_
 refine wp_region_list ?_
 refine op_as hf rfl rfl fun a hf => ?_
 refine wpList_nil ?_
 refine nor_then (hK1 _ _ ?_)
 refine wp_seq_k fun _ hK3 => ?_
 refine wp_region_list ?_
 refine op_mv hf rfl rfl fun a hf => ?_
 refine op_val (ex_nilCheck hf rfl) rfl hf rfl rfl fun a hf => ?_
 refine op_val (ex_field fa_138_0 hf rfl) rfl hf rfl rfl fun a hf => ?_
 refine op_val (ex_load1 (o := 0) ag_88 (hO.blkSees (i := 0) rfl) rfl hf rfl) rfl hf rfl rfl fun a hf => ?_
 obtain ⟨r2, hr2, hm⟩ := ob hm
 refine op_enter (ex_call c_120 hf (vs := [ptr x_p_b1 0]) rfl) rfl hf rfl rfl (w_scan_Scanner_At x_p.Scanner r2 _ (hG.own hF hO) (hO.blkSees (i := 1) rfl) hr2) ?_
 rintro e w' ⟨he, hb⟩
 refine ⟨_, he, fun a hf => ?_⟩
 have hO := hO.grow hb
 refine op_as hf rfl rfl fun a hf => ?_
 refine wpList_nil ?_
 refine nor_then (hK3 _ _ ?_)
 refine wp_seq_cut (fun a w => ∃ (p32 : Option Addr) (c33 : Nat) (l34 : List Str) (i35 : Int) (s36 : Str) (s37 : Str) (i38 : Int), Fits 55 [] a ∧ Dk.Own w0 F w [.blk x_p_b0 [ptr x_p_b1 0, .slice p32 l34.length c33, int i35, str s36] 138, .blk x_p_b1 [str s37, int i38] 126, .row (.slice p32 l34.length c33) 9 1 l34.length (cells enc_str l34)] ∧ commas_splitter_step_j1 l34 i35 s36 s37 i38 = some R) ?_ ?_
 refine wp_block ?_
 refine wp_seq_k fun _ hK6 => ?_
 refine wp_region_list ?_
 refine op_mv hf rfl rfl fun a hf => ?_
 refine op_val (ex_nilCheck hf rfl) rfl hf rfl rfl fun a hf => ?_
 refine op_val (ex_field fa_138_0 hf rfl) rfl hf rfl rfl fun a hf => ?_
 refine op_val (ex_load1 (o := 0) ag_88 (hO.blkSees (i := 0) rfl) rfl hf rfl) rfl hf rfl rfl fun a hf => ?_
 obtain ⟨r4, hr4, hm⟩ := ob hm
 have hch5 := (show Dk.Own w0 F _ ([.blk x_p_b1 [str x_p.Scanner.f_s, int x_p.Scanner.f_at] 126] ++ [.blk x_p_b0 [ptr x_p_b1 0, .slice x_p_p2 x_p.f_out.length x_p_c2, int x_p.f_from, str x_p.f_s] 138, .row (.slice x_p_p2 x_p.f_out.length x_p_c2) 9 1 x_p.f_out.length (cells enc_str x_p.f_out)]) from hO.choose [1, 0, 2] rfl)
 have hfar5 := Dk.Own.far hch5 rfl hF hG.size
 have hlend5 := hch5.lend (S := []) rfl trivial
 have hcl5 := w_scan_Scanner_Byte x_p.Scanner 44 r4 _ (hG.own hF hO) hfar5 hlend5 hr4
 refine op_enter (ex_call c_47 hf (vs := [ptr x_p_b1 0, byte 44]) rfl) rfl hf rfl rfl (hcl5) ?_
 rintro e w' ⟨he, hO'⟩
 refine ⟨_, he, fun a hf => ?_⟩
 have hO := hch5.back rfl hO' rfl
 refine op_as hf rfl rfl fun a hf => ?_
 refine wpList_nil ?_
 refine nor_then (hK6 _ _ ?_)
 refine wp_cond_cut hf rfl (fun hc7 => ?_) (fun hc7 => ?_)
 have hm := it hc7 hm
 refine wp_region_list ?_
 refine op_mv hf rfl rfl fun a hf => ?_
 refine op_mv hf rfl rfl fun a hf => ?_
 obtain ⟨r8, hr8, hm⟩ := ob hm
 have hch11 := (show Dk.Own w0 F _ ([.blk x_p_b0 [ptr x_p_b1 0, .slice x_p_p2 x_p.f_out.length x_p_c2, int x_p.f_from, str x_p.f_s] 138, .blk x_p_b1 [str r4.2.f_s, int r4.2.f_at] 126, .row (.slice x_p_p2 x_p.f_out.length x_p_c2) 9 1 x_p.f_out.length (cells enc_str x_p.f_out)] ++ []) from hO.choose [1, 0, 2] rfl)
 have hfar11 := Dk.Own.far hch11 rfl hF hG.size
 have hlend11 := hch11.lend (S := []) rfl trivial
 have hcl11 := w_commas_splitter_end (⟨r4.2, x_p.f_out, x_p.f_from, x_p.f_s⟩ : commas_splitter) r2 r8 _ (hG.own hF hO) hfar11 hlend11 hr8
 refine op_enter (ex_call c_92 hf (vs := [ptr x_p_b0 0, int r2]) rfl) rfl hf rfl rfl (hcl11) ?_
 rintro e w' ⟨p9, c10, he, hO'⟩
 refine ⟨_, he, fun a hf => ?_⟩
 have hO := hch11.back rfl hO' rfl
 refine wpList_nil ?_
 refine nor_block ?_
 refine nor_then ?_
 exact ⟨p9, c10, r8.f_out, r8.f_from, r8.f_s, r8.Scanner.f_s, r8.Scanner.f_at, hf.nil, hO, hm⟩
 have hm := ie hc7 hm
 refine wp_seq_k fun _ hK14 => ?_
 refine wp_region_list ?_
 refine op_mv hf rfl rfl fun a hf => ?_
 refine op_val (ex_nilCheck hf rfl) rfl hf rfl rfl fun a hf => ?_
 refine op_val (ex_field fa_138_0 hf rfl) rfl hf rfl rfl fun a hf => ?_
 refine op_val (ex_load1 (o := 0) ag_88 (hO.blkSees (i := 1) rfl) rfl hf rfl) rfl hf rfl rfl fun a hf => ?_
 obtain ⟨r12, hr12, hm⟩ := ob hm
 have hch13 := (show Dk.Own w0 F _ ([.blk x_p_b1 [str r4.2.f_s, int r4.2.f_at] 126] ++ [.blk x_p_b0 [ptr x_p_b1 0, .slice x_p_p2 x_p.f_out.length x_p_c2, int x_p.f_from, str x_p.f_s] 138, .row (.slice x_p_p2 x_p.f_out.length x_p_c2) 9 1 x_p.f_out.length (cells enc_str x_p.f_out)]) from hO)
 have hfar13 := Dk.Own.far hch13 rfl hF hG.size
 have hlend13 := hch13.lend (S := []) rfl trivial
 have hcl13 := w_scan_Scanner_Byte r4.2 40 r12 _ (hG.own hF hO) hfar13 hlend13 hr12
 refine op_enter (ex_call c_47 hf (vs := [ptr x_p_b1 0, byte 40]) rfl) rfl hf rfl rfl (hcl13) ?_
 rintro e w' ⟨he, hO'⟩
 refine ⟨_, he, fun a hf => ?_⟩
 have hO := hch13.back rfl hO' rfl
 refine op_as hf rfl rfl fun a hf => ?_
 refine wpList_nil ?_
 refine nor_then (hK14 _ _ ?_)
 refine wp_cond_cut hf rfl (fun hc15 => ?_) (fun hc15 => ?_)
 have hm := it hc15 hm
 refine wp_seq_k fun _ hK20 => ?_
 refine wp_region_list ?_
 refine op_mv hf rfl rfl fun a hf => ?_
 obtain ⟨r16, hr16, hm⟩ := ob hm
 have hch19 := (show Dk.Own w0 F _ ([.blk x_p_b0 [ptr x_p_b1 0, .slice x_p_p2 x_p.f_out.length x_p_c2, int x_p.f_from, str x_p.f_s] 138, .blk x_p_b1 [str r12.2.f_s, int r12.2.f_at] 126, .row (.slice x_p_p2 x_p.f_out.length x_p_c2) 9 1 x_p.f_out.length (cells enc_str x_p.f_out)] ++ []) from hO.choose [1, 0, 2] rfl)
 have hfar19 := Dk.Own.far hch19 rfl hF hG.size
 have hlend19 := hch19.lend (S := []) rfl trivial
 have hcl19 := w_commas_splitter_comment (⟨r12.2, x_p.f_out, x_p.f_from, x_p.f_s⟩ : commas_splitter) r16 _ (hG.own hF hO) hfar19 hlend19 hr16
 refine op_enter (ex_call c_128 hf (vs := [ptr x_p_b0 0]) rfl) rfl hf rfl rfl (hcl19) ?_
 rintro e w' ⟨p17, c18, he, hO'⟩
 refine ⟨_, he, fun a hf => ?_⟩
 have hO := hch19.back rfl hO' rfl
 refine op_as hf rfl rfl fun a hf => ?_
 refine wpList_nil ?_
 refine nor_then (hK20 _ _ ?_)
 refine wp_ret ?_
 refine ret_block ?_
 refine ret_then ?_
 obtain rfl := Option.some.inj hm
 exact post_ret Tryz.results91 hf (.tmp rfl .nil) ⟨p17, c18, rfl, hO⟩
 have hm := ie hc15 hm
 refine wp_seq_k fun _ hK22 => ?_
 refine wp_region_list ?_
 refine op_mv hf rfl rfl fun a hf => ?_
 refine op_val (ex_nilCheck hf rfl) rfl hf rfl rfl fun a hf => ?_
 refine op_val (ex_field fa_138_0 hf rfl) rfl hf rfl rfl fun a hf => ?_
 refine op_val (ex_load1 (o := 0) ag_88 (hO.blkSees (i := 1) rfl) rfl hf rfl) rfl hf rfl rfl fun a hf => ?_
 obtain ⟨r21, hr21, hm⟩ := ob hm
 refine op_enter (ex_call c_79 hf (vs := [ptr x_p_b1 0]) rfl) rfl hf rfl rfl (w_scan_Scanner_Peek r12.2 r21 _ (hG.own hF hO) (hO.blkSees (i := 0) rfl) hr21) ?_
 rintro e w' ⟨he, hb⟩
 refine ⟨_, he, fun a hf => ?_⟩
 have hO := hO.grow hb
 refine op_mv hf rfl rfl fun a hf => ?_
 refine op_val (ex_extract hf rfl rfl) rfl hf rfl rfl fun a hf => ?_
 refine op_val (ex_extract hf rfl rfl) rfl hf rfl rfl fun a hf => ?_
 refine op_as hf rfl rfl fun a hf => ?_
 refine op_as hf rfl rfl fun a hf => ?_
 refine wpList_nil ?_
 refine nor_then (hK22 _ _ ?_)
 refine wp_seq_k fun _ hK29 => ?_
 refine wp_seq_k fun _ hK23 => ?_
 refine wp_region_list ?_
 refine op_mv hf rfl rfl fun a hf => ?_
 refine op_val (ex_eql_b (b := r21.1) (c := 34) hf rfl rfl) rfl hf rfl rfl fun a hf => ?_
 refine wpList_nil ?_
 refine nor_then (hK23 _ _ ?_)
 refine wp_cond_cut hf rfl (fun hc24 => ?_) (fun hc24 => ?_)
 have hm := it hc24 hm
 refine wp_seq_k fun _ hK27 => ?_
 refine wp_region_list ?_
 refine op_mv hf rfl rfl fun a hf => ?_
 refine op_val (ex_nilCheck hf rfl) rfl hf rfl rfl fun a hf => ?_
 refine op_val (ex_field fa_138_0 hf rfl) rfl hf rfl rfl fun a hf => ?_
 refine op_val (ex_load1 (o := 0) ag_88 (hO.blkSees (i := 1) rfl) rfl hf rfl) rfl hf rfl rfl fun a hf => ?_
 obtain ⟨r25, hr25, hm⟩ := ob hm
 have hch26 := (show Dk.Own w0 F _ ([.blk x_p_b1 [str r12.2.f_s, int r12.2.f_at] 126] ++ [.blk x_p_b0 [ptr x_p_b1 0, .slice x_p_p2 x_p.f_out.length x_p_c2, int x_p.f_from, str x_p.f_s] 138, .row (.slice x_p_p2 x_p.f_out.length x_p_c2) 9 1 x_p.f_out.length (cells enc_str x_p.f_out)]) from hO)
 have hfar26 := Dk.Own.far hch26 rfl hF hG.size
 have hlend26 := hch26.lend (S := []) rfl trivial
 have hcl26 := w_quoted_Read r12.2 r25 _ (hG.own hF hO) hfar26 hlend26 hr25
 refine op_enter (ex_call c_129 hf (vs := [ptr x_p_b1 0]) rfl) rfl hf rfl rfl (hcl26) ?_
 rintro e w' ⟨he, hO'⟩
 refine ⟨_, he, fun a hf => ?_⟩
 have hO := hch26.back rfl hO' rfl
 refine op_mv hf rfl rfl fun a hf => ?_
 refine op_val (ex_extract hf rfl rfl) rfl hf rfl rfl fun a hf => ?_
 refine op_val (ex_extract hf rfl rfl) rfl hf rfl rfl fun a hf => ?_
 refine op_as hf rfl rfl fun a hf => ?_
 refine op_as hf rfl rfl fun a hf => ?_
 refine wpList_nil ?_
 refine nor_then (hK27 _ _ ?_)
 refine wp_seq_k fun _ hK28 => ?_
 refine wp_region_list ?_
 refine op_mv hf rfl rfl fun a hf => ?_
 refine op_as hf rfl rfl fun a hf => ?_
 refine wpList_nil ?_
 refine nor_then (hK28 _ _ ?_)
 refine wp_ret ?_
 refine ret_then ?_
 refine ret_block ?_
 refine ret_then ?_
 obtain rfl := Option.some.inj hm
 exact post_ret Tryz.results91 hf (.tmp rfl .nil) ⟨x_p_p2, x_p_c2, rfl, (hO.choose [1, 0, 2] rfl)⟩
 have hm := ie hc24 hm
 refine wp_skip ?_
 refine nor_then (hK29 _ _ ?_)
 refine wp_region_list ?_
 refine op_mv hf rfl rfl fun a hf => ?_
 refine op_val (ex_nilCheck hf rfl) rfl hf rfl rfl fun a hf => ?_
 refine op_val (ex_field fa_138_0 hf rfl) rfl hf rfl rfl fun a hf => ?_
 refine op_val (ex_load1 (o := 0) ag_88 (hO.blkSees (i := 1) rfl) rfl hf rfl) rfl hf rfl rfl fun a hf => ?_
 refine op_mv hf rfl rfl fun a hf => ?_
 obtain ⟨r30, hr30, hm⟩ := ob hm
 have hch31 := (show Dk.Own w0 F _ ([.blk x_p_b1 [str r12.2.f_s, int r12.2.f_at] 126] ++ [.blk x_p_b0 [ptr x_p_b1 0, .slice x_p_p2 x_p.f_out.length x_p_c2, int x_p.f_from, str x_p.f_s] 138, .row (.slice x_p_p2 x_p.f_out.length x_p_c2) 9 1 x_p.f_out.length (cells enc_str x_p.f_out)]) from hO)
 have hfar31 := Dk.Own.far hch31 rfl hF hG.size
 have hlend31 := hch31.lend (S := []) rfl trivial
 have hcl31 := w_scan_Scanner_Byte r12.2 r21.1 r30 _ (hG.own hF hO) hfar31 hlend31 hr30
 refine op_enter (ex_call c_47 hf (vs := [ptr x_p_b1 0, byte r21.1]) rfl) rfl hf rfl rfl (hcl31) ?_
 rintro e w' ⟨he, hO'⟩
 refine ⟨_, he, fun a hf => ?_⟩
 have hO := hch31.back rfl hO' rfl
 refine wpList_nil ?_
 refine nor_block ?_
 refine nor_then ?_
 exact ⟨x_p_p2, x_p_c2, x_p.f_out, x_p.f_from, x_p.f_s, r30.2.f_s, r30.2.f_at, hf.nil, (hO.choose [1, 0, 2] rfl), hm⟩
 rintro a w ⟨p32, c33, l34, i35, s36, s37, i38, hf, hO, hm⟩
 rw [commas_splitter_step_j1] at hm
 refine wp_seq_k fun _ hK39 => ?_
 refine wp_region_list ?_
 refine op_as hf rfl rfl fun a hf => ?_
 refine wpList_nil ?_
 refine nor_then (hK39 _ _ ?_)
 refine wp_ret ?_
 obtain rfl := Option.some.inj hm
 exact post_ret Tryz.results91 hf (.tmp rfl .nil) ⟨p32, c33, rfl, hO⟩

set_option maxHeartbeats 1000000 in
theorem w_commas_Split (x_s : Str) (R : List Str × Int) (w0 : World) (hG : Glob w0) (hm : commas_Split x_s = some R) :
    Calls Tryz.prog 54 #[str x_s] w0 fun e w' => ∃ (p0 : Option Addr) (c0 : Nat), e = .returned (.tuple #[.slice p0 R.1.length c0, int R.2]) ∧ Dk.Own w0 [] w' [.row (.slice p0 R.1.length c0) 9 1 R.1.length (cells enc_str R.1)] := by
 rw [commas_Split] at hm
 refine calls_enter (vs := [str x_s]) Tryz.func54 rfl Tryz.ntmps54 rfl fun a hf => ?_
 have hF : Away [] := away_nil
 have hO : Dk.Own w0 [] w0 [] := Dk.Own.refl w0
 refine wp_seq_k fun _ hK1 => ?_
 refine wp_region_list ?_
 have hO := hO.nilRow 9 1
 refine op_as hf rfl rfl fun a hf => ?_
 refine op_as hf rfl rfl fun a hf => ?_
 refine wpList_nil ?_
 refine nor_then (hK1 _ _ ?_)
 refine wp_seq_k fun _ hK5 => ?_
 refine wp_region_list ?_
 refine op_mv hf rfl rfl fun a hf => ?_
 obtain ⟨r2, hr2, hm⟩ := ob hm
 refine op_enter (ex_call c_45 hf (vs := [str x_s]) rfl) rfl hf rfl rfl (w_scan_New x_s r2 _ (hG.own hF hO) hr2) ?_
 rintro e w' ⟨b3, he, hO'⟩
 refine ⟨_, he, fun a hf => ?_⟩
 have hO := hO.call hO' (by simp [Res.shared])
 refine op_mv hf rfl rfl fun a hf => ?_
 refine op_val (ex_build (vs := [(0, ptr b3 0), (3, str x_s)]) (v := .agg #[ptr b3 0, .slice none 0 0, int 0, str x_s]) hf rfl (by kernel_rfl)) rfl hf rfl rfl fun a hf => ?_
 refine op_box (v := .agg #[ptr b3 0, .slice none 0 0, int 0, str x_s]) (cs := [ptr b3 0, .slice none 0 0, int 0, str x_s]) rfl hf rfl rfl hO fun a b4 w hf hO => ?_
 have hO := hO.nilRow 9 1
 refine op_as hf rfl rfl fun a hf => ?_
 refine wpList_nil ?_
 refine nor_then (hK5 _ _ ?_)
 refine wp_seq_cut (fun a w => ∃ (p24 : Option Addr) (c25 : Nat) (l26 : List Str) (i27 : Int) (s28 : Str) (s29 : Str) (i30 : Int), Fits 27 [(0, str x_s), (4, ptr b4 0)] a ∧ Dk.Own w0 [] w [.row (.slice p24 l26.length c25) 9 1 l26.length (cells enc_str l26), .blk b4 [ptr b3 0, .slice p24 l26.length c25, int i27, str s28] 138, .blk b3 [str s29, int i30] 126, .row (.slice none 0 0) 9 1 0 (cells enc_str [])] ∧ commas_Split_j2 x_s l26 i27 s28 s29 i30 = some R) ?_ ?_
 refine wp_block ?_
 refine wp_loop_n (fun k a w => ∃ (p6 : Option Addr) (c7 : Nat) (l8 : List Str) (i9 : Int) (s10 : Str) (s11 : Str) (i12 : Int), Fits 27 [(0, str x_s), (4, ptr b4 0)] a ∧ Dk.Own w0 [] w [.row (.slice p6 l8.length c7) 9 1 l8.length (cells enc_str l8), .blk b4 [ptr b3 0, .slice p6 l8.length c7, int i9, str s10] 138, .blk b3 [str s11, int i12] 126, .row (.slice none 0 0) 9 1 0 (cells enc_str [])] ∧ commas_Split_L1 x_s k l8 i9 s10 s11 i12 = some R) ?_ fuel ?_
 rintro n1 a w ⟨p6, c7, l8, i9, s10, s11, i12, hf, hO, hm⟩
 obtain _ | n1 := n1
 rw [commas_Split_L1] at hm
 cases hm
 rw [commas_Split_L1] at hm
 refine wp_seq_k fun _ hK16 => ?_
 refine wp_seq_k fun _ hK14 => ?_
 refine wp_region_list ?_
 refine op_mv hf rfl rfl fun a hf => ?_
 refine op_val (ex_nilCheck hf rfl) rfl hf rfl rfl fun a hf => ?_
 refine op_val (ex_field fa_138_0 hf rfl) rfl hf rfl rfl fun a hf => ?_
 refine op_val (ex_load1 (o := 0) ag_88 (hO.blkSees (i := 1) rfl) rfl hf rfl) rfl hf rfl rfl fun a hf => ?_
 obtain ⟨r13, hr13, hm⟩ := ob hm
 refine op_enter (ex_call c_69 hf (vs := [ptr b3 0]) rfl) rfl hf rfl rfl (w_scan_Scanner_End (⟨s11, i12⟩ : scan_Scanner) r13 _ (hG.own hF hO) (hO.blkSees (i := 2) rfl) hr13) ?_
 rintro e w' ⟨he, hb⟩
 refine ⟨_, he, fun a hf => ?_⟩
 have hO := hO.grow hb
 refine op_val (ex_not hf rfl) rfl hf rfl rfl fun a hf => ?_
 refine wpList_nil ?_
 refine nor_then (hK14 _ _ ?_)
 refine wp_cond_cut hf rfl (fun hc15 => ?_) (fun hc15 => ?_)
 have hm := it hc15 hm
 refine wp_skip ?_
 refine nor_then (hK16 _ _ ?_)
 refine wp_block ?_
 refine wp_seq_k fun _ hK21 => ?_
 refine wp_region_list ?_
 refine op_mv hf rfl rfl fun a hf => ?_
 obtain ⟨r17, hr17, hm⟩ := ob hm
 have hch20 := (show Dk.Own w0 [] _ ([.blk b4 [ptr b3 0, .slice p6 l8.length c7, int i9, str s10] 138, .blk b3 [str s11, int i12] 126, .row (.slice p6 l8.length c7) 9 1 l8.length (cells enc_str l8)] ++ [.row (.slice none 0 0) 9 1 0 (cells enc_str [])]) from hO.choose [1, 2, 0, 3] rfl)
 have hfar20 := Dk.Own.far hch20 rfl hF hG.size
 have hlend20 := hch20.lend (S := []) rfl trivial
 have hcl20 := w_commas_splitter_step ((⟨(⟨s11, i12⟩ : scan_Scanner), l8, i9, s10⟩ : commas_splitter)) r17 _ (hG.own hF hO) hfar20 hlend20 hr17
 refine op_enter (ex_call c_91 hf (vs := [ptr b4 0]) rfl) rfl hf rfl rfl (hcl20) ?_
 rintro e w' ⟨p18, c19, he, hO'⟩
 refine ⟨_, he, fun a hf => ?_⟩
 have hO := hch20.back rfl hO' rfl
 refine op_val (ex_not hf rfl) rfl hf rfl rfl fun a hf => ?_
 refine wpList_nil ?_
 refine nor_then (hK21 _ _ ?_)
 refine wp_cond_cut hf rfl (fun hc22 => ?_) (fun hc22 => ?_)
 have hm := it hc22 hm
 refine wp_seq_k fun _ hK23 => ?_
 refine wp_region_list ?_
 have hO := hO.nilRow 9 1
 refine op_as hf rfl rfl fun a hf => ?_
 refine op_as hf rfl rfl fun a hf => ?_
 refine wpList_nil ?_
 refine nor_then (hK23 _ _ ?_)
 refine wp_ret ?_
 refine ret_block ?_
 refine ret_then ?_
 refine ret_block ?_
 refine ret_then ?_
 obtain rfl := Option.some.inj hm
 exact post_ret Tryz.results54 hf (.tmp rfl (.tmp rfl .nil)) ⟨none, 0, rfl, (hO.sub (.cons_cons _ (.cons _ (.cons _ (.cons _ (.cons _ .slnil))))))⟩
 have hm := ie hc22 hm
 refine wp_skip ?_
 refine nor_block ?_
 refine nor_then ?_
 exact ⟨_, Nat.lt_succ_self _, p18, c19, r17.2.f_out, r17.2.f_from, r17.2.f_s, r17.2.Scanner.f_s, r17.2.Scanner.f_at, (hf.cons rfl (hf.cons rfl hf.nil)), (hO.choose [2, 0, 1, 3] rfl), hm⟩
 have hm := ie hc15 hm
 refine wp_exit ?_
 refine exit_then ?_
 refine exit_then ?_
 refine exit_here ?_
 refine nor_then ?_
 exact ⟨p6, c7, l8, i9, s10, s11, i12, (hf.cons rfl (hf.cons rfl hf.nil)), hO, hm⟩
 exact ⟨none, 0, [], 0, x_s, r2.f_s, r2.f_at, (hf.cons rfl (hf.cons rfl hf.nil)), hO, hm⟩
 rintro a w ⟨p24, c25, l26, i27, s28, s29, i30, hf, hO, hm⟩
 rw [commas_Split_j2] at hm
 refine wp_seq_k fun _ hK35 => ?_
 refine wp_region_list ?_
 refine op_mv hf rfl rfl fun a hf => ?_
 refine op_mv hf rfl rfl fun a hf => ?_
 refine op_val (ex_len_s (l := x_s) Tryz.underlying9 hf rfl) rfl hf rfl rfl fun a hf => ?_
 obtain ⟨r31, hr31, hm⟩ := ob hm
 have hch34 := (show Dk.Own w0 [] _ ([.blk b4 [ptr b3 0, .slice p24 l26.length c25, int i27, str s28] 138, .blk b3 [str s29, int i30] 126, .row (.slice p24 l26.length c25) 9 1 l26.length (cells enc_str l26)] ++ [.row (.slice none 0 0) 9 1 0 (cells enc_str [])]) from hO.choose [1, 2, 0, 3] rfl)
 have hfar34 := Dk.Own.far hch34 rfl hF hG.size
 have hlend34 := hch34.lend (S := []) rfl trivial
 have hcl34 := w_commas_splitter_end ((⟨(⟨s29, i30⟩ : scan_Scanner), l26, i27, s28⟩ : commas_splitter)) (x_s.length : Int) r31 _ (hG.own hF hO) hfar34 hlend34 hr31
 refine op_enter (ex_call c_92 hf (vs := [ptr b4 0, int (x_s.length : Int)]) rfl) rfl hf rfl rfl (hcl34) ?_
 rintro e w' ⟨p32, c33, he, hO'⟩
 refine ⟨_, he, fun a hf => ?_⟩
 have hO := hch34.back rfl hO' rfl
 refine wpList_nil ?_
 refine nor_then (hK35 _ _ ?_)
 refine wp_seq_k fun _ hK36 => ?_
 refine wp_region_list ?_
 refine op_mv hf rfl rfl fun a hf => ?_
 refine op_val (ex_nilCheck hf rfl) rfl hf rfl rfl fun a hf => ?_
 refine op_val (ex_field fa_138_1 hf rfl) rfl hf rfl rfl fun a hf => ?_
 refine op_val (ex_load1 (o := 1) ag_50 (hO.blkSees (i := 0) rfl) rfl hf rfl) rfl hf rfl rfl fun a hf => ?_
 refine op_as hf rfl rfl fun a hf => ?_
 refine op_as hf rfl rfl fun a hf => ?_
 refine wpList_nil ?_
 refine nor_then (hK36 _ _ ?_)
 refine wp_ret ?_
 obtain rfl := Option.some.inj hm
 exact post_ret Tryz.results54 hf (.tmp rfl (.tmp rfl .nil)) ⟨p32, c33, rfl, (hO.sub (.cons _ (.cons _ (.cons_cons _ (.cons _ .slnil)))))⟩

set_option maxHeartbeats 1000000 in
theorem w_via_reader_protocol (x_r : via_reader) (x_v : api_Via) (R : Bool × scan_Scanner × api_Via) (w0 : World) (hG : Glob w0) {x_r_b0 : Nat} {x_v_b1 : Nat} {F : List Nat} (hF : Away F) (hO : Dk.Own w0 F w0 [.blk x_r_b0 [str x_r.Scanner.f_s, int x_r.Scanner.f_at] 126, .blk x_v_b1 [str x_v.Proto, str x_v.Version, str x_v.By, str x_v.Comment] 40]) (hm : via_reader_protocol x_r x_v = some R) :
    Calls Tryz.prog 46 #[.agg #[ptr x_r_b0 0], ptr x_v_b1 0] w0 fun e w' => e = .returned (.bool R.1) ∧ Dk.Own w0 F w' [.blk x_r_b0 [str R.2.1.f_s, int R.2.1.f_at] 126, .blk x_v_b1 [str R.2.2.Proto, str R.2.2.Version, str R.2.2.By, str R.2.2.Comment] 40] := by
 rw [via_reader_protocol] at hm
 refine calls_enter (vs := [.agg #[ptr x_r_b0 0], ptr x_v_b1 0]) Tryz.func46 rfl Tryz.ntmps46 rfl fun a hf => ?_
 refine wp_seq_k fun _ hK2 => ?_
 refine wp_region_list ?_
 refine op_box (v := .agg #[ptr x_r_b0 0]) (cs := [ptr x_r_b0 0]) rfl hf rfl rfl hO fun a b1 w hf hO => ?_
 refine op_as hf rfl rfl fun a hf => ?_
 refine wpList_nil ?_
 refine nor_then (hK2 _ _ ?_)
 refine wp_seq_k fun _ hK5 => ?_
 refine wp_region_list ?_
 refine op_val (ex_field fa_91_0 hf rfl) rfl hf rfl rfl fun a hf => ?_
 refine op_val (ex_load1 (o := 0) ag_88 (hO.blkSees (i := 0) rfl) rfl hf rfl) rfl hf rfl rfl fun a hf => ?_
 obtain ⟨r3, hr3, hm⟩ := ob hm
 have hch4 := (show Dk.Own w0 F _ ([.blk x_r_b0 [str x_r.Scanner.f_s, int x_r.Scanner.f_at] 126] ++ [.blk b1 [ptr x_r_b0 0] 91, .blk x_v_b1 [str x_v.Proto, str x_v.Version, str x_v.By, str x_v.Comment] 40]) from hO.choose [1, 0, 2] rfl)
 have hfar4 := Dk.Own.far hch4 rfl hF hG.size
 have hlend4 := hch4.lend (S := []) rfl trivial
 have hcl4 := w_scan_Scanner_Token x_r.Scanner r3 _ (hG.own hF hO) hfar4 hlend4 hr3
 refine op_enter (ex_call c_78 hf (vs := [ptr x_r_b0 0]) rfl) rfl hf rfl rfl (hcl4) ?_
 rintro e w' ⟨he, hO'⟩
 refine ⟨_, he, fun a hf => ?_⟩
 have hO := hch4.back rfl hO' rfl
 refine op_mv hf rfl rfl fun a hf => ?_
 refine op_val (ex_extract hf rfl rfl) rfl hf rfl rfl fun a hf => ?_
 refine op_val (ex_extract hf rfl rfl) rfl hf rfl rfl fun a hf => ?_
 refine op_as hf rfl rfl fun a hf => ?_
 refine op_as hf rfl rfl fun a hf => ?_
 refine wpList_nil ?_
 refine nor_then (hK5 _ _ ?_)
 refine wp_seq_k fun _ hK6 => ?_
 refine wp_region_list ?_
 refine op_mv hf rfl rfl fun a hf => ?_
 refine op_mv hf rfl rfl fun a hf => ?_
 refine op_val (ex_nilCheck hf rfl) rfl hf rfl rfl fun a hf => ?_
 refine op_val (ex_field fa_40_1 hf rfl) rfl hf rfl rfl fun a hf => ?_
 refine op_store1 (i := 2) (o := 1) (v := str r3.1) sz_9 rfl rfl rfl rfl hf rfl rfl hO fun w hO => ?_
 refine wpList_nil ?_
 refine nor_then (hK6 _ _ ?_)
 refine wp_seq_cut (fun a w => ∃ (t17 : Bool) (s18 : Str) (i19 : Int) (s20 : Str) (s21 : Str), Fits 37 [(6, .bool t17)] a ∧ Dk.Own w0 F w [.blk x_r_b0 [str s18, int i19] 126, .blk b1 [ptr x_r_b0 0] 91, .blk x_v_b1 [str s20, str s21, str x_v.By, str x_v.Comment] 40] ∧ via_reader_protocol_j2 x_v t17 s18 i19 s20 s21 = some R) ?_ ?_
 refine wp_seq_cut (fun a w => ∃ (t10 : Bool) (s11 : Str) (i12 : Int), Fits 37 [(1, ptr x_v_b1 0), (2, ptr b1 0), (5, str r3.1), (6, .bool r3.2.1), (22, .bool t10)] a ∧ Dk.Own w0 F w [.blk x_r_b0 [str s11, int i12] 126, .blk b1 [ptr x_r_b0 0] 91, .blk x_v_b1 [str x_v.Proto, str r3.1, str x_v.By, str x_v.Comment] 40] ∧ via_reader_protocol_j1 x_v r3 t10 s11 i12 = some R) ?_ ?_
 refine wp_region_list ?_
 refine op_mv hf rfl rfl fun a hf => ?_
 refine op_mv hf rfl rfl fun a hf => ?_
 rcases bcase (r3.2.1) with hc7 | hc7
 have hm := it hc7 hm
 refine op_guard rfl hf rfl rfl (hc7) ?_
 refine op_val (ex_field fa_91_0 hf rfl) rfl hf rfl rfl fun a hf => ?_
 refine op_guard rfl hf rfl rfl (hc7) ?_
 refine op_val (ex_load1 (o := 0) ag_88 (hO.blkSees (i := 1) rfl) rfl hf rfl) rfl hf rfl rfl fun a hf => ?_
 refine op_guard rfl hf rfl rfl (hc7) ?_
 obtain ⟨r8, hr8, hm⟩ := ob hm
 have hch9 := (show Dk.Own w0 F _ ([.blk x_r_b0 [str r3.2.2.f_s, int r3.2.2.f_at] 126] ++ [.blk b1 [ptr x_r_b0 0] 91, .blk x_v_b1 [str x_v.Proto, str r3.1, str x_v.By, str x_v.Comment] 40]) from hO)
 have hfar9 := Dk.Own.far hch9 rfl hF hG.size
 have hlend9 := hch9.lend (S := []) rfl trivial
 have hcl9 := w_scan_Scanner_Byte r3.2.2 47 r8 _ (hG.own hF hO) hfar9 hlend9 hr8
 refine op_enter (ex_call c_47 hf (vs := [ptr x_r_b0 0, byte 47]) rfl) rfl hf rfl rfl (hcl9) ?_
 rintro e w' ⟨he, hO'⟩
 refine ⟨_, he, fun a hf => ?_⟩
 have hO := hch9.back rfl hO' rfl
 refine op_val (ex_pick_t hf rfl hc7 rfl) rfl hf rfl rfl fun a hf => ?_
 refine wpList_nil ?_
 refine nor_then ?_
 exact ⟨r8.1, r8.2.f_s, r8.2.f_at, (hf.cons rfl (hf.cons rfl (hf.cons rfl (hf.cons rfl (hf.cons rfl hf.nil))))), hO, hm⟩
 have hm := ie hc7 hm
 refine op_pass rfl hf rfl rfl (hc7) rfl rfl fun a hf => ?_
 refine op_pass rfl hf rfl rfl (hc7) rfl rfl fun a hf => ?_
 refine op_pass rfl hf rfl rfl (hc7) rfl rfl fun a hf => ?_
 refine op_val (ex_pick_f hf rfl hc7 rfl) rfl hf rfl rfl fun a hf => ?_
 refine wpList_nil ?_
 refine nor_then ?_
 exact ⟨false, r3.2.2.f_s, r3.2.2.f_at, (hf.cons rfl (hf.cons rfl (hf.cons rfl (hf.cons rfl (hf.cons rfl hf.nil))))), hO, hm⟩
 rintro a w ⟨t10, s11, i12, hf, hO, hm⟩
 rw [via_reader_protocol_j1] at hm
 refine wp_cond_cut hf rfl (fun hc13 => ?_) (fun hc13 => ?_)
 have hm := it hc13 hm
 refine wp_seq_k fun _ hK14 => ?_
 refine wp_region_list ?_
 refine op_mv hf rfl rfl fun a hf => ?_
 refine op_mv hf rfl rfl fun a hf => ?_
 refine op_val (ex_nilCheck hf rfl) rfl hf rfl rfl fun a hf => ?_
 refine op_val (ex_field fa_40_0 hf rfl) rfl hf rfl rfl fun a hf => ?_
 refine op_store1 (i := 2) (o := 0) (v := str r3.1) sz_9 rfl rfl rfl rfl hf rfl rfl hO fun w hO => ?_
 refine wpList_nil ?_
 refine nor_then (hK14 _ _ ?_)
 refine wp_region_list ?_
 refine op_mv hf rfl rfl fun a hf => ?_
 refine op_val (ex_field fa_91_0 hf rfl) rfl hf rfl rfl fun a hf => ?_
 refine op_val (ex_load1 (o := 0) ag_88 (hO.blkSees (i := 1) rfl) rfl hf rfl) rfl hf rfl rfl fun a hf => ?_
 obtain ⟨r15, hr15, hm⟩ := ob hm
 have hch16 := (show Dk.Own w0 F _ ([.blk x_r_b0 [str s11, int i12] 126] ++ [.blk b1 [ptr x_r_b0 0] 91, .blk x_v_b1 [str r3.1, str r3.1, str x_v.By, str x_v.Comment] 40]) from hO)
 have hfar16 := Dk.Own.far hch16 rfl hF hG.size
 have hlend16 := hch16.lend (S := []) rfl trivial
 have hcl16 := w_scan_Scanner_Token (⟨s11, i12⟩ : scan_Scanner) r15 _ (hG.own hF hO) hfar16 hlend16 hr15
 refine op_enter (ex_call c_78 hf (vs := [ptr x_r_b0 0]) rfl) rfl hf rfl rfl (hcl16) ?_
 rintro e w' ⟨he, hO'⟩
 refine ⟨_, he, fun a hf => ?_⟩
 have hO := hch16.back rfl hO' rfl
 refine op_mv hf rfl rfl fun a hf => ?_
 refine op_val (ex_extract hf rfl rfl) rfl hf rfl rfl fun a hf => ?_
 refine op_val (ex_extract hf rfl rfl) rfl hf rfl rfl fun a hf => ?_
 refine op_val (ex_nilCheck hf rfl) rfl hf rfl rfl fun a hf => ?_
 refine op_val (ex_field fa_40_1 hf rfl) rfl hf rfl rfl fun a hf => ?_
 refine op_store1 (i := 2) (o := 1) (v := str r15.1) sz_9 rfl rfl rfl rfl hf rfl rfl hO fun w hO => ?_
 refine op_as hf rfl rfl fun a hf => ?_
 refine wpList_nil ?_
 refine nor_then ?_
 exact ⟨r15.2.1, r15.2.2.f_s, r15.2.2.f_at, r3.1, r15.1, (hf.cons rfl hf.nil), hO, hm⟩
 have hm := ie hc13 hm
 refine wp_skip ?_
 refine nor_then ?_
 exact ⟨r3.2.1, s11, i12, x_v.Proto, r3.1, (hf.cons rfl hf.nil), hO, hm⟩
 rintro a w ⟨t17, s18, i19, s20, s21, hf, hO, hm⟩
 rw [via_reader_protocol_j2] at hm
 refine wp_seq_k fun _ hK22 => ?_
 refine wp_region_list ?_
 refine op_mv hf rfl rfl fun a hf => ?_
 refine op_as hf rfl rfl fun a hf => ?_
 refine wpList_nil ?_
 refine nor_then (hK22 _ _ ?_)
 refine wp_ret ?_
 obtain rfl := Option.some.inj hm
 exact post_ret Tryz.results46 hf (.tmp rfl .nil) ⟨rfl, (hO.sub (.cons_cons _ (.cons _ (.cons_cons _ .slnil))))⟩

set_option maxHeartbeats 1000000 in
theorem w_via_reader_by_1 (x_b : UInt8) (R : Bool) (w0 : World) (hG : Glob w0) (hm : via_reader_by_1 x_b = some R) :
    Calls Tryz.prog 81 #[byte x_b] w0 fun e w' => e = .returned (.bool R) ∧ Below w0.heap.size w0 w' := by
 rw [via_reader_by_1] at hm
 refine calls_enter (vs := [byte x_b]) Tryz.func81 rfl Tryz.ntmps81 rfl fun a hf => ?_
 have hF : Away [] := away_nil
 have hO : Dk.Own w0 [] w0 [] := Dk.Own.refl w0
 refine wp_seq_k fun _ hK1 => ?_
 refine wp_region_list ?_
 refine op_as hf rfl rfl fun a hf => ?_
 refine wpList_nil ?_
 refine nor_then (hK1 _ _ ?_)
 refine wp_seq_k fun _ hK2 => ?_
 refine wp_region_list ?_
 refine op_mv hf rfl rfl fun a hf => ?_
 refine op_val (ex_neq_b (b := x_b) (c := 32) hf rfl rfl) rfl hf rfl rfl fun a hf => ?_
 refine op_as hf rfl rfl fun a hf => ?_
 refine wpList_nil ?_
 refine nor_then (hK2 _ _ ?_)
 refine wp_ret ?_
 obtain rfl := Option.some.inj hm
 exact post_ret Tryz.results81 hf (.tmp rfl .nil) ⟨rfl, hO.below⟩

end Go.Proofs
