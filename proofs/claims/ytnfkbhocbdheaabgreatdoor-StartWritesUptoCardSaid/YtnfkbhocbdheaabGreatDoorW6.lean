/-
  Walks, written by a program (wip/gen): what its model says, the function returns; what was there before is as it was.
-/
import Derived.Test.YtnfkbhocbdheaabGreatDoorLib
import Derived.Test.YtnfkbhocbdheaabGreatDoorW4
import Derived.Test.YtnfkbhocbdheaabGreatDoorW5
set_option linter.unusedVariables false
set_option linter.unusedSimpArgs false
set_option maxRecDepth 100000
namespace Go.Proofs
open Go.Dk Go.Dm Go.RowKit

set_option maxHeartbeats 1000000 in
theorem w_ref08_Four (x_s : Str) (R : Bool) (w0 : World) (hG : Glob w0) (hm : ref08_Four x_s = some R) :
    Calls Tryz.prog 55 #[str x_s] w0 fun e w' => e = .returned (.bool R) ∧ Below w0.heap.size w0 w' := by
  rw [ref08_Four] at hm
  refine calls_enter (vs := [str x_s]) Tryz.func55 rfl Tryz.ntmps55 rfl fun a hf => ?_
  have hF : Away [] := away_nil
  have hO : Dk.Own w0 [] w0 [] := Dk.Own.refl w0
  refine wp_seq_k fun _ hK1 => ?_
  refine wp_region_list ?_
  refine op_val (ex_assign hf rfl) rfl hf rfl rfl fun a hf => ?_
  refine wpList_nil ?_
  refine nor_then (hK1 _ _ ?_)
  refine wp_seq_k fun _ hK5 => ?_
  refine wp_region_list ?_
  refine op_val (ex_move hf rfl) rfl hf rfl rfl fun a hf => ?_
  obtain ⟨r2, hr2, hm⟩ := ob hm
  refine op_enter (ex_call c_37 hf (vs := [str x_s, byte 46]) rfl) rfl hf rfl rfl (w_ref08_Parts x_s 46 r2 _ (hG.own hF hO) hr2) ?_
  rintro e w' ⟨p3, c4, he, hO'⟩
  refine ⟨_, he, fun a hf => ?_⟩
  have hO := hO.call hO' (by simp [Res.shared])
  refine op_val (ex_assign hf rfl) rfl hf rfl rfl fun a hf => ?_
  refine wpList_nil ?_
  refine nor_then (hK5 _ _ ?_)
  refine wp_seq_k fun _ hK20 => ?_
  refine wp_seq_k fun _ hK6 => ?_
  refine wp_region_list ?_
  refine op_val (ex_assign hf rfl) rfl hf rfl rfl fun a hf => ?_
  refine wpList_nil ?_
  refine nor_then (hK6 _ _ ?_)
  refine wp_block ?_
  refine wp_loop_n (fun k a w => ∃ (i7 : Int), Fits 22 [(3, .slice p3 r2.length c4), (4, int i7)] a ∧ Dk.Own w0 [] w [.row (.slice p3 r2.length c4) 9 1 r2.length (cells enc_str r2)] ∧ ref08_Four_L1 r2 k i7 = some R) ?_ fuel ?_
  · rintro n1 a w ⟨i7, hf, hO, hm⟩
    obtain _ | n1 := n1
    · rw [ref08_Four_L1] at hm
      cases hm
    · rw [ref08_Four_L1] at hm
      refine wp_seq_k fun _ hK10 => ?_
      refine wp_seq_k fun _ hK8 => ?_
      refine wp_region_list ?_
      refine op_val (ex_move hf rfl) rfl hf rfl rfl fun a hf => ?_
      refine op_val (ex_move hf rfl) rfl hf rfl rfl fun a hf => ?_
      refine op_val (ex_len_l Tryz.underlying40 hf rfl) rfl hf rfl rfl fun a hf => ?_
      refine op_val (ex_lss (m := i7) (n := (r2.length : Int)) hf rfl rfl) rfl hf rfl rfl fun a hf => ?_
      refine wpList_nil ?_
      refine nor_then (hK8 _ _ ?_)
      refine wp_cond_cut hf rfl (fun hc9 => ?_) (fun hc9 => ?_)
      · have hm := it hc9 hm
        refine wp_skip ?_
        refine nor_then (hK10 _ _ ?_)
        refine wp_seq_k fun _ hK18 => ?_
        refine wp_block ?_
        refine wp_seq_k fun _ hK15 => ?_
        refine wp_region_list ?_
        refine op_val (ex_move hf rfl) rfl hf rfl rfl fun a hf => ?_
        refine op_val (ex_move hf rfl) rfl hf rfl rfl fun a hf => ?_
        obtain ⟨x11, hx11, hm⟩ := ob hm
        obtain ⟨b12, o13, hix11, hSx11, hAx11⟩ := elemAtRow (enc := enc_str) (sz := 1) (xs := r2) 40 Tryz.underlying40 sz_9 (by decide) (fun _ => rfl) hO (i := 0) rfl hx11
        refine op_val (ex_indexAddr hix11 hf rfl rfl) rfl hf rfl rfl fun a hf => ?_
        refine op_val (ex_load1 (o := 0) ag_9 (hSx11 _ (hO.rowSees (i := 0) rfl)) rfl hf rfl) rfl hf rfl rfl fun a hf => ?_
        obtain ⟨r14, hr14, hm⟩ := ob hm
        refine op_enter (ex_call c_106 hf (vs := [str x11, int 255]) rfl) rfl hf rfl rfl (w_ref08_Small x11 255 r14 _ (hG.own hF hO) hr14) ?_
        rintro e w' ⟨he, hb⟩
        refine ⟨_, he, fun a hf => ?_⟩
        have hO := hO.grow hb
        refine op_val (ex_lss (m := r14) (n := 0) hf rfl rfl) rfl hf rfl rfl fun a hf => ?_
        refine wpList_nil ?_
        refine nor_then (hK15 _ _ ?_)
        refine wp_cond_cut hf rfl (fun hc16 => ?_) (fun hc16 => ?_)
        · have hm := it hc16 hm
          refine wp_seq_k fun _ hK17 => ?_
          refine wp_region_list ?_
          refine op_val (ex_assign hf rfl) rfl hf rfl rfl fun a hf => ?_
          refine wpList_nil ?_
          refine nor_then (hK17 _ _ ?_)
          refine wp_ret ?_
          refine ret_block ?_
          refine ret_then ?_
          refine ret_then ?_
          refine ret_block ?_
          refine ret_then ?_
          obtain rfl := Option.some.inj hm
          exact post_ret Tryz.results55 hf (.tmp rfl .nil) ⟨rfl, hO.below⟩
        · have hm := ie hc16 hm
          refine wp_skip ?_
          refine nor_block ?_
          refine nor_then (hK18 _ _ ?_)
          refine wp_region_list ?_
          refine op_val (ex_move hf rfl) rfl hf rfl rfl fun a hf => ?_
          obtain ⟨i19, hi19, hm⟩ := ob hm
          refine op_val (ex_add hf rfl rfl hi19) rfl hf rfl rfl fun a hf => ?_
          refine op_val (ex_assign hf rfl) rfl hf rfl rfl fun a hf => ?_
          refine wpList_nil ?_
          refine nor_then ?_
          exact ⟨_, Nat.lt_succ_self _, i19, (hf.cons rfl (hf.cons rfl hf.nil)), hO, hm⟩
      · have hm := ie hc9 hm
        refine wp_exit ?_
        refine exit_then ?_
        refine exit_then ?_
        refine exit_here ?_
        refine nor_then (hK20 _ _ ?_)
        refine wp_seq_k fun _ hK21 => ?_
        refine wp_region_list ?_
        refine op_val (ex_move hf rfl) rfl hf rfl rfl fun a hf => ?_
        refine op_val (ex_len_l Tryz.underlying40 hf rfl) rfl hf rfl rfl fun a hf => ?_
        refine op_val (ex_eql (m := (r2.length : Int)) (n := 4) hf rfl rfl) rfl hf rfl rfl fun a hf => ?_
        refine op_val (ex_assign hf rfl) rfl hf rfl rfl fun a hf => ?_
        refine wpList_nil ?_
        refine nor_then (hK21 _ _ ?_)
        refine wp_ret ?_
        obtain rfl := Option.some.inj hm
        exact post_ret Tryz.results55 hf (.tmp rfl .nil) ⟨rfl, hO.below⟩
  · exact ⟨0, (hf.cons rfl (hf.cons rfl hf.nil)), hO, hm⟩

set_option maxHeartbeats 1000000 in
theorem w_ref01_Hex (x_b : UInt8) (R : Bool) (w0 : World) (hG : Glob w0) (hm : ref01_Hex x_b = some R) :
    Calls Tryz.prog 154 #[byte x_b] w0 fun e w' => e = .returned (.bool R) ∧ Below w0.heap.size w0 w' := by
  rw [ref01_Hex] at hm
  refine calls_enter (vs := [byte x_b]) Tryz.func154 rfl Tryz.ntmps154 rfl fun a hf => ?_
  have hF : Away [] := away_nil
  have hO : Dk.Own w0 [] w0 [] := Dk.Own.refl w0
  refine wp_seq_k fun _ hK1 => ?_
  refine wp_region_list ?_
  refine op_val (ex_assign hf rfl) rfl hf rfl rfl fun a hf => ?_
  refine wpList_nil ?_
  refine nor_then (hK1 _ _ ?_)
  refine wp_seq_k fun _ hK3 => ?_
  refine wp_region_list ?_
  refine op_val (ex_move hf rfl) rfl hf rfl rfl fun a hf => ?_
  obtain ⟨r2, hr2, hm⟩ := ob hm
  refine op_enter (ex_call c_133 hf (vs := [byte x_b, str [48, 49, 50, 51, 52, 53, 54, 55, 56, 57, 97, 98, 99, 100, 101, 102, 65, 66, 67, 68, 69, 70]]) rfl) rfl hf rfl rfl (w_ref01_In x_b [48, 49, 50, 51, 52, 53, 54, 55, 56, 57, 97, 98, 99, 100, 101, 102, 65, 66, 67, 68, 69, 70] r2 _ (hG.own hF hO) hr2) ?_
  rintro e w' ⟨he, hb⟩
  refine ⟨_, he, fun a hf => ?_⟩
  have hO := hO.grow hb
  refine op_val (ex_assign hf rfl) rfl hf rfl rfl fun a hf => ?_
  refine wpList_nil ?_
  refine nor_then (hK3 _ _ ?_)
  refine wp_ret ?_
  obtain rfl := Option.some.inj hm
  exact post_ret Tryz.results154 hf (.tmp rfl .nil) ⟨rfl, hO.below⟩

set_option maxHeartbeats 1000000 in
theorem w_ref08_whole (x_s : Str) (R : Bool) (w0 : World) (hG : Glob w0) (hm : ref08_whole x_s = some R) :
    Calls Tryz.prog 105 #[str x_s] w0 fun e w' => e = .returned (.bool R) ∧ Below w0.heap.size w0 w' := by
  rw [ref08_whole] at hm
  refine calls_enter (vs := [str x_s]) Tryz.func105 rfl Tryz.ntmps105 rfl fun a hf => ?_
  have hF : Away [] := away_nil
  have hO : Dk.Own w0 [] w0 [] := Dk.Own.refl w0
  refine wp_seq_k fun _ hK1 => ?_
  refine wp_region_list ?_
  refine op_val (ex_assign hf rfl) rfl hf rfl rfl fun a hf => ?_
  refine wpList_nil ?_
  refine nor_then (hK1 _ _ ?_)
  refine wp_seq_k fun _ hK5 => ?_
  refine wp_region_list ?_
  refine op_val (ex_move hf rfl) rfl hf rfl rfl fun a hf => ?_
  obtain ⟨r2, hr2, hm⟩ := ob hm
  refine op_enter (ex_call c_37 hf (vs := [str x_s, byte 58]) rfl) rfl hf rfl rfl (w_ref08_Parts x_s 58 r2 _ (hG.own hF hO) hr2) ?_
  rintro e w' ⟨p3, c4, he, hO'⟩
  refine ⟨_, he, fun a hf => ?_⟩
  have hO := hO.call hO' (by simp [Res.shared])
  refine op_val (ex_assign hf rfl) rfl hf rfl rfl fun a hf => ?_
  refine wpList_nil ?_
  refine nor_then (hK5 _ _ ?_)
  refine wp_seq_k fun _ hK6 => ?_
  refine wp_region_list ?_
  refine op_val (ex_assign hf rfl) rfl hf rfl rfl fun a hf => ?_
  refine wpList_nil ?_
  refine nor_then (hK6 _ _ ?_)
  refine wp_seq_k fun _ hK57 => ?_
  refine wp_seq_k fun _ hK7 => ?_
  refine wp_region_list ?_
  refine op_val (ex_assign hf rfl) rfl hf rfl rfl fun a hf => ?_
  refine wpList_nil ?_
  refine nor_then (hK7 _ _ ?_)
  refine wp_block ?_
  refine wp_loop_n (fun k a w => ∃ (i8 : Int) (i9 : Int), Fits 64 [(3, .slice p3 r2.length c4), (4, int i8), (5, int i9)] a ∧ Dk.Own w0 [] w [.row (.slice p3 r2.length c4) 9 1 r2.length (cells enc_str r2)] ∧ ref08_whole_L1 r2 k i8 i9 = some R) ?_ fuel ?_
  · rintro n1 a w ⟨i8, i9, hf, hO, hm⟩
    obtain _ | n1 := n1
    · rw [ref08_whole_L1] at hm
      cases hm
    · rw [ref08_whole_L1] at hm
      refine wp_seq_k fun _ hK12 => ?_
      refine wp_seq_k fun _ hK10 => ?_
      refine wp_region_list ?_
      refine op_val (ex_move hf rfl) rfl hf rfl rfl fun a hf => ?_
      refine op_val (ex_move hf rfl) rfl hf rfl rfl fun a hf => ?_
      refine op_val (ex_len_l Tryz.underlying40 hf rfl) rfl hf rfl rfl fun a hf => ?_
      refine op_val (ex_lss (m := i9) (n := (r2.length : Int)) hf rfl rfl) rfl hf rfl rfl fun a hf => ?_
      refine wpList_nil ?_
      refine nor_then (hK10 _ _ ?_)
      refine wp_cond_cut hf rfl (fun hc11 => ?_) (fun hc11 => ?_)
      · have hm := it hc11 hm
        refine wp_skip ?_
        refine nor_then (hK12 _ _ ?_)
        refine wp_seq_cut (fun a w => ∃ (i55 : Int), Fits 64 [(3, .slice p3 r2.length c4), (4, int i55), (5, int i9)] a ∧ Dk.Own w0 [] w [.row (.slice p3 r2.length c4) 9 1 r2.length (cells enc_str r2)] ∧ ref08_whole_j5 (ref08_whole_L1 r2 n1) i9 i55 = some R) ?_ ?_
        · refine wp_block ?_
          refine wp_seq_k fun _ hK23 => ?_
          refine wp_seq_cut (fun a w => ∃ (t19 : Bool), Fits 64 [(3, .slice p3 r2.length c4), (4, int i8), (5, int i9), (26, .bool t19)] a ∧ Dk.Own w0 [] w [.row (.slice p3 r2.length c4) 9 1 r2.length (cells enc_str r2)] ∧ ref08_whole_j2 (ref08_whole_L1 r2 n1) r2 i8 i9 t19 = some R) ?_ ?_
          · refine wp_region_list ?_
            refine op_val (ex_move hf rfl) rfl hf rfl rfl fun a hf => ?_
            refine op_val (ex_move hf rfl) rfl hf rfl rfl fun a hf => ?_
            refine op_val (ex_len_l Tryz.underlying40 hf rfl) rfl hf rfl rfl fun a hf => ?_
            obtain ⟨i13, hi13, hm⟩ := ob hm
            refine op_val (ex_sub hf rfl rfl hi13) rfl hf rfl rfl fun a hf => ?_
            refine op_val (ex_eql (m := i9) (n := i13) hf rfl rfl) rfl hf rfl rfl fun a hf => ?_
            refine op_val (ex_move hf rfl) rfl hf rfl rfl fun a hf => ?_
            rcases bcase (i9 == i13) with hc14 | hc14
            · have hm := it hc14 hm
              refine op_guard rfl hf rfl rfl (hc14) ?_
              refine op_val (ex_move hf rfl) rfl hf rfl rfl fun a hf => ?_
              refine op_guard rfl hf rfl rfl (hc14) ?_
              refine op_val (ex_move hf rfl) rfl hf rfl rfl fun a hf => ?_
              refine op_guard rfl hf rfl rfl (hc14) ?_
              obtain ⟨x15, hx15, hm⟩ := ob hm
              obtain ⟨b16, o17, hix15, hSx15, hAx15⟩ := elemAtRow (enc := enc_str) (sz := 1) (xs := r2) 40 Tryz.underlying40 sz_9 (by decide) (fun _ => rfl) hO (i := 0) rfl hx15
              refine op_val (ex_indexAddr hix15 hf rfl rfl) rfl hf rfl rfl fun a hf => ?_
              refine op_guard rfl hf rfl rfl (hc14) ?_
              refine op_val (ex_load1 (o := 0) ag_9 (hSx15 _ (hO.rowSees (i := 0) rfl)) rfl hf rfl) rfl hf rfl rfl fun a hf => ?_
              refine op_guard rfl hf rfl rfl (hc14) ?_
              obtain ⟨r18, hr18, hm⟩ := ob hm
              refine op_enter (ex_call c_55 hf (vs := [str x15]) rfl) rfl hf rfl rfl (w_ref08_Four x15 r18 _ (hG.own hF hO) hr18) ?_
              rintro e w' ⟨he, hb⟩
              refine ⟨_, he, fun a hf => ?_⟩
              have hO := hO.grow hb
              refine op_val (ex_pick_t hf rfl hc14 rfl) rfl hf rfl rfl fun a hf => ?_
              refine wpList_nil ?_
              refine nor_then ?_
              exact ⟨r18, (hf.cons rfl (hf.cons rfl (hf.cons rfl (hf.cons rfl hf.nil)))), hO, hm⟩
            · have hm := ie hc14 hm
              refine op_pass rfl hf rfl rfl (hc14) rfl rfl fun a hf => ?_
              refine op_pass rfl hf rfl rfl (hc14) rfl rfl fun a hf => ?_
              refine op_pass rfl hf rfl rfl (hc14) rfl rfl fun a hf => ?_
              refine op_pass rfl hf rfl rfl (hc14) rfl rfl fun a hf => ?_
              refine op_pass rfl hf rfl rfl (hc14) rfl rfl fun a hf => ?_
              refine op_val (ex_pick_f hf rfl hc14 rfl) rfl hf rfl rfl fun a hf => ?_
              refine wpList_nil ?_
              refine nor_then ?_
              exact ⟨false, (hf.cons rfl (hf.cons rfl (hf.cons rfl (hf.cons rfl hf.nil)))), hO, hm⟩
          · rintro a w ⟨t19, hf, hO, hm⟩
            rw [ref08_whole_j2] at hm
            refine wp_cond_cut hf rfl (fun hc20 => ?_) (fun hc20 => ?_)
            · have hm := it hc20 hm
              refine wp_seq_k fun _ hK22 => ?_
              refine wp_region_list ?_
              refine op_val (ex_move hf rfl) rfl hf rfl rfl fun a hf => ?_
              obtain ⟨i21, hi21, hm⟩ := ob hm
              refine op_val (ex_add hf rfl rfl hi21) rfl hf rfl rfl fun a hf => ?_
              refine op_val (ex_assign hf rfl) rfl hf rfl rfl fun a hf => ?_
              refine wpList_nil ?_
              refine nor_then (hK22 _ _ ?_)
              refine wp_exit ?_
              refine exit_then ?_
              refine exit_here ?_
              refine nor_then ?_
              exact ⟨i21, (hf.cons rfl (hf.cons rfl (hf.cons rfl hf.nil))), hO, hm⟩
            · have hm := ie hc20 hm
              refine wp_skip ?_
              refine nor_then (hK23 _ _ ?_)
              refine wp_seq_k fun _ hK42 => ?_
              refine wp_seq_k fun _ hK24 => ?_
              refine wp_region_list ?_
              refine op_val (ex_assign hf rfl) rfl hf rfl rfl fun a hf => ?_
              refine wpList_nil ?_
              refine nor_then (hK24 _ _ ?_)
              refine wp_block ?_
              refine wp_loop_n (fun k a w => ∃ (i25 : Int), Fits 64 [(3, .slice p3 r2.length c4), (4, int i8), (5, int i9), (6, int i25)] a ∧ Dk.Own w0 [] w [.row (.slice p3 r2.length c4) 9 1 r2.length (cells enc_str r2)] ∧ ref08_whole_L3 (ref08_whole_L1 r2 n1) r2 i8 i9 k i25 = some R) ?_ fuel ?_
              · rintro n3 a w ⟨i25, hf, hO, hm⟩
                obtain _ | n3 := n3
                · rw [ref08_whole_L3] at hm
                  cases hm
                · rw [ref08_whole_L3] at hm
                  refine wp_seq_k fun _ hK31 => ?_
                  refine wp_seq_k fun _ hK29 => ?_
                  refine wp_region_list ?_
                  refine op_val (ex_move hf rfl) rfl hf rfl rfl fun a hf => ?_
                  refine op_val (ex_move hf rfl) rfl hf rfl rfl fun a hf => ?_
                  refine op_val (ex_move hf rfl) rfl hf rfl rfl fun a hf => ?_
                  obtain ⟨x26, hx26, hm⟩ := ob hm
                  obtain ⟨b27, o28, hix26, hSx26, hAx26⟩ := elemAtRow (enc := enc_str) (sz := 1) (xs := r2) 40 Tryz.underlying40 sz_9 (by decide) (fun _ => rfl) hO (i := 0) rfl hx26
                  refine op_val (ex_indexAddr hix26 hf rfl rfl) rfl hf rfl rfl fun a hf => ?_
                  refine op_val (ex_load1 (o := 0) ag_9 (hSx26 _ (hO.rowSees (i := 0) rfl)) rfl hf rfl) rfl hf rfl rfl fun a hf => ?_
                  refine op_val (ex_len_s (l := x26) Tryz.underlying9 hf rfl) rfl hf rfl rfl fun a hf => ?_
                  refine op_val (ex_lss (m := i25) (n := (x26.length : Int)) hf rfl rfl) rfl hf rfl rfl fun a hf => ?_
                  refine wpList_nil ?_
                  refine nor_then (hK29 _ _ ?_)
                  refine wp_cond_cut hf rfl (fun hc30 => ?_) (fun hc30 => ?_)
                  · have hm := it hc30 hm
                    refine wp_skip ?_
                    refine nor_then (hK31 _ _ ?_)
                    refine wp_seq_k fun _ hK40 => ?_
                    refine wp_block ?_
                    refine wp_seq_k fun _ hK37 => ?_
                    refine wp_region_list ?_
                    refine op_val (ex_move hf rfl) rfl hf rfl rfl fun a hf => ?_
                    refine op_val (ex_move hf rfl) rfl hf rfl rfl fun a hf => ?_
                    obtain ⟨x32, hx32, hm⟩ := ob hm
                    obtain ⟨b33, o34, hix32, hSx32, hAx32⟩ := elemAtRow (enc := enc_str) (sz := 1) (xs := r2) 40 Tryz.underlying40 sz_9 (by decide) (fun _ => rfl) hO (i := 0) rfl hx32
                    refine op_val (ex_indexAddr hix32 hf rfl rfl) rfl hf rfl rfl fun a hf => ?_
                    refine op_val (ex_load1 (o := 0) ag_9 (hSx32 _ (hO.rowSees (i := 0) rfl)) rfl hf rfl) rfl hf rfl rfl fun a hf => ?_
                    refine op_val (ex_move hf rfl) rfl hf rfl rfl fun a hf => ?_
                    obtain ⟨b35, hb35, hm⟩ := ob hm
                    refine op_val (ex_index (l := x32) Tryz.underlying9 hf rfl rfl hb35) rfl hf rfl rfl fun a hf => ?_
                    obtain ⟨r36, hr36, hm⟩ := ob hm
                    refine op_enter (ex_call c_154 hf (vs := [byte b35]) rfl) rfl hf rfl rfl (w_ref01_Hex b35 r36 _ (hG.own hF hO) hr36) ?_
                    rintro e w' ⟨he, hb⟩
                    refine ⟨_, he, fun a hf => ?_⟩
                    have hO := hO.grow hb
                    refine op_val (ex_not hf rfl) rfl hf rfl rfl fun a hf => ?_
                    refine wpList_nil ?_
                    refine nor_then (hK37 _ _ ?_)
                    refine wp_cond_cut hf rfl (fun hc38 => ?_) (fun hc38 => ?_)
                    · have hm := it hc38 hm
                      refine wp_seq_k fun _ hK39 => ?_
                      refine wp_region_list ?_
                      refine op_val (ex_assign hf rfl) rfl hf rfl rfl fun a hf => ?_
                      refine wpList_nil ?_
                      refine nor_then (hK39 _ _ ?_)
                      refine wp_ret ?_
                      refine ret_block ?_
                      refine ret_then ?_
                      refine ret_then ?_
                      refine ret_block ?_
                      refine ret_then ?_
                      refine ret_block ?_
                      refine ret_then ?_
                      refine ret_then ?_
                      refine ret_block ?_
                      refine ret_then ?_
                      obtain rfl := Option.some.inj hm
                      exact post_ret Tryz.results105 hf (.tmp rfl .nil) ⟨rfl, hO.below⟩
                    · have hm := ie hc38 hm
                      refine wp_skip ?_
                      refine nor_block ?_
                      refine nor_then (hK40 _ _ ?_)
                      refine wp_region_list ?_
                      refine op_val (ex_move hf rfl) rfl hf rfl rfl fun a hf => ?_
                      obtain ⟨i41, hi41, hm⟩ := ob hm
                      refine op_val (ex_add hf rfl rfl hi41) rfl hf rfl rfl fun a hf => ?_
                      refine op_val (ex_assign hf rfl) rfl hf rfl rfl fun a hf => ?_
                      refine wpList_nil ?_
                      refine nor_then ?_
                      exact ⟨_, Nat.lt_succ_self _, i41, (hf.cons rfl (hf.cons rfl (hf.cons rfl (hf.cons rfl hf.nil)))), hO, hm⟩
                  · have hm := ie hc30 hm
                    refine wp_exit ?_
                    refine exit_then ?_
                    refine exit_then ?_
                    refine exit_here ?_
                    refine nor_then (hK42 _ _ ?_)
                    refine wp_seq_k fun _ hK53 => ?_
                    refine wp_seq_cut (fun a w => ∃ (t50 : Bool), Fits 64 [(3, .slice p3 r2.length c4), (4, int i8), (5, int i9), (59, .bool t50)] a ∧ Dk.Own w0 [] w [.row (.slice p3 r2.length c4) 9 1 r2.length (cells enc_str r2)] ∧ ref08_whole_j4 (ref08_whole_L1 r2 n1) i8 i9 t50 = some R) ?_ ?_
                    · refine wp_region_list ?_
                      refine op_val (ex_move hf rfl) rfl hf rfl rfl fun a hf => ?_
                      refine op_val (ex_move hf rfl) rfl hf rfl rfl fun a hf => ?_
                      obtain ⟨x43, hx43, hm⟩ := ob hm
                      obtain ⟨b44, o45, hix43, hSx43, hAx43⟩ := elemAtRow (enc := enc_str) (sz := 1) (xs := r2) 40 Tryz.underlying40 sz_9 (by decide) (fun _ => rfl) hO (i := 0) rfl hx43
                      refine op_val (ex_indexAddr hix43 hf rfl rfl) rfl hf rfl rfl fun a hf => ?_
                      refine op_val (ex_load1 (o := 0) ag_9 (hSx43 _ (hO.rowSees (i := 0) rfl)) rfl hf rfl) rfl hf rfl rfl fun a hf => ?_
                      refine op_val (ex_len_s (l := x43) Tryz.underlying9 hf rfl) rfl hf rfl rfl fun a hf => ?_
                      refine op_val (ex_lss (m := (x43.length : Int)) (n := 1) hf rfl rfl) rfl hf rfl rfl fun a hf => ?_
                      refine op_val (ex_move hf rfl) rfl hf rfl rfl fun a hf => ?_
                      rcases bcase (decide ((x43.length : Int) < 1)) with hc46 | hc46
                      · have hm := it hc46 hm
                        refine op_pass rfl hf rfl rfl (hc46) rfl rfl fun a hf => ?_
                        refine op_pass rfl hf rfl rfl (hc46) rfl rfl fun a hf => ?_
                        refine op_pass rfl hf rfl rfl (hc46) rfl rfl fun a hf => ?_
                        refine op_pass rfl hf rfl rfl (hc46) rfl rfl fun a hf => ?_
                        refine op_pass rfl hf rfl rfl (hc46) rfl rfl fun a hf => ?_
                        refine op_pass rfl hf rfl rfl (hc46) rfl rfl fun a hf => ?_
                        refine op_val (ex_pick_t hf rfl hc46 rfl) rfl hf rfl rfl fun a hf => ?_
                        refine wpList_nil ?_
                        refine nor_then ?_
                        exact ⟨true, (hf.cons rfl (hf.cons rfl (hf.cons rfl (hf.cons rfl hf.nil)))), hO, hm⟩
                      · have hm := ie hc46 hm
                        refine op_guard rfl hf rfl rfl (hc46) ?_
                        refine op_val (ex_move hf rfl) rfl hf rfl rfl fun a hf => ?_
                        refine op_guard rfl hf rfl rfl (hc46) ?_
                        refine op_val (ex_move hf rfl) rfl hf rfl rfl fun a hf => ?_
                        refine op_guard rfl hf rfl rfl (hc46) ?_
                        obtain ⟨x47, hx47, hm⟩ := ob hm
                        obtain ⟨b48, o49, hix47, hSx47, hAx47⟩ := elemAtRow (enc := enc_str) (sz := 1) (xs := r2) 40 Tryz.underlying40 sz_9 (by decide) (fun _ => rfl) hO (i := 0) rfl hx47
                        refine op_val (ex_indexAddr hix47 hf rfl rfl) rfl hf rfl rfl fun a hf => ?_
                        refine op_guard rfl hf rfl rfl (hc46) ?_
                        refine op_val (ex_load1 (o := 0) ag_9 (hSx47 _ (hO.rowSees (i := 0) rfl)) rfl hf rfl) rfl hf rfl rfl fun a hf => ?_
                        refine op_guard rfl hf rfl rfl (hc46) ?_
                        refine op_val (ex_len_s (l := x47) Tryz.underlying9 hf rfl) rfl hf rfl rfl fun a hf => ?_
                        refine op_guard rfl hf rfl rfl (hc46) ?_
                        refine op_val (ex_gtr (m := (x47.length : Int)) (n := 4) hf rfl rfl) rfl hf rfl rfl fun a hf => ?_
                        refine op_val (ex_pick_f hf rfl hc46 rfl) rfl hf rfl rfl fun a hf => ?_
                        refine wpList_nil ?_
                        refine nor_then ?_
                        exact ⟨decide (4 < (x47.length : Int)), (hf.cons rfl (hf.cons rfl (hf.cons rfl (hf.cons rfl hf.nil)))), hO, hm⟩
                    · rintro a w ⟨t50, hf, hO, hm⟩
                      rw [ref08_whole_j4] at hm
                      refine wp_cond_cut hf rfl (fun hc51 => ?_) (fun hc51 => ?_)
                      · have hm := it hc51 hm
                        refine wp_seq_k fun _ hK52 => ?_
                        refine wp_region_list ?_
                        refine op_val (ex_assign hf rfl) rfl hf rfl rfl fun a hf => ?_
                        refine wpList_nil ?_
                        refine nor_then (hK52 _ _ ?_)
                        refine wp_ret ?_
                        refine ret_then ?_
                        refine ret_block ?_
                        refine ret_then ?_
                        refine ret_then ?_
                        refine ret_block ?_
                        refine ret_then ?_
                        obtain rfl := Option.some.inj hm
                        exact post_ret Tryz.results105 hf (.tmp rfl .nil) ⟨rfl, hO.below⟩
                      · have hm := ie hc51 hm
                        refine wp_skip ?_
                        refine nor_then (hK53 _ _ ?_)
                        refine wp_region_list ?_
                        refine op_val (ex_move hf rfl) rfl hf rfl rfl fun a hf => ?_
                        obtain ⟨i54, hi54, hm⟩ := ob hm
                        refine op_val (ex_add hf rfl rfl hi54) rfl hf rfl rfl fun a hf => ?_
                        refine op_val (ex_assign hf rfl) rfl hf rfl rfl fun a hf => ?_
                        refine wpList_nil ?_
                        refine nor_block ?_
                        refine nor_then ?_
                        exact ⟨i54, (hf.cons rfl (hf.cons rfl (hf.cons rfl hf.nil))), hO, hm⟩
              · exact ⟨0, (hf.cons rfl (hf.cons rfl (hf.cons rfl (hf.cons rfl hf.nil)))), hO, hm⟩
        · rintro a w ⟨i55, hf, hO, hm⟩
          rw [ref08_whole_j5] at hm
          refine wp_region_list ?_
          refine op_val (ex_move hf rfl) rfl hf rfl rfl fun a hf => ?_
          obtain ⟨i56, hi56, hm⟩ := ob hm
          refine op_val (ex_add hf rfl rfl hi56) rfl hf rfl rfl fun a hf => ?_
          refine op_val (ex_assign hf rfl) rfl hf rfl rfl fun a hf => ?_
          refine wpList_nil ?_
          refine nor_then ?_
          exact ⟨_, Nat.lt_succ_self _, i55, i56, (hf.cons rfl (hf.cons rfl (hf.cons rfl hf.nil))), hO, hm⟩
      · have hm := ie hc11 hm
        refine wp_exit ?_
        refine exit_then ?_
        refine exit_then ?_
        refine exit_here ?_
        refine nor_then (hK57 _ _ ?_)
        refine wp_seq_k fun _ hK58 => ?_
        refine wp_region_list ?_
        refine op_val (ex_move hf rfl) rfl hf rfl rfl fun a hf => ?_
        refine op_val (ex_eql (m := i8) (n := 8) hf rfl rfl) rfl hf rfl rfl fun a hf => ?_
        refine op_val (ex_assign hf rfl) rfl hf rfl rfl fun a hf => ?_
        refine wpList_nil ?_
        refine nor_then (hK58 _ _ ?_)
        refine wp_ret ?_
        obtain rfl := Option.some.inj hm
        exact post_ret Tryz.results105 hf (.tmp rfl .nil) ⟨rfl, hO.below⟩
  · exact ⟨0, 0, (hf.cons rfl (hf.cons rfl (hf.cons rfl hf.nil))), hO, hm⟩

set_option maxHeartbeats 1000000 in
theorem w_ref08_Six (x_s : Str) (R : Bool) (w0 : World) (hG : Glob w0) (hm : ref08_Six x_s = some R) :
    Calls Tryz.prog 54 #[str x_s] w0 fun e w' => e = .returned (.bool R) ∧ Below w0.heap.size w0 w' := by
  rw [ref08_Six] at hm
  refine calls_enter (vs := [str x_s]) Tryz.func54 rfl Tryz.ntmps54 rfl fun a hf => ?_
  have hF : Away [] := away_nil
  have hO : Dk.Own w0 [] w0 [] := Dk.Own.refl w0
  refine wp_seq_k fun _ hK1 => ?_
  refine wp_region_list ?_
  refine op_val (ex_assign hf rfl) rfl hf rfl rfl fun a hf => ?_
  refine wpList_nil ?_
  refine nor_then (hK1 _ _ ?_)
  refine wp_seq_k fun _ hK55 => ?_
  refine wp_seq_k fun _ hK2 => ?_
  refine wp_region_list ?_
  refine op_val (ex_assign hf rfl) rfl hf rfl rfl fun a hf => ?_
  refine wpList_nil ?_
  refine nor_then (hK2 _ _ ?_)
  refine wp_block ?_
  refine wp_loop_n (fun k a w => ∃ (i3 : Int), Fits 59 [(0, str x_s), (3, int i3)] a ∧ Dk.Own w0 [] w [] ∧ ref08_Six_L1 x_s k i3 = some R) ?_ fuel ?_
  · rintro n1 a w ⟨i3, hf, hO, hm⟩
    obtain _ | n1 := n1
    · rw [ref08_Six_L1] at hm
      cases hm
    · rw [ref08_Six_L1] at hm
      refine wp_seq_k fun _ hK7 => ?_
      refine wp_seq_k fun _ hK5 => ?_
      refine wp_region_list ?_
      refine op_val (ex_move hf rfl) rfl hf rfl rfl fun a hf => ?_
      obtain ⟨i4, hi4, hm⟩ := ob hm
      refine op_val (ex_add hf rfl rfl hi4) rfl hf rfl rfl fun a hf => ?_
      refine op_val (ex_move hf rfl) rfl hf rfl rfl fun a hf => ?_
      refine op_val (ex_len_s (l := x_s) Tryz.underlying9 hf rfl) rfl hf rfl rfl fun a hf => ?_
      refine op_val (ex_lss (m := i4) (n := (x_s.length : Int)) hf rfl rfl) rfl hf rfl rfl fun a hf => ?_
      refine wpList_nil ?_
      refine nor_then (hK5 _ _ ?_)
      refine wp_cond_cut hf rfl (fun hc6 => ?_) (fun hc6 => ?_)
      · have hm := it hc6 hm
        refine wp_skip ?_
        refine nor_then (hK7 _ _ ?_)
        refine wp_seq_k fun _ hK53 => ?_
        refine wp_block ?_
        refine wp_seq_k fun _ hK14 => ?_
        refine wp_seq_cut (fun a w => ∃ (t12 : Bool), Fits 59 [(0, str x_s), (3, int i3), (24, .bool t12)] a ∧ Dk.Own w0 [] w [] ∧ ref08_Six_j2 (ref08_Six_L1 x_s n1) x_s i3 t12 = some R) ?_ ?_
        · refine wp_region_list ?_
          refine op_val (ex_move hf rfl) rfl hf rfl rfl fun a hf => ?_
          refine op_val (ex_move hf rfl) rfl hf rfl rfl fun a hf => ?_
          obtain ⟨b8, hb8, hm⟩ := ob hm
          refine op_val (ex_index (l := x_s) Tryz.underlying9 hf rfl rfl hb8) rfl hf rfl rfl fun a hf => ?_
          refine op_val (ex_neq_b (b := b8) (c := 58) hf rfl rfl) rfl hf rfl rfl fun a hf => ?_
          refine op_val (ex_move hf rfl) rfl hf rfl rfl fun a hf => ?_
          rcases bcase (!(b8 == 58)) with hc9 | hc9
          · have hm := it hc9 hm
            refine op_pass rfl hf rfl rfl (hc9) rfl rfl fun a hf => ?_
            refine op_pass rfl hf rfl rfl (hc9) rfl rfl fun a hf => ?_
            refine op_pass rfl hf rfl rfl (hc9) rfl rfl fun a hf => ?_
            refine op_pass rfl hf rfl rfl (hc9) rfl rfl fun a hf => ?_
            refine op_pass rfl hf rfl rfl (hc9) rfl rfl fun a hf => ?_
            refine op_val (ex_pick_t hf rfl hc9 rfl) rfl hf rfl rfl fun a hf => ?_
            refine wpList_nil ?_
            refine nor_then ?_
            exact ⟨true, (hf.cons rfl (hf.cons rfl (hf.cons rfl hf.nil))), hO, hm⟩
          · have hm := ie hc9 hm
            refine op_guard rfl hf rfl rfl (hc9) ?_
            refine op_val (ex_move hf rfl) rfl hf rfl rfl fun a hf => ?_
            refine op_guard rfl hf rfl rfl (hc9) ?_
            refine op_val (ex_move hf rfl) rfl hf rfl rfl fun a hf => ?_
            refine op_guard rfl hf rfl rfl (hc9) ?_
            obtain ⟨i10, hi10, hm⟩ := ob hm
            refine op_val (ex_add hf rfl rfl hi10) rfl hf rfl rfl fun a hf => ?_
            refine op_guard rfl hf rfl rfl (hc9) ?_
            obtain ⟨b11, hb11, hm⟩ := ob hm
            refine op_val (ex_index (l := x_s) Tryz.underlying9 hf rfl rfl hb11) rfl hf rfl rfl fun a hf => ?_
            refine op_guard rfl hf rfl rfl (hc9) ?_
            refine op_val (ex_neq_b (b := b11) (c := 58) hf rfl rfl) rfl hf rfl rfl fun a hf => ?_
            refine op_val (ex_pick_f hf rfl hc9 rfl) rfl hf rfl rfl fun a hf => ?_
            refine wpList_nil ?_
            refine nor_then ?_
            exact ⟨!(b11 == 58), (hf.cons rfl (hf.cons rfl (hf.cons rfl hf.nil))), hO, hm⟩
        · rintro a w ⟨t12, hf, hO, hm⟩
          rw [ref08_Six_j2] at hm
          refine wp_cond_cut hf rfl (fun hc13 => ?_) (fun hc13 => ?_)
          · have hm := it hc13 hm
            refine wp_exit ?_
            refine exit_then ?_
            refine exit_here ?_
            refine nor_then (hK53 _ _ ?_)
            refine wp_region_list ?_
            refine op_val (ex_move hf rfl) rfl hf rfl rfl fun a hf => ?_
            obtain ⟨i54, hi54, hm⟩ := ob hm
            refine op_val (ex_add hf rfl rfl hi54) rfl hf rfl rfl fun a hf => ?_
            refine op_val (ex_assign hf rfl) rfl hf rfl rfl fun a hf => ?_
            refine wpList_nil ?_
            refine nor_then ?_
            exact ⟨_, Nat.lt_succ_self _, i54, (hf.cons rfl (hf.cons rfl hf.nil)), hO, hm⟩
          · have hm := ie hc13 hm
            refine wp_skip ?_
            refine nor_then (hK14 _ _ ?_)
            refine wp_seq_k fun _ hK51 => ?_
            refine wp_seq_k fun _ hK15 => ?_
            refine wp_region_list ?_
            refine op_val (ex_assign hf rfl) rfl hf rfl rfl fun a hf => ?_
            refine wpList_nil ?_
            refine nor_then (hK15 _ _ ?_)
            refine wp_block ?_
            refine wp_loop_n (fun k a w => ∃ (i16 : Int), Fits 59 [(0, str x_s), (3, int i3), (4, int i16)] a ∧ Dk.Own w0 [] w [] ∧ ref08_Six_L3 x_s i3 k i16 = some R) ?_ fuel ?_
            · rintro n3 a w ⟨i16, hf, hO, hm⟩
              obtain _ | n3 := n3
              · rw [ref08_Six_L3] at hm
                cases hm
              · rw [ref08_Six_L3] at hm
                refine wp_seq_k fun _ hK19 => ?_
                refine wp_seq_k fun _ hK17 => ?_
                refine wp_region_list ?_
                refine op_val (ex_move hf rfl) rfl hf rfl rfl fun a hf => ?_
                refine op_val (ex_leq (m := i16) (n := 8) hf rfl rfl) rfl hf rfl rfl fun a hf => ?_
                refine wpList_nil ?_
                refine nor_then (hK17 _ _ ?_)
                refine wp_cond_cut hf rfl (fun hc18 => ?_) (fun hc18 => ?_)
                · have hm := it hc18 hm
                  refine wp_skip ?_
                  refine nor_then (hK19 _ _ ?_)
                  refine wp_seq_k fun _ hK49 => ?_
                  refine wp_block ?_
                  refine wp_seq_k fun _ hK21 => ?_
                  refine wp_region_list ?_
                  refine op_val (ex_move hf rfl) rfl hf rfl rfl fun a hf => ?_
                  refine op_val (ex_move hf rfl) rfl hf rfl rfl fun a hf => ?_
                  obtain ⟨s20, hs20, hm⟩ := ob hm
                  refine op_val (ex_to_s (l := x_s) Tryz.underlying9 hf rfl rfl hs20) rfl hf rfl rfl fun a hf => ?_
                  refine op_val (ex_assign hf rfl) rfl hf rfl rfl fun a hf => ?_
                  refine wpList_nil ?_
                  refine nor_then (hK21 _ _ ?_)
                  refine wp_seq_k fun _ hK35 => ?_
                  refine wp_seq_k fun _ hK22 => ?_
                  refine wp_region_list ?_
                  refine op_val (ex_assign hf rfl) rfl hf rfl rfl fun a hf => ?_
                  refine wpList_nil ?_
                  refine nor_then (hK22 _ _ ?_)
                  refine wp_block ?_
                  refine wp_loop_n (fun k a w => ∃ (s23 : Str) (i24 : Int), Fits 59 [(0, str x_s), (3, int i3), (4, int i16), (5, str s23), (6, int i24)] a ∧ Dk.Own w0 [] w [] ∧ ref08_Six_L4 (ref08_Six_L3 x_s i3 n3) x_s i3 i16 k s23 i24 = some R) ?_ fuel ?_
                  · rintro n4 a w ⟨s23, i24, hf, hO, hm⟩
                    obtain _ | n4 := n4
                    · rw [ref08_Six_L4] at hm
                      cases hm
                    · rw [ref08_Six_L4] at hm
                      refine wp_seq_k fun _ hK27 => ?_
                      refine wp_seq_k fun _ hK25 => ?_
                      refine wp_region_list ?_
                      refine op_val (ex_move hf rfl) rfl hf rfl rfl fun a hf => ?_
                      refine op_val (ex_move hf rfl) rfl hf rfl rfl fun a hf => ?_
                      refine op_val (ex_lss (m := i24) (n := i16) hf rfl rfl) rfl hf rfl rfl fun a hf => ?_
                      refine wpList_nil ?_
                      refine nor_then (hK25 _ _ ?_)
                      refine wp_cond_cut hf rfl (fun hc26 => ?_) (fun hc26 => ?_)
                      · have hm := it hc26 hm
                        refine wp_skip ?_
                        refine nor_then (hK27 _ _ ?_)
                        refine wp_seq_k fun _ hK33 => ?_
                        refine wp_block ?_
                        refine wp_seq_cut (fun a w => ∃ (s31 : Str), Fits 59 [(0, str x_s), (3, int i3), (4, int i16), (5, str s31), (6, int i24)] a ∧ Dk.Own w0 [] w [] ∧ ref08_Six_j5 (ref08_Six_L4 (ref08_Six_L3 x_s i3 n3) x_s i3 i16 n4) i24 s31 = some R) ?_ ?_
                        · refine wp_seq_k fun _ hK28 => ?_
                          refine wp_region_list ?_
                          refine op_val (ex_move hf rfl) rfl hf rfl rfl fun a hf => ?_
                          refine op_val (ex_neq_s (l := s23) (m := []) hf rfl rfl) rfl hf rfl rfl fun a hf => ?_
                          refine wpList_nil ?_
                          refine nor_then (hK28 _ _ ?_)
                          refine wp_cond_cut hf rfl (fun hc29 => ?_) (fun hc29 => ?_)
                          · have hm := it hc29 hm
                            refine wp_region_list ?_
                            refine op_val (ex_move hf rfl) rfl hf rfl rfl fun a hf => ?_
                            obtain ⟨s30, hs30, hm⟩ := ob hm
                            refine op_val (ex_cat (l := s23) (m := [58]) hf rfl rfl hs30) rfl hf rfl rfl fun a hf => ?_
                            refine op_val (ex_assign hf rfl) rfl hf rfl rfl fun a hf => ?_
                            refine wpList_nil ?_
                            refine nor_then ?_
                            exact ⟨s30, (hf.cons rfl (hf.cons rfl (hf.cons rfl (hf.cons rfl (hf.cons rfl hf.nil))))), hO, hm⟩
                          · have hm := ie hc29 hm
                            refine wp_skip ?_
                            refine nor_then ?_
                            exact ⟨s23, (hf.cons rfl (hf.cons rfl (hf.cons rfl (hf.cons rfl (hf.cons rfl hf.nil))))), hO, hm⟩
                        · rintro a w ⟨s31, hf, hO, hm⟩
                          rw [ref08_Six_j5] at hm
                          refine wp_region_list ?_
                          refine op_val (ex_move hf rfl) rfl hf rfl rfl fun a hf => ?_
                          obtain ⟨s32, hs32, hm⟩ := ob hm
                          refine op_val (ex_cat (l := s31) (m := [48]) hf rfl rfl hs32) rfl hf rfl rfl fun a hf => ?_
                          refine op_val (ex_assign hf rfl) rfl hf rfl rfl fun a hf => ?_
                          refine wpList_nil ?_
                          refine nor_block ?_
                          refine nor_then (hK33 _ _ ?_)
                          refine wp_region_list ?_
                          refine op_val (ex_move hf rfl) rfl hf rfl rfl fun a hf => ?_
                          obtain ⟨i34, hi34, hm⟩ := ob hm
                          refine op_val (ex_add hf rfl rfl hi34) rfl hf rfl rfl fun a hf => ?_
                          refine op_val (ex_assign hf rfl) rfl hf rfl rfl fun a hf => ?_
                          refine wpList_nil ?_
                          refine nor_then ?_
                          exact ⟨_, Nat.lt_succ_self _, s32, i34, (hf.cons rfl (hf.cons rfl (hf.cons rfl (hf.cons rfl (hf.cons rfl hf.nil))))), hO, hm⟩
                      · have hm := ie hc26 hm
                        refine wp_exit ?_
                        refine exit_then ?_
                        refine exit_then ?_
                        refine exit_here ?_
                        refine nor_then (hK35 _ _ ?_)
                        refine wp_seq_cut (fun a w => ∃ (s44 : Str), Fits 59 [(0, str x_s), (3, int i3), (4, int i16), (5, str s44)] a ∧ Dk.Own w0 [] w [] ∧ ref08_Six_j6 (ref08_Six_L3 x_s i3 n3) i16 s44 = some R) ?_ ?_
                        · refine wp_seq_k fun _ hK38 => ?_
                          refine wp_region_list ?_
                          refine op_val (ex_move hf rfl) rfl hf rfl rfl fun a hf => ?_
                          refine op_val (ex_move hf rfl) rfl hf rfl rfl fun a hf => ?_
                          obtain ⟨i36, hi36, hm⟩ := ob hm
                          refine op_val (ex_add hf rfl rfl hi36) rfl hf rfl rfl fun a hf => ?_
                          obtain ⟨s37, hs37, hm⟩ := ob hm
                          refine op_val (ex_from_s (l := x_s) Tryz.underlying9 hf rfl rfl hs37) rfl hf rfl rfl fun a hf => ?_
                          refine op_val (ex_neq_s (l := s37) (m := []) hf rfl rfl) rfl hf rfl rfl fun a hf => ?_
                          refine wpList_nil ?_
                          refine nor_then (hK38 _ _ ?_)
                          refine wp_cond_cut hf rfl (fun hc39 => ?_) (fun hc39 => ?_)
                          · have hm := it hc39 hm
                            refine wp_region_list ?_
                            refine op_val (ex_move hf rfl) rfl hf rfl rfl fun a hf => ?_
                            obtain ⟨s40, hs40, hm⟩ := ob hm
                            refine op_val (ex_cat (l := s23) (m := [58]) hf rfl rfl hs40) rfl hf rfl rfl fun a hf => ?_
                            refine op_val (ex_move hf rfl) rfl hf rfl rfl fun a hf => ?_
                            refine op_val (ex_move hf rfl) rfl hf rfl rfl fun a hf => ?_
                            obtain ⟨i41, hi41, hm⟩ := ob hm
                            refine op_val (ex_add hf rfl rfl hi41) rfl hf rfl rfl fun a hf => ?_
                            obtain ⟨s42, hs42, hm⟩ := ob hm
                            refine op_val (ex_from_s (l := x_s) Tryz.underlying9 hf rfl rfl hs42) rfl hf rfl rfl fun a hf => ?_
                            obtain ⟨s43, hs43, hm⟩ := ob hm
                            refine op_val (ex_cat (l := s40) (m := s42) hf rfl rfl hs43) rfl hf rfl rfl fun a hf => ?_
                            refine op_val (ex_assign hf rfl) rfl hf rfl rfl fun a hf => ?_
                            refine wpList_nil ?_
                            refine nor_then ?_
                            exact ⟨s43, (hf.cons rfl (hf.cons rfl (hf.cons rfl (hf.cons rfl hf.nil)))), hO, hm⟩
                          · have hm := ie hc39 hm
                            refine wp_skip ?_
                            refine nor_then ?_
                            exact ⟨s23, (hf.cons rfl (hf.cons rfl (hf.cons rfl (hf.cons rfl hf.nil)))), hO, hm⟩
                        · rintro a w ⟨s44, hf, hO, hm⟩
                          rw [ref08_Six_j6] at hm
                          refine wp_seq_k fun _ hK46 => ?_
                          refine wp_region_list ?_
                          refine op_val (ex_move hf rfl) rfl hf rfl rfl fun a hf => ?_
                          obtain ⟨r45, hr45, hm⟩ := ob hm
                          refine op_enter (ex_call c_105 hf (vs := [str s44]) rfl) rfl hf rfl rfl (w_ref08_whole s44 r45 _ (hG.own hF hO) hr45) ?_
                          rintro e w' ⟨he, hb⟩
                          refine ⟨_, he, fun a hf => ?_⟩
                          have hO := hO.grow hb
                          refine wpList_nil ?_
                          refine nor_then (hK46 _ _ ?_)
                          refine wp_cond_cut hf rfl (fun hc47 => ?_) (fun hc47 => ?_)
                          · have hm := it hc47 hm
                            refine wp_seq_k fun _ hK48 => ?_
                            refine wp_region_list ?_
                            refine op_val (ex_assign hf rfl) rfl hf rfl rfl fun a hf => ?_
                            refine wpList_nil ?_
                            refine nor_then (hK48 _ _ ?_)
                            refine wp_ret ?_
                            refine ret_block ?_
                            refine ret_then ?_
                            refine ret_then ?_
                            refine ret_block ?_
                            refine ret_then ?_
                            refine ret_block ?_
                            refine ret_then ?_
                            refine ret_then ?_
                            refine ret_block ?_
                            refine ret_then ?_
                            obtain rfl := Option.some.inj hm
                            exact post_ret Tryz.results54 hf (.tmp rfl .nil) ⟨rfl, hO.below⟩
                          · have hm := ie hc47 hm
                            refine wp_skip ?_
                            refine nor_block ?_
                            refine nor_then (hK49 _ _ ?_)
                            refine wp_region_list ?_
                            refine op_val (ex_move hf rfl) rfl hf rfl rfl fun a hf => ?_
                            obtain ⟨i50, hi50, hm⟩ := ob hm
                            refine op_val (ex_add hf rfl rfl hi50) rfl hf rfl rfl fun a hf => ?_
                            refine op_val (ex_assign hf rfl) rfl hf rfl rfl fun a hf => ?_
                            refine wpList_nil ?_
                            refine nor_then ?_
                            exact ⟨_, Nat.lt_succ_self _, i50, (hf.cons rfl (hf.cons rfl (hf.cons rfl hf.nil))), hO, hm⟩
                  · exact ⟨s20, 0, (hf.cons rfl (hf.cons rfl (hf.cons rfl (hf.cons rfl (hf.cons rfl hf.nil))))), hO, hm⟩
                · have hm := ie hc18 hm
                  refine wp_exit ?_
                  refine exit_then ?_
                  refine exit_then ?_
                  refine exit_here ?_
                  refine nor_then (hK51 _ _ ?_)
                  refine wp_seq_k fun _ hK52 => ?_
                  refine wp_region_list ?_
                  refine op_val (ex_assign hf rfl) rfl hf rfl rfl fun a hf => ?_
                  refine wpList_nil ?_
                  refine nor_then (hK52 _ _ ?_)
                  refine wp_ret ?_
                  refine ret_block ?_
                  refine ret_then ?_
                  refine ret_then ?_
                  refine ret_block ?_
                  refine ret_then ?_
                  obtain rfl := Option.some.inj hm
                  exact post_ret Tryz.results54 hf (.tmp rfl .nil) ⟨rfl, hO.below⟩
            · exact ⟨1, (hf.cons rfl (hf.cons rfl (hf.cons rfl hf.nil))), hO, hm⟩
      · have hm := ie hc6 hm
        refine wp_exit ?_
        refine exit_then ?_
        refine exit_then ?_
        refine exit_here ?_
        refine nor_then (hK55 _ _ ?_)
        refine wp_seq_k fun _ hK57 => ?_
        refine wp_region_list ?_
        refine op_val (ex_move hf rfl) rfl hf rfl rfl fun a hf => ?_
        obtain ⟨r56, hr56, hm⟩ := ob hm
        refine op_enter (ex_call c_105 hf (vs := [str x_s]) rfl) rfl hf rfl rfl (w_ref08_whole x_s r56 _ (hG.own hF hO) hr56) ?_
        rintro e w' ⟨he, hb⟩
        refine ⟨_, he, fun a hf => ?_⟩
        have hO := hO.grow hb
        refine op_val (ex_assign hf rfl) rfl hf rfl rfl fun a hf => ?_
        refine wpList_nil ?_
        refine nor_then (hK57 _ _ ?_)
        refine wp_ret ?_
        obtain rfl := Option.some.inj hm
        exact post_ret Tryz.results54 hf (.tmp rfl .nil) ⟨rfl, hO.below⟩
  · exact ⟨0, (hf.cons rfl (hf.cons rfl hf.nil)), hO, hm⟩

set_option maxHeartbeats 1000000 in
theorem w_ref01_Unreserved (x_b : UInt8) (R : Bool) (w0 : World) (hG : Glob w0) (hm : ref01_Unreserved x_b = some R) :
    Calls Tryz.prog 200 #[byte x_b] w0 fun e w' => e = .returned (.bool R) ∧ Below w0.heap.size w0 w' := by
  rw [ref01_Unreserved] at hm
  refine calls_enter (vs := [byte x_b]) Tryz.func200 rfl Tryz.ntmps200 rfl fun a hf => ?_
  have hF : Away [] := away_nil
  have hO : Dk.Own w0 [] w0 [] := Dk.Own.refl w0
  refine wp_seq_k fun _ hK1 => ?_
  refine wp_region_list ?_
  refine op_val (ex_assign hf rfl) rfl hf rfl rfl fun a hf => ?_
  refine wpList_nil ?_
  refine nor_then (hK1 _ _ ?_)
  refine wp_seq_k fun _ hK3 => ?_
  refine wp_region_list ?_
  refine op_val (ex_move hf rfl) rfl hf rfl rfl fun a hf => ?_
  obtain ⟨r2, hr2, hm⟩ := ob hm
  refine op_enter (ex_call c_133 hf (vs := [byte x_b, str [97, 98, 99, 100, 101, 102, 103, 104, 105, 106, 107, 108, 109, 110, 111, 112, 113, 114, 115, 116, 117, 118, 119, 120, 121, 122, 65, 66, 67, 68, 69, 70, 71, 72, 73, 74, 75, 76, 77, 78, 79, 80, 81, 82, 83, 84, 85, 86, 87, 88, 89, 90, 48, 49, 50, 51, 52, 53, 54, 55, 56, 57, 45, 46, 95, 126]]) rfl) rfl hf rfl rfl (w_ref01_In x_b [97, 98, 99, 100, 101, 102, 103, 104, 105, 106, 107, 108, 109, 110, 111, 112, 113, 114, 115, 116, 117, 118, 119, 120, 121, 122, 65, 66, 67, 68, 69, 70, 71, 72, 73, 74, 75, 76, 77, 78, 79, 80, 81, 82, 83, 84, 85, 86, 87, 88, 89, 90, 48, 49, 50, 51, 52, 53, 54, 55, 56, 57, 45, 46, 95, 126] r2 _ (hG.own hF hO) hr2) ?_
  rintro e w' ⟨he, hb⟩
  refine ⟨_, he, fun a hf => ?_⟩
  have hO := hO.grow hb
  refine op_val (ex_assign hf rfl) rfl hf rfl rfl fun a hf => ?_
  refine wpList_nil ?_
  refine nor_then (hK3 _ _ ?_)
  refine wp_ret ?_
  obtain rfl := Option.some.inj hm
  exact post_ret Tryz.results200 hf (.tmp rfl .nil) ⟨rfl, hO.below⟩

set_option maxHeartbeats 1000000 in
theorem w_ref01_Sub (x_b : UInt8) (R : Bool) (w0 : World) (hG : Glob w0) (hm : ref01_Sub x_b = some R) :
    Calls Tryz.prog 201 #[byte x_b] w0 fun e w' => e = .returned (.bool R) ∧ Below w0.heap.size w0 w' := by
  rw [ref01_Sub] at hm
  refine calls_enter (vs := [byte x_b]) Tryz.func201 rfl Tryz.ntmps201 rfl fun a hf => ?_
  have hF : Away [] := away_nil
  have hO : Dk.Own w0 [] w0 [] := Dk.Own.refl w0
  refine wp_seq_k fun _ hK1 => ?_
  refine wp_region_list ?_
  refine op_val (ex_assign hf rfl) rfl hf rfl rfl fun a hf => ?_
  refine wpList_nil ?_
  refine nor_then (hK1 _ _ ?_)
  refine wp_seq_k fun _ hK3 => ?_
  refine wp_region_list ?_
  refine op_val (ex_move hf rfl) rfl hf rfl rfl fun a hf => ?_
  obtain ⟨r2, hr2, hm⟩ := ob hm
  refine op_enter (ex_call c_133 hf (vs := [byte x_b, str [33, 36, 38, 39, 40, 41, 42, 43, 44, 59, 61]]) rfl) rfl hf rfl rfl (w_ref01_In x_b [33, 36, 38, 39, 40, 41, 42, 43, 44, 59, 61] r2 _ (hG.own hF hO) hr2) ?_
  rintro e w' ⟨he, hb⟩
  refine ⟨_, he, fun a hf => ?_⟩
  have hO := hO.grow hb
  refine op_val (ex_assign hf rfl) rfl hf rfl rfl fun a hf => ?_
  refine wpList_nil ?_
  refine nor_then (hK3 _ _ ?_)
  refine wp_ret ?_
  obtain rfl := Option.some.inj hm
  exact post_ret Tryz.results201 hf (.tmp rfl .nil) ⟨rfl, hO.below⟩

set_option maxHeartbeats 1000000 in
theorem w_ref08_Name (x_s : Str) (R : Bool) (w0 : World) (hG : Glob w0) (hm : ref08_Name x_s = some R) :
    Calls Tryz.prog 180 #[str x_s] w0 fun e w' => e = .returned (.bool R) ∧ Below w0.heap.size w0 w' := by
  rw [ref08_Name] at hm
  refine calls_enter (vs := [str x_s]) Tryz.func180 rfl Tryz.ntmps180 rfl fun a hf => ?_
  have hF : Away [] := away_nil
  have hO : Dk.Own w0 [] w0 [] := Dk.Own.refl w0
  refine wp_seq_k fun _ hK1 => ?_
  refine wp_region_list ?_
  refine op_val (ex_assign hf rfl) rfl hf rfl rfl fun a hf => ?_
  refine wpList_nil ?_
  refine nor_then (hK1 _ _ ?_)
  refine wp_seq_k fun _ hK36 => ?_
  refine wp_seq_k fun _ hK2 => ?_
  refine wp_region_list ?_
  refine op_val (ex_assign hf rfl) rfl hf rfl rfl fun a hf => ?_
  refine wpList_nil ?_
  refine nor_then (hK2 _ _ ?_)
  refine wp_block ?_
  refine wp_loop_n (fun k a w => ∃ (i3 : Int), Fits 52 [(0, str x_s), (3, int i3)] a ∧ Dk.Own w0 [] w [] ∧ ref08_Name_L1 x_s k i3 = some R) ?_ fuel ?_
  · rintro n1 a w ⟨i3, hf, hO, hm⟩
    obtain _ | n1 := n1
    · rw [ref08_Name_L1] at hm
      cases hm
    · rw [ref08_Name_L1] at hm
      refine wp_seq_k fun _ hK6 => ?_
      refine wp_seq_k fun _ hK4 => ?_
      refine wp_region_list ?_
      refine op_val (ex_move hf rfl) rfl hf rfl rfl fun a hf => ?_
      refine op_val (ex_move hf rfl) rfl hf rfl rfl fun a hf => ?_
      refine op_val (ex_len_s (l := x_s) Tryz.underlying9 hf rfl) rfl hf rfl rfl fun a hf => ?_
      refine op_val (ex_lss (m := i3) (n := (x_s.length : Int)) hf rfl rfl) rfl hf rfl rfl fun a hf => ?_
      refine wpList_nil ?_
      refine nor_then (hK4 _ _ ?_)
      refine wp_cond_cut hf rfl (fun hc5 => ?_) (fun hc5 => ?_)
      · have hm := it hc5 hm
        refine wp_skip ?_
        refine nor_then (hK6 _ _ ?_)
        refine wp_seq_cut (fun a w => ∃ (i34 : Int), Fits 52 [(0, str x_s), (3, int i34)] a ∧ Dk.Own w0 [] w [] ∧ ref08_Name_j4 (ref08_Name_L1 x_s n1) i34 = some R) ?_ ?_
        · refine wp_block ?_
          refine wp_seq_k fun _ hK25 => ?_
          refine wp_seq_k fun _ hK8 => ?_
          refine wp_region_list ?_
          refine op_val (ex_move hf rfl) rfl hf rfl rfl fun a hf => ?_
          refine op_val (ex_move hf rfl) rfl hf rfl rfl fun a hf => ?_
          obtain ⟨b7, hb7, hm⟩ := ob hm
          refine op_val (ex_index (l := x_s) Tryz.underlying9 hf rfl rfl hb7) rfl hf rfl rfl fun a hf => ?_
          refine op_val (ex_eql_b (b := b7) (c := 37) hf rfl rfl) rfl hf rfl rfl fun a hf => ?_
          refine wpList_nil ?_
          refine nor_then (hK8 _ _ ?_)
          refine wp_cond_cut hf rfl (fun hc9 => ?_) (fun hc9 => ?_)
          · have hm := it hc9 hm
            refine wp_seq_k fun _ hK22 => ?_
            refine wp_seq_cut (fun a w => ∃ (t19 : Bool), Fits 52 [(0, str x_s), (3, int i3), (34, .bool t19)] a ∧ Dk.Own w0 [] w [] ∧ ref08_Name_j2 (ref08_Name_L1 x_s n1) i3 t19 = some R) ?_ ?_
            · refine wp_region_list ?_
              refine op_val (ex_move hf rfl) rfl hf rfl rfl fun a hf => ?_
              obtain ⟨i10, hi10, hm⟩ := ob hm
              refine op_val (ex_add hf rfl rfl hi10) rfl hf rfl rfl fun a hf => ?_
              refine op_val (ex_move hf rfl) rfl hf rfl rfl fun a hf => ?_
              refine op_val (ex_len_s (l := x_s) Tryz.underlying9 hf rfl) rfl hf rfl rfl fun a hf => ?_
              refine op_val (ex_geq (m := i10) (n := (x_s.length : Int)) hf rfl rfl) rfl hf rfl rfl fun a hf => ?_
              refine op_val (ex_move hf rfl) rfl hf rfl rfl fun a hf => ?_
              rcases bcase (decide ((x_s.length : Int) ≤ i10)) with hc11 | hc11
              · have hm := it hc11 hm
                refine op_pass rfl hf rfl rfl (hc11) rfl rfl fun a hf => ?_
                refine op_pass rfl hf rfl rfl (hc11) rfl rfl fun a hf => ?_
                refine op_pass rfl hf rfl rfl (hc11) rfl rfl fun a hf => ?_
                refine op_pass rfl hf rfl rfl (hc11) rfl rfl fun a hf => ?_
                refine op_pass rfl hf rfl rfl (hc11) rfl rfl fun a hf => ?_
                refine op_pass rfl hf rfl rfl (hc11) rfl rfl fun a hf => ?_
                refine op_val (ex_pick_t hf rfl hc11 rfl) rfl hf rfl rfl fun a hf => ?_
                refine op_val (ex_move hf rfl) rfl hf rfl rfl fun a hf => ?_
                refine op_pass rfl hf rfl rfl (rfl) rfl rfl fun a hf => ?_
                refine op_pass rfl hf rfl rfl (rfl) rfl rfl fun a hf => ?_
                refine op_pass rfl hf rfl rfl (rfl) rfl rfl fun a hf => ?_
                refine op_pass rfl hf rfl rfl (rfl) rfl rfl fun a hf => ?_
                refine op_pass rfl hf rfl rfl (rfl) rfl rfl fun a hf => ?_
                refine op_pass rfl hf rfl rfl (rfl) rfl rfl fun a hf => ?_
                refine op_val (ex_pick_t hf rfl rfl rfl) rfl hf rfl rfl fun a hf => ?_
                refine wpList_nil ?_
                refine nor_then ?_
                exact ⟨true, (hf.cons rfl (hf.cons rfl (hf.cons rfl hf.nil))), hO, hm⟩
              · have hm := ie hc11 hm
                refine op_guard rfl hf rfl rfl (hc11) ?_
                refine op_val (ex_move hf rfl) rfl hf rfl rfl fun a hf => ?_
                refine op_guard rfl hf rfl rfl (hc11) ?_
                refine op_val (ex_move hf rfl) rfl hf rfl rfl fun a hf => ?_
                refine op_guard rfl hf rfl rfl (hc11) ?_
                obtain ⟨i12, hi12, hm⟩ := ob hm
                refine op_val (ex_add hf rfl rfl hi12) rfl hf rfl rfl fun a hf => ?_
                refine op_guard rfl hf rfl rfl (hc11) ?_
                obtain ⟨b13, hb13, hm⟩ := ob hm
                refine op_val (ex_index (l := x_s) Tryz.underlying9 hf rfl rfl hb13) rfl hf rfl rfl fun a hf => ?_
                refine op_guard rfl hf rfl rfl (hc11) ?_
                obtain ⟨r14, hr14, hm⟩ := ob hm
                refine op_enter (ex_call c_154 hf (vs := [byte b13]) rfl) rfl hf rfl rfl (w_ref01_Hex b13 r14 _ (hG.own hF hO) hr14) ?_
                rintro e w' ⟨he, hb⟩
                refine ⟨_, he, fun a hf => ?_⟩
                have hO := hO.grow hb
                refine op_guard rfl hf rfl rfl (hc11) ?_
                refine op_val (ex_not hf rfl) rfl hf rfl rfl fun a hf => ?_
                refine op_val (ex_pick_f hf rfl hc11 rfl) rfl hf rfl rfl fun a hf => ?_
                refine op_val (ex_move hf rfl) rfl hf rfl rfl fun a hf => ?_
                rcases bcase (!r14) with hc15 | hc15
                · have hm := it hc15 hm
                  refine op_pass rfl hf rfl rfl (hc15) rfl rfl fun a hf => ?_
                  refine op_pass rfl hf rfl rfl (hc15) rfl rfl fun a hf => ?_
                  refine op_pass rfl hf rfl rfl (hc15) rfl rfl fun a hf => ?_
                  refine op_pass rfl hf rfl rfl (hc15) rfl rfl fun a hf => ?_
                  refine op_pass rfl hf rfl rfl (hc15) rfl rfl fun a hf => ?_
                  refine op_pass rfl hf rfl rfl (hc15) rfl rfl fun a hf => ?_
                  refine op_val (ex_pick_t hf rfl hc15 rfl) rfl hf rfl rfl fun a hf => ?_
                  refine wpList_nil ?_
                  refine nor_then ?_
                  exact ⟨true, (hf.cons rfl (hf.cons rfl (hf.cons rfl hf.nil))), hO, hm⟩
                · have hm := ie hc15 hm
                  refine op_guard rfl hf rfl rfl (hc15) ?_
                  refine op_val (ex_move hf rfl) rfl hf rfl rfl fun a hf => ?_
                  refine op_guard rfl hf rfl rfl (hc15) ?_
                  refine op_val (ex_move hf rfl) rfl hf rfl rfl fun a hf => ?_
                  refine op_guard rfl hf rfl rfl (hc15) ?_
                  obtain ⟨i16, hi16, hm⟩ := ob hm
                  refine op_val (ex_add hf rfl rfl hi16) rfl hf rfl rfl fun a hf => ?_
                  refine op_guard rfl hf rfl rfl (hc15) ?_
                  obtain ⟨b17, hb17, hm⟩ := ob hm
                  refine op_val (ex_index (l := x_s) Tryz.underlying9 hf rfl rfl hb17) rfl hf rfl rfl fun a hf => ?_
                  refine op_guard rfl hf rfl rfl (hc15) ?_
                  obtain ⟨r18, hr18, hm⟩ := ob hm
                  refine op_enter (ex_call c_154 hf (vs := [byte b17]) rfl) rfl hf rfl rfl (w_ref01_Hex b17 r18 _ (hG.own hF hO) hr18) ?_
                  rintro e w' ⟨he, hb⟩
                  refine ⟨_, he, fun a hf => ?_⟩
                  have hO := hO.grow hb
                  refine op_guard rfl hf rfl rfl (hc15) ?_
                  refine op_val (ex_not hf rfl) rfl hf rfl rfl fun a hf => ?_
                  refine op_val (ex_pick_f hf rfl hc15 rfl) rfl hf rfl rfl fun a hf => ?_
                  refine wpList_nil ?_
                  refine nor_then ?_
                  exact ⟨!r18, (hf.cons rfl (hf.cons rfl (hf.cons rfl hf.nil))), hO, hm⟩
            · rintro a w ⟨t19, hf, hO, hm⟩
              rw [ref08_Name_j2] at hm
              refine wp_cond_cut hf rfl (fun hc20 => ?_) (fun hc20 => ?_)
              · have hm := it hc20 hm
                refine wp_seq_k fun _ hK21 => ?_
                refine wp_region_list ?_
                refine op_val (ex_assign hf rfl) rfl hf rfl rfl fun a hf => ?_
                refine wpList_nil ?_
                refine nor_then (hK21 _ _ ?_)
                refine wp_ret ?_
                refine ret_then ?_
                refine ret_then ?_
                refine ret_block ?_
                refine ret_then ?_
                refine ret_then ?_
                refine ret_block ?_
                refine ret_then ?_
                obtain rfl := Option.some.inj hm
                exact post_ret Tryz.results180 hf (.tmp rfl .nil) ⟨rfl, hO.below⟩
              · have hm := ie hc20 hm
                refine wp_skip ?_
                refine nor_then (hK22 _ _ ?_)
                refine wp_seq_k fun _ hK24 => ?_
                refine wp_region_list ?_
                refine op_val (ex_move hf rfl) rfl hf rfl rfl fun a hf => ?_
                obtain ⟨i23, hi23, hm⟩ := ob hm
                refine op_val (ex_add hf rfl rfl hi23) rfl hf rfl rfl fun a hf => ?_
                refine op_val (ex_assign hf rfl) rfl hf rfl rfl fun a hf => ?_
                refine wpList_nil ?_
                refine nor_then (hK24 _ _ ?_)
                refine wp_exit ?_
                refine exit_then ?_
                refine exit_here ?_
                refine nor_then ?_
                exact ⟨i23, (hf.cons rfl (hf.cons rfl hf.nil)), hO, hm⟩
          · have hm := ie hc9 hm
            refine wp_skip ?_
            refine nor_then (hK25 _ _ ?_)
            refine wp_seq_cut (fun a w => ∃ (t31 : Bool), Fits 52 [(0, str x_s), (3, int i3), (48, .bool t31)] a ∧ Dk.Own w0 [] w [] ∧ ref08_Name_j3 (ref08_Name_L1 x_s n1) i3 t31 = some R) ?_ ?_
            · refine wp_region_list ?_
              refine op_val (ex_move hf rfl) rfl hf rfl rfl fun a hf => ?_
              refine op_val (ex_move hf rfl) rfl hf rfl rfl fun a hf => ?_
              obtain ⟨b26, hb26, hm⟩ := ob hm
              refine op_val (ex_index (l := x_s) Tryz.underlying9 hf rfl rfl hb26) rfl hf rfl rfl fun a hf => ?_
              obtain ⟨r27, hr27, hm⟩ := ob hm
              refine op_enter (ex_call c_200 hf (vs := [byte b26]) rfl) rfl hf rfl rfl (w_ref01_Unreserved b26 r27 _ (hG.own hF hO) hr27) ?_
              rintro e w' ⟨he, hb⟩
              refine ⟨_, he, fun a hf => ?_⟩
              have hO := hO.grow hb
              refine op_val (ex_not hf rfl) rfl hf rfl rfl fun a hf => ?_
              refine op_val (ex_move hf rfl) rfl hf rfl rfl fun a hf => ?_
              rcases bcase (!r27) with hc28 | hc28
              · have hm := it hc28 hm
                refine op_guard rfl hf rfl rfl (hc28) ?_
                refine op_val (ex_move hf rfl) rfl hf rfl rfl fun a hf => ?_
                refine op_guard rfl hf rfl rfl (hc28) ?_
                refine op_val (ex_move hf rfl) rfl hf rfl rfl fun a hf => ?_
                refine op_guard rfl hf rfl rfl (hc28) ?_
                obtain ⟨b29, hb29, hm⟩ := ob hm
                refine op_val (ex_index (l := x_s) Tryz.underlying9 hf rfl rfl hb29) rfl hf rfl rfl fun a hf => ?_
                refine op_guard rfl hf rfl rfl (hc28) ?_
                obtain ⟨r30, hr30, hm⟩ := ob hm
                refine op_enter (ex_call c_201 hf (vs := [byte b29]) rfl) rfl hf rfl rfl (w_ref01_Sub b29 r30 _ (hG.own hF hO) hr30) ?_
                rintro e w' ⟨he, hb⟩
                refine ⟨_, he, fun a hf => ?_⟩
                have hO := hO.grow hb
                refine op_guard rfl hf rfl rfl (hc28) ?_
                refine op_val (ex_not hf rfl) rfl hf rfl rfl fun a hf => ?_
                refine op_val (ex_pick_t hf rfl hc28 rfl) rfl hf rfl rfl fun a hf => ?_
                refine wpList_nil ?_
                refine nor_then ?_
                exact ⟨!r30, (hf.cons rfl (hf.cons rfl (hf.cons rfl hf.nil))), hO, hm⟩
              · have hm := ie hc28 hm
                refine op_pass rfl hf rfl rfl (hc28) rfl rfl fun a hf => ?_
                refine op_pass rfl hf rfl rfl (hc28) rfl rfl fun a hf => ?_
                refine op_pass rfl hf rfl rfl (hc28) rfl rfl fun a hf => ?_
                refine op_pass rfl hf rfl rfl (hc28) rfl rfl fun a hf => ?_
                refine op_pass rfl hf rfl rfl (hc28) rfl rfl fun a hf => ?_
                refine op_val (ex_pick_f hf rfl hc28 rfl) rfl hf rfl rfl fun a hf => ?_
                refine wpList_nil ?_
                refine nor_then ?_
                exact ⟨false, (hf.cons rfl (hf.cons rfl (hf.cons rfl hf.nil))), hO, hm⟩
            · rintro a w ⟨t31, hf, hO, hm⟩
              rw [ref08_Name_j3] at hm
              refine wp_cond_cut hf rfl (fun hc32 => ?_) (fun hc32 => ?_)
              · have hm := it hc32 hm
                refine wp_seq_k fun _ hK33 => ?_
                refine wp_region_list ?_
                refine op_val (ex_assign hf rfl) rfl hf rfl rfl fun a hf => ?_
                refine wpList_nil ?_
                refine nor_then (hK33 _ _ ?_)
                refine wp_ret ?_
                refine ret_block ?_
                refine ret_then ?_
                refine ret_then ?_
                refine ret_block ?_
                refine ret_then ?_
                obtain rfl := Option.some.inj hm
                exact post_ret Tryz.results180 hf (.tmp rfl .nil) ⟨rfl, hO.below⟩
              · have hm := ie hc32 hm
                refine wp_skip ?_
                refine nor_block ?_
                refine nor_then ?_
                exact ⟨i3, (hf.cons rfl (hf.cons rfl hf.nil)), hO, hm⟩
        · rintro a w ⟨i34, hf, hO, hm⟩
          rw [ref08_Name_j4] at hm
          refine wp_region_list ?_
          refine op_val (ex_move hf rfl) rfl hf rfl rfl fun a hf => ?_
          obtain ⟨i35, hi35, hm⟩ := ob hm
          refine op_val (ex_add hf rfl rfl hi35) rfl hf rfl rfl fun a hf => ?_
          refine op_val (ex_assign hf rfl) rfl hf rfl rfl fun a hf => ?_
          refine wpList_nil ?_
          refine nor_then ?_
          exact ⟨_, Nat.lt_succ_self _, i35, (hf.cons rfl (hf.cons rfl hf.nil)), hO, hm⟩
      · have hm := ie hc5 hm
        refine wp_exit ?_
        refine exit_then ?_
        refine exit_then ?_
        refine exit_here ?_
        refine nor_then (hK36 _ _ ?_)
        refine wp_seq_k fun _ hK37 => ?_
        refine wp_region_list ?_
        refine op_val (ex_move hf rfl) rfl hf rfl rfl fun a hf => ?_
        refine op_val (ex_len_s (l := x_s) Tryz.underlying9 hf rfl) rfl hf rfl rfl fun a hf => ?_
        refine op_val (ex_gtr (m := (x_s.length : Int)) (n := 0) hf rfl rfl) rfl hf rfl rfl fun a hf => ?_
        refine op_val (ex_assign hf rfl) rfl hf rfl rfl fun a hf => ?_
        refine wpList_nil ?_
        refine nor_then (hK37 _ _ ?_)
        refine wp_ret ?_
        obtain rfl := Option.some.inj hm
        exact post_ret Tryz.results180 hf (.tmp rfl .nil) ⟨rfl, hO.below⟩
  · exact ⟨0, (hf.cons rfl (hf.cons rfl hf.nil)), hO, hm⟩

set_option maxHeartbeats 1000000 in
theorem w_ref08_of (x_s : Str) (R : api_Host) (w0 : World) (hG : Glob w0) (hm : ref08_of x_s = some R) :
    Calls Tryz.prog 134 #[str x_s] w0 fun e w' => e = .returned (.agg #[int R.Kind, str R.Name, int R.Port]) ∧ Below w0.heap.size w0 w' := by
  rw [ref08_of] at hm
  refine calls_enter (vs := [str x_s]) Tryz.func134 rfl Tryz.ntmps134 rfl fun a hf => ?_
  have hF : Away [] := away_nil
  have hO : Dk.Own w0 [] w0 [] := Dk.Own.refl w0
  refine wp_seq_k fun _ hK2 => ?_
  refine wp_region_list ?_
  refine op_alloc al_73 hf rfl hO fun a b1 w hf hO => ?_
  refine wpList_nil ?_
  refine nor_then (hK2 _ _ ?_)
  refine wp_seq_k fun _ hK17 => ?_
  refine wp_seq_cut (fun a w => ∃ (t12 : Bool), Fits 42 [(0, str x_s), (2, ptr b1 0), (26, .bool t12)] a ∧ Dk.Own w0 [] w [.blk b1 [int 0, str [], int 0] 73] ∧ ref08_of_j1 x_s t12 = some R) ?_ ?_
  · refine wp_region_list ?_
    refine op_val (ex_move hf rfl) rfl hf rfl rfl fun a hf => ?_
    refine op_val (ex_len_s (l := x_s) Tryz.underlying9 hf rfl) rfl hf rfl rfl fun a hf => ?_
    refine op_val (ex_gtr (m := (x_s.length : Int)) (n := 2) hf rfl rfl) rfl hf rfl rfl fun a hf => ?_
    refine op_val (ex_move hf rfl) rfl hf rfl rfl fun a hf => ?_
    rcases bcase (decide (2 < (x_s.length : Int))) with hc3 | hc3
    · have hm := it hc3 hm
      refine op_guard rfl hf rfl rfl (hc3) ?_
      refine op_val (ex_move hf rfl) rfl hf rfl rfl fun a hf => ?_
      refine op_guard rfl hf rfl rfl (hc3) ?_
      obtain ⟨b4, hb4, hm⟩ := ob hm
      refine op_val (ex_index (l := x_s) Tryz.underlying9 hf rfl rfl hb4) rfl hf rfl rfl fun a hf => ?_
      refine op_guard rfl hf rfl rfl (hc3) ?_
      refine op_val (ex_eql_b (b := b4) (c := 91) hf rfl rfl) rfl hf rfl rfl fun a hf => ?_
      refine op_val (ex_pick_t hf rfl hc3 rfl) rfl hf rfl rfl fun a hf => ?_
      refine op_val (ex_move hf rfl) rfl hf rfl rfl fun a hf => ?_
      rcases bcase (b4 == 91) with hc5 | hc5
      · have hm := it hc5 hm
        refine op_guard rfl hf rfl rfl (hc5) ?_
        refine op_val (ex_move hf rfl) rfl hf rfl rfl fun a hf => ?_
        refine op_guard rfl hf rfl rfl (hc5) ?_
        refine op_val (ex_move hf rfl) rfl hf rfl rfl fun a hf => ?_
        refine op_guard rfl hf rfl rfl (hc5) ?_
        refine op_val (ex_len_s (l := x_s) Tryz.underlying9 hf rfl) rfl hf rfl rfl fun a hf => ?_
        refine op_guard rfl hf rfl rfl (hc5) ?_
        obtain ⟨i6, hi6, hm⟩ := ob hm
        refine op_val (ex_sub hf rfl rfl hi6) rfl hf rfl rfl fun a hf => ?_
        refine op_guard rfl hf rfl rfl (hc5) ?_
        obtain ⟨b7, hb7, hm⟩ := ob hm
        refine op_val (ex_index (l := x_s) Tryz.underlying9 hf rfl rfl hb7) rfl hf rfl rfl fun a hf => ?_
        refine op_guard rfl hf rfl rfl (hc5) ?_
        refine op_val (ex_eql_b (b := b7) (c := 93) hf rfl rfl) rfl hf rfl rfl fun a hf => ?_
        refine op_val (ex_pick_t hf rfl hc5 rfl) rfl hf rfl rfl fun a hf => ?_
        refine op_val (ex_move hf rfl) rfl hf rfl rfl fun a hf => ?_
        rcases bcase (b7 == 93) with hc8 | hc8
        · have hm := it hc8 hm
          refine op_guard rfl hf rfl rfl (hc8) ?_
          refine op_val (ex_move hf rfl) rfl hf rfl rfl fun a hf => ?_
          refine op_guard rfl hf rfl rfl (hc8) ?_
          refine op_val (ex_move hf rfl) rfl hf rfl rfl fun a hf => ?_
          refine op_guard rfl hf rfl rfl (hc8) ?_
          refine op_val (ex_len_s (l := x_s) Tryz.underlying9 hf rfl) rfl hf rfl rfl fun a hf => ?_
          refine op_guard rfl hf rfl rfl (hc8) ?_
          obtain ⟨i9, hi9, hm⟩ := ob hm
          refine op_val (ex_sub hf rfl rfl hi9) rfl hf rfl rfl fun a hf => ?_
          refine op_guard rfl hf rfl rfl (hc8) ?_
          obtain ⟨s10, hs10, hm⟩ := ob hm
          refine op_val (ex_sub_s (l := x_s) Tryz.underlying9 hf rfl rfl rfl hs10) rfl hf rfl rfl fun a hf => ?_
          refine op_guard rfl hf rfl rfl (hc8) ?_
          obtain ⟨r11, hr11, hm⟩ := ob hm
          refine op_enter (ex_call c_54 hf (vs := [str s10]) rfl) rfl hf rfl rfl (w_ref08_Six s10 r11 _ (hG.own hF hO) hr11) ?_
          rintro e w' ⟨he, hb⟩
          refine ⟨_, he, fun a hf => ?_⟩
          have hO := hO.grow hb
          refine op_val (ex_pick_t hf rfl hc8 rfl) rfl hf rfl rfl fun a hf => ?_
          refine wpList_nil ?_
          refine nor_then ?_
          exact ⟨r11, (hf.cons rfl (hf.cons rfl (hf.cons rfl hf.nil))), hO, hm⟩
        · have hm := ie hc8 hm
          refine op_pass rfl hf rfl rfl (hc8) rfl rfl fun a hf => ?_
          refine op_pass rfl hf rfl rfl (hc8) rfl rfl fun a hf => ?_
          refine op_pass rfl hf rfl rfl (hc8) rfl rfl fun a hf => ?_
          refine op_pass rfl hf rfl rfl (hc8) rfl rfl fun a hf => ?_
          refine op_pass rfl hf rfl rfl (hc8) rfl rfl fun a hf => ?_
          refine op_pass rfl hf rfl rfl (hc8) rfl rfl fun a hf => ?_
          refine op_val (ex_pick_f hf rfl hc8 rfl) rfl hf rfl rfl fun a hf => ?_
          refine wpList_nil ?_
          refine nor_then ?_
          exact ⟨false, (hf.cons rfl (hf.cons rfl (hf.cons rfl hf.nil))), hO, hm⟩
      · have hm := ie hc5 hm
        refine op_pass rfl hf rfl rfl (hc5) rfl rfl fun a hf => ?_
        refine op_pass rfl hf rfl rfl (hc5) rfl rfl fun a hf => ?_
        refine op_pass rfl hf rfl rfl (hc5) rfl rfl fun a hf => ?_
        refine op_pass rfl hf rfl rfl (hc5) rfl rfl fun a hf => ?_
        refine op_pass rfl hf rfl rfl (hc5) rfl rfl fun a hf => ?_
        refine op_pass rfl hf rfl rfl (hc5) rfl rfl fun a hf => ?_
        refine op_val (ex_pick_f hf rfl hc5 rfl) rfl hf rfl rfl fun a hf => ?_
        refine op_val (ex_move hf rfl) rfl hf rfl rfl fun a hf => ?_
        refine op_pass rfl hf rfl rfl (rfl) rfl rfl fun a hf => ?_
        refine op_pass rfl hf rfl rfl (rfl) rfl rfl fun a hf => ?_
        refine op_pass rfl hf rfl rfl (rfl) rfl rfl fun a hf => ?_
        refine op_pass rfl hf rfl rfl (rfl) rfl rfl fun a hf => ?_
        refine op_pass rfl hf rfl rfl (rfl) rfl rfl fun a hf => ?_
        refine op_pass rfl hf rfl rfl (rfl) rfl rfl fun a hf => ?_
        refine op_val (ex_pick_f hf rfl rfl rfl) rfl hf rfl rfl fun a hf => ?_
        refine wpList_nil ?_
        refine nor_then ?_
        exact ⟨false, (hf.cons rfl (hf.cons rfl (hf.cons rfl hf.nil))), hO, hm⟩
    · have hm := ie hc3 hm
      refine op_pass rfl hf rfl rfl (hc3) rfl rfl fun a hf => ?_
      refine op_pass rfl hf rfl rfl (hc3) rfl rfl fun a hf => ?_
      refine op_pass rfl hf rfl rfl (hc3) rfl rfl fun a hf => ?_
      refine op_val (ex_pick_f hf rfl hc3 rfl) rfl hf rfl rfl fun a hf => ?_
      refine op_val (ex_move hf rfl) rfl hf rfl rfl fun a hf => ?_
      refine op_pass rfl hf rfl rfl (rfl) rfl rfl fun a hf => ?_
      refine op_pass rfl hf rfl rfl (rfl) rfl rfl fun a hf => ?_
      refine op_pass rfl hf rfl rfl (rfl) rfl rfl fun a hf => ?_
      refine op_pass rfl hf rfl rfl (rfl) rfl rfl fun a hf => ?_
      refine op_pass rfl hf rfl rfl (rfl) rfl rfl fun a hf => ?_
      refine op_pass rfl hf rfl rfl (rfl) rfl rfl fun a hf => ?_
      refine op_val (ex_pick_f hf rfl rfl rfl) rfl hf rfl rfl fun a hf => ?_
      refine op_val (ex_move hf rfl) rfl hf rfl rfl fun a hf => ?_
      refine op_pass rfl hf rfl rfl (rfl) rfl rfl fun a hf => ?_
      refine op_pass rfl hf rfl rfl (rfl) rfl rfl fun a hf => ?_
      refine op_pass rfl hf rfl rfl (rfl) rfl rfl fun a hf => ?_
      refine op_pass rfl hf rfl rfl (rfl) rfl rfl fun a hf => ?_
      refine op_pass rfl hf rfl rfl (rfl) rfl rfl fun a hf => ?_
      refine op_pass rfl hf rfl rfl (rfl) rfl rfl fun a hf => ?_
      refine op_val (ex_pick_f hf rfl rfl rfl) rfl hf rfl rfl fun a hf => ?_
      refine wpList_nil ?_
      refine nor_then ?_
      exact ⟨false, (hf.cons rfl (hf.cons rfl (hf.cons rfl hf.nil))), hO, hm⟩
  · rintro a w ⟨t12, hf, hO, hm⟩
    rw [ref08_of_j1] at hm
    refine wp_cond_cut hf rfl (fun hc13 => ?_) (fun hc13 => ?_)
    · have hm := it hc13 hm
      refine wp_seq_k fun _ hK16 => ?_
      refine wp_region_list ?_
      refine op_val (ex_move hf rfl) rfl hf rfl rfl fun a hf => ?_
      refine op_val (ex_move hf rfl) rfl hf rfl rfl fun a hf => ?_
      refine op_val (ex_len_s (l := x_s) Tryz.underlying9 hf rfl) rfl hf rfl rfl fun a hf => ?_
      obtain ⟨i14, hi14, hm⟩ := ob hm
      refine op_val (ex_sub hf rfl rfl hi14) rfl hf rfl rfl fun a hf => ?_
      obtain ⟨s15, hs15, hm⟩ := ob hm
      refine op_val (ex_sub_s (l := x_s) Tryz.underlying9 hf rfl rfl rfl hs15) rfl hf rfl rfl fun a hf => ?_
      refine op_val (ex_build (vs := [(0, int 3), (1, str s15), (2, int (-1))]) (v := .agg #[int 3, str s15, int (-1)]) hf rfl (by kernel_rfl)) rfl hf rfl rfl fun a hf => ?_
      refine op_storeN (i := 0) (n := 3) sz_73 rfl rfl rfl (by simp [Value.oneCell']) hf rfl rfl hO fun w hO => ?_
      refine wpList_nil ?_
      refine nor_then (hK16 _ _ ?_)
      refine wp_ret ?_
      refine ret_then ?_
      obtain rfl := Option.some.inj hm
      exact post_ret Tryz.results134 hf (.cell rfl (run_loadVarN (n := 3) (vs := [int 3, str s15, int (-1)]) ag_73 sz_73 rfl ((hO.blkSees (i := 0) rfl).cells (o := 0) (n := 3) rfl)) .nil) ⟨rfl, hO.below⟩
    · have hm := ie hc13 hm
      refine wp_skip ?_
      refine nor_then (hK17 _ _ ?_)
      refine wp_seq_k fun _ hK22 => ?_
      refine wp_seq_k fun _ hK19 => ?_
      refine wp_region_list ?_
      refine op_val (ex_move hf rfl) rfl hf rfl rfl fun a hf => ?_
      obtain ⟨r18, hr18, hm⟩ := ob hm
      refine op_enter (ex_call c_55 hf (vs := [str x_s]) rfl) rfl hf rfl rfl (w_ref08_Four x_s r18 _ (hG.own hF hO) hr18) ?_
      rintro e w' ⟨he, hb⟩
      refine ⟨_, he, fun a hf => ?_⟩
      have hO := hO.grow hb
      refine wpList_nil ?_
      refine nor_then (hK19 _ _ ?_)
      refine wp_cond_cut hf rfl (fun hc20 => ?_) (fun hc20 => ?_)
      · have hm := it hc20 hm
        refine wp_seq_k fun _ hK21 => ?_
        refine wp_region_list ?_
        refine op_val (ex_move hf rfl) rfl hf rfl rfl fun a hf => ?_
        refine op_val (ex_build (vs := [(0, int 2), (1, str x_s), (2, int (-1))]) (v := .agg #[int 2, str x_s, int (-1)]) hf rfl (by kernel_rfl)) rfl hf rfl rfl fun a hf => ?_
        refine op_storeN (i := 0) (n := 3) sz_73 rfl rfl rfl (by simp [Value.oneCell']) hf rfl rfl hO fun w hO => ?_
        refine wpList_nil ?_
        refine nor_then (hK21 _ _ ?_)
        refine wp_ret ?_
        refine ret_then ?_
        obtain rfl := Option.some.inj hm
        exact post_ret Tryz.results134 hf (.cell rfl (run_loadVarN (n := 3) (vs := [int 2, str x_s, int (-1)]) ag_73 sz_73 rfl ((hO.blkSees (i := 0) rfl).cells (o := 0) (n := 3) rfl)) .nil) ⟨rfl, hO.below⟩
      · have hm := ie hc20 hm
        refine wp_skip ?_
        refine nor_then (hK22 _ _ ?_)
        refine wp_seq_k fun _ hK27 => ?_
        refine wp_seq_k fun _ hK24 => ?_
        refine wp_region_list ?_
        refine op_val (ex_move hf rfl) rfl hf rfl rfl fun a hf => ?_
        obtain ⟨r23, hr23, hm⟩ := ob hm
        refine op_enter (ex_call c_180 hf (vs := [str x_s]) rfl) rfl hf rfl rfl (w_ref08_Name x_s r23 _ (hG.own hF hO) hr23) ?_
        rintro e w' ⟨he, hb⟩
        refine ⟨_, he, fun a hf => ?_⟩
        have hO := hO.grow hb
        refine wpList_nil ?_
        refine nor_then (hK24 _ _ ?_)
        refine wp_cond_cut hf rfl (fun hc25 => ?_) (fun hc25 => ?_)
        · have hm := it hc25 hm
          refine wp_seq_k fun _ hK26 => ?_
          refine wp_region_list ?_
          refine op_val (ex_move hf rfl) rfl hf rfl rfl fun a hf => ?_
          refine op_val (ex_build (vs := [(0, int 1), (1, str x_s), (2, int (-1))]) (v := .agg #[int 1, str x_s, int (-1)]) hf rfl (by kernel_rfl)) rfl hf rfl rfl fun a hf => ?_
          refine op_storeN (i := 0) (n := 3) sz_73 rfl rfl rfl (by simp [Value.oneCell']) hf rfl rfl hO fun w hO => ?_
          refine wpList_nil ?_
          refine nor_then (hK26 _ _ ?_)
          refine wp_ret ?_
          refine ret_then ?_
          obtain rfl := Option.some.inj hm
          exact post_ret Tryz.results134 hf (.cell rfl (run_loadVarN (n := 3) (vs := [int 1, str x_s, int (-1)]) ag_73 sz_73 rfl ((hO.blkSees (i := 0) rfl).cells (o := 0) (n := 3) rfl)) .nil) ⟨rfl, hO.below⟩
        · have hm := ie hc25 hm
          refine wp_skip ?_
          refine nor_then (hK27 _ _ ?_)
          refine wp_seq_k fun _ hK28 => ?_
          refine wp_region_list ?_
          refine op_val (ex_build (vs := []) (v := .agg #[int 0, str [], int 0]) hf rfl (by kernel_rfl)) rfl hf rfl rfl fun a hf => ?_
          refine op_storeN (i := 0) (n := 3) sz_73 rfl rfl rfl (by simp [Value.oneCell']) hf rfl rfl hO fun w hO => ?_
          refine wpList_nil ?_
          refine nor_then (hK28 _ _ ?_)
          refine wp_ret ?_
          obtain rfl := Option.some.inj hm
          exact post_ret Tryz.results134 hf (.cell rfl (run_loadVarN (n := 3) (vs := [int 0, str [], int 0]) ag_73 sz_73 rfl ((hO.blkSees (i := 0) rfl).cells (o := 0) (n := 3) rfl)) .nil) ⟨rfl, hO.below⟩

set_option maxHeartbeats 1000000 in
theorem w_ref08_Parse (x_s : Str) (R : api_Host × Int) (w0 : World) (hG : Glob w0) (hm : ref08_Parse x_s = some R) :
    Calls Tryz.prog 84 #[str x_s] w0 fun e w' => e = .returned (.tuple #[.agg #[int R.1.Kind, str R.1.Name, int R.1.Port], int R.2]) ∧ Below w0.heap.size w0 w' := by
  rw [ref08_Parse] at hm
  refine calls_enter (vs := [str x_s]) Tryz.func84 rfl Tryz.ntmps84 rfl fun a hf => ?_
  have hF : Away [] := away_nil
  have hO : Dk.Own w0 [] w0 [] := Dk.Own.refl w0
  refine wp_seq_k fun _ hK2 => ?_
  refine wp_region_list ?_
  refine op_alloc al_73 hf rfl hO fun a b1 w hf hO => ?_
  refine op_val (ex_assign hf rfl) rfl hf rfl rfl fun a hf => ?_
  refine wpList_nil ?_
  refine nor_then (hK2 _ _ ?_)
  refine wp_seq_k fun _ hK5 => ?_
  refine wp_region_list ?_
  refine op_val (ex_move hf rfl) rfl hf rfl rfl fun a hf => ?_
  obtain ⟨r3, hr3, hm⟩ := ob hm
  refine op_enter (ex_call c_134 hf (vs := [str x_s]) rfl) rfl hf rfl rfl (w_ref08_of x_s r3 _ (hG.own hF hO) hr3) ?_
  rintro e w' ⟨he, hb⟩
  refine ⟨_, he, fun a hf => ?_⟩
  have hO := hO.grow hb
  refine op_alloc al_73 hf rfl hO fun a b4 w hf hO => ?_
  refine op_storeN (i := 0) (n := 3) sz_73 rfl rfl rfl (by simp [Value.oneCell']) hf rfl rfl hO fun w hO => ?_
  refine wpList_nil ?_
  refine nor_then (hK5 _ _ ?_)
  refine wp_seq_k fun _ hK9 => ?_
  refine wp_seq_k fun _ hK6 => ?_
  refine wp_region_list ?_
  refine op_val (ex_field fa_73_0 hf rfl) rfl hf rfl rfl fun a hf => ?_
  refine op_val (ex_load1 (o := 0) ag_71 (hO.blkSees (i := 0) rfl) rfl hf rfl) rfl hf rfl rfl fun a hf => ?_
  refine op_val (ex_neq (m := r3.Kind) (n := 0) hf rfl rfl) rfl hf rfl rfl fun a hf => ?_
  refine wpList_nil ?_
  refine nor_then (hK6 _ _ ?_)
  refine wp_cond_cut hf rfl (fun hc7 => ?_) (fun hc7 => ?_)
  · have hm := it hc7 hm
    refine wp_seq_k fun _ hK8 => ?_
    refine wp_region_list ?_
    refine op_val (ex_loadN (o := 0) (vs := [int r3.Kind, str r3.Name, int r3.Port]) ag_73 sz_73 (hO.blkSees (i := 0) rfl) rfl rfl hf rfl) rfl hf rfl rfl fun a hf => ?_
    refine op_storeN (i := 1) (n := 3) sz_73 rfl rfl rfl (by simp [Value.oneCell']) hf rfl rfl hO fun w hO => ?_
    refine op_val (ex_assign hf rfl) rfl hf rfl rfl fun a hf => ?_
    refine wpList_nil ?_
    refine nor_then (hK8 _ _ ?_)
    refine wp_ret ?_
    refine ret_then ?_
    obtain rfl := Option.some.inj hm
    exact post_ret Tryz.results84 hf (.cell rfl (run_loadVarN (n := 3) (vs := [int r3.Kind, str r3.Name, int r3.Port]) ag_73 sz_73 rfl ((hO.blkSees (i := 1) rfl).cells (o := 0) (n := 3) rfl)) (.tmp rfl .nil)) ⟨rfl, hO.below⟩
  · have hm := ie hc7 hm
    refine wp_skip ?_
    refine nor_then (hK9 _ _ ?_)
    refine wp_seq_k fun _ hK36 => ?_
    refine wp_seq_k fun _ hK11 => ?_
    refine wp_region_list ?_
    refine op_val (ex_move hf rfl) rfl hf rfl rfl fun a hf => ?_
    refine op_val (ex_len_s (l := x_s) Tryz.underlying9 hf rfl) rfl hf rfl rfl fun a hf => ?_
    obtain ⟨i10, hi10, hm⟩ := ob hm
    refine op_val (ex_sub hf rfl rfl hi10) rfl hf rfl rfl fun a hf => ?_
    refine op_val (ex_assign hf rfl) rfl hf rfl rfl fun a hf => ?_
    refine wpList_nil ?_
    refine nor_then (hK11 _ _ ?_)
    refine wp_block ?_
    refine wp_loop_n (fun k a w => ∃ (i12 : Int), Fits 45 [(0, str x_s), (2, ptr b1 0), (4, ptr b4 0), (5, int i12)] a ∧ Dk.Own w0 [] w [.blk b4 [int r3.Kind, str r3.Name, int r3.Port] 73, .blk b1 [int 0, str [], int 0] 73] ∧ ref08_Parse_L1 x_s k i12 = some R) ?_ fuel ?_
    · rintro n1 a w ⟨i12, hf, hO, hm⟩
      obtain _ | n1 := n1
      · rw [ref08_Parse_L1] at hm
        cases hm
      · rw [ref08_Parse_L1] at hm
        refine wp_seq_k fun _ hK15 => ?_
        refine wp_seq_k fun _ hK13 => ?_
        refine wp_region_list ?_
        refine op_val (ex_move hf rfl) rfl hf rfl rfl fun a hf => ?_
        refine op_val (ex_geq (m := i12) (n := 0) hf rfl rfl) rfl hf rfl rfl fun a hf => ?_
        refine wpList_nil ?_
        refine nor_then (hK13 _ _ ?_)
        refine wp_cond_cut hf rfl (fun hc14 => ?_) (fun hc14 => ?_)
        · have hm := it hc14 hm
          refine wp_skip ?_
          refine nor_then (hK15 _ _ ?_)
          refine wp_seq_k fun _ hK34 => ?_
          refine wp_block ?_
          refine wp_seq_k fun _ hK19 => ?_
          refine wp_seq_k fun _ hK17 => ?_
          refine wp_region_list ?_
          refine op_val (ex_move hf rfl) rfl hf rfl rfl fun a hf => ?_
          refine op_val (ex_move hf rfl) rfl hf rfl rfl fun a hf => ?_
          obtain ⟨b16, hb16, hm⟩ := ob hm
          refine op_val (ex_index (l := x_s) Tryz.underlying9 hf rfl rfl hb16) rfl hf rfl rfl fun a hf => ?_
          refine op_val (ex_neq_b (b := b16) (c := 58) hf rfl rfl) rfl hf rfl rfl fun a hf => ?_
          refine wpList_nil ?_
          refine nor_then (hK17 _ _ ?_)
          refine wp_cond_cut hf rfl (fun hc18 => ?_) (fun hc18 => ?_)
          · have hm := it hc18 hm
            refine wp_exit ?_
            refine exit_then ?_
            refine exit_here ?_
            refine nor_then (hK34 _ _ ?_)
            refine wp_region_list ?_
            refine op_val (ex_move hf rfl) rfl hf rfl rfl fun a hf => ?_
            obtain ⟨i35, hi35, hm⟩ := ob hm
            refine op_val (ex_sub hf rfl rfl hi35) rfl hf rfl rfl fun a hf => ?_
            refine op_val (ex_assign hf rfl) rfl hf rfl rfl fun a hf => ?_
            refine wpList_nil ?_
            refine nor_then ?_
            exact ⟨_, Nat.lt_succ_self _, i35, (hf.cons rfl (hf.cons rfl (hf.cons rfl (hf.cons rfl hf.nil)))), hO, hm⟩
          · have hm := ie hc18 hm
            refine wp_skip ?_
            refine nor_then (hK19 _ _ ?_)
            refine wp_seq_k fun _ hK22 => ?_
            refine wp_region_list ?_
            refine op_val (ex_move hf rfl) rfl hf rfl rfl fun a hf => ?_
            refine op_val (ex_move hf rfl) rfl hf rfl rfl fun a hf => ?_
            obtain ⟨s20, hs20, hm⟩ := ob hm
            refine op_val (ex_to_s (l := x_s) Tryz.underlying9 hf rfl rfl hs20) rfl hf rfl rfl fun a hf => ?_
            obtain ⟨r21, hr21, hm⟩ := ob hm
            refine op_enter (ex_call c_134 hf (vs := [str s20]) rfl) rfl hf rfl rfl (w_ref08_of s20 r21 _ (hG.own hF hO) hr21) ?_
            rintro e w' ⟨he, hb⟩
            refine ⟨_, he, fun a hf => ?_⟩
            have hO := hO.grow hb
            refine op_storeN (i := 0) (n := 3) sz_73 rfl rfl rfl (by simp [Value.oneCell']) hf rfl rfl hO fun w hO => ?_
            refine wpList_nil ?_
            refine nor_then (hK22 _ _ ?_)
            refine wp_seq_k fun _ hK26 => ?_
            refine wp_region_list ?_
            refine op_val (ex_move hf rfl) rfl hf rfl rfl fun a hf => ?_
            refine op_val (ex_move hf rfl) rfl hf rfl rfl fun a hf => ?_
            obtain ⟨i23, hi23, hm⟩ := ob hm
            refine op_val (ex_add hf rfl rfl hi23) rfl hf rfl rfl fun a hf => ?_
            obtain ⟨s24, hs24, hm⟩ := ob hm
            refine op_val (ex_from_s (l := x_s) Tryz.underlying9 hf rfl rfl hs24) rfl hf rfl rfl fun a hf => ?_
            obtain ⟨r25, hr25, hm⟩ := ob hm
            refine op_enter (ex_call c_106 hf (vs := [str s24, int 65535]) rfl) rfl hf rfl rfl (w_ref08_Small s24 65535 r25 _ (hG.own hF hO) hr25) ?_
            rintro e w' ⟨he, hb⟩
            refine ⟨_, he, fun a hf => ?_⟩
            have hO := hO.grow hb
            refine op_val (ex_assign hf rfl) rfl hf rfl rfl fun a hf => ?_
            refine wpList_nil ?_
            refine nor_then (hK26 _ _ ?_)
            refine wp_seq_k fun _ hK31 => ?_
            refine wp_seq_cut (fun a w => ∃ (t28 : Bool), Fits 45 [(2, ptr b1 0), (4, ptr b4 0), (6, int r25), (39, .bool t28)] a ∧ Dk.Own w0 [] w [.blk b4 [int r21.Kind, str r21.Name, int r21.Port] 73, .blk b1 [int 0, str [], int 0] 73] ∧ ref08_Parse_j2 r21 r25 t28 = some R) ?_ ?_
            · refine wp_region_list ?_
              refine op_val (ex_field fa_73_0 hf rfl) rfl hf rfl rfl fun a hf => ?_
              refine op_val (ex_load1 (o := 0) ag_71 (hO.blkSees (i := 0) rfl) rfl hf rfl) rfl hf rfl rfl fun a hf => ?_
              refine op_val (ex_eql (m := r21.Kind) (n := 0) hf rfl rfl) rfl hf rfl rfl fun a hf => ?_
              refine op_val (ex_move hf rfl) rfl hf rfl rfl fun a hf => ?_
              rcases bcase (r21.Kind == 0) with hc27 | hc27
              · have hm := it hc27 hm
                refine op_pass rfl hf rfl rfl (hc27) rfl rfl fun a hf => ?_
                refine op_pass rfl hf rfl rfl (hc27) rfl rfl fun a hf => ?_
                refine op_val (ex_pick_t hf rfl hc27 rfl) rfl hf rfl rfl fun a hf => ?_
                refine wpList_nil ?_
                refine nor_then ?_
                exact ⟨true, (hf.cons rfl (hf.cons rfl (hf.cons rfl (hf.cons rfl hf.nil)))), hO, hm⟩
              · have hm := ie hc27 hm
                refine op_guard rfl hf rfl rfl (hc27) ?_
                refine op_val (ex_move hf rfl) rfl hf rfl rfl fun a hf => ?_
                refine op_guard rfl hf rfl rfl (hc27) ?_
                refine op_val (ex_lss (m := r25) (n := 0) hf rfl rfl) rfl hf rfl rfl fun a hf => ?_
                refine op_val (ex_pick_f hf rfl hc27 rfl) rfl hf rfl rfl fun a hf => ?_
                refine wpList_nil ?_
                refine nor_then ?_
                exact ⟨decide (r25 < 0), (hf.cons rfl (hf.cons rfl (hf.cons rfl (hf.cons rfl hf.nil)))), hO, hm⟩
            · rintro a w ⟨t28, hf, hO, hm⟩
              rw [ref08_Parse_j2] at hm
              refine wp_cond_cut hf rfl (fun hc29 => ?_) (fun hc29 => ?_)
              · have hm := it hc29 hm
                refine wp_seq_k fun _ hK30 => ?_
                refine wp_region_list ?_
                refine op_val (ex_build (vs := []) (v := .agg #[int 0, str [], int 0]) hf rfl (by kernel_rfl)) rfl hf rfl rfl fun a hf => ?_
                refine op_storeN (i := 1) (n := 3) sz_73 rfl rfl rfl (by simp [Value.oneCell']) hf rfl rfl hO fun w hO => ?_
                refine op_val (ex_assign hf rfl) rfl hf rfl rfl fun a hf => ?_
                refine wpList_nil ?_
                refine nor_then (hK30 _ _ ?_)
                refine wp_ret ?_
                refine ret_then ?_
                refine ret_block ?_
                refine ret_then ?_
                refine ret_then ?_
                refine ret_block ?_
                refine ret_then ?_
                obtain rfl := Option.some.inj hm
                exact post_ret Tryz.results84 hf (.cell rfl (run_loadVarN (n := 3) (vs := [int 0, str [], int 0]) ag_73 sz_73 rfl ((hO.blkSees (i := 1) rfl).cells (o := 0) (n := 3) rfl)) (.tmp rfl .nil)) ⟨rfl, hO.below⟩
              · have hm := ie hc29 hm
                refine wp_skip ?_
                refine nor_then (hK31 _ _ ?_)
                refine wp_seq_k fun _ hK32 => ?_
                refine wp_region_list ?_
                refine op_val (ex_move hf rfl) rfl hf rfl rfl fun a hf => ?_
                refine op_val (ex_field fa_73_2 hf rfl) rfl hf rfl rfl fun a hf => ?_
                refine op_store1 (i := 0) (o := 2) (v := int r25) sz_3 rfl rfl rfl rfl hf rfl rfl hO fun w hO => ?_
                refine wpList_nil ?_
                refine nor_then (hK32 _ _ ?_)
                refine wp_seq_k fun _ hK33 => ?_
                refine wp_region_list ?_
                refine op_val (ex_loadN (o := 0) (vs := [int r21.Kind, str r21.Name, int r25]) ag_73 sz_73 (hO.blkSees (i := 0) rfl) rfl rfl hf rfl) rfl hf rfl rfl fun a hf => ?_
                refine op_storeN (i := 1) (n := 3) sz_73 rfl rfl rfl (by simp [Value.oneCell']) hf rfl rfl hO fun w hO => ?_
                refine op_val (ex_assign hf rfl) rfl hf rfl rfl fun a hf => ?_
                refine wpList_nil ?_
                refine nor_then (hK33 _ _ ?_)
                refine wp_ret ?_
                refine ret_block ?_
                refine ret_then ?_
                refine ret_then ?_
                refine ret_block ?_
                refine ret_then ?_
                obtain rfl := Option.some.inj hm
                exact post_ret Tryz.results84 hf (.cell rfl (run_loadVarN (n := 3) (vs := [int r21.Kind, str r21.Name, int r25]) ag_73 sz_73 rfl ((hO.blkSees (i := 1) rfl).cells (o := 0) (n := 3) rfl)) (.tmp rfl .nil)) ⟨rfl, hO.below⟩
        · have hm := ie hc14 hm
          refine wp_exit ?_
          refine exit_then ?_
          refine exit_then ?_
          refine exit_here ?_
          refine nor_then (hK36 _ _ ?_)
          refine wp_seq_k fun _ hK37 => ?_
          refine wp_region_list ?_
          refine op_val (ex_build (vs := []) (v := .agg #[int 0, str [], int 0]) hf rfl (by kernel_rfl)) rfl hf rfl rfl fun a hf => ?_
          refine op_storeN (i := 1) (n := 3) sz_73 rfl rfl rfl (by simp [Value.oneCell']) hf rfl rfl hO fun w hO => ?_
          refine op_val (ex_assign hf rfl) rfl hf rfl rfl fun a hf => ?_
          refine wpList_nil ?_
          refine nor_then (hK37 _ _ ?_)
          refine wp_ret ?_
          obtain rfl := Option.some.inj hm
          exact post_ret Tryz.results84 hf (.cell rfl (run_loadVarN (n := 3) (vs := [int 0, str [], int 0]) ag_73 sz_73 rfl ((hO.blkSees (i := 1) rfl).cells (o := 0) (n := 3) rfl)) (.tmp rfl .nil)) ⟨rfl, hO.below⟩
    · exact ⟨i10, (hf.cons rfl (hf.cons rfl (hf.cons rfl (hf.cons rfl hf.nil)))), hO, hm⟩

set_option maxHeartbeats 1000000 in
theorem w_ref09_Mark (x_s : Str) (R : Int) (w0 : World) (hG : Glob w0) (hm : ref09_Mark x_s = some R) :
    Calls Tryz.prog 135 #[str x_s] w0 fun e w' => e = .returned (int R) ∧ Below w0.heap.size w0 w' := by
  rw [ref09_Mark] at hm
  refine calls_enter (vs := [str x_s]) Tryz.func135 rfl Tryz.ntmps135 rfl fun a hf => ?_
  have hF : Away [] := away_nil
  have hO : Dk.Own w0 [] w0 [] := Dk.Own.refl w0
  refine wp_seq_k fun _ hK1 => ?_
  refine wp_region_list ?_
  refine op_val (ex_assign hf rfl) rfl hf rfl rfl fun a hf => ?_
  refine wpList_nil ?_
  refine nor_then (hK1 _ _ ?_)
  refine wp_seq_k fun _ hK2 => ?_
  refine wp_region_list ?_
  refine op_val (ex_assign hf rfl) rfl hf rfl rfl fun a hf => ?_
  refine wpList_nil ?_
  refine nor_then (hK2 _ _ ?_)
  refine wp_seq_k fun _ hK10 => ?_
  refine wp_block ?_
  refine wp_loop_n (fun k a w => ∃ (i3 : Int), Fits 17 [(0, str x_s), (3, int i3)] a ∧ Dk.Own w0 [] w [] ∧ ref09_Mark_L1 x_s k i3 = some R) ?_ fuel ?_
  · rintro n1 a w ⟨i3, hf, hO, hm⟩
    obtain _ | n1 := n1
    · rw [ref09_Mark_L1] at hm
      cases hm
    · rw [ref09_Mark_L1] at hm
      refine wp_seq_k fun _ hK8 => ?_
      refine wp_seq_cut (fun a w => ∃ (t6 : Bool), Fits 17 [(0, str x_s), (3, int i3), (13, .bool t6)] a ∧ Dk.Own w0 [] w [] ∧ ref09_Mark_j2 (ref09_Mark_L1 x_s n1) i3 t6 = some R) ?_ ?_
      · refine wp_region_list ?_
        refine op_val (ex_move hf rfl) rfl hf rfl rfl fun a hf => ?_
        refine op_val (ex_move hf rfl) rfl hf rfl rfl fun a hf => ?_
        refine op_val (ex_len_s (l := x_s) Tryz.underlying9 hf rfl) rfl hf rfl rfl fun a hf => ?_
        refine op_val (ex_lss (m := i3) (n := (x_s.length : Int)) hf rfl rfl) rfl hf rfl rfl fun a hf => ?_
        refine op_val (ex_move hf rfl) rfl hf rfl rfl fun a hf => ?_
        rcases bcase (decide (i3 < (x_s.length : Int))) with hc4 | hc4
        · have hm := it hc4 hm
          refine op_guard rfl hf rfl rfl (hc4) ?_
          refine op_val (ex_move hf rfl) rfl hf rfl rfl fun a hf => ?_
          refine op_guard rfl hf rfl rfl (hc4) ?_
          refine op_val (ex_move hf rfl) rfl hf rfl rfl fun a hf => ?_
          refine op_guard rfl hf rfl rfl (hc4) ?_
          obtain ⟨b5, hb5, hm⟩ := ob hm
          refine op_val (ex_index (l := x_s) Tryz.underlying9 hf rfl rfl hb5) rfl hf rfl rfl fun a hf => ?_
          refine op_guard rfl hf rfl rfl (hc4) ?_
          refine op_val (ex_neq_b (b := b5) (c := 63) hf rfl rfl) rfl hf rfl rfl fun a hf => ?_
          refine op_val (ex_pick_t hf rfl hc4 rfl) rfl hf rfl rfl fun a hf => ?_
          refine wpList_nil ?_
          refine nor_then ?_
          exact ⟨!(b5 == 63), (hf.cons rfl (hf.cons rfl (hf.cons rfl hf.nil))), hO, hm⟩
        · have hm := ie hc4 hm
          refine op_pass rfl hf rfl rfl (hc4) rfl rfl fun a hf => ?_
          refine op_pass rfl hf rfl rfl (hc4) rfl rfl fun a hf => ?_
          refine op_pass rfl hf rfl rfl (hc4) rfl rfl fun a hf => ?_
          refine op_pass rfl hf rfl rfl (hc4) rfl rfl fun a hf => ?_
          refine op_val (ex_pick_f hf rfl hc4 rfl) rfl hf rfl rfl fun a hf => ?_
          refine wpList_nil ?_
          refine nor_then ?_
          exact ⟨false, (hf.cons rfl (hf.cons rfl (hf.cons rfl hf.nil))), hO, hm⟩
      · rintro a w ⟨t6, hf, hO, hm⟩
        rw [ref09_Mark_j2] at hm
        refine wp_cond_cut hf rfl (fun hc7 => ?_) (fun hc7 => ?_)
        · have hm := it hc7 hm
          refine wp_skip ?_
          refine nor_then (hK8 _ _ ?_)
          refine wp_block ?_
          refine wp_region_list ?_
          refine op_val (ex_move hf rfl) rfl hf rfl rfl fun a hf => ?_
          obtain ⟨i9, hi9, hm⟩ := ob hm
          refine op_val (ex_add hf rfl rfl hi9) rfl hf rfl rfl fun a hf => ?_
          refine op_val (ex_assign hf rfl) rfl hf rfl rfl fun a hf => ?_
          refine wpList_nil ?_
          refine nor_block ?_
          refine nor_then ?_
          exact ⟨_, Nat.lt_succ_self _, i9, (hf.cons rfl (hf.cons rfl hf.nil)), hO, hm⟩
        · have hm := ie hc7 hm
          refine wp_exit ?_
          refine exit_then ?_
          refine exit_then ?_
          refine exit_here ?_
          refine nor_then (hK10 _ _ ?_)
          refine wp_seq_k fun _ hK11 => ?_
          refine wp_region_list ?_
          refine op_val (ex_move hf rfl) rfl hf rfl rfl fun a hf => ?_
          refine op_val (ex_assign hf rfl) rfl hf rfl rfl fun a hf => ?_
          refine wpList_nil ?_
          refine nor_then (hK11 _ _ ?_)
          refine wp_ret ?_
          obtain rfl := Option.some.inj hm
          exact post_ret Tryz.results135 hf (.tmp rfl .nil) ⟨rfl, hO.below⟩
  · exact ⟨0, (hf.cons rfl (hf.cons rfl hf.nil)), hO, hm⟩

set_option maxHeartbeats 1000000 in
theorem w_ref01_Path (x_b : UInt8) (R : Bool) (w0 : World) (hG : Glob w0) (hm : ref01_Path x_b = some R) :
    Calls Tryz.prog 181 #[byte x_b] w0 fun e w' => e = .returned (.bool R) ∧ Below w0.heap.size w0 w' := by
  rw [ref01_Path] at hm
  refine calls_enter (vs := [byte x_b]) Tryz.func181 rfl Tryz.ntmps181 rfl fun a hf => ?_
  have hF : Away [] := away_nil
  have hO : Dk.Own w0 [] w0 [] := Dk.Own.refl w0
  refine wp_seq_k fun _ hK1 => ?_
  refine wp_region_list ?_
  refine op_val (ex_assign hf rfl) rfl hf rfl rfl fun a hf => ?_
  refine wpList_nil ?_
  refine nor_then (hK1 _ _ ?_)
  refine wp_seq_cut (fun a w => ∃ (t7 : Bool), Fits 17 [(2, .bool t7)] a ∧ Dk.Own w0 [] w [] ∧ ref01_Path_j1 t7 = some R) ?_ ?_
  · refine wp_region_list ?_
    refine op_val (ex_move hf rfl) rfl hf rfl rfl fun a hf => ?_
    obtain ⟨r2, hr2, hm⟩ := ob hm
    refine op_enter (ex_call c_200 hf (vs := [byte x_b]) rfl) rfl hf rfl rfl (w_ref01_Unreserved x_b r2 _ (hG.own hF hO) hr2) ?_
    rintro e w' ⟨he, hb⟩
    refine ⟨_, he, fun a hf => ?_⟩
    have hO := hO.grow hb
    refine op_val (ex_move hf rfl) rfl hf rfl rfl fun a hf => ?_
    rcases bcase (r2) with hc3 | hc3
    · have hm := it hc3 hm
      refine op_pass rfl hf rfl rfl (hc3) rfl rfl fun a hf => ?_
      refine op_pass rfl hf rfl rfl (hc3) rfl rfl fun a hf => ?_
      refine op_val (ex_pick_t hf rfl hc3 rfl) rfl hf rfl rfl fun a hf => ?_
      refine op_val (ex_move hf rfl) rfl hf rfl rfl fun a hf => ?_
      refine op_pass rfl hf rfl rfl (rfl) rfl rfl fun a hf => ?_
      refine op_pass rfl hf rfl rfl (rfl) rfl rfl fun a hf => ?_
      refine op_val (ex_pick_t hf rfl rfl rfl) rfl hf rfl rfl fun a hf => ?_
      refine op_val (ex_move hf rfl) rfl hf rfl rfl fun a hf => ?_
      refine op_pass rfl hf rfl rfl (rfl) rfl rfl fun a hf => ?_
      refine op_pass rfl hf rfl rfl (rfl) rfl rfl fun a hf => ?_
      refine op_val (ex_pick_t hf rfl rfl rfl) rfl hf rfl rfl fun a hf => ?_
      refine op_val (ex_assign hf rfl) rfl hf rfl rfl fun a hf => ?_
      refine wpList_nil ?_
      refine nor_then ?_
      exact ⟨true, (hf.cons rfl hf.nil), hO, hm⟩
    · have hm := ie hc3 hm
      refine op_guard rfl hf rfl rfl (hc3) ?_
      refine op_val (ex_move hf rfl) rfl hf rfl rfl fun a hf => ?_
      refine op_guard rfl hf rfl rfl (hc3) ?_
      obtain ⟨r4, hr4, hm⟩ := ob hm
      refine op_enter (ex_call c_201 hf (vs := [byte x_b]) rfl) rfl hf rfl rfl (w_ref01_Sub x_b r4 _ (hG.own hF hO) hr4) ?_
      rintro e w' ⟨he, hb⟩
      refine ⟨_, he, fun a hf => ?_⟩
      have hO := hO.grow hb
      refine op_val (ex_pick_f hf rfl hc3 rfl) rfl hf rfl rfl fun a hf => ?_
      refine op_val (ex_move hf rfl) rfl hf rfl rfl fun a hf => ?_
      rcases bcase (r4) with hc5 | hc5
      · have hm := it hc5 hm
        refine op_pass rfl hf rfl rfl (hc5) rfl rfl fun a hf => ?_
        refine op_pass rfl hf rfl rfl (hc5) rfl rfl fun a hf => ?_
        refine op_val (ex_pick_t hf rfl hc5 rfl) rfl hf rfl rfl fun a hf => ?_
        refine op_val (ex_move hf rfl) rfl hf rfl rfl fun a hf => ?_
        refine op_pass rfl hf rfl rfl (rfl) rfl rfl fun a hf => ?_
        refine op_pass rfl hf rfl rfl (rfl) rfl rfl fun a hf => ?_
        refine op_val (ex_pick_t hf rfl rfl rfl) rfl hf rfl rfl fun a hf => ?_
        refine op_val (ex_assign hf rfl) rfl hf rfl rfl fun a hf => ?_
        refine wpList_nil ?_
        refine nor_then ?_
        exact ⟨true, (hf.cons rfl hf.nil), hO, hm⟩
      · have hm := ie hc5 hm
        refine op_guard rfl hf rfl rfl (hc5) ?_
        refine op_val (ex_move hf rfl) rfl hf rfl rfl fun a hf => ?_
        refine op_guard rfl hf rfl rfl (hc5) ?_
        refine op_val (ex_eql_b (b := x_b) (c := 58) hf rfl rfl) rfl hf rfl rfl fun a hf => ?_
        refine op_val (ex_pick_f hf rfl hc5 rfl) rfl hf rfl rfl fun a hf => ?_
        refine op_val (ex_move hf rfl) rfl hf rfl rfl fun a hf => ?_
        rcases bcase (x_b == 58) with hc6 | hc6
        · have hm := it hc6 hm
          refine op_pass rfl hf rfl rfl (hc6) rfl rfl fun a hf => ?_
          refine op_pass rfl hf rfl rfl (hc6) rfl rfl fun a hf => ?_
          refine op_val (ex_pick_t hf rfl hc6 rfl) rfl hf rfl rfl fun a hf => ?_
          refine op_val (ex_assign hf rfl) rfl hf rfl rfl fun a hf => ?_
          refine wpList_nil ?_
          refine nor_then ?_
          exact ⟨true, (hf.cons rfl hf.nil), hO, hm⟩
        · have hm := ie hc6 hm
          refine op_guard rfl hf rfl rfl (hc6) ?_
          refine op_val (ex_move hf rfl) rfl hf rfl rfl fun a hf => ?_
          refine op_guard rfl hf rfl rfl (hc6) ?_
          refine op_val (ex_eql_b (b := x_b) (c := 64) hf rfl rfl) rfl hf rfl rfl fun a hf => ?_
          refine op_val (ex_pick_f hf rfl hc6 rfl) rfl hf rfl rfl fun a hf => ?_
          refine op_val (ex_assign hf rfl) rfl hf rfl rfl fun a hf => ?_
          refine wpList_nil ?_
          refine nor_then ?_
          exact ⟨x_b == 64, (hf.cons rfl hf.nil), hO, hm⟩
  · rintro a w ⟨t7, hf, hO, hm⟩
    rw [ref01_Path_j1] at hm
    refine wp_ret ?_
    obtain rfl := Option.some.inj hm
    exact post_ret Tryz.results181 hf (.tmp rfl .nil) ⟨rfl, hO.below⟩

set_option maxHeartbeats 1000000 in
theorem w_ref09_Of_r (n0 : Nat) : ∀ (x_s : Str) (x_more : Str) (R : Bool) (w0 : World) (hG : Glob w0) (hm : ref09_Of_r n0 x_s x_more = some R),
    Calls Tryz.prog 137 #[str x_s, str x_more] w0 fun e w' => e = .returned (.bool R) ∧ Below w0.heap.size w0 w' := by
  induction n0 with
  | zero => intro x_s x_more R w0 hG  hm; rw [ref09_Of_r] at hm; cases hm
  | succ n0 ih =>
    intro x_s x_more R w0 hG  hm
    rw [ref09_Of_r] at hm
    refine calls_enter (vs := [str x_s, str x_more]) Tryz.func137 rfl Tryz.ntmps137 rfl fun a hf => ?_
    have hF : Away [] := away_nil
    have hO : Dk.Own w0 [] w0 [] := Dk.Own.refl w0
    refine wp_seq_k fun _ hK1 => ?_
    refine wp_region_list ?_
    refine op_val (ex_assign hf rfl) rfl hf rfl rfl fun a hf => ?_
    refine wpList_nil ?_
    refine nor_then (hK1 _ _ ?_)
    refine wp_seq_k fun _ hK5 => ?_
    refine wp_seq_k fun _ hK2 => ?_
    refine wp_region_list ?_
    refine op_val (ex_move hf rfl) rfl hf rfl rfl fun a hf => ?_
    refine op_val (ex_eql_s (l := x_s) (m := []) hf rfl rfl) rfl hf rfl rfl fun a hf => ?_
    refine wpList_nil ?_
    refine nor_then (hK2 _ _ ?_)
    refine wp_cond_cut hf rfl (fun hc3 => ?_) (fun hc3 => ?_)
    · have hm := it hc3 hm
      refine wp_seq_k fun _ hK4 => ?_
      refine wp_region_list ?_
      refine op_val (ex_assign hf rfl) rfl hf rfl rfl fun a hf => ?_
      refine wpList_nil ?_
      refine nor_then (hK4 _ _ ?_)
      refine wp_ret ?_
      refine ret_then ?_
      obtain rfl := Option.some.inj hm
      exact post_ret Tryz.results137 hf (.tmp rfl .nil) ⟨rfl, hO.below⟩
    · have hm := ie hc3 hm
      refine wp_skip ?_
      refine nor_then (hK5 _ _ ?_)
      refine wp_seq_k fun _ hK19 => ?_
      refine wp_seq_k fun _ hK7 => ?_
      refine wp_region_list ?_
      refine op_val (ex_move hf rfl) rfl hf rfl rfl fun a hf => ?_
      obtain ⟨b6, hb6, hm⟩ := ob hm
      refine op_val (ex_index (l := x_s) Tryz.underlying9 hf rfl rfl hb6) rfl hf rfl rfl fun a hf => ?_
      refine op_val (ex_eql_b (b := b6) (c := 37) hf rfl rfl) rfl hf rfl rfl fun a hf => ?_
      refine wpList_nil ?_
      refine nor_then (hK7 _ _ ?_)
      refine wp_cond_cut hf rfl (fun hc8 => ?_) (fun hc8 => ?_)
      · have hm := it hc8 hm
        refine wp_seq_cut (fun a w => ∃ (t18 : Bool), Fits 44 [(4, .bool t18)] a ∧ Dk.Own w0 [] w [] ∧ ref09_Of_j1 t18 = some R) ?_ ?_
        · refine wp_region_list ?_
          refine op_val (ex_move hf rfl) rfl hf rfl rfl fun a hf => ?_
          refine op_val (ex_len_s (l := x_s) Tryz.underlying9 hf rfl) rfl hf rfl rfl fun a hf => ?_
          refine op_val (ex_gtr (m := (x_s.length : Int)) (n := 2) hf rfl rfl) rfl hf rfl rfl fun a hf => ?_
          refine op_val (ex_move hf rfl) rfl hf rfl rfl fun a hf => ?_
          rcases bcase (decide (2 < (x_s.length : Int))) with hc9 | hc9
          · have hm := it hc9 hm
            refine op_guard rfl hf rfl rfl (hc9) ?_
            refine op_val (ex_move hf rfl) rfl hf rfl rfl fun a hf => ?_
            refine op_guard rfl hf rfl rfl (hc9) ?_
            obtain ⟨b10, hb10, hm⟩ := ob hm
            refine op_val (ex_index (l := x_s) Tryz.underlying9 hf rfl rfl hb10) rfl hf rfl rfl fun a hf => ?_
            refine op_guard rfl hf rfl rfl (hc9) ?_
            obtain ⟨r11, hr11, hm⟩ := ob hm
            refine op_enter (ex_call c_154 hf (vs := [byte b10]) rfl) rfl hf rfl rfl (w_ref01_Hex b10 r11 _ (hG.own hF hO) hr11) ?_
            rintro e w' ⟨he, hb⟩
            refine ⟨_, he, fun a hf => ?_⟩
            have hO := hO.grow hb
            refine op_val (ex_pick_t hf rfl hc9 rfl) rfl hf rfl rfl fun a hf => ?_
            refine op_val (ex_move hf rfl) rfl hf rfl rfl fun a hf => ?_
            rcases bcase (r11) with hc12 | hc12
            · have hm := it hc12 hm
              refine op_guard rfl hf rfl rfl (hc12) ?_
              refine op_val (ex_move hf rfl) rfl hf rfl rfl fun a hf => ?_
              refine op_guard rfl hf rfl rfl (hc12) ?_
              obtain ⟨b13, hb13, hm⟩ := ob hm
              refine op_val (ex_index (l := x_s) Tryz.underlying9 hf rfl rfl hb13) rfl hf rfl rfl fun a hf => ?_
              refine op_guard rfl hf rfl rfl (hc12) ?_
              obtain ⟨r14, hr14, hm⟩ := ob hm
              refine op_enter (ex_call c_154 hf (vs := [byte b13]) rfl) rfl hf rfl rfl (w_ref01_Hex b13 r14 _ (hG.own hF hO) hr14) ?_
              rintro e w' ⟨he, hb⟩
              refine ⟨_, he, fun a hf => ?_⟩
              have hO := hO.grow hb
              refine op_val (ex_pick_t hf rfl hc12 rfl) rfl hf rfl rfl fun a hf => ?_
              refine op_val (ex_move hf rfl) rfl hf rfl rfl fun a hf => ?_
              rcases bcase (r14) with hc15 | hc15
              · have hm := it hc15 hm
                refine op_guard rfl hf rfl rfl (hc15) ?_
                refine op_val (ex_move hf rfl) rfl hf rfl rfl fun a hf => ?_
                refine op_guard rfl hf rfl rfl (hc15) ?_
                obtain ⟨s16, hs16, hm⟩ := ob hm
                refine op_val (ex_from_s (l := x_s) Tryz.underlying9 hf rfl rfl hs16) rfl hf rfl rfl fun a hf => ?_
                refine op_guard rfl hf rfl rfl (hc15) ?_
                refine op_val (ex_move hf rfl) rfl hf rfl rfl fun a hf => ?_
                refine op_guard rfl hf rfl rfl (hc15) ?_
                obtain ⟨r17, hr17, hm⟩ := ob hm
                refine op_enter (ex_call c_137 hf (vs := [str s16, str x_more]) rfl) rfl hf rfl rfl (ih s16 x_more r17 _ (hG.own hF hO) hr17) ?_
                rintro e w' ⟨he, hb⟩
                refine ⟨_, he, fun a hf => ?_⟩
                have hO := hO.grow hb
                refine op_val (ex_pick_t hf rfl hc15 rfl) rfl hf rfl rfl fun a hf => ?_
                refine op_val (ex_assign hf rfl) rfl hf rfl rfl fun a hf => ?_
                refine wpList_nil ?_
                refine nor_then ?_
                exact ⟨r17, (hf.cons rfl hf.nil), hO, hm⟩
              · have hm := ie hc15 hm
                refine op_pass rfl hf rfl rfl (hc15) rfl rfl fun a hf => ?_
                refine op_pass rfl hf rfl rfl (hc15) rfl rfl fun a hf => ?_
                refine op_pass rfl hf rfl rfl (hc15) rfl rfl fun a hf => ?_
                refine op_pass rfl hf rfl rfl (hc15) rfl rfl fun a hf => ?_
                refine op_val (ex_pick_f hf rfl hc15 rfl) rfl hf rfl rfl fun a hf => ?_
                refine op_val (ex_assign hf rfl) rfl hf rfl rfl fun a hf => ?_
                refine wpList_nil ?_
                refine nor_then ?_
                exact ⟨false, (hf.cons rfl hf.nil), hO, hm⟩
            · have hm := ie hc12 hm
              refine op_pass rfl hf rfl rfl (hc12) rfl rfl fun a hf => ?_
              refine op_pass rfl hf rfl rfl (hc12) rfl rfl fun a hf => ?_
              refine op_pass rfl hf rfl rfl (hc12) rfl rfl fun a hf => ?_
              refine op_val (ex_pick_f hf rfl hc12 rfl) rfl hf rfl rfl fun a hf => ?_
              refine op_val (ex_move hf rfl) rfl hf rfl rfl fun a hf => ?_
              refine op_pass rfl hf rfl rfl (rfl) rfl rfl fun a hf => ?_
              refine op_pass rfl hf rfl rfl (rfl) rfl rfl fun a hf => ?_
              refine op_pass rfl hf rfl rfl (rfl) rfl rfl fun a hf => ?_
              refine op_pass rfl hf rfl rfl (rfl) rfl rfl fun a hf => ?_
              refine op_val (ex_pick_f hf rfl rfl rfl) rfl hf rfl rfl fun a hf => ?_
              refine op_val (ex_assign hf rfl) rfl hf rfl rfl fun a hf => ?_
              refine wpList_nil ?_
              refine nor_then ?_
              exact ⟨false, (hf.cons rfl hf.nil), hO, hm⟩
          · have hm := ie hc9 hm
            refine op_pass rfl hf rfl rfl (hc9) rfl rfl fun a hf => ?_
            refine op_pass rfl hf rfl rfl (hc9) rfl rfl fun a hf => ?_
            refine op_pass rfl hf rfl rfl (hc9) rfl rfl fun a hf => ?_
            refine op_val (ex_pick_f hf rfl hc9 rfl) rfl hf rfl rfl fun a hf => ?_
            refine op_val (ex_move hf rfl) rfl hf rfl rfl fun a hf => ?_
            refine op_pass rfl hf rfl rfl (rfl) rfl rfl fun a hf => ?_
            refine op_pass rfl hf rfl rfl (rfl) rfl rfl fun a hf => ?_
            refine op_pass rfl hf rfl rfl (rfl) rfl rfl fun a hf => ?_
            refine op_val (ex_pick_f hf rfl rfl rfl) rfl hf rfl rfl fun a hf => ?_
            refine op_val (ex_move hf rfl) rfl hf rfl rfl fun a hf => ?_
            refine op_pass rfl hf rfl rfl (rfl) rfl rfl fun a hf => ?_
            refine op_pass rfl hf rfl rfl (rfl) rfl rfl fun a hf => ?_
            refine op_pass rfl hf rfl rfl (rfl) rfl rfl fun a hf => ?_
            refine op_pass rfl hf rfl rfl (rfl) rfl rfl fun a hf => ?_
            refine op_val (ex_pick_f hf rfl rfl rfl) rfl hf rfl rfl fun a hf => ?_
            refine op_val (ex_assign hf rfl) rfl hf rfl rfl fun a hf => ?_
            refine wpList_nil ?_
            refine nor_then ?_
            exact ⟨false, (hf.cons rfl hf.nil), hO, hm⟩
        · rintro a w ⟨t18, hf, hO, hm⟩
          rw [ref09_Of_j1] at hm
          refine wp_ret ?_
          refine ret_then ?_
          obtain rfl := Option.some.inj hm
          exact post_ret Tryz.results137 hf (.tmp rfl .nil) ⟨rfl, hO.below⟩
      · have hm := ie hc8 hm
        refine wp_skip ?_
        refine nor_then (hK19 _ _ ?_)
        refine wp_seq_cut (fun a w => ∃ (t30 : Bool), Fits 44 [(4, .bool t30)] a ∧ Dk.Own w0 [] w [] ∧ ref09_Of_j2 t30 = some R) ?_ ?_
        · refine wp_region_list ?_
          refine op_val (ex_move hf rfl) rfl hf rfl rfl fun a hf => ?_
          obtain ⟨b20, hb20, hm⟩ := ob hm
          refine op_val (ex_index (l := x_s) Tryz.underlying9 hf rfl rfl hb20) rfl hf rfl rfl fun a hf => ?_
          obtain ⟨r21, hr21, hm⟩ := ob hm
          refine op_enter (ex_call c_181 hf (vs := [byte b20]) rfl) rfl hf rfl rfl (w_ref01_Path b20 r21 _ (hG.own hF hO) hr21) ?_
          rintro e w' ⟨he, hb⟩
          refine ⟨_, he, fun a hf => ?_⟩
          have hO := hO.grow hb
          refine op_val (ex_move hf rfl) rfl hf rfl rfl fun a hf => ?_
          rcases bcase (r21) with hc22 | hc22
          · have hm := it hc22 hm
            refine op_pass rfl hf rfl rfl (hc22) rfl rfl fun a hf => ?_
            refine op_pass rfl hf rfl rfl (hc22) rfl rfl fun a hf => ?_
            refine op_pass rfl hf rfl rfl (hc22) rfl rfl fun a hf => ?_
            refine op_pass rfl hf rfl rfl (hc22) rfl rfl fun a hf => ?_
            refine op_val (ex_pick_t hf rfl hc22 rfl) rfl hf rfl rfl fun a hf => ?_
            refine op_val (ex_move hf rfl) rfl hf rfl rfl fun a hf => ?_
            refine op_guard rfl hf rfl rfl (rfl) ?_
            refine op_val (ex_move hf rfl) rfl hf rfl rfl fun a hf => ?_
            refine op_guard rfl hf rfl rfl (rfl) ?_
            obtain ⟨s23, hs23, hm⟩ := ob hm
            refine op_val (ex_from_s (l := x_s) Tryz.underlying9 hf rfl rfl hs23) rfl hf rfl rfl fun a hf => ?_
            refine op_guard rfl hf rfl rfl (rfl) ?_
            refine op_val (ex_move hf rfl) rfl hf rfl rfl fun a hf => ?_
            refine op_guard rfl hf rfl rfl (rfl) ?_
            obtain ⟨r24, hr24, hm⟩ := ob hm
            refine op_enter (ex_call c_137 hf (vs := [str s23, str x_more]) rfl) rfl hf rfl rfl (ih s23 x_more r24 _ (hG.own hF hO) hr24) ?_
            rintro e w' ⟨he, hb⟩
            refine ⟨_, he, fun a hf => ?_⟩
            have hO := hO.grow hb
            refine op_val (ex_pick_t hf rfl rfl rfl) rfl hf rfl rfl fun a hf => ?_
            refine op_val (ex_assign hf rfl) rfl hf rfl rfl fun a hf => ?_
            refine wpList_nil ?_
            refine nor_then ?_
            exact ⟨r24, (hf.cons rfl hf.nil), hO, hm⟩
          · have hm := ie hc22 hm
            refine op_guard rfl hf rfl rfl (hc22) ?_
            refine op_val (ex_move hf rfl) rfl hf rfl rfl fun a hf => ?_
            refine op_guard rfl hf rfl rfl (hc22) ?_
            obtain ⟨b25, hb25, hm⟩ := ob hm
            refine op_val (ex_index (l := x_s) Tryz.underlying9 hf rfl rfl hb25) rfl hf rfl rfl fun a hf => ?_
            refine op_guard rfl hf rfl rfl (hc22) ?_
            refine op_val (ex_move hf rfl) rfl hf rfl rfl fun a hf => ?_
            refine op_guard rfl hf rfl rfl (hc22) ?_
            obtain ⟨r26, hr26, hm⟩ := ob hm
            refine op_enter (ex_call c_133 hf (vs := [byte b25, str x_more]) rfl) rfl hf rfl rfl (w_ref01_In b25 x_more r26 _ (hG.own hF hO) hr26) ?_
            rintro e w' ⟨he, hb⟩
            refine ⟨_, he, fun a hf => ?_⟩
            have hO := hO.grow hb
            refine op_val (ex_pick_f hf rfl hc22 rfl) rfl hf rfl rfl fun a hf => ?_
            refine op_val (ex_move hf rfl) rfl hf rfl rfl fun a hf => ?_
            rcases bcase (r26) with hc27 | hc27
            · have hm := it hc27 hm
              refine op_guard rfl hf rfl rfl (hc27) ?_
              refine op_val (ex_move hf rfl) rfl hf rfl rfl fun a hf => ?_
              refine op_guard rfl hf rfl rfl (hc27) ?_
              obtain ⟨s28, hs28, hm⟩ := ob hm
              refine op_val (ex_from_s (l := x_s) Tryz.underlying9 hf rfl rfl hs28) rfl hf rfl rfl fun a hf => ?_
              refine op_guard rfl hf rfl rfl (hc27) ?_
              refine op_val (ex_move hf rfl) rfl hf rfl rfl fun a hf => ?_
              refine op_guard rfl hf rfl rfl (hc27) ?_
              obtain ⟨r29, hr29, hm⟩ := ob hm
              refine op_enter (ex_call c_137 hf (vs := [str s28, str x_more]) rfl) rfl hf rfl rfl (ih s28 x_more r29 _ (hG.own hF hO) hr29) ?_
              rintro e w' ⟨he, hb⟩
              refine ⟨_, he, fun a hf => ?_⟩
              have hO := hO.grow hb
              refine op_val (ex_pick_t hf rfl hc27 rfl) rfl hf rfl rfl fun a hf => ?_
              refine op_val (ex_assign hf rfl) rfl hf rfl rfl fun a hf => ?_
              refine wpList_nil ?_
              refine nor_then ?_
              exact ⟨r29, (hf.cons rfl hf.nil), hO, hm⟩
            · have hm := ie hc27 hm
              refine op_pass rfl hf rfl rfl (hc27) rfl rfl fun a hf => ?_
              refine op_pass rfl hf rfl rfl (hc27) rfl rfl fun a hf => ?_
              refine op_pass rfl hf rfl rfl (hc27) rfl rfl fun a hf => ?_
              refine op_pass rfl hf rfl rfl (hc27) rfl rfl fun a hf => ?_
              refine op_val (ex_pick_f hf rfl hc27 rfl) rfl hf rfl rfl fun a hf => ?_
              refine op_val (ex_assign hf rfl) rfl hf rfl rfl fun a hf => ?_
              refine wpList_nil ?_
              refine nor_then ?_
              exact ⟨false, (hf.cons rfl hf.nil), hO, hm⟩
        · rintro a w ⟨t30, hf, hO, hm⟩
          rw [ref09_Of_j2] at hm
          refine wp_ret ?_
          obtain rfl := Option.some.inj hm
          exact post_ret Tryz.results137 hf (.tmp rfl .nil) ⟨rfl, hO.below⟩
theorem w_ref09_Of (x_s : Str) (x_more : Str) (R : Bool) (w0 : World) (hG : Glob w0) (hm : ref09_Of x_s x_more = some R) :
    Calls Tryz.prog 137 #[str x_s, str x_more] w0 fun e w' => e = .returned (.bool R) ∧ Below w0.heap.size w0 w' :=
  w_ref09_Of_r fuel x_s x_more R w0 hG  hm

end Go.Proofs
