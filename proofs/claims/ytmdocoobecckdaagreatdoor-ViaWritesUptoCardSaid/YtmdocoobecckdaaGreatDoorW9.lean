/-
  Walks, written by a program (wip/gen): what its model says, the function returns; what was there before is as it was.
-/
import Derived.Test.YtmdocoobecckdaaGreatDoorLib
import Derived.Test.YtmdocoobecckdaaGreatDoorW3
import Derived.Test.YtmdocoobecckdaaGreatDoorW5
import Derived.Test.YtmdocoobecckdaaGreatDoorW6
import Derived.Test.YtmdocoobecckdaaGreatDoorW8
set_option linter.unusedVariables false
set_option linter.unusedSimpArgs false
set_option maxRecDepth 100000
namespace Go.Proofs
open Go.Dk Go.Dm Go.RowKit

set_option maxHeartbeats 1000000 in
theorem w_ref08_Name (x_s : Str) (R : Bool) (w0 : World) (hG : Glob w0) (hm : ref08_Name x_s = some R) :
    Calls Tryz.prog 127 #[str x_s] w0 fun e w' => e = .returned (.bool R) ∧ Below w0.heap.size w0 w' := by
 rw [ref08_Name] at hm
 refine calls_enter (vs := [str x_s]) Tryz.func127 rfl Tryz.ntmps127 rfl fun a hf => ?_
 have hF : Away [] := away_nil
 have hO : Dk.Own w0 [] w0 [] := Dk.Own.refl w0
 refine wp_seq_k fun _ hK1 => ?_
 refine wp_region_list ?_
 refine op_as hf rfl rfl fun a hf => ?_
 refine wpList_nil ?_
 refine nor_then (hK1 _ _ ?_)
 refine wp_seq_k fun _ hK36 => ?_
 refine wp_seq_k fun _ hK2 => ?_
 refine wp_region_list ?_
 refine op_as hf rfl rfl fun a hf => ?_
 refine wpList_nil ?_
 refine nor_then (hK2 _ _ ?_)
 refine wp_block ?_
 refine wp_loop_n (fun k a w => ∃ (i3 : Int), Fits 52 [(0, str x_s), (3, int i3)] a ∧ Dk.Own w0 [] w [] ∧ ref08_Name_L1 x_s k i3 = some R) ?_ fuel ?_
 rintro n1 a w ⟨i3, hf, hO, hm⟩
 obtain _ | n1 := n1
 rw [ref08_Name_L1] at hm
 cases hm
 rw [ref08_Name_L1] at hm
 refine wp_seq_k fun _ hK6 => ?_
 refine wp_seq_k fun _ hK4 => ?_
 refine wp_region_list ?_
 refine op_mv hf rfl rfl fun a hf => ?_
 refine op_mv hf rfl rfl fun a hf => ?_
 refine op_val (ex_len_s (l := x_s) Tryz.underlying9 hf rfl) rfl hf rfl rfl fun a hf => ?_
 refine op_val (ex_lss (m := i3) (n := (x_s.length : Int)) hf rfl rfl) rfl hf rfl rfl fun a hf => ?_
 refine wpList_nil ?_
 refine nor_then (hK4 _ _ ?_)
 refine wp_cond_cut hf rfl (fun hc5 => ?_) (fun hc5 => ?_)
 have hm := it hc5 hm
 refine wp_skip ?_
 refine nor_then (hK6 _ _ ?_)
 refine wp_seq_cut (fun a w => ∃ (i34 : Int), Fits 52 [(0, str x_s), (3, int i34)] a ∧ Dk.Own w0 [] w [] ∧ ref08_Name_j4 (ref08_Name_L1 x_s n1) i34 = some R) ?_ ?_
 refine wp_block ?_
 refine wp_seq_k fun _ hK25 => ?_
 refine wp_seq_k fun _ hK8 => ?_
 refine wp_region_list ?_
 refine op_mv hf rfl rfl fun a hf => ?_
 refine op_mv hf rfl rfl fun a hf => ?_
 obtain ⟨b7, hb7, hm⟩ := ob hm
 refine op_val (ex_index (l := x_s) Tryz.underlying9 hf rfl rfl hb7) rfl hf rfl rfl fun a hf => ?_
 refine op_val (ex_eql_b (b := b7) (c := 37) hf rfl rfl) rfl hf rfl rfl fun a hf => ?_
 refine wpList_nil ?_
 refine nor_then (hK8 _ _ ?_)
 refine wp_cond_cut hf rfl (fun hc9 => ?_) (fun hc9 => ?_)
 have hm := it hc9 hm
 refine wp_seq_k fun _ hK22 => ?_
 refine wp_seq_cut (fun a w => ∃ (t19 : Bool), Fits 52 [(0, str x_s), (3, int i3), (34, .bool t19)] a ∧ Dk.Own w0 [] w [] ∧ ref08_Name_j2 (ref08_Name_L1 x_s n1) i3 t19 = some R) ?_ ?_
 refine wp_region_list ?_
 refine op_mv hf rfl rfl fun a hf => ?_
 obtain ⟨i10, hi10, hm⟩ := ob hm
 refine op_val (ex_add hf rfl rfl hi10) rfl hf rfl rfl fun a hf => ?_
 refine op_mv hf rfl rfl fun a hf => ?_
 refine op_val (ex_len_s (l := x_s) Tryz.underlying9 hf rfl) rfl hf rfl rfl fun a hf => ?_
 refine op_val (ex_geq (m := i10) (n := (x_s.length : Int)) hf rfl rfl) rfl hf rfl rfl fun a hf => ?_
 refine op_mv hf rfl rfl fun a hf => ?_
 rcases bcase (decide ((x_s.length : Int) ≤ i10)) with hc11 | hc11
 have hm := it hc11 hm
 refine op_pass rfl hf rfl rfl (hc11) rfl rfl fun a hf => ?_
 refine op_pass rfl hf rfl rfl (hc11) rfl rfl fun a hf => ?_
 refine op_pass rfl hf rfl rfl (hc11) rfl rfl fun a hf => ?_
 refine op_pass rfl hf rfl rfl (hc11) rfl rfl fun a hf => ?_
 refine op_pass rfl hf rfl rfl (hc11) rfl rfl fun a hf => ?_
 refine op_pass rfl hf rfl rfl (hc11) rfl rfl fun a hf => ?_
 refine op_val (ex_pick_t hf rfl hc11 rfl) rfl hf rfl rfl fun a hf => ?_
 refine op_mv hf rfl rfl fun a hf => ?_
 refine op_pass rfl hf rfl rfl (rfl) rfl rfl fun a hf => ?_
 refine op_pass rfl hf rfl rfl (rfl) rfl rfl fun a hf => ?_
 refine op_pass rfl hf rfl rfl (rfl) rfl rfl fun a hf => ?_
 refine op_pass rfl hf rfl rfl (rfl) rfl rfl fun a hf => ?_
 refine op_pass rfl hf rfl rfl (rfl) rfl rfl fun a hf => ?_
 refine op_pass rfl hf rfl rfl (rfl) rfl rfl fun a hf => ?_
 refine op_val (ex_pick_t hf rfl rfl rfl) rfl hf rfl rfl fun a hf => ?_
 refine wpList_nil ?_
 refine nor_then ?_
 exact ⟨true, (hf.cons rfl (hf.cons rfl (hf.cons rfl hf.nil))), hO, hm⟩
 have hm := ie hc11 hm
 refine op_guard rfl hf rfl rfl (hc11) ?_
 refine op_mv hf rfl rfl fun a hf => ?_
 refine op_guard rfl hf rfl rfl (hc11) ?_
 refine op_mv hf rfl rfl fun a hf => ?_
 refine op_guard rfl hf rfl rfl (hc11) ?_
 obtain ⟨i12, hi12, hm⟩ := ob hm
 refine op_val (ex_add hf rfl rfl hi12) rfl hf rfl rfl fun a hf => ?_
 refine op_guard rfl hf rfl rfl (hc11) ?_
 obtain ⟨b13, hb13, hm⟩ := ob hm
 refine op_val (ex_index (l := x_s) Tryz.underlying9 hf rfl rfl hb13) rfl hf rfl rfl fun a hf => ?_
 refine op_guard rfl hf rfl rfl (hc11) ?_
 obtain ⟨r14, hr14, hm⟩ := ob hm
 refine op_enter (ex_call c_109 hf (vs := [byte b13]) rfl) rfl hf rfl rfl (w_ref01_Hex b13 r14 _ (hG.own hF hO) hr14) ?_
 rintro e w' ⟨he, hb⟩
 refine ⟨_, he, fun a hf => ?_⟩
 have hO := hO.grow hb
 refine op_guard rfl hf rfl rfl (hc11) ?_
 refine op_val (ex_not hf rfl) rfl hf rfl rfl fun a hf => ?_
 refine op_val (ex_pick_f hf rfl hc11 rfl) rfl hf rfl rfl fun a hf => ?_
 refine op_mv hf rfl rfl fun a hf => ?_
 rcases bcase (!r14) with hc15 | hc15
 have hm := it hc15 hm
 refine op_pass rfl hf rfl rfl (hc15) rfl rfl fun a hf => ?_
 refine op_pass rfl hf rfl rfl (hc15) rfl rfl fun a hf => ?_
 refine op_pass rfl hf rfl rfl (hc15) rfl rfl fun a hf => ?_
 refine op_pass rfl hf rfl rfl (hc15) rfl rfl fun a hf => ?_
 refine op_pass rfl hf rfl rfl (hc15) rfl rfl fun a hf => ?_
 refine op_pass rfl hf rfl rfl (hc15) rfl rfl fun a hf => ?_
 refine op_val (ex_pick_t hf rfl hc15 rfl) rfl hf rfl rfl fun a hf => ?_
 refine wpList_nil ?_
 refine nor_then ?_
 exact ⟨true, (hf.cons rfl (hf.cons rfl (hf.cons rfl hf.nil))), hO, hm⟩
 have hm := ie hc15 hm
 refine op_guard rfl hf rfl rfl (hc15) ?_
 refine op_mv hf rfl rfl fun a hf => ?_
 refine op_guard rfl hf rfl rfl (hc15) ?_
 refine op_mv hf rfl rfl fun a hf => ?_
 refine op_guard rfl hf rfl rfl (hc15) ?_
 obtain ⟨i16, hi16, hm⟩ := ob hm
 refine op_val (ex_add hf rfl rfl hi16) rfl hf rfl rfl fun a hf => ?_
 refine op_guard rfl hf rfl rfl (hc15) ?_
 obtain ⟨b17, hb17, hm⟩ := ob hm
 refine op_val (ex_index (l := x_s) Tryz.underlying9 hf rfl rfl hb17) rfl hf rfl rfl fun a hf => ?_
 refine op_guard rfl hf rfl rfl (hc15) ?_
 obtain ⟨r18, hr18, hm⟩ := ob hm
 refine op_enter (ex_call c_109 hf (vs := [byte b17]) rfl) rfl hf rfl rfl (w_ref01_Hex b17 r18 _ (hG.own hF hO) hr18) ?_
 rintro e w' ⟨he, hb⟩
 refine ⟨_, he, fun a hf => ?_⟩
 have hO := hO.grow hb
 refine op_guard rfl hf rfl rfl (hc15) ?_
 refine op_val (ex_not hf rfl) rfl hf rfl rfl fun a hf => ?_
 refine op_val (ex_pick_f hf rfl hc15 rfl) rfl hf rfl rfl fun a hf => ?_
 refine wpList_nil ?_
 refine nor_then ?_
 exact ⟨!r18, (hf.cons rfl (hf.cons rfl (hf.cons rfl hf.nil))), hO, hm⟩
 rintro a w ⟨t19, hf, hO, hm⟩
 rw [ref08_Name_j2] at hm
 refine wp_cond_cut hf rfl (fun hc20 => ?_) (fun hc20 => ?_)
 have hm := it hc20 hm
 refine wp_seq_k fun _ hK21 => ?_
 refine wp_region_list ?_
 refine op_as hf rfl rfl fun a hf => ?_
 refine wpList_nil ?_
 refine nor_then (hK21 _ _ ?_)
 refine wp_ret ?_
 refine ret_then ?_
 refine ret_then ?_
 refine ret_block ?_
 refine ret_then ?_
 refine ret_then ?_
 refine ret_block ?_
 refine ret_then ?_
 obtain rfl := Option.some.inj hm
 exact post_ret Tryz.results127 hf (.tmp rfl .nil) ⟨rfl, hO.below⟩
 have hm := ie hc20 hm
 refine wp_skip ?_
 refine nor_then (hK22 _ _ ?_)
 refine wp_seq_k fun _ hK24 => ?_
 refine wp_region_list ?_
 refine op_mv hf rfl rfl fun a hf => ?_
 obtain ⟨i23, hi23, hm⟩ := ob hm
 refine op_val (ex_add hf rfl rfl hi23) rfl hf rfl rfl fun a hf => ?_
 refine op_as hf rfl rfl fun a hf => ?_
 refine wpList_nil ?_
 refine nor_then (hK24 _ _ ?_)
 refine wp_exit ?_
 refine exit_then ?_
 refine exit_here ?_
 refine nor_then ?_
 exact ⟨i23, (hf.cons rfl (hf.cons rfl hf.nil)), hO, hm⟩
 have hm := ie hc9 hm
 refine wp_skip ?_
 refine nor_then (hK25 _ _ ?_)
 refine wp_seq_cut (fun a w => ∃ (t31 : Bool), Fits 52 [(0, str x_s), (3, int i3), (48, .bool t31)] a ∧ Dk.Own w0 [] w [] ∧ ref08_Name_j3 (ref08_Name_L1 x_s n1) i3 t31 = some R) ?_ ?_
 refine wp_region_list ?_
 refine op_mv hf rfl rfl fun a hf => ?_
 refine op_mv hf rfl rfl fun a hf => ?_
 obtain ⟨b26, hb26, hm⟩ := ob hm
 refine op_val (ex_index (l := x_s) Tryz.underlying9 hf rfl rfl hb26) rfl hf rfl rfl fun a hf => ?_
 obtain ⟨r27, hr27, hm⟩ := ob hm
 refine op_enter (ex_call c_163 hf (vs := [byte b26]) rfl) rfl hf rfl rfl (w_ref01_Unreserved b26 r27 _ (hG.own hF hO) hr27) ?_
 rintro e w' ⟨he, hb⟩
 refine ⟨_, he, fun a hf => ?_⟩
 have hO := hO.grow hb
 refine op_val (ex_not hf rfl) rfl hf rfl rfl fun a hf => ?_
 refine op_mv hf rfl rfl fun a hf => ?_
 rcases bcase (!r27) with hc28 | hc28
 have hm := it hc28 hm
 refine op_guard rfl hf rfl rfl (hc28) ?_
 refine op_mv hf rfl rfl fun a hf => ?_
 refine op_guard rfl hf rfl rfl (hc28) ?_
 refine op_mv hf rfl rfl fun a hf => ?_
 refine op_guard rfl hf rfl rfl (hc28) ?_
 obtain ⟨b29, hb29, hm⟩ := ob hm
 refine op_val (ex_index (l := x_s) Tryz.underlying9 hf rfl rfl hb29) rfl hf rfl rfl fun a hf => ?_
 refine op_guard rfl hf rfl rfl (hc28) ?_
 obtain ⟨r30, hr30, hm⟩ := ob hm
 refine op_enter (ex_call c_164 hf (vs := [byte b29]) rfl) rfl hf rfl rfl (w_ref01_Sub b29 r30 _ (hG.own hF hO) hr30) ?_
 rintro e w' ⟨he, hb⟩
 refine ⟨_, he, fun a hf => ?_⟩
 have hO := hO.grow hb
 refine op_guard rfl hf rfl rfl (hc28) ?_
 refine op_val (ex_not hf rfl) rfl hf rfl rfl fun a hf => ?_
 refine op_val (ex_pick_t hf rfl hc28 rfl) rfl hf rfl rfl fun a hf => ?_
 refine wpList_nil ?_
 refine nor_then ?_
 exact ⟨!r30, (hf.cons rfl (hf.cons rfl (hf.cons rfl hf.nil))), hO, hm⟩
 have hm := ie hc28 hm
 refine op_pass rfl hf rfl rfl (hc28) rfl rfl fun a hf => ?_
 refine op_pass rfl hf rfl rfl (hc28) rfl rfl fun a hf => ?_
 refine op_pass rfl hf rfl rfl (hc28) rfl rfl fun a hf => ?_
 refine op_pass rfl hf rfl rfl (hc28) rfl rfl fun a hf => ?_
 refine op_pass rfl hf rfl rfl (hc28) rfl rfl fun a hf => ?_
 refine op_val (ex_pick_f hf rfl hc28 rfl) rfl hf rfl rfl fun a hf => ?_
 refine wpList_nil ?_
 refine nor_then ?_
 exact ⟨false, (hf.cons rfl (hf.cons rfl (hf.cons rfl hf.nil))), hO, hm⟩
 rintro a w ⟨t31, hf, hO, hm⟩
 rw [ref08_Name_j3] at hm
 refine wp_cond_cut hf rfl (fun hc32 => ?_) (fun hc32 => ?_)
 have hm := it hc32 hm
 refine wp_seq_k fun _ hK33 => ?_
 refine wp_region_list ?_
 refine op_as hf rfl rfl fun a hf => ?_
 refine wpList_nil ?_
 refine nor_then (hK33 _ _ ?_)
 refine wp_ret ?_
 refine ret_block ?_
 refine ret_then ?_
 refine ret_then ?_
 refine ret_block ?_
 refine ret_then ?_
 obtain rfl := Option.some.inj hm
 exact post_ret Tryz.results127 hf (.tmp rfl .nil) ⟨rfl, hO.below⟩
 have hm := ie hc32 hm
 refine wp_skip ?_
 refine nor_block ?_
 refine nor_then ?_
 exact ⟨i3, (hf.cons rfl (hf.cons rfl hf.nil)), hO, hm⟩
 rintro a w ⟨i34, hf, hO, hm⟩
 rw [ref08_Name_j4] at hm
 refine wp_region_list ?_
 refine op_mv hf rfl rfl fun a hf => ?_
 obtain ⟨i35, hi35, hm⟩ := ob hm
 refine op_val (ex_add hf rfl rfl hi35) rfl hf rfl rfl fun a hf => ?_
 refine op_as hf rfl rfl fun a hf => ?_
 refine wpList_nil ?_
 refine nor_then ?_
 exact ⟨_, Nat.lt_succ_self _, i35, (hf.cons rfl (hf.cons rfl hf.nil)), hO, hm⟩
 have hm := ie hc5 hm
 refine wp_exit ?_
 refine exit_then ?_
 refine exit_then ?_
 refine exit_here ?_
 refine nor_then (hK36 _ _ ?_)
 refine wp_seq_k fun _ hK37 => ?_
 refine wp_region_list ?_
 refine op_mv hf rfl rfl fun a hf => ?_
 refine op_val (ex_len_s (l := x_s) Tryz.underlying9 hf rfl) rfl hf rfl rfl fun a hf => ?_
 refine op_val (ex_gtr (m := (x_s.length : Int)) (n := 0) hf rfl rfl) rfl hf rfl rfl fun a hf => ?_
 refine op_as hf rfl rfl fun a hf => ?_
 refine wpList_nil ?_
 refine nor_then (hK37 _ _ ?_)
 refine wp_ret ?_
 obtain rfl := Option.some.inj hm
 exact post_ret Tryz.results127 hf (.tmp rfl .nil) ⟨rfl, hO.below⟩
 exact ⟨0, (hf.cons rfl (hf.cons rfl hf.nil)), hO, hm⟩

set_option maxHeartbeats 1000000 in
theorem w_ref08_of (x_s : Str) (R : api_Host) (w0 : World) (hG : Glob w0) (hm : ref08_of x_s = some R) :
    Calls Tryz.prog 89 #[str x_s] w0 fun e w' => e = .returned (.agg #[int R.Kind, str R.Name, int R.Port]) ∧ Below w0.heap.size w0 w' := by
 rw [ref08_of] at hm
 refine calls_enter (vs := [str x_s]) Tryz.func89 rfl Tryz.ntmps89 rfl fun a hf => ?_
 have hF : Away [] := away_nil
 have hO : Dk.Own w0 [] w0 [] := Dk.Own.refl w0
 refine wp_seq_k fun _ hK2 => ?_
 refine wp_region_list ?_
 refine op_alloc al_98 hf rfl hO fun a b1 w hf hO => ?_
 refine wpList_nil ?_
 refine nor_then (hK2 _ _ ?_)
 refine wp_seq_k fun _ hK17 => ?_
 refine wp_seq_cut (fun a w => ∃ (t12 : Bool), Fits 42 [(0, str x_s), (2, ptr b1 0), (26, .bool t12)] a ∧ Dk.Own w0 [] w [.blk b1 [int 0, str [], int 0] 98] ∧ ref08_of_j1 x_s t12 = some R) ?_ ?_
 refine wp_region_list ?_
 refine op_mv hf rfl rfl fun a hf => ?_
 refine op_val (ex_len_s (l := x_s) Tryz.underlying9 hf rfl) rfl hf rfl rfl fun a hf => ?_
 refine op_val (ex_gtr (m := (x_s.length : Int)) (n := 2) hf rfl rfl) rfl hf rfl rfl fun a hf => ?_
 refine op_mv hf rfl rfl fun a hf => ?_
 rcases bcase (decide (2 < (x_s.length : Int))) with hc3 | hc3
 have hm := it hc3 hm
 refine op_guard rfl hf rfl rfl (hc3) ?_
 refine op_mv hf rfl rfl fun a hf => ?_
 refine op_guard rfl hf rfl rfl (hc3) ?_
 obtain ⟨b4, hb4, hm⟩ := ob hm
 refine op_val (ex_index (l := x_s) Tryz.underlying9 hf rfl rfl hb4) rfl hf rfl rfl fun a hf => ?_
 refine op_guard rfl hf rfl rfl (hc3) ?_
 refine op_val (ex_eql_b (b := b4) (c := 91) hf rfl rfl) rfl hf rfl rfl fun a hf => ?_
 refine op_val (ex_pick_t hf rfl hc3 rfl) rfl hf rfl rfl fun a hf => ?_
 refine op_mv hf rfl rfl fun a hf => ?_
 rcases bcase (b4 == 91) with hc5 | hc5
 have hm := it hc5 hm
 refine op_guard rfl hf rfl rfl (hc5) ?_
 refine op_mv hf rfl rfl fun a hf => ?_
 refine op_guard rfl hf rfl rfl (hc5) ?_
 refine op_mv hf rfl rfl fun a hf => ?_
 refine op_guard rfl hf rfl rfl (hc5) ?_
 refine op_val (ex_len_s (l := x_s) Tryz.underlying9 hf rfl) rfl hf rfl rfl fun a hf => ?_
 refine op_guard rfl hf rfl rfl (hc5) ?_
 obtain ⟨i6, hi6, hm⟩ := ob hm
 refine op_val (ex_sub hf rfl rfl hi6) rfl hf rfl rfl fun a hf => ?_
 refine op_guard rfl hf rfl rfl (hc5) ?_
 obtain ⟨b7, hb7, hm⟩ := ob hm
 refine op_val (ex_index (l := x_s) Tryz.underlying9 hf rfl rfl hb7) rfl hf rfl rfl fun a hf => ?_
 refine op_guard rfl hf rfl rfl (hc5) ?_
 refine op_val (ex_eql_b (b := b7) (c := 93) hf rfl rfl) rfl hf rfl rfl fun a hf => ?_
 refine op_val (ex_pick_t hf rfl hc5 rfl) rfl hf rfl rfl fun a hf => ?_
 refine op_mv hf rfl rfl fun a hf => ?_
 rcases bcase (b7 == 93) with hc8 | hc8
 have hm := it hc8 hm
 refine op_guard rfl hf rfl rfl (hc8) ?_
 refine op_mv hf rfl rfl fun a hf => ?_
 refine op_guard rfl hf rfl rfl (hc8) ?_
 refine op_mv hf rfl rfl fun a hf => ?_
 refine op_guard rfl hf rfl rfl (hc8) ?_
 refine op_val (ex_len_s (l := x_s) Tryz.underlying9 hf rfl) rfl hf rfl rfl fun a hf => ?_
 refine op_guard rfl hf rfl rfl (hc8) ?_
 obtain ⟨i9, hi9, hm⟩ := ob hm
 refine op_val (ex_sub hf rfl rfl hi9) rfl hf rfl rfl fun a hf => ?_
 refine op_guard rfl hf rfl rfl (hc8) ?_
 obtain ⟨s10, hs10, hm⟩ := ob hm
 refine op_val (ex_sub_s (l := x_s) Tryz.underlying9 hf rfl rfl rfl hs10) rfl hf rfl rfl fun a hf => ?_
 refine op_guard rfl hf rfl rfl (hc8) ?_
 obtain ⟨r11, hr11, hm⟩ := ob hm
 refine op_enter (ex_call c_41 hf (vs := [str s10]) rfl) rfl hf rfl rfl (w_ref08_Six s10 r11 _ (hG.own hF hO) hr11) ?_
 rintro e w' ⟨he, hb⟩
 refine ⟨_, he, fun a hf => ?_⟩
 have hO := hO.grow hb
 refine op_val (ex_pick_t hf rfl hc8 rfl) rfl hf rfl rfl fun a hf => ?_
 refine wpList_nil ?_
 refine nor_then ?_
 exact ⟨r11, (hf.cons rfl (hf.cons rfl (hf.cons rfl hf.nil))), hO, hm⟩
 have hm := ie hc8 hm
 refine op_pass rfl hf rfl rfl (hc8) rfl rfl fun a hf => ?_
 refine op_pass rfl hf rfl rfl (hc8) rfl rfl fun a hf => ?_
 refine op_pass rfl hf rfl rfl (hc8) rfl rfl fun a hf => ?_
 refine op_pass rfl hf rfl rfl (hc8) rfl rfl fun a hf => ?_
 refine op_pass rfl hf rfl rfl (hc8) rfl rfl fun a hf => ?_
 refine op_pass rfl hf rfl rfl (hc8) rfl rfl fun a hf => ?_
 refine op_val (ex_pick_f hf rfl hc8 rfl) rfl hf rfl rfl fun a hf => ?_
 refine wpList_nil ?_
 refine nor_then ?_
 exact ⟨false, (hf.cons rfl (hf.cons rfl (hf.cons rfl hf.nil))), hO, hm⟩
 have hm := ie hc5 hm
 refine op_pass rfl hf rfl rfl (hc5) rfl rfl fun a hf => ?_
 refine op_pass rfl hf rfl rfl (hc5) rfl rfl fun a hf => ?_
 refine op_pass rfl hf rfl rfl (hc5) rfl rfl fun a hf => ?_
 refine op_pass rfl hf rfl rfl (hc5) rfl rfl fun a hf => ?_
 refine op_pass rfl hf rfl rfl (hc5) rfl rfl fun a hf => ?_
 refine op_pass rfl hf rfl rfl (hc5) rfl rfl fun a hf => ?_
 refine op_val (ex_pick_f hf rfl hc5 rfl) rfl hf rfl rfl fun a hf => ?_
 refine op_mv hf rfl rfl fun a hf => ?_
 refine op_pass rfl hf rfl rfl (rfl) rfl rfl fun a hf => ?_
 refine op_pass rfl hf rfl rfl (rfl) rfl rfl fun a hf => ?_
 refine op_pass rfl hf rfl rfl (rfl) rfl rfl fun a hf => ?_
 refine op_pass rfl hf rfl rfl (rfl) rfl rfl fun a hf => ?_
 refine op_pass rfl hf rfl rfl (rfl) rfl rfl fun a hf => ?_
 refine op_pass rfl hf rfl rfl (rfl) rfl rfl fun a hf => ?_
 refine op_val (ex_pick_f hf rfl rfl rfl) rfl hf rfl rfl fun a hf => ?_
 refine wpList_nil ?_
 refine nor_then ?_
 exact ⟨false, (hf.cons rfl (hf.cons rfl (hf.cons rfl hf.nil))), hO, hm⟩
 have hm := ie hc3 hm
 refine op_pass rfl hf rfl rfl (hc3) rfl rfl fun a hf => ?_
 refine op_pass rfl hf rfl rfl (hc3) rfl rfl fun a hf => ?_
 refine op_pass rfl hf rfl rfl (hc3) rfl rfl fun a hf => ?_
 refine op_val (ex_pick_f hf rfl hc3 rfl) rfl hf rfl rfl fun a hf => ?_
 refine op_mv hf rfl rfl fun a hf => ?_
 refine op_pass rfl hf rfl rfl (rfl) rfl rfl fun a hf => ?_
 refine op_pass rfl hf rfl rfl (rfl) rfl rfl fun a hf => ?_
 refine op_pass rfl hf rfl rfl (rfl) rfl rfl fun a hf => ?_
 refine op_pass rfl hf rfl rfl (rfl) rfl rfl fun a hf => ?_
 refine op_pass rfl hf rfl rfl (rfl) rfl rfl fun a hf => ?_
 refine op_pass rfl hf rfl rfl (rfl) rfl rfl fun a hf => ?_
 refine op_val (ex_pick_f hf rfl rfl rfl) rfl hf rfl rfl fun a hf => ?_
 refine op_mv hf rfl rfl fun a hf => ?_
 refine op_pass rfl hf rfl rfl (rfl) rfl rfl fun a hf => ?_
 refine op_pass rfl hf rfl rfl (rfl) rfl rfl fun a hf => ?_
 refine op_pass rfl hf rfl rfl (rfl) rfl rfl fun a hf => ?_
 refine op_pass rfl hf rfl rfl (rfl) rfl rfl fun a hf => ?_
 refine op_pass rfl hf rfl rfl (rfl) rfl rfl fun a hf => ?_
 refine op_pass rfl hf rfl rfl (rfl) rfl rfl fun a hf => ?_
 refine op_val (ex_pick_f hf rfl rfl rfl) rfl hf rfl rfl fun a hf => ?_
 refine wpList_nil ?_
 refine nor_then ?_
 exact ⟨false, (hf.cons rfl (hf.cons rfl (hf.cons rfl hf.nil))), hO, hm⟩
 rintro a w ⟨t12, hf, hO, hm⟩
 rw [ref08_of_j1] at hm
 refine wp_cond_cut hf rfl (fun hc13 => ?_) (fun hc13 => ?_)
 have hm := it hc13 hm
 refine wp_seq_k fun _ hK16 => ?_
 refine wp_region_list ?_
 refine op_mv hf rfl rfl fun a hf => ?_
 refine op_mv hf rfl rfl fun a hf => ?_
 refine op_val (ex_len_s (l := x_s) Tryz.underlying9 hf rfl) rfl hf rfl rfl fun a hf => ?_
 obtain ⟨i14, hi14, hm⟩ := ob hm
 refine op_val (ex_sub hf rfl rfl hi14) rfl hf rfl rfl fun a hf => ?_
 obtain ⟨s15, hs15, hm⟩ := ob hm
 refine op_val (ex_sub_s (l := x_s) Tryz.underlying9 hf rfl rfl rfl hs15) rfl hf rfl rfl fun a hf => ?_
 refine op_val (ex_build (vs := [(0, int 3), (1, str s15), (2, int (-1))]) (v := .agg #[int 3, str s15, int (-1)]) hf rfl (by kernel_rfl)) rfl hf rfl rfl fun a hf => ?_
 refine op_storeN (i := 0) (n := 3) sz_98 rfl rfl rfl (by simp [Value.oneCell']) hf rfl rfl hO fun w hO => ?_
 refine wpList_nil ?_
 refine nor_then (hK16 _ _ ?_)
 refine wp_ret ?_
 refine ret_then ?_
 obtain rfl := Option.some.inj hm
 exact post_ret Tryz.results89 hf (.cell rfl (run_loadVarN (n := 3) (vs := [int 3, str s15, int (-1)]) ag_98 sz_98 rfl ((hO.blkSees (i := 0) rfl).cells (o := 0) (n := 3) rfl)) .nil) ⟨rfl, hO.below⟩
 have hm := ie hc13 hm
 refine wp_skip ?_
 refine nor_then (hK17 _ _ ?_)
 refine wp_seq_k fun _ hK22 => ?_
 refine wp_seq_k fun _ hK19 => ?_
 refine wp_region_list ?_
 refine op_mv hf rfl rfl fun a hf => ?_
 obtain ⟨r18, hr18, hm⟩ := ob hm
 refine op_enter (ex_call c_42 hf (vs := [str x_s]) rfl) rfl hf rfl rfl (w_ref08_Four x_s r18 _ (hG.own hF hO) hr18) ?_
 rintro e w' ⟨he, hb⟩
 refine ⟨_, he, fun a hf => ?_⟩
 have hO := hO.grow hb
 refine wpList_nil ?_
 refine nor_then (hK19 _ _ ?_)
 refine wp_cond_cut hf rfl (fun hc20 => ?_) (fun hc20 => ?_)
 have hm := it hc20 hm
 refine wp_seq_k fun _ hK21 => ?_
 refine wp_region_list ?_
 refine op_mv hf rfl rfl fun a hf => ?_
 refine op_val (ex_build (vs := [(0, int 2), (1, str x_s), (2, int (-1))]) (v := .agg #[int 2, str x_s, int (-1)]) hf rfl (by kernel_rfl)) rfl hf rfl rfl fun a hf => ?_
 refine op_storeN (i := 0) (n := 3) sz_98 rfl rfl rfl (by simp [Value.oneCell']) hf rfl rfl hO fun w hO => ?_
 refine wpList_nil ?_
 refine nor_then (hK21 _ _ ?_)
 refine wp_ret ?_
 refine ret_then ?_
 obtain rfl := Option.some.inj hm
 exact post_ret Tryz.results89 hf (.cell rfl (run_loadVarN (n := 3) (vs := [int 2, str x_s, int (-1)]) ag_98 sz_98 rfl ((hO.blkSees (i := 0) rfl).cells (o := 0) (n := 3) rfl)) .nil) ⟨rfl, hO.below⟩
 have hm := ie hc20 hm
 refine wp_skip ?_
 refine nor_then (hK22 _ _ ?_)
 refine wp_seq_k fun _ hK27 => ?_
 refine wp_seq_k fun _ hK24 => ?_
 refine wp_region_list ?_
 refine op_mv hf rfl rfl fun a hf => ?_
 obtain ⟨r23, hr23, hm⟩ := ob hm
 refine op_enter (ex_call c_127 hf (vs := [str x_s]) rfl) rfl hf rfl rfl (w_ref08_Name x_s r23 _ (hG.own hF hO) hr23) ?_
 rintro e w' ⟨he, hb⟩
 refine ⟨_, he, fun a hf => ?_⟩
 have hO := hO.grow hb
 refine wpList_nil ?_
 refine nor_then (hK24 _ _ ?_)
 refine wp_cond_cut hf rfl (fun hc25 => ?_) (fun hc25 => ?_)
 have hm := it hc25 hm
 refine wp_seq_k fun _ hK26 => ?_
 refine wp_region_list ?_
 refine op_mv hf rfl rfl fun a hf => ?_
 refine op_val (ex_build (vs := [(0, int 1), (1, str x_s), (2, int (-1))]) (v := .agg #[int 1, str x_s, int (-1)]) hf rfl (by kernel_rfl)) rfl hf rfl rfl fun a hf => ?_
 refine op_storeN (i := 0) (n := 3) sz_98 rfl rfl rfl (by simp [Value.oneCell']) hf rfl rfl hO fun w hO => ?_
 refine wpList_nil ?_
 refine nor_then (hK26 _ _ ?_)
 refine wp_ret ?_
 refine ret_then ?_
 obtain rfl := Option.some.inj hm
 exact post_ret Tryz.results89 hf (.cell rfl (run_loadVarN (n := 3) (vs := [int 1, str x_s, int (-1)]) ag_98 sz_98 rfl ((hO.blkSees (i := 0) rfl).cells (o := 0) (n := 3) rfl)) .nil) ⟨rfl, hO.below⟩
 have hm := ie hc25 hm
 refine wp_skip ?_
 refine nor_then (hK27 _ _ ?_)
 refine wp_seq_k fun _ hK28 => ?_
 refine wp_region_list ?_
 refine op_val (ex_build (vs := []) (v := .agg #[int 0, str [], int 0]) hf rfl (by kernel_rfl)) rfl hf rfl rfl fun a hf => ?_
 refine op_storeN (i := 0) (n := 3) sz_98 rfl rfl rfl (by simp [Value.oneCell']) hf rfl rfl hO fun w hO => ?_
 refine wpList_nil ?_
 refine nor_then (hK28 _ _ ?_)
 refine wp_ret ?_
 obtain rfl := Option.some.inj hm
 exact post_ret Tryz.results89 hf (.cell rfl (run_loadVarN (n := 3) (vs := [int 0, str [], int 0]) ag_98 sz_98 rfl ((hO.blkSees (i := 0) rfl).cells (o := 0) (n := 3) rfl)) .nil) ⟨rfl, hO.below⟩

set_option maxHeartbeats 1000000 in
theorem w_ref08_Parse (x_s : Str) (R : api_Host × Int) (w0 : World) (hG : Glob w0) (hm : ref08_Parse x_s = some R) :
    Calls Tryz.prog 51 #[str x_s] w0 fun e w' => e = .returned (.tuple #[.agg #[int R.1.Kind, str R.1.Name, int R.1.Port], int R.2]) ∧ Below w0.heap.size w0 w' := by
 rw [ref08_Parse] at hm
 refine calls_enter (vs := [str x_s]) Tryz.func51 rfl Tryz.ntmps51 rfl fun a hf => ?_
 have hF : Away [] := away_nil
 have hO : Dk.Own w0 [] w0 [] := Dk.Own.refl w0
 refine wp_seq_k fun _ hK2 => ?_
 refine wp_region_list ?_
 refine op_alloc al_98 hf rfl hO fun a b1 w hf hO => ?_
 refine op_as hf rfl rfl fun a hf => ?_
 refine wpList_nil ?_
 refine nor_then (hK2 _ _ ?_)
 refine wp_seq_k fun _ hK5 => ?_
 refine wp_region_list ?_
 refine op_mv hf rfl rfl fun a hf => ?_
 obtain ⟨r3, hr3, hm⟩ := ob hm
 refine op_enter (ex_call c_89 hf (vs := [str x_s]) rfl) rfl hf rfl rfl (w_ref08_of x_s r3 _ (hG.own hF hO) hr3) ?_
 rintro e w' ⟨he, hb⟩
 refine ⟨_, he, fun a hf => ?_⟩
 have hO := hO.grow hb
 refine op_alloc al_98 hf rfl hO fun a b4 w hf hO => ?_
 refine op_storeN (i := 0) (n := 3) sz_98 rfl rfl rfl (by simp [Value.oneCell']) hf rfl rfl hO fun w hO => ?_
 refine wpList_nil ?_
 refine nor_then (hK5 _ _ ?_)
 refine wp_seq_k fun _ hK9 => ?_
 refine wp_seq_k fun _ hK6 => ?_
 refine wp_region_list ?_
 refine op_val (ex_field fa_98_0 hf rfl) rfl hf rfl rfl fun a hf => ?_
 refine op_val (ex_load1 (o := 0) ag_96 (hO.blkSees (i := 0) rfl) rfl hf rfl) rfl hf rfl rfl fun a hf => ?_
 refine op_val (ex_neq (m := r3.Kind) (n := 0) hf rfl rfl) rfl hf rfl rfl fun a hf => ?_
 refine wpList_nil ?_
 refine nor_then (hK6 _ _ ?_)
 refine wp_cond_cut hf rfl (fun hc7 => ?_) (fun hc7 => ?_)
 have hm := it hc7 hm
 refine wp_seq_k fun _ hK8 => ?_
 refine wp_region_list ?_
 refine op_val (ex_loadN (o := 0) (vs := [int r3.Kind, str r3.Name, int r3.Port]) ag_98 sz_98 (hO.blkSees (i := 0) rfl) rfl rfl hf rfl) rfl hf rfl rfl fun a hf => ?_
 refine op_storeN (i := 1) (n := 3) sz_98 rfl rfl rfl (by simp [Value.oneCell']) hf rfl rfl hO fun w hO => ?_
 refine op_as hf rfl rfl fun a hf => ?_
 refine wpList_nil ?_
 refine nor_then (hK8 _ _ ?_)
 refine wp_ret ?_
 refine ret_then ?_
 obtain rfl := Option.some.inj hm
 exact post_ret Tryz.results51 hf (.cell rfl (run_loadVarN (n := 3) (vs := [int r3.Kind, str r3.Name, int r3.Port]) ag_98 sz_98 rfl ((hO.blkSees (i := 1) rfl).cells (o := 0) (n := 3) rfl)) (.tmp rfl .nil)) ⟨rfl, hO.below⟩
 have hm := ie hc7 hm
 refine wp_skip ?_
 refine nor_then (hK9 _ _ ?_)
 refine wp_seq_k fun _ hK36 => ?_
 refine wp_seq_k fun _ hK11 => ?_
 refine wp_region_list ?_
 refine op_mv hf rfl rfl fun a hf => ?_
 refine op_val (ex_len_s (l := x_s) Tryz.underlying9 hf rfl) rfl hf rfl rfl fun a hf => ?_
 obtain ⟨i10, hi10, hm⟩ := ob hm
 refine op_val (ex_sub hf rfl rfl hi10) rfl hf rfl rfl fun a hf => ?_
 refine op_as hf rfl rfl fun a hf => ?_
 refine wpList_nil ?_
 refine nor_then (hK11 _ _ ?_)
 refine wp_block ?_
 refine wp_loop_n (fun k a w => ∃ (i12 : Int), Fits 45 [(0, str x_s), (2, ptr b1 0), (4, ptr b4 0), (5, int i12)] a ∧ Dk.Own w0 [] w [.blk b4 [int r3.Kind, str r3.Name, int r3.Port] 98, .blk b1 [int 0, str [], int 0] 98] ∧ ref08_Parse_L1 x_s k i12 = some R) ?_ fuel ?_
 rintro n1 a w ⟨i12, hf, hO, hm⟩
 obtain _ | n1 := n1
 rw [ref08_Parse_L1] at hm
 cases hm
 rw [ref08_Parse_L1] at hm
 refine wp_seq_k fun _ hK15 => ?_
 refine wp_seq_k fun _ hK13 => ?_
 refine wp_region_list ?_
 refine op_mv hf rfl rfl fun a hf => ?_
 refine op_val (ex_geq (m := i12) (n := 0) hf rfl rfl) rfl hf rfl rfl fun a hf => ?_
 refine wpList_nil ?_
 refine nor_then (hK13 _ _ ?_)
 refine wp_cond_cut hf rfl (fun hc14 => ?_) (fun hc14 => ?_)
 have hm := it hc14 hm
 refine wp_skip ?_
 refine nor_then (hK15 _ _ ?_)
 refine wp_seq_k fun _ hK34 => ?_
 refine wp_block ?_
 refine wp_seq_k fun _ hK19 => ?_
 refine wp_seq_k fun _ hK17 => ?_
 refine wp_region_list ?_
 refine op_mv hf rfl rfl fun a hf => ?_
 refine op_mv hf rfl rfl fun a hf => ?_
 obtain ⟨b16, hb16, hm⟩ := ob hm
 refine op_val (ex_index (l := x_s) Tryz.underlying9 hf rfl rfl hb16) rfl hf rfl rfl fun a hf => ?_
 refine op_val (ex_neq_b (b := b16) (c := 58) hf rfl rfl) rfl hf rfl rfl fun a hf => ?_
 refine wpList_nil ?_
 refine nor_then (hK17 _ _ ?_)
 refine wp_cond_cut hf rfl (fun hc18 => ?_) (fun hc18 => ?_)
 have hm := it hc18 hm
 refine wp_exit ?_
 refine exit_then ?_
 refine exit_here ?_
 refine nor_then (hK34 _ _ ?_)
 refine wp_region_list ?_
 refine op_mv hf rfl rfl fun a hf => ?_
 obtain ⟨i35, hi35, hm⟩ := ob hm
 refine op_val (ex_sub hf rfl rfl hi35) rfl hf rfl rfl fun a hf => ?_
 refine op_as hf rfl rfl fun a hf => ?_
 refine wpList_nil ?_
 refine nor_then ?_
 exact ⟨_, Nat.lt_succ_self _, i35, (hf.cons rfl (hf.cons rfl (hf.cons rfl (hf.cons rfl hf.nil)))), hO, hm⟩
 have hm := ie hc18 hm
 refine wp_skip ?_
 refine nor_then (hK19 _ _ ?_)
 refine wp_seq_k fun _ hK22 => ?_
 refine wp_region_list ?_
 refine op_mv hf rfl rfl fun a hf => ?_
 refine op_mv hf rfl rfl fun a hf => ?_
 obtain ⟨s20, hs20, hm⟩ := ob hm
 refine op_val (ex_to_s (l := x_s) Tryz.underlying9 hf rfl rfl hs20) rfl hf rfl rfl fun a hf => ?_
 obtain ⟨r21, hr21, hm⟩ := ob hm
 refine op_enter (ex_call c_89 hf (vs := [str s20]) rfl) rfl hf rfl rfl (w_ref08_of s20 r21 _ (hG.own hF hO) hr21) ?_
 rintro e w' ⟨he, hb⟩
 refine ⟨_, he, fun a hf => ?_⟩
 have hO := hO.grow hb
 refine op_storeN (i := 0) (n := 3) sz_98 rfl rfl rfl (by simp [Value.oneCell']) hf rfl rfl hO fun w hO => ?_
 refine wpList_nil ?_
 refine nor_then (hK22 _ _ ?_)
 refine wp_seq_k fun _ hK26 => ?_
 refine wp_region_list ?_
 refine op_mv hf rfl rfl fun a hf => ?_
 refine op_mv hf rfl rfl fun a hf => ?_
 obtain ⟨i23, hi23, hm⟩ := ob hm
 refine op_val (ex_add hf rfl rfl hi23) rfl hf rfl rfl fun a hf => ?_
 obtain ⟨s24, hs24, hm⟩ := ob hm
 refine op_val (ex_from_s (l := x_s) Tryz.underlying9 hf rfl rfl hs24) rfl hf rfl rfl fun a hf => ?_
 obtain ⟨r25, hr25, hm⟩ := ob hm
 refine op_enter (ex_call c_73 hf (vs := [str s24, int 65535]) rfl) rfl hf rfl rfl (w_ref08_Small s24 65535 r25 _ (hG.own hF hO) hr25) ?_
 rintro e w' ⟨he, hb⟩
 refine ⟨_, he, fun a hf => ?_⟩
 have hO := hO.grow hb
 refine op_as hf rfl rfl fun a hf => ?_
 refine wpList_nil ?_
 refine nor_then (hK26 _ _ ?_)
 refine wp_seq_k fun _ hK31 => ?_
 refine wp_seq_cut (fun a w => ∃ (t28 : Bool), Fits 45 [(2, ptr b1 0), (4, ptr b4 0), (6, int r25), (39, .bool t28)] a ∧ Dk.Own w0 [] w [.blk b4 [int r21.Kind, str r21.Name, int r21.Port] 98, .blk b1 [int 0, str [], int 0] 98] ∧ ref08_Parse_j2 r21 r25 t28 = some R) ?_ ?_
 refine wp_region_list ?_
 refine op_val (ex_field fa_98_0 hf rfl) rfl hf rfl rfl fun a hf => ?_
 refine op_val (ex_load1 (o := 0) ag_96 (hO.blkSees (i := 0) rfl) rfl hf rfl) rfl hf rfl rfl fun a hf => ?_
 refine op_val (ex_eql (m := r21.Kind) (n := 0) hf rfl rfl) rfl hf rfl rfl fun a hf => ?_
 refine op_mv hf rfl rfl fun a hf => ?_
 rcases bcase (r21.Kind == 0) with hc27 | hc27
 have hm := it hc27 hm
 refine op_pass rfl hf rfl rfl (hc27) rfl rfl fun a hf => ?_
 refine op_pass rfl hf rfl rfl (hc27) rfl rfl fun a hf => ?_
 refine op_val (ex_pick_t hf rfl hc27 rfl) rfl hf rfl rfl fun a hf => ?_
 refine wpList_nil ?_
 refine nor_then ?_
 exact ⟨true, (hf.cons rfl (hf.cons rfl (hf.cons rfl (hf.cons rfl hf.nil)))), hO, hm⟩
 have hm := ie hc27 hm
 refine op_guard rfl hf rfl rfl (hc27) ?_
 refine op_mv hf rfl rfl fun a hf => ?_
 refine op_guard rfl hf rfl rfl (hc27) ?_
 refine op_val (ex_lss (m := r25) (n := 0) hf rfl rfl) rfl hf rfl rfl fun a hf => ?_
 refine op_val (ex_pick_f hf rfl hc27 rfl) rfl hf rfl rfl fun a hf => ?_
 refine wpList_nil ?_
 refine nor_then ?_
 exact ⟨decide (r25 < 0), (hf.cons rfl (hf.cons rfl (hf.cons rfl (hf.cons rfl hf.nil)))), hO, hm⟩
 rintro a w ⟨t28, hf, hO, hm⟩
 rw [ref08_Parse_j2] at hm
 refine wp_cond_cut hf rfl (fun hc29 => ?_) (fun hc29 => ?_)
 have hm := it hc29 hm
 refine wp_seq_k fun _ hK30 => ?_
 refine wp_region_list ?_
 refine op_val (ex_build (vs := []) (v := .agg #[int 0, str [], int 0]) hf rfl (by kernel_rfl)) rfl hf rfl rfl fun a hf => ?_
 refine op_storeN (i := 1) (n := 3) sz_98 rfl rfl rfl (by simp [Value.oneCell']) hf rfl rfl hO fun w hO => ?_
 refine op_as hf rfl rfl fun a hf => ?_
 refine wpList_nil ?_
 refine nor_then (hK30 _ _ ?_)
 refine wp_ret ?_
 refine ret_then ?_
 refine ret_block ?_
 refine ret_then ?_
 refine ret_then ?_
 refine ret_block ?_
 refine ret_then ?_
 obtain rfl := Option.some.inj hm
 exact post_ret Tryz.results51 hf (.cell rfl (run_loadVarN (n := 3) (vs := [int 0, str [], int 0]) ag_98 sz_98 rfl ((hO.blkSees (i := 1) rfl).cells (o := 0) (n := 3) rfl)) (.tmp rfl .nil)) ⟨rfl, hO.below⟩
 have hm := ie hc29 hm
 refine wp_skip ?_
 refine nor_then (hK31 _ _ ?_)
 refine wp_seq_k fun _ hK32 => ?_
 refine wp_region_list ?_
 refine op_mv hf rfl rfl fun a hf => ?_
 refine op_val (ex_field fa_98_2 hf rfl) rfl hf rfl rfl fun a hf => ?_
 refine op_store1 (i := 0) (o := 2) (v := int r25) sz_3 rfl rfl rfl rfl hf rfl rfl hO fun w hO => ?_
 refine wpList_nil ?_
 refine nor_then (hK32 _ _ ?_)
 refine wp_seq_k fun _ hK33 => ?_
 refine wp_region_list ?_
 refine op_val (ex_loadN (o := 0) (vs := [int r21.Kind, str r21.Name, int r25]) ag_98 sz_98 (hO.blkSees (i := 0) rfl) rfl rfl hf rfl) rfl hf rfl rfl fun a hf => ?_
 refine op_storeN (i := 1) (n := 3) sz_98 rfl rfl rfl (by simp [Value.oneCell']) hf rfl rfl hO fun w hO => ?_
 refine op_as hf rfl rfl fun a hf => ?_
 refine wpList_nil ?_
 refine nor_then (hK33 _ _ ?_)
 refine wp_ret ?_
 refine ret_block ?_
 refine ret_then ?_
 refine ret_then ?_
 refine ret_block ?_
 refine ret_then ?_
 obtain rfl := Option.some.inj hm
 exact post_ret Tryz.results51 hf (.cell rfl (run_loadVarN (n := 3) (vs := [int r21.Kind, str r21.Name, int r25]) ag_98 sz_98 rfl ((hO.blkSees (i := 1) rfl).cells (o := 0) (n := 3) rfl)) (.tmp rfl .nil)) ⟨rfl, hO.below⟩
 have hm := ie hc14 hm
 refine wp_exit ?_
 refine exit_then ?_
 refine exit_then ?_
 refine exit_here ?_
 refine nor_then (hK36 _ _ ?_)
 refine wp_seq_k fun _ hK37 => ?_
 refine wp_region_list ?_
 refine op_val (ex_build (vs := []) (v := .agg #[int 0, str [], int 0]) hf rfl (by kernel_rfl)) rfl hf rfl rfl fun a hf => ?_
 refine op_storeN (i := 1) (n := 3) sz_98 rfl rfl rfl (by simp [Value.oneCell']) hf rfl rfl hO fun w hO => ?_
 refine op_as hf rfl rfl fun a hf => ?_
 refine wpList_nil ?_
 refine nor_then (hK37 _ _ ?_)
 refine wp_ret ?_
 obtain rfl := Option.some.inj hm
 exact post_ret Tryz.results51 hf (.cell rfl (run_loadVarN (n := 3) (vs := [int 0, str [], int 0]) ag_98 sz_98 rfl ((hO.blkSees (i := 1) rfl).cells (o := 0) (n := 3) rfl)) (.tmp rfl .nil)) ⟨rfl, hO.below⟩
 exact ⟨i10, (hf.cons rfl (hf.cons rfl (hf.cons rfl (hf.cons rfl hf.nil)))), hO, hm⟩

set_option maxHeartbeats 1000000 in
theorem w_ref25_comma (x_s : Str) (R : Bool) (w0 : World) (hG : Glob w0) (hm : ref25_comma x_s = some R) :
    Calls Tryz.prog 52 #[str x_s] w0 fun e w' => e = .returned (.bool R) ∧ Below w0.heap.size w0 w' := by
 rw [ref25_comma] at hm
 refine calls_enter (vs := [str x_s]) Tryz.func52 rfl Tryz.ntmps52 rfl fun a hf => ?_
 have hF : Away [] := away_nil
 have hO : Dk.Own w0 [] w0 [] := Dk.Own.refl w0
 refine wp_seq_k fun _ hK1 => ?_
 refine wp_region_list ?_
 refine op_as hf rfl rfl fun a hf => ?_
 refine wpList_nil ?_
 refine nor_then (hK1 _ _ ?_)
 refine wp_seq_k fun _ hK17 => ?_
 refine wp_seq_k fun _ hK2 => ?_
 refine wp_region_list ?_
 refine op_as hf rfl rfl fun a hf => ?_
 refine wpList_nil ?_
 refine nor_then (hK2 _ _ ?_)
 refine wp_block ?_
 refine wp_loop_n (fun k a w => ∃ (i3 : Int), Fits 26 [(0, str x_s), (3, int i3)] a ∧ Dk.Own w0 [] w [] ∧ ref25_comma_L1 x_s k i3 = some R) ?_ fuel ?_
 rintro n1 a w ⟨i3, hf, hO, hm⟩
 obtain _ | n1 := n1
 rw [ref25_comma_L1] at hm
 cases hm
 rw [ref25_comma_L1] at hm
 refine wp_seq_k fun _ hK6 => ?_
 refine wp_seq_k fun _ hK4 => ?_
 refine wp_region_list ?_
 refine op_mv hf rfl rfl fun a hf => ?_
 refine op_mv hf rfl rfl fun a hf => ?_
 refine op_val (ex_len_s (l := x_s) Tryz.underlying9 hf rfl) rfl hf rfl rfl fun a hf => ?_
 refine op_val (ex_lss (m := i3) (n := (x_s.length : Int)) hf rfl rfl) rfl hf rfl rfl fun a hf => ?_
 refine wpList_nil ?_
 refine nor_then (hK4 _ _ ?_)
 refine wp_cond_cut hf rfl (fun hc5 => ?_) (fun hc5 => ?_)
 have hm := it hc5 hm
 refine wp_skip ?_
 refine nor_then (hK6 _ _ ?_)
 refine wp_seq_k fun _ hK15 => ?_
 refine wp_block ?_
 refine wp_seq_cut (fun a w => ∃ (t12 : Bool), Fits 26 [(0, str x_s), (3, int i3), (25, .bool t12)] a ∧ Dk.Own w0 [] w [] ∧ ref25_comma_j2 (ref25_comma_L1 x_s n1) i3 t12 = some R) ?_ ?_
 refine wp_region_list ?_
 refine op_mv hf rfl rfl fun a hf => ?_
 refine op_mv hf rfl rfl fun a hf => ?_
 obtain ⟨b7, hb7, hm⟩ := ob hm
 refine op_val (ex_index (l := x_s) Tryz.underlying9 hf rfl rfl hb7) rfl hf rfl rfl fun a hf => ?_
 refine op_val (ex_eql_b (b := b7) (c := 44) hf rfl rfl) rfl hf rfl rfl fun a hf => ?_
 refine op_mv hf rfl rfl fun a hf => ?_
 rcases bcase (b7 == 44) with hc8 | hc8
 have hm := it hc8 hm
 refine op_pass rfl hf rfl rfl (hc8) rfl rfl fun a hf => ?_
 refine op_pass rfl hf rfl rfl (hc8) rfl rfl fun a hf => ?_
 refine op_pass rfl hf rfl rfl (hc8) rfl rfl fun a hf => ?_
 refine op_pass rfl hf rfl rfl (hc8) rfl rfl fun a hf => ?_
 refine op_val (ex_pick_t hf rfl hc8 rfl) rfl hf rfl rfl fun a hf => ?_
 refine op_mv hf rfl rfl fun a hf => ?_
 refine op_pass rfl hf rfl rfl (rfl) rfl rfl fun a hf => ?_
 refine op_pass rfl hf rfl rfl (rfl) rfl rfl fun a hf => ?_
 refine op_pass rfl hf rfl rfl (rfl) rfl rfl fun a hf => ?_
 refine op_pass rfl hf rfl rfl (rfl) rfl rfl fun a hf => ?_
 refine op_val (ex_pick_t hf rfl rfl rfl) rfl hf rfl rfl fun a hf => ?_
 refine wpList_nil ?_
 refine nor_then ?_
 exact ⟨true, (hf.cons rfl (hf.cons rfl (hf.cons rfl hf.nil))), hO, hm⟩
 have hm := ie hc8 hm
 refine op_guard rfl hf rfl rfl (hc8) ?_
 refine op_mv hf rfl rfl fun a hf => ?_
 refine op_guard rfl hf rfl rfl (hc8) ?_
 refine op_mv hf rfl rfl fun a hf => ?_
 refine op_guard rfl hf rfl rfl (hc8) ?_
 obtain ⟨b9, hb9, hm⟩ := ob hm
 refine op_val (ex_index (l := x_s) Tryz.underlying9 hf rfl rfl hb9) rfl hf rfl rfl fun a hf => ?_
 refine op_guard rfl hf rfl rfl (hc8) ?_
 refine op_val (ex_eql_b (b := b9) (c := 40) hf rfl rfl) rfl hf rfl rfl fun a hf => ?_
 refine op_val (ex_pick_f hf rfl hc8 rfl) rfl hf rfl rfl fun a hf => ?_
 refine op_mv hf rfl rfl fun a hf => ?_
 rcases bcase (b9 == 40) with hc10 | hc10
 have hm := it hc10 hm
 refine op_pass rfl hf rfl rfl (hc10) rfl rfl fun a hf => ?_
 refine op_pass rfl hf rfl rfl (hc10) rfl rfl fun a hf => ?_
 refine op_pass rfl hf rfl rfl (hc10) rfl rfl fun a hf => ?_
 refine op_pass rfl hf rfl rfl (hc10) rfl rfl fun a hf => ?_
 refine op_val (ex_pick_t hf rfl hc10 rfl) rfl hf rfl rfl fun a hf => ?_
 refine wpList_nil ?_
 refine nor_then ?_
 exact ⟨true, (hf.cons rfl (hf.cons rfl (hf.cons rfl hf.nil))), hO, hm⟩
 have hm := ie hc10 hm
 refine op_guard rfl hf rfl rfl (hc10) ?_
 refine op_mv hf rfl rfl fun a hf => ?_
 refine op_guard rfl hf rfl rfl (hc10) ?_
 refine op_mv hf rfl rfl fun a hf => ?_
 refine op_guard rfl hf rfl rfl (hc10) ?_
 obtain ⟨b11, hb11, hm⟩ := ob hm
 refine op_val (ex_index (l := x_s) Tryz.underlying9 hf rfl rfl hb11) rfl hf rfl rfl fun a hf => ?_
 refine op_guard rfl hf rfl rfl (hc10) ?_
 refine op_val (ex_eql_b (b := b11) (c := 41) hf rfl rfl) rfl hf rfl rfl fun a hf => ?_
 refine op_val (ex_pick_f hf rfl hc10 rfl) rfl hf rfl rfl fun a hf => ?_
 refine wpList_nil ?_
 refine nor_then ?_
 exact ⟨b11 == 41, (hf.cons rfl (hf.cons rfl (hf.cons rfl hf.nil))), hO, hm⟩
 rintro a w ⟨t12, hf, hO, hm⟩
 rw [ref25_comma_j2] at hm
 refine wp_cond_cut hf rfl (fun hc13 => ?_) (fun hc13 => ?_)
 have hm := it hc13 hm
 refine wp_seq_k fun _ hK14 => ?_
 refine wp_region_list ?_
 refine op_as hf rfl rfl fun a hf => ?_
 refine wpList_nil ?_
 refine nor_then (hK14 _ _ ?_)
 refine wp_ret ?_
 refine ret_block ?_
 refine ret_then ?_
 refine ret_then ?_
 refine ret_block ?_
 refine ret_then ?_
 obtain rfl := Option.some.inj hm
 exact post_ret Tryz.results52 hf (.tmp rfl .nil) ⟨rfl, hO.below⟩
 have hm := ie hc13 hm
 refine wp_skip ?_
 refine nor_block ?_
 refine nor_then (hK15 _ _ ?_)
 refine wp_region_list ?_
 refine op_mv hf rfl rfl fun a hf => ?_
 obtain ⟨i16, hi16, hm⟩ := ob hm
 refine op_val (ex_add hf rfl rfl hi16) rfl hf rfl rfl fun a hf => ?_
 refine op_as hf rfl rfl fun a hf => ?_
 refine wpList_nil ?_
 refine nor_then ?_
 exact ⟨_, Nat.lt_succ_self _, i16, (hf.cons rfl (hf.cons rfl hf.nil)), hO, hm⟩
 have hm := ie hc5 hm
 refine wp_exit ?_
 refine exit_then ?_
 refine exit_then ?_
 refine exit_here ?_
 refine nor_then (hK17 _ _ ?_)
 refine wp_seq_k fun _ hK18 => ?_
 refine wp_region_list ?_
 refine op_as hf rfl rfl fun a hf => ?_
 refine wpList_nil ?_
 refine nor_then (hK18 _ _ ?_)
 refine wp_ret ?_
 obtain rfl := Option.some.inj hm
 exact post_ret Tryz.results52 hf (.tmp rfl .nil) ⟨rfl, hO.below⟩
 exact ⟨0, (hf.cons rfl (hf.cons rfl hf.nil)), hO, hm⟩

set_option maxHeartbeats 1000000 in
theorem w_ref25_Comment (x_s : Str) (R : Bool) (w0 : World) (hG : Glob w0) (hm : ref25_Comment x_s = some R) :
    Calls Tryz.prog 53 #[str x_s] w0 fun e w' => e = .returned (.bool R) ∧ Below w0.heap.size w0 w' := by
 rw [ref25_Comment] at hm
 refine calls_enter (vs := [str x_s]) Tryz.func53 rfl Tryz.ntmps53 rfl fun a hf => ?_
 have hF : Away [] := away_nil
 have hO : Dk.Own w0 [] w0 [] := Dk.Own.refl w0
 refine wp_seq_k fun _ hK1 => ?_
 refine wp_region_list ?_
 refine op_as hf rfl rfl fun a hf => ?_
 refine wpList_nil ?_
 refine nor_then (hK1 _ _ ?_)
 refine wp_seq_k fun _ hK2 => ?_
 refine wp_region_list ?_
 refine op_as hf rfl rfl fun a hf => ?_
 refine wpList_nil ?_
 refine nor_then (hK2 _ _ ?_)
 refine wp_seq_k fun _ hK44 => ?_
 refine wp_seq_k fun _ hK3 => ?_
 refine wp_region_list ?_
 refine op_as hf rfl rfl fun a hf => ?_
 refine wpList_nil ?_
 refine nor_then (hK3 _ _ ?_)
 refine wp_block ?_
 refine wp_loop_n (fun k a w => ∃ (i4 : Int) (i5 : Int), Fits 49 [(0, str x_s), (3, int i4), (4, int i5)] a ∧ Dk.Own w0 [] w [] ∧ ref25_Comment_L1 x_s k i4 i5 = some R) ?_ fuel ?_
 rintro n1 a w ⟨i4, i5, hf, hO, hm⟩
 obtain _ | n1 := n1
 rw [ref25_Comment_L1] at hm
 cases hm
 rw [ref25_Comment_L1] at hm
 refine wp_seq_k fun _ hK8 => ?_
 refine wp_seq_k fun _ hK6 => ?_
 refine wp_region_list ?_
 refine op_mv hf rfl rfl fun a hf => ?_
 refine op_mv hf rfl rfl fun a hf => ?_
 refine op_val (ex_len_s (l := x_s) Tryz.underlying9 hf rfl) rfl hf rfl rfl fun a hf => ?_
 refine op_val (ex_lss (m := i5) (n := (x_s.length : Int)) hf rfl rfl) rfl hf rfl rfl fun a hf => ?_
 refine wpList_nil ?_
 refine nor_then (hK6 _ _ ?_)
 refine wp_cond_cut hf rfl (fun hc7 => ?_) (fun hc7 => ?_)
 have hm := it hc7 hm
 refine wp_skip ?_
 refine nor_then (hK8 _ _ ?_)
 refine wp_seq_cut (fun a w => ∃ (i41 : Int) (i42 : Int), Fits 49 [(0, str x_s), (3, int i41), (4, int i42)] a ∧ Dk.Own w0 [] w [] ∧ ref25_Comment_j5 (ref25_Comment_L1 x_s n1) i41 i42 = some R) ?_ ?_
 refine wp_block ?_
 refine wp_seq_k fun _ hK14 => ?_
 refine wp_seq_k fun _ hK11 => ?_
 refine wp_region_list ?_
 refine op_mv hf rfl rfl fun a hf => ?_
 refine op_mv hf rfl rfl fun a hf => ?_
 obtain ⟨b9, hb9, hm⟩ := ob hm
 refine op_val (ex_index (l := x_s) Tryz.underlying9 hf rfl rfl hb9) rfl hf rfl rfl fun a hf => ?_
 obtain ⟨r10, hr10, hm⟩ := ob hm
 refine op_enter (ex_call c_90 hf (vs := [byte b9]) rfl) rfl hf rfl rfl (w_ref01_Value b9 r10 _ (hG.own hF hO) hr10) ?_
 rintro e w' ⟨he, hb⟩
 refine ⟨_, he, fun a hf => ?_⟩
 have hO := hO.grow hb
 refine op_val (ex_not hf rfl) rfl hf rfl rfl fun a hf => ?_
 refine wpList_nil ?_
 refine nor_then (hK11 _ _ ?_)
 refine wp_cond_cut hf rfl (fun hc12 => ?_) (fun hc12 => ?_)
 have hm := it hc12 hm
 refine wp_seq_k fun _ hK13 => ?_
 refine wp_region_list ?_
 refine op_as hf rfl rfl fun a hf => ?_
 refine wpList_nil ?_
 refine nor_then (hK13 _ _ ?_)
 refine wp_ret ?_
 refine ret_then ?_
 refine ret_block ?_
 refine ret_then ?_
 refine ret_then ?_
 refine ret_block ?_
 refine ret_then ?_
 obtain rfl := Option.some.inj hm
 exact post_ret Tryz.results53 hf (.tmp rfl .nil) ⟨rfl, hO.below⟩
 have hm := ie hc12 hm
 refine wp_skip ?_
 refine nor_then (hK14 _ _ ?_)
 refine wp_seq_k fun _ hK27 => ?_
 refine wp_seq_k fun _ hK16 => ?_
 refine wp_region_list ?_
 refine op_mv hf rfl rfl fun a hf => ?_
 refine op_mv hf rfl rfl fun a hf => ?_
 obtain ⟨b15, hb15, hm⟩ := ob hm
 refine op_val (ex_index (l := x_s) Tryz.underlying9 hf rfl rfl hb15) rfl hf rfl rfl fun a hf => ?_
 refine op_val (ex_eql_b (b := b15) (c := 92) hf rfl rfl) rfl hf rfl rfl fun a hf => ?_
 refine wpList_nil ?_
 refine nor_then (hK16 _ _ ?_)
 refine wp_cond_cut hf rfl (fun hc17 => ?_) (fun hc17 => ?_)
 have hm := it hc17 hm
 refine wp_seq_k fun _ hK19 => ?_
 refine wp_region_list ?_
 refine op_mv hf rfl rfl fun a hf => ?_
 obtain ⟨i18, hi18, hm⟩ := ob hm
 refine op_val (ex_add hf rfl rfl hi18) rfl hf rfl rfl fun a hf => ?_
 refine op_as hf rfl rfl fun a hf => ?_
 refine wpList_nil ?_
 refine nor_then (hK19 _ _ ?_)
 refine wp_seq_k fun _ hK26 => ?_
 refine wp_seq_cut (fun a w => ∃ (t23 : Bool), Fits 49 [(0, str x_s), (3, int i4), (4, int i18), (32, .bool t23)] a ∧ Dk.Own w0 [] w [] ∧ ref25_Comment_j2 (ref25_Comment_L1 x_s n1) i4 i18 t23 = some R) ?_ ?_
 refine wp_region_list ?_
 refine op_mv hf rfl rfl fun a hf => ?_
 refine op_mv hf rfl rfl fun a hf => ?_
 refine op_val (ex_len_s (l := x_s) Tryz.underlying9 hf rfl) rfl hf rfl rfl fun a hf => ?_
 refine op_val (ex_eql (m := i18) (n := (x_s.length : Int)) hf rfl rfl) rfl hf rfl rfl fun a hf => ?_
 refine op_mv hf rfl rfl fun a hf => ?_
 rcases bcase (i18 == (x_s.length : Int)) with hc20 | hc20
 have hm := it hc20 hm
 refine op_pass rfl hf rfl rfl (hc20) rfl rfl fun a hf => ?_
 refine op_pass rfl hf rfl rfl (hc20) rfl rfl fun a hf => ?_
 refine op_pass rfl hf rfl rfl (hc20) rfl rfl fun a hf => ?_
 refine op_pass rfl hf rfl rfl (hc20) rfl rfl fun a hf => ?_
 refine op_pass rfl hf rfl rfl (hc20) rfl rfl fun a hf => ?_
 refine op_val (ex_pick_t hf rfl hc20 rfl) rfl hf rfl rfl fun a hf => ?_
 refine wpList_nil ?_
 refine nor_then ?_
 exact ⟨true, (hf.cons rfl (hf.cons rfl (hf.cons rfl (hf.cons rfl hf.nil)))), hO, hm⟩
 have hm := ie hc20 hm
 refine op_guard rfl hf rfl rfl (hc20) ?_
 refine op_mv hf rfl rfl fun a hf => ?_
 refine op_guard rfl hf rfl rfl (hc20) ?_
 refine op_mv hf rfl rfl fun a hf => ?_
 refine op_guard rfl hf rfl rfl (hc20) ?_
 obtain ⟨b21, hb21, hm⟩ := ob hm
 refine op_val (ex_index (l := x_s) Tryz.underlying9 hf rfl rfl hb21) rfl hf rfl rfl fun a hf => ?_
 refine op_guard rfl hf rfl rfl (hc20) ?_
 obtain ⟨r22, hr22, hm⟩ := ob hm
 refine op_enter (ex_call c_90 hf (vs := [byte b21]) rfl) rfl hf rfl rfl (w_ref01_Value b21 r22 _ (hG.own hF hO) hr22) ?_
 rintro e w' ⟨he, hb⟩
 refine ⟨_, he, fun a hf => ?_⟩
 have hO := hO.grow hb
 refine op_guard rfl hf rfl rfl (hc20) ?_
 refine op_val (ex_not hf rfl) rfl hf rfl rfl fun a hf => ?_
 refine op_val (ex_pick_f hf rfl hc20 rfl) rfl hf rfl rfl fun a hf => ?_
 refine wpList_nil ?_
 refine nor_then ?_
 exact ⟨!r22, (hf.cons rfl (hf.cons rfl (hf.cons rfl (hf.cons rfl hf.nil)))), hO, hm⟩
 rintro a w ⟨t23, hf, hO, hm⟩
 rw [ref25_Comment_j2] at hm
 refine wp_cond_cut hf rfl (fun hc24 => ?_) (fun hc24 => ?_)
 have hm := it hc24 hm
 refine wp_seq_k fun _ hK25 => ?_
 refine wp_region_list ?_
 refine op_as hf rfl rfl fun a hf => ?_
 refine wpList_nil ?_
 refine nor_then (hK25 _ _ ?_)
 refine wp_ret ?_
 refine ret_then ?_
 refine ret_then ?_
 refine ret_block ?_
 refine ret_then ?_
 refine ret_then ?_
 refine ret_block ?_
 refine ret_then ?_
 obtain rfl := Option.some.inj hm
 exact post_ret Tryz.results53 hf (.tmp rfl .nil) ⟨rfl, hO.below⟩
 have hm := ie hc24 hm
 refine wp_skip ?_
 refine nor_then (hK26 _ _ ?_)
 refine wp_exit ?_
 refine exit_then ?_
 refine exit_here ?_
 refine nor_then ?_
 exact ⟨i4, i18, (hf.cons rfl (hf.cons rfl (hf.cons rfl hf.nil))), hO, hm⟩
 have hm := ie hc17 hm
 refine wp_skip ?_
 refine nor_then (hK27 _ _ ?_)
 refine wp_seq_cut (fun a w => ∃ (i32 : Int), Fits 49 [(0, str x_s), (3, int i32), (4, int i5)] a ∧ Dk.Own w0 [] w [] ∧ ref25_Comment_j3 (ref25_Comment_L1 x_s n1) x_s i5 i32 = some R) ?_ ?_
 refine wp_seq_k fun _ hK29 => ?_
 refine wp_region_list ?_
 refine op_mv hf rfl rfl fun a hf => ?_
 refine op_mv hf rfl rfl fun a hf => ?_
 obtain ⟨b28, hb28, hm⟩ := ob hm
 refine op_val (ex_index (l := x_s) Tryz.underlying9 hf rfl rfl hb28) rfl hf rfl rfl fun a hf => ?_
 refine op_val (ex_eql_b (b := b28) (c := 40) hf rfl rfl) rfl hf rfl rfl fun a hf => ?_
 refine wpList_nil ?_
 refine nor_then (hK29 _ _ ?_)
 refine wp_cond_cut hf rfl (fun hc30 => ?_) (fun hc30 => ?_)
 have hm := it hc30 hm
 refine wp_region_list ?_
 refine op_mv hf rfl rfl fun a hf => ?_
 obtain ⟨i31, hi31, hm⟩ := ob hm
 refine op_val (ex_add hf rfl rfl hi31) rfl hf rfl rfl fun a hf => ?_
 refine op_as hf rfl rfl fun a hf => ?_
 refine wpList_nil ?_
 refine nor_then ?_
 exact ⟨i31, (hf.cons rfl (hf.cons rfl (hf.cons rfl hf.nil))), hO, hm⟩
 have hm := ie hc30 hm
 refine wp_skip ?_
 refine nor_then ?_
 exact ⟨i4, (hf.cons rfl (hf.cons rfl (hf.cons rfl hf.nil))), hO, hm⟩
 rintro a w ⟨i32, hf, hO, hm⟩
 rw [ref25_Comment_j3] at hm
 refine wp_seq_cut (fun a w => ∃ (i37 : Int), Fits 49 [(0, str x_s), (3, int i37), (4, int i5)] a ∧ Dk.Own w0 [] w [] ∧ ref25_Comment_j4 (ref25_Comment_L1 x_s n1) i5 i37 = some R) ?_ ?_
 refine wp_seq_k fun _ hK34 => ?_
 refine wp_region_list ?_
 refine op_mv hf rfl rfl fun a hf => ?_
 refine op_mv hf rfl rfl fun a hf => ?_
 obtain ⟨b33, hb33, hm⟩ := ob hm
 refine op_val (ex_index (l := x_s) Tryz.underlying9 hf rfl rfl hb33) rfl hf rfl rfl fun a hf => ?_
 refine op_val (ex_eql_b (b := b33) (c := 41) hf rfl rfl) rfl hf rfl rfl fun a hf => ?_
 refine wpList_nil ?_
 refine nor_then (hK34 _ _ ?_)
 refine wp_cond_cut hf rfl (fun hc35 => ?_) (fun hc35 => ?_)
 have hm := it hc35 hm
 refine wp_region_list ?_
 refine op_mv hf rfl rfl fun a hf => ?_
 obtain ⟨i36, hi36, hm⟩ := ob hm
 refine op_val (ex_sub hf rfl rfl hi36) rfl hf rfl rfl fun a hf => ?_
 refine op_as hf rfl rfl fun a hf => ?_
 refine wpList_nil ?_
 refine nor_then ?_
 exact ⟨i36, (hf.cons rfl (hf.cons rfl (hf.cons rfl hf.nil))), hO, hm⟩
 have hm := ie hc35 hm
 refine wp_skip ?_
 refine nor_then ?_
 exact ⟨i32, (hf.cons rfl (hf.cons rfl (hf.cons rfl hf.nil))), hO, hm⟩
 rintro a w ⟨i37, hf, hO, hm⟩
 rw [ref25_Comment_j4] at hm
 refine wp_seq_k fun _ hK38 => ?_
 refine wp_region_list ?_
 refine op_mv hf rfl rfl fun a hf => ?_
 refine op_val (ex_lss (m := i37) (n := 0) hf rfl rfl) rfl hf rfl rfl fun a hf => ?_
 refine wpList_nil ?_
 refine nor_then (hK38 _ _ ?_)
 refine wp_cond_cut hf rfl (fun hc39 => ?_) (fun hc39 => ?_)
 have hm := it hc39 hm
 refine wp_seq_k fun _ hK40 => ?_
 refine wp_region_list ?_
 refine op_as hf rfl rfl fun a hf => ?_
 refine wpList_nil ?_
 refine nor_then (hK40 _ _ ?_)
 refine wp_ret ?_
 refine ret_block ?_
 refine ret_then ?_
 refine ret_then ?_
 refine ret_block ?_
 refine ret_then ?_
 obtain rfl := Option.some.inj hm
 exact post_ret Tryz.results53 hf (.tmp rfl .nil) ⟨rfl, hO.below⟩
 have hm := ie hc39 hm
 refine wp_skip ?_
 refine nor_block ?_
 refine nor_then ?_
 exact ⟨i37, i5, (hf.cons rfl (hf.cons rfl (hf.cons rfl hf.nil))), hO, hm⟩
 rintro a w ⟨i41, i42, hf, hO, hm⟩
 rw [ref25_Comment_j5] at hm
 refine wp_region_list ?_
 refine op_mv hf rfl rfl fun a hf => ?_
 obtain ⟨i43, hi43, hm⟩ := ob hm
 refine op_val (ex_add hf rfl rfl hi43) rfl hf rfl rfl fun a hf => ?_
 refine op_as hf rfl rfl fun a hf => ?_
 refine wpList_nil ?_
 refine nor_then ?_
 exact ⟨_, Nat.lt_succ_self _, i41, i43, (hf.cons rfl (hf.cons rfl (hf.cons rfl hf.nil))), hO, hm⟩
 have hm := ie hc7 hm
 refine wp_exit ?_
 refine exit_then ?_
 refine exit_then ?_
 refine exit_here ?_
 refine nor_then (hK44 _ _ ?_)
 refine wp_seq_k fun _ hK45 => ?_
 refine wp_region_list ?_
 refine op_mv hf rfl rfl fun a hf => ?_
 refine op_val (ex_eql (m := i4) (n := 0) hf rfl rfl) rfl hf rfl rfl fun a hf => ?_
 refine op_as hf rfl rfl fun a hf => ?_
 refine wpList_nil ?_
 refine nor_then (hK45 _ _ ?_)
 refine wp_ret ?_
 obtain rfl := Option.some.inj hm
 exact post_ret Tryz.results53 hf (.tmp rfl .nil) ⟨rfl, hO.below⟩
 exact ⟨0, 0, (hf.cons rfl (hf.cons rfl (hf.cons rfl hf.nil))), hO, hm⟩

set_option maxHeartbeats 1000000 in
theorem w_ref25_Parse (x_a0 : Str) (R : api_Via × Int) (w0 : World) (hG : Glob w0) (hm : ref25_Parse x_a0 = some R) :
    Calls Tryz.prog 19 #[str x_a0] w0 fun e w' => e = .returned (.tuple #[.agg #[str R.1.Proto, str R.1.Version, str R.1.By, str R.1.Comment], int R.2]) ∧ Below w0.heap.size w0 w' := by
 rw [ref25_Parse] at hm
 refine calls_enter (vs := [str x_a0]) Tryz.func19 rfl Tryz.ntmps19 rfl fun a hf => ?_
 have hF : Away [] := away_nil
 have hO : Dk.Own w0 [] w0 [] := Dk.Own.refl w0
 refine wp_seq_k fun _ hK2 => ?_
 refine wp_region_list ?_
 refine op_alloc al_40 hf rfl hO fun a b1 w hf hO => ?_
 refine op_as hf rfl rfl fun a hf => ?_
 refine wpList_nil ?_
 refine nor_then (hK2 _ _ ?_)
 refine wp_seq_k fun _ hK3 => ?_
 refine wp_region_list ?_
 refine op_as hf rfl rfl fun a hf => ?_
 refine wpList_nil ?_
 refine nor_then (hK3 _ _ ?_)
 refine wp_seq_k fun _ hK11 => ?_
 refine wp_block ?_
 refine wp_loop_n (fun k a w => ∃ (i4 : Int), Fits 149 [(0, str x_a0), (2, ptr b1 0), (4, int i4)] a ∧ Dk.Own w0 [] w [.blk b1 [str [], str [], str [], str []] 40] ∧ ref25_Parse_L1 x_a0 k i4 = some R) ?_ fuel ?_
 rintro n1 a w ⟨i4, hf, hO, hm⟩
 obtain _ | n1 := n1
 rw [ref25_Parse_L1] at hm
 cases hm
 rw [ref25_Parse_L1] at hm
 refine wp_seq_k fun _ hK9 => ?_
 refine wp_seq_cut (fun a w => ∃ (t7 : Bool), Fits 149 [(0, str x_a0), (2, ptr b1 0), (4, int i4), (21, .bool t7)] a ∧ Dk.Own w0 [] w [.blk b1 [str [], str [], str [], str []] 40] ∧ ref25_Parse_j2 (ref25_Parse_L1 x_a0 n1) x_a0 i4 t7 = some R) ?_ ?_
 refine wp_region_list ?_
 refine op_mv hf rfl rfl fun a hf => ?_
 refine op_mv hf rfl rfl fun a hf => ?_
 refine op_val (ex_len_s (l := x_a0) Tryz.underlying9 hf rfl) rfl hf rfl rfl fun a hf => ?_
 refine op_val (ex_lss (m := i4) (n := (x_a0.length : Int)) hf rfl rfl) rfl hf rfl rfl fun a hf => ?_
 refine op_mv hf rfl rfl fun a hf => ?_
 rcases bcase (decide (i4 < (x_a0.length : Int))) with hc5 | hc5
 have hm := it hc5 hm
 refine op_guard rfl hf rfl rfl (hc5) ?_
 refine op_mv hf rfl rfl fun a hf => ?_
 refine op_guard rfl hf rfl rfl (hc5) ?_
 refine op_mv hf rfl rfl fun a hf => ?_
 refine op_guard rfl hf rfl rfl (hc5) ?_
 obtain ⟨b6, hb6, hm⟩ := ob hm
 refine op_val (ex_index (l := x_a0) Tryz.underlying9 hf rfl rfl hb6) rfl hf rfl rfl fun a hf => ?_
 refine op_guard rfl hf rfl rfl (hc5) ?_
 refine op_val (ex_neq_b (b := b6) (c := 32) hf rfl rfl) rfl hf rfl rfl fun a hf => ?_
 refine op_val (ex_pick_t hf rfl hc5 rfl) rfl hf rfl rfl fun a hf => ?_
 refine wpList_nil ?_
 refine nor_then ?_
 exact ⟨!(b6 == 32), (hf.cons rfl (hf.cons rfl (hf.cons rfl (hf.cons rfl hf.nil)))), hO, hm⟩
 have hm := ie hc5 hm
 refine op_pass rfl hf rfl rfl (hc5) rfl rfl fun a hf => ?_
 refine op_pass rfl hf rfl rfl (hc5) rfl rfl fun a hf => ?_
 refine op_pass rfl hf rfl rfl (hc5) rfl rfl fun a hf => ?_
 refine op_pass rfl hf rfl rfl (hc5) rfl rfl fun a hf => ?_
 refine op_val (ex_pick_f hf rfl hc5 rfl) rfl hf rfl rfl fun a hf => ?_
 refine wpList_nil ?_
 refine nor_then ?_
 exact ⟨false, (hf.cons rfl (hf.cons rfl (hf.cons rfl (hf.cons rfl hf.nil)))), hO, hm⟩
 rintro a w ⟨t7, hf, hO, hm⟩
 rw [ref25_Parse_j2] at hm
 refine wp_cond_cut hf rfl (fun hc8 => ?_) (fun hc8 => ?_)
 have hm := it hc8 hm
 refine wp_skip ?_
 refine nor_then (hK9 _ _ ?_)
 refine wp_block ?_
 refine wp_region_list ?_
 refine op_mv hf rfl rfl fun a hf => ?_
 obtain ⟨i10, hi10, hm⟩ := ob hm
 refine op_val (ex_add hf rfl rfl hi10) rfl hf rfl rfl fun a hf => ?_
 refine op_as hf rfl rfl fun a hf => ?_
 refine wpList_nil ?_
 refine nor_block ?_
 refine nor_then ?_
 exact ⟨_, Nat.lt_succ_self _, i10, (hf.cons rfl (hf.cons rfl (hf.cons rfl hf.nil))), hO, hm⟩
 have hm := ie hc8 hm
 refine wp_exit ?_
 refine exit_then ?_
 refine exit_then ?_
 refine exit_here ?_
 refine nor_then (hK11 _ _ ?_)
 refine wp_seq_k fun _ hK15 => ?_
 refine wp_seq_k fun _ hK12 => ?_
 refine wp_region_list ?_
 refine op_mv hf rfl rfl fun a hf => ?_
 refine op_mv hf rfl rfl fun a hf => ?_
 refine op_val (ex_len_s (l := x_a0) Tryz.underlying9 hf rfl) rfl hf rfl rfl fun a hf => ?_
 refine op_val (ex_eql (m := i4) (n := (x_a0.length : Int)) hf rfl rfl) rfl hf rfl rfl fun a hf => ?_
 refine wpList_nil ?_
 refine nor_then (hK12 _ _ ?_)
 refine wp_cond_cut hf rfl (fun hc13 => ?_) (fun hc13 => ?_)
 have hm := it hc13 hm
 refine wp_seq_k fun _ hK14 => ?_
 refine wp_region_list ?_
 refine op_val (ex_build (vs := []) (v := .agg #[str [], str [], str [], str []]) hf rfl (by kernel_rfl)) rfl hf rfl rfl fun a hf => ?_
 refine op_storeN (i := 0) (n := 4) sz_40 rfl rfl rfl (by simp [Value.oneCell']) hf rfl rfl hO fun w hO => ?_
 refine op_as hf rfl rfl fun a hf => ?_
 refine wpList_nil ?_
 refine nor_then (hK14 _ _ ?_)
 refine wp_ret ?_
 refine ret_then ?_
 obtain rfl := Option.some.inj hm
 exact post_ret Tryz.results19 hf (.cell rfl (run_loadVarN (n := 4) (vs := [str [], str [], str [], str []]) ag_40 sz_40 rfl ((hO.blkSees (i := 0) rfl).cells (o := 0) (n := 4) rfl)) (.tmp rfl .nil)) ⟨rfl, hO.below⟩
 have hm := ie hc13 hm
 refine wp_skip ?_
 refine nor_then (hK15 _ _ ?_)
 refine wp_seq_k fun _ hK17 => ?_
 refine wp_region_list ?_
 refine op_mv hf rfl rfl fun a hf => ?_
 obtain ⟨i16, hi16, hm⟩ := ob hm
 refine op_val (ex_add hf rfl rfl hi16) rfl hf rfl rfl fun a hf => ?_
 refine op_as hf rfl rfl fun a hf => ?_
 refine wpList_nil ?_
 refine nor_then (hK17 _ _ ?_)
 refine wp_seq_k fun _ hK25 => ?_
 refine wp_block ?_
 refine wp_loop_n (fun k a w => ∃ (i18 : Int), Fits 149 [(0, str x_a0), (2, ptr b1 0), (4, int i4), (5, int i18)] a ∧ Dk.Own w0 [] w [.blk b1 [str [], str [], str [], str []] 40] ∧ ref25_Parse_L3 x_a0 i4 k i18 = some R) ?_ fuel ?_
 rintro n3 a w ⟨i18, hf, hO, hm⟩
 obtain _ | n3 := n3
 rw [ref25_Parse_L3] at hm
 cases hm
 rw [ref25_Parse_L3] at hm
 refine wp_seq_k fun _ hK23 => ?_
 refine wp_seq_cut (fun a w => ∃ (t21 : Bool), Fits 149 [(0, str x_a0), (2, ptr b1 0), (4, int i4), (5, int i18), (40, .bool t21)] a ∧ Dk.Own w0 [] w [.blk b1 [str [], str [], str [], str []] 40] ∧ ref25_Parse_j4 (ref25_Parse_L3 x_a0 i4 n3) x_a0 i4 i18 t21 = some R) ?_ ?_
 refine wp_region_list ?_
 refine op_mv hf rfl rfl fun a hf => ?_
 refine op_mv hf rfl rfl fun a hf => ?_
 refine op_val (ex_len_s (l := x_a0) Tryz.underlying9 hf rfl) rfl hf rfl rfl fun a hf => ?_
 refine op_val (ex_lss (m := i18) (n := (x_a0.length : Int)) hf rfl rfl) rfl hf rfl rfl fun a hf => ?_
 refine op_mv hf rfl rfl fun a hf => ?_
 rcases bcase (decide (i18 < (x_a0.length : Int))) with hc19 | hc19
 have hm := it hc19 hm
 refine op_guard rfl hf rfl rfl (hc19) ?_
 refine op_mv hf rfl rfl fun a hf => ?_
 refine op_guard rfl hf rfl rfl (hc19) ?_
 refine op_mv hf rfl rfl fun a hf => ?_
 refine op_guard rfl hf rfl rfl (hc19) ?_
 obtain ⟨b20, hb20, hm⟩ := ob hm
 refine op_val (ex_index (l := x_a0) Tryz.underlying9 hf rfl rfl hb20) rfl hf rfl rfl fun a hf => ?_
 refine op_guard rfl hf rfl rfl (hc19) ?_
 refine op_val (ex_neq_b (b := b20) (c := 32) hf rfl rfl) rfl hf rfl rfl fun a hf => ?_
 refine op_val (ex_pick_t hf rfl hc19 rfl) rfl hf rfl rfl fun a hf => ?_
 refine wpList_nil ?_
 refine nor_then ?_
 exact ⟨!(b20 == 32), (hf.cons rfl (hf.cons rfl (hf.cons rfl (hf.cons rfl (hf.cons rfl hf.nil))))), hO, hm⟩
 have hm := ie hc19 hm
 refine op_pass rfl hf rfl rfl (hc19) rfl rfl fun a hf => ?_
 refine op_pass rfl hf rfl rfl (hc19) rfl rfl fun a hf => ?_
 refine op_pass rfl hf rfl rfl (hc19) rfl rfl fun a hf => ?_
 refine op_pass rfl hf rfl rfl (hc19) rfl rfl fun a hf => ?_
 refine op_val (ex_pick_f hf rfl hc19 rfl) rfl hf rfl rfl fun a hf => ?_
 refine wpList_nil ?_
 refine nor_then ?_
 exact ⟨false, (hf.cons rfl (hf.cons rfl (hf.cons rfl (hf.cons rfl (hf.cons rfl hf.nil))))), hO, hm⟩
 rintro a w ⟨t21, hf, hO, hm⟩
 rw [ref25_Parse_j4] at hm
 refine wp_cond_cut hf rfl (fun hc22 => ?_) (fun hc22 => ?_)
 have hm := it hc22 hm
 refine wp_skip ?_
 refine nor_then (hK23 _ _ ?_)
 refine wp_block ?_
 refine wp_region_list ?_
 refine op_mv hf rfl rfl fun a hf => ?_
 obtain ⟨i24, hi24, hm⟩ := ob hm
 refine op_val (ex_add hf rfl rfl hi24) rfl hf rfl rfl fun a hf => ?_
 refine op_as hf rfl rfl fun a hf => ?_
 refine wpList_nil ?_
 refine nor_block ?_
 refine nor_then ?_
 exact ⟨_, Nat.lt_succ_self _, i24, (hf.cons rfl (hf.cons rfl (hf.cons rfl (hf.cons rfl hf.nil)))), hO, hm⟩
 have hm := ie hc22 hm
 refine wp_exit ?_
 refine exit_then ?_
 refine exit_then ?_
 refine exit_here ?_
 refine nor_then (hK25 _ _ ?_)
 refine wp_seq_k fun _ hK30 => ?_
 obtain ⟨s26, hs26, hm⟩ := ob hm
 obtain ⟨i27, hi27, hm⟩ := ob hm
 obtain ⟨s28, hs28, hm⟩ := ob hm
 refine wp_drawS' (S := Nat) (E0 := [(0, str x_a0), (2, ptr b1 0), (4, int i4), (5, int i18)]) (by kernel_rfl) (fun k σ w => match k with | 0 => Dk.Own w0 [] w [.blk b1 [str [], str [], str [], str []] 40] | 1 => Dk.Own w0 [] w [.blk σ [str [], str [], str [], str []] 40, .blk b1 [str [], str [], str [], str []] 40] | _ => Dk.Own w0 [] w [.blk σ [str [], str s26, str s28, str []] 40, .blk b1 [str [], str [], str [], str []] 40]) (fun σ => [⟨[(0, str x_a0)], some (43, str x_a0)⟩, ⟨[(4, int i4)], some (44, int i4)⟩, ⟨[(43, str x_a0), (44, int i4)], some (45, str s26)⟩, ⟨[(0, str x_a0)], some (46, str x_a0)⟩, ⟨[(4, int i4)], some (47, int i4)⟩, ⟨[(47, int i4)], some (48, int i27)⟩, ⟨[(5, int i18)], some (49, int i18)⟩, ⟨[(46, str x_a0), (48, int i27), (49, int i18)], some (50, str s28)⟩, ⟨[(45, str s26), (50, str s28)], some (51, .agg #[str [], str s26, str s28, str []])⟩, ⟨[], some (6, ptr σ 0)⟩, ⟨[(6, ptr σ 0), (51, .agg #[str [], str s26, str s28, str []])], none⟩]) (0) [9, 10] rfl (fun _ => rfl) (fun _ => rfl) (fun _ => rfl) rfl rfl (by decide) rfl hO.drew (hf.cons rfl (hf.cons rfl (hf.cons rfl (hf.cons rfl hf.nil)))) (fun σ => ⟨⟨rfl, trivial⟩, ⟨rfl, trivial⟩, ⟨rfl, rfl, trivial⟩, ⟨rfl, trivial⟩, ⟨rfl, trivial⟩, ⟨rfl, trivial⟩, ⟨rfl, trivial⟩, ⟨rfl, rfl, rfl, trivial⟩, ⟨rfl, rfl, trivial⟩, trivial, ⟨rfl, rfl, trivial⟩, trivial⟩) ⟨sS_pure rfl (fun σ => rfl) (fun σ => rfl) (fun σ a w k _ _ _ _ hf => ex_move hf rfl), sS_pure rfl (fun σ => rfl) (fun σ => rfl) (fun σ a w k _ _ _ _ hf => ex_move hf rfl), sS_pure rfl (fun σ => rfl) (fun σ => rfl) (fun σ a w k _ _ _ _ hf => ex_to_s (l := x_a0) Tryz.underlying9 hf rfl rfl hs26), sS_pure rfl (fun σ => rfl) (fun σ => rfl) (fun σ a w k _ _ _ _ hf => ex_move hf rfl), sS_pure rfl (fun σ => rfl) (fun σ => rfl) (fun σ a w k _ _ _ _ hf => ex_move hf rfl), sS_pure rfl (fun σ => rfl) (fun σ => rfl) (fun σ a w k _ _ _ _ hf => ex_add hf rfl rfl hi27), sS_pure rfl (fun σ => rfl) (fun σ => rfl) (fun σ a w k _ _ _ _ hf => ex_move hf rfl), sS_pure rfl (fun σ => rfl) (fun σ => rfl) (fun σ a w k _ _ _ _ hf => ex_sub_s (l := x_a0) Tryz.underlying9 hf rfl rfl rfl hs28), sS_pure rfl (fun σ => rfl) (fun σ => rfl) (fun σ a w k _ _ _ _ hf => ex_build (vs := [(1, str s26), (2, str s28)]) (v := .agg #[str [], str s26, str s28, str []]) hf rfl (by kernel_rfl)), sS_val rfl (fun σ => rfl) (fun σ => rfl) rfl (fun σ w (hO : Dk.Own w0 [] w _) => by obtain ⟨b29, w', hO', hr⟩ := ef_alloc (E := []) al_40 hO; exact ⟨(b29), w', hO', ⟨.inr rfl, .inr rfl, .inr rfl, .inr rfl, .inr rfl, .inr rfl, .inr rfl, .inr rfl, .inr rfl, .inl rfl, .inl rfl, trivial⟩, hr⟩), sS_skip rfl (fun σ => rfl) (fun σ => rfl) rfl (fun σ w (hO : Dk.Own w0 [] w _) => by obtain ⟨w', hO', hr⟩ := ef_storeN (x := (.tmp 6)) (y := (.tmp 51)) (E := [(6, ptr σ 0), (51, .agg #[str [], str s26, str s28, str []])]) (i := 0) (n := 4) (vs := [str [], str s26, str s28, str []]) sz_40 rfl rfl rfl (by simp [Value.oneCell']) hO rfl rfl; exact ⟨(σ), w', hO', ⟨.inr rfl, .inr rfl, .inr rfl, .inr rfl, .inr rfl, .inr rfl, .inr rfl, .inr rfl, .inr rfl, .inr rfl, .inr rfl, trivial⟩, hr⟩), trivial⟩ ?_
 rintro b29 a w hf hO
 have hO : Dk.Own w0 [] w _ := hO
 have hf : Fits 149 [(0, str x_a0), (2, ptr b1 0), (4, int i4), (5, int i18), (6, ptr b29 0)] a := (hf.cons rfl (hf.cons rfl (hf.cons rfl (hf.cons rfl (hf.cons rfl hf.nil)))))
 refine nor_then (hK30 _ _ ?_)
 refine wp_seq_k fun _ hK35 => ?_
 refine wp_region_list ?_
 refine op_mv hf rfl rfl fun a hf => ?_
 refine op_mv hf rfl rfl fun a hf => ?_
 obtain ⟨s31, hs31, hm⟩ := ob hm
 refine op_val (ex_to_s (l := x_a0) Tryz.underlying9 hf rfl rfl hs31) rfl hf rfl rfl fun a hf => ?_
 obtain ⟨r32, hr32, hm⟩ := ob hm
 refine op_enter (ex_call c_50 hf (vs := [str s31, byte 47]) rfl) rfl hf rfl rfl (w_ref08_Parts s31 47 r32 _ (hG.own hF hO) hr32) ?_
 rintro e w' ⟨p33, c34, he, hO'⟩
 refine ⟨_, he, fun a hf => ?_⟩
 have hO := hO.call hO' (by simp [Res.shared])
 refine op_as hf rfl rfl fun a hf => ?_
 refine wpList_nil ?_
 refine nor_then (hK35 _ _ ?_)
 refine wp_seq_cut (fun a w => ∃ (s45 : Str) (s46 : Str), Fits 149 [(0, str x_a0), (2, ptr b1 0), (5, int i18), (6, ptr b29 0), (7, .slice p33 r32.length c34)] a ∧ Dk.Own w0 [] w [.row (.slice p33 r32.length c34) 9 1 r32.length (cells enc_str r32), .blk b29 [str s45, str s46, str s28, str []] 40, .blk b1 [str [], str [], str [], str []] 40] ∧ ref25_Parse_j5 x_a0 i18 s28 r32 s45 s46 = some R) ?_ ?_
 refine wp_seq_k fun _ hK36 => ?_
 refine wp_region_list ?_
 refine op_mv hf rfl rfl fun a hf => ?_
 refine op_val (ex_len_l Tryz.underlying50 hf rfl) rfl hf rfl rfl fun a hf => ?_
 refine op_val (ex_eql (m := (r32.length : Int)) (n := 2) hf rfl rfl) rfl hf rfl rfl fun a hf => ?_
 refine wpList_nil ?_
 refine nor_then (hK36 _ _ ?_)
 refine wp_cond_cut hf rfl (fun hc37 => ?_) (fun hc37 => ?_)
 have hm := it hc37 hm
 refine wp_seq_k fun _ hK41 => ?_
 refine wp_region_list ?_
 refine op_mv hf rfl rfl fun a hf => ?_
 obtain ⟨x38, hx38, hm⟩ := ob hm
 obtain ⟨b39, o40, hix38, hSx38, hAx38⟩ := elemAtRow (enc := enc_str) (sz := 1) (xs := r32) 50 Tryz.underlying50 sz_9 (by decide) (fun _ => rfl) hO (i := 0) rfl hx38
 refine op_val (ex_indexAddr hix38 hf rfl rfl) rfl hf rfl rfl fun a hf => ?_
 refine op_val (ex_load1 (o := 0) ag_9 (hSx38 _ (hO.rowSees (i := 0) rfl)) rfl hf rfl) rfl hf rfl rfl fun a hf => ?_
 refine op_val (ex_field fa_40_0 hf rfl) rfl hf rfl rfl fun a hf => ?_
 refine op_store1 (i := 1) (o := 0) (v := str x38) sz_9 rfl rfl rfl rfl hf rfl rfl hO fun w hO => ?_
 refine wpList_nil ?_
 refine nor_then (hK41 _ _ ?_)
 refine wp_region_list ?_
 refine op_mv hf rfl rfl fun a hf => ?_
 obtain ⟨x42, hx42, hm⟩ := ob hm
 obtain ⟨b43, o44, hix42, hSx42, hAx42⟩ := elemAtRow (enc := enc_str) (sz := 1) (xs := r32) 50 Tryz.underlying50 sz_9 (by decide) (fun _ => rfl) hO (i := 0) rfl hx42
 refine op_val (ex_indexAddr hix42 hf rfl rfl) rfl hf rfl rfl fun a hf => ?_
 refine op_val (ex_load1 (o := 0) ag_9 (hSx42 _ (hO.rowSees (i := 0) rfl)) rfl hf rfl) rfl hf rfl rfl fun a hf => ?_
 refine op_val (ex_field fa_40_1 hf rfl) rfl hf rfl rfl fun a hf => ?_
 refine op_store1 (i := 1) (o := 1) (v := str x42) sz_9 rfl rfl rfl rfl hf rfl rfl hO fun w hO => ?_
 refine wpList_nil ?_
 refine nor_then ?_
 exact ⟨x38, x42, (hf.cons rfl (hf.cons rfl (hf.cons rfl (hf.cons rfl (hf.cons rfl hf.nil))))), hO, hm⟩
 have hm := ie hc37 hm
 refine wp_skip ?_
 refine nor_then ?_
 exact ⟨[], s26, (hf.cons rfl (hf.cons rfl (hf.cons rfl (hf.cons rfl (hf.cons rfl hf.nil))))), hO, hm⟩
 rintro a w ⟨s45, s46, hf, hO, hm⟩
 rw [ref25_Parse_j5] at hm
 refine wp_seq_k fun _ hK49 => ?_
 refine wp_region_list ?_
 refine op_val (ex_field fa_40_2 hf rfl) rfl hf rfl rfl fun a hf => ?_
 refine op_val (ex_load1 (o := 2) ag_9 (hO.blkSees (i := 1) rfl) rfl hf rfl) rfl hf rfl rfl fun a hf => ?_
 obtain ⟨r47, hr47, hm⟩ := ob hm
 refine op_enter (ex_call c_51 hf (vs := [str s28]) rfl) rfl hf rfl rfl (w_ref08_Parse s28 r47 _ (hG.own hF hO) hr47) ?_
 rintro e w' ⟨he, hb⟩
 refine ⟨_, he, fun a hf => ?_⟩
 have hO := hO.grow hb
 refine op_mv hf rfl rfl fun a hf => ?_
 refine op_val (ex_extract hf rfl rfl) rfl hf rfl rfl fun a hf => ?_
 refine op_val (ex_extract hf rfl rfl) rfl hf rfl rfl fun a hf => ?_
 refine op_alloc al_98 hf rfl hO fun a b48 w hf hO => ?_
 refine op_storeN (i := 0) (n := 3) sz_98 rfl rfl rfl (by simp [Value.oneCell']) hf rfl rfl hO fun w hO => ?_
 refine op_as hf rfl rfl fun a hf => ?_
 refine wpList_nil ?_
 refine nor_then (hK49 _ _ ?_)
 refine wp_seq_k fun _ hK71 => ?_
 refine wp_seq_cut (fun a w => ∃ (t68 : Bool), Fits 149 [(0, str x_a0), (2, ptr b1 0), (5, int i18), (6, ptr b29 0), (107, .bool t68)] a ∧ Dk.Own w0 [] w [.blk b48 [int r47.1.Kind, str r47.1.Name, int r47.1.Port] 98, .row (.slice p33 r32.length c34) 9 1 r32.length (cells enc_str r32), .blk b29 [str s45, str s46, str s28, str []] 40, .blk b1 [str [], str [], str [], str []] 40] ∧ ref25_Parse_j6 x_a0 i18 s28 s45 s46 t68 = some R) ?_ ?_
 refine wp_region_list ?_
 refine op_mv hf rfl rfl fun a hf => ?_
 refine op_val (ex_len_l Tryz.underlying50 hf rfl) rfl hf rfl rfl fun a hf => ?_
 refine op_val (ex_gtr (m := (r32.length : Int)) (n := 2) hf rfl rfl) rfl hf rfl rfl fun a hf => ?_
 refine op_mv hf rfl rfl fun a hf => ?_
 rcases bcase (decide (2 < (r32.length : Int))) with hc50 | hc50
 have hm := it hc50 hm
 refine op_pass rfl hf rfl rfl (hc50) rfl rfl fun a hf => ?_
 refine op_pass rfl hf rfl rfl (hc50) rfl rfl fun a hf => ?_
 refine op_pass rfl hf rfl rfl (hc50) rfl rfl fun a hf => ?_
 refine op_pass rfl hf rfl rfl (hc50) rfl rfl fun a hf => ?_
 refine op_passu rfl hf rfl rfl rfl rfl fun a hf => ?_
 refine op_passu rfl hf rfl rfl rfl rfl fun a hf => ?_
 refine op_passu rfl hf rfl rfl rfl rfl fun a hf => ?_
 refine op_passu rfl hf rfl rfl rfl rfl fun a hf => ?_
 refine op_pass rfl hf rfl rfl (hc50) rfl rfl fun a hf => ?_
 refine op_val (ex_pick_t hf rfl hc50 rfl) rfl hf rfl rfl fun a hf => ?_
 refine op_mv hf rfl rfl fun a hf => ?_
 refine op_pass rfl hf rfl rfl (rfl) rfl rfl fun a hf => ?_
 refine op_pass rfl hf rfl rfl (rfl) rfl rfl fun a hf => ?_
 refine op_pass rfl hf rfl rfl (rfl) rfl rfl fun a hf => ?_
 refine op_pass rfl hf rfl rfl (rfl) rfl rfl fun a hf => ?_
 refine op_val (ex_pick_t hf rfl rfl rfl) rfl hf rfl rfl fun a hf => ?_
 refine op_mv hf rfl rfl fun a hf => ?_
 refine op_pass rfl hf rfl rfl (rfl) rfl rfl fun a hf => ?_
 refine op_pass rfl hf rfl rfl (rfl) rfl rfl fun a hf => ?_
 refine op_pass rfl hf rfl rfl (rfl) rfl rfl fun a hf => ?_
 refine op_passu rfl hf rfl rfl rfl rfl fun a hf => ?_
 refine op_passu rfl hf rfl rfl rfl rfl fun a hf => ?_
 refine op_passu rfl hf rfl rfl rfl rfl fun a hf => ?_
 refine op_pass rfl hf rfl rfl (rfl) rfl rfl fun a hf => ?_
 refine op_pass rfl hf rfl rfl (rfl) rfl rfl fun a hf => ?_
 refine op_passu rfl hf rfl rfl rfl rfl fun a hf => ?_
 refine op_passu rfl hf rfl rfl rfl rfl fun a hf => ?_
 refine op_passu rfl hf rfl rfl rfl rfl fun a hf => ?_
 refine op_passu rfl hf rfl rfl rfl rfl fun a hf => ?_
 refine op_pass rfl hf rfl rfl (rfl) rfl rfl fun a hf => ?_
 refine op_val (ex_pick_t hf rfl rfl rfl) rfl hf rfl rfl fun a hf => ?_
 refine wpList_nil ?_
 refine nor_then ?_
 exact ⟨true, (hf.cons rfl (hf.cons rfl (hf.cons rfl (hf.cons rfl (hf.cons rfl hf.nil))))), hO, hm⟩
 have hm := ie hc50 hm
 refine op_guard rfl hf rfl rfl (hc50) ?_
 refine op_mv hf rfl rfl fun a hf => ?_
 refine op_guard rfl hf rfl rfl (hc50) ?_
 refine op_val (ex_len_l Tryz.underlying50 hf rfl) rfl hf rfl rfl fun a hf => ?_
 refine op_guard rfl hf rfl rfl (hc50) ?_
 refine op_val (ex_eql (m := (r32.length : Int)) (n := 2) hf rfl rfl) rfl hf rfl rfl fun a hf => ?_
 refine op_guard rfl hf rfl rfl (hc50) ?_
 refine op_mv hf rfl rfl fun a hf => ?_
 rcases bcase ((r32.length : Int) == 2) with hc51 | hc51
 have hm := it hc51 hm
 refine op_guard rfl hf rfl rfl (hc51) ?_
 refine op_val (ex_field fa_40_0 hf rfl) rfl hf rfl rfl fun a hf => ?_
 refine op_guard rfl hf rfl rfl (hc51) ?_
 refine op_val (ex_load1 (o := 0) ag_9 (hO.blkSees (i := 2) rfl) rfl hf rfl) rfl hf rfl rfl fun a hf => ?_
 refine op_guard rfl hf rfl rfl (hc51) ?_
 obtain ⟨r52, hr52, hm⟩ := ob hm
 refine op_enter (ex_call c_38 hf (vs := [str s45]) rfl) rfl hf rfl rfl (w_ref01_Token s45 r52 _ (hG.own hF hO) hr52) ?_
 rintro e w' ⟨he, hb⟩
 refine ⟨_, he, fun a hf => ?_⟩
 have hO := hO.grow hb
 refine op_guard rfl hf rfl rfl (hc51) ?_
 refine op_val (ex_not hf rfl) rfl hf rfl rfl fun a hf => ?_
 refine op_guard rfl hf rfl rfl (hc50) ?_
 refine op_val (ex_pick_t hf rfl hc51 rfl) rfl hf rfl rfl fun a hf => ?_
 refine op_val (ex_pick_f hf rfl hc50 rfl) rfl hf rfl rfl fun a hf => ?_
 refine op_mv hf rfl rfl fun a hf => ?_
 rcases bcase (!r52) with hc53 | hc53
 have hm := it hc53 hm
 refine op_pass rfl hf rfl rfl (hc53) rfl rfl fun a hf => ?_
 refine op_pass rfl hf rfl rfl (hc53) rfl rfl fun a hf => ?_
 refine op_pass rfl hf rfl rfl (hc53) rfl rfl fun a hf => ?_
 refine op_pass rfl hf rfl rfl (hc53) rfl rfl fun a hf => ?_
 refine op_val (ex_pick_t hf rfl hc53 rfl) rfl hf rfl rfl fun a hf => ?_
 refine op_mv hf rfl rfl fun a hf => ?_
 refine op_pass rfl hf rfl rfl (rfl) rfl rfl fun a hf => ?_
 refine op_pass rfl hf rfl rfl (rfl) rfl rfl fun a hf => ?_
 refine op_pass rfl hf rfl rfl (rfl) rfl rfl fun a hf => ?_
 refine op_passu rfl hf rfl rfl rfl rfl fun a hf => ?_
 refine op_passu rfl hf rfl rfl rfl rfl fun a hf => ?_
 refine op_passu rfl hf rfl rfl rfl rfl fun a hf => ?_
 refine op_pass rfl hf rfl rfl (rfl) rfl rfl fun a hf => ?_
 refine op_pass rfl hf rfl rfl (rfl) rfl rfl fun a hf => ?_
 refine op_passu rfl hf rfl rfl rfl rfl fun a hf => ?_
 refine op_passu rfl hf rfl rfl rfl rfl fun a hf => ?_
 refine op_passu rfl hf rfl rfl rfl rfl fun a hf => ?_
 refine op_passu rfl hf rfl rfl rfl rfl fun a hf => ?_
 refine op_pass rfl hf rfl rfl (rfl) rfl rfl fun a hf => ?_
 refine op_val (ex_pick_t hf rfl rfl rfl) rfl hf rfl rfl fun a hf => ?_
 refine wpList_nil ?_
 refine nor_then ?_
 exact ⟨true, (hf.cons rfl (hf.cons rfl (hf.cons rfl (hf.cons rfl (hf.cons rfl hf.nil))))), hO, hm⟩
 have hm := ie hc53 hm
 refine op_guard rfl hf rfl rfl (hc53) ?_
 refine op_val (ex_field fa_40_1 hf rfl) rfl hf rfl rfl fun a hf => ?_
 refine op_guard rfl hf rfl rfl (hc53) ?_
 refine op_val (ex_load1 (o := 1) ag_9 (hO.blkSees (i := 2) rfl) rfl hf rfl) rfl hf rfl rfl fun a hf => ?_
 refine op_guard rfl hf rfl rfl (hc53) ?_
 obtain ⟨r54, hr54, hm⟩ := ob hm
 refine op_enter (ex_call c_38 hf (vs := [str s46]) rfl) rfl hf rfl rfl (w_ref01_Token s46 r54 _ (hG.own hF hO) hr54) ?_
 rintro e w' ⟨he, hb⟩
 refine ⟨_, he, fun a hf => ?_⟩
 have hO := hO.grow hb
 refine op_guard rfl hf rfl rfl (hc53) ?_
 refine op_val (ex_not hf rfl) rfl hf rfl rfl fun a hf => ?_
 refine op_val (ex_pick_f hf rfl hc53 rfl) rfl hf rfl rfl fun a hf => ?_
 refine op_mv hf rfl rfl fun a hf => ?_
 rcases bcase (!r54) with hc55 | hc55
 have hm := it hc55 hm
 refine op_pass rfl hf rfl rfl (hc55) rfl rfl fun a hf => ?_
 refine op_pass rfl hf rfl rfl (hc55) rfl rfl fun a hf => ?_
 refine op_pass rfl hf rfl rfl (hc55) rfl rfl fun a hf => ?_
 refine op_passu rfl hf rfl rfl rfl rfl fun a hf => ?_
 refine op_passu rfl hf rfl rfl rfl rfl fun a hf => ?_
 refine op_passu rfl hf rfl rfl rfl rfl fun a hf => ?_
 refine op_pass rfl hf rfl rfl (hc55) rfl rfl fun a hf => ?_
 refine op_pass rfl hf rfl rfl (hc55) rfl rfl fun a hf => ?_
 refine op_passu rfl hf rfl rfl rfl rfl fun a hf => ?_
 refine op_passu rfl hf rfl rfl rfl rfl fun a hf => ?_
 refine op_passu rfl hf rfl rfl rfl rfl fun a hf => ?_
 refine op_passu rfl hf rfl rfl rfl rfl fun a hf => ?_
 refine op_pass rfl hf rfl rfl (hc55) rfl rfl fun a hf => ?_
 refine op_val (ex_pick_t hf rfl hc55 rfl) rfl hf rfl rfl fun a hf => ?_
 refine wpList_nil ?_
 refine nor_then ?_
 exact ⟨true, (hf.cons rfl (hf.cons rfl (hf.cons rfl (hf.cons rfl (hf.cons rfl hf.nil))))), hO, hm⟩
 have hm := ie hc55 hm
 refine op_guard rfl hf rfl rfl (hc55) ?_
 refine op_mv hf rfl rfl fun a hf => ?_
 refine op_guard rfl hf rfl rfl (hc55) ?_
 refine op_val (ex_neq (m := r47.2) (n := 0) hf rfl rfl) rfl hf rfl rfl fun a hf => ?_
 refine op_guard rfl hf rfl rfl (hc55) ?_
 refine op_mv hf rfl rfl fun a hf => ?_
 rcases bcase (!(r47.2 == 0)) with hc56 | hc56
 have hm := it hc56 hm
 refine op_pass rfl hf rfl rfl (hc56) rfl rfl fun a hf => ?_
 refine op_pass rfl hf rfl rfl (hc56) rfl rfl fun a hf => ?_
 refine op_pass rfl hf rfl rfl (hc56) rfl rfl fun a hf => ?_
 refine op_guard rfl hf rfl rfl (hc55) ?_
 refine op_val (ex_pick_t hf rfl hc56 rfl) rfl hf rfl rfl fun a hf => ?_
 refine op_guard rfl hf rfl rfl (hc55) ?_
 refine op_mv hf rfl rfl fun a hf => ?_
 refine op_guard rfl hf rfl rfl (rfl) ?_
 refine op_val (ex_field fa_40_2 hf rfl) rfl hf rfl rfl fun a hf => ?_
 refine op_guard rfl hf rfl rfl (rfl) ?_
 refine op_val (ex_load1 (o := 2) ag_9 (hO.blkSees (i := 2) rfl) rfl hf rfl) rfl hf rfl rfl fun a hf => ?_
 refine op_guard rfl hf rfl rfl (rfl) ?_
 obtain ⟨r57, hr57, hm⟩ := ob hm
 refine op_enter (ex_call c_38 hf (vs := [str s28]) rfl) rfl hf rfl rfl (w_ref01_Token s28 r57 _ (hG.own hF hO) hr57) ?_
 rintro e w' ⟨he, hb⟩
 refine ⟨_, he, fun a hf => ?_⟩
 have hO := hO.grow hb
 refine op_guard rfl hf rfl rfl (rfl) ?_
 refine op_val (ex_not hf rfl) rfl hf rfl rfl fun a hf => ?_
 refine op_guard rfl hf rfl rfl (hc55) ?_
 refine op_val (ex_pick_t hf rfl rfl rfl) rfl hf rfl rfl fun a hf => ?_
 refine op_val (ex_pick_f hf rfl hc55 rfl) rfl hf rfl rfl fun a hf => ?_
 refine wpList_nil ?_
 refine nor_then ?_
 exact ⟨!r57, (hf.cons rfl (hf.cons rfl (hf.cons rfl (hf.cons rfl (hf.cons rfl hf.nil))))), hO, hm⟩
 have hm := ie hc56 hm
 refine op_guard rfl hf rfl rfl (hc56) ?_
 refine op_val (ex_field fa_40_2 hf rfl) rfl hf rfl rfl fun a hf => ?_
 refine op_guard rfl hf rfl rfl (hc56) ?_
 refine op_val (ex_load1 (o := 2) ag_9 (hO.blkSees (i := 2) rfl) rfl hf rfl) rfl hf rfl rfl fun a hf => ?_
 refine op_guard rfl hf rfl rfl (hc56) ?_
 obtain ⟨r58, hr58, hm⟩ := ob hm
 refine op_enter (ex_call c_52 hf (vs := [str s28]) rfl) rfl hf rfl rfl (w_ref25_comma s28 r58 _ (hG.own hF hO) hr58) ?_
 rintro e w' ⟨he, hb⟩
 refine ⟨_, he, fun a hf => ?_⟩
 have hO := hO.grow hb
 refine op_guard rfl hf rfl rfl (hc55) ?_
 refine op_val (ex_pick_f hf rfl hc56 rfl) rfl hf rfl rfl fun a hf => ?_
 refine op_guard rfl hf rfl rfl (hc55) ?_
 refine op_mv hf rfl rfl fun a hf => ?_
 rcases bcase (r58) with hc59 | hc59
 have hm := it hc59 hm
 refine op_guard rfl hf rfl rfl (hc59) ?_
 refine op_val (ex_field fa_40_2 hf rfl) rfl hf rfl rfl fun a hf => ?_
 refine op_guard rfl hf rfl rfl (hc59) ?_
 refine op_val (ex_load1 (o := 2) ag_9 (hO.blkSees (i := 2) rfl) rfl hf rfl) rfl hf rfl rfl fun a hf => ?_
 refine op_guard rfl hf rfl rfl (hc59) ?_
 obtain ⟨r60, hr60, hm⟩ := ob hm
 refine op_enter (ex_call c_38 hf (vs := [str s28]) rfl) rfl hf rfl rfl (w_ref01_Token s28 r60 _ (hG.own hF hO) hr60) ?_
 rintro e w' ⟨he, hb⟩
 refine ⟨_, he, fun a hf => ?_⟩
 have hO := hO.grow hb
 refine op_guard rfl hf rfl rfl (hc59) ?_
 refine op_val (ex_not hf rfl) rfl hf rfl rfl fun a hf => ?_
 refine op_guard rfl hf rfl rfl (hc55) ?_
 refine op_val (ex_pick_t hf rfl hc59 rfl) rfl hf rfl rfl fun a hf => ?_
 refine op_val (ex_pick_f hf rfl hc55 rfl) rfl hf rfl rfl fun a hf => ?_
 refine wpList_nil ?_
 refine nor_then ?_
 exact ⟨!r60, (hf.cons rfl (hf.cons rfl (hf.cons rfl (hf.cons rfl (hf.cons rfl hf.nil))))), hO, hm⟩
 have hm := ie hc59 hm
 refine op_pass rfl hf rfl rfl (hc59) rfl rfl fun a hf => ?_
 refine op_pass rfl hf rfl rfl (hc59) rfl rfl fun a hf => ?_
 refine op_pass rfl hf rfl rfl (hc59) rfl rfl fun a hf => ?_
 refine op_pass rfl hf rfl rfl (hc59) rfl rfl fun a hf => ?_
 refine op_guard rfl hf rfl rfl (hc55) ?_
 refine op_val (ex_pick_f hf rfl hc59 rfl) rfl hf rfl rfl fun a hf => ?_
 refine op_val (ex_pick_f hf rfl hc55 rfl) rfl hf rfl rfl fun a hf => ?_
 refine wpList_nil ?_
 refine nor_then ?_
 exact ⟨false, (hf.cons rfl (hf.cons rfl (hf.cons rfl (hf.cons rfl (hf.cons rfl hf.nil))))), hO, hm⟩
 have hm := ie hc51 hm
 refine op_pass rfl hf rfl rfl (hc51) rfl rfl fun a hf => ?_
 refine op_pass rfl hf rfl rfl (hc51) rfl rfl fun a hf => ?_
 refine op_pass rfl hf rfl rfl (hc51) rfl rfl fun a hf => ?_
 refine op_pass rfl hf rfl rfl (hc51) rfl rfl fun a hf => ?_
 refine op_guard rfl hf rfl rfl (hc50) ?_
 refine op_val (ex_pick_f hf rfl hc51 rfl) rfl hf rfl rfl fun a hf => ?_
 refine op_val (ex_pick_f hf rfl hc50 rfl) rfl hf rfl rfl fun a hf => ?_
 refine op_mv hf rfl rfl fun a hf => ?_
 refine op_guard rfl hf rfl rfl (rfl) ?_
 refine op_val (ex_field fa_40_1 hf rfl) rfl hf rfl rfl fun a hf => ?_
 refine op_guard rfl hf rfl rfl (rfl) ?_
 refine op_val (ex_load1 (o := 1) ag_9 (hO.blkSees (i := 2) rfl) rfl hf rfl) rfl hf rfl rfl fun a hf => ?_
 refine op_guard rfl hf rfl rfl (rfl) ?_
 obtain ⟨r61, hr61, hm⟩ := ob hm
 refine op_enter (ex_call c_38 hf (vs := [str s46]) rfl) rfl hf rfl rfl (w_ref01_Token s46 r61 _ (hG.own hF hO) hr61) ?_
 rintro e w' ⟨he, hb⟩
 refine ⟨_, he, fun a hf => ?_⟩
 have hO := hO.grow hb
 refine op_guard rfl hf rfl rfl (rfl) ?_
 refine op_val (ex_not hf rfl) rfl hf rfl rfl fun a hf => ?_
 refine op_val (ex_pick_f hf rfl rfl rfl) rfl hf rfl rfl fun a hf => ?_
 refine op_mv hf rfl rfl fun a hf => ?_
 rcases bcase (!r61) with hc62 | hc62
 have hm := it hc62 hm
 refine op_pass rfl hf rfl rfl (hc62) rfl rfl fun a hf => ?_
 refine op_pass rfl hf rfl rfl (hc62) rfl rfl fun a hf => ?_
 refine op_pass rfl hf rfl rfl (hc62) rfl rfl fun a hf => ?_
 refine op_passu rfl hf rfl rfl rfl rfl fun a hf => ?_
 refine op_passu rfl hf rfl rfl rfl rfl fun a hf => ?_
 refine op_passu rfl hf rfl rfl rfl rfl fun a hf => ?_
 refine op_pass rfl hf rfl rfl (hc62) rfl rfl fun a hf => ?_
 refine op_pass rfl hf rfl rfl (hc62) rfl rfl fun a hf => ?_
 refine op_passu rfl hf rfl rfl rfl rfl fun a hf => ?_
 refine op_passu rfl hf rfl rfl rfl rfl fun a hf => ?_
 refine op_passu rfl hf rfl rfl rfl rfl fun a hf => ?_
 refine op_passu rfl hf rfl rfl rfl rfl fun a hf => ?_
 refine op_pass rfl hf rfl rfl (hc62) rfl rfl fun a hf => ?_
 refine op_val (ex_pick_t hf rfl hc62 rfl) rfl hf rfl rfl fun a hf => ?_
 refine wpList_nil ?_
 refine nor_then ?_
 exact ⟨true, (hf.cons rfl (hf.cons rfl (hf.cons rfl (hf.cons rfl (hf.cons rfl hf.nil))))), hO, hm⟩
 have hm := ie hc62 hm
 refine op_guard rfl hf rfl rfl (hc62) ?_
 refine op_mv hf rfl rfl fun a hf => ?_
 refine op_guard rfl hf rfl rfl (hc62) ?_
 refine op_val (ex_neq (m := r47.2) (n := 0) hf rfl rfl) rfl hf rfl rfl fun a hf => ?_
 refine op_guard rfl hf rfl rfl (hc62) ?_
 refine op_mv hf rfl rfl fun a hf => ?_
 rcases bcase (!(r47.2 == 0)) with hc63 | hc63
 have hm := it hc63 hm
 refine op_pass rfl hf rfl rfl (hc63) rfl rfl fun a hf => ?_
 refine op_pass rfl hf rfl rfl (hc63) rfl rfl fun a hf => ?_
 refine op_pass rfl hf rfl rfl (hc63) rfl rfl fun a hf => ?_
 refine op_guard rfl hf rfl rfl (hc62) ?_
 refine op_val (ex_pick_t hf rfl hc63 rfl) rfl hf rfl rfl fun a hf => ?_
 refine op_guard rfl hf rfl rfl (hc62) ?_
 refine op_mv hf rfl rfl fun a hf => ?_
 refine op_guard rfl hf rfl rfl (rfl) ?_
 refine op_val (ex_field fa_40_2 hf rfl) rfl hf rfl rfl fun a hf => ?_
 refine op_guard rfl hf rfl rfl (rfl) ?_
 refine op_val (ex_load1 (o := 2) ag_9 (hO.blkSees (i := 2) rfl) rfl hf rfl) rfl hf rfl rfl fun a hf => ?_
 refine op_guard rfl hf rfl rfl (rfl) ?_
 obtain ⟨r64, hr64, hm⟩ := ob hm
 refine op_enter (ex_call c_38 hf (vs := [str s28]) rfl) rfl hf rfl rfl (w_ref01_Token s28 r64 _ (hG.own hF hO) hr64) ?_
 rintro e w' ⟨he, hb⟩
 refine ⟨_, he, fun a hf => ?_⟩
 have hO := hO.grow hb
 refine op_guard rfl hf rfl rfl (rfl) ?_
 refine op_val (ex_not hf rfl) rfl hf rfl rfl fun a hf => ?_
 refine op_guard rfl hf rfl rfl (hc62) ?_
 refine op_val (ex_pick_t hf rfl rfl rfl) rfl hf rfl rfl fun a hf => ?_
 refine op_val (ex_pick_f hf rfl hc62 rfl) rfl hf rfl rfl fun a hf => ?_
 refine wpList_nil ?_
 refine nor_then ?_
 exact ⟨!r64, (hf.cons rfl (hf.cons rfl (hf.cons rfl (hf.cons rfl (hf.cons rfl hf.nil))))), hO, hm⟩
 have hm := ie hc63 hm
 refine op_guard rfl hf rfl rfl (hc63) ?_
 refine op_val (ex_field fa_40_2 hf rfl) rfl hf rfl rfl fun a hf => ?_
 refine op_guard rfl hf rfl rfl (hc63) ?_
 refine op_val (ex_load1 (o := 2) ag_9 (hO.blkSees (i := 2) rfl) rfl hf rfl) rfl hf rfl rfl fun a hf => ?_
 refine op_guard rfl hf rfl rfl (hc63) ?_
 obtain ⟨r65, hr65, hm⟩ := ob hm
 refine op_enter (ex_call c_52 hf (vs := [str s28]) rfl) rfl hf rfl rfl (w_ref25_comma s28 r65 _ (hG.own hF hO) hr65) ?_
 rintro e w' ⟨he, hb⟩
 refine ⟨_, he, fun a hf => ?_⟩
 have hO := hO.grow hb
 refine op_guard rfl hf rfl rfl (hc62) ?_
 refine op_val (ex_pick_f hf rfl hc63 rfl) rfl hf rfl rfl fun a hf => ?_
 refine op_guard rfl hf rfl rfl (hc62) ?_
 refine op_mv hf rfl rfl fun a hf => ?_
 rcases bcase (r65) with hc66 | hc66
 have hm := it hc66 hm
 refine op_guard rfl hf rfl rfl (hc66) ?_
 refine op_val (ex_field fa_40_2 hf rfl) rfl hf rfl rfl fun a hf => ?_
 refine op_guard rfl hf rfl rfl (hc66) ?_
 refine op_val (ex_load1 (o := 2) ag_9 (hO.blkSees (i := 2) rfl) rfl hf rfl) rfl hf rfl rfl fun a hf => ?_
 refine op_guard rfl hf rfl rfl (hc66) ?_
 obtain ⟨r67, hr67, hm⟩ := ob hm
 refine op_enter (ex_call c_38 hf (vs := [str s28]) rfl) rfl hf rfl rfl (w_ref01_Token s28 r67 _ (hG.own hF hO) hr67) ?_
 rintro e w' ⟨he, hb⟩
 refine ⟨_, he, fun a hf => ?_⟩
 have hO := hO.grow hb
 refine op_guard rfl hf rfl rfl (hc66) ?_
 refine op_val (ex_not hf rfl) rfl hf rfl rfl fun a hf => ?_
 refine op_guard rfl hf rfl rfl (hc62) ?_
 refine op_val (ex_pick_t hf rfl hc66 rfl) rfl hf rfl rfl fun a hf => ?_
 refine op_val (ex_pick_f hf rfl hc62 rfl) rfl hf rfl rfl fun a hf => ?_
 refine wpList_nil ?_
 refine nor_then ?_
 exact ⟨!r67, (hf.cons rfl (hf.cons rfl (hf.cons rfl (hf.cons rfl (hf.cons rfl hf.nil))))), hO, hm⟩
 have hm := ie hc66 hm
 refine op_pass rfl hf rfl rfl (hc66) rfl rfl fun a hf => ?_
 refine op_pass rfl hf rfl rfl (hc66) rfl rfl fun a hf => ?_
 refine op_pass rfl hf rfl rfl (hc66) rfl rfl fun a hf => ?_
 refine op_pass rfl hf rfl rfl (hc66) rfl rfl fun a hf => ?_
 refine op_guard rfl hf rfl rfl (hc62) ?_
 refine op_val (ex_pick_f hf rfl hc66 rfl) rfl hf rfl rfl fun a hf => ?_
 refine op_val (ex_pick_f hf rfl hc62 rfl) rfl hf rfl rfl fun a hf => ?_
 refine wpList_nil ?_
 refine nor_then ?_
 exact ⟨false, (hf.cons rfl (hf.cons rfl (hf.cons rfl (hf.cons rfl (hf.cons rfl hf.nil))))), hO, hm⟩
 rintro a w ⟨t68, hf, hO, hm⟩
 rw [ref25_Parse_j6] at hm
 refine wp_cond_cut hf rfl (fun hc69 => ?_) (fun hc69 => ?_)
 have hm := it hc69 hm
 refine wp_seq_k fun _ hK70 => ?_
 refine wp_region_list ?_
 refine op_val (ex_build (vs := []) (v := .agg #[str [], str [], str [], str []]) hf rfl (by kernel_rfl)) rfl hf rfl rfl fun a hf => ?_
 refine op_storeN (i := 3) (n := 4) sz_40 rfl rfl rfl (by simp [Value.oneCell']) hf rfl rfl hO fun w hO => ?_
 refine op_as hf rfl rfl fun a hf => ?_
 refine wpList_nil ?_
 refine nor_then (hK70 _ _ ?_)
 refine wp_ret ?_
 refine ret_then ?_
 obtain rfl := Option.some.inj hm
 exact post_ret Tryz.results19 hf (.cell rfl (run_loadVarN (n := 4) (vs := [str [], str [], str [], str []]) ag_40 sz_40 rfl ((hO.blkSees (i := 3) rfl).cells (o := 0) (n := 4) rfl)) (.tmp rfl .nil)) ⟨rfl, hO.below⟩
 have hm := ie hc69 hm
 refine wp_skip ?_
 refine nor_then (hK71 _ _ ?_)
 refine wp_seq_k fun _ hK75 => ?_
 refine wp_seq_k fun _ hK72 => ?_
 refine wp_region_list ?_
 refine op_mv hf rfl rfl fun a hf => ?_
 refine op_mv hf rfl rfl fun a hf => ?_
 refine op_val (ex_len_s (l := x_a0) Tryz.underlying9 hf rfl) rfl hf rfl rfl fun a hf => ?_
 refine op_val (ex_eql (m := i18) (n := (x_a0.length : Int)) hf rfl rfl) rfl hf rfl rfl fun a hf => ?_
 refine wpList_nil ?_
 refine nor_then (hK72 _ _ ?_)
 refine wp_cond_cut hf rfl (fun hc73 => ?_) (fun hc73 => ?_)
 have hm := it hc73 hm
 refine wp_seq_k fun _ hK74 => ?_
 refine wp_region_list ?_
 refine op_val (ex_loadN (o := 0) (vs := [str s45, str s46, str s28, str []]) ag_40 sz_40 (hO.blkSees (i := 2) rfl) rfl rfl hf rfl) rfl hf rfl rfl fun a hf => ?_
 refine op_storeN (i := 3) (n := 4) sz_40 rfl rfl rfl (by simp [Value.oneCell']) hf rfl rfl hO fun w hO => ?_
 refine op_as hf rfl rfl fun a hf => ?_
 refine wpList_nil ?_
 refine nor_then (hK74 _ _ ?_)
 refine wp_ret ?_
 refine ret_then ?_
 obtain rfl := Option.some.inj hm
 exact post_ret Tryz.results19 hf (.cell rfl (run_loadVarN (n := 4) (vs := [str s45, str s46, str s28, str []]) ag_40 sz_40 rfl ((hO.blkSees (i := 3) rfl).cells (o := 0) (n := 4) rfl)) (.tmp rfl .nil)) ⟨rfl, hO.below⟩
 have hm := ie hc73 hm
 refine wp_skip ?_
 refine nor_then (hK75 _ _ ?_)
 refine wp_seq_k fun _ hK78 => ?_
 refine wp_region_list ?_
 refine op_mv hf rfl rfl fun a hf => ?_
 refine op_mv hf rfl rfl fun a hf => ?_
 obtain ⟨i76, hi76, hm⟩ := ob hm
 refine op_val (ex_add hf rfl rfl hi76) rfl hf rfl rfl fun a hf => ?_
 obtain ⟨s77, hs77, hm⟩ := ob hm
 refine op_val (ex_from_s (l := x_a0) Tryz.underlying9 hf rfl rfl hs77) rfl hf rfl rfl fun a hf => ?_
 refine op_as hf rfl rfl fun a hf => ?_
 refine wpList_nil ?_
 refine nor_then (hK78 _ _ ?_)
 refine wp_seq_k fun _ hK79 => ?_
 refine wp_region_list ?_
 refine op_mv hf rfl rfl fun a hf => ?_
 refine op_val (ex_len_s (l := s77) Tryz.underlying9 hf rfl) rfl hf rfl rfl fun a hf => ?_
 refine op_as hf rfl rfl fun a hf => ?_
 refine wpList_nil ?_
 refine nor_then (hK79 _ _ ?_)
 refine wp_seq_k fun _ hK92 => ?_
 refine wp_seq_cut (fun a w => ∃ (t89 : Bool), Fits 149 [(2, ptr b1 0), (6, ptr b29 0), (10, str s77), (11, int (s77.length : Int)), (141, .bool t89)] a ∧ Dk.Own w0 [] w [.blk b48 [int r47.1.Kind, str r47.1.Name, int r47.1.Port] 98, .row (.slice p33 r32.length c34) 9 1 r32.length (cells enc_str r32), .blk b29 [str s45, str s46, str s28, str []] 40, .blk b1 [str [], str [], str [], str []] 40] ∧ ref25_Parse_j7 s28 s45 s46 s77 t89 = some R) ?_ ?_
 refine wp_region_list ?_
 refine op_mv hf rfl rfl fun a hf => ?_
 refine op_val (ex_lss (m := (s77.length : Int)) (n := 3) hf rfl rfl) rfl hf rfl rfl fun a hf => ?_
 refine op_mv hf rfl rfl fun a hf => ?_
 rcases bcase (decide ((s77.length : Int) < 3)) with hc80 | hc80
 have hm := it hc80 hm
 refine op_pass rfl hf rfl rfl (hc80) rfl rfl fun a hf => ?_
 refine op_pass rfl hf rfl rfl (hc80) rfl rfl fun a hf => ?_
 refine op_pass rfl hf rfl rfl (hc80) rfl rfl fun a hf => ?_
 refine op_val (ex_pick_t hf rfl hc80 rfl) rfl hf rfl rfl fun a hf => ?_
 refine op_mv hf rfl rfl fun a hf => ?_
 refine op_pass rfl hf rfl rfl (rfl) rfl rfl fun a hf => ?_
 refine op_pass rfl hf rfl rfl (rfl) rfl rfl fun a hf => ?_
 refine op_pass rfl hf rfl rfl (rfl) rfl rfl fun a hf => ?_
 refine op_pass rfl hf rfl rfl (rfl) rfl rfl fun a hf => ?_
 refine op_pass rfl hf rfl rfl (rfl) rfl rfl fun a hf => ?_
 refine op_val (ex_pick_t hf rfl rfl rfl) rfl hf rfl rfl fun a hf => ?_
 refine op_mv hf rfl rfl fun a hf => ?_
 refine op_pass rfl hf rfl rfl (rfl) rfl rfl fun a hf => ?_
 refine op_pass rfl hf rfl rfl (rfl) rfl rfl fun a hf => ?_
 refine op_pass rfl hf rfl rfl (rfl) rfl rfl fun a hf => ?_
 refine op_pass rfl hf rfl rfl (rfl) rfl rfl fun a hf => ?_
 refine op_pass rfl hf rfl rfl (rfl) rfl rfl fun a hf => ?_
 refine op_pass rfl hf rfl rfl (rfl) rfl rfl fun a hf => ?_
 refine op_val (ex_pick_t hf rfl rfl rfl) rfl hf rfl rfl fun a hf => ?_
 refine wpList_nil ?_
 refine nor_then ?_
 exact ⟨true, (hf.cons rfl (hf.cons rfl (hf.cons rfl (hf.cons rfl (hf.cons rfl hf.nil))))), hO, hm⟩
 have hm := ie hc80 hm
 refine op_guard rfl hf rfl rfl (hc80) ?_
 refine op_mv hf rfl rfl fun a hf => ?_
 refine op_guard rfl hf rfl rfl (hc80) ?_
 obtain ⟨b81, hb81, hm⟩ := ob hm
 refine op_val (ex_index (l := s77) Tryz.underlying9 hf rfl rfl hb81) rfl hf rfl rfl fun a hf => ?_
 refine op_guard rfl hf rfl rfl (hc80) ?_
 refine op_val (ex_neq_b (b := b81) (c := 40) hf rfl rfl) rfl hf rfl rfl fun a hf => ?_
 refine op_val (ex_pick_f hf rfl hc80 rfl) rfl hf rfl rfl fun a hf => ?_
 refine op_mv hf rfl rfl fun a hf => ?_
 rcases bcase (!(b81 == 40)) with hc82 | hc82
 have hm := it hc82 hm
 refine op_pass rfl hf rfl rfl (hc82) rfl rfl fun a hf => ?_
 refine op_pass rfl hf rfl rfl (hc82) rfl rfl fun a hf => ?_
 refine op_pass rfl hf rfl rfl (hc82) rfl rfl fun a hf => ?_
 refine op_pass rfl hf rfl rfl (hc82) rfl rfl fun a hf => ?_
 refine op_pass rfl hf rfl rfl (hc82) rfl rfl fun a hf => ?_
 refine op_val (ex_pick_t hf rfl hc82 rfl) rfl hf rfl rfl fun a hf => ?_
 refine op_mv hf rfl rfl fun a hf => ?_
 refine op_pass rfl hf rfl rfl (rfl) rfl rfl fun a hf => ?_
 refine op_pass rfl hf rfl rfl (rfl) rfl rfl fun a hf => ?_
 refine op_pass rfl hf rfl rfl (rfl) rfl rfl fun a hf => ?_
 refine op_pass rfl hf rfl rfl (rfl) rfl rfl fun a hf => ?_
 refine op_pass rfl hf rfl rfl (rfl) rfl rfl fun a hf => ?_
 refine op_pass rfl hf rfl rfl (rfl) rfl rfl fun a hf => ?_
 refine op_val (ex_pick_t hf rfl rfl rfl) rfl hf rfl rfl fun a hf => ?_
 refine wpList_nil ?_
 refine nor_then ?_
 exact ⟨true, (hf.cons rfl (hf.cons rfl (hf.cons rfl (hf.cons rfl (hf.cons rfl hf.nil))))), hO, hm⟩
 have hm := ie hc82 hm
 refine op_guard rfl hf rfl rfl (hc82) ?_
 refine op_mv hf rfl rfl fun a hf => ?_
 refine op_guard rfl hf rfl rfl (hc82) ?_
 refine op_mv hf rfl rfl fun a hf => ?_
 refine op_guard rfl hf rfl rfl (hc82) ?_
 obtain ⟨i83, hi83, hm⟩ := ob hm
 refine op_val (ex_sub hf rfl rfl hi83) rfl hf rfl rfl fun a hf => ?_
 refine op_guard rfl hf rfl rfl (hc82) ?_
 obtain ⟨b84, hb84, hm⟩ := ob hm
 refine op_val (ex_index (l := s77) Tryz.underlying9 hf rfl rfl hb84) rfl hf rfl rfl fun a hf => ?_
 refine op_guard rfl hf rfl rfl (hc82) ?_
 refine op_val (ex_neq_b (b := b84) (c := 41) hf rfl rfl) rfl hf rfl rfl fun a hf => ?_
 refine op_val (ex_pick_f hf rfl hc82 rfl) rfl hf rfl rfl fun a hf => ?_
 refine op_mv hf rfl rfl fun a hf => ?_
 rcases bcase (!(b84 == 41)) with hc85 | hc85
 have hm := it hc85 hm
 refine op_pass rfl hf rfl rfl (hc85) rfl rfl fun a hf => ?_
 refine op_pass rfl hf rfl rfl (hc85) rfl rfl fun a hf => ?_
 refine op_pass rfl hf rfl rfl (hc85) rfl rfl fun a hf => ?_
 refine op_pass rfl hf rfl rfl (hc85) rfl rfl fun a hf => ?_
 refine op_pass rfl hf rfl rfl (hc85) rfl rfl fun a hf => ?_
 refine op_pass rfl hf rfl rfl (hc85) rfl rfl fun a hf => ?_
 refine op_val (ex_pick_t hf rfl hc85 rfl) rfl hf rfl rfl fun a hf => ?_
 refine wpList_nil ?_
 refine nor_then ?_
 exact ⟨true, (hf.cons rfl (hf.cons rfl (hf.cons rfl (hf.cons rfl (hf.cons rfl hf.nil))))), hO, hm⟩
 have hm := ie hc85 hm
 refine op_guard rfl hf rfl rfl (hc85) ?_
 refine op_mv hf rfl rfl fun a hf => ?_
 refine op_guard rfl hf rfl rfl (hc85) ?_
 refine op_mv hf rfl rfl fun a hf => ?_
 refine op_guard rfl hf rfl rfl (hc85) ?_
 obtain ⟨i86, hi86, hm⟩ := ob hm
 refine op_val (ex_sub hf rfl rfl hi86) rfl hf rfl rfl fun a hf => ?_
 refine op_guard rfl hf rfl rfl (hc85) ?_
 obtain ⟨s87, hs87, hm⟩ := ob hm
 refine op_val (ex_sub_s (l := s77) Tryz.underlying9 hf rfl rfl rfl hs87) rfl hf rfl rfl fun a hf => ?_
 refine op_guard rfl hf rfl rfl (hc85) ?_
 obtain ⟨r88, hr88, hm⟩ := ob hm
 refine op_enter (ex_call c_53 hf (vs := [str s87]) rfl) rfl hf rfl rfl (w_ref25_Comment s87 r88 _ (hG.own hF hO) hr88) ?_
 rintro e w' ⟨he, hb⟩
 refine ⟨_, he, fun a hf => ?_⟩
 have hO := hO.grow hb
 refine op_guard rfl hf rfl rfl (hc85) ?_
 refine op_val (ex_not hf rfl) rfl hf rfl rfl fun a hf => ?_
 refine op_val (ex_pick_f hf rfl hc85 rfl) rfl hf rfl rfl fun a hf => ?_
 refine wpList_nil ?_
 refine nor_then ?_
 exact ⟨!r88, (hf.cons rfl (hf.cons rfl (hf.cons rfl (hf.cons rfl (hf.cons rfl hf.nil))))), hO, hm⟩
 rintro a w ⟨t89, hf, hO, hm⟩
 rw [ref25_Parse_j7] at hm
 refine wp_cond_cut hf rfl (fun hc90 => ?_) (fun hc90 => ?_)
 have hm := it hc90 hm
 refine wp_seq_k fun _ hK91 => ?_
 refine wp_region_list ?_
 refine op_val (ex_build (vs := []) (v := .agg #[str [], str [], str [], str []]) hf rfl (by kernel_rfl)) rfl hf rfl rfl fun a hf => ?_
 refine op_storeN (i := 3) (n := 4) sz_40 rfl rfl rfl (by simp [Value.oneCell']) hf rfl rfl hO fun w hO => ?_
 refine op_as hf rfl rfl fun a hf => ?_
 refine wpList_nil ?_
 refine nor_then (hK91 _ _ ?_)
 refine wp_ret ?_
 refine ret_then ?_
 obtain rfl := Option.some.inj hm
 exact post_ret Tryz.results19 hf (.cell rfl (run_loadVarN (n := 4) (vs := [str [], str [], str [], str []]) ag_40 sz_40 rfl ((hO.blkSees (i := 3) rfl).cells (o := 0) (n := 4) rfl)) (.tmp rfl .nil)) ⟨rfl, hO.below⟩
 have hm := ie hc90 hm
 refine wp_skip ?_
 refine nor_then (hK92 _ _ ?_)
 refine wp_seq_k fun _ hK95 => ?_
 refine wp_region_list ?_
 refine op_mv hf rfl rfl fun a hf => ?_
 refine op_mv hf rfl rfl fun a hf => ?_
 obtain ⟨i93, hi93, hm⟩ := ob hm
 refine op_val (ex_sub hf rfl rfl hi93) rfl hf rfl rfl fun a hf => ?_
 obtain ⟨s94, hs94, hm⟩ := ob hm
 refine op_val (ex_sub_s (l := s77) Tryz.underlying9 hf rfl rfl rfl hs94) rfl hf rfl rfl fun a hf => ?_
 refine op_val (ex_field fa_40_3 hf rfl) rfl hf rfl rfl fun a hf => ?_
 refine op_store1 (i := 2) (o := 3) (v := str s94) sz_9 rfl rfl rfl rfl hf rfl rfl hO fun w hO => ?_
 refine wpList_nil ?_
 refine nor_then (hK95 _ _ ?_)
 refine wp_seq_k fun _ hK96 => ?_
 refine wp_region_list ?_
 refine op_val (ex_loadN (o := 0) (vs := [str s45, str s46, str s28, str s94]) ag_40 sz_40 (hO.blkSees (i := 2) rfl) rfl rfl hf rfl) rfl hf rfl rfl fun a hf => ?_
 refine op_storeN (i := 3) (n := 4) sz_40 rfl rfl rfl (by simp [Value.oneCell']) hf rfl rfl hO fun w hO => ?_
 refine op_as hf rfl rfl fun a hf => ?_
 refine wpList_nil ?_
 refine nor_then (hK96 _ _ ?_)
 refine wp_ret ?_
 obtain rfl := Option.some.inj hm
 exact post_ret Tryz.results19 hf (.cell rfl (run_loadVarN (n := 4) (vs := [str s45, str s46, str s28, str s94]) ag_40 sz_40 rfl ((hO.blkSees (i := 3) rfl).cells (o := 0) (n := 4) rfl)) (.tmp rfl .nil)) ⟨rfl, hO.below⟩
 exact ⟨i16, (hf.cons rfl (hf.cons rfl (hf.cons rfl (hf.cons rfl hf.nil)))), hO, hm⟩
 exact ⟨0, (hf.cons rfl (hf.cons rfl (hf.cons rfl hf.nil))), hO, hm⟩

end Go.Proofs
