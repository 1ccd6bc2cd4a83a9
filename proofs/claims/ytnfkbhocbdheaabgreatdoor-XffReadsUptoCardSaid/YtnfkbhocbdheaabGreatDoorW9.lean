/-
  Walks, written by a program (wip/gen): what its model says, the function returns; what was there before is as it was.
-/
import Derived.Test.YtnfkbhocbdheaabGreatDoorLib
import Derived.Test.YtnfkbhocbdheaabGreatDoorW2
import Derived.Test.YtnfkbhocbdheaabGreatDoorW3
import Derived.Test.YtnfkbhocbdheaabGreatDoorW7
import Derived.Test.YtnfkbhocbdheaabGreatDoorW8
set_option linter.unusedVariables false
set_option linter.unusedSimpArgs false
set_option maxRecDepth 100000
namespace Go.Proofs
open Go.Dk Go.Dm Go.RowKit

set_option maxHeartbeats 1000000 in
theorem w_strings_CutSuffix (x_s : Str) (x_suffix : Str) (R : Str × Bool) (w0 : World) (hG : Glob w0) (hm : strings_CutSuffix x_s x_suffix = some R) :
    Calls Tryz.prog 50 #[str x_s, str x_suffix] w0 fun e w' => e = .returned (.tuple #[str R.1, .bool R.2]) ∧ Below w0.heap.size w0 w' := by
 rw [strings_CutSuffix] at hm
 refine calls_enter (vs := [str x_s, str x_suffix]) Tryz.func50 rfl Tryz.ntmps50 rfl fun a hf => ?_
 have hF : Away [] := away_nil
 have hO : Dk.Own w0 [] w0 [] := Dk.Own.refl w0
 refine wp_seq_k fun _ hK1 => ?_
 refine wp_region_list ?_
 refine op_as hf rfl rfl fun a hf => ?_
 refine op_as hf rfl rfl fun a hf => ?_
 refine wpList_nil ?_
 refine nor_then (hK1 _ _ ?_)
 refine wp_seq_k fun _ hK3 => ?_
 refine wp_region_list ?_
 refine op_mv hf rfl rfl fun a hf => ?_
 refine op_mv hf rfl rfl fun a hf => ?_
 obtain ⟨r2, hr2, hm⟩ := ob hm
 refine op_enter (ex_call c_101 hf (vs := [str x_s, str x_suffix]) rfl) rfl hf rfl rfl (w_stringslite_CutSuffix x_s x_suffix r2 _ (hG.own hF hO) hr2) ?_
 rintro e w' ⟨he, hb⟩
 refine ⟨_, he, fun a hf => ?_⟩
 have hO := hO.grow hb
 refine op_val (ex_extract hf rfl rfl) rfl hf rfl rfl fun a hf => ?_
 refine op_val (ex_extract hf rfl rfl) rfl hf rfl rfl fun a hf => ?_
 refine op_as hf rfl rfl fun a hf => ?_
 refine op_as hf rfl rfl fun a hf => ?_
 refine wpList_nil ?_
 refine nor_then (hK3 _ _ ?_)
 refine wp_ret ?_
 obtain rfl := Option.some.inj hm
 exact post_ret Tryz.results50 hf (.tmp rfl (.tmp rfl .nil)) ⟨rfl, hO.below⟩

set_option maxHeartbeats 1000000 in
theorem w_xff_bare (x_s : Str) (R : Bool) (w0 : World) (hG : GlobT w0) (hm : xff_bare x_s = some R) :
    Calls Tryz.prog 51 #[str x_s] w0 fun e w' => e = .returned (.bool R) ∧ Below w0.heap.size w0 w' := by
 rw [xff_bare] at hm
 refine calls_enter (vs := [str x_s]) Tryz.func51 rfl Tryz.ntmps51 rfl fun a hf => ?_
 have hF : Away [] := away_nil
 have hO : Dk.Own w0 [] w0 [] := Dk.Own.refl w0
 refine wp_seq_k fun _ hK1 => ?_
 refine wp_region_list ?_
 refine op_as hf rfl rfl fun a hf => ?_
 refine wpList_nil ?_
 refine nor_then (hK1 _ _ ?_)
 refine wp_seq_cut (fun a w => ∃ (t5 : Bool), Fits 9 [(2, .bool t5)] a ∧ Dk.Own w0 [] w [] ∧ xff_bare_j1 t5 = some R) ?_ ?_
 refine wp_region_list ?_
 refine op_mv hf rfl rfl fun a hf => ?_
 obtain ⟨r2, hr2, hm⟩ := ob hm
 refine op_enter (ex_call c_102 hf (vs := [str x_s]) rfl) rfl hf rfl rfl (w_hostport_Four x_s r2 _ (hG.own hF hO) hr2) ?_
 rintro e w' ⟨he, hb⟩
 refine ⟨_, he, fun a hf => ?_⟩
 have hO := hO.grow hb
 refine op_mv hf rfl rfl fun a hf => ?_
 rcases bcase (r2) with hc3 | hc3
 have hm := it hc3 hm
 refine op_pass rfl hf rfl rfl (hc3) rfl rfl fun a hf => ?_
 refine op_pass rfl hf rfl rfl (hc3) rfl rfl fun a hf => ?_
 refine op_val (ex_pick_t hf rfl hc3 rfl) rfl hf rfl rfl fun a hf => ?_
 refine op_as hf rfl rfl fun a hf => ?_
 refine wpList_nil ?_
 refine nor_then ?_
 exact ⟨true, (hf.cons rfl hf.nil), hO, hm⟩
 have hm := ie hc3 hm
 refine op_guard rfl hf rfl rfl (hc3) ?_
 refine op_mv hf rfl rfl fun a hf => ?_
 refine op_guard rfl hf rfl rfl (hc3) ?_
 obtain ⟨r4, hr4, hm⟩ := ob hm
 refine op_enter (ex_call c_52 hf (vs := [str x_s]) rfl) rfl hf rfl rfl (w_hostport_Six x_s r4 _ (hG.own hF hO) hr4) ?_
 rintro e w' ⟨he, hb⟩
 refine ⟨_, he, fun a hf => ?_⟩
 have hO := hO.grow hb
 refine op_val (ex_pick_f hf rfl hc3 rfl) rfl hf rfl rfl fun a hf => ?_
 refine op_as hf rfl rfl fun a hf => ?_
 refine wpList_nil ?_
 refine nor_then ?_
 exact ⟨r4, (hf.cons rfl hf.nil), hO, hm⟩
 rintro a w ⟨t5, hf, hO, hm⟩
 rw [xff_bare_j1] at hm
 refine wp_ret ?_
 obtain rfl := Option.some.inj hm
 exact post_ret Tryz.results51 hf (.tmp rfl .nil) ⟨rfl, hO.below⟩

set_option maxHeartbeats 1000000 in
theorem w_octet_Same (x_a : Str) (x_b : Str) (R : Bool) (w0 : World) (hG : Glob w0) (hm : octet_Same x_a x_b = some R) :
    Calls Tryz.prog 53 #[str x_a, str x_b] w0 fun e w' => e = .returned (.bool R) ∧ Below w0.heap.size w0 w' := by
 rw [octet_Same] at hm
 refine calls_enter (vs := [str x_a, str x_b]) Tryz.func53 rfl Tryz.ntmps53 rfl fun a hf => ?_
 have hF : Away [] := away_nil
 have hO : Dk.Own w0 [] w0 [] := Dk.Own.refl w0
 refine wp_seq_k fun _ hK1 => ?_
 refine wp_region_list ?_
 refine op_as hf rfl rfl fun a hf => ?_
 refine wpList_nil ?_
 refine nor_then (hK1 _ _ ?_)
 refine wp_seq_k fun _ hK4 => ?_
 refine wp_region_list ?_
 refine op_mv hf rfl rfl fun a hf => ?_
 obtain ⟨r2, hr2, hm⟩ := ob hm
 refine op_enter (ex_call c_104 hf (vs := [str x_a]) rfl) rfl hf rfl rfl (w_octet_Fold x_a r2 _ (hG.own hF hO) hr2) ?_
 rintro e w' ⟨he, hb⟩
 refine ⟨_, he, fun a hf => ?_⟩
 have hO := hO.grow hb
 refine op_mv hf rfl rfl fun a hf => ?_
 obtain ⟨r3, hr3, hm⟩ := ob hm
 refine op_enter (ex_call c_104 hf (vs := [str x_b]) rfl) rfl hf rfl rfl (w_octet_Fold x_b r3 _ (hG.own hF hO) hr3) ?_
 rintro e w' ⟨he, hb⟩
 refine ⟨_, he, fun a hf => ?_⟩
 have hO := hO.grow hb
 refine op_val (ex_eql_s (l := r2) (m := r3) hf rfl rfl) rfl hf rfl rfl fun a hf => ?_
 refine op_as hf rfl rfl fun a hf => ?_
 refine wpList_nil ?_
 refine nor_then (hK4 _ _ ?_)
 refine wp_ret ?_
 obtain rfl := Option.some.inj hm
 exact post_ret Tryz.results53 hf (.tmp rfl .nil) ⟨rfl, hO.below⟩

set_option maxHeartbeats 1000000 in
theorem w_xff_Is (x_s : Str) (R : Bool) (w0 : World) (hG : GlobT w0) (hm : xff_Is x_s = some R) :
    Calls Tryz.prog 19 #[str x_s] w0 fun e w' => e = .returned (.bool R) ∧ Below w0.heap.size w0 w' := by
 rw [xff_Is] at hm
 refine calls_enter (vs := [str x_s]) Tryz.func19 rfl Tryz.ntmps19 rfl fun a hf => ?_
 have hF : Away [] := away_nil
 have hO : Dk.Own w0 [] w0 [] := Dk.Own.refl w0
 refine wp_seq_k fun _ hK1 => ?_
 refine wp_region_list ?_
 refine op_as hf rfl rfl fun a hf => ?_
 refine wpList_nil ?_
 refine nor_then (hK1 _ _ ?_)
 refine wp_seq_k fun _ hK3 => ?_
 refine wp_region_list ?_
 refine op_mv hf rfl rfl fun a hf => ?_
 obtain ⟨r2, hr2, hm⟩ := ob hm
 refine op_enter (ex_call c_49 hf (vs := [str x_s, str [91]]) rfl) rfl hf rfl rfl (w_strings_CutPrefix x_s [91] r2 _ (hG.own hF hO).1 hr2) ?_
 rintro e w' ⟨he, hb⟩
 refine ⟨_, he, fun a hf => ?_⟩
 have hO := hO.grow hb
 refine op_mv hf rfl rfl fun a hf => ?_
 refine op_val (ex_extract hf rfl rfl) rfl hf rfl rfl fun a hf => ?_
 refine op_val (ex_extract hf rfl rfl) rfl hf rfl rfl fun a hf => ?_
 refine op_as hf rfl rfl fun a hf => ?_
 refine op_as hf rfl rfl fun a hf => ?_
 refine wpList_nil ?_
 refine nor_then (hK3 _ _ ?_)
 refine wp_seq_k fun _ hK5 => ?_
 refine wp_region_list ?_
 refine op_mv hf rfl rfl fun a hf => ?_
 obtain ⟨r4, hr4, hm⟩ := ob hm
 refine op_enter (ex_call c_50 hf (vs := [str r2.1, str [93]]) rfl) rfl hf rfl rfl (w_strings_CutSuffix r2.1 [93] r4 _ (hG.own hF hO).1 hr4) ?_
 rintro e w' ⟨he, hb⟩
 refine ⟨_, he, fun a hf => ?_⟩
 have hO := hO.grow hb
 refine op_mv hf rfl rfl fun a hf => ?_
 refine op_val (ex_extract hf rfl rfl) rfl hf rfl rfl fun a hf => ?_
 refine op_val (ex_extract hf rfl rfl) rfl hf rfl rfl fun a hf => ?_
 refine op_as hf rfl rfl fun a hf => ?_
 refine op_as hf rfl rfl fun a hf => ?_
 refine wpList_nil ?_
 refine nor_then (hK5 _ _ ?_)
 refine wp_seq_cut (fun a w => ∃ (t15 : Bool), Fits 32 [(2, .bool t15)] a ∧ Dk.Own w0 [] w [] ∧ xff_Is_j1 t15 = some R) ?_ ?_
 refine wp_region_list ?_
 refine op_mv hf rfl rfl fun a hf => ?_
 obtain ⟨r6, hr6, hm⟩ := ob hm
 refine op_enter (ex_call c_51 hf (vs := [str x_s]) rfl) rfl hf rfl rfl (w_xff_bare x_s r6 _ (hG.own hF hO) hr6) ?_
 rintro e w' ⟨he, hb⟩
 refine ⟨_, he, fun a hf => ?_⟩
 have hO := hO.grow hb
 refine op_mv hf rfl rfl fun a hf => ?_
 rcases bcase (r6) with hc7 | hc7
 have hm := it hc7 hm
 refine op_pass rfl hf rfl rfl (hc7) rfl rfl fun a hf => ?_
 refine op_pass rfl hf rfl rfl (hc7) rfl rfl fun a hf => ?_
 refine op_passu rfl hf rfl rfl rfl rfl fun a hf => ?_
 refine op_pass rfl hf rfl rfl (hc7) rfl rfl fun a hf => ?_
 refine op_pass rfl hf rfl rfl (hc7) rfl rfl fun a hf => ?_
 refine op_passu rfl hf rfl rfl rfl rfl fun a hf => ?_
 refine op_passu rfl hf rfl rfl rfl rfl fun a hf => ?_
 refine op_pass rfl hf rfl rfl (hc7) rfl rfl fun a hf => ?_
 refine op_val (ex_pick_t hf rfl hc7 rfl) rfl hf rfl rfl fun a hf => ?_
 refine op_mv hf rfl rfl fun a hf => ?_
 refine op_pass rfl hf rfl rfl (rfl) rfl rfl fun a hf => ?_
 refine op_pass rfl hf rfl rfl (rfl) rfl rfl fun a hf => ?_
 refine op_val (ex_pick_t hf rfl rfl rfl) rfl hf rfl rfl fun a hf => ?_
 refine op_as hf rfl rfl fun a hf => ?_
 refine wpList_nil ?_
 refine nor_then ?_
 exact ⟨true, (hf.cons rfl hf.nil), hO, hm⟩
 have hm := ie hc7 hm
 refine op_guard rfl hf rfl rfl (hc7) ?_
 refine op_mv hf rfl rfl fun a hf => ?_
 refine op_guard rfl hf rfl rfl (hc7) ?_
 refine op_mv hf rfl rfl fun a hf => ?_
 rcases bcase (r2.2) with hc8 | hc8
 have hm := it hc8 hm
 refine op_guard rfl hf rfl rfl (hc8) ?_
 refine op_mv hf rfl rfl fun a hf => ?_
 refine op_guard rfl hf rfl rfl (hc7) ?_
 refine op_val (ex_pick_t hf rfl hc8 rfl) rfl hf rfl rfl fun a hf => ?_
 refine op_guard rfl hf rfl rfl (hc7) ?_
 refine op_mv hf rfl rfl fun a hf => ?_
 rcases bcase (r4.2) with hc9 | hc9
 have hm := it hc9 hm
 refine op_guard rfl hf rfl rfl (hc9) ?_
 refine op_mv hf rfl rfl fun a hf => ?_
 refine op_guard rfl hf rfl rfl (hc9) ?_
 obtain ⟨r10, hr10, hm⟩ := ob hm
 refine op_enter (ex_call c_52 hf (vs := [str r4.1]) rfl) rfl hf rfl rfl (w_hostport_Six r4.1 r10 _ (hG.own hF hO) hr10) ?_
 rintro e w' ⟨he, hb⟩
 refine ⟨_, he, fun a hf => ?_⟩
 have hO := hO.grow hb
 refine op_guard rfl hf rfl rfl (hc7) ?_
 refine op_val (ex_pick_t hf rfl hc9 rfl) rfl hf rfl rfl fun a hf => ?_
 refine op_val (ex_pick_f hf rfl hc7 rfl) rfl hf rfl rfl fun a hf => ?_
 refine op_mv hf rfl rfl fun a hf => ?_
 rcases bcase (r10) with hc11 | hc11
 have hm := it hc11 hm
 refine op_pass rfl hf rfl rfl (hc11) rfl rfl fun a hf => ?_
 refine op_pass rfl hf rfl rfl (hc11) rfl rfl fun a hf => ?_
 refine op_val (ex_pick_t hf rfl hc11 rfl) rfl hf rfl rfl fun a hf => ?_
 refine op_as hf rfl rfl fun a hf => ?_
 refine wpList_nil ?_
 refine nor_then ?_
 exact ⟨true, (hf.cons rfl hf.nil), hO, hm⟩
 have hm := ie hc11 hm
 refine op_guard rfl hf rfl rfl (hc11) ?_
 refine op_mv hf rfl rfl fun a hf => ?_
 refine op_guard rfl hf rfl rfl (hc11) ?_
 obtain ⟨r12, hr12, hm⟩ := ob hm
 refine op_enter (ex_call c_53 hf (vs := [str x_s, str [117, 110, 107, 110, 111, 119, 110]]) rfl) rfl hf rfl rfl (w_octet_Same x_s [117, 110, 107, 110, 111, 119, 110] r12 _ (hG.own hF hO).1 hr12) ?_
 rintro e w' ⟨he, hb⟩
 refine ⟨_, he, fun a hf => ?_⟩
 have hO := hO.grow hb
 refine op_val (ex_pick_f hf rfl hc11 rfl) rfl hf rfl rfl fun a hf => ?_
 refine op_as hf rfl rfl fun a hf => ?_
 refine wpList_nil ?_
 refine nor_then ?_
 exact ⟨r12, (hf.cons rfl hf.nil), hO, hm⟩
 have hm := ie hc9 hm
 refine op_pass rfl hf rfl rfl (hc9) rfl rfl fun a hf => ?_
 refine op_pass rfl hf rfl rfl (hc9) rfl rfl fun a hf => ?_
 refine op_guard rfl hf rfl rfl (hc7) ?_
 refine op_val (ex_pick_f hf rfl hc9 rfl) rfl hf rfl rfl fun a hf => ?_
 refine op_val (ex_pick_f hf rfl hc7 rfl) rfl hf rfl rfl fun a hf => ?_
 refine op_mv hf rfl rfl fun a hf => ?_
 refine op_guard rfl hf rfl rfl (rfl) ?_
 refine op_mv hf rfl rfl fun a hf => ?_
 refine op_guard rfl hf rfl rfl (rfl) ?_
 obtain ⟨r13, hr13, hm⟩ := ob hm
 refine op_enter (ex_call c_53 hf (vs := [str x_s, str [117, 110, 107, 110, 111, 119, 110]]) rfl) rfl hf rfl rfl (w_octet_Same x_s [117, 110, 107, 110, 111, 119, 110] r13 _ (hG.own hF hO).1 hr13) ?_
 rintro e w' ⟨he, hb⟩
 refine ⟨_, he, fun a hf => ?_⟩
 have hO := hO.grow hb
 refine op_val (ex_pick_f hf rfl rfl rfl) rfl hf rfl rfl fun a hf => ?_
 refine op_as hf rfl rfl fun a hf => ?_
 refine wpList_nil ?_
 refine nor_then ?_
 exact ⟨r13, (hf.cons rfl hf.nil), hO, hm⟩
 have hm := ie hc8 hm
 refine op_pass rfl hf rfl rfl (hc8) rfl rfl fun a hf => ?_
 refine op_guard rfl hf rfl rfl (hc7) ?_
 refine op_val (ex_pick_f hf rfl hc8 rfl) rfl hf rfl rfl fun a hf => ?_
 refine op_guard rfl hf rfl rfl (hc7) ?_
 refine op_mv hf rfl rfl fun a hf => ?_
 refine op_pass rfl hf rfl rfl (rfl) rfl rfl fun a hf => ?_
 refine op_pass rfl hf rfl rfl (rfl) rfl rfl fun a hf => ?_
 refine op_guard rfl hf rfl rfl (hc7) ?_
 refine op_val (ex_pick_f hf rfl rfl rfl) rfl hf rfl rfl fun a hf => ?_
 refine op_val (ex_pick_f hf rfl hc7 rfl) rfl hf rfl rfl fun a hf => ?_
 refine op_mv hf rfl rfl fun a hf => ?_
 refine op_guard rfl hf rfl rfl (rfl) ?_
 refine op_mv hf rfl rfl fun a hf => ?_
 refine op_guard rfl hf rfl rfl (rfl) ?_
 obtain ⟨r14, hr14, hm⟩ := ob hm
 refine op_enter (ex_call c_53 hf (vs := [str x_s, str [117, 110, 107, 110, 111, 119, 110]]) rfl) rfl hf rfl rfl (w_octet_Same x_s [117, 110, 107, 110, 111, 119, 110] r14 _ (hG.own hF hO).1 hr14) ?_
 rintro e w' ⟨he, hb⟩
 refine ⟨_, he, fun a hf => ?_⟩
 have hO := hO.grow hb
 refine op_val (ex_pick_f hf rfl rfl rfl) rfl hf rfl rfl fun a hf => ?_
 refine op_as hf rfl rfl fun a hf => ?_
 refine wpList_nil ?_
 refine nor_then ?_
 exact ⟨r14, (hf.cons rfl hf.nil), hO, hm⟩
 rintro a w ⟨t15, hf, hO, hm⟩
 rw [xff_Is_j1] at hm
 refine wp_ret ?_
 obtain rfl := Option.some.inj hm
 exact post_ret Tryz.results19 hf (.tmp rfl .nil) ⟨rfl, hO.below⟩

set_option maxHeartbeats 1000000 in
theorem w_xff_List (x_values : List Str) (R : List Str × Int) (w0 : World) (hG : GlobT w0) {x_values_p0 : Option Addr} {x_values_c0 : Nat} (hs0 : Sees w0 x_values_p0 (cells enc_str x_values)) (hc0 : x_values.length ≤ x_values_c0) (hm : xff_List x_values = some R) :
    Calls Tryz.prog 17 #[.slice x_values_p0 x_values.length x_values_c0] w0 fun e w' => ∃ (p0 : Option Addr) (c0 : Nat), e = .returned (.tuple #[.slice p0 R.1.length c0, int R.2]) ∧ Dk.Own w0 [] w' [.row (.slice p0 R.1.length c0) 9 1 R.1.length (cells enc_str R.1)] := by
 rw [xff_List] at hm
 refine calls_enter (vs := [.slice x_values_p0 x_values.length x_values_c0]) Tryz.func17 rfl Tryz.ntmps17 rfl fun a hf => ?_
 have hF : Away [] := away_nil
 have hO : Dk.Own w0 [] w0 [] := Dk.Own.refl w0
 have hO := hO.addShr hs0 (by simp [Res.shared])
 refine wp_seq_k fun _ hK1 => ?_
 refine wp_region_list ?_
 have hO := hO.nilRow 9 1
 refine op_as hf rfl rfl fun a hf => ?_
 refine op_as hf rfl rfl fun a hf => ?_
 refine wpList_nil ?_
 refine nor_then (hK1 _ _ ?_)
 refine wp_seq_k fun _ hK2 => ?_
 refine wp_region_list ?_
 have hO := hO.nilRow 9 1
 refine op_as hf rfl rfl fun a hf => ?_
 refine wpList_nil ?_
 refine nor_then (hK2 _ _ ?_)
 refine wp_seq_k fun _ hK44 => ?_
 refine wp_seq_k fun _ hK3 => ?_
 refine wp_region_list ?_
 refine op_mv hf rfl rfl fun a hf => ?_
 refine op_val (ex_len_l Tryz.underlying40 hf rfl) rfl hf rfl rfl fun a hf => ?_
 refine op_mv hf rfl rfl fun a hf => ?_
 refine wpList_nil ?_
 refine nor_then (hK3 _ _ ?_)
 refine wp_block ?_
 refine wp_loop_n (fun k a w => ∃ (p4 : Option Addr) (c5 : Nat) (l6 : List Str) (i7 : Int), Fits 40 [(4, .slice p4 l6.length c5), (11, .slice x_values_p0 x_values.length x_values_c0), (12, int (x_values.length : Int)), (13, int i7)] a ∧ Dk.Own w0 [] w [.row (.slice p4 l6.length c5) 9 1 l6.length (cells enc_str l6), .row (.slice none 0 0) 9 1 0 (cells enc_str []), .shr x_values_p0 (cells enc_str x_values)] ∧ xff_List_L1 x_values k l6 i7 = some R) ?_ fuel ?_
 rintro n1 a w ⟨p4, c5, l6, i7, hf, hO, hm⟩
 obtain _ | n1 := n1
 rw [xff_List_L1] at hm
 cases hm
 rw [xff_List_L1] at hm
 refine wp_seq_k fun _ hK8 => ?_
 refine wp_region_list ?_
 refine op_val (ex_lss (m := i7) (n := (x_values.length : Int)) hf rfl rfl) rfl hf rfl rfl fun a hf => ?_
 refine wpList_nil ?_
 refine nor_then (hK8 _ _ ?_)
 refine wp_seq_k fun _ hK10 => ?_
 refine wp_cond_cut hf rfl (fun hc9 => ?_) (fun hc9 => ?_)
 have hm := it hc9 hm
 refine wp_skip ?_
 refine nor_then (hK10 _ _ ?_)
 refine wp_seq_k fun _ hK42 => ?_
 refine wp_block ?_
 refine wp_seq_k fun _ hK14 => ?_
 refine wp_region_list ?_
 obtain ⟨x11, hx11, hm⟩ := ob hm
 obtain ⟨b12, o13, hix11, hSx11⟩ := elemAt (enc := enc_str) (sz := 1) (xs := x_values) 40 Tryz.underlying40 sz_9 (by decide) (fun _ => rfl) (hO.sees (i := 2) rfl) hx11
 refine op_val (ex_indexAddr hix11 hf rfl rfl) rfl hf rfl rfl fun a hf => ?_
 refine op_val (ex_load1 (o := 0) ag_9 (hSx11 _ (hO.sees (i := 2) rfl)) rfl hf rfl) rfl hf rfl rfl fun a hf => ?_
 refine op_as hf rfl rfl fun a hf => ?_
 refine wpList_nil ?_
 refine nor_then (hK14 _ _ ?_)
 refine wp_seq_k fun _ hK18 => ?_
 refine wp_region_list ?_
 refine op_mv hf rfl rfl fun a hf => ?_
 obtain ⟨r15, hr15, hm⟩ := ob hm
 refine op_enter (ex_call c_47 hf (vs := [str x11]) rfl) rfl hf rfl rfl (w_commas_Split x11 r15 _ (hG.own hF hO).1 hr15) ?_
 rintro e w' ⟨p16, c17, he, hO'⟩
 refine ⟨_, he, fun a hf => ?_⟩
 have hO := hO.call hO' (by simp [Res.shared])
 refine op_mv hf rfl rfl fun a hf => ?_
 refine op_val (ex_extract hf rfl rfl) rfl hf rfl rfl fun a hf => ?_
 refine op_val (ex_extract hf rfl rfl) rfl hf rfl rfl fun a hf => ?_
 refine op_as hf rfl rfl fun a hf => ?_
 refine op_as hf rfl rfl fun a hf => ?_
 refine wpList_nil ?_
 refine nor_then (hK18 _ _ ?_)
 refine wp_seq_k fun _ hK22 => ?_
 refine wp_seq_k fun _ hK19 => ?_
 refine wp_region_list ?_
 refine op_mv hf rfl rfl fun a hf => ?_
 refine op_val (ex_neq (m := r15.2) (n := 0) hf rfl rfl) rfl hf rfl rfl fun a hf => ?_
 refine wpList_nil ?_
 refine nor_then (hK19 _ _ ?_)
 refine wp_cond_cut hf rfl (fun hc20 => ?_) (fun hc20 => ?_)
 have hm := it hc20 hm
 refine wp_seq_k fun _ hK21 => ?_
 refine wp_region_list ?_
 refine op_mv hf rfl rfl fun a hf => ?_
 have hO := hO.nilRow 9 1
 refine op_as hf rfl rfl fun a hf => ?_
 refine op_as hf rfl rfl fun a hf => ?_
 refine wpList_nil ?_
 refine nor_then (hK21 _ _ ?_)
 refine wp_ret ?_
 refine ret_then ?_
 refine ret_block ?_
 refine ret_then ?_
 refine ret_then ?_
 refine ret_block ?_
 refine ret_then ?_
 obtain rfl := Option.some.inj hm
 exact post_ret Tryz.results17 hf (.tmp rfl (.tmp rfl .nil)) ⟨none, 0, rfl, (hO.sub (.cons_cons _ (.cons _ (.cons _ (.cons _ (.cons _ .slnil))))))⟩
 have hm := ie hc20 hm
 refine wp_skip ?_
 refine nor_then (hK22 _ _ ?_)
 refine wp_seq_k fun _ hK38 => ?_
 refine wp_seq_k fun _ hK23 => ?_
 refine wp_region_list ?_
 refine op_mv hf rfl rfl fun a hf => ?_
 refine op_val (ex_len_l Tryz.underlying40 hf rfl) rfl hf rfl rfl fun a hf => ?_
 refine op_mv hf rfl rfl fun a hf => ?_
 refine wpList_nil ?_
 refine nor_then (hK23 _ _ ?_)
 refine wp_block ?_
 refine wp_loop_n (fun k a w => ∃ (i24 : Int), Fits 40 [(4, .slice p4 l6.length c5), (7, .slice p16 r15.1.length c17), (11, .slice x_values_p0 x_values.length x_values_c0), (12, int (x_values.length : Int)), (13, int i7), (25, .slice p16 r15.1.length c17), (26, int (r15.1.length : Int)), (27, int i24)] a ∧ Dk.Own w0 [] w [.row (.slice p16 r15.1.length c17) 9 1 r15.1.length (cells enc_str r15.1), .row (.slice p4 l6.length c5) 9 1 l6.length (cells enc_str l6), .row (.slice none 0 0) 9 1 0 (cells enc_str []), .shr x_values_p0 (cells enc_str x_values)] ∧ xff_List_L2 (xff_List_L1 x_values n1) l6 i7 r15 k i24 = some R) ?_ fuel ?_
 rintro n2 a w ⟨i24, hf, hO, hm⟩
 obtain _ | n2 := n2
 rw [xff_List_L2] at hm
 cases hm
 rw [xff_List_L2] at hm
 refine wp_seq_k fun _ hK25 => ?_
 refine wp_region_list ?_
 refine op_val (ex_lss (m := i24) (n := (r15.1.length : Int)) hf rfl rfl) rfl hf rfl rfl fun a hf => ?_
 refine wpList_nil ?_
 refine nor_then (hK25 _ _ ?_)
 refine wp_seq_k fun _ hK27 => ?_
 refine wp_cond_cut hf rfl (fun hc26 => ?_) (fun hc26 => ?_)
 have hm := it hc26 hm
 refine wp_skip ?_
 refine nor_then (hK27 _ _ ?_)
 refine wp_seq_k fun _ hK36 => ?_
 refine wp_block ?_
 refine wp_seq_k fun _ hK31 => ?_
 refine wp_region_list ?_
 obtain ⟨x28, hx28, hm⟩ := ob hm
 obtain ⟨b29, o30, hix28, hSx28, hAx28⟩ := elemAtRow (enc := enc_str) (sz := 1) (xs := r15.1) 40 Tryz.underlying40 sz_9 (by decide) (fun _ => rfl) hO (i := 0) rfl hx28
 refine op_val (ex_indexAddr hix28 hf rfl rfl) rfl hf rfl rfl fun a hf => ?_
 refine op_val (ex_load1 (o := 0) ag_9 (hSx28 _ (hO.rowSees (i := 0) rfl)) rfl hf rfl) rfl hf rfl rfl fun a hf => ?_
 refine op_as hf rfl rfl fun a hf => ?_
 refine wpList_nil ?_
 refine nor_then (hK31 _ _ ?_)
 refine wp_seq_k fun _ hK33 => ?_
 refine wp_region_list ?_
 refine op_mv hf rfl rfl fun a hf => ?_
 obtain ⟨r32, hr32, hm⟩ := ob hm
 refine op_enter (ex_call c_19 hf (vs := [str x28]) rfl) rfl hf rfl rfl (w_xff_Is x28 r32 _ (hG.own hF hO) hr32) ?_
 rintro e w' ⟨he, hb⟩
 refine ⟨_, he, fun a hf => ?_⟩
 have hO := hO.grow hb
 refine op_val (ex_not hf rfl) rfl hf rfl rfl fun a hf => ?_
 refine wpList_nil ?_
 refine nor_then (hK33 _ _ ?_)
 refine wp_cond_cut hf rfl (fun hc34 => ?_) (fun hc34 => ?_)
 have hm := it hc34 hm
 refine wp_seq_k fun _ hK35 => ?_
 refine wp_region_list ?_
 have hO := hO.nilRow 9 1
 refine op_as hf rfl rfl fun a hf => ?_
 refine op_as hf rfl rfl fun a hf => ?_
 refine wpList_nil ?_
 refine nor_then (hK35 _ _ ?_)
 refine wp_ret ?_
 refine ret_block ?_
 refine ret_then ?_
 refine ret_then ?_
 refine ret_block ?_
 refine ret_then ?_
 refine ret_block ?_
 refine ret_then ?_
 refine ret_then ?_
 refine ret_block ?_
 refine ret_then ?_
 obtain rfl := Option.some.inj hm
 exact post_ret Tryz.results17 hf (.tmp rfl (.tmp rfl .nil)) ⟨none, 0, rfl, (hO.sub (.cons_cons _ (.cons _ (.cons _ (.cons _ (.cons _ .slnil))))))⟩
 have hm := ie hc34 hm
 refine wp_skip ?_
 refine nor_block ?_
 refine nor_then (hK36 _ _ ?_)
 refine wp_region_list ?_
 obtain ⟨i37, hi37, hm⟩ := ob hm
 refine op_val (ex_add hf rfl rfl hi37) rfl hf rfl rfl fun a hf => ?_
 refine op_mv hf rfl rfl fun a hf => ?_
 refine wpList_nil ?_
 refine nor_then ?_
 exact ⟨_, Nat.lt_succ_self _, i37, (hf.cons rfl (hf.cons rfl (hf.cons rfl (hf.cons rfl (hf.cons rfl (hf.cons rfl (hf.cons rfl (hf.cons rfl hf.nil)))))))), hO, hm⟩
 have hm := ie hc26 hm
 refine wp_exit ?_
 refine exit_then ?_
 refine exit_then ?_
 refine exit_here ?_
 refine nor_then (hK38 _ _ ?_)
 refine wp_region_list ?_
 refine op_mv hf rfl rfl fun a hf => ?_
 refine op_mv hf rfl rfl fun a hf => ?_
 obtain ⟨hg41, hm⟩ := og hm
 refine op_appendS el_40 (enc := enc_str) (xs := l6) (ys := r15.1) (i := 1) (fun _ => rfl) rfl (hO.rowSees (i := 0) rfl) (by simp [enc_str, Value.oneCell']) hg41 hf rfl rfl rfl hO fun a p39 c40 w hf hO => ?_
 refine op_as hf rfl rfl fun a hf => ?_
 refine wpList_nil ?_
 refine nor_block ?_
 refine nor_then (hK42 _ _ ?_)
 refine wp_region_list ?_
 obtain ⟨i43, hi43, hm⟩ := ob hm
 refine op_val (ex_add hf rfl rfl hi43) rfl hf rfl rfl fun a hf => ?_
 refine op_mv hf rfl rfl fun a hf => ?_
 refine wpList_nil ?_
 refine nor_then ?_
 exact ⟨_, Nat.lt_succ_self _, p39, c40, l6 ++ r15.1, i43, (hf.cons rfl (hf.cons rfl (hf.cons rfl (hf.cons rfl hf.nil)))), (hO.sub (.cons _ (.cons_cons _ (.cons_cons _ (.cons_cons _ .slnil))))), hm⟩
 exact ⟨0, (hf.cons rfl (hf.cons rfl (hf.cons rfl (hf.cons rfl (hf.cons rfl (hf.cons rfl (hf.cons rfl (hf.cons rfl hf.nil)))))))), hO, hm⟩
 have hm := ie hc9 hm
 refine wp_exit ?_
 refine exit_then ?_
 refine exit_then ?_
 refine exit_here ?_
 refine nor_then (hK44 _ _ ?_)
 refine wp_seq_k fun _ hK45 => ?_
 refine wp_region_list ?_
 refine op_mv hf rfl rfl fun a hf => ?_
 refine op_as hf rfl rfl fun a hf => ?_
 refine op_as hf rfl rfl fun a hf => ?_
 refine wpList_nil ?_
 refine nor_then (hK45 _ _ ?_)
 refine wp_ret ?_
 obtain rfl := Option.some.inj hm
 exact post_ret Tryz.results17 hf (.tmp rfl (.tmp rfl .nil)) ⟨p4, c5, rfl, (hO.sub (.cons_cons _ (.cons _ (.cons _ .slnil))))⟩
 exact ⟨none, 0, [], 0, (hf.cons rfl (hf.cons rfl (hf.cons rfl (hf.cons rfl hf.nil)))), hO, hm⟩

set_option maxHeartbeats 1000000 in
theorem w_slices_Clone_gapi_Field_api_Field_ (x_s : List api_Field) (R : List api_Field) (w0 : World) (hG : Glob w0) {x_s_p0 : Option Addr} {x_s_c0 : Nat} (hs0 : Sees w0 x_s_p0 (cells enc_api_Field x_s)) (hc0 : x_s.length ≤ x_s_c0) (hm : slices_Clone_gapi_Field_api_Field_ x_s = some R) :
    Calls Tryz.prog 142 #[.slice x_s_p0 x_s.length x_s_c0] w0 fun e w' => ∃ (p0 : Option Addr) (c0 : Nat), e = .returned (.slice p0 R.length c0) ∧ Dk.Own w0 [] w' [.row (.slice p0 R.length c0) 86 2 R.length (cells enc_api_Field R)] := by
 rw [slices_Clone_gapi_Field_api_Field_] at hm
 refine calls_enter (vs := [.slice x_s_p0 x_s.length x_s_c0]) Tryz.func142 rfl Tryz.ntmps142 rfl fun a hf => ?_
 have hF : Away [] := away_nil
 have hO : Dk.Own w0 [] w0 [] := Dk.Own.refl w0
 have hO := hO.addShr hs0 (by simp [Res.shared])
 refine wp_seq_k fun _ hK1 => ?_
 refine wp_region_list ?_
 have hO := hO.nilRow 86 2
 refine op_as hf rfl rfl fun a hf => ?_
 refine wpList_nil ?_
 refine nor_then (hK1 _ _ ?_)
 refine wp_seq_k fun _ hK5 => ?_
 refine wp_seq_k fun _ hK2 => ?_
 refine wp_region_list ?_
 refine op_mv hf rfl rfl fun a hf => ?_
 refine op_val (ex_eql_sn (ad := x_s_p0) Tryz.underlying25 hf rfl rfl) rfl hf rfl rfl fun a hf => ?_
 refine wpList_nil ?_
 refine nor_then (hK2 _ _ ?_)
 rcases bcase (x_s_p0.isNone) with hc3 | hc3
 have hxhc3 : x_s = [] := nil_cells (enc := enc_api_Field) (sz := 2) (fun _ => rfl) (by decide) (hO.sees (i := 1) rfl) hc3
 rw [hxhc3] at hm
 have hm : some [] = some R := by first | exact hm | (rw [hxhc3]; exact hm) | simpa [hxhc3] using hm
 refine wp_cond_t hf rfl hc3 ?_
 refine wp_seq_k fun _ hK4 => ?_
 refine wp_region_list ?_
 have hO := hO.nilRow 86 2
 refine op_as hf rfl rfl fun a hf => ?_
 refine wpList_nil ?_
 refine nor_then (hK4 _ _ ?_)
 refine wp_ret ?_
 refine ret_then ?_
 obtain rfl := Option.some.inj hm
 exact post_ret Tryz.results142 hf (.tmp rfl .nil) ⟨none, 0, rfl, (hO.sub (.cons_cons _ (.cons _ (.cons _ .slnil))))⟩
 refine wp_cond_f hf rfl hc3 ?_
 refine wp_skip ?_
 refine nor_then (hK5 _ _ ?_)
 refine wp_seq_k fun _ hK10 => ?_
 refine wp_region_list ?_
 refine op_buildSlice (vs := []) (cs := []) (e := 86) (sz := 2) hf rfl rfl (fun w => by kernel_rfl) rfl rfl hO fun a b6 w hf hO => ?_
 refine op_mv hf rfl rfl fun a hf => ?_
 obtain ⟨hg9, hm⟩ := og hm
 refine op_appendS el_25 (enc := enc_api_Field) (xs := []) (ys := x_s) (i := 0) (fun _ => rfl) rfl (hO.sees (i := 2) rfl) (by simp [enc_api_Field, Value.oneCell']) hg9 hf rfl rfl rfl hO fun a p7 c8 w hf hO => ?_
 refine op_as hf rfl rfl fun a hf => ?_
 refine wpList_nil ?_
 refine nor_then (hK10 _ _ ?_)
 refine wp_ret ?_
 obtain rfl := Option.some.inj hm
 exact post_ret Tryz.results142 hf (.tmp rfl .nil) ⟨p7, c8, rfl, (hO.sub (.cons_cons _ (.cons _ (.cons _ .slnil))))⟩

set_option maxHeartbeats 1000000 in
theorem w_bag_New (x_l : List api_Field) (R : bag_Bag) (w0 : World) (hG : Glob w0) {x_l_p0 : Option Addr} {x_l_c0 : Nat} (hs0 : Sees w0 x_l_p0 (cells enc_api_Field x_l)) (hc0 : x_l.length ≤ x_l_c0) (hm : bag_New x_l = some R) :
    Calls Tryz.prog 93 #[.slice x_l_p0 x_l.length x_l_c0] w0 fun e w' => ∃ (b0 : Nat) (p1 : Option Addr) (c1 : Nat), e = .returned (ptr b0 0) ∧ Dk.Own w0 [] w' [.blk b0 [.slice p1 R.f_l.length c1] 170, .row (.slice p1 R.f_l.length c1) 86 2 R.f_l.length (cells enc_api_Field R.f_l)] := by
 rw [bag_New] at hm
 refine calls_enter (vs := [.slice x_l_p0 x_l.length x_l_c0]) Tryz.func93 rfl Tryz.ntmps93 rfl fun a hf => ?_
 have hF : Away [] := away_nil
 have hO : Dk.Own w0 [] w0 [] := Dk.Own.refl w0
 have hO := hO.addShr hs0 (by simp [Res.shared])
 refine wp_seq_k fun _ hK1 => ?_
 refine wp_region_list ?_
 refine op_as hf rfl rfl fun a hf => ?_
 refine wpList_nil ?_
 refine nor_then (hK1 _ _ ?_)
 refine wp_seq_k fun _ hK6 => ?_
 refine wp_region_list ?_
 refine op_mv hf rfl rfl fun a hf => ?_
 obtain ⟨r2, hr2, hm⟩ := ob hm
 refine op_enter (ex_call c_142 hf (vs := [.slice x_l_p0 x_l.length x_l_c0]) rfl) rfl hf rfl rfl (w_slices_Clone_gapi_Field_api_Field_ x_l r2 _ (hG.own hF hO) (hO.sees (i := 0) rfl) hc0 hr2) ?_
 rintro e w' ⟨p3, c4, he, hO'⟩
 refine ⟨_, he, fun a hf => ?_⟩
 have hO := hO.call hO' (by simp [Res.shared])
 refine op_val (ex_build (vs := [(0, .slice p3 r2.length c4)]) (v := .agg #[.slice p3 r2.length c4]) hf rfl (by kernel_rfl)) rfl hf rfl rfl fun a hf => ?_
 refine op_box (v := .agg #[.slice p3 r2.length c4]) (cs := [.slice p3 r2.length c4]) rfl hf rfl rfl hO fun a b5 w hf hO => ?_
 refine op_as hf rfl rfl fun a hf => ?_
 refine wpList_nil ?_
 refine nor_then (hK6 _ _ ?_)
 refine wp_ret ?_
 obtain rfl := Option.some.inj hm
 exact post_ret Tryz.results93 hf (.tmp rfl .nil) ⟨b5, p3, c4, rfl, (hO.sub (.cons_cons _ (.cons_cons _ (.cons _ .slnil))))⟩

set_option maxHeartbeats 1000000 in
theorem w_commas_Join (x_l : List Str) (R : Str) (w0 : World) (hG : Glob w0) {x_l_p0 : Option Addr} {x_l_c0 : Nat} (hs0 : Sees w0 x_l_p0 (cells enc_str x_l)) (hc0 : x_l.length ≤ x_l_c0) (hm : commas_Join x_l = some R) :
    Calls Tryz.prog 185 #[.slice x_l_p0 x_l.length x_l_c0] w0 fun e w' => e = .returned (str R) ∧ Below w0.heap.size w0 w' := by
 rw [commas_Join] at hm
 refine calls_enter (vs := [.slice x_l_p0 x_l.length x_l_c0]) Tryz.func185 rfl Tryz.ntmps185 rfl fun a hf => ?_
 have hF : Away [] := away_nil
 have hO : Dk.Own w0 [] w0 [] := Dk.Own.refl w0
 have hO := hO.addShr hs0 (by simp [Res.shared])
 refine wp_seq_k fun _ hK1 => ?_
 refine wp_region_list ?_
 refine op_as hf rfl rfl fun a hf => ?_
 refine wpList_nil ?_
 refine nor_then (hK1 _ _ ?_)
 refine wp_seq_k fun _ hK3 => ?_
 refine wp_region_list ?_
 refine op_mv hf rfl rfl fun a hf => ?_
 obtain ⟨r2, hr2, hm⟩ := ob hm
 refine op_enter (ex_call c_44 hf (vs := [str [44, 32], .slice x_l_p0 x_l.length x_l_c0]) rfl) rfl hf rfl rfl (w_quill_Join [44, 32] x_l r2 _ (hG.own hF hO) (hO.sees (i := 0) rfl) hc0 hr2) ?_
 rintro e w' ⟨he, hb⟩
 refine ⟨_, he, fun a hf => ?_⟩
 have hO := hO.grow hb
 refine op_as hf rfl rfl fun a hf => ?_
 refine wpList_nil ?_
 refine nor_then (hK3 _ _ ?_)
 refine wp_ret ?_
 obtain rfl := Option.some.inj hm
 exact post_ret Tryz.results185 hf (.tmp rfl .nil) ⟨rfl, hO.below⟩

set_option maxHeartbeats 1000000 in
theorem w_commas_Append (x_s : Str) (x_l : List Str) (R : Str) (w0 : World) (hG : Glob w0) {x_l_p0 : Option Addr} {x_l_c0 : Nat} (hs0 : Sees w0 x_l_p0 (cells enc_str x_l)) (hc0 : x_l.length ≤ x_l_c0) (hm : commas_Append x_s x_l = some R) :
    Calls Tryz.prog 143 #[str x_s, .slice x_l_p0 x_l.length x_l_c0] w0 fun e w' => e = .returned (str R) ∧ Below w0.heap.size w0 w' := by
 rw [commas_Append] at hm
 refine calls_enter (vs := [str x_s, .slice x_l_p0 x_l.length x_l_c0]) Tryz.func143 rfl Tryz.ntmps143 rfl fun a hf => ?_
 have hF : Away [] := away_nil
 have hO : Dk.Own w0 [] w0 [] := Dk.Own.refl w0
 have hO := hO.addShr hs0 (by simp [Res.shared])
 refine wp_seq_k fun _ hK1 => ?_
 refine wp_region_list ?_
 refine op_as hf rfl rfl fun a hf => ?_
 refine wpList_nil ?_
 refine nor_then (hK1 _ _ ?_)
 refine wp_seq_k fun _ hK10 => ?_
 refine wp_block ?_
 refine wp_seq_k fun _ hK2 => ?_
 refine wp_region_list ?_
 refine op_mv hf rfl rfl fun a hf => ?_
 refine op_val (ex_len_l Tryz.underlying40 hf rfl) rfl hf rfl rfl fun a hf => ?_
 refine op_val (ex_eql (m := (x_l.length : Int)) (n := 0) hf rfl rfl) rfl hf rfl rfl fun a hf => ?_
 refine op_as hf rfl rfl fun a hf => ?_
 refine wpList_nil ?_
 refine nor_then (hK2 _ _ ?_)
 refine wp_cond_cut hf rfl (fun hc3 => ?_) (fun hc3 => ?_)
 have hm := it hc3 hm
 refine wp_seq_k fun _ hK4 => ?_
 refine wp_region_list ?_
 refine op_mv hf rfl rfl fun a hf => ?_
 refine op_as hf rfl rfl fun a hf => ?_
 refine wpList_nil ?_
 refine nor_then (hK4 _ _ ?_)
 refine wp_ret ?_
 refine ret_block ?_
 refine ret_then ?_
 obtain rfl := Option.some.inj hm
 exact post_ret Tryz.results143 hf (.tmp rfl .nil) ⟨rfl, hO.below⟩
 have hm := ie hc3 hm
 refine wp_seq_k fun _ hK6 => ?_
 refine wp_region_list ?_
 refine op_mv hf rfl rfl fun a hf => ?_
 obtain ⟨r5, hr5, hm⟩ := ob hm
 refine op_enter (ex_call c_112 hf (vs := [str x_s, str [32, 9, 44]]) rfl) rfl hf rfl rfl (w_strings_Trim x_s [32, 9, 44] r5 _ (hG.own hF hO) hr5) ?_
 rintro e w' ⟨he, hb⟩
 refine ⟨_, he, fun a hf => ?_⟩
 have hO := hO.grow hb
 refine op_val (ex_eql_s (l := r5) (m := []) hf rfl rfl) rfl hf rfl rfl fun a hf => ?_
 refine op_as hf rfl rfl fun a hf => ?_
 refine wpList_nil ?_
 refine nor_then (hK6 _ _ ?_)
 refine wp_cond_cut hf rfl (fun hc7 => ?_) (fun hc7 => ?_)
 have hm := it hc7 hm
 refine wp_seq_k fun _ hK9 => ?_
 refine wp_region_list ?_
 refine op_mv hf rfl rfl fun a hf => ?_
 obtain ⟨r8, hr8, hm⟩ := ob hm
 refine op_enter (ex_call c_185 hf (vs := [.slice x_l_p0 x_l.length x_l_c0]) rfl) rfl hf rfl rfl (w_commas_Join x_l r8 _ (hG.own hF hO) (hO.sees (i := 0) rfl) hc0 hr8) ?_
 rintro e w' ⟨he, hb⟩
 refine ⟨_, he, fun a hf => ?_⟩
 have hO := hO.grow hb
 refine op_as hf rfl rfl fun a hf => ?_
 refine wpList_nil ?_
 refine nor_then (hK9 _ _ ?_)
 refine wp_ret ?_
 refine ret_block ?_
 refine ret_then ?_
 obtain rfl := Option.some.inj hm
 exact post_ret Tryz.results143 hf (.tmp rfl .nil) ⟨rfl, hO.below⟩
 have hm := ie hc7 hm
 refine wp_skip ?_
 refine nor_block ?_
 refine nor_then (hK10 _ _ ?_)
 refine wp_seq_k fun _ hK17 => ?_
 refine wp_region_list ?_
 refine op_mv hf rfl rfl fun a hf => ?_
 obtain ⟨r11, hr11, hm⟩ := ob hm
 refine op_enter (ex_call c_186 hf (vs := [str x_s, str [32, 9]]) rfl) rfl hf rfl rfl (w_strings_TrimRight x_s [32, 9] r11 _ (hG.own hF hO) hr11) ?_
 rintro e w' ⟨he, hb⟩
 refine ⟨_, he, fun a hf => ?_⟩
 have hO := hO.grow hb
 refine op_buildSlice (vs := [(0, str r11)]) (cs := [str r11]) (e := 9) (sz := 1) hf rfl rfl (fun w => by kernel_rfl) rfl rfl hO fun a b12 w hf hO => ?_
 refine op_mv hf rfl rfl fun a hf => ?_
 obtain ⟨hg15, hm⟩ := og hm
 refine op_appendS el_40 (enc := enc_str) (xs := [r11]) (ys := x_l) (i := 0) (fun _ => rfl) rfl (hO.sees (i := 1) rfl) (by simp [enc_str, Value.oneCell']) hg15 hf rfl rfl rfl hO fun a p13 c14 w hf hO => ?_
 obtain ⟨r16, hr16, hm⟩ := ob hm
 refine op_enter (ex_call c_185 hf (vs := [.slice p13 (([r11] ++ x_l).length) c14]) rfl) rfl hf rfl rfl (w_commas_Join ([r11] ++ x_l) r16 _ (hG.own hF hO) (hO.rowSees (i := 0) rfl) (hO.rowCap (i := 0) rfl) hr16) ?_
 rintro e w' ⟨he, hb⟩
 refine ⟨_, he, fun a hf => ?_⟩
 have hO := hO.grow hb
 refine op_as hf rfl rfl fun a hf => ?_
 refine wpList_nil ?_
 refine nor_then (hK17 _ _ ?_)
 refine wp_ret ?_
 obtain rfl := Option.some.inj hm
 exact post_ret Tryz.results143 hf (.tmp rfl .nil) ⟨rfl, hO.below⟩

set_option maxHeartbeats 1000000 in
theorem w_bag_Bag_Add (x_b : bag_Bag) (x_l : List api_Field) (R : bag_Bag) (w0 : World) (hG : Glob w0) {x_b_b0 : Nat} {x_b_p1 : Option Addr} {x_b_c1 : Nat} {x_l_p2 : Option Addr} {x_l_c2 : Nat} {F : List Nat} (hF : Away F) (hO : Dk.Own w0 F w0 [.blk x_b_b0 [.slice x_b_p1 x_b.f_l.length x_b_c1] 170, .row (.slice x_b_p1 x_b.f_l.length x_b_c1) 86 2 x_b.f_l.length (cells enc_api_Field x_b.f_l), .shr x_l_p2 (cells enc_api_Field x_l)]) (hcw0 : x_l.length ≤ x_l_c2) (hm : bag_Bag_Add x_b x_l = some R) :
    Calls Tryz.prog 144 #[ptr x_b_b0 0, .slice x_l_p2 x_l.length x_l_c2] w0 fun e w' => ∃ (p0 : Option Addr) (c0 : Nat), e = .returned (.tuple #[]) ∧ Dk.Own w0 F w' [.blk x_b_b0 [.slice p0 R.f_l.length c0] 170, .row (.slice p0 R.f_l.length c0) 86 2 R.f_l.length (cells enc_api_Field R.f_l)] := by
 rw [bag_Bag_Add] at hm
 refine calls_enter (vs := [ptr x_b_b0 0, .slice x_l_p2 x_l.length x_l_c2]) Tryz.func144 rfl Tryz.ntmps144 rfl fun a hf => ?_
 refine wp_seq_k fun _ hK1 => ?_
 refine wp_region_list ?_
 refine op_mv hf rfl rfl fun a hf => ?_
 refine op_val (ex_neq_pn Tryz.underlying128 hf rfl rfl) rfl hf rfl rfl fun a hf => ?_
 refine wpList_nil ?_
 refine nor_then (hK1 _ _ ?_)
 refine wp_cond_t hf rfl rfl ?_
 refine wp_region_list ?_
 refine op_mv hf rfl rfl fun a hf => ?_
 refine op_mv hf rfl rfl fun a hf => ?_
 refine op_val (ex_nilCheck hf rfl) rfl hf rfl rfl fun a hf => ?_
 refine op_val (ex_field fa_170_0 hf rfl) rfl hf rfl rfl fun a hf => ?_
 refine op_val (ex_load1 (o := 0) ag_25 (hO.blkSees (i := 0) rfl) rfl hf rfl) rfl hf rfl rfl fun a hf => ?_
 refine op_mv hf rfl rfl fun a hf => ?_
 obtain ⟨hg4, hm⟩ := og hm
 refine op_appendS el_25 (enc := enc_api_Field) (xs := x_b.f_l) (ys := x_l) (i := 1) (fun _ => rfl) rfl (hO.sees (i := 2) rfl) (by simp [enc_api_Field, Value.oneCell']) hg4 hf rfl rfl rfl hO fun a p2 c3 w hf hO => ?_
 refine op_val (ex_nilCheck hf rfl) rfl hf rfl rfl fun a hf => ?_
 refine op_val (ex_field fa_170_0 hf rfl) rfl hf rfl rfl fun a hf => ?_
 refine op_store1 (i := 0) (o := 0) (v := .slice p2 ((x_b.f_l ++ x_l).length) c3) sz_25 rfl rfl rfl rfl hf rfl rfl hO fun w hO => ?_
 refine wpList_nil ?_
 obtain rfl := Option.some.inj hm
 exact post_end Tryz.results144 hf .nil ⟨p2, c3, rfl, (hO.sub (.cons_cons _ (.cons_cons _ (.cons _ .slnil))))⟩

set_option maxHeartbeats 1000000 in
theorem w_bag_Bag_Behind (x_b : bag_Bag) (x_name : Str) (x_element : Str) (R : bag_Bag) (w0 : World) (hG : Glob w0) {x_b_b0 : Nat} {x_b_p1 : Option Addr} {x_b_c1 : Nat} {F : List Nat} (hF : Away F) (hO : Dk.Own w0 F w0 [.blk x_b_b0 [.slice x_b_p1 x_b.f_l.length x_b_c1] 170, .row (.slice x_b_p1 x_b.f_l.length x_b_c1) 86 2 x_b.f_l.length (cells enc_api_Field x_b.f_l)]) (hm : bag_Bag_Behind x_b x_name x_element = some R) :
    Calls Tryz.prog 94 #[ptr x_b_b0 0, str x_name, str x_element] w0 fun e w' => ∃ (p0 : Option Addr) (c0 : Nat), e = .returned (.tuple #[]) ∧ Dk.Own w0 F w' [.blk x_b_b0 [.slice p0 R.f_l.length c0] 170, .row (.slice p0 R.f_l.length c0) 86 2 R.f_l.length (cells enc_api_Field R.f_l)] := by
 rw [bag_Bag_Behind] at hm
 refine calls_enter (vs := [ptr x_b_b0 0, str x_name, str x_element]) Tryz.func94 rfl Tryz.ntmps94 rfl fun a hf => ?_
 refine wp_seq_k fun _ hK2 => ?_
 refine wp_seq_k fun _ hK1 => ?_
 refine wp_region_list ?_
 refine op_mv hf rfl rfl fun a hf => ?_
 refine op_val (ex_eql_pn Tryz.underlying128 hf rfl rfl) rfl hf rfl rfl fun a hf => ?_
 refine wpList_nil ?_
 refine nor_then (hK1 _ _ ?_)
 refine wp_cond_f hf rfl rfl ?_
 refine wp_skip ?_
 refine nor_then (hK2 _ _ ?_)
 refine wp_seq_k fun _ hK27 => ?_
 refine wp_seq_k fun _ hK4 => ?_
 refine wp_region_list ?_
 refine op_mv hf rfl rfl fun a hf => ?_
 refine op_val (ex_nilCheck hf rfl) rfl hf rfl rfl fun a hf => ?_
 refine op_val (ex_field fa_170_0 hf rfl) rfl hf rfl rfl fun a hf => ?_
 refine op_val (ex_load1 (o := 0) ag_25 (hO.blkSees (i := 0) rfl) rfl hf rfl) rfl hf rfl rfl fun a hf => ?_
 refine op_val (ex_len_l Tryz.underlying25 hf rfl) rfl hf rfl rfl fun a hf => ?_
 obtain ⟨i3, hi3, hm⟩ := ob hm
 refine op_val (ex_sub hf rfl rfl hi3) rfl hf rfl rfl fun a hf => ?_
 refine op_as hf rfl rfl fun a hf => ?_
 refine wpList_nil ?_
 refine nor_then (hK4 _ _ ?_)
 refine wp_block ?_
 refine wp_loop_n (fun k a w => ∃ (i5 : Int), Fits 53 [(0, ptr x_b_b0 0), (1, str x_name), (2, str x_element), (6, int i5)] a ∧ Dk.Own w0 F w [.blk x_b_b0 [.slice x_b_p1 x_b.f_l.length x_b_c1] 170, .row (.slice x_b_p1 x_b.f_l.length x_b_c1) 86 2 x_b.f_l.length (cells enc_api_Field x_b.f_l)] ∧ bag_Bag_Behind_L1 x_b x_name x_element k i5 = some R) ?_ fuel ?_
 rintro n1 a w ⟨i5, hf, hO, hm⟩
 obtain _ | n1 := n1
 rw [bag_Bag_Behind_L1] at hm
 cases hm
 rw [bag_Bag_Behind_L1] at hm
 refine wp_seq_k fun _ hK8 => ?_
 refine wp_seq_k fun _ hK6 => ?_
 refine wp_region_list ?_
 refine op_mv hf rfl rfl fun a hf => ?_
 refine op_val (ex_geq (m := i5) (n := 0) hf rfl rfl) rfl hf rfl rfl fun a hf => ?_
 refine wpList_nil ?_
 refine nor_then (hK6 _ _ ?_)
 refine wp_cond_cut hf rfl (fun hc7 => ?_) (fun hc7 => ?_)
 have hm := it hc7 hm
 refine wp_skip ?_
 refine nor_then (hK8 _ _ ?_)
 refine wp_seq_k fun _ hK25 => ?_
 refine wp_block ?_
 refine wp_seq_k fun _ hK13 => ?_
 refine wp_region_list ?_
 refine op_mv hf rfl rfl fun a hf => ?_
 refine op_val (ex_nilCheck hf rfl) rfl hf rfl rfl fun a hf => ?_
 refine op_val (ex_field fa_170_0 hf rfl) rfl hf rfl rfl fun a hf => ?_
 refine op_val (ex_load1 (o := 0) ag_25 (hO.blkSees (i := 0) rfl) rfl hf rfl) rfl hf rfl rfl fun a hf => ?_
 refine op_mv hf rfl rfl fun a hf => ?_
 obtain ⟨x9, hx9, hm⟩ := ob hm
 obtain ⟨b10, o11, hix9, hSx9, hAx9⟩ := elemAtRow (enc := enc_api_Field) (sz := 2) (xs := x_b.f_l) 25 Tryz.underlying25 sz_86 (by decide) (fun _ => rfl) hO (i := 1) rfl hx9
 refine op_val (ex_indexAddr hix9 hf rfl rfl) rfl hf rfl rfl fun a hf => ?_
 refine op_val (ex_field fa_86_0 hf rfl) rfl hf rfl rfl fun a hf => ?_
 refine op_val (ex_load1 (o := 0) ag_9 (hSx9 _ (hO.rowSees (i := 1) rfl)) rfl hf rfl) rfl hf rfl rfl fun a hf => ?_
 refine op_mv hf rfl rfl fun a hf => ?_
 obtain ⟨r12, hr12, hm⟩ := ob hm
 refine op_enter (ex_call c_53 hf (vs := [str x9.Name, str x_name]) rfl) rfl hf rfl rfl (w_octet_Same x9.Name x_name r12 _ (hG.own hF hO) hr12) ?_
 rintro e w' ⟨he, hb⟩
 refine ⟨_, he, fun a hf => ?_⟩
 have hO := hO.grow hb
 refine wpList_nil ?_
 refine nor_then (hK13 _ _ ?_)
 refine wp_cond_cut hf rfl (fun hc14 => ?_) (fun hc14 => ?_)
 have hm := it hc14 hm
 refine wp_seq_k fun _ hK24 => ?_
 obtain ⟨x15, hx15, hm⟩ := ob hm
 obtain ⟨b16, o17, hix15, hSx15, hAx15⟩ := elemAtRow (enc := enc_api_Field) (sz := 2) (xs := x_b.f_l) 25 Tryz.underlying25 sz_86 (by decide) (fun _ => rfl) hO (i := 1) rfl hx15
 obtain ⟨r19, hr19, hm⟩ := ob hm
 obtain ⟨x20, hx20, hm⟩ := ob hm
 obtain ⟨b21, o22, hix20, hSx20, hAx20⟩ := elemAtRow (enc := enc_api_Field) (sz := 2) (xs := x_b.f_l) 25 Tryz.underlying25 sz_86 (by decide) (fun _ => rfl) hO (i := 1) rfl hx20
 obtain ⟨l23, hl23, hm⟩ := ob hm
 have hlnl23 := lSet_len hl23
 refine wp_drawS' (S := Nat) (E0 := [(0, ptr x_b_b0 0), (2, str x_element), (6, int i5)]) (by kernel_rfl) (fun k σ w => match k with | 0 => Dk.Own w0 F w [.blk x_b_b0 [.slice x_b_p1 x_b.f_l.length x_b_c1] 170, .row (.slice x_b_p1 x_b.f_l.length x_b_c1) 86 2 x_b.f_l.length (cells enc_api_Field x_b.f_l)] | 1 => Dk.Own w0 F w [.row (.slice (some ⟨σ, 0, none⟩) ([x_element].length) 1) 9 1 ([x_element].length) (cells enc_str [x_element]), .blk x_b_b0 [.slice x_b_p1 x_b.f_l.length x_b_c1] 170, .row (.slice x_b_p1 x_b.f_l.length x_b_c1) 86 2 x_b.f_l.length (cells enc_api_Field x_b.f_l)] | 2 => Dk.Own w0 F w [.row (.slice (some ⟨σ, 0, none⟩) ([x_element].length) 1) 9 1 ([x_element].length) (cells enc_str [x_element]), .blk x_b_b0 [.slice x_b_p1 x_b.f_l.length x_b_c1] 170, .row (.slice x_b_p1 x_b.f_l.length x_b_c1) 86 2 x_b.f_l.length (cells enc_api_Field x_b.f_l)] | _ => Dk.Own w0 F w [.row (.slice (some ⟨σ, 0, none⟩) ([x_element].length) 1) 9 1 ([x_element].length) (cells enc_str [x_element]), .blk x_b_b0 [.slice x_b_p1 x_b.f_l.length x_b_c1] 170, .row (.slice x_b_p1 x_b.f_l.length x_b_c1) 86 2 x_b.f_l.length (cells enc_api_Field l23)]) (fun σ => [⟨[(0, ptr x_b_b0 0)], some (29, ptr x_b_b0 0)⟩, ⟨[(29, ptr x_b_b0 0)], some (30, ptr x_b_b0 0)⟩, ⟨[(30, ptr x_b_b0 0)], some (31, ptr x_b_b0 0)⟩, ⟨[(31, ptr x_b_b0 0)], some (32, .slice x_b_p1 x_b.f_l.length x_b_c1)⟩, ⟨[(6, int i5)], some (33, int i5)⟩, ⟨[(0, ptr x_b_b0 0)], some (34, ptr x_b_b0 0)⟩, ⟨[(34, ptr x_b_b0 0)], some (35, ptr x_b_b0 0)⟩, ⟨[(35, ptr x_b_b0 0)], some (36, ptr x_b_b0 0)⟩, ⟨[(36, ptr x_b_b0 0)], some (37, .slice x_b_p1 x_b.f_l.length x_b_c1)⟩, ⟨[(6, int i5)], some (38, int i5)⟩, ⟨[(37, .slice x_b_p1 x_b.f_l.length x_b_c1), (38, int i5)], some (39, ptr b16 o17)⟩, ⟨[(39, ptr b16 o17)], some (40, ptr b16 (o17 + 1))⟩, ⟨[(40, ptr b16 (o17 + 1))], some (41, str x15.Value)⟩, ⟨[(2, str x_element)], some (42, str x_element)⟩, ⟨[(42, str x_element)], some (43, .slice (some ⟨σ, 0, none⟩) ([x_element].length) 1)⟩, ⟨[(41, str x15.Value), (43, .slice (some ⟨σ, 0, none⟩) ([x_element].length) 1)], some (44, str r19)⟩, ⟨[(32, .slice x_b_p1 x_b.f_l.length x_b_c1), (33, int i5)], some (45, ptr b21 o22)⟩, ⟨[(45, ptr b21 o22)], some (46, ptr b21 (o22 + 1))⟩, ⟨[(44, str r19), (46, ptr b21 (o22 + 1))], none⟩]) (0) [14, 15, 18] rfl (fun _ => rfl) (fun _ => rfl) (fun _ => rfl) rfl rfl (by decide) rfl hO.drew (hf.cons rfl (hf.cons rfl (hf.cons rfl hf.nil))) (fun σ => ⟨⟨rfl, trivial⟩, ⟨rfl, trivial⟩, ⟨rfl, trivial⟩, ⟨rfl, trivial⟩, ⟨rfl, trivial⟩, ⟨rfl, trivial⟩, ⟨rfl, trivial⟩, ⟨rfl, trivial⟩, ⟨rfl, trivial⟩, ⟨rfl, trivial⟩, ⟨rfl, rfl, trivial⟩, ⟨rfl, trivial⟩, ⟨rfl, trivial⟩, ⟨rfl, trivial⟩, ⟨rfl, trivial⟩, ⟨rfl, rfl, trivial⟩, ⟨rfl, rfl, trivial⟩, ⟨rfl, trivial⟩, ⟨rfl, rfl, trivial⟩, trivial⟩) ⟨sS_pure rfl (fun σ => rfl) (fun σ => rfl) (fun σ a w k _ _ _ _ hf => ex_move hf rfl), sS_pure rfl (fun σ => rfl) (fun σ => rfl) (fun σ a w k _ _ _ _ hf => ex_nilCheck hf rfl), sS_pure rfl (fun σ => rfl) (fun σ => rfl) (fun σ a w k _ _ _ _ hf => ex_field fa_170_0 hf rfl), sS_pure rfl (fun σ => rfl) (fun σ => rfl) (fun σ a w k hk hlo hup hst hf => match k, hk, hlo, hup, hst, hf with | 0, _, _, _, hst, hf => have hO : Dk.Own w0 F w [.blk x_b_b0 [.slice x_b_p1 x_b.f_l.length x_b_c1] 170, .row (.slice x_b_p1 x_b.f_l.length x_b_c1) 86 2 x_b.f_l.length (cells enc_api_Field x_b.f_l)] := hst; ex_load1 (o := 0) ag_25 (hO.blkSees (i := 0) rfl) rfl hf rfl | 1, _, _, _, hst, hf => have hO : Dk.Own w0 F w [.row (.slice (some ⟨σ, 0, none⟩) ([x_element].length) 1) 9 1 ([x_element].length) (cells enc_str [x_element]), .blk x_b_b0 [.slice x_b_p1 x_b.f_l.length x_b_c1] 170, .row (.slice x_b_p1 x_b.f_l.length x_b_c1) 86 2 x_b.f_l.length (cells enc_api_Field x_b.f_l)] := hst; ex_load1 (o := 0) ag_25 (hO.blkSees (i := 1) rfl) rfl hf rfl | 2, _, _, _, hst, hf => have hO : Dk.Own w0 F w [.row (.slice (some ⟨σ, 0, none⟩) ([x_element].length) 1) 9 1 ([x_element].length) (cells enc_str [x_element]), .blk x_b_b0 [.slice x_b_p1 x_b.f_l.length x_b_c1] 170, .row (.slice x_b_p1 x_b.f_l.length x_b_c1) 86 2 x_b.f_l.length (cells enc_api_Field x_b.f_l)] := hst; ex_load1 (o := 0) ag_25 (hO.blkSees (i := 1) rfl) rfl hf rfl | 3, _, _, _, hst, hf => have hO : Dk.Own w0 F w [.row (.slice (some ⟨σ, 0, none⟩) ([x_element].length) 1) 9 1 ([x_element].length) (cells enc_str [x_element]), .blk x_b_b0 [.slice x_b_p1 x_b.f_l.length x_b_c1] 170, .row (.slice x_b_p1 x_b.f_l.length x_b_c1) 86 2 x_b.f_l.length (cells enc_api_Field l23)] := hst; ex_load1 (o := 0) ag_25 (hO.blkSees (i := 1) rfl) rfl hf rfl | k + 4, hk, _, _, _, _ => absurd hk (by simp)), sS_pure rfl (fun σ => rfl) (fun σ => rfl) (fun σ a w k _ _ _ _ hf => ex_move hf rfl), sS_pure rfl (fun σ => rfl) (fun σ => rfl) (fun σ a w k _ _ _ _ hf => ex_move hf rfl), sS_pure rfl (fun σ => rfl) (fun σ => rfl) (fun σ a w k _ _ _ _ hf => ex_nilCheck hf rfl), sS_pure rfl (fun σ => rfl) (fun σ => rfl) (fun σ a w k _ _ _ _ hf => ex_field fa_170_0 hf rfl), sS_pure rfl (fun σ => rfl) (fun σ => rfl) (fun σ a w k hk hlo hup hst hf => match k, hk, hlo, hup, hst, hf with | 0, _, _, _, hst, hf => have hO : Dk.Own w0 F w [.blk x_b_b0 [.slice x_b_p1 x_b.f_l.length x_b_c1] 170, .row (.slice x_b_p1 x_b.f_l.length x_b_c1) 86 2 x_b.f_l.length (cells enc_api_Field x_b.f_l)] := hst; ex_load1 (o := 0) ag_25 (hO.blkSees (i := 0) rfl) rfl hf rfl | 1, _, _, _, hst, hf => have hO : Dk.Own w0 F w [.row (.slice (some ⟨σ, 0, none⟩) ([x_element].length) 1) 9 1 ([x_element].length) (cells enc_str [x_element]), .blk x_b_b0 [.slice x_b_p1 x_b.f_l.length x_b_c1] 170, .row (.slice x_b_p1 x_b.f_l.length x_b_c1) 86 2 x_b.f_l.length (cells enc_api_Field x_b.f_l)] := hst; ex_load1 (o := 0) ag_25 (hO.blkSees (i := 1) rfl) rfl hf rfl | 2, _, _, _, hst, hf => have hO : Dk.Own w0 F w [.row (.slice (some ⟨σ, 0, none⟩) ([x_element].length) 1) 9 1 ([x_element].length) (cells enc_str [x_element]), .blk x_b_b0 [.slice x_b_p1 x_b.f_l.length x_b_c1] 170, .row (.slice x_b_p1 x_b.f_l.length x_b_c1) 86 2 x_b.f_l.length (cells enc_api_Field x_b.f_l)] := hst; ex_load1 (o := 0) ag_25 (hO.blkSees (i := 1) rfl) rfl hf rfl | 3, _, _, _, hst, hf => have hO : Dk.Own w0 F w [.row (.slice (some ⟨σ, 0, none⟩) ([x_element].length) 1) 9 1 ([x_element].length) (cells enc_str [x_element]), .blk x_b_b0 [.slice x_b_p1 x_b.f_l.length x_b_c1] 170, .row (.slice x_b_p1 x_b.f_l.length x_b_c1) 86 2 x_b.f_l.length (cells enc_api_Field l23)] := hst; ex_load1 (o := 0) ag_25 (hO.blkSees (i := 1) rfl) rfl hf rfl | k + 4, hk, _, _, _, _ => absurd hk (by simp)), sS_pure rfl (fun σ => rfl) (fun σ => rfl) (fun σ a w k _ _ _ _ hf => ex_move hf rfl), sS_pure rfl (fun σ => rfl) (fun σ => rfl) (fun σ a w k _ _ _ _ hf => ex_indexAddr hix15 hf rfl rfl), sS_pure rfl (fun σ => rfl) (fun σ => rfl) (fun σ a w k _ _ _ _ hf => ex_field fa_86_1 hf rfl), sS_pure rfl (fun σ => rfl) (fun σ => rfl) (fun σ a w k hk hlo hup hst hf => match k, hk, hlo, hup, hst, hf with | 0, _, _, _, hst, hf => have hO : Dk.Own w0 F w [.blk x_b_b0 [.slice x_b_p1 x_b.f_l.length x_b_c1] 170, .row (.slice x_b_p1 x_b.f_l.length x_b_c1) 86 2 x_b.f_l.length (cells enc_api_Field x_b.f_l)] := hst; ex_load1 (o := 1) ag_9 (hSx15 _ (hO.rowSees (i := 1) rfl)) rfl hf rfl | 1, _, _, _, hst, hf => have hO : Dk.Own w0 F w [.row (.slice (some ⟨σ, 0, none⟩) ([x_element].length) 1) 9 1 ([x_element].length) (cells enc_str [x_element]), .blk x_b_b0 [.slice x_b_p1 x_b.f_l.length x_b_c1] 170, .row (.slice x_b_p1 x_b.f_l.length x_b_c1) 86 2 x_b.f_l.length (cells enc_api_Field x_b.f_l)] := hst; ex_load1 (o := 1) ag_9 (hSx15 _ (hO.rowSees (i := 2) rfl)) rfl hf rfl | 2, _, _, _, hst, hf => have hO : Dk.Own w0 F w [.row (.slice (some ⟨σ, 0, none⟩) ([x_element].length) 1) 9 1 ([x_element].length) (cells enc_str [x_element]), .blk x_b_b0 [.slice x_b_p1 x_b.f_l.length x_b_c1] 170, .row (.slice x_b_p1 x_b.f_l.length x_b_c1) 86 2 x_b.f_l.length (cells enc_api_Field x_b.f_l)] := hst; ex_load1 (o := 1) ag_9 (hSx15 _ (hO.rowSees (i := 2) rfl)) rfl hf rfl | 3, _, _, hup, _, _ => absurd (hup 1 (by decide) (by kernel_rfl)) (by decide) | k + 4, hk, _, _, _, _ => absurd hk (by simp)), sS_pure rfl (fun σ => rfl) (fun σ => rfl) (fun σ a w k _ _ _ _ hf => ex_move hf rfl), sS_val rfl (fun σ => rfl) (fun σ => rfl) rfl (fun σ w (hO : Dk.Own w0 F w [.blk x_b_b0 [.slice x_b_p1 x_b.f_l.length x_b_c1] 170, .row (.slice x_b_p1 x_b.f_l.length x_b_c1) 86 2 x_b.f_l.length (cells enc_api_Field x_b.f_l)]) => by obtain ⟨b18, w', hO', hr⟩ := ef_buildSlice (E := [(42, str x_element)]) (parts := #[(0, (.tmp 42))]) (t' := 40) (n := 1) (vs := [(0, str x_element)]) (cs := [str x_element]) (e := 9) (sz := 1) (fun w => by kernel_rfl) rfl rfl hO rfl; exact ⟨(b18), w', hO', ⟨.inr rfl, .inr rfl, .inr rfl, .inr rfl, .inr rfl, .inr rfl, .inr rfl, .inr rfl, .inr rfl, .inr rfl, .inr rfl, .inr rfl, .inr rfl, .inr rfl, .inl rfl, .inl rfl, .inr rfl, .inr rfl, .inr rfl, trivial⟩, hr⟩), sS_call rfl (fun σ => rfl) (fun σ => rfl) rfl (fun σ a w (_ : _) hf => ex_call c_143 hf (vs := [str x15.Value, .slice (some ⟨σ, 0, none⟩) ([x_element].length) 1]) rfl) (fun σ w (hO : Dk.Own w0 F w [.row (.slice (some ⟨σ, 0, none⟩) ([x_element].length) 1) 9 1 ([x_element].length) (cells enc_str [x_element]), .blk x_b_b0 [.slice x_b_p1 x_b.f_l.length x_b_c1] 170, .row (.slice x_b_p1 x_b.f_l.length x_b_c1) 86 2 x_b.f_l.length (cells enc_api_Field x_b.f_l)]) => (w_commas_Append x15.Value [x_element] r19 _ (hG.own hF hO) (hO.rowSees (i := 0) rfl) (hO.rowCap (i := 0) rfl) hr19).mono fun e w' h => by obtain ⟨he, hb⟩ := h; exact ⟨(σ), he, hO.grow hb, .inr rfl, .inr rfl, .inr rfl, .inr rfl, .inr rfl, .inr rfl, .inr rfl, .inr rfl, .inr rfl, .inr rfl, .inr rfl, .inr rfl, .inr rfl, .inr rfl, .inr rfl, .inr rfl, .inr rfl, .inr rfl, .inr rfl, trivial⟩), sS_pure rfl (fun σ => rfl) (fun σ => rfl) (fun σ a w k _ _ _ _ hf => ex_indexAddr hix20 hf rfl rfl), sS_pure rfl (fun σ => rfl) (fun σ => rfl) (fun σ a w k _ _ _ _ hf => ex_field fa_86_1 hf rfl), sS_skip rfl (fun σ => rfl) (fun σ => rfl) rfl (fun σ w (hO : Dk.Own w0 F w [.row (.slice (some ⟨σ, 0, none⟩) ([x_element].length) 1) 9 1 ([x_element].length) (cells enc_str [x_element]), .blk x_b_b0 [.slice x_b_p1 x_b.f_l.length x_b_c1] 170, .row (.slice x_b_p1 x_b.f_l.length x_b_c1) 86 2 x_b.f_l.length (cells enc_api_Field x_b.f_l)]) => by obtain ⟨w', hO', hr⟩ := ef_storeRow (x := (.tmp 46)) (y := (.tmp 44)) (E := [(44, str r19), (46, ptr b21 (o22 + 1))]) (enc := enc_api_Field) (i := 2) (rel := 1) (xs := x_b.f_l) (v := str r19) sz_9 (fun _ => rfl) rfl hAx20 hx20 hl23 rfl (by decide) rfl rfl hO rfl rfl; exact ⟨(σ), w', hO', ⟨.inr rfl, .inr rfl, .inr rfl, .inr rfl, .inr rfl, .inr rfl, .inr rfl, .inr rfl, .inr rfl, .inr rfl, .inr rfl, .inr rfl, .inr rfl, .inr rfl, .inr rfl, .inr rfl, .inr rfl, .inr rfl, .inr rfl, trivial⟩, hr⟩), trivial⟩ ?_
 rintro b18 a w hf hO
 have hO : Dk.Own w0 F w [.row (.slice (some ⟨b18, 0, none⟩) ([x_element].length) 1) 9 1 ([x_element].length) (cells enc_str [x_element]), .blk x_b_b0 [.slice x_b_p1 x_b.f_l.length x_b_c1] 170, .row (.slice x_b_p1 x_b.f_l.length x_b_c1) 86 2 x_b.f_l.length (cells enc_api_Field l23)] := hO
 have hf : Fits 53 [] a := hf.nil
 have hf : Fits 53 [] a := by first | exact hf | (simp only [hlnl23]; exact hf)
 have hO : Dk.Own w0 F w [.row (.slice (some ⟨b18, 0, none⟩) ([x_element].length) 1) 9 1 ([x_element].length) (cells enc_str [x_element]), .blk x_b_b0 [.slice x_b_p1 l23.length x_b_c1] 170, .row (.slice x_b_p1 l23.length x_b_c1) 86 2 l23.length (cells enc_api_Field l23)] := by first | exact hO | (simp only [hlnl23]; exact hO)
 refine nor_then (hK24 _ _ ?_)
 refine wp_ret ?_
 refine ret_block ?_
 refine ret_then ?_
 refine ret_then ?_
 refine ret_block ?_
 refine ret_then ?_
 obtain rfl := Option.some.inj hm
 exact post_ret Tryz.results94 hf .nil ⟨x_b_p1, x_b_c1, rfl, (hO.sub (.cons _ (.cons_cons _ (.cons_cons _ .slnil))))⟩
 have hm := ie hc14 hm
 refine wp_skip ?_
 refine nor_block ?_
 refine nor_then (hK25 _ _ ?_)
 refine wp_region_list ?_
 refine op_mv hf rfl rfl fun a hf => ?_
 obtain ⟨i26, hi26, hm⟩ := ob hm
 refine op_val (ex_sub hf rfl rfl hi26) rfl hf rfl rfl fun a hf => ?_
 refine op_as hf rfl rfl fun a hf => ?_
 refine wpList_nil ?_
 refine nor_then ?_
 exact ⟨_, Nat.lt_succ_self _, i26, (hf.cons rfl (hf.cons rfl (hf.cons rfl (hf.cons rfl hf.nil)))), hO, hm⟩
 have hm := ie hc7 hm
 refine wp_exit ?_
 refine exit_then ?_
 refine exit_then ?_
 refine exit_here ?_
 refine nor_then (hK27 _ _ ?_)
 refine wp_region_list ?_
 refine op_mv hf rfl rfl fun a hf => ?_
 refine op_mv hf rfl rfl fun a hf => ?_
 refine op_mv hf rfl rfl fun a hf => ?_
 refine op_val (ex_build (vs := [(0, str x_name), (1, str x_element)]) (v := .agg #[str x_name, str x_element]) hf rfl (by kernel_rfl)) rfl hf rfl rfl fun a hf => ?_
 refine op_buildSlice (vs := [(0, .agg #[str x_name, str x_element])]) (cs := [str x_name, str x_element]) (e := 86) (sz := 2) hf rfl rfl (fun w => by kernel_rfl) rfl rfl hO fun a b28 w hf hO => ?_
 obtain ⟨r29, hr29, hm⟩ := ob hm
 refine op_enter (ex_call c_144 hf (vs := [ptr x_b_b0 0, .slice (some ⟨b28, 0, none⟩) (([(⟨x_name, x_element⟩ : api_Field)]).length) 1]) rfl) rfl hf rfl rfl (w_bag_Bag_Add x_b ([(⟨x_name, x_element⟩ : api_Field)]) r29 _ (hG.own hF hO) (Dk.Own.far (show Dk.Own w0 F _ ([.blk x_b_b0 [.slice x_b_p1 x_b.f_l.length x_b_c1] 170, .row (.slice x_b_p1 x_b.f_l.length x_b_c1) 86 2 x_b.f_l.length (cells enc_api_Field x_b.f_l)] ++ [.row (.slice (some ⟨b28, 0, none⟩) (([(⟨x_name, x_element⟩ : api_Field)]).length) 1) 86 2 (([(⟨x_name, x_element⟩ : api_Field)]).length) (cells enc_api_Field ([(⟨x_name, x_element⟩ : api_Field)]))]) from hO.choose [1, 2, 0] rfl) rfl hF hG.size) ((show Dk.Own w0 F _ ([.blk x_b_b0 [.slice x_b_p1 x_b.f_l.length x_b_c1] 170, .row (.slice x_b_p1 x_b.f_l.length x_b_c1) 86 2 x_b.f_l.length (cells enc_api_Field x_b.f_l)] ++ [.row (.slice (some ⟨b28, 0, none⟩) (([(⟨x_name, x_element⟩ : api_Field)]).length) 1) 86 2 (([(⟨x_name, x_element⟩ : api_Field)]).length) (cells enc_api_Field ([(⟨x_name, x_element⟩ : api_Field)]))]) from hO.choose [1, 2, 0] rfl).lend rfl ⟨lent_row (hO.rowSees (i := 0) rfl) (List.mem_of_getElem? (i := 0) rfl), trivial⟩) (hO.rowCap (i := 0) rfl) hr29) ?_
 rintro e w' ⟨p30, c31, he, hO'⟩
 refine ⟨_, he, fun a hf => ?_⟩
 have hO := (show Dk.Own w0 F _ ([.blk x_b_b0 [.slice x_b_p1 x_b.f_l.length x_b_c1] 170, .row (.slice x_b_p1 x_b.f_l.length x_b_c1) 86 2 x_b.f_l.length (cells enc_api_Field x_b.f_l)] ++ [.row (.slice (some ⟨b28, 0, none⟩) (([(⟨x_name, x_element⟩ : api_Field)]).length) 1) 86 2 (([(⟨x_name, x_element⟩ : api_Field)]).length) (cells enc_api_Field ([(⟨x_name, x_element⟩ : api_Field)]))]) from hO.choose [1, 2, 0] rfl).back rfl hO' rfl
 refine wpList_nil ?_
 obtain rfl := Option.some.inj hm
 exact post_end Tryz.results94 hf .nil ⟨p30, c31, rfl, (hO.sub (.cons_cons _ (.cons_cons _ (.cons _ .slnil))))⟩
 exact ⟨i3, (hf.cons rfl (hf.cons rfl (hf.cons rfl (hf.cons rfl hf.nil)))), hO, hm⟩

set_option maxHeartbeats 1000000 in
theorem w_bag_Bag_List (x_b : bag_Bag) (R : List api_Field) (w0 : World) (hG : Glob w0) {x_b_b0 : Nat} {x_b_p1 : Option Addr} {x_b_c1 : Nat} (hs0 : Sees w0 (some ⟨x_b_b0, 0, none⟩) [.slice x_b_p1 x_b.f_l.length x_b_c1]) (hs1 : Sees w0 x_b_p1 (cells enc_api_Field x_b.f_l)) (hc1 : x_b.f_l.length ≤ x_b_c1) (hm : bag_Bag_List x_b = some R) :
    Calls Tryz.prog 95 #[ptr x_b_b0 0] w0 fun e w' => ∃ (p0 : Option Addr) (c0 : Nat), e = .returned (.slice p0 R.length c0) ∧ Dk.Own w0 [] w' [.row (.slice p0 R.length c0) 86 2 R.length (cells enc_api_Field R)] := by
 rw [bag_Bag_List] at hm
 refine calls_enter (vs := [ptr x_b_b0 0]) Tryz.func95 rfl Tryz.ntmps95 rfl fun a hf => ?_
 have hF : Away [] := away_nil
 have hO : Dk.Own w0 [] w0 [] := Dk.Own.refl w0
 have hO := hO.addShr hs0 (by simp [Res.shared])
 have hO := hO.addShr hs1 (by simp [Res.shared])
 refine wp_seq_k fun _ hK1 => ?_
 refine wp_region_list ?_
 have hO := hO.nilRow 86 2
 refine op_as hf rfl rfl fun a hf => ?_
 refine wpList_nil ?_
 refine nor_then (hK1 _ _ ?_)
 refine wp_seq_k fun _ hK3 => ?_
 refine wp_seq_k fun _ hK2 => ?_
 refine wp_region_list ?_
 refine op_mv hf rfl rfl fun a hf => ?_
 refine op_val (ex_eql_pn Tryz.underlying128 hf rfl rfl) rfl hf rfl rfl fun a hf => ?_
 refine wpList_nil ?_
 refine nor_then (hK2 _ _ ?_)
 refine wp_cond_f hf rfl rfl ?_
 refine wp_skip ?_
 refine nor_then (hK3 _ _ ?_)
 refine wp_seq_k fun _ hK7 => ?_
 refine wp_region_list ?_
 refine op_mv hf rfl rfl fun a hf => ?_
 refine op_val (ex_nilCheck hf rfl) rfl hf rfl rfl fun a hf => ?_
 refine op_val (ex_field fa_170_0 hf rfl) rfl hf rfl rfl fun a hf => ?_
 refine op_val (ex_load1 (o := 0) ag_25 (hO.sees (i := 2) rfl) rfl hf rfl) rfl hf rfl rfl fun a hf => ?_
 obtain ⟨r4, hr4, hm⟩ := ob hm
 refine op_enter (ex_call c_142 hf (vs := [.slice x_b_p1 x_b.f_l.length x_b_c1]) rfl) rfl hf rfl rfl (w_slices_Clone_gapi_Field_api_Field_ x_b.f_l r4 _ (hG.own hF hO) (hO.sees (i := 1) rfl) hc1 hr4) ?_
 rintro e w' ⟨p5, c6, he, hO'⟩
 refine ⟨_, he, fun a hf => ?_⟩
 have hO := hO.call hO' (by simp [Res.shared])
 refine op_as hf rfl rfl fun a hf => ?_
 refine wpList_nil ?_
 refine nor_then (hK7 _ _ ?_)
 refine wp_ret ?_
 obtain rfl := Option.some.inj hm
 exact post_ret Tryz.results95 hf (.tmp rfl .nil) ⟨p5, c6, rfl, (hO.sub (.cons_cons _ (.cons _ (.cons _ (.cons _ .slnil)))))⟩

end Go.Proofs
