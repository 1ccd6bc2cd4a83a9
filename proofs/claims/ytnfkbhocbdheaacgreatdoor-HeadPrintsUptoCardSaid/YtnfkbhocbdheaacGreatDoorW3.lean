/-
  Walks, written by a program (wip/gen): what its model says, the function returns; what was there before is as it was.
-/
import Derived.Test.YtnfkbhocbdheaacGreatDoorLib
import Derived.Test.YtnfkbhocbdheaacGreatDoorW0
import Derived.Test.YtnfkbhocbdheaacGreatDoorW1
import Derived.Test.YtnfkbhocbdheaacGreatDoorW2
set_option linter.unusedVariables false
set_option linter.unusedSimpArgs false
set_option maxRecDepth 100000
namespace Go.Proofs
open Go.Dk Go.Dm Go.RowKit

set_option maxHeartbeats 1000000 in
theorem w_octet_IsUnreserved (x_b : UInt8) (R : Bool) (w0 : World) (hG : Glob w0) (hm : octet_IsUnreserved x_b = some R) :
    Calls Tryz.prog 183 #[byte x_b] w0 fun e w' => e = .returned (.bool R) ∧ Below w0.heap.size w0 w' := by
 rw [octet_IsUnreserved] at hm
 refine calls_enter (vs := [byte x_b]) Tryz.func183 rfl Tryz.ntmps183 rfl fun a hf => ?_
 have hF : Away [] := away_nil
 have hO : Dk.Own w0 [] w0 [] := Dk.Own.refl w0
 refine wp_seq_k fun _ hK1 => ?_
 refine wp_region_list ?_
 refine op_as hf rfl rfl fun a hf => ?_
 refine wpList_nil ?_
 refine nor_then (hK1 _ _ ?_)
 refine wp_seq_cut (fun a w => ∃ (t7 : Bool), Fits 13 [(2, .bool t7)] a ∧ Dk.Own w0 [] w [] ∧ octet_IsUnreserved_j1 t7 = some R) ?_ ?_
 refine wp_region_list ?_
 refine op_mv hf rfl rfl fun a hf => ?_
 obtain ⟨r2, hr2, hm⟩ := ob hm
 refine op_enter (ex_call c_125 hf (vs := [byte x_b]) rfl) rfl hf rfl rfl (w_octet_IsAlpha x_b r2 _ (hG.own hF hO) hr2) ?_
 rintro e w' ⟨he, hb⟩
 refine ⟨_, he, fun a hf => ?_⟩
 have hO := hO.grow hb
 refine op_mv hf rfl rfl fun a hf => ?_
 rcases bcase (r2) with hc3 | hc3
 have hm := it hc3 hm
 refine op_pass rfl hf rfl rfl (hc3) rfl rfl fun a hf => ?_
 refine op_pass rfl hf rfl rfl (hc3) rfl rfl fun a hf => ?_
 refine op_val (ex_pick_t hf rfl hc3 rfl) rfl hf rfl rfl fun a hf => ?_
 refine op_mv hf rfl rfl fun a hf => ?_
 refine op_pass rfl hf rfl rfl (rfl) rfl rfl fun a hf => ?_
 refine op_pass rfl hf rfl rfl (rfl) rfl rfl fun a hf => ?_
 refine op_val (ex_pick_t hf rfl rfl rfl) rfl hf rfl rfl fun a hf => ?_
 refine op_as hf rfl rfl fun a hf => ?_
 refine wpList_nil ?_
 refine nor_then ?_
 exact ⟨true, (hf.cons rfl hf.nil), hO, hm⟩
 have hm := ie hc3 hm
 refine op_guard rfl hf rfl rfl (hc3) ?_
 refine op_mv hf rfl rfl fun a hf => ?_
 refine op_guard rfl hf rfl rfl (hc3) ?_
 obtain ⟨r4, hr4, hm⟩ := ob hm
 refine op_enter (ex_call c_100 hf (vs := [byte x_b]) rfl) rfl hf rfl rfl (w_octet_IsDigit x_b r4 _ (hG.own hF hO) hr4) ?_
 rintro e w' ⟨he, hb⟩
 refine ⟨_, he, fun a hf => ?_⟩
 have hO := hO.grow hb
 refine op_val (ex_pick_f hf rfl hc3 rfl) rfl hf rfl rfl fun a hf => ?_
 refine op_mv hf rfl rfl fun a hf => ?_
 rcases bcase (r4) with hc5 | hc5
 have hm := it hc5 hm
 refine op_pass rfl hf rfl rfl (hc5) rfl rfl fun a hf => ?_
 refine op_pass rfl hf rfl rfl (hc5) rfl rfl fun a hf => ?_
 refine op_val (ex_pick_t hf rfl hc5 rfl) rfl hf rfl rfl fun a hf => ?_
 refine op_as hf rfl rfl fun a hf => ?_
 refine wpList_nil ?_
 refine nor_then ?_
 exact ⟨true, (hf.cons rfl hf.nil), hO, hm⟩
 have hm := ie hc5 hm
 refine op_guard rfl hf rfl rfl (hc5) ?_
 refine op_mv hf rfl rfl fun a hf => ?_
 refine op_guard rfl hf rfl rfl (hc5) ?_
 obtain ⟨r6, hr6, hm⟩ := ob hm
 refine op_enter (ex_call c_126 hf (vs := [byte x_b, str [45, 46, 95, 126]]) rfl) rfl hf rfl rfl (w_octet_one x_b [45, 46, 95, 126] r6 _ (hG.own hF hO) hr6) ?_
 rintro e w' ⟨he, hb⟩
 refine ⟨_, he, fun a hf => ?_⟩
 have hO := hO.grow hb
 refine op_val (ex_pick_f hf rfl hc5 rfl) rfl hf rfl rfl fun a hf => ?_
 refine op_as hf rfl rfl fun a hf => ?_
 refine wpList_nil ?_
 refine nor_then ?_
 exact ⟨r6, (hf.cons rfl hf.nil), hO, hm⟩
 rintro a w ⟨t7, hf, hO, hm⟩
 rw [octet_IsUnreserved_j1] at hm
 refine wp_ret ?_
 obtain rfl := Option.some.inj hm
 exact post_ret Tryz.results183 hf (.tmp rfl .nil) ⟨rfl, hO.below⟩

set_option maxHeartbeats 1000000 in
theorem w_octet_IsSub (x_b : UInt8) (R : Bool) (w0 : World) (hG : Glob w0) (hm : octet_IsSub x_b = some R) :
    Calls Tryz.prog 184 #[byte x_b] w0 fun e w' => e = .returned (.bool R) ∧ Below w0.heap.size w0 w' := by
 rw [octet_IsSub] at hm
 refine calls_enter (vs := [byte x_b]) Tryz.func184 rfl Tryz.ntmps184 rfl fun a hf => ?_
 have hF : Away [] := away_nil
 have hO : Dk.Own w0 [] w0 [] := Dk.Own.refl w0
 refine wp_seq_k fun _ hK1 => ?_
 refine wp_region_list ?_
 refine op_as hf rfl rfl fun a hf => ?_
 refine wpList_nil ?_
 refine nor_then (hK1 _ _ ?_)
 refine wp_seq_k fun _ hK3 => ?_
 refine wp_region_list ?_
 refine op_mv hf rfl rfl fun a hf => ?_
 obtain ⟨r2, hr2, hm⟩ := ob hm
 refine op_enter (ex_call c_126 hf (vs := [byte x_b, str [33, 36, 38, 39, 40, 41, 42, 43, 44, 59, 61]]) rfl) rfl hf rfl rfl (w_octet_one x_b [33, 36, 38, 39, 40, 41, 42, 43, 44, 59, 61] r2 _ (hG.own hF hO) hr2) ?_
 rintro e w' ⟨he, hb⟩
 refine ⟨_, he, fun a hf => ?_⟩
 have hO := hO.grow hb
 refine op_as hf rfl rfl fun a hf => ?_
 refine wpList_nil ?_
 refine nor_then (hK3 _ _ ?_)
 refine wp_ret ?_
 obtain rfl := Option.some.inj hm
 exact post_ret Tryz.results184 hf (.tmp rfl .nil) ⟨rfl, hO.below⟩

set_option maxHeartbeats 1000000 in
theorem w_hostport_Name (x_s : Str) (R : Bool) (w0 : World) (hG : Glob w0) (hm : hostport_Name x_s = some R) :
    Calls Tryz.prog 165 #[str x_s] w0 fun e w' => e = .returned (.bool R) ∧ Below w0.heap.size w0 w' := by
 rw [hostport_Name] at hm
 refine calls_enter (vs := [str x_s]) Tryz.func165 rfl Tryz.ntmps165 rfl fun a hf => ?_
 have hF : Away [] := away_nil
 have hO : Dk.Own w0 [] w0 [] := Dk.Own.refl w0
 refine wp_seq_k fun _ hK1 => ?_
 refine wp_region_list ?_
 refine op_as hf rfl rfl fun a hf => ?_
 refine wpList_nil ?_
 refine nor_then (hK1 _ _ ?_)
 refine wp_seq_k fun _ hK5 => ?_
 refine wp_seq_k fun _ hK2 => ?_
 refine wp_region_list ?_
 refine op_mv hf rfl rfl fun a hf => ?_
 refine op_val (ex_eql_s (l := x_s) (m := []) hf rfl rfl) rfl hf rfl rfl fun a hf => ?_
 refine wpList_nil ?_
 refine nor_then (hK2 _ _ ?_)
 refine wp_cond_cut hf rfl (fun hc3 => ?_) (fun hc3 => ?_)
 have hm := it hc3 hm
 refine wp_seq_k fun _ hK4 => ?_
 refine wp_region_list ?_
 refine op_as hf rfl rfl fun a hf => ?_
 refine wpList_nil ?_
 refine nor_then (hK4 _ _ ?_)
 refine wp_ret ?_
 refine ret_then ?_
 obtain rfl := Option.some.inj hm
 exact post_ret Tryz.results165 hf (.tmp rfl .nil) ⟨rfl, hO.below⟩
 have hm := ie hc3 hm
 refine wp_skip ?_
 refine nor_then (hK5 _ _ ?_)
 refine wp_seq_k fun _ hK23 => ?_
 refine wp_block ?_
 refine wp_loop_n (fun k a w => ∃ (s6 : Str), Fits 23 [(0, str s6)] a ∧ Dk.Own w0 [] w [] ∧ hostport_Name_L1 k s6 = some R) ?_ fuel ?_
 rintro n1 a w ⟨s6, hf, hO, hm⟩
 obtain _ | n1 := n1
 rw [hostport_Name_L1] at hm
 cases hm
 rw [hostport_Name_L1] at hm
 refine wp_seq_k fun _ hK9 => ?_
 refine wp_seq_k fun _ hK7 => ?_
 refine wp_region_list ?_
 refine op_mv hf rfl rfl fun a hf => ?_
 refine op_val (ex_neq_s (l := s6) (m := []) hf rfl rfl) rfl hf rfl rfl fun a hf => ?_
 refine wpList_nil ?_
 refine nor_then (hK7 _ _ ?_)
 refine wp_cond_cut hf rfl (fun hc8 => ?_) (fun hc8 => ?_)
 have hm := it hc8 hm
 refine wp_skip ?_
 refine nor_then (hK9 _ _ ?_)
 refine wp_block ?_
 refine wp_block ?_
 refine wp_seq_k fun _ hK11 => ?_
 refine wp_region_list ?_
 refine op_mv hf rfl rfl fun a hf => ?_
 obtain ⟨r10, hr10, hm⟩ := ob hm
 refine op_enter (ex_call c_182 hf (vs := [str s6]) rfl) rfl hf rfl rfl (w_hostport_percent s6 r10 _ (hG.own hF hO) hr10) ?_
 rintro e w' ⟨he, hb⟩
 refine ⟨_, he, fun a hf => ?_⟩
 have hO := hO.grow hb
 refine op_as hf rfl rfl fun a hf => ?_
 refine wpList_nil ?_
 refine nor_then (hK11 _ _ ?_)
 refine wp_cond_cut hf rfl (fun hc12 => ?_) (fun hc12 => ?_)
 have hm := it hc12 hm
 refine wp_region_list ?_
 refine op_mv hf rfl rfl fun a hf => ?_
 obtain ⟨s13, hs13, hm⟩ := ob hm
 refine op_val (ex_from_s (l := s6) Tryz.underlying9 hf rfl rfl hs13) rfl hf rfl rfl fun a hf => ?_
 refine op_as hf rfl rfl fun a hf => ?_
 refine wpList_nil ?_
 refine nor_block ?_
 refine nor_block ?_
 refine nor_then ?_
 exact ⟨_, Nat.lt_succ_self _, s13, (hf.cons rfl hf.nil), hO, hm⟩
 have hm := ie hc12 hm
 refine wp_seq_cut (fun a w => ∃ (t19 : Bool), Fits 23 [(0, str s6), (12, .bool t19)] a ∧ Dk.Own w0 [] w [] ∧ hostport_Name_j2 (hostport_Name_L1 n1) s6 t19 = some R) ?_ ?_
 refine wp_region_list ?_
 refine op_mv hf rfl rfl fun a hf => ?_
 obtain ⟨b14, hb14, hm⟩ := ob hm
 refine op_val (ex_index (l := s6) Tryz.underlying9 hf rfl rfl hb14) rfl hf rfl rfl fun a hf => ?_
 obtain ⟨r15, hr15, hm⟩ := ob hm
 refine op_enter (ex_call c_183 hf (vs := [byte b14]) rfl) rfl hf rfl rfl (w_octet_IsUnreserved b14 r15 _ (hG.own hF hO) hr15) ?_
 rintro e w' ⟨he, hb⟩
 refine ⟨_, he, fun a hf => ?_⟩
 have hO := hO.grow hb
 refine op_mv hf rfl rfl fun a hf => ?_
 rcases bcase (r15) with hc16 | hc16
 have hm := it hc16 hm
 refine op_pass rfl hf rfl rfl (hc16) rfl rfl fun a hf => ?_
 refine op_pass rfl hf rfl rfl (hc16) rfl rfl fun a hf => ?_
 refine op_pass rfl hf rfl rfl (hc16) rfl rfl fun a hf => ?_
 refine op_val (ex_pick_t hf rfl hc16 rfl) rfl hf rfl rfl fun a hf => ?_
 refine op_as hf rfl rfl fun a hf => ?_
 refine wpList_nil ?_
 refine nor_then ?_
 exact ⟨true, (hf.cons rfl (hf.cons rfl hf.nil)), hO, hm⟩
 have hm := ie hc16 hm
 refine op_guard rfl hf rfl rfl (hc16) ?_
 refine op_mv hf rfl rfl fun a hf => ?_
 refine op_guard rfl hf rfl rfl (hc16) ?_
 obtain ⟨b17, hb17, hm⟩ := ob hm
 refine op_val (ex_index (l := s6) Tryz.underlying9 hf rfl rfl hb17) rfl hf rfl rfl fun a hf => ?_
 refine op_guard rfl hf rfl rfl (hc16) ?_
 obtain ⟨r18, hr18, hm⟩ := ob hm
 refine op_enter (ex_call c_184 hf (vs := [byte b17]) rfl) rfl hf rfl rfl (w_octet_IsSub b17 r18 _ (hG.own hF hO) hr18) ?_
 rintro e w' ⟨he, hb⟩
 refine ⟨_, he, fun a hf => ?_⟩
 have hO := hO.grow hb
 refine op_val (ex_pick_f hf rfl hc16 rfl) rfl hf rfl rfl fun a hf => ?_
 refine op_as hf rfl rfl fun a hf => ?_
 refine wpList_nil ?_
 refine nor_then ?_
 exact ⟨r18, (hf.cons rfl (hf.cons rfl hf.nil)), hO, hm⟩
 rintro a w ⟨t19, hf, hO, hm⟩
 rw [hostport_Name_j2] at hm
 refine wp_cond_cut hf rfl (fun hc20 => ?_) (fun hc20 => ?_)
 have hm := it hc20 hm
 refine wp_region_list ?_
 refine op_mv hf rfl rfl fun a hf => ?_
 obtain ⟨s21, hs21, hm⟩ := ob hm
 refine op_val (ex_from_s (l := s6) Tryz.underlying9 hf rfl rfl hs21) rfl hf rfl rfl fun a hf => ?_
 refine op_as hf rfl rfl fun a hf => ?_
 refine wpList_nil ?_
 refine nor_block ?_
 refine nor_block ?_
 refine nor_then ?_
 exact ⟨_, Nat.lt_succ_self _, s21, (hf.cons rfl hf.nil), hO, hm⟩
 have hm := ie hc20 hm
 refine wp_seq_k fun _ hK22 => ?_
 refine wp_region_list ?_
 refine op_as hf rfl rfl fun a hf => ?_
 refine wpList_nil ?_
 refine nor_then (hK22 _ _ ?_)
 refine wp_ret ?_
 refine ret_block ?_
 refine ret_block ?_
 refine ret_then ?_
 refine ret_block ?_
 refine ret_then ?_
 obtain rfl := Option.some.inj hm
 exact post_ret Tryz.results165 hf (.tmp rfl .nil) ⟨rfl, hO.below⟩
 have hm := ie hc8 hm
 refine wp_exit ?_
 refine exit_then ?_
 refine exit_then ?_
 refine exit_here ?_
 refine nor_then (hK23 _ _ ?_)
 refine wp_seq_k fun _ hK24 => ?_
 refine wp_region_list ?_
 refine op_as hf rfl rfl fun a hf => ?_
 refine wpList_nil ?_
 refine nor_then (hK24 _ _ ?_)
 refine wp_ret ?_
 obtain rfl := Option.some.inj hm
 exact post_ret Tryz.results165 hf (.tmp rfl .nil) ⟨rfl, hO.below⟩
 exact ⟨x_s, (hf.cons rfl hf.nil), hO, hm⟩

set_option maxHeartbeats 1000000 in
theorem w_hostport_of (x_s : Str) (R : api_Host × Bool) (w0 : World) (hG : GlobT w0) (hm : hostport_of x_s = some R) :
    Calls Tryz.prog 134 #[str x_s] w0 fun e w' => e = .returned (.tuple #[.agg #[int R.1.Kind, str R.1.Name, int R.1.Port], .bool R.2]) ∧ Below w0.heap.size w0 w' := by
 rw [hostport_of] at hm
 refine calls_enter (vs := [str x_s]) Tryz.func134 rfl Tryz.ntmps134 rfl fun a hf => ?_
 have hF : Away [] := away_nil
 have hO : Dk.Own w0 [] w0 [] := Dk.Own.refl w0
 refine wp_seq_k fun _ hK2 => ?_
 refine wp_region_list ?_
 refine op_alloc al_81 hf rfl hO fun a b1 w hf hO => ?_
 refine op_as hf rfl rfl fun a hf => ?_
 refine wpList_nil ?_
 refine nor_then (hK2 _ _ ?_)
 refine wp_seq_k fun _ hK4 => ?_
 refine wp_region_list ?_
 refine op_mv hf rfl rfl fun a hf => ?_
 refine op_val (ex_build (vs := [(1, str x_s), (2, int (-1))]) (v := .agg #[int 0, str x_s, int (-1)]) hf rfl (by kernel_rfl)) rfl hf rfl rfl fun a hf => ?_
 refine op_alloc al_81 hf rfl hO fun a b3 w hf hO => ?_
 refine op_storeN (i := 0) (n := 3) sz_81 rfl rfl rfl (by simp [Value.oneCell']) hf rfl rfl hO fun w hO => ?_
 refine wpList_nil ?_
 refine nor_then (hK4 _ _ ?_)
 refine wp_seq_cut (fun a w => ∃ (i24 : Int) (s25 : Str), Fits 51 [(2, ptr b1 0), (4, ptr b3 0)] a ∧ Dk.Own w0 [] w [.blk b3 [int i24, str s25, int (-1)] 81, .blk b1 [int 0, str [], int 0] 81] ∧ hostport_of_j2 i24 s25 = some R) ?_ ?_
 refine wp_block ?_
 refine wp_seq_cut (fun a w => ∃ (t14 : Bool), Fits 51 [(0, str x_s), (2, ptr b1 0), (4, ptr b3 0), (7, .bool t14)] a ∧ Dk.Own w0 [] w [.blk b3 [int 0, str x_s, int (-1)] 81, .blk b1 [int 0, str [], int 0] 81] ∧ hostport_of_j1 x_s t14 = some R) ?_ ?_
 refine wp_region_list ?_
 refine op_mv hf rfl rfl fun a hf => ?_
 refine op_val (ex_len_s (l := x_s) Tryz.underlying9 hf rfl) rfl hf rfl rfl fun a hf => ?_
 refine op_val (ex_gtr (m := (x_s.length : Int)) (n := 2) hf rfl rfl) rfl hf rfl rfl fun a hf => ?_
 refine op_mv hf rfl rfl fun a hf => ?_
 rcases bcase (decide (2 < (x_s.length : Int))) with hc5 | hc5
 have hm := it hc5 hm
 refine op_guard rfl hf rfl rfl (hc5) ?_
 refine op_mv hf rfl rfl fun a hf => ?_
 refine op_guard rfl hf rfl rfl (hc5) ?_
 obtain ⟨b6, hb6, hm⟩ := ob hm
 refine op_val (ex_index (l := x_s) Tryz.underlying9 hf rfl rfl hb6) rfl hf rfl rfl fun a hf => ?_
 refine op_guard rfl hf rfl rfl (hc5) ?_
 refine op_val (ex_eql_b (b := b6) (c := 91) hf rfl rfl) rfl hf rfl rfl fun a hf => ?_
 refine op_val (ex_pick_t hf rfl hc5 rfl) rfl hf rfl rfl fun a hf => ?_
 refine op_mv hf rfl rfl fun a hf => ?_
 rcases bcase (b6 == 91) with hc7 | hc7
 have hm := it hc7 hm
 refine op_guard rfl hf rfl rfl (hc7) ?_
 refine op_mv hf rfl rfl fun a hf => ?_
 refine op_guard rfl hf rfl rfl (hc7) ?_
 refine op_mv hf rfl rfl fun a hf => ?_
 refine op_guard rfl hf rfl rfl (hc7) ?_
 refine op_val (ex_len_s (l := x_s) Tryz.underlying9 hf rfl) rfl hf rfl rfl fun a hf => ?_
 refine op_guard rfl hf rfl rfl (hc7) ?_
 obtain ⟨i8, hi8, hm⟩ := ob hm
 refine op_val (ex_sub hf rfl rfl hi8) rfl hf rfl rfl fun a hf => ?_
 refine op_guard rfl hf rfl rfl (hc7) ?_
 obtain ⟨b9, hb9, hm⟩ := ob hm
 refine op_val (ex_index (l := x_s) Tryz.underlying9 hf rfl rfl hb9) rfl hf rfl rfl fun a hf => ?_
 refine op_guard rfl hf rfl rfl (hc7) ?_
 refine op_val (ex_eql_b (b := b9) (c := 93) hf rfl rfl) rfl hf rfl rfl fun a hf => ?_
 refine op_val (ex_pick_t hf rfl hc7 rfl) rfl hf rfl rfl fun a hf => ?_
 refine op_mv hf rfl rfl fun a hf => ?_
 rcases bcase (b9 == 93) with hc10 | hc10
 have hm := it hc10 hm
 refine op_guard rfl hf rfl rfl (hc10) ?_
 refine op_mv hf rfl rfl fun a hf => ?_
 refine op_guard rfl hf rfl rfl (hc10) ?_
 refine op_mv hf rfl rfl fun a hf => ?_
 refine op_guard rfl hf rfl rfl (hc10) ?_
 refine op_val (ex_len_s (l := x_s) Tryz.underlying9 hf rfl) rfl hf rfl rfl fun a hf => ?_
 refine op_guard rfl hf rfl rfl (hc10) ?_
 obtain ⟨i11, hi11, hm⟩ := ob hm
 refine op_val (ex_sub hf rfl rfl hi11) rfl hf rfl rfl fun a hf => ?_
 refine op_guard rfl hf rfl rfl (hc10) ?_
 obtain ⟨s12, hs12, hm⟩ := ob hm
 refine op_val (ex_sub_s (l := x_s) Tryz.underlying9 hf rfl rfl rfl hs12) rfl hf rfl rfl fun a hf => ?_
 refine op_guard rfl hf rfl rfl (hc10) ?_
 obtain ⟨r13, hr13, hm⟩ := ob hm
 refine op_enter (ex_call c_163 hf (vs := [str s12]) rfl) rfl hf rfl rfl (w_hostport_Six s12 r13 _ (hG.own hF hO) hr13) ?_
 rintro e w' ⟨he, hb⟩
 refine ⟨_, he, fun a hf => ?_⟩
 have hO := hO.grow hb
 refine op_val (ex_pick_t hf rfl hc10 rfl) rfl hf rfl rfl fun a hf => ?_
 refine op_as hf rfl rfl fun a hf => ?_
 refine wpList_nil ?_
 refine nor_then ?_
 exact ⟨r13, (hf.cons rfl (hf.cons rfl (hf.cons rfl (hf.cons rfl hf.nil)))), hO, hm⟩
 have hm := ie hc10 hm
 refine op_pass rfl hf rfl rfl (hc10) rfl rfl fun a hf => ?_
 refine op_pass rfl hf rfl rfl (hc10) rfl rfl fun a hf => ?_
 refine op_pass rfl hf rfl rfl (hc10) rfl rfl fun a hf => ?_
 refine op_pass rfl hf rfl rfl (hc10) rfl rfl fun a hf => ?_
 refine op_pass rfl hf rfl rfl (hc10) rfl rfl fun a hf => ?_
 refine op_pass rfl hf rfl rfl (hc10) rfl rfl fun a hf => ?_
 refine op_val (ex_pick_f hf rfl hc10 rfl) rfl hf rfl rfl fun a hf => ?_
 refine op_as hf rfl rfl fun a hf => ?_
 refine wpList_nil ?_
 refine nor_then ?_
 exact ⟨false, (hf.cons rfl (hf.cons rfl (hf.cons rfl (hf.cons rfl hf.nil)))), hO, hm⟩
 have hm := ie hc7 hm
 refine op_pass rfl hf rfl rfl (hc7) rfl rfl fun a hf => ?_
 refine op_pass rfl hf rfl rfl (hc7) rfl rfl fun a hf => ?_
 refine op_pass rfl hf rfl rfl (hc7) rfl rfl fun a hf => ?_
 refine op_pass rfl hf rfl rfl (hc7) rfl rfl fun a hf => ?_
 refine op_pass rfl hf rfl rfl (hc7) rfl rfl fun a hf => ?_
 refine op_pass rfl hf rfl rfl (hc7) rfl rfl fun a hf => ?_
 refine op_val (ex_pick_f hf rfl hc7 rfl) rfl hf rfl rfl fun a hf => ?_
 refine op_mv hf rfl rfl fun a hf => ?_
 refine op_pass rfl hf rfl rfl (rfl) rfl rfl fun a hf => ?_
 refine op_pass rfl hf rfl rfl (rfl) rfl rfl fun a hf => ?_
 refine op_pass rfl hf rfl rfl (rfl) rfl rfl fun a hf => ?_
 refine op_pass rfl hf rfl rfl (rfl) rfl rfl fun a hf => ?_
 refine op_pass rfl hf rfl rfl (rfl) rfl rfl fun a hf => ?_
 refine op_pass rfl hf rfl rfl (rfl) rfl rfl fun a hf => ?_
 refine op_val (ex_pick_f hf rfl rfl rfl) rfl hf rfl rfl fun a hf => ?_
 refine op_as hf rfl rfl fun a hf => ?_
 refine wpList_nil ?_
 refine nor_then ?_
 exact ⟨false, (hf.cons rfl (hf.cons rfl (hf.cons rfl (hf.cons rfl hf.nil)))), hO, hm⟩
 have hm := ie hc5 hm
 refine op_pass rfl hf rfl rfl (hc5) rfl rfl fun a hf => ?_
 refine op_pass rfl hf rfl rfl (hc5) rfl rfl fun a hf => ?_
 refine op_pass rfl hf rfl rfl (hc5) rfl rfl fun a hf => ?_
 refine op_val (ex_pick_f hf rfl hc5 rfl) rfl hf rfl rfl fun a hf => ?_
 refine op_mv hf rfl rfl fun a hf => ?_
 refine op_pass rfl hf rfl rfl (rfl) rfl rfl fun a hf => ?_
 refine op_pass rfl hf rfl rfl (rfl) rfl rfl fun a hf => ?_
 refine op_pass rfl hf rfl rfl (rfl) rfl rfl fun a hf => ?_
 refine op_pass rfl hf rfl rfl (rfl) rfl rfl fun a hf => ?_
 refine op_pass rfl hf rfl rfl (rfl) rfl rfl fun a hf => ?_
 refine op_pass rfl hf rfl rfl (rfl) rfl rfl fun a hf => ?_
 refine op_val (ex_pick_f hf rfl rfl rfl) rfl hf rfl rfl fun a hf => ?_
 refine op_mv hf rfl rfl fun a hf => ?_
 refine op_pass rfl hf rfl rfl (rfl) rfl rfl fun a hf => ?_
 refine op_pass rfl hf rfl rfl (rfl) rfl rfl fun a hf => ?_
 refine op_pass rfl hf rfl rfl (rfl) rfl rfl fun a hf => ?_
 refine op_pass rfl hf rfl rfl (rfl) rfl rfl fun a hf => ?_
 refine op_pass rfl hf rfl rfl (rfl) rfl rfl fun a hf => ?_
 refine op_pass rfl hf rfl rfl (rfl) rfl rfl fun a hf => ?_
 refine op_val (ex_pick_f hf rfl rfl rfl) rfl hf rfl rfl fun a hf => ?_
 refine op_as hf rfl rfl fun a hf => ?_
 refine wpList_nil ?_
 refine nor_then ?_
 exact ⟨false, (hf.cons rfl (hf.cons rfl (hf.cons rfl (hf.cons rfl hf.nil)))), hO, hm⟩
 rintro a w ⟨t14, hf, hO, hm⟩
 rw [hostport_of_j1] at hm
 refine wp_cond_cut hf rfl (fun hc15 => ?_) (fun hc15 => ?_)
 have hm := it hc15 hm
 obtain ⟨i16, hi16, hm⟩ := ob hm
 obtain ⟨s17, hs17, hm⟩ := ob hm
 refine wp_drawS' (S := Unit) (E0 := [(0, str x_s), (2, ptr b1 0), (4, ptr b3 0)]) (by kernel_rfl) (fun k σ w => match k with | 0 => Dk.Own w0 [] w [.blk b3 [int 0, str x_s, int (-1)] 81, .blk b1 [int 0, str [], int 0] 81] | 1 => Dk.Own w0 [] w [.blk b3 [int 3, str x_s, int (-1)] 81, .blk b1 [int 0, str [], int 0] 81] | _ => Dk.Own w0 [] w [.blk b3 [int 3, str s17, int (-1)] 81, .blk b1 [int 0, str [], int 0] 81]) (fun σ => [⟨[(0, str x_s)], some (32, str x_s)⟩, ⟨[(0, str x_s)], some (33, str x_s)⟩, ⟨[(33, str x_s)], some (34, int (x_s.length : Int))⟩, ⟨[(34, int (x_s.length : Int))], some (35, int i16)⟩, ⟨[(32, str x_s), (35, int i16)], some (36, str s17)⟩, ⟨[(4, ptr b3 0)], some (37, ptr b3 0)⟩, ⟨[(37, ptr b3 0)], none⟩, ⟨[(4, ptr b3 0)], some (38, ptr b3 1)⟩, ⟨[(36, str s17), (38, ptr b3 1)], none⟩]) () [6, 8] rfl (fun _ => rfl) (fun _ => rfl) (fun _ => rfl) rfl rfl (by decide) rfl hO.drew (hf.cons rfl (hf.cons rfl (hf.cons rfl hf.nil))) (fun σ => ⟨⟨rfl, trivial⟩, ⟨rfl, trivial⟩, ⟨rfl, trivial⟩, ⟨rfl, trivial⟩, ⟨rfl, rfl, trivial⟩, ⟨rfl, trivial⟩, ⟨rfl, trivial⟩, ⟨rfl, trivial⟩, ⟨rfl, rfl, trivial⟩, trivial⟩) ⟨sS_pure rfl (fun σ => rfl) (fun σ => rfl) (fun σ a w k _ _ _ _ hf => ex_move hf rfl), sS_pure rfl (fun σ => rfl) (fun σ => rfl) (fun σ a w k _ _ _ _ hf => ex_move hf rfl), sS_pure rfl (fun σ => rfl) (fun σ => rfl) (fun σ a w k _ _ _ _ hf => ex_len_s (l := x_s) Tryz.underlying9 hf rfl), sS_pure rfl (fun σ => rfl) (fun σ => rfl) (fun σ a w k _ _ _ _ hf => ex_sub hf rfl rfl hi16), sS_pure rfl (fun σ => rfl) (fun σ => rfl) (fun σ a w k _ _ _ _ hf => ex_sub_s (l := x_s) Tryz.underlying9 hf rfl rfl rfl hs17), sS_pure rfl (fun σ => rfl) (fun σ => rfl) (fun σ a w k _ _ _ _ hf => ex_field fa_81_0 hf rfl), sS_skip rfl (fun σ => rfl) (fun σ => rfl) rfl (fun σ w (hO : Dk.Own w0 [] w _) => by obtain ⟨w', hO', hr⟩ := ef_store1 (x := (.tmp 37)) (y := (.const (int 3))) (E := [(37, ptr b3 0)]) (i := 0) (o := 0) (v := int 3) sz_79 rfl rfl rfl rfl hO rfl rfl; exact ⟨(), w', hO', ⟨.inr rfl, .inr rfl, .inr rfl, .inr rfl, .inr rfl, .inr rfl, .inr rfl, .inr rfl, .inr rfl, trivial⟩, hr⟩), sS_pure rfl (fun σ => rfl) (fun σ => rfl) (fun σ a w k _ _ _ _ hf => ex_field fa_81_1 hf rfl), sS_skip rfl (fun σ => rfl) (fun σ => rfl) rfl (fun σ w (hO : Dk.Own w0 [] w _) => by obtain ⟨w', hO', hr⟩ := ef_store1 (x := (.tmp 38)) (y := (.tmp 36)) (E := [(36, str s17), (38, ptr b3 1)]) (i := 0) (o := 1) (v := str s17) sz_9 rfl rfl rfl rfl hO rfl rfl; exact ⟨(), w', hO', ⟨.inr rfl, .inr rfl, .inr rfl, .inr rfl, .inr rfl, .inr rfl, .inr rfl, .inr rfl, .inr rfl, trivial⟩, hr⟩), trivial⟩ ?_
 rintro _ a w hf hO
 have hO : Dk.Own w0 [] w _ := hO
 have hf : Fits 51 [(2, ptr b1 0), (4, ptr b3 0)] a := (hf.cons rfl (hf.cons rfl hf.nil))
 refine nor_block ?_
 refine nor_then ?_
 exact ⟨3, s17, (hf.cons rfl (hf.cons rfl hf.nil)), hO, hm⟩
 have hm := ie hc15 hm
 refine wp_seq_k fun _ hK19 => ?_
 refine wp_region_list ?_
 refine op_mv hf rfl rfl fun a hf => ?_
 obtain ⟨r18, hr18, hm⟩ := ob hm
 refine op_enter (ex_call c_164 hf (vs := [str x_s]) rfl) rfl hf rfl rfl (w_hostport_Four x_s r18 _ (hG.own hF hO) hr18) ?_
 rintro e w' ⟨he, hb⟩
 refine ⟨_, he, fun a hf => ?_⟩
 have hO := hO.grow hb
 refine op_as hf rfl rfl fun a hf => ?_
 refine wpList_nil ?_
 refine nor_then (hK19 _ _ ?_)
 refine wp_cond_cut hf rfl (fun hc20 => ?_) (fun hc20 => ?_)
 have hm := it hc20 hm
 refine wp_region_list ?_
 refine op_val (ex_field fa_81_0 hf rfl) rfl hf rfl rfl fun a hf => ?_
 refine op_store1 (i := 0) (o := 0) (v := int 2) sz_79 rfl rfl rfl rfl hf rfl rfl hO fun w hO => ?_
 refine wpList_nil ?_
 refine nor_block ?_
 refine nor_then ?_
 exact ⟨2, x_s, (hf.cons rfl (hf.cons rfl hf.nil)), hO, hm⟩
 have hm := ie hc20 hm
 refine wp_seq_k fun _ hK22 => ?_
 refine wp_region_list ?_
 refine op_mv hf rfl rfl fun a hf => ?_
 obtain ⟨r21, hr21, hm⟩ := ob hm
 refine op_enter (ex_call c_165 hf (vs := [str x_s]) rfl) rfl hf rfl rfl (w_hostport_Name x_s r21 _ (hG.own hF hO).1 hr21) ?_
 rintro e w' ⟨he, hb⟩
 refine ⟨_, he, fun a hf => ?_⟩
 have hO := hO.grow hb
 refine op_as hf rfl rfl fun a hf => ?_
 refine wpList_nil ?_
 refine nor_then (hK22 _ _ ?_)
 refine wp_cond_cut hf rfl (fun hc23 => ?_) (fun hc23 => ?_)
 have hm := it hc23 hm
 refine wp_region_list ?_
 refine op_val (ex_field fa_81_0 hf rfl) rfl hf rfl rfl fun a hf => ?_
 refine op_store1 (i := 0) (o := 0) (v := int 1) sz_79 rfl rfl rfl rfl hf rfl rfl hO fun w hO => ?_
 refine wpList_nil ?_
 refine nor_block ?_
 refine nor_then ?_
 exact ⟨1, x_s, (hf.cons rfl (hf.cons rfl hf.nil)), hO, hm⟩
 have hm := ie hc23 hm
 refine wp_skip ?_
 refine nor_block ?_
 refine nor_then ?_
 exact ⟨0, x_s, (hf.cons rfl (hf.cons rfl hf.nil)), hO, hm⟩
 rintro a w ⟨i24, s25, hf, hO, hm⟩
 rw [hostport_of_j2] at hm
 refine wp_seq_k fun _ hK26 => ?_
 refine wp_drawS' (S := Unit) (E0 := [(2, ptr b1 0), (4, ptr b3 0)]) (by kernel_rfl) (fun k σ w => match k with | 0 => Dk.Own w0 [] w [.blk b3 [int i24, str s25, int (-1)] 81, .blk b1 [int 0, str [], int 0] 81] | _ => Dk.Own w0 [] w [.blk b3 [int i24, str s25, int (-1)] 81, .blk b1 [int i24, str s25, int (-1)] 81]) (fun σ => [⟨[(4, ptr b3 0)], some (47, .agg #[int i24, str s25, int (-1)])⟩, ⟨[(4, ptr b3 0)], some (48, ptr b3 0)⟩, ⟨[(48, ptr b3 0)], some (49, int i24)⟩, ⟨[(49, int i24)], some (50, .bool (!(i24 == 0)))⟩, ⟨[(2, ptr b1 0), (47, .agg #[int i24, str s25, int (-1)])], none⟩, ⟨[(50, .bool (!(i24 == 0)))], some (3, .bool (!(i24 == 0)))⟩]) () [4] rfl (fun _ => rfl) (fun _ => rfl) (fun _ => rfl) rfl rfl (by decide) rfl hO.drew (hf.cons rfl (hf.cons rfl hf.nil)) (fun σ => ⟨⟨rfl, trivial⟩, ⟨rfl, trivial⟩, ⟨rfl, trivial⟩, ⟨rfl, trivial⟩, ⟨rfl, rfl, trivial⟩, ⟨rfl, trivial⟩, trivial⟩) ⟨sS_pure rfl (fun σ => rfl) (fun σ => rfl) (fun σ a w k hk hlo hup hst hf => match k, hk, hlo, hup, hst, hf with | 0, _, _, _, hst, hf => have hO : Dk.Own w0 [] w _ := hst; ex_loadN (o := 0) (vs := [int i24, str s25, int (-1)]) ag_81 sz_81 (hO.blkSees (i := 0) rfl) rfl rfl hf rfl | 1, _, _, _, hst, hf => have hO : Dk.Own w0 [] w _ := hst; ex_loadN (o := 0) (vs := [int i24, str s25, int (-1)]) ag_81 sz_81 (hO.blkSees (i := 0) rfl) rfl rfl hf rfl | k + 2, hk, _, _, _, _ => absurd hk (by simp)), sS_pure rfl (fun σ => rfl) (fun σ => rfl) (fun σ a w k _ _ _ _ hf => ex_field fa_81_0 hf rfl), sS_pure rfl (fun σ => rfl) (fun σ => rfl) (fun σ a w k hk hlo hup hst hf => match k, hk, hlo, hup, hst, hf with | 0, _, _, _, hst, hf => have hO : Dk.Own w0 [] w _ := hst; ex_load1 (o := 0) ag_79 (hO.blkSees (i := 0) rfl) rfl hf rfl | 1, _, _, _, hst, hf => have hO : Dk.Own w0 [] w _ := hst; ex_load1 (o := 0) ag_79 (hO.blkSees (i := 0) rfl) rfl hf rfl | k + 2, hk, _, _, _, _ => absurd hk (by simp)), sS_pure rfl (fun σ => rfl) (fun σ => rfl) (fun σ a w k _ _ _ _ hf => ex_neq (m := i24) (n := 0) hf rfl rfl), sS_skip rfl (fun σ => rfl) (fun σ => rfl) rfl (fun σ w (hO : Dk.Own w0 [] w _) => by obtain ⟨w', hO', hr⟩ := ef_storeN (x := (.tmp 2)) (y := (.tmp 47)) (E := [(2, ptr b1 0), (47, .agg #[int i24, str s25, int (-1)])]) (i := 1) (n := 3) (vs := [int i24, str s25, int (-1)]) sz_81 rfl rfl rfl (by simp [Value.oneCell']) hO rfl rfl; exact ⟨(), w', hO', ⟨.inr rfl, .inr rfl, .inr rfl, .inr rfl, .inr rfl, .inr rfl, trivial⟩, hr⟩), sS_pure rfl (fun σ => rfl) (fun σ => rfl) (fun σ a w k _ _ _ _ hf => ex_assign hf rfl), trivial⟩ ?_
 rintro _ a w hf hO
 have hO : Dk.Own w0 [] w _ := hO
 have hf : Fits 51 [(2, ptr b1 0), (3, .bool (!(i24 == 0)))] a := (hf.cons rfl (hf.cons rfl hf.nil))
 refine nor_then (hK26 _ _ ?_)
 refine wp_ret ?_
 obtain rfl := Option.some.inj hm
 exact post_ret Tryz.results134 hf (.cell rfl (run_loadVarN (n := 3) (vs := [int i24, str s25, int (-1)]) ag_81 sz_81 rfl ((hO.blkSees (i := 1) rfl).cells (o := 0) (n := 3) rfl)) (.tmp rfl .nil)) ⟨rfl, hO.below⟩

set_option maxHeartbeats 1000000 in
theorem w_hostport_Parse (x_s : Str) (R : api_Host × Int) (w0 : World) (hG : GlobT w0) (hm : hostport_Parse x_s = some R) :
    Calls Tryz.prog 90 #[str x_s] w0 fun e w' => e = .returned (.tuple #[.agg #[int R.1.Kind, str R.1.Name, int R.1.Port], int R.2]) ∧ Below w0.heap.size w0 w' := by
 rw [hostport_Parse] at hm
 refine calls_enter (vs := [str x_s]) Tryz.func90 rfl Tryz.ntmps90 rfl fun a hf => ?_
 have hF : Away [] := away_nil
 have hO : Dk.Own w0 [] w0 [] := Dk.Own.refl w0
 refine wp_seq_k fun _ hK2 => ?_
 refine wp_region_list ?_
 refine op_alloc al_81 hf rfl hO fun a b1 w hf hO => ?_
 refine op_as hf rfl rfl fun a hf => ?_
 refine wpList_nil ?_
 refine nor_then (hK2 _ _ ?_)
 refine wp_seq_k fun _ hK9 => ?_
 refine wp_seq_k fun _ hK5 => ?_
 refine wp_region_list ?_
 refine op_mv hf rfl rfl fun a hf => ?_
 obtain ⟨r3, hr3, hm⟩ := ob hm
 refine op_enter (ex_call c_134 hf (vs := [str x_s]) rfl) rfl hf rfl rfl (w_hostport_of x_s r3 _ (hG.own hF hO) hr3) ?_
 rintro e w' ⟨he, hb⟩
 refine ⟨_, he, fun a hf => ?_⟩
 have hO := hO.grow hb
 refine op_mv hf rfl rfl fun a hf => ?_
 refine op_val (ex_extract hf rfl rfl) rfl hf rfl rfl fun a hf => ?_
 refine op_val (ex_extract hf rfl rfl) rfl hf rfl rfl fun a hf => ?_
 refine op_alloc al_81 hf rfl hO fun a b4 w hf hO => ?_
 refine op_storeN (i := 0) (n := 3) sz_81 rfl rfl rfl (by simp [Value.oneCell']) hf rfl rfl hO fun w hO => ?_
 refine op_as hf rfl rfl fun a hf => ?_
 refine wpList_nil ?_
 refine nor_then (hK5 _ _ ?_)
 refine wp_seq_k fun _ hK6 => ?_
 refine wp_region_list ?_
 refine op_mv hf rfl rfl fun a hf => ?_
 refine wpList_nil ?_
 refine nor_then (hK6 _ _ ?_)
 refine wp_cond_cut hf rfl (fun hc7 => ?_) (fun hc7 => ?_)
 have hm := it hc7 hm
 refine wp_seq_k fun _ hK8 => ?_
 refine wp_region_list ?_
 refine op_val (ex_loadN (o := 0) (vs := [int r3.1.Kind, str r3.1.Name, int r3.1.Port]) ag_81 sz_81 (hO.blkSees (i := 0) rfl) rfl rfl hf rfl) rfl hf rfl rfl fun a hf => ?_
 refine op_storeN (i := 1) (n := 3) sz_81 rfl rfl rfl (by simp [Value.oneCell']) hf rfl rfl hO fun w hO => ?_
 refine op_as hf rfl rfl fun a hf => ?_
 refine wpList_nil ?_
 refine nor_then (hK8 _ _ ?_)
 refine wp_ret ?_
 refine ret_then ?_
 obtain rfl := Option.some.inj hm
 exact post_ret Tryz.results90 hf (.cell rfl (run_loadVarN (n := 3) (vs := [int r3.1.Kind, str r3.1.Name, int r3.1.Port]) ag_81 sz_81 rfl ((hO.blkSees (i := 1) rfl).cells (o := 0) (n := 3) rfl)) (.tmp rfl .nil)) ⟨rfl, hO.below⟩
 have hm := ie hc7 hm
 refine wp_skip ?_
 refine nor_then (hK9 _ _ ?_)
 refine wp_seq_k fun _ hK11 => ?_
 refine wp_region_list ?_
 refine op_mv hf rfl rfl fun a hf => ?_
 obtain ⟨r10, hr10, hm⟩ := ob hm
 refine op_enter (ex_call c_93 hf (vs := [str x_s, byte 58]) rfl) rfl hf rfl rfl (w_strings_LastIndexByte x_s 58 r10 _ (hG.own hF hO).1 hr10) ?_
 rintro e w' ⟨he, hb⟩
 refine ⟨_, he, fun a hf => ?_⟩
 have hO := hO.grow hb
 refine op_as hf rfl rfl fun a hf => ?_
 refine wpList_nil ?_
 refine nor_then (hK11 _ _ ?_)
 refine wp_seq_k fun _ hK15 => ?_
 refine wp_seq_k fun _ hK12 => ?_
 refine wp_region_list ?_
 refine op_mv hf rfl rfl fun a hf => ?_
 refine op_val (ex_lss (m := r10) (n := 0) hf rfl rfl) rfl hf rfl rfl fun a hf => ?_
 refine wpList_nil ?_
 refine nor_then (hK12 _ _ ?_)
 refine wp_cond_cut hf rfl (fun hc13 => ?_) (fun hc13 => ?_)
 have hm := it hc13 hm
 refine wp_seq_k fun _ hK14 => ?_
 refine wp_region_list ?_
 refine op_val (ex_build (vs := []) (v := .agg #[int 0, str [], int 0]) hf rfl (by kernel_rfl)) rfl hf rfl rfl fun a hf => ?_
 refine op_storeN (i := 1) (n := 3) sz_81 rfl rfl rfl (by simp [Value.oneCell']) hf rfl rfl hO fun w hO => ?_
 refine op_as hf rfl rfl fun a hf => ?_
 refine wpList_nil ?_
 refine nor_then (hK14 _ _ ?_)
 refine wp_ret ?_
 refine ret_then ?_
 obtain rfl := Option.some.inj hm
 exact post_ret Tryz.results90 hf (.cell rfl (run_loadVarN (n := 3) (vs := [int 0, str [], int 0]) ag_81 sz_81 rfl ((hO.blkSees (i := 1) rfl).cells (o := 0) (n := 3) rfl)) (.tmp rfl .nil)) ⟨rfl, hO.below⟩
 have hm := ie hc13 hm
 refine wp_skip ?_
 refine nor_then (hK15 _ _ ?_)
 refine wp_seq_k fun _ hK19 => ?_
 refine wp_region_list ?_
 refine op_mv hf rfl rfl fun a hf => ?_
 refine op_mv hf rfl rfl fun a hf => ?_
 obtain ⟨s16, hs16, hm⟩ := ob hm
 refine op_val (ex_to_s (l := x_s) Tryz.underlying9 hf rfl rfl hs16) rfl hf rfl rfl fun a hf => ?_
 obtain ⟨r17, hr17, hm⟩ := ob hm
 refine op_enter (ex_call c_134 hf (vs := [str s16]) rfl) rfl hf rfl rfl (w_hostport_of s16 r17 _ (hG.own hF hO) hr17) ?_
 rintro e w' ⟨he, hb⟩
 refine ⟨_, he, fun a hf => ?_⟩
 have hO := hO.grow hb
 refine op_mv hf rfl rfl fun a hf => ?_
 refine op_val (ex_extract hf rfl rfl) rfl hf rfl rfl fun a hf => ?_
 refine op_val (ex_extract hf rfl rfl) rfl hf rfl rfl fun a hf => ?_
 refine op_alloc al_81 hf rfl hO fun a b18 w hf hO => ?_
 refine op_storeN (i := 0) (n := 3) sz_81 rfl rfl rfl (by simp [Value.oneCell']) hf rfl rfl hO fun w hO => ?_
 refine op_as hf rfl rfl fun a hf => ?_
 refine wpList_nil ?_
 refine nor_then (hK19 _ _ ?_)
 refine wp_seq_k fun _ hK27 => ?_
 refine wp_seq_cut (fun a w => ∃ (t24 : Bool), Fits 49 [(0, str x_s), (2, ptr b1 0), (6, int r10), (7, ptr b18 0), (37, .bool t24)] a ∧ Dk.Own w0 [] w [.blk b18 [int r17.1.Kind, str r17.1.Name, int r17.1.Port] 81, .blk b4 [int r3.1.Kind, str r3.1.Name, int r3.1.Port] 81, .blk b1 [int 0, str [], int 0] 81] ∧ hostport_Parse_j1 x_s r10 r17 t24 = some R) ?_ ?_
 refine wp_region_list ?_
 refine op_mv hf rfl rfl fun a hf => ?_
 refine op_val (ex_not hf rfl) rfl hf rfl rfl fun a hf => ?_
 refine op_mv hf rfl rfl fun a hf => ?_
 rcases bcase (!r17.2) with hc20 | hc20
 have hm := it hc20 hm
 refine op_pass rfl hf rfl rfl (hc20) rfl rfl fun a hf => ?_
 refine op_pass rfl hf rfl rfl (hc20) rfl rfl fun a hf => ?_
 refine op_pass rfl hf rfl rfl (hc20) rfl rfl fun a hf => ?_
 refine op_pass rfl hf rfl rfl (hc20) rfl rfl fun a hf => ?_
 refine op_pass rfl hf rfl rfl (hc20) rfl rfl fun a hf => ?_
 refine op_pass rfl hf rfl rfl (hc20) rfl rfl fun a hf => ?_
 refine op_val (ex_pick_t hf rfl hc20 rfl) rfl hf rfl rfl fun a hf => ?_
 refine wpList_nil ?_
 refine nor_then ?_
 exact ⟨true, (hf.cons rfl (hf.cons rfl (hf.cons rfl (hf.cons rfl (hf.cons rfl hf.nil))))), hO, hm⟩
 have hm := ie hc20 hm
 refine op_guard rfl hf rfl rfl (hc20) ?_
 refine op_mv hf rfl rfl fun a hf => ?_
 refine op_guard rfl hf rfl rfl (hc20) ?_
 refine op_mv hf rfl rfl fun a hf => ?_
 refine op_guard rfl hf rfl rfl (hc20) ?_
 obtain ⟨i21, hi21, hm⟩ := ob hm
 refine op_val (ex_add hf rfl rfl hi21) rfl hf rfl rfl fun a hf => ?_
 refine op_guard rfl hf rfl rfl (hc20) ?_
 obtain ⟨s22, hs22, hm⟩ := ob hm
 refine op_val (ex_from_s (l := x_s) Tryz.underlying9 hf rfl rfl hs22) rfl hf rfl rfl fun a hf => ?_
 refine op_guard rfl hf rfl rfl (hc20) ?_
 obtain ⟨r23, hr23, hm⟩ := ob hm
 refine op_enter (ex_call c_135 hf (vs := [str s22, int 65535]) rfl) rfl hf rfl rfl (w_hostport_small s22 65535 r23 _ (hG.own hF hO) hr23) ?_
 rintro e w' ⟨he, hb⟩
 refine ⟨_, he, fun a hf => ?_⟩
 have hO := hO.grow hb
 refine op_guard rfl hf rfl rfl (hc20) ?_
 refine op_val (ex_not hf rfl) rfl hf rfl rfl fun a hf => ?_
 refine op_val (ex_pick_f hf rfl hc20 rfl) rfl hf rfl rfl fun a hf => ?_
 refine wpList_nil ?_
 refine nor_then ?_
 exact ⟨!r23, (hf.cons rfl (hf.cons rfl (hf.cons rfl (hf.cons rfl (hf.cons rfl hf.nil))))), hO, hm⟩
 rintro a w ⟨t24, hf, hO, hm⟩
 rw [hostport_Parse_j1] at hm
 refine wp_cond_cut hf rfl (fun hc25 => ?_) (fun hc25 => ?_)
 have hm := it hc25 hm
 refine wp_seq_k fun _ hK26 => ?_
 refine wp_region_list ?_
 refine op_val (ex_build (vs := []) (v := .agg #[int 0, str [], int 0]) hf rfl (by kernel_rfl)) rfl hf rfl rfl fun a hf => ?_
 refine op_storeN (i := 2) (n := 3) sz_81 rfl rfl rfl (by simp [Value.oneCell']) hf rfl rfl hO fun w hO => ?_
 refine op_as hf rfl rfl fun a hf => ?_
 refine wpList_nil ?_
 refine nor_then (hK26 _ _ ?_)
 refine wp_ret ?_
 refine ret_then ?_
 obtain rfl := Option.some.inj hm
 exact post_ret Tryz.results90 hf (.cell rfl (run_loadVarN (n := 3) (vs := [int 0, str [], int 0]) ag_81 sz_81 rfl ((hO.blkSees (i := 2) rfl).cells (o := 0) (n := 3) rfl)) (.tmp rfl .nil)) ⟨rfl, hO.below⟩
 have hm := ie hc25 hm
 refine wp_skip ?_
 refine nor_then (hK27 _ _ ?_)
 refine wp_seq_k fun _ hK31 => ?_
 refine wp_region_list ?_
 refine op_mv hf rfl rfl fun a hf => ?_
 refine op_mv hf rfl rfl fun a hf => ?_
 obtain ⟨i28, hi28, hm⟩ := ob hm
 refine op_val (ex_add hf rfl rfl hi28) rfl hf rfl rfl fun a hf => ?_
 obtain ⟨s29, hs29, hm⟩ := ob hm
 refine op_val (ex_from_s (l := x_s) Tryz.underlying9 hf rfl rfl hs29) rfl hf rfl rfl fun a hf => ?_
 obtain ⟨r30, hr30, hm⟩ := ob hm
 refine op_enter (ex_call c_101 hf (vs := [str s29, int 65535]) rfl) rfl hf rfl rfl (w_numeral_Decimal s29 65535 r30 _ (hG.own hF hO).1 hr30) ?_
 rintro e w' ⟨he, hb⟩
 refine ⟨_, he, fun a hf => ?_⟩
 have hO := hO.grow hb
 refine op_mv hf rfl rfl fun a hf => ?_
 refine op_val (ex_extract hf rfl rfl) rfl hf rfl rfl fun a hf => ?_
 refine op_val (ex_extract hf rfl rfl) rfl hf rfl rfl fun a hf => ?_
 refine op_val (ex_field fa_81_2 hf rfl) rfl hf rfl rfl fun a hf => ?_
 refine op_store1 (i := 0) (o := 2) (v := int r30.1) sz_3 rfl rfl rfl rfl hf rfl rfl hO fun w hO => ?_
 refine wpList_nil ?_
 refine nor_then (hK31 _ _ ?_)
 refine wp_seq_k fun _ hK32 => ?_
 refine wp_region_list ?_
 refine op_val (ex_loadN (o := 0) (vs := [int r17.1.Kind, str r17.1.Name, int r30.1]) ag_81 sz_81 (hO.blkSees (i := 0) rfl) rfl rfl hf rfl) rfl hf rfl rfl fun a hf => ?_
 refine op_storeN (i := 2) (n := 3) sz_81 rfl rfl rfl (by simp [Value.oneCell']) hf rfl rfl hO fun w hO => ?_
 refine op_as hf rfl rfl fun a hf => ?_
 refine wpList_nil ?_
 refine nor_then (hK32 _ _ ?_)
 refine wp_ret ?_
 obtain rfl := Option.some.inj hm
 exact post_ret Tryz.results90 hf (.cell rfl (run_loadVarN (n := 3) (vs := [int r17.1.Kind, str r17.1.Name, int r30.1]) ag_81 sz_81 rfl ((hO.blkSees (i := 2) rfl).cells (o := 0) (n := 3) rfl)) (.tmp rfl .nil)) ⟨rfl, hO.below⟩

set_option maxHeartbeats 1000000 in
set_option maxHeartbeats 4000000 in
set_option maxRecDepth 100000 in
theorem fold_walk (s : ByteArray) (R : Str) (w0 : World) (hG : Glob w0) (hsz : s.size < 4294967281) (hm : s.data.toList.mapM octet_Lower = some R)
    (hlow : ∀ b c w, octet_Lower b = some c → Glob w → Calls Tryz.prog 158 #[.int .u8 (b.toNat : Int)] w fun e w' => e = .returned (.int .u8 (c.toNat : Int)) ∧ Below w.heap.size w w') :
    Calls Tryz.prog 162 #[.string s] w0 fun e w' => e = .returned (.string ⟨R.toArray⟩) ∧ Below w0.heap.size w0 w' := by
  obtain ⟨hlen, hat⟩ := mapM_at hm
  have HL : Aside (R.length = s.size) := hlen.trans (Lib.size_eq s).symm
  have HT : Aside (∀ (i : Nat) (a : UInt8), s.data.toList[i]? = some a → ∃ b, R[i]? = some b ∧ octet_Lower a = some b) := hat
  clear hlen hat hm
  have hcv := fun w => run_bytes_of_string (P := Tryz.prog) w 9 66 5 s Tryz.underlying9 Tryz.underlying66 Tryz.underlying5
  go_enter Tryz.func162, Tryz.ntmps162
  go_wp2
  go_loopg [4, 5, 10] s.size (fun g _ _ v wx => ∃ i : Nat, i + g = s.size ∧ v = .int .i64 (i : Int) ∧ Below w0.heap.size w0 wx ∧ ∃ (cur : Array Value) (fz : Nat × Nat), wx.heap[w0.heap.size]? = some (.cells cur 5 fz) ∧ cur.size ≤ fz.1 ∧ s.size ≤ cur.size ∧ ∀ j, j < s.size → cur[j]? = ((if j < i then R[j]? else s.data.toList[j]?).map byte))
  case atStart =>
    have hrow : (bytesRow s (grownCap w0 s.size 0 5)).size = s.size + (grownCap w0 s.size 0 5 - s.size) := by
      have := Lib.size_eq s
      unfold bytesRow
      rw [Array.size_append, Array.size_map, Array.size_replicate]
      rfl
    refine ⟨0, by omega, rfl, ((Below.refl _ _).alloc (Nat.le_refl _) _).drew, _, _, heap_new _, Nat.le_refl _, ?_, fun j hj => ?_⟩
    · omega
    · rw [if_neg (by omega)]
      unfold bytesRow
      rw [Array.getElem?_append_left (by simp [← Lib.size_eq]; exact hj), Array.getElem?_map]
      congr 1
      exact (Array.getElem?_toList ..).symm
  case round =>
    obtain ⟨i, hig, rfl, hB, cur, fz, hcur, hfz, hsc, hcell⟩ := hrel
    have HG : Aside (Glob wr) := hG.own away_nil ((Dk.Own.refl w0).grow hB)
    have HB : Aside (Below w0.heap.size w0 wr) := hB
    have HC : Aside (wr.heap[w0.heap.size]? = some (.cells cur 5 fz)) := hcur
    have HF : Aside (cur.size ≤ fz.1 ∧ s.size ≤ cur.size) := ⟨hfz, hsc⟩
    have HX : Aside (∀ j, j < s.size → cur[j]? = ((if j < i then R[j]? else s.data.toList[j]?).map byte)) := hcell
    clear hB hcell hfz hsc hcur
    by_cases hi : i < s.size
    · obtain ⟨x, hx⟩ : ∃ x, s.data.toList[i]? = some x := ⟨_, Lib.data_getElem? s i hi⟩
      obtain ⟨y, hyR, hy⟩ := HT.out i x hx
      have hcx : wr.cell? ⟨w0.heap.size, i, none⟩ = some (.int .u8 (x.toNat : Int)) := by
        have := HX.out i hi
        rw [if_neg (by omega), hx] at this
        simp [World.cell?, HC.out, this]
      have hfr : wr.frozen? ⟨w0.heap.size, i, none⟩ = false := by
        have := HF.out
        simp [World.frozen?, HC.out]; omega
      have hii : (i : Int) < (s.size : Int) := by omega
      have HY : Aside (R[i]? = some y) := hyR
      have HO : Aside (octet_Lower x = some y) := hy
      clear hyR hy hx
      go_wp2_with (go_at_call 158; refine (hlow x y _ HO.out HG.out).mono ?_; rintro e w' ⟨rfl, hb⟩; have hcx' : w'.cell? ⟨w0.heap.size, i, none⟩ = some (.int .u8 (x.toNat : Int)) := (hb.cell (p := ⟨w0.heap.size, i, none⟩) (Array.getElem?_eq_some_iff.1 HC.out).1).trans hcx; have hfr' : w'.frozen? ⟨w0.heap.size, i, none⟩ = false := (hb.frozen (p := ⟨w0.heap.size, i, none⟩) (Array.getElem?_eq_some_iff.1 HC.out).1).trans hfr)
      go_roundg (gk - 1)
      case measure => omega
      case rel =>
        have hlt := (Array.getElem?_eq_some_iff.1 HC.out).1
        have hcw : w'.heap[w0.heap.size]? = some (.cells cur 5 fz) := (hb.block _ hlt).trans HC.out
        refine ⟨i + 1, by omega, rfl, ?_, cur.setIfInBounds i (.int .u8 (y.toNat : Int)), fz, ?_, ?_, ?_, fun j hj => ?_⟩
        · exact (HB.out.trans (hb.mono HB.out.size)).setCell (p := ⟨w0.heap.size, i, none⟩) (Nat.le_refl _) _
        · simp [World.setCell, Array.getElem?_modify, hcw]
        · have := HF.out; simp; omega
        · have := HF.out; simp; omega
        · by_cases hji : j = i
          · subst hji
            have := HF.out
            rw [if_pos (by omega), HY.out, Array.getElem?_setIfInBounds_self_of_lt (by omega)]
            rfl
          · rw [Array.getElem?_setIfInBounds_ne (Ne.symm hji), HX.out j hj]
            by_cases h2 : j < i
            · rw [if_pos h2, if_pos (by omega)]
            · rw [if_neg h2, if_neg (by omega)]
    · have hsi : i = s.size := by omega
      have hbk : ∀ w, wr.heap = w.heap → (convert 66 9 (.slice (some ⟨w0.heap.size, 0, none⟩) s.size (grownCap w0 s.size 0 5))).run Tryz.prog w = .ok (.string ⟨R.toArray⟩) w := by
        intro w hw
        have := run_convert_bytes_back (P := Tryz.prog) w 66 9 5 ⟨w0.heap.size, 0, none⟩ (grownCap w0 s.size 0 5) R Tryz.underlying66 Tryz.underlying5 Tryz.underlying9 (fun j hj => by
          have hjs : j < s.size := by rw [← HL.out]; exact hj
          have h1 := HX.out j hjs
          rw [if_pos (by omega), List.getElem?_eq_getElem hj] at h1
          rw [add_none0]
          simp [World.cell?, ← hw, HC.out, h1])
        rw [HL.out] at this
        exact this
      have hni : ¬ ((i : Int) < (s.size : Int)) := by omega
      have hbk1 := hbk wr rfl
      go_wp2
      go_ret
      exact ⟨rfl, HB.out⟩

theorem w_octet_Fold (x_s : Str) (R : Str) (w0 : World) (hG : Glob w0) (hm : octet_Fold x_s = some R) :
    Calls Tryz.prog 162 #[str x_s] w0 fun e w' => e = .returned (str R) ∧ Below w0.heap.size w0 w' := by
  unfold octet_Fold at hm
  split at hm
  · rename_i h
    exact fold_walk ⟨x_s.toArray⟩ R w0 hG h hm fun b c w hbc hGw => w_octet_Lower b c w hGw hbc
  · cases hm

set_option maxHeartbeats 1000000 in
theorem w_octet_IsPath (x_b : UInt8) (R : Bool) (w0 : World) (hG : Glob w0) (hm : octet_IsPath x_b = some R) :
    Calls Tryz.prog 200 #[byte x_b] w0 fun e w' => e = .returned (.bool R) ∧ Below w0.heap.size w0 w' := by
 rw [octet_IsPath] at hm
 refine calls_enter (vs := [byte x_b]) Tryz.func200 rfl Tryz.ntmps200 rfl fun a hf => ?_
 have hF : Away [] := away_nil
 have hO : Dk.Own w0 [] w0 [] := Dk.Own.refl w0
 refine wp_seq_k fun _ hK1 => ?_
 refine wp_region_list ?_
 refine op_as hf rfl rfl fun a hf => ?_
 refine wpList_nil ?_
 refine nor_then (hK1 _ _ ?_)
 refine wp_seq_cut (fun a w => ∃ (t7 : Bool), Fits 13 [(2, .bool t7)] a ∧ Dk.Own w0 [] w [] ∧ octet_IsPath_j1 t7 = some R) ?_ ?_
 refine wp_region_list ?_
 refine op_mv hf rfl rfl fun a hf => ?_
 obtain ⟨r2, hr2, hm⟩ := ob hm
 refine op_enter (ex_call c_183 hf (vs := [byte x_b]) rfl) rfl hf rfl rfl (w_octet_IsUnreserved x_b r2 _ (hG.own hF hO) hr2) ?_
 rintro e w' ⟨he, hb⟩
 refine ⟨_, he, fun a hf => ?_⟩
 have hO := hO.grow hb
 refine op_mv hf rfl rfl fun a hf => ?_
 rcases bcase (r2) with hc3 | hc3
 have hm := it hc3 hm
 refine op_pass rfl hf rfl rfl (hc3) rfl rfl fun a hf => ?_
 refine op_pass rfl hf rfl rfl (hc3) rfl rfl fun a hf => ?_
 refine op_val (ex_pick_t hf rfl hc3 rfl) rfl hf rfl rfl fun a hf => ?_
 refine op_mv hf rfl rfl fun a hf => ?_
 refine op_pass rfl hf rfl rfl (rfl) rfl rfl fun a hf => ?_
 refine op_pass rfl hf rfl rfl (rfl) rfl rfl fun a hf => ?_
 refine op_val (ex_pick_t hf rfl rfl rfl) rfl hf rfl rfl fun a hf => ?_
 refine op_as hf rfl rfl fun a hf => ?_
 refine wpList_nil ?_
 refine nor_then ?_
 exact ⟨true, (hf.cons rfl hf.nil), hO, hm⟩
 have hm := ie hc3 hm
 refine op_guard rfl hf rfl rfl (hc3) ?_
 refine op_mv hf rfl rfl fun a hf => ?_
 refine op_guard rfl hf rfl rfl (hc3) ?_
 obtain ⟨r4, hr4, hm⟩ := ob hm
 refine op_enter (ex_call c_184 hf (vs := [byte x_b]) rfl) rfl hf rfl rfl (w_octet_IsSub x_b r4 _ (hG.own hF hO) hr4) ?_
 rintro e w' ⟨he, hb⟩
 refine ⟨_, he, fun a hf => ?_⟩
 have hO := hO.grow hb
 refine op_val (ex_pick_f hf rfl hc3 rfl) rfl hf rfl rfl fun a hf => ?_
 refine op_mv hf rfl rfl fun a hf => ?_
 rcases bcase (r4) with hc5 | hc5
 have hm := it hc5 hm
 refine op_pass rfl hf rfl rfl (hc5) rfl rfl fun a hf => ?_
 refine op_pass rfl hf rfl rfl (hc5) rfl rfl fun a hf => ?_
 refine op_val (ex_pick_t hf rfl hc5 rfl) rfl hf rfl rfl fun a hf => ?_
 refine op_as hf rfl rfl fun a hf => ?_
 refine wpList_nil ?_
 refine nor_then ?_
 exact ⟨true, (hf.cons rfl hf.nil), hO, hm⟩
 have hm := ie hc5 hm
 refine op_guard rfl hf rfl rfl (hc5) ?_
 refine op_mv hf rfl rfl fun a hf => ?_
 refine op_guard rfl hf rfl rfl (hc5) ?_
 obtain ⟨r6, hr6, hm⟩ := ob hm
 refine op_enter (ex_call c_126 hf (vs := [byte x_b, str [58, 64]]) rfl) rfl hf rfl rfl (w_octet_one x_b [58, 64] r6 _ (hG.own hF hO) hr6) ?_
 rintro e w' ⟨he, hb⟩
 refine ⟨_, he, fun a hf => ?_⟩
 have hO := hO.grow hb
 refine op_val (ex_pick_f hf rfl hc5 rfl) rfl hf rfl rfl fun a hf => ?_
 refine op_as hf rfl rfl fun a hf => ?_
 refine wpList_nil ?_
 refine nor_then ?_
 exact ⟨r6, (hf.cons rfl hf.nil), hO, hm⟩
 rintro a w ⟨t7, hf, hO, hm⟩
 rw [octet_IsPath_j1] at hm
 refine wp_ret ?_
 obtain rfl := Option.some.inj hm
 exact post_ret Tryz.results200 hf (.tmp rfl .nil) ⟨rfl, hO.below⟩

set_option maxHeartbeats 1000000 in
theorem w_pathq_of (x_s : Str) (x_more : Str) (R : Bool) (w0 : World) (hG : Glob w0) (hm : pathq_of x_s x_more = some R) :
    Calls Tryz.prog 199 #[str x_s, str x_more] w0 fun e w' => e = .returned (.bool R) ∧ Below w0.heap.size w0 w' := by
 rw [pathq_of] at hm
 refine calls_enter (vs := [str x_s, str x_more]) Tryz.func199 rfl Tryz.ntmps199 rfl fun a hf => ?_
 have hF : Away [] := away_nil
 have hO : Dk.Own w0 [] w0 [] := Dk.Own.refl w0
 refine wp_seq_k fun _ hK1 => ?_
 refine wp_region_list ?_
 refine op_as hf rfl rfl fun a hf => ?_
 refine wpList_nil ?_
 refine nor_then (hK1 _ _ ?_)
 refine wp_seq_k fun _ hK29 => ?_
 refine wp_seq_k fun _ hK2 => ?_
 refine wp_region_list ?_
 refine op_as hf rfl rfl fun a hf => ?_
 refine wpList_nil ?_
 refine nor_then (hK2 _ _ ?_)
 refine wp_block ?_
 refine wp_loop_n (fun k a w => ∃ (i3 : Int), Fits 49 [(0, str x_s), (1, str x_more), (5, int i3)] a ∧ Dk.Own w0 [] w [] ∧ pathq_of_L1 x_s x_more k i3 = some R) ?_ fuel ?_
 rintro n1 a w ⟨i3, hf, hO, hm⟩
 obtain _ | n1 := n1
 rw [pathq_of_L1] at hm
 cases hm
 rw [pathq_of_L1] at hm
 refine wp_seq_k fun _ hK6 => ?_
 refine wp_seq_k fun _ hK4 => ?_
 refine wp_region_list ?_
 refine op_mv hf rfl rfl fun a hf => ?_
 refine op_mv hf rfl rfl fun a hf => ?_
 refine op_val (ex_len_s (l := x_s) Tryz.underlying9 hf rfl) rfl hf rfl rfl fun a hf => ?_
 refine op_val (ex_lss (m := i3) (n := (x_s.length : Int)) hf rfl rfl) rfl hf rfl rfl fun a hf => ?_
 refine wpList_nil ?_
 refine nor_then (hK4 _ _ ?_)
 refine wp_cond_cut hf rfl (fun hc5 => ?_) (fun hc5 => ?_)
 have hm := it hc5 hm
 refine wp_skip ?_
 refine nor_then (hK6 _ _ ?_)
 refine wp_seq_cut (fun a w => ∃ (i27 : Int), Fits 49 [(0, str x_s), (1, str x_more), (5, int i27)] a ∧ Dk.Own w0 [] w [] ∧ pathq_of_j4 (pathq_of_L1 x_s x_more n1) i27 = some R) ?_ ?_
 refine wp_block ?_
 refine wp_block ?_
 refine wp_seq_cut (fun a w => ∃ (t12 : Bool), Fits 49 [(0, str x_s), (1, str x_more), (5, int i3), (12, .bool t12)] a ∧ Dk.Own w0 [] w [] ∧ pathq_of_j2 (pathq_of_L1 x_s x_more n1) x_s i3 t12 = some R) ?_ ?_
 refine wp_region_list ?_
 refine op_mv hf rfl rfl fun a hf => ?_
 refine op_mv hf rfl rfl fun a hf => ?_
 obtain ⟨b7, hb7, hm⟩ := ob hm
 refine op_val (ex_index (l := x_s) Tryz.underlying9 hf rfl rfl hb7) rfl hf rfl rfl fun a hf => ?_
 obtain ⟨r8, hr8, hm⟩ := ob hm
 refine op_enter (ex_call c_200 hf (vs := [byte b7]) rfl) rfl hf rfl rfl (w_octet_IsPath b7 r8 _ (hG.own hF hO) hr8) ?_
 rintro e w' ⟨he, hb⟩
 refine ⟨_, he, fun a hf => ?_⟩
 have hO := hO.grow hb
 refine op_mv hf rfl rfl fun a hf => ?_
 rcases bcase (r8) with hc9 | hc9
 have hm := it hc9 hm
 refine op_pass rfl hf rfl rfl (hc9) rfl rfl fun a hf => ?_
 refine op_pass rfl hf rfl rfl (hc9) rfl rfl fun a hf => ?_
 refine op_pass rfl hf rfl rfl (hc9) rfl rfl fun a hf => ?_
 refine op_pass rfl hf rfl rfl (hc9) rfl rfl fun a hf => ?_
 refine op_pass rfl hf rfl rfl (hc9) rfl rfl fun a hf => ?_
 refine op_pass rfl hf rfl rfl (hc9) rfl rfl fun a hf => ?_
 refine op_val (ex_pick_t hf rfl hc9 rfl) rfl hf rfl rfl fun a hf => ?_
 refine op_as hf rfl rfl fun a hf => ?_
 refine wpList_nil ?_
 refine nor_then ?_
 exact ⟨true, (hf.cons rfl (hf.cons rfl (hf.cons rfl (hf.cons rfl hf.nil)))), hO, hm⟩
 have hm := ie hc9 hm
 refine op_guard rfl hf rfl rfl (hc9) ?_
 refine op_mv hf rfl rfl fun a hf => ?_
 refine op_guard rfl hf rfl rfl (hc9) ?_
 refine op_mv hf rfl rfl fun a hf => ?_
 refine op_guard rfl hf rfl rfl (hc9) ?_
 refine op_mv hf rfl rfl fun a hf => ?_
 refine op_guard rfl hf rfl rfl (hc9) ?_
 obtain ⟨b10, hb10, hm⟩ := ob hm
 refine op_val (ex_index (l := x_s) Tryz.underlying9 hf rfl rfl hb10) rfl hf rfl rfl fun a hf => ?_
 refine op_guard rfl hf rfl rfl (hc9) ?_
 obtain ⟨r11, hr11, hm⟩ := ob hm
 refine op_enter (ex_call c_159 hf (vs := [str x_more, byte b10]) rfl) rfl hf rfl rfl (w_strings_IndexByte x_more b10 r11 _ (hG.own hF hO) hr11) ?_
 rintro e w' ⟨he, hb⟩
 refine ⟨_, he, fun a hf => ?_⟩
 have hO := hO.grow hb
 refine op_guard rfl hf rfl rfl (hc9) ?_
 refine op_val (ex_geq (m := r11) (n := 0) hf rfl rfl) rfl hf rfl rfl fun a hf => ?_
 refine op_val (ex_pick_f hf rfl hc9 rfl) rfl hf rfl rfl fun a hf => ?_
 refine op_as hf rfl rfl fun a hf => ?_
 refine wpList_nil ?_
 refine nor_then ?_
 exact ⟨decide (0 ≤ r11), (hf.cons rfl (hf.cons rfl (hf.cons rfl (hf.cons rfl hf.nil)))), hO, hm⟩
 rintro a w ⟨t12, hf, hO, hm⟩
 rw [pathq_of_j2] at hm
 refine wp_cond_cut hf rfl (fun hc13 => ?_) (fun hc13 => ?_)
 have hm := it hc13 hm
 refine wp_skip ?_
 refine nor_block ?_
 refine nor_block ?_
 refine nor_then ?_
 exact ⟨i3, (hf.cons rfl (hf.cons rfl (hf.cons rfl hf.nil))), hO, hm⟩
 have hm := ie hc13 hm
 refine wp_seq_cut (fun a w => ∃ (t23 : Bool), Fits 49 [(0, str x_s), (1, str x_more), (5, int i3), (25, .bool t23)] a ∧ Dk.Own w0 [] w [] ∧ pathq_of_j3 (pathq_of_L1 x_s x_more n1) i3 t23 = some R) ?_ ?_
 refine wp_region_list ?_
 refine op_mv hf rfl rfl fun a hf => ?_
 refine op_mv hf rfl rfl fun a hf => ?_
 obtain ⟨b14, hb14, hm⟩ := ob hm
 refine op_val (ex_index (l := x_s) Tryz.underlying9 hf rfl rfl hb14) rfl hf rfl rfl fun a hf => ?_
 refine op_val (ex_eql_b (b := b14) (c := 37) hf rfl rfl) rfl hf rfl rfl fun a hf => ?_
 refine op_mv hf rfl rfl fun a hf => ?_
 rcases bcase (b14 == 37) with hc15 | hc15
 have hm := it hc15 hm
 refine op_guard rfl hf rfl rfl (hc15) ?_
 refine op_mv hf rfl rfl fun a hf => ?_
 refine op_guard rfl hf rfl rfl (hc15) ?_
 obtain ⟨i16, hi16, hm⟩ := ob hm
 refine op_val (ex_add hf rfl rfl hi16) rfl hf rfl rfl fun a hf => ?_
 refine op_guard rfl hf rfl rfl (hc15) ?_
 refine op_mv hf rfl rfl fun a hf => ?_
 refine op_guard rfl hf rfl rfl (hc15) ?_
 refine op_val (ex_len_s (l := x_s) Tryz.underlying9 hf rfl) rfl hf rfl rfl fun a hf => ?_
 refine op_guard rfl hf rfl rfl (hc15) ?_
 refine op_val (ex_lss (m := i16) (n := (x_s.length : Int)) hf rfl rfl) rfl hf rfl rfl fun a hf => ?_
 refine op_val (ex_pick_t hf rfl hc15 rfl) rfl hf rfl rfl fun a hf => ?_
 refine op_mv hf rfl rfl fun a hf => ?_
 rcases bcase (decide (i16 < (x_s.length : Int))) with hc17 | hc17
 have hm := it hc17 hm
 refine op_guard rfl hf rfl rfl (hc17) ?_
 refine op_mv hf rfl rfl fun a hf => ?_
 refine op_guard rfl hf rfl rfl (hc17) ?_
 refine op_mv hf rfl rfl fun a hf => ?_
 refine op_guard rfl hf rfl rfl (hc17) ?_
 obtain ⟨i18, hi18, hm⟩ := ob hm
 refine op_val (ex_add hf rfl rfl hi18) rfl hf rfl rfl fun a hf => ?_
 refine op_guard rfl hf rfl rfl (hc17) ?_
 refine op_mv hf rfl rfl fun a hf => ?_
 refine op_guard rfl hf rfl rfl (hc17) ?_
 obtain ⟨i19, hi19, hm⟩ := ob hm
 refine op_val (ex_add hf rfl rfl hi19) rfl hf rfl rfl fun a hf => ?_
 refine op_guard rfl hf rfl rfl (hc17) ?_
 obtain ⟨s20, hs20, hm⟩ := ob hm
 refine op_val (ex_sub_s (l := x_s) Tryz.underlying9 hf rfl rfl rfl hs20) rfl hf rfl rfl fun a hf => ?_
 refine op_guard rfl hf rfl rfl (hc17) ?_
 refine op_buildSlice (vs := [(0, str s20)]) (cs := [str s20]) (e := 9) (sz := 1) hf rfl rfl (fun w => by kernel_rfl) rfl rfl hO fun a b21 w hf hO => ?_
 refine op_guard rfl hf rfl rfl (hc17) ?_
 obtain ⟨r22, hr22, hm⟩ := ob hm
 refine op_enter (ex_call c_50 hf (vs := [.func (.func 192) #[] #[], .slice (some ⟨b21, 0, none⟩) (([s20] : List Str).length) 1]) rfl) rfl hf rfl rfl (w_octet_All octet_IsHex ([s20] : List Str) r22 _ (hG.own hF hO) c_192 (fun y0 r w hG h => callsE (w_octet_IsHex y0 r w hG h)) (hO.rowSees (i := 0) rfl) (hO.rowCap (i := 0) rfl) hr22) ?_
 rintro e w' ⟨he, hb⟩
 refine ⟨_, he, fun a hf => ?_⟩
 have hO := hO.grow hb
 refine op_val (ex_pick_t hf rfl hc17 rfl) rfl hf rfl rfl fun a hf => ?_
 refine op_as hf rfl rfl fun a hf => ?_
 refine wpList_nil ?_
 refine nor_then ?_
 exact ⟨r22, (hf.cons rfl (hf.cons rfl (hf.cons rfl (hf.cons rfl hf.nil)))), (hO.sub (.cons _ .slnil)), hm⟩
 have hm := ie hc17 hm
 refine op_pass rfl hf rfl rfl (hc17) rfl rfl fun a hf => ?_
 refine op_pass rfl hf rfl rfl (hc17) rfl rfl fun a hf => ?_
 refine op_pass rfl hf rfl rfl (hc17) rfl rfl fun a hf => ?_
 refine op_pass rfl hf rfl rfl (hc17) rfl rfl fun a hf => ?_
 refine op_pass rfl hf rfl rfl (hc17) rfl rfl fun a hf => ?_
 refine op_pass rfl hf rfl rfl (hc17) rfl rfl fun a hf => ?_
 refine op_pass rfl hf rfl rfl (hc17) rfl rfl fun a hf => ?_
 refine op_pass rfl hf rfl rfl (hc17) rfl rfl fun a hf => ?_
 refine op_val (ex_pick_f hf rfl hc17 rfl) rfl hf rfl rfl fun a hf => ?_
 refine op_as hf rfl rfl fun a hf => ?_
 refine wpList_nil ?_
 refine nor_then ?_
 exact ⟨false, (hf.cons rfl (hf.cons rfl (hf.cons rfl (hf.cons rfl hf.nil)))), hO, hm⟩
 have hm := ie hc15 hm
 refine op_pass rfl hf rfl rfl (hc15) rfl rfl fun a hf => ?_
 refine op_pass rfl hf rfl rfl (hc15) rfl rfl fun a hf => ?_
 refine op_pass rfl hf rfl rfl (hc15) rfl rfl fun a hf => ?_
 refine op_pass rfl hf rfl rfl (hc15) rfl rfl fun a hf => ?_
 refine op_pass rfl hf rfl rfl (hc15) rfl rfl fun a hf => ?_
 refine op_val (ex_pick_f hf rfl hc15 rfl) rfl hf rfl rfl fun a hf => ?_
 refine op_mv hf rfl rfl fun a hf => ?_
 refine op_pass rfl hf rfl rfl (rfl) rfl rfl fun a hf => ?_
 refine op_pass rfl hf rfl rfl (rfl) rfl rfl fun a hf => ?_
 refine op_pass rfl hf rfl rfl (rfl) rfl rfl fun a hf => ?_
 refine op_pass rfl hf rfl rfl (rfl) rfl rfl fun a hf => ?_
 refine op_pass rfl hf rfl rfl (rfl) rfl rfl fun a hf => ?_
 refine op_pass rfl hf rfl rfl (rfl) rfl rfl fun a hf => ?_
 refine op_pass rfl hf rfl rfl (rfl) rfl rfl fun a hf => ?_
 refine op_pass rfl hf rfl rfl (rfl) rfl rfl fun a hf => ?_
 refine op_val (ex_pick_f hf rfl rfl rfl) rfl hf rfl rfl fun a hf => ?_
 refine op_as hf rfl rfl fun a hf => ?_
 refine wpList_nil ?_
 refine nor_then ?_
 exact ⟨false, (hf.cons rfl (hf.cons rfl (hf.cons rfl (hf.cons rfl hf.nil)))), hO, hm⟩
 rintro a w ⟨t23, hf, hO, hm⟩
 rw [pathq_of_j3] at hm
 refine wp_cond_cut hf rfl (fun hc24 => ?_) (fun hc24 => ?_)
 have hm := it hc24 hm
 refine wp_region_list ?_
 refine op_mv hf rfl rfl fun a hf => ?_
 obtain ⟨i25, hi25, hm⟩ := ob hm
 refine op_val (ex_add hf rfl rfl hi25) rfl hf rfl rfl fun a hf => ?_
 refine op_as hf rfl rfl fun a hf => ?_
 refine wpList_nil ?_
 refine nor_block ?_
 refine nor_block ?_
 refine nor_then ?_
 exact ⟨i25, (hf.cons rfl (hf.cons rfl (hf.cons rfl hf.nil))), hO, hm⟩
 have hm := ie hc24 hm
 refine wp_seq_k fun _ hK26 => ?_
 refine wp_region_list ?_
 refine op_as hf rfl rfl fun a hf => ?_
 refine wpList_nil ?_
 refine nor_then (hK26 _ _ ?_)
 refine wp_ret ?_
 refine ret_block ?_
 refine ret_block ?_
 refine ret_then ?_
 refine ret_then ?_
 refine ret_block ?_
 refine ret_then ?_
 obtain rfl := Option.some.inj hm
 exact post_ret Tryz.results199 hf (.tmp rfl .nil) ⟨rfl, hO.below⟩
 rintro a w ⟨i27, hf, hO, hm⟩
 rw [pathq_of_j4] at hm
 refine wp_region_list ?_
 refine op_mv hf rfl rfl fun a hf => ?_
 obtain ⟨i28, hi28, hm⟩ := ob hm
 refine op_val (ex_add hf rfl rfl hi28) rfl hf rfl rfl fun a hf => ?_
 refine op_as hf rfl rfl fun a hf => ?_
 refine wpList_nil ?_
 refine nor_then ?_
 exact ⟨_, Nat.lt_succ_self _, i28, (hf.cons rfl (hf.cons rfl (hf.cons rfl hf.nil))), hO, hm⟩
 have hm := ie hc5 hm
 refine wp_exit ?_
 refine exit_then ?_
 refine exit_then ?_
 refine exit_here ?_
 refine nor_then (hK29 _ _ ?_)
 refine wp_seq_k fun _ hK30 => ?_
 refine wp_region_list ?_
 refine op_as hf rfl rfl fun a hf => ?_
 refine wpList_nil ?_
 refine nor_then (hK30 _ _ ?_)
 refine wp_ret ?_
 obtain rfl := Option.some.inj hm
 exact post_ret Tryz.results199 hf (.tmp rfl .nil) ⟨rfl, hO.below⟩
 exact ⟨0, (hf.cons rfl (hf.cons rfl (hf.cons rfl hf.nil))), hO, hm⟩

set_option maxHeartbeats 1000000 in
theorem w_pathq_Path (x_s : Str) (R : Bool) (w0 : World) (hG : Glob w0) (hm : pathq_Path x_s = some R) :
    Calls Tryz.prog 194 #[str x_s] w0 fun e w' => e = .returned (.bool R) ∧ Below w0.heap.size w0 w' := by
 rw [pathq_Path] at hm
 refine calls_enter (vs := [str x_s]) Tryz.func194 rfl Tryz.ntmps194 rfl fun a hf => ?_
 have hF : Away [] := away_nil
 have hO : Dk.Own w0 [] w0 [] := Dk.Own.refl w0
 refine wp_seq_k fun _ hK1 => ?_
 refine wp_region_list ?_
 refine op_as hf rfl rfl fun a hf => ?_
 refine wpList_nil ?_
 refine nor_then (hK1 _ _ ?_)
 refine wp_seq_cut (fun a w => ∃ (t5 : Bool), Fits 9 [(2, .bool t5)] a ∧ Dk.Own w0 [] w [] ∧ pathq_Path_j1 t5 = some R) ?_ ?_
 refine wp_region_list ?_
 refine op_mv hf rfl rfl fun a hf => ?_
 obtain ⟨r2, hr2, hm⟩ := ob hm
 refine op_enter (ex_call c_169 hf (vs := [str x_s, str [47]]) rfl) rfl hf rfl rfl (w_strings_HasPrefix x_s [47] r2 _ (hG.own hF hO) hr2) ?_
 rintro e w' ⟨he, hb⟩
 refine ⟨_, he, fun a hf => ?_⟩
 have hO := hO.grow hb
 refine op_mv hf rfl rfl fun a hf => ?_
 rcases bcase (r2) with hc3 | hc3
 have hm := it hc3 hm
 refine op_guard rfl hf rfl rfl (hc3) ?_
 refine op_mv hf rfl rfl fun a hf => ?_
 refine op_guard rfl hf rfl rfl (hc3) ?_
 obtain ⟨r4, hr4, hm⟩ := ob hm
 refine op_enter (ex_call c_199 hf (vs := [str x_s, str [47]]) rfl) rfl hf rfl rfl (w_pathq_of x_s [47] r4 _ (hG.own hF hO) hr4) ?_
 rintro e w' ⟨he, hb⟩
 refine ⟨_, he, fun a hf => ?_⟩
 have hO := hO.grow hb
 refine op_val (ex_pick_t hf rfl hc3 rfl) rfl hf rfl rfl fun a hf => ?_
 refine op_as hf rfl rfl fun a hf => ?_
 refine wpList_nil ?_
 refine nor_then ?_
 exact ⟨r4, (hf.cons rfl hf.nil), hO, hm⟩
 have hm := ie hc3 hm
 refine op_pass rfl hf rfl rfl (hc3) rfl rfl fun a hf => ?_
 refine op_pass rfl hf rfl rfl (hc3) rfl rfl fun a hf => ?_
 refine op_val (ex_pick_f hf rfl hc3 rfl) rfl hf rfl rfl fun a hf => ?_
 refine op_as hf rfl rfl fun a hf => ?_
 refine wpList_nil ?_
 refine nor_then ?_
 exact ⟨false, (hf.cons rfl hf.nil), hO, hm⟩
 rintro a w ⟨t5, hf, hO, hm⟩
 rw [pathq_Path_j1] at hm
 refine wp_ret ?_
 obtain rfl := Option.some.inj hm
 exact post_ret Tryz.results194 hf (.tmp rfl .nil) ⟨rfl, hO.below⟩

set_option maxHeartbeats 1000000 in
theorem w_pathq_Query (x_s : Str) (R : Bool) (w0 : World) (hG : Glob w0) (hm : pathq_Query x_s = some R) :
    Calls Tryz.prog 195 #[str x_s] w0 fun e w' => e = .returned (.bool R) ∧ Below w0.heap.size w0 w' := by
 rw [pathq_Query] at hm
 refine calls_enter (vs := [str x_s]) Tryz.func195 rfl Tryz.ntmps195 rfl fun a hf => ?_
 have hF : Away [] := away_nil
 have hO : Dk.Own w0 [] w0 [] := Dk.Own.refl w0
 refine wp_seq_k fun _ hK1 => ?_
 refine wp_region_list ?_
 refine op_as hf rfl rfl fun a hf => ?_
 refine wpList_nil ?_
 refine nor_then (hK1 _ _ ?_)
 refine wp_seq_k fun _ hK3 => ?_
 refine wp_region_list ?_
 refine op_mv hf rfl rfl fun a hf => ?_
 obtain ⟨r2, hr2, hm⟩ := ob hm
 refine op_enter (ex_call c_199 hf (vs := [str x_s, str [47, 63]]) rfl) rfl hf rfl rfl (w_pathq_of x_s [47, 63] r2 _ (hG.own hF hO) hr2) ?_
 rintro e w' ⟨he, hb⟩
 refine ⟨_, he, fun a hf => ?_⟩
 have hO := hO.grow hb
 refine op_as hf rfl rfl fun a hf => ?_
 refine wpList_nil ?_
 refine nor_then (hK3 _ _ ?_)
 refine wp_ret ?_
 obtain rfl := Option.some.inj hm
 exact post_ret Tryz.results195 hf (.tmp rfl .nil) ⟨rfl, hO.below⟩

set_option maxHeartbeats 1000000 in
theorem w_pathq_Cut (x_s : Str) (R : Str × Str × Bool × Int) (w0 : World) (hG : Glob w0) (hm : pathq_Cut x_s = some R) :
    Calls Tryz.prog 186 #[str x_s] w0 fun e w' => e = .returned (.tuple #[str R.1, str R.2.1, .bool R.2.2.1, int R.2.2.2]) ∧ Below w0.heap.size w0 w' := by
 rw [pathq_Cut] at hm
 refine calls_enter (vs := [str x_s]) Tryz.func186 rfl Tryz.ntmps186 rfl fun a hf => ?_
 have hF : Away [] := away_nil
 have hO : Dk.Own w0 [] w0 [] := Dk.Own.refl w0
 refine wp_seq_k fun _ hK1 => ?_
 refine wp_region_list ?_
 refine op_as hf rfl rfl fun a hf => ?_
 refine op_as hf rfl rfl fun a hf => ?_
 refine op_as hf rfl rfl fun a hf => ?_
 refine op_as hf rfl rfl fun a hf => ?_
 refine wpList_nil ?_
 refine nor_then (hK1 _ _ ?_)
 refine wp_seq_k fun _ hK3 => ?_
 refine wp_region_list ?_
 refine op_mv hf rfl rfl fun a hf => ?_
 obtain ⟨r2, hr2, hm⟩ := ob hm
 refine op_enter (ex_call c_99 hf (vs := [str x_s, str [63]]) rfl) rfl hf rfl rfl (w_strings_Cut x_s [63] r2 _ (hG.own hF hO) hr2) ?_
 rintro e w' ⟨he, hb⟩
 refine ⟨_, he, fun a hf => ?_⟩
 have hO := hO.grow hb
 refine op_mv hf rfl rfl fun a hf => ?_
 refine op_val (ex_extract hf rfl rfl) rfl hf rfl rfl fun a hf => ?_
 refine op_val (ex_extract hf rfl rfl) rfl hf rfl rfl fun a hf => ?_
 refine op_val (ex_extract hf rfl rfl) rfl hf rfl rfl fun a hf => ?_
 refine op_as hf rfl rfl fun a hf => ?_
 refine op_as hf rfl rfl fun a hf => ?_
 refine op_as hf rfl rfl fun a hf => ?_
 refine wpList_nil ?_
 refine nor_then (hK3 _ _ ?_)
 refine wp_seq_k fun _ hK10 => ?_
 refine wp_seq_cut (fun a w => ∃ (t7 : Bool), Fits 23 [(2, str r2.1), (3, str r2.2.1), (4, .bool r2.2.2), (19, .bool t7)] a ∧ Dk.Own w0 [] w [] ∧ pathq_Cut_j1 r2 t7 = some R) ?_ ?_
 refine wp_region_list ?_
 refine op_mv hf rfl rfl fun a hf => ?_
 obtain ⟨r4, hr4, hm⟩ := ob hm
 refine op_enter (ex_call c_194 hf (vs := [str r2.1]) rfl) rfl hf rfl rfl (w_pathq_Path r2.1 r4 _ (hG.own hF hO) hr4) ?_
 rintro e w' ⟨he, hb⟩
 refine ⟨_, he, fun a hf => ?_⟩
 have hO := hO.grow hb
 refine op_val (ex_not hf rfl) rfl hf rfl rfl fun a hf => ?_
 refine op_mv hf rfl rfl fun a hf => ?_
 rcases bcase (!r4) with hc5 | hc5
 have hm := it hc5 hm
 refine op_pass rfl hf rfl rfl (hc5) rfl rfl fun a hf => ?_
 refine op_pass rfl hf rfl rfl (hc5) rfl rfl fun a hf => ?_
 refine op_pass rfl hf rfl rfl (hc5) rfl rfl fun a hf => ?_
 refine op_val (ex_pick_t hf rfl hc5 rfl) rfl hf rfl rfl fun a hf => ?_
 refine wpList_nil ?_
 refine nor_then ?_
 exact ⟨true, (hf.cons rfl (hf.cons rfl (hf.cons rfl (hf.cons rfl hf.nil)))), hO, hm⟩
 have hm := ie hc5 hm
 refine op_guard rfl hf rfl rfl (hc5) ?_
 refine op_mv hf rfl rfl fun a hf => ?_
 refine op_guard rfl hf rfl rfl (hc5) ?_
 obtain ⟨r6, hr6, hm⟩ := ob hm
 refine op_enter (ex_call c_195 hf (vs := [str r2.2.1]) rfl) rfl hf rfl rfl (w_pathq_Query r2.2.1 r6 _ (hG.own hF hO) hr6) ?_
 rintro e w' ⟨he, hb⟩
 refine ⟨_, he, fun a hf => ?_⟩
 have hO := hO.grow hb
 refine op_guard rfl hf rfl rfl (hc5) ?_
 refine op_val (ex_not hf rfl) rfl hf rfl rfl fun a hf => ?_
 refine op_val (ex_pick_f hf rfl hc5 rfl) rfl hf rfl rfl fun a hf => ?_
 refine wpList_nil ?_
 refine nor_then ?_
 exact ⟨!r6, (hf.cons rfl (hf.cons rfl (hf.cons rfl (hf.cons rfl hf.nil)))), hO, hm⟩
 rintro a w ⟨t7, hf, hO, hm⟩
 rw [pathq_Cut_j1] at hm
 refine wp_cond_cut hf rfl (fun hc8 => ?_) (fun hc8 => ?_)
 have hm := it hc8 hm
 refine wp_seq_k fun _ hK9 => ?_
 refine wp_region_list ?_
 refine op_as hf rfl rfl fun a hf => ?_
 refine op_as hf rfl rfl fun a hf => ?_
 refine op_as hf rfl rfl fun a hf => ?_
 refine op_as hf rfl rfl fun a hf => ?_
 refine wpList_nil ?_
 refine nor_then (hK9 _ _ ?_)
 refine wp_ret ?_
 refine ret_then ?_
 obtain rfl := Option.some.inj hm
 exact post_ret Tryz.results186 hf (.tmp rfl (.tmp rfl (.tmp rfl (.tmp rfl .nil)))) ⟨rfl, hO.below⟩
 have hm := ie hc8 hm
 refine wp_skip ?_
 refine nor_then (hK10 _ _ ?_)
 refine wp_seq_k fun _ hK11 => ?_
 refine wp_region_list ?_
 refine op_mv hf rfl rfl fun a hf => ?_
 refine op_mv hf rfl rfl fun a hf => ?_
 refine op_mv hf rfl rfl fun a hf => ?_
 refine op_as hf rfl rfl fun a hf => ?_
 refine op_as hf rfl rfl fun a hf => ?_
 refine op_as hf rfl rfl fun a hf => ?_
 refine op_as hf rfl rfl fun a hf => ?_
 refine wpList_nil ?_
 refine nor_then (hK11 _ _ ?_)
 refine wp_ret ?_
 obtain rfl := Option.some.inj hm
 exact post_ret Tryz.results186 hf (.tmp rfl (.tmp rfl (.tmp rfl (.tmp rfl .nil)))) ⟨rfl, hO.below⟩

set_option maxHeartbeats 1000000 in
theorem w_target_tail (x_t : api_Target) (x_s : Str) (R : api_Target × Bool) (w0 : World) (hG : Glob w0) (hm : target_tail x_t x_s = some R) :
    Calls Tryz.prog 171 #[.agg #[int x_t.Kind, str x_t.Scheme, int x_t.Host.Kind, str x_t.Host.Name, int x_t.Host.Port, str x_t.Path, str x_t.Query, .bool x_t.HasQuery], str x_s] w0 fun e w' => e = .returned (.tuple #[.agg #[int R.1.Kind, str R.1.Scheme, int R.1.Host.Kind, str R.1.Host.Name, int R.1.Host.Port, str R.1.Path, str R.1.Query, .bool R.1.HasQuery], .bool R.2]) ∧ Below w0.heap.size w0 w' := by
 rw [target_tail] at hm
 refine calls_enter (vs := [.agg #[int x_t.Kind, str x_t.Scheme, int x_t.Host.Kind, str x_t.Host.Name, int x_t.Host.Port, str x_t.Path, str x_t.Query, .bool x_t.HasQuery], str x_s]) Tryz.func171 rfl Tryz.ntmps171 rfl fun a hf => ?_
 have hF : Away [] := away_nil
 have hO : Dk.Own w0 [] w0 [] := Dk.Own.refl w0
 refine wp_seq_k fun _ hK3 => ?_
 refine wp_region_list ?_
 refine op_box (v := .agg #[int x_t.Kind, str x_t.Scheme, int x_t.Host.Kind, str x_t.Host.Name, int x_t.Host.Port, str x_t.Path, str x_t.Query, .bool x_t.HasQuery]) (cs := [int x_t.Kind, str x_t.Scheme, int x_t.Host.Kind, str x_t.Host.Name, int x_t.Host.Port, str x_t.Path, str x_t.Query, .bool x_t.HasQuery]) rfl hf rfl rfl hO fun a b1 w hf hO => ?_
 refine op_alloc al_98 hf rfl hO fun a b2 w hf hO => ?_
 refine op_as hf rfl rfl fun a hf => ?_
 refine wpList_nil ?_
 refine nor_then (hK3 _ _ ?_)
 refine wp_seq_k fun _ hK7 => ?_
 refine wp_seq_k fun _ hK4 => ?_
 refine wp_region_list ?_
 refine op_mv hf rfl rfl fun a hf => ?_
 refine op_val (ex_eql_s (l := x_s) (m := []) hf rfl rfl) rfl hf rfl rfl fun a hf => ?_
 refine wpList_nil ?_
 refine nor_then (hK4 _ _ ?_)
 refine wp_cond_cut hf rfl (fun hc5 => ?_) (fun hc5 => ?_)
 have hm := it hc5 hm
 refine wp_seq_k fun _ hK6 => ?_
 refine wp_region_list ?_
 refine op_val (ex_loadN (o := 0) (vs := [int x_t.Kind, str x_t.Scheme, int x_t.Host.Kind, str x_t.Host.Name, int x_t.Host.Port, str x_t.Path, str x_t.Query, .bool x_t.HasQuery]) ag_98 sz_98 (hO.blkSees (i := 1) rfl) rfl rfl hf rfl) rfl hf rfl rfl fun a hf => ?_
 refine op_storeN (i := 0) (n := 8) sz_98 rfl rfl rfl (by simp [Value.oneCell']) hf rfl rfl hO fun w hO => ?_
 refine op_as hf rfl rfl fun a hf => ?_
 refine wpList_nil ?_
 refine nor_then (hK6 _ _ ?_)
 refine wp_ret ?_
 refine ret_then ?_
 obtain rfl := Option.some.inj hm
 exact post_ret Tryz.results171 hf (.cell rfl (run_loadVarN (n := 8) (vs := [int x_t.Kind, str x_t.Scheme, int x_t.Host.Kind, str x_t.Host.Name, int x_t.Host.Port, str x_t.Path, str x_t.Query, .bool x_t.HasQuery]) ag_98 sz_98 rfl ((hO.blkSees (i := 0) rfl).cells (o := 0) (n := 8) rfl)) (.tmp rfl .nil)) ⟨rfl, hO.below⟩
 have hm := ie hc5 hm
 refine wp_skip ?_
 refine nor_then (hK7 _ _ ?_)
 refine wp_seq_k fun _ hK8 => ?_
 refine wp_region_list ?_
 refine op_as hf rfl rfl fun a hf => ?_
 refine wpList_nil ?_
 refine nor_then (hK8 _ _ ?_)
 refine wp_seq_k fun _ hK10 => ?_
 refine wp_region_list ?_
 refine op_mv hf rfl rfl fun a hf => ?_
 obtain ⟨b9, hb9, hm⟩ := ob hm
 refine op_val (ex_index (l := x_s) Tryz.underlying9 hf rfl rfl hb9) rfl hf rfl rfl fun a hf => ?_
 refine op_val (ex_eql_b (b := b9) (c := 63) hf rfl rfl) rfl hf rfl rfl fun a hf => ?_
 refine op_as hf rfl rfl fun a hf => ?_
 refine wpList_nil ?_
 refine nor_then (hK10 _ _ ?_)
 refine wp_seq_cut (fun a w => ∃ (s14 : Str), Fits 32 [(1, str s14), (2, ptr b1 0), (4, ptr b2 0), (7, .bool (b9 == 63))] a ∧ Dk.Own w0 [] w [.blk b2 [int 0, str [], int 0, str [], int 0, str [], str [], .bool false] 98, .blk b1 [int x_t.Kind, str x_t.Scheme, int x_t.Host.Kind, str x_t.Host.Name, int x_t.Host.Port, str x_t.Path, str x_t.Query, .bool x_t.HasQuery] 98] ∧ target_tail_j1 x_t b9 s14 = some R) ?_ ?_
 refine wp_seq_k fun _ hK11 => ?_
 refine wp_region_list ?_
 refine op_mv hf rfl rfl fun a hf => ?_
 refine wpList_nil ?_
 refine nor_then (hK11 _ _ ?_)
 refine wp_cond_cut hf rfl (fun hc12 => ?_) (fun hc12 => ?_)
 have hm := it hc12 hm
 refine wp_region_list ?_
 refine op_mv hf rfl rfl fun a hf => ?_
 obtain ⟨s13, hs13, hm⟩ := ob hm
 refine op_val (ex_cat (l := [47]) (m := x_s) hf rfl rfl hs13) rfl hf rfl rfl fun a hf => ?_
 refine op_as hf rfl rfl fun a hf => ?_
 refine wpList_nil ?_
 refine nor_then ?_
 exact ⟨s13, (hf.cons rfl (hf.cons rfl (hf.cons rfl (hf.cons rfl hf.nil)))), hO, hm⟩
 have hm := ie hc12 hm
 refine wp_skip ?_
 refine nor_then ?_
 exact ⟨x_s, (hf.cons rfl (hf.cons rfl (hf.cons rfl (hf.cons rfl hf.nil)))), hO, hm⟩
 rintro a w ⟨s14, hf, hO, hm⟩
 rw [target_tail_j1] at hm
 refine wp_seq_k fun _ hK16 => ?_
 refine wp_region_list ?_
 refine op_mv hf rfl rfl fun a hf => ?_
 obtain ⟨r15, hr15, hm⟩ := ob hm
 refine op_enter (ex_call c_186 hf (vs := [str s14]) rfl) rfl hf rfl rfl (w_pathq_Cut s14 r15 _ (hG.own hF hO) hr15) ?_
 rintro e w' ⟨he, hb⟩
 refine ⟨_, he, fun a hf => ?_⟩
 have hO := hO.grow hb
 refine op_mv hf rfl rfl fun a hf => ?_
 refine op_val (ex_extract hf rfl rfl) rfl hf rfl rfl fun a hf => ?_
 refine op_val (ex_extract hf rfl rfl) rfl hf rfl rfl fun a hf => ?_
 refine op_val (ex_extract hf rfl rfl) rfl hf rfl rfl fun a hf => ?_
 refine op_val (ex_extract hf rfl rfl) rfl hf rfl rfl fun a hf => ?_
 refine op_val (ex_field fa_98_3 hf rfl) rfl hf rfl rfl fun a hf => ?_
 refine op_store1 (i := 1) (o := 5) (v := str r15.1) sz_9 rfl rfl rfl rfl hf rfl rfl hO fun w hO => ?_
 refine op_val (ex_field fa_98_4 hf rfl) rfl hf rfl rfl fun a hf => ?_
 refine op_store1 (i := 1) (o := 6) (v := str r15.2.1) sz_9 rfl rfl rfl rfl hf rfl rfl hO fun w hO => ?_
 refine op_val (ex_field fa_98_5 hf rfl) rfl hf rfl rfl fun a hf => ?_
 refine op_store1 (i := 1) (o := 7) (v := .bool r15.2.2.1) sz_4 rfl rfl rfl rfl hf rfl rfl hO fun w hO => ?_
 refine op_as hf rfl rfl fun a hf => ?_
 refine wpList_nil ?_
 refine nor_then (hK16 _ _ ?_)
 refine wp_seq_cut (fun a w => ∃ (s19 : Str), Fits 32 [(2, ptr b1 0), (4, ptr b2 0), (6, int r15.2.2.2)] a ∧ Dk.Own w0 [] w [.blk b2 [int 0, str [], int 0, str [], int 0, str [], str [], .bool false] 98, .blk b1 [int x_t.Kind, str x_t.Scheme, int x_t.Host.Kind, str x_t.Host.Name, int x_t.Host.Port, str s19, str r15.2.1, .bool r15.2.2.1] 98] ∧ target_tail_j2 x_t r15 s19 = some R) ?_ ?_
 refine wp_seq_k fun _ hK17 => ?_
 refine wp_region_list ?_
 refine op_mv hf rfl rfl fun a hf => ?_
 refine wpList_nil ?_
 refine nor_then (hK17 _ _ ?_)
 refine wp_cond_cut hf rfl (fun hc18 => ?_) (fun hc18 => ?_)
 have hm := it hc18 hm
 refine wp_region_list ?_
 refine op_val (ex_field fa_98_3 hf rfl) rfl hf rfl rfl fun a hf => ?_
 refine op_store1 (i := 1) (o := 5) (v := str []) sz_9 rfl rfl rfl rfl hf rfl rfl hO fun w hO => ?_
 refine wpList_nil ?_
 refine nor_then ?_
 exact ⟨[], (hf.cons rfl (hf.cons rfl (hf.cons rfl hf.nil))), hO, hm⟩
 have hm := ie hc18 hm
 refine wp_skip ?_
 refine nor_then ?_
 exact ⟨r15.1, (hf.cons rfl (hf.cons rfl (hf.cons rfl hf.nil))), hO, hm⟩
 rintro a w ⟨s19, hf, hO, hm⟩
 rw [target_tail_j2] at hm
 refine wp_seq_k fun _ hK20 => ?_
 refine wp_region_list ?_
 refine op_val (ex_loadN (o := 0) (vs := [int x_t.Kind, str x_t.Scheme, int x_t.Host.Kind, str x_t.Host.Name, int x_t.Host.Port, str s19, str r15.2.1, .bool r15.2.2.1]) ag_98 sz_98 (hO.blkSees (i := 1) rfl) rfl rfl hf rfl) rfl hf rfl rfl fun a hf => ?_
 refine op_mv hf rfl rfl fun a hf => ?_
 refine op_val (ex_eql (m := r15.2.2.2) (n := 0) hf rfl rfl) rfl hf rfl rfl fun a hf => ?_
 refine op_storeN (i := 0) (n := 8) sz_98 rfl rfl rfl (by simp [Value.oneCell']) hf rfl rfl hO fun w hO => ?_
 refine op_as hf rfl rfl fun a hf => ?_
 refine wpList_nil ?_
 refine nor_then (hK20 _ _ ?_)
 refine wp_ret ?_
 obtain rfl := Option.some.inj hm
 exact post_ret Tryz.results171 hf (.cell rfl (run_loadVarN (n := 8) (vs := [int x_t.Kind, str x_t.Scheme, int x_t.Host.Kind, str x_t.Host.Name, int x_t.Host.Port, str s19, str r15.2.1, .bool r15.2.2.1]) ag_98 sz_98 rfl ((hO.blkSees (i := 0) rfl).cells (o := 0) (n := 8) rfl)) (.tmp rfl .nil)) ⟨rfl, hO.below⟩

end Go.Proofs
