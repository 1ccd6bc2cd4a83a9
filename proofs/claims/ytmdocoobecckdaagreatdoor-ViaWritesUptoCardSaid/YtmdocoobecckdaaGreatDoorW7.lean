/-
  Walks, written by a program (wip/gen): what its model says, the function returns; what was there before is as it was.
-/
import Derived.Test.YtmdocoobecckdaaGreatDoorLib
import Derived.Test.YtmdocoobecckdaaGreatDoorW0
import Derived.Test.YtmdocoobecckdaaGreatDoorW1
import Derived.Test.YtmdocoobecckdaaGreatDoorW4
import Derived.Test.YtmdocoobecckdaaGreatDoorW6
set_option linter.unusedVariables false
set_option linter.unusedSimpArgs false
set_option maxRecDepth 100000
namespace Go.Proofs
open Go.Dk Go.Dm Go.RowKit

set_option maxHeartbeats 1000000 in
theorem w_hostport_percent (x_s : Str) (R : Bool) (w0 : World) (hG : Glob w0) (hm : hostport_percent x_s = some R) :
    Calls Tryz.prog 185 #[str x_s] w0 fun e w' => e = .returned (.bool R) ∧ Below w0.heap.size w0 w' := by
 rw [hostport_percent] at hm
 refine calls_enter (vs := [str x_s]) Tryz.func185 rfl Tryz.ntmps185 rfl fun a hf => ?_
 have hF : Away [] := away_nil
 have hO : Dk.Own w0 [] w0 [] := Dk.Own.refl w0
 refine wp_seq_k fun _ hK1 => ?_
 refine wp_region_list ?_
 refine op_as hf rfl rfl fun a hf => ?_
 refine wpList_nil ?_
 refine nor_then (hK1 _ _ ?_)
 refine wp_seq_cut (fun a w => ∃ (t8 : Bool), Fits 17 [(2, .bool t8)] a ∧ Dk.Own w0 [] w [] ∧ hostport_percent_j1 t8 = some R) ?_ ?_
 refine wp_region_list ?_
 refine op_mv hf rfl rfl fun a hf => ?_
 refine op_val (ex_len_s (l := x_s) Tryz.underlying9 hf rfl) rfl hf rfl rfl fun a hf => ?_
 refine op_val (ex_geq (m := (x_s.length : Int)) (n := 3) hf rfl rfl) rfl hf rfl rfl fun a hf => ?_
 refine op_mv hf rfl rfl fun a hf => ?_
 rcases bcase (decide (3 ≤ (x_s.length : Int))) with hc2 | hc2
 have hm := it hc2 hm
 refine op_guard rfl hf rfl rfl (hc2) ?_
 refine op_mv hf rfl rfl fun a hf => ?_
 refine op_guard rfl hf rfl rfl (hc2) ?_
 obtain ⟨b3, hb3, hm⟩ := ob hm
 refine op_val (ex_index (l := x_s) Tryz.underlying9 hf rfl rfl hb3) rfl hf rfl rfl fun a hf => ?_
 refine op_guard rfl hf rfl rfl (hc2) ?_
 refine op_val (ex_eql_b (b := b3) (c := 37) hf rfl rfl) rfl hf rfl rfl fun a hf => ?_
 refine op_val (ex_pick_t hf rfl hc2 rfl) rfl hf rfl rfl fun a hf => ?_
 refine op_mv hf rfl rfl fun a hf => ?_
 rcases bcase (b3 == 37) with hc4 | hc4
 have hm := it hc4 hm
 refine op_guard rfl hf rfl rfl (hc4) ?_
 refine op_mv hf rfl rfl fun a hf => ?_
 refine op_guard rfl hf rfl rfl (hc4) ?_
 obtain ⟨s5, hs5, hm⟩ := ob hm
 refine op_val (ex_sub_s (l := x_s) Tryz.underlying9 hf rfl rfl rfl hs5) rfl hf rfl rfl fun a hf => ?_
 refine op_guard rfl hf rfl rfl (hc4) ?_
 refine op_buildSlice (vs := [(0, str s5)]) (cs := [str s5]) (e := 9) (sz := 1) hf rfl rfl (fun w => by kernel_rfl) rfl rfl hO fun a b6 w hf hO => ?_
 refine op_guard rfl hf rfl rfl (hc4) ?_
 obtain ⟨r7, hr7, hm⟩ := ob hm
 refine op_enter (ex_call c_117 hf (vs := [.func (.func 118) #[] #[], .slice (some ⟨b6, 0, none⟩) (([s5] : List Str).length) 1]) rfl) rfl hf rfl rfl (w_octet_All octet_IsHex ([s5] : List Str) r7 _ (hG.own hF hO) c_118 (fun y0 r w hG h => callsE (w_octet_IsHex y0 r w hG h)) (hO.rowSees (i := 0) rfl) (hO.rowCap (i := 0) rfl) hr7) ?_
 rintro e w' ⟨he, hb⟩
 refine ⟨_, he, fun a hf => ?_⟩
 have hO := hO.grow hb
 refine op_val (ex_pick_t hf rfl hc4 rfl) rfl hf rfl rfl fun a hf => ?_
 refine op_as hf rfl rfl fun a hf => ?_
 refine wpList_nil ?_
 refine nor_then ?_
 exact ⟨r7, (hf.cons rfl hf.nil), (hO.sub (.cons _ .slnil)), hm⟩
 have hm := ie hc4 hm
 refine op_pass rfl hf rfl rfl (hc4) rfl rfl fun a hf => ?_
 refine op_pass rfl hf rfl rfl (hc4) rfl rfl fun a hf => ?_
 refine op_pass rfl hf rfl rfl (hc4) rfl rfl fun a hf => ?_
 refine op_pass rfl hf rfl rfl (hc4) rfl rfl fun a hf => ?_
 refine op_val (ex_pick_f hf rfl hc4 rfl) rfl hf rfl rfl fun a hf => ?_
 refine op_as hf rfl rfl fun a hf => ?_
 refine wpList_nil ?_
 refine nor_then ?_
 exact ⟨false, (hf.cons rfl hf.nil), hO, hm⟩
 have hm := ie hc2 hm
 refine op_pass rfl hf rfl rfl (hc2) rfl rfl fun a hf => ?_
 refine op_pass rfl hf rfl rfl (hc2) rfl rfl fun a hf => ?_
 refine op_pass rfl hf rfl rfl (hc2) rfl rfl fun a hf => ?_
 refine op_val (ex_pick_f hf rfl hc2 rfl) rfl hf rfl rfl fun a hf => ?_
 refine op_mv hf rfl rfl fun a hf => ?_
 refine op_pass rfl hf rfl rfl (rfl) rfl rfl fun a hf => ?_
 refine op_pass rfl hf rfl rfl (rfl) rfl rfl fun a hf => ?_
 refine op_pass rfl hf rfl rfl (rfl) rfl rfl fun a hf => ?_
 refine op_pass rfl hf rfl rfl (rfl) rfl rfl fun a hf => ?_
 refine op_val (ex_pick_f hf rfl rfl rfl) rfl hf rfl rfl fun a hf => ?_
 refine op_as hf rfl rfl fun a hf => ?_
 refine wpList_nil ?_
 refine nor_then ?_
 exact ⟨false, (hf.cons rfl hf.nil), hO, hm⟩
 rintro a w ⟨t8, hf, hO, hm⟩
 rw [hostport_percent_j1] at hm
 refine wp_ret ?_
 obtain rfl := Option.some.inj hm
 exact post_ret Tryz.results185 hf (.tmp rfl .nil) ⟨rfl, hO.below⟩

set_option maxHeartbeats 1000000 in
theorem w_octet_IsUnreserved (x_b : UInt8) (R : Bool) (w0 : World) (hG : Glob w0) (hm : octet_IsUnreserved x_b = some R) :
    Calls Tryz.prog 186 #[byte x_b] w0 fun e w' => e = .returned (.bool R) ∧ Below w0.heap.size w0 w' := by
 rw [octet_IsUnreserved] at hm
 refine calls_enter (vs := [byte x_b]) Tryz.func186 rfl Tryz.ntmps186 rfl fun a hf => ?_
 have hF : Away [] := away_nil
 have hO : Dk.Own w0 [] w0 [] := Dk.Own.refl w0
 refine wp_seq_k fun _ hK1 => ?_
 refine wp_region_list ?_
 refine op_as hf rfl rfl fun a hf => ?_
 refine wpList_nil ?_
 refine nor_then (hK1 _ _ ?_)
 refine wp_seq_cut (fun a w => ∃ (t7 : Bool), Fits 13 [(2, .bool t7)] a ∧ Dk.Own w0 [] w [] ∧ octet_IsUnreserved_j1 t7 = some R) ?_ ?_
 refine wp_region_list ?_
 refine op_mv hf rfl rfl fun a hf => ?_
 obtain ⟨r2, hr2, hm⟩ := ob hm
 refine op_enter (ex_call c_152 hf (vs := [byte x_b]) rfl) rfl hf rfl rfl (w_octet_IsAlpha x_b r2 _ (hG.own hF hO) hr2) ?_
 rintro e w' ⟨he, hb⟩
 refine ⟨_, he, fun a hf => ?_⟩
 have hO := hO.grow hb
 refine op_mv hf rfl rfl fun a hf => ?_
 rcases bcase (r2) with hc3 | hc3
 have hm := it hc3 hm
 refine op_pass rfl hf rfl rfl (hc3) rfl rfl fun a hf => ?_
 refine op_pass rfl hf rfl rfl (hc3) rfl rfl fun a hf => ?_
 refine op_val (ex_pick_t hf rfl hc3 rfl) rfl hf rfl rfl fun a hf => ?_
 refine op_mv hf rfl rfl fun a hf => ?_
 refine op_pass rfl hf rfl rfl (rfl) rfl rfl fun a hf => ?_
 refine op_pass rfl hf rfl rfl (rfl) rfl rfl fun a hf => ?_
 refine op_val (ex_pick_t hf rfl rfl rfl) rfl hf rfl rfl fun a hf => ?_
 refine op_as hf rfl rfl fun a hf => ?_
 refine wpList_nil ?_
 refine nor_then ?_
 exact ⟨true, (hf.cons rfl hf.nil), hO, hm⟩
 have hm := ie hc3 hm
 refine op_guard rfl hf rfl rfl (hc3) ?_
 refine op_mv hf rfl rfl fun a hf => ?_
 refine op_guard rfl hf rfl rfl (hc3) ?_
 obtain ⟨r4, hr4, hm⟩ := ob hm
 refine op_enter (ex_call c_148 hf (vs := [byte x_b]) rfl) rfl hf rfl rfl (w_octet_IsDigit x_b r4 _ (hG.own hF hO) hr4) ?_
 rintro e w' ⟨he, hb⟩
 refine ⟨_, he, fun a hf => ?_⟩
 have hO := hO.grow hb
 refine op_val (ex_pick_f hf rfl hc3 rfl) rfl hf rfl rfl fun a hf => ?_
 refine op_mv hf rfl rfl fun a hf => ?_
 rcases bcase (r4) with hc5 | hc5
 have hm := it hc5 hm
 refine op_pass rfl hf rfl rfl (hc5) rfl rfl fun a hf => ?_
 refine op_pass rfl hf rfl rfl (hc5) rfl rfl fun a hf => ?_
 refine op_val (ex_pick_t hf rfl hc5 rfl) rfl hf rfl rfl fun a hf => ?_
 refine op_as hf rfl rfl fun a hf => ?_
 refine wpList_nil ?_
 refine nor_then ?_
 exact ⟨true, (hf.cons rfl hf.nil), hO, hm⟩
 have hm := ie hc5 hm
 refine op_guard rfl hf rfl rfl (hc5) ?_
 refine op_mv hf rfl rfl fun a hf => ?_
 refine op_guard rfl hf rfl rfl (hc5) ?_
 obtain ⟨r6, hr6, hm⟩ := ob hm
 refine op_enter (ex_call c_153 hf (vs := [byte x_b, str [45, 46, 95, 126]]) rfl) rfl hf rfl rfl (w_octet_one x_b [45, 46, 95, 126] r6 _ (hG.own hF hO) hr6) ?_
 rintro e w' ⟨he, hb⟩
 refine ⟨_, he, fun a hf => ?_⟩
 have hO := hO.grow hb
 refine op_val (ex_pick_f hf rfl hc5 rfl) rfl hf rfl rfl fun a hf => ?_
 refine op_as hf rfl rfl fun a hf => ?_
 refine wpList_nil ?_
 refine nor_then ?_
 exact ⟨r6, (hf.cons rfl hf.nil), hO, hm⟩
 rintro a w ⟨t7, hf, hO, hm⟩
 rw [octet_IsUnreserved_j1] at hm
 refine wp_ret ?_
 obtain rfl := Option.some.inj hm
 exact post_ret Tryz.results186 hf (.tmp rfl .nil) ⟨rfl, hO.below⟩

set_option maxHeartbeats 1000000 in
theorem w_octet_IsSub (x_b : UInt8) (R : Bool) (w0 : World) (hG : Glob w0) (hm : octet_IsSub x_b = some R) :
    Calls Tryz.prog 187 #[byte x_b] w0 fun e w' => e = .returned (.bool R) ∧ Below w0.heap.size w0 w' := by
 rw [octet_IsSub] at hm
 refine calls_enter (vs := [byte x_b]) Tryz.func187 rfl Tryz.ntmps187 rfl fun a hf => ?_
 have hF : Away [] := away_nil
 have hO : Dk.Own w0 [] w0 [] := Dk.Own.refl w0
 refine wp_seq_k fun _ hK1 => ?_
 refine wp_region_list ?_
 refine op_as hf rfl rfl fun a hf => ?_
 refine wpList_nil ?_
 refine nor_then (hK1 _ _ ?_)
 refine wp_seq_k fun _ hK3 => ?_
 refine wp_region_list ?_
 refine op_mv hf rfl rfl fun a hf => ?_
 obtain ⟨r2, hr2, hm⟩ := ob hm
 refine op_enter (ex_call c_153 hf (vs := [byte x_b, str [33, 36, 38, 39, 40, 41, 42, 43, 44, 59, 61]]) rfl) rfl hf rfl rfl (w_octet_one x_b [33, 36, 38, 39, 40, 41, 42, 43, 44, 59, 61] r2 _ (hG.own hF hO) hr2) ?_
 rintro e w' ⟨he, hb⟩
 refine ⟨_, he, fun a hf => ?_⟩
 have hO := hO.grow hb
 refine op_as hf rfl rfl fun a hf => ?_
 refine wpList_nil ?_
 refine nor_then (hK3 _ _ ?_)
 refine wp_ret ?_
 obtain rfl := Option.some.inj hm
 exact post_ret Tryz.results187 hf (.tmp rfl .nil) ⟨rfl, hO.below⟩

set_option maxHeartbeats 1000000 in
theorem w_hostport_Name (x_s : Str) (R : Bool) (w0 : World) (hG : Glob w0) (hm : hostport_Name x_s = some R) :
    Calls Tryz.prog 154 #[str x_s] w0 fun e w' => e = .returned (.bool R) ∧ Below w0.heap.size w0 w' := by
 rw [hostport_Name] at hm
 refine calls_enter (vs := [str x_s]) Tryz.func154 rfl Tryz.ntmps154 rfl fun a hf => ?_
 have hF : Away [] := away_nil
 have hO : Dk.Own w0 [] w0 [] := Dk.Own.refl w0
 refine wp_seq_k fun _ hK1 => ?_
 refine wp_region_list ?_
 refine op_as hf rfl rfl fun a hf => ?_
 refine wpList_nil ?_
 refine nor_then (hK1 _ _ ?_)
 refine wp_seq_k fun _ hK5 => ?_
 refine wp_seq_k fun _ hK2 => ?_
 refine wp_region_list ?_
 refine op_mv hf rfl rfl fun a hf => ?_
 refine op_val (ex_eql_s (l := x_s) (m := []) hf rfl rfl) rfl hf rfl rfl fun a hf => ?_
 refine wpList_nil ?_
 refine nor_then (hK2 _ _ ?_)
 refine wp_cond_cut hf rfl (fun hc3 => ?_) (fun hc3 => ?_)
 have hm := it hc3 hm
 refine wp_seq_k fun _ hK4 => ?_
 refine wp_region_list ?_
 refine op_as hf rfl rfl fun a hf => ?_
 refine wpList_nil ?_
 refine nor_then (hK4 _ _ ?_)
 refine wp_ret ?_
 refine ret_then ?_
 obtain rfl := Option.some.inj hm
 exact post_ret Tryz.results154 hf (.tmp rfl .nil) ⟨rfl, hO.below⟩
 have hm := ie hc3 hm
 refine wp_skip ?_
 refine nor_then (hK5 _ _ ?_)
 refine wp_seq_k fun _ hK23 => ?_
 refine wp_block ?_
 refine wp_loop_n (fun k a w => ∃ (s6 : Str), Fits 23 [(0, str s6)] a ∧ Dk.Own w0 [] w [] ∧ hostport_Name_L1 k s6 = some R) ?_ fuel ?_
 rintro n1 a w ⟨s6, hf, hO, hm⟩
 obtain _ | n1 := n1
 rw [hostport_Name_L1] at hm
 cases hm
 rw [hostport_Name_L1] at hm
 refine wp_seq_k fun _ hK9 => ?_
 refine wp_seq_k fun _ hK7 => ?_
 refine wp_region_list ?_
 refine op_mv hf rfl rfl fun a hf => ?_
 refine op_val (ex_neq_s (l := s6) (m := []) hf rfl rfl) rfl hf rfl rfl fun a hf => ?_
 refine wpList_nil ?_
 refine nor_then (hK7 _ _ ?_)
 refine wp_cond_cut hf rfl (fun hc8 => ?_) (fun hc8 => ?_)
 have hm := it hc8 hm
 refine wp_skip ?_
 refine nor_then (hK9 _ _ ?_)
 refine wp_block ?_
 refine wp_block ?_
 refine wp_seq_k fun _ hK11 => ?_
 refine wp_region_list ?_
 refine op_mv hf rfl rfl fun a hf => ?_
 obtain ⟨r10, hr10, hm⟩ := ob hm
 refine op_enter (ex_call c_185 hf (vs := [str s6]) rfl) rfl hf rfl rfl (w_hostport_percent s6 r10 _ (hG.own hF hO) hr10) ?_
 rintro e w' ⟨he, hb⟩
 refine ⟨_, he, fun a hf => ?_⟩
 have hO := hO.grow hb
 refine op_as hf rfl rfl fun a hf => ?_
 refine wpList_nil ?_
 refine nor_then (hK11 _ _ ?_)
 refine wp_cond_cut hf rfl (fun hc12 => ?_) (fun hc12 => ?_)
 have hm := it hc12 hm
 refine wp_region_list ?_
 refine op_mv hf rfl rfl fun a hf => ?_
 obtain ⟨s13, hs13, hm⟩ := ob hm
 refine op_val (ex_from_s (l := s6) Tryz.underlying9 hf rfl rfl hs13) rfl hf rfl rfl fun a hf => ?_
 refine op_as hf rfl rfl fun a hf => ?_
 refine wpList_nil ?_
 refine nor_block ?_
 refine nor_block ?_
 refine nor_then ?_
 exact ⟨_, Nat.lt_succ_self _, s13, (hf.cons rfl hf.nil), hO, hm⟩
 have hm := ie hc12 hm
 refine wp_seq_cut (fun a w => ∃ (t19 : Bool), Fits 23 [(0, str s6), (12, .bool t19)] a ∧ Dk.Own w0 [] w [] ∧ hostport_Name_j2 (hostport_Name_L1 n1) s6 t19 = some R) ?_ ?_
 refine wp_region_list ?_
 refine op_mv hf rfl rfl fun a hf => ?_
 obtain ⟨b14, hb14, hm⟩ := ob hm
 refine op_val (ex_index (l := s6) Tryz.underlying9 hf rfl rfl hb14) rfl hf rfl rfl fun a hf => ?_
 obtain ⟨r15, hr15, hm⟩ := ob hm
 refine op_enter (ex_call c_186 hf (vs := [byte b14]) rfl) rfl hf rfl rfl (w_octet_IsUnreserved b14 r15 _ (hG.own hF hO) hr15) ?_
 rintro e w' ⟨he, hb⟩
 refine ⟨_, he, fun a hf => ?_⟩
 have hO := hO.grow hb
 refine op_mv hf rfl rfl fun a hf => ?_
 rcases bcase (r15) with hc16 | hc16
 have hm := it hc16 hm
 refine op_pass rfl hf rfl rfl (hc16) rfl rfl fun a hf => ?_
 refine op_pass rfl hf rfl rfl (hc16) rfl rfl fun a hf => ?_
 refine op_pass rfl hf rfl rfl (hc16) rfl rfl fun a hf => ?_
 refine op_val (ex_pick_t hf rfl hc16 rfl) rfl hf rfl rfl fun a hf => ?_
 refine op_as hf rfl rfl fun a hf => ?_
 refine wpList_nil ?_
 refine nor_then ?_
 exact ⟨true, (hf.cons rfl (hf.cons rfl hf.nil)), hO, hm⟩
 have hm := ie hc16 hm
 refine op_guard rfl hf rfl rfl (hc16) ?_
 refine op_mv hf rfl rfl fun a hf => ?_
 refine op_guard rfl hf rfl rfl (hc16) ?_
 obtain ⟨b17, hb17, hm⟩ := ob hm
 refine op_val (ex_index (l := s6) Tryz.underlying9 hf rfl rfl hb17) rfl hf rfl rfl fun a hf => ?_
 refine op_guard rfl hf rfl rfl (hc16) ?_
 obtain ⟨r18, hr18, hm⟩ := ob hm
 refine op_enter (ex_call c_187 hf (vs := [byte b17]) rfl) rfl hf rfl rfl (w_octet_IsSub b17 r18 _ (hG.own hF hO) hr18) ?_
 rintro e w' ⟨he, hb⟩
 refine ⟨_, he, fun a hf => ?_⟩
 have hO := hO.grow hb
 refine op_val (ex_pick_f hf rfl hc16 rfl) rfl hf rfl rfl fun a hf => ?_
 refine op_as hf rfl rfl fun a hf => ?_
 refine wpList_nil ?_
 refine nor_then ?_
 exact ⟨r18, (hf.cons rfl (hf.cons rfl hf.nil)), hO, hm⟩
 rintro a w ⟨t19, hf, hO, hm⟩
 rw [hostport_Name_j2] at hm
 refine wp_cond_cut hf rfl (fun hc20 => ?_) (fun hc20 => ?_)
 have hm := it hc20 hm
 refine wp_region_list ?_
 refine op_mv hf rfl rfl fun a hf => ?_
 obtain ⟨s21, hs21, hm⟩ := ob hm
 refine op_val (ex_from_s (l := s6) Tryz.underlying9 hf rfl rfl hs21) rfl hf rfl rfl fun a hf => ?_
 refine op_as hf rfl rfl fun a hf => ?_
 refine wpList_nil ?_
 refine nor_block ?_
 refine nor_block ?_
 refine nor_then ?_
 exact ⟨_, Nat.lt_succ_self _, s21, (hf.cons rfl hf.nil), hO, hm⟩
 have hm := ie hc20 hm
 refine wp_seq_k fun _ hK22 => ?_
 refine wp_region_list ?_
 refine op_as hf rfl rfl fun a hf => ?_
 refine wpList_nil ?_
 refine nor_then (hK22 _ _ ?_)
 refine wp_ret ?_
 refine ret_block ?_
 refine ret_block ?_
 refine ret_then ?_
 refine ret_block ?_
 refine ret_then ?_
 obtain rfl := Option.some.inj hm
 exact post_ret Tryz.results154 hf (.tmp rfl .nil) ⟨rfl, hO.below⟩
 have hm := ie hc8 hm
 refine wp_exit ?_
 refine exit_then ?_
 refine exit_then ?_
 refine exit_here ?_
 refine nor_then (hK23 _ _ ?_)
 refine wp_seq_k fun _ hK24 => ?_
 refine wp_region_list ?_
 refine op_as hf rfl rfl fun a hf => ?_
 refine wpList_nil ?_
 refine nor_then (hK24 _ _ ?_)
 refine wp_ret ?_
 obtain rfl := Option.some.inj hm
 exact post_ret Tryz.results154 hf (.tmp rfl .nil) ⟨rfl, hO.below⟩
 exact ⟨x_s, (hf.cons rfl hf.nil), hO, hm⟩

set_option maxHeartbeats 1000000 in
theorem w_hostport_of (x_s : Str) (R : api_Host × Bool) (w0 : World) (hG : GlobT w0) (hm : hostport_of x_s = some R) :
    Calls Tryz.prog 121 #[str x_s] w0 fun e w' => e = .returned (.tuple #[.agg #[int R.1.Kind, str R.1.Name, int R.1.Port], .bool R.2]) ∧ Below w0.heap.size w0 w' := by
 rw [hostport_of] at hm
 refine calls_enter (vs := [str x_s]) Tryz.func121 rfl Tryz.ntmps121 rfl fun a hf => ?_
 have hF : Away [] := away_nil
 have hO : Dk.Own w0 [] w0 [] := Dk.Own.refl w0
 refine wp_seq_k fun _ hK2 => ?_
 refine wp_region_list ?_
 refine op_alloc al_98 hf rfl hO fun a b1 w hf hO => ?_
 refine op_as hf rfl rfl fun a hf => ?_
 refine wpList_nil ?_
 refine nor_then (hK2 _ _ ?_)
 refine wp_seq_k fun _ hK4 => ?_
 refine wp_region_list ?_
 refine op_mv hf rfl rfl fun a hf => ?_
 refine op_val (ex_build (vs := [(1, str x_s), (2, int (-1))]) (v := .agg #[int 0, str x_s, int (-1)]) hf rfl (by kernel_rfl)) rfl hf rfl rfl fun a hf => ?_
 refine op_alloc al_98 hf rfl hO fun a b3 w hf hO => ?_
 refine op_storeN (i := 0) (n := 3) sz_98 rfl rfl rfl (by simp [Value.oneCell']) hf rfl rfl hO fun w hO => ?_
 refine wpList_nil ?_
 refine nor_then (hK4 _ _ ?_)
 refine wp_seq_cut (fun a w => ∃ (i24 : Int) (s25 : Str), Fits 51 [(2, ptr b1 0), (4, ptr b3 0)] a ∧ Dk.Own w0 [] w [.blk b3 [int i24, str s25, int (-1)] 98, .blk b1 [int 0, str [], int 0] 98] ∧ hostport_of_j2 i24 s25 = some R) ?_ ?_
 refine wp_block ?_
 refine wp_seq_cut (fun a w => ∃ (t14 : Bool), Fits 51 [(0, str x_s), (2, ptr b1 0), (4, ptr b3 0), (7, .bool t14)] a ∧ Dk.Own w0 [] w [.blk b3 [int 0, str x_s, int (-1)] 98, .blk b1 [int 0, str [], int 0] 98] ∧ hostport_of_j1 x_s t14 = some R) ?_ ?_
 refine wp_region_list ?_
 refine op_mv hf rfl rfl fun a hf => ?_
 refine op_val (ex_len_s (l := x_s) Tryz.underlying9 hf rfl) rfl hf rfl rfl fun a hf => ?_
 refine op_val (ex_gtr (m := (x_s.length : Int)) (n := 2) hf rfl rfl) rfl hf rfl rfl fun a hf => ?_
 refine op_mv hf rfl rfl fun a hf => ?_
 rcases bcase (decide (2 < (x_s.length : Int))) with hc5 | hc5
 have hm := it hc5 hm
 refine op_guard rfl hf rfl rfl (hc5) ?_
 refine op_mv hf rfl rfl fun a hf => ?_
 refine op_guard rfl hf rfl rfl (hc5) ?_
 obtain ⟨b6, hb6, hm⟩ := ob hm
 refine op_val (ex_index (l := x_s) Tryz.underlying9 hf rfl rfl hb6) rfl hf rfl rfl fun a hf => ?_
 refine op_guard rfl hf rfl rfl (hc5) ?_
 refine op_val (ex_eql_b (b := b6) (c := 91) hf rfl rfl) rfl hf rfl rfl fun a hf => ?_
 refine op_val (ex_pick_t hf rfl hc5 rfl) rfl hf rfl rfl fun a hf => ?_
 refine op_mv hf rfl rfl fun a hf => ?_
 rcases bcase (b6 == 91) with hc7 | hc7
 have hm := it hc7 hm
 refine op_guard rfl hf rfl rfl (hc7) ?_
 refine op_mv hf rfl rfl fun a hf => ?_
 refine op_guard rfl hf rfl rfl (hc7) ?_
 refine op_mv hf rfl rfl fun a hf => ?_
 refine op_guard rfl hf rfl rfl (hc7) ?_
 refine op_val (ex_len_s (l := x_s) Tryz.underlying9 hf rfl) rfl hf rfl rfl fun a hf => ?_
 refine op_guard rfl hf rfl rfl (hc7) ?_
 obtain ⟨i8, hi8, hm⟩ := ob hm
 refine op_val (ex_sub hf rfl rfl hi8) rfl hf rfl rfl fun a hf => ?_
 refine op_guard rfl hf rfl rfl (hc7) ?_
 obtain ⟨b9, hb9, hm⟩ := ob hm
 refine op_val (ex_index (l := x_s) Tryz.underlying9 hf rfl rfl hb9) rfl hf rfl rfl fun a hf => ?_
 refine op_guard rfl hf rfl rfl (hc7) ?_
 refine op_val (ex_eql_b (b := b9) (c := 93) hf rfl rfl) rfl hf rfl rfl fun a hf => ?_
 refine op_val (ex_pick_t hf rfl hc7 rfl) rfl hf rfl rfl fun a hf => ?_
 refine op_mv hf rfl rfl fun a hf => ?_
 rcases bcase (b9 == 93) with hc10 | hc10
 have hm := it hc10 hm
 refine op_guard rfl hf rfl rfl (hc10) ?_
 refine op_mv hf rfl rfl fun a hf => ?_
 refine op_guard rfl hf rfl rfl (hc10) ?_
 refine op_mv hf rfl rfl fun a hf => ?_
 refine op_guard rfl hf rfl rfl (hc10) ?_
 refine op_val (ex_len_s (l := x_s) Tryz.underlying9 hf rfl) rfl hf rfl rfl fun a hf => ?_
 refine op_guard rfl hf rfl rfl (hc10) ?_
 obtain ⟨i11, hi11, hm⟩ := ob hm
 refine op_val (ex_sub hf rfl rfl hi11) rfl hf rfl rfl fun a hf => ?_
 refine op_guard rfl hf rfl rfl (hc10) ?_
 obtain ⟨s12, hs12, hm⟩ := ob hm
 refine op_val (ex_sub_s (l := x_s) Tryz.underlying9 hf rfl rfl rfl hs12) rfl hf rfl rfl fun a hf => ?_
 refine op_guard rfl hf rfl rfl (hc10) ?_
 obtain ⟨r13, hr13, hm⟩ := ob hm
 refine op_enter (ex_call c_44 hf (vs := [str s12]) rfl) rfl hf rfl rfl (w_hostport_Six s12 r13 _ (hG.own hF hO) hr13) ?_
 rintro e w' ⟨he, hb⟩
 refine ⟨_, he, fun a hf => ?_⟩
 have hO := hO.grow hb
 refine op_val (ex_pick_t hf rfl hc10 rfl) rfl hf rfl rfl fun a hf => ?_
 refine op_as hf rfl rfl fun a hf => ?_
 refine wpList_nil ?_
 refine nor_then ?_
 exact ⟨r13, (hf.cons rfl (hf.cons rfl (hf.cons rfl (hf.cons rfl hf.nil)))), hO, hm⟩
 have hm := ie hc10 hm
 refine op_pass rfl hf rfl rfl (hc10) rfl rfl fun a hf => ?_
 refine op_pass rfl hf rfl rfl (hc10) rfl rfl fun a hf => ?_
 refine op_pass rfl hf rfl rfl (hc10) rfl rfl fun a hf => ?_
 refine op_pass rfl hf rfl rfl (hc10) rfl rfl fun a hf => ?_
 refine op_pass rfl hf rfl rfl (hc10) rfl rfl fun a hf => ?_
 refine op_pass rfl hf rfl rfl (hc10) rfl rfl fun a hf => ?_
 refine op_val (ex_pick_f hf rfl hc10 rfl) rfl hf rfl rfl fun a hf => ?_
 refine op_as hf rfl rfl fun a hf => ?_
 refine wpList_nil ?_
 refine nor_then ?_
 exact ⟨false, (hf.cons rfl (hf.cons rfl (hf.cons rfl (hf.cons rfl hf.nil)))), hO, hm⟩
 have hm := ie hc7 hm
 refine op_pass rfl hf rfl rfl (hc7) rfl rfl fun a hf => ?_
 refine op_pass rfl hf rfl rfl (hc7) rfl rfl fun a hf => ?_
 refine op_pass rfl hf rfl rfl (hc7) rfl rfl fun a hf => ?_
 refine op_pass rfl hf rfl rfl (hc7) rfl rfl fun a hf => ?_
 refine op_pass rfl hf rfl rfl (hc7) rfl rfl fun a hf => ?_
 refine op_pass rfl hf rfl rfl (hc7) rfl rfl fun a hf => ?_
 refine op_val (ex_pick_f hf rfl hc7 rfl) rfl hf rfl rfl fun a hf => ?_
 refine op_mv hf rfl rfl fun a hf => ?_
 refine op_pass rfl hf rfl rfl (rfl) rfl rfl fun a hf => ?_
 refine op_pass rfl hf rfl rfl (rfl) rfl rfl fun a hf => ?_
 refine op_pass rfl hf rfl rfl (rfl) rfl rfl fun a hf => ?_
 refine op_pass rfl hf rfl rfl (rfl) rfl rfl fun a hf => ?_
 refine op_pass rfl hf rfl rfl (rfl) rfl rfl fun a hf => ?_
 refine op_pass rfl hf rfl rfl (rfl) rfl rfl fun a hf => ?_
 refine op_val (ex_pick_f hf rfl rfl rfl) rfl hf rfl rfl fun a hf => ?_
 refine op_as hf rfl rfl fun a hf => ?_
 refine wpList_nil ?_
 refine nor_then ?_
 exact ⟨false, (hf.cons rfl (hf.cons rfl (hf.cons rfl (hf.cons rfl hf.nil)))), hO, hm⟩
 have hm := ie hc5 hm
 refine op_pass rfl hf rfl rfl (hc5) rfl rfl fun a hf => ?_
 refine op_pass rfl hf rfl rfl (hc5) rfl rfl fun a hf => ?_
 refine op_pass rfl hf rfl rfl (hc5) rfl rfl fun a hf => ?_
 refine op_val (ex_pick_f hf rfl hc5 rfl) rfl hf rfl rfl fun a hf => ?_
 refine op_mv hf rfl rfl fun a hf => ?_
 refine op_pass rfl hf rfl rfl (rfl) rfl rfl fun a hf => ?_
 refine op_pass rfl hf rfl rfl (rfl) rfl rfl fun a hf => ?_
 refine op_pass rfl hf rfl rfl (rfl) rfl rfl fun a hf => ?_
 refine op_pass rfl hf rfl rfl (rfl) rfl rfl fun a hf => ?_
 refine op_pass rfl hf rfl rfl (rfl) rfl rfl fun a hf => ?_
 refine op_pass rfl hf rfl rfl (rfl) rfl rfl fun a hf => ?_
 refine op_val (ex_pick_f hf rfl rfl rfl) rfl hf rfl rfl fun a hf => ?_
 refine op_mv hf rfl rfl fun a hf => ?_
 refine op_pass rfl hf rfl rfl (rfl) rfl rfl fun a hf => ?_
 refine op_pass rfl hf rfl rfl (rfl) rfl rfl fun a hf => ?_
 refine op_pass rfl hf rfl rfl (rfl) rfl rfl fun a hf => ?_
 refine op_pass rfl hf rfl rfl (rfl) rfl rfl fun a hf => ?_
 refine op_pass rfl hf rfl rfl (rfl) rfl rfl fun a hf => ?_
 refine op_pass rfl hf rfl rfl (rfl) rfl rfl fun a hf => ?_
 refine op_val (ex_pick_f hf rfl rfl rfl) rfl hf rfl rfl fun a hf => ?_
 refine op_as hf rfl rfl fun a hf => ?_
 refine wpList_nil ?_
 refine nor_then ?_
 exact ⟨false, (hf.cons rfl (hf.cons rfl (hf.cons rfl (hf.cons rfl hf.nil)))), hO, hm⟩
 rintro a w ⟨t14, hf, hO, hm⟩
 rw [hostport_of_j1] at hm
 refine wp_cond_cut hf rfl (fun hc15 => ?_) (fun hc15 => ?_)
 have hm := it hc15 hm
 obtain ⟨i16, hi16, hm⟩ := ob hm
 obtain ⟨s17, hs17, hm⟩ := ob hm
 refine wp_drawS' (S := Unit) (E0 := [(0, str x_s), (2, ptr b1 0), (4, ptr b3 0)]) (by kernel_rfl) (fun k σ w => match k with | 0 => Dk.Own w0 [] w [.blk b3 [int 0, str x_s, int (-1)] 98, .blk b1 [int 0, str [], int 0] 98] | 1 => Dk.Own w0 [] w [.blk b3 [int 3, str x_s, int (-1)] 98, .blk b1 [int 0, str [], int 0] 98] | _ => Dk.Own w0 [] w [.blk b3 [int 3, str s17, int (-1)] 98, .blk b1 [int 0, str [], int 0] 98]) (fun σ => [⟨[(0, str x_s)], some (32, str x_s)⟩, ⟨[(0, str x_s)], some (33, str x_s)⟩, ⟨[(33, str x_s)], some (34, int (x_s.length : Int))⟩, ⟨[(34, int (x_s.length : Int))], some (35, int i16)⟩, ⟨[(32, str x_s), (35, int i16)], some (36, str s17)⟩, ⟨[(4, ptr b3 0)], some (37, ptr b3 0)⟩, ⟨[(37, ptr b3 0)], none⟩, ⟨[(4, ptr b3 0)], some (38, ptr b3 1)⟩, ⟨[(36, str s17), (38, ptr b3 1)], none⟩]) () [6, 8] rfl (fun _ => rfl) (fun _ => rfl) (fun _ => rfl) rfl rfl (by decide) rfl hO.drew (hf.cons rfl (hf.cons rfl (hf.cons rfl hf.nil))) (fun σ => ⟨⟨rfl, trivial⟩, ⟨rfl, trivial⟩, ⟨rfl, trivial⟩, ⟨rfl, trivial⟩, ⟨rfl, rfl, trivial⟩, ⟨rfl, trivial⟩, ⟨rfl, trivial⟩, ⟨rfl, trivial⟩, ⟨rfl, rfl, trivial⟩, trivial⟩) ⟨sS_pure rfl (fun σ => rfl) (fun σ => rfl) (fun σ a w k _ _ _ _ hf => ex_move hf rfl), sS_pure rfl (fun σ => rfl) (fun σ => rfl) (fun σ a w k _ _ _ _ hf => ex_move hf rfl), sS_pure rfl (fun σ => rfl) (fun σ => rfl) (fun σ a w k _ _ _ _ hf => ex_len_s (l := x_s) Tryz.underlying9 hf rfl), sS_pure rfl (fun σ => rfl) (fun σ => rfl) (fun σ a w k _ _ _ _ hf => ex_sub hf rfl rfl hi16), sS_pure rfl (fun σ => rfl) (fun σ => rfl) (fun σ a w k _ _ _ _ hf => ex_sub_s (l := x_s) Tryz.underlying9 hf rfl rfl rfl hs17), sS_pure rfl (fun σ => rfl) (fun σ => rfl) (fun σ a w k _ _ _ _ hf => ex_field fa_98_0 hf rfl), sS_skip rfl (fun σ => rfl) (fun σ => rfl) rfl (fun σ w (hO : Dk.Own w0 [] w _) => by obtain ⟨w', hO', hr⟩ := ef_store1 (x := (.tmp 37)) (y := (.const (int 3))) (E := [(37, ptr b3 0)]) (i := 0) (o := 0) (v := int 3) sz_96 rfl rfl rfl rfl hO rfl rfl; exact ⟨(), w', hO', ⟨.inr rfl, .inr rfl, .inr rfl, .inr rfl, .inr rfl, .inr rfl, .inr rfl, .inr rfl, .inr rfl, trivial⟩, hr⟩), sS_pure rfl (fun σ => rfl) (fun σ => rfl) (fun σ a w k _ _ _ _ hf => ex_field fa_98_1 hf rfl), sS_skip rfl (fun σ => rfl) (fun σ => rfl) rfl (fun σ w (hO : Dk.Own w0 [] w _) => by obtain ⟨w', hO', hr⟩ := ef_store1 (x := (.tmp 38)) (y := (.tmp 36)) (E := [(36, str s17), (38, ptr b3 1)]) (i := 0) (o := 1) (v := str s17) sz_9 rfl rfl rfl rfl hO rfl rfl; exact ⟨(), w', hO', ⟨.inr rfl, .inr rfl, .inr rfl, .inr rfl, .inr rfl, .inr rfl, .inr rfl, .inr rfl, .inr rfl, trivial⟩, hr⟩), trivial⟩ ?_
 rintro _ a w hf hO
 have hO : Dk.Own w0 [] w _ := hO
 have hf : Fits 51 [(2, ptr b1 0), (4, ptr b3 0)] a := (hf.cons rfl (hf.cons rfl hf.nil))
 refine nor_block ?_
 refine nor_then ?_
 exact ⟨3, s17, (hf.cons rfl (hf.cons rfl hf.nil)), hO, hm⟩
 have hm := ie hc15 hm
 refine wp_seq_k fun _ hK19 => ?_
 refine wp_region_list ?_
 refine op_mv hf rfl rfl fun a hf => ?_
 obtain ⟨r18, hr18, hm⟩ := ob hm
 refine op_enter (ex_call c_43 hf (vs := [str x_s]) rfl) rfl hf rfl rfl (w_hostport_Four x_s r18 _ (hG.own hF hO) hr18) ?_
 rintro e w' ⟨he, hb⟩
 refine ⟨_, he, fun a hf => ?_⟩
 have hO := hO.grow hb
 refine op_as hf rfl rfl fun a hf => ?_
 refine wpList_nil ?_
 refine nor_then (hK19 _ _ ?_)
 refine wp_cond_cut hf rfl (fun hc20 => ?_) (fun hc20 => ?_)
 have hm := it hc20 hm
 refine wp_region_list ?_
 refine op_val (ex_field fa_98_0 hf rfl) rfl hf rfl rfl fun a hf => ?_
 refine op_store1 (i := 0) (o := 0) (v := int 2) sz_96 rfl rfl rfl rfl hf rfl rfl hO fun w hO => ?_
 refine wpList_nil ?_
 refine nor_block ?_
 refine nor_then ?_
 exact ⟨2, x_s, (hf.cons rfl (hf.cons rfl hf.nil)), hO, hm⟩
 have hm := ie hc20 hm
 refine wp_seq_k fun _ hK22 => ?_
 refine wp_region_list ?_
 refine op_mv hf rfl rfl fun a hf => ?_
 obtain ⟨r21, hr21, hm⟩ := ob hm
 refine op_enter (ex_call c_154 hf (vs := [str x_s]) rfl) rfl hf rfl rfl (w_hostport_Name x_s r21 _ (hG.own hF hO).1 hr21) ?_
 rintro e w' ⟨he, hb⟩
 refine ⟨_, he, fun a hf => ?_⟩
 have hO := hO.grow hb
 refine op_as hf rfl rfl fun a hf => ?_
 refine wpList_nil ?_
 refine nor_then (hK22 _ _ ?_)
 refine wp_cond_cut hf rfl (fun hc23 => ?_) (fun hc23 => ?_)
 have hm := it hc23 hm
 refine wp_region_list ?_
 refine op_val (ex_field fa_98_0 hf rfl) rfl hf rfl rfl fun a hf => ?_
 refine op_store1 (i := 0) (o := 0) (v := int 1) sz_96 rfl rfl rfl rfl hf rfl rfl hO fun w hO => ?_
 refine wpList_nil ?_
 refine nor_block ?_
 refine nor_then ?_
 exact ⟨1, x_s, (hf.cons rfl (hf.cons rfl hf.nil)), hO, hm⟩
 have hm := ie hc23 hm
 refine wp_skip ?_
 refine nor_block ?_
 refine nor_then ?_
 exact ⟨0, x_s, (hf.cons rfl (hf.cons rfl hf.nil)), hO, hm⟩
 rintro a w ⟨i24, s25, hf, hO, hm⟩
 rw [hostport_of_j2] at hm
 refine wp_seq_k fun _ hK26 => ?_
 refine wp_drawS' (S := Unit) (E0 := [(2, ptr b1 0), (4, ptr b3 0)]) (by kernel_rfl) (fun k σ w => match k with | 0 => Dk.Own w0 [] w [.blk b3 [int i24, str s25, int (-1)] 98, .blk b1 [int 0, str [], int 0] 98] | _ => Dk.Own w0 [] w [.blk b3 [int i24, str s25, int (-1)] 98, .blk b1 [int i24, str s25, int (-1)] 98]) (fun σ => [⟨[(4, ptr b3 0)], some (47, .agg #[int i24, str s25, int (-1)])⟩, ⟨[(4, ptr b3 0)], some (48, ptr b3 0)⟩, ⟨[(48, ptr b3 0)], some (49, int i24)⟩, ⟨[(49, int i24)], some (50, .bool (!(i24 == 0)))⟩, ⟨[(2, ptr b1 0), (47, .agg #[int i24, str s25, int (-1)])], none⟩, ⟨[(50, .bool (!(i24 == 0)))], some (3, .bool (!(i24 == 0)))⟩]) () [4] rfl (fun _ => rfl) (fun _ => rfl) (fun _ => rfl) rfl rfl (by decide) rfl hO.drew (hf.cons rfl (hf.cons rfl hf.nil)) (fun σ => ⟨⟨rfl, trivial⟩, ⟨rfl, trivial⟩, ⟨rfl, trivial⟩, ⟨rfl, trivial⟩, ⟨rfl, rfl, trivial⟩, ⟨rfl, trivial⟩, trivial⟩) ⟨sS_pure rfl (fun σ => rfl) (fun σ => rfl) (fun σ a w k hk hlo hup hst hf => match k, hk, hlo, hup, hst, hf with | 0, _, _, _, hst, hf => have hO : Dk.Own w0 [] w _ := hst; ex_loadN (o := 0) (vs := [int i24, str s25, int (-1)]) ag_98 sz_98 (hO.blkSees (i := 0) rfl) rfl rfl hf rfl | 1, _, _, _, hst, hf => have hO : Dk.Own w0 [] w _ := hst; ex_loadN (o := 0) (vs := [int i24, str s25, int (-1)]) ag_98 sz_98 (hO.blkSees (i := 0) rfl) rfl rfl hf rfl | k + 2, hk, _, _, _, _ => absurd hk (by simp)), sS_pure rfl (fun σ => rfl) (fun σ => rfl) (fun σ a w k _ _ _ _ hf => ex_field fa_98_0 hf rfl), sS_pure rfl (fun σ => rfl) (fun σ => rfl) (fun σ a w k hk hlo hup hst hf => match k, hk, hlo, hup, hst, hf with | 0, _, _, _, hst, hf => have hO : Dk.Own w0 [] w _ := hst; ex_load1 (o := 0) ag_96 (hO.blkSees (i := 0) rfl) rfl hf rfl | 1, _, _, _, hst, hf => have hO : Dk.Own w0 [] w _ := hst; ex_load1 (o := 0) ag_96 (hO.blkSees (i := 0) rfl) rfl hf rfl | k + 2, hk, _, _, _, _ => absurd hk (by simp)), sS_pure rfl (fun σ => rfl) (fun σ => rfl) (fun σ a w k _ _ _ _ hf => ex_neq (m := i24) (n := 0) hf rfl rfl), sS_skip rfl (fun σ => rfl) (fun σ => rfl) rfl (fun σ w (hO : Dk.Own w0 [] w _) => by obtain ⟨w', hO', hr⟩ := ef_storeN (x := (.tmp 2)) (y := (.tmp 47)) (E := [(2, ptr b1 0), (47, .agg #[int i24, str s25, int (-1)])]) (i := 1) (n := 3) (vs := [int i24, str s25, int (-1)]) sz_98 rfl rfl rfl (by simp [Value.oneCell']) hO rfl rfl; exact ⟨(), w', hO', ⟨.inr rfl, .inr rfl, .inr rfl, .inr rfl, .inr rfl, .inr rfl, trivial⟩, hr⟩), sS_pure rfl (fun σ => rfl) (fun σ => rfl) (fun σ a w k _ _ _ _ hf => ex_assign hf rfl), trivial⟩ ?_
 rintro _ a w hf hO
 have hO : Dk.Own w0 [] w _ := hO
 have hf : Fits 51 [(2, ptr b1 0), (3, .bool (!(i24 == 0)))] a := (hf.cons rfl (hf.cons rfl hf.nil))
 refine nor_then (hK26 _ _ ?_)
 refine wp_ret ?_
 obtain rfl := Option.some.inj hm
 exact post_ret Tryz.results121 hf (.cell rfl (run_loadVarN (n := 3) (vs := [int i24, str s25, int (-1)]) ag_98 sz_98 rfl ((hO.blkSees (i := 1) rfl).cells (o := 0) (n := 3) rfl)) (.tmp rfl .nil)) ⟨rfl, hO.below⟩

set_option maxHeartbeats 1000000 in
theorem w_bytealg_LastIndexByteString (x_s : Str) (x_c : UInt8) (R : Int) (w0 : World) (hG : Glob w0) (hm : bytealg_LastIndexByteString x_s x_c = some R) :
    Calls Tryz.prog 155 #[str x_s, byte x_c] w0 fun e w' => e = .returned (int R) ∧ Below w0.heap.size w0 w' := by
 rw [bytealg_LastIndexByteString] at hm
 refine calls_enter (vs := [str x_s, byte x_c]) Tryz.func155 rfl Tryz.ntmps155 rfl fun a hf => ?_
 have hF : Away [] := away_nil
 have hO : Dk.Own w0 [] w0 [] := Dk.Own.refl w0
 refine wp_seq_k fun _ hK1 => ?_
 refine wp_region_list ?_
 refine op_as hf rfl rfl fun a hf => ?_
 refine wpList_nil ?_
 refine nor_then (hK1 _ _ ?_)
 refine wp_seq_k fun _ hK14 => ?_
 refine wp_seq_k fun _ hK3 => ?_
 refine wp_region_list ?_
 refine op_mv hf rfl rfl fun a hf => ?_
 refine op_val (ex_len_s (l := x_s) Tryz.underlying9 hf rfl) rfl hf rfl rfl fun a hf => ?_
 obtain ⟨i2, hi2, hm⟩ := ob hm
 refine op_val (ex_sub hf rfl rfl hi2) rfl hf rfl rfl fun a hf => ?_
 refine op_as hf rfl rfl fun a hf => ?_
 refine wpList_nil ?_
 refine nor_then (hK3 _ _ ?_)
 refine wp_block ?_
 refine wp_loop_n (fun k a w => ∃ (i4 : Int), Fits 19 [(0, str x_s), (1, byte x_c), (5, int i4)] a ∧ Dk.Own w0 [] w [] ∧ bytealg_LastIndexByteString_L1 x_s x_c k i4 = some R) ?_ fuel ?_
 rintro n1 a w ⟨i4, hf, hO, hm⟩
 obtain _ | n1 := n1
 rw [bytealg_LastIndexByteString_L1] at hm
 cases hm
 rw [bytealg_LastIndexByteString_L1] at hm
 refine wp_seq_k fun _ hK7 => ?_
 refine wp_seq_k fun _ hK5 => ?_
 refine wp_region_list ?_
 refine op_mv hf rfl rfl fun a hf => ?_
 refine op_val (ex_geq (m := i4) (n := 0) hf rfl rfl) rfl hf rfl rfl fun a hf => ?_
 refine wpList_nil ?_
 refine nor_then (hK5 _ _ ?_)
 refine wp_cond_cut hf rfl (fun hc6 => ?_) (fun hc6 => ?_)
 have hm := it hc6 hm
 refine wp_skip ?_
 refine nor_then (hK7 _ _ ?_)
 refine wp_seq_k fun _ hK12 => ?_
 refine wp_block ?_
 refine wp_seq_k fun _ hK9 => ?_
 refine wp_region_list ?_
 refine op_mv hf rfl rfl fun a hf => ?_
 refine op_mv hf rfl rfl fun a hf => ?_
 obtain ⟨b8, hb8, hm⟩ := ob hm
 refine op_val (ex_index (l := x_s) Tryz.underlying9 hf rfl rfl hb8) rfl hf rfl rfl fun a hf => ?_
 refine op_mv hf rfl rfl fun a hf => ?_
 refine op_val (ex_eql_b (b := b8) (c := x_c) hf rfl rfl) rfl hf rfl rfl fun a hf => ?_
 refine wpList_nil ?_
 refine nor_then (hK9 _ _ ?_)
 refine wp_cond_cut hf rfl (fun hc10 => ?_) (fun hc10 => ?_)
 have hm := it hc10 hm
 refine wp_seq_k fun _ hK11 => ?_
 refine wp_region_list ?_
 refine op_mv hf rfl rfl fun a hf => ?_
 refine op_as hf rfl rfl fun a hf => ?_
 refine wpList_nil ?_
 refine nor_then (hK11 _ _ ?_)
 refine wp_ret ?_
 refine ret_block ?_
 refine ret_then ?_
 refine ret_then ?_
 refine ret_block ?_
 refine ret_then ?_
 obtain rfl := Option.some.inj hm
 exact post_ret Tryz.results155 hf (.tmp rfl .nil) ⟨rfl, hO.below⟩
 have hm := ie hc10 hm
 refine wp_skip ?_
 refine nor_block ?_
 refine nor_then (hK12 _ _ ?_)
 refine wp_region_list ?_
 refine op_mv hf rfl rfl fun a hf => ?_
 obtain ⟨i13, hi13, hm⟩ := ob hm
 refine op_val (ex_sub hf rfl rfl hi13) rfl hf rfl rfl fun a hf => ?_
 refine op_as hf rfl rfl fun a hf => ?_
 refine wpList_nil ?_
 refine nor_then ?_
 exact ⟨_, Nat.lt_succ_self _, i13, (hf.cons rfl (hf.cons rfl (hf.cons rfl hf.nil))), hO, hm⟩
 have hm := ie hc6 hm
 refine wp_exit ?_
 refine exit_then ?_
 refine exit_then ?_
 refine exit_here ?_
 refine nor_then (hK14 _ _ ?_)
 refine wp_seq_k fun _ hK15 => ?_
 refine wp_region_list ?_
 refine op_as hf rfl rfl fun a hf => ?_
 refine wpList_nil ?_
 refine nor_then (hK15 _ _ ?_)
 refine wp_ret ?_
 obtain rfl := Option.some.inj hm
 exact post_ret Tryz.results155 hf (.tmp rfl .nil) ⟨rfl, hO.below⟩
 exact ⟨i2, (hf.cons rfl (hf.cons rfl (hf.cons rfl hf.nil))), hO, hm⟩

set_option maxHeartbeats 1000000 in
theorem w_strings_LastIndexByte (x_s : Str) (x_c : UInt8) (R : Int) (w0 : World) (hG : Glob w0) (hm : strings_LastIndexByte x_s x_c = some R) :
    Calls Tryz.prog 122 #[str x_s, byte x_c] w0 fun e w' => e = .returned (int R) ∧ Below w0.heap.size w0 w' := by
 rw [strings_LastIndexByte] at hm
 refine calls_enter (vs := [str x_s, byte x_c]) Tryz.func122 rfl Tryz.ntmps122 rfl fun a hf => ?_
 have hF : Away [] := away_nil
 have hO : Dk.Own w0 [] w0 [] := Dk.Own.refl w0
 refine wp_seq_k fun _ hK1 => ?_
 refine wp_region_list ?_
 refine op_as hf rfl rfl fun a hf => ?_
 refine wpList_nil ?_
 refine nor_then (hK1 _ _ ?_)
 refine wp_seq_k fun _ hK3 => ?_
 refine wp_region_list ?_
 refine op_mv hf rfl rfl fun a hf => ?_
 refine op_mv hf rfl rfl fun a hf => ?_
 obtain ⟨r2, hr2, hm⟩ := ob hm
 refine op_enter (ex_call c_155 hf (vs := [str x_s, byte x_c]) rfl) rfl hf rfl rfl (w_bytealg_LastIndexByteString x_s x_c r2 _ (hG.own hF hO) hr2) ?_
 rintro e w' ⟨he, hb⟩
 refine ⟨_, he, fun a hf => ?_⟩
 have hO := hO.grow hb
 refine op_as hf rfl rfl fun a hf => ?_
 refine wpList_nil ?_
 refine nor_then (hK3 _ _ ?_)
 refine wp_ret ?_
 obtain rfl := Option.some.inj hm
 exact post_ret Tryz.results122 hf (.tmp rfl .nil) ⟨rfl, hO.below⟩

set_option maxHeartbeats 1000000 in
theorem w_hostport_Parse (x_s : Str) (R : api_Host × Int) (w0 : World) (hG : GlobT w0) (hm : hostport_Parse x_s = some R) :
    Calls Tryz.prog 82 #[str x_s] w0 fun e w' => e = .returned (.tuple #[.agg #[int R.1.Kind, str R.1.Name, int R.1.Port], int R.2]) ∧ Below w0.heap.size w0 w' := by
 rw [hostport_Parse] at hm
 refine calls_enter (vs := [str x_s]) Tryz.func82 rfl Tryz.ntmps82 rfl fun a hf => ?_
 have hF : Away [] := away_nil
 have hO : Dk.Own w0 [] w0 [] := Dk.Own.refl w0
 refine wp_seq_k fun _ hK2 => ?_
 refine wp_region_list ?_
 refine op_alloc al_98 hf rfl hO fun a b1 w hf hO => ?_
 refine op_as hf rfl rfl fun a hf => ?_
 refine wpList_nil ?_
 refine nor_then (hK2 _ _ ?_)
 refine wp_seq_k fun _ hK9 => ?_
 refine wp_seq_k fun _ hK5 => ?_
 refine wp_region_list ?_
 refine op_mv hf rfl rfl fun a hf => ?_
 obtain ⟨r3, hr3, hm⟩ := ob hm
 refine op_enter (ex_call c_121 hf (vs := [str x_s]) rfl) rfl hf rfl rfl (w_hostport_of x_s r3 _ (hG.own hF hO) hr3) ?_
 rintro e w' ⟨he, hb⟩
 refine ⟨_, he, fun a hf => ?_⟩
 have hO := hO.grow hb
 refine op_mv hf rfl rfl fun a hf => ?_
 refine op_val (ex_extract hf rfl rfl) rfl hf rfl rfl fun a hf => ?_
 refine op_val (ex_extract hf rfl rfl) rfl hf rfl rfl fun a hf => ?_
 refine op_alloc al_98 hf rfl hO fun a b4 w hf hO => ?_
 refine op_storeN (i := 0) (n := 3) sz_98 rfl rfl rfl (by simp [Value.oneCell']) hf rfl rfl hO fun w hO => ?_
 refine op_as hf rfl rfl fun a hf => ?_
 refine wpList_nil ?_
 refine nor_then (hK5 _ _ ?_)
 refine wp_seq_k fun _ hK6 => ?_
 refine wp_region_list ?_
 refine op_mv hf rfl rfl fun a hf => ?_
 refine wpList_nil ?_
 refine nor_then (hK6 _ _ ?_)
 refine wp_cond_cut hf rfl (fun hc7 => ?_) (fun hc7 => ?_)
 have hm := it hc7 hm
 refine wp_seq_k fun _ hK8 => ?_
 refine wp_region_list ?_
 refine op_val (ex_loadN (o := 0) (vs := [int r3.1.Kind, str r3.1.Name, int r3.1.Port]) ag_98 sz_98 (hO.blkSees (i := 0) rfl) rfl rfl hf rfl) rfl hf rfl rfl fun a hf => ?_
 refine op_storeN (i := 1) (n := 3) sz_98 rfl rfl rfl (by simp [Value.oneCell']) hf rfl rfl hO fun w hO => ?_
 refine op_as hf rfl rfl fun a hf => ?_
 refine wpList_nil ?_
 refine nor_then (hK8 _ _ ?_)
 refine wp_ret ?_
 refine ret_then ?_
 obtain rfl := Option.some.inj hm
 exact post_ret Tryz.results82 hf (.cell rfl (run_loadVarN (n := 3) (vs := [int r3.1.Kind, str r3.1.Name, int r3.1.Port]) ag_98 sz_98 rfl ((hO.blkSees (i := 1) rfl).cells (o := 0) (n := 3) rfl)) (.tmp rfl .nil)) ⟨rfl, hO.below⟩
 have hm := ie hc7 hm
 refine wp_skip ?_
 refine nor_then (hK9 _ _ ?_)
 refine wp_seq_k fun _ hK11 => ?_
 refine wp_region_list ?_
 refine op_mv hf rfl rfl fun a hf => ?_
 obtain ⟨r10, hr10, hm⟩ := ob hm
 refine op_enter (ex_call c_122 hf (vs := [str x_s, byte 58]) rfl) rfl hf rfl rfl (w_strings_LastIndexByte x_s 58 r10 _ (hG.own hF hO).1 hr10) ?_
 rintro e w' ⟨he, hb⟩
 refine ⟨_, he, fun a hf => ?_⟩
 have hO := hO.grow hb
 refine op_as hf rfl rfl fun a hf => ?_
 refine wpList_nil ?_
 refine nor_then (hK11 _ _ ?_)
 refine wp_seq_k fun _ hK15 => ?_
 refine wp_seq_k fun _ hK12 => ?_
 refine wp_region_list ?_
 refine op_mv hf rfl rfl fun a hf => ?_
 refine op_val (ex_lss (m := r10) (n := 0) hf rfl rfl) rfl hf rfl rfl fun a hf => ?_
 refine wpList_nil ?_
 refine nor_then (hK12 _ _ ?_)
 refine wp_cond_cut hf rfl (fun hc13 => ?_) (fun hc13 => ?_)
 have hm := it hc13 hm
 refine wp_seq_k fun _ hK14 => ?_
 refine wp_region_list ?_
 refine op_val (ex_build (vs := []) (v := .agg #[int 0, str [], int 0]) hf rfl (by kernel_rfl)) rfl hf rfl rfl fun a hf => ?_
 refine op_storeN (i := 1) (n := 3) sz_98 rfl rfl rfl (by simp [Value.oneCell']) hf rfl rfl hO fun w hO => ?_
 refine op_as hf rfl rfl fun a hf => ?_
 refine wpList_nil ?_
 refine nor_then (hK14 _ _ ?_)
 refine wp_ret ?_
 refine ret_then ?_
 obtain rfl := Option.some.inj hm
 exact post_ret Tryz.results82 hf (.cell rfl (run_loadVarN (n := 3) (vs := [int 0, str [], int 0]) ag_98 sz_98 rfl ((hO.blkSees (i := 1) rfl).cells (o := 0) (n := 3) rfl)) (.tmp rfl .nil)) ⟨rfl, hO.below⟩
 have hm := ie hc13 hm
 refine wp_skip ?_
 refine nor_then (hK15 _ _ ?_)
 refine wp_seq_k fun _ hK19 => ?_
 refine wp_region_list ?_
 refine op_mv hf rfl rfl fun a hf => ?_
 refine op_mv hf rfl rfl fun a hf => ?_
 obtain ⟨s16, hs16, hm⟩ := ob hm
 refine op_val (ex_to_s (l := x_s) Tryz.underlying9 hf rfl rfl hs16) rfl hf rfl rfl fun a hf => ?_
 obtain ⟨r17, hr17, hm⟩ := ob hm
 refine op_enter (ex_call c_121 hf (vs := [str s16]) rfl) rfl hf rfl rfl (w_hostport_of s16 r17 _ (hG.own hF hO) hr17) ?_
 rintro e w' ⟨he, hb⟩
 refine ⟨_, he, fun a hf => ?_⟩
 have hO := hO.grow hb
 refine op_mv hf rfl rfl fun a hf => ?_
 refine op_val (ex_extract hf rfl rfl) rfl hf rfl rfl fun a hf => ?_
 refine op_val (ex_extract hf rfl rfl) rfl hf rfl rfl fun a hf => ?_
 refine op_alloc al_98 hf rfl hO fun a b18 w hf hO => ?_
 refine op_storeN (i := 0) (n := 3) sz_98 rfl rfl rfl (by simp [Value.oneCell']) hf rfl rfl hO fun w hO => ?_
 refine op_as hf rfl rfl fun a hf => ?_
 refine wpList_nil ?_
 refine nor_then (hK19 _ _ ?_)
 refine wp_seq_k fun _ hK27 => ?_
 refine wp_seq_cut (fun a w => ∃ (t24 : Bool), Fits 49 [(0, str x_s), (2, ptr b1 0), (6, int r10), (7, ptr b18 0), (37, .bool t24)] a ∧ Dk.Own w0 [] w [.blk b18 [int r17.1.Kind, str r17.1.Name, int r17.1.Port] 98, .blk b4 [int r3.1.Kind, str r3.1.Name, int r3.1.Port] 98, .blk b1 [int 0, str [], int 0] 98] ∧ hostport_Parse_j1 x_s r10 r17 t24 = some R) ?_ ?_
 refine wp_region_list ?_
 refine op_mv hf rfl rfl fun a hf => ?_
 refine op_val (ex_not hf rfl) rfl hf rfl rfl fun a hf => ?_
 refine op_mv hf rfl rfl fun a hf => ?_
 rcases bcase (!r17.2) with hc20 | hc20
 have hm := it hc20 hm
 refine op_pass rfl hf rfl rfl (hc20) rfl rfl fun a hf => ?_
 refine op_pass rfl hf rfl rfl (hc20) rfl rfl fun a hf => ?_
 refine op_pass rfl hf rfl rfl (hc20) rfl rfl fun a hf => ?_
 refine op_pass rfl hf rfl rfl (hc20) rfl rfl fun a hf => ?_
 refine op_pass rfl hf rfl rfl (hc20) rfl rfl fun a hf => ?_
 refine op_pass rfl hf rfl rfl (hc20) rfl rfl fun a hf => ?_
 refine op_val (ex_pick_t hf rfl hc20 rfl) rfl hf rfl rfl fun a hf => ?_
 refine wpList_nil ?_
 refine nor_then ?_
 exact ⟨true, (hf.cons rfl (hf.cons rfl (hf.cons rfl (hf.cons rfl (hf.cons rfl hf.nil))))), hO, hm⟩
 have hm := ie hc20 hm
 refine op_guard rfl hf rfl rfl (hc20) ?_
 refine op_mv hf rfl rfl fun a hf => ?_
 refine op_guard rfl hf rfl rfl (hc20) ?_
 refine op_mv hf rfl rfl fun a hf => ?_
 refine op_guard rfl hf rfl rfl (hc20) ?_
 obtain ⟨i21, hi21, hm⟩ := ob hm
 refine op_val (ex_add hf rfl rfl hi21) rfl hf rfl rfl fun a hf => ?_
 refine op_guard rfl hf rfl rfl (hc20) ?_
 obtain ⟨s22, hs22, hm⟩ := ob hm
 refine op_val (ex_from_s (l := x_s) Tryz.underlying9 hf rfl rfl hs22) rfl hf rfl rfl fun a hf => ?_
 refine op_guard rfl hf rfl rfl (hc20) ?_
 obtain ⟨r23, hr23, hm⟩ := ob hm
 refine op_enter (ex_call c_75 hf (vs := [str s22, int 65535]) rfl) rfl hf rfl rfl (w_hostport_small s22 65535 r23 _ (hG.own hF hO) hr23) ?_
 rintro e w' ⟨he, hb⟩
 refine ⟨_, he, fun a hf => ?_⟩
 have hO := hO.grow hb
 refine op_guard rfl hf rfl rfl (hc20) ?_
 refine op_val (ex_not hf rfl) rfl hf rfl rfl fun a hf => ?_
 refine op_val (ex_pick_f hf rfl hc20 rfl) rfl hf rfl rfl fun a hf => ?_
 refine wpList_nil ?_
 refine nor_then ?_
 exact ⟨!r23, (hf.cons rfl (hf.cons rfl (hf.cons rfl (hf.cons rfl (hf.cons rfl hf.nil))))), hO, hm⟩
 rintro a w ⟨t24, hf, hO, hm⟩
 rw [hostport_Parse_j1] at hm
 refine wp_cond_cut hf rfl (fun hc25 => ?_) (fun hc25 => ?_)
 have hm := it hc25 hm
 refine wp_seq_k fun _ hK26 => ?_
 refine wp_region_list ?_
 refine op_val (ex_build (vs := []) (v := .agg #[int 0, str [], int 0]) hf rfl (by kernel_rfl)) rfl hf rfl rfl fun a hf => ?_
 refine op_storeN (i := 2) (n := 3) sz_98 rfl rfl rfl (by simp [Value.oneCell']) hf rfl rfl hO fun w hO => ?_
 refine op_as hf rfl rfl fun a hf => ?_
 refine wpList_nil ?_
 refine nor_then (hK26 _ _ ?_)
 refine wp_ret ?_
 refine ret_then ?_
 obtain rfl := Option.some.inj hm
 exact post_ret Tryz.results82 hf (.cell rfl (run_loadVarN (n := 3) (vs := [int 0, str [], int 0]) ag_98 sz_98 rfl ((hO.blkSees (i := 2) rfl).cells (o := 0) (n := 3) rfl)) (.tmp rfl .nil)) ⟨rfl, hO.below⟩
 have hm := ie hc25 hm
 refine wp_skip ?_
 refine nor_then (hK27 _ _ ?_)
 refine wp_seq_k fun _ hK31 => ?_
 refine wp_region_list ?_
 refine op_mv hf rfl rfl fun a hf => ?_
 refine op_mv hf rfl rfl fun a hf => ?_
 obtain ⟨i28, hi28, hm⟩ := ob hm
 refine op_val (ex_add hf rfl rfl hi28) rfl hf rfl rfl fun a hf => ?_
 obtain ⟨s29, hs29, hm⟩ := ob hm
 refine op_val (ex_from_s (l := x_s) Tryz.underlying9 hf rfl rfl hs29) rfl hf rfl rfl fun a hf => ?_
 obtain ⟨r30, hr30, hm⟩ := ob hm
 refine op_enter (ex_call c_113 hf (vs := [str s29, int 65535]) rfl) rfl hf rfl rfl (w_numeral_Decimal s29 65535 r30 _ (hG.own hF hO).1 hr30) ?_
 rintro e w' ⟨he, hb⟩
 refine ⟨_, he, fun a hf => ?_⟩
 have hO := hO.grow hb
 refine op_mv hf rfl rfl fun a hf => ?_
 refine op_val (ex_extract hf rfl rfl) rfl hf rfl rfl fun a hf => ?_
 refine op_val (ex_extract hf rfl rfl) rfl hf rfl rfl fun a hf => ?_
 refine op_val (ex_field fa_98_2 hf rfl) rfl hf rfl rfl fun a hf => ?_
 refine op_store1 (i := 0) (o := 2) (v := int r30.1) sz_3 rfl rfl rfl rfl hf rfl rfl hO fun w hO => ?_
 refine wpList_nil ?_
 refine nor_then (hK31 _ _ ?_)
 refine wp_seq_k fun _ hK32 => ?_
 refine wp_region_list ?_
 refine op_val (ex_loadN (o := 0) (vs := [int r17.1.Kind, str r17.1.Name, int r30.1]) ag_98 sz_98 (hO.blkSees (i := 0) rfl) rfl rfl hf rfl) rfl hf rfl rfl fun a hf => ?_
 refine op_storeN (i := 2) (n := 3) sz_98 rfl rfl rfl (by simp [Value.oneCell']) hf rfl rfl hO fun w hO => ?_
 refine op_as hf rfl rfl fun a hf => ?_
 refine wpList_nil ?_
 refine nor_then (hK32 _ _ ?_)
 refine wp_ret ?_
 obtain rfl := Option.some.inj hm
 exact post_ret Tryz.results82 hf (.cell rfl (run_loadVarN (n := 3) (vs := [int r17.1.Kind, str r17.1.Name, int r30.1]) ag_98 sz_98 rfl ((hO.blkSees (i := 2) rfl).cells (o := 0) (n := 3) rfl)) (.tmp rfl .nil)) ⟨rfl, hO.below⟩

set_option maxHeartbeats 1000000 in
theorem w_strings_ContainsAny (x_s : Str) (x_chars : Str) (R : Bool) (w0 : World) (hG : Glob w0) (hm : strings_ContainsAny x_s x_chars = some R) :
    Calls Tryz.prog 84 #[str x_s, str x_chars] w0 fun e w' => e = .returned (.bool R) ∧ Below w0.heap.size w0 w' := by
 rw [strings_ContainsAny] at hm
 refine calls_enter (vs := [str x_s, str x_chars]) Tryz.func84 rfl Tryz.ntmps84 rfl fun a hf => ?_
 have hF : Away [] := away_nil
 have hO : Dk.Own w0 [] w0 [] := Dk.Own.refl w0
 refine wp_seq_k fun _ hK1 => ?_
 refine wp_region_list ?_
 refine op_as hf rfl rfl fun a hf => ?_
 refine wpList_nil ?_
 refine nor_then (hK1 _ _ ?_)
 refine wp_seq_k fun _ hK3 => ?_
 refine wp_region_list ?_
 refine op_mv hf rfl rfl fun a hf => ?_
 refine op_mv hf rfl rfl fun a hf => ?_
 obtain ⟨r2, hr2, hm⟩ := ob hm
 refine op_enter (ex_call c_123 hf (vs := [str x_s, str x_chars]) rfl) rfl hf rfl rfl (w_strings_IndexAny x_s x_chars r2 _ (hG.own hF hO) hr2) ?_
 rintro e w' ⟨he, hb⟩
 refine ⟨_, he, fun a hf => ?_⟩
 have hO := hO.grow hb
 refine op_val (ex_geq (m := r2) (n := 0) hf rfl rfl) rfl hf rfl rfl fun a hf => ?_
 refine op_as hf rfl rfl fun a hf => ?_
 refine wpList_nil ?_
 refine nor_then (hK3 _ _ ?_)
 refine wp_ret ?_
 obtain rfl := Option.some.inj hm
 exact post_ret Tryz.results84 hf (.tmp rfl .nil) ⟨rfl, hO.below⟩

set_option maxHeartbeats 1000000 in
theorem w_via_reader_by (x_r : via_reader) (x_v : api_Via) (R : Bool × scan_Scanner × api_Via) (w0 : World) (hG : GlobT w0) {x_r_b0 : Nat} {x_v_b1 : Nat} {F : List Nat} (hF : Away F) (hO : Dk.Own w0 F w0 [.blk x_r_b0 [str x_r.Scanner.f_s, int x_r.Scanner.f_at] 126, .blk x_v_b1 [str x_v.Proto, str x_v.Version, str x_v.By, str x_v.Comment] 40]) (hm : via_reader_by x_r x_v = some R) :
    Calls Tryz.prog 48 #[.agg #[ptr x_r_b0 0], ptr x_v_b1 0] w0 fun e w' => e = .returned (.bool R.1) ∧ Dk.Own w0 F w' [.blk x_r_b0 [str R.2.1.f_s, int R.2.1.f_at] 126, .blk x_v_b1 [str R.2.2.Proto, str R.2.2.Version, str R.2.2.By, str R.2.2.Comment] 40] := by
 rw [via_reader_by] at hm
 refine calls_enter (vs := [.agg #[ptr x_r_b0 0], ptr x_v_b1 0]) Tryz.func48 rfl Tryz.ntmps48 rfl fun a hf => ?_
 refine wp_seq_k fun _ hK2 => ?_
 refine wp_region_list ?_
 refine op_box (v := .agg #[ptr x_r_b0 0]) (cs := [ptr x_r_b0 0]) rfl hf rfl rfl hO fun a b1 w hf hO => ?_
 refine op_as hf rfl rfl fun a hf => ?_
 refine wpList_nil ?_
 refine nor_then (hK2 _ _ ?_)
 refine wp_seq_k fun _ hK5 => ?_
 refine wp_region_list ?_
 refine op_mv hf rfl rfl fun a hf => ?_
 refine op_val (ex_field fa_91_0 hf rfl) rfl hf rfl rfl fun a hf => ?_
 refine op_val (ex_load1 (o := 0) ag_88 (hO.blkSees (i := 0) rfl) rfl hf rfl) rfl hf rfl rfl fun a hf => ?_
 obtain ⟨r3, hr3, hm⟩ := ob hm
 have hch4 := (show Dk.Own w0 F _ ([.blk x_r_b0 [str x_r.Scanner.f_s, int x_r.Scanner.f_at] 126] ++ [.blk b1 [ptr x_r_b0 0] 91, .blk x_v_b1 [str x_v.Proto, str x_v.Version, str x_v.By, str x_v.Comment] 40]) from hO.choose [1, 0, 2] rfl)
 have hfar4 := Dk.Own.far hch4 rfl hF hG.size
 have hlend4 := hch4.lend (S := []) rfl trivial
 have hcl4 := w_scan_Scanner_While x_r.Scanner via_reader_by_1 r3 _ (hG.own hF hO).1 hfar4 hlend4 c_81 (fun y0 r w hG h => callsE (w_via_reader_by_1 y0 r w hG h)) hr3
 refine op_enter (ex_call c_80 hf (vs := [ptr x_r_b0 0, .func (.func 81) #[] #[]]) rfl) rfl hf rfl rfl (hcl4) ?_
 rintro e w' ⟨he, hO'⟩
 refine ⟨_, he, fun a hf => ?_⟩
 have hO := hch4.back rfl hO' rfl
 refine op_val (ex_nilCheck hf rfl) rfl hf rfl rfl fun a hf => ?_
 refine op_val (ex_field fa_40_2 hf rfl) rfl hf rfl rfl fun a hf => ?_
 refine op_store1 (i := 2) (o := 2) (v := str r3.1) sz_9 rfl rfl rfl rfl hf rfl rfl hO fun w hO => ?_
 refine wpList_nil ?_
 refine nor_then (hK5 _ _ ?_)
 refine wp_seq_k fun _ hK8 => ?_
 refine wp_region_list ?_
 refine op_mv hf rfl rfl fun a hf => ?_
 refine op_val (ex_nilCheck hf rfl) rfl hf rfl rfl fun a hf => ?_
 refine op_val (ex_field fa_40_2 hf rfl) rfl hf rfl rfl fun a hf => ?_
 refine op_val (ex_load1 (o := 2) ag_9 (hO.blkSees (i := 2) rfl) rfl hf rfl) rfl hf rfl rfl fun a hf => ?_
 obtain ⟨r6, hr6, hm⟩ := ob hm
 refine op_enter (ex_call c_82 hf (vs := [str r3.1]) rfl) rfl hf rfl rfl (w_hostport_Parse r3.1 r6 _ (hG.own hF hO) hr6) ?_
 rintro e w' ⟨he, hb⟩
 refine ⟨_, he, fun a hf => ?_⟩
 have hO := hO.grow hb
 refine op_mv hf rfl rfl fun a hf => ?_
 refine op_val (ex_extract hf rfl rfl) rfl hf rfl rfl fun a hf => ?_
 refine op_val (ex_extract hf rfl rfl) rfl hf rfl rfl fun a hf => ?_
 refine op_alloc al_98 hf rfl hO fun a b7 w hf hO => ?_
 refine op_storeN (i := 0) (n := 3) sz_98 rfl rfl rfl (by simp [Value.oneCell']) hf rfl rfl hO fun w hO => ?_
 refine op_as hf rfl rfl fun a hf => ?_
 refine wpList_nil ?_
 refine nor_then (hK8 _ _ ?_)
 refine wp_seq_cut (fun a w => ∃ (t13 : Bool), Fits 38 [(4, .bool t13)] a ∧ Dk.Own w0 F w [.blk b7 [int r6.1.Kind, str r6.1.Name, int r6.1.Port] 98, .blk x_r_b0 [str r3.2.f_s, int r3.2.f_at] 126, .blk b1 [ptr x_r_b0 0] 91, .blk x_v_b1 [str x_v.Proto, str x_v.Version, str r3.1, str x_v.Comment] 40] ∧ via_reader_by_j1 x_v r3 t13 = some R) ?_ ?_
 refine wp_region_list ?_
 refine op_mv hf rfl rfl fun a hf => ?_
 refine op_val (ex_nilCheck hf rfl) rfl hf rfl rfl fun a hf => ?_
 refine op_val (ex_field fa_40_2 hf rfl) rfl hf rfl rfl fun a hf => ?_
 refine op_val (ex_load1 (o := 2) ag_9 (hO.blkSees (i := 3) rfl) rfl hf rfl) rfl hf rfl rfl fun a hf => ?_
 obtain ⟨r9, hr9, hm⟩ := ob hm
 refine op_enter (ex_call c_83 hf (vs := [str r3.1]) rfl) rfl hf rfl rfl (w_octet_Token r3.1 r9 _ (hG.own hF hO).1 hr9) ?_
 rintro e w' ⟨he, hb⟩
 refine ⟨_, he, fun a hf => ?_⟩
 have hO := hO.grow hb
 refine op_mv hf rfl rfl fun a hf => ?_
 rcases bcase (r9) with hc10 | hc10
 have hm := it hc10 hm
 refine op_pass rfl hf rfl rfl (hc10) rfl rfl fun a hf => ?_
 refine op_pass rfl hf rfl rfl (hc10) rfl rfl fun a hf => ?_
 refine op_pass rfl hf rfl rfl (hc10) rfl rfl fun a hf => ?_
 refine op_passu rfl hf rfl rfl rfl rfl fun a hf => ?_
 refine op_passu rfl hf rfl rfl rfl rfl fun a hf => ?_
 refine op_passu rfl hf rfl rfl rfl rfl fun a hf => ?_
 refine op_passu rfl hf rfl rfl rfl rfl fun a hf => ?_
 refine op_passu rfl hf rfl rfl rfl rfl fun a hf => ?_
 refine op_passu rfl hf rfl rfl rfl rfl fun a hf => ?_
 refine op_pass rfl hf rfl rfl (hc10) rfl rfl fun a hf => ?_
 refine op_val (ex_pick_t hf rfl hc10 rfl) rfl hf rfl rfl fun a hf => ?_
 refine op_as hf rfl rfl fun a hf => ?_
 refine wpList_nil ?_
 refine nor_then ?_
 exact ⟨true, (hf.cons rfl hf.nil), hO, hm⟩
 have hm := ie hc10 hm
 refine op_guard rfl hf rfl rfl (hc10) ?_
 refine op_mv hf rfl rfl fun a hf => ?_
 refine op_guard rfl hf rfl rfl (hc10) ?_
 refine op_val (ex_eql (m := r6.2) (n := 0) hf rfl rfl) rfl hf rfl rfl fun a hf => ?_
 refine op_guard rfl hf rfl rfl (hc10) ?_
 refine op_mv hf rfl rfl fun a hf => ?_
 rcases bcase (r6.2 == 0) with hc11 | hc11
 have hm := it hc11 hm
 refine op_guard rfl hf rfl rfl (hc11) ?_
 refine op_mv hf rfl rfl fun a hf => ?_
 refine op_guard rfl hf rfl rfl (hc11) ?_
 refine op_val (ex_nilCheck hf rfl) rfl hf rfl rfl fun a hf => ?_
 refine op_guard rfl hf rfl rfl (hc11) ?_
 refine op_val (ex_field fa_40_2 hf rfl) rfl hf rfl rfl fun a hf => ?_
 refine op_guard rfl hf rfl rfl (hc11) ?_
 refine op_val (ex_load1 (o := 2) ag_9 (hO.blkSees (i := 3) rfl) rfl hf rfl) rfl hf rfl rfl fun a hf => ?_
 refine op_guard rfl hf rfl rfl (hc11) ?_
 obtain ⟨r12, hr12, hm⟩ := ob hm
 refine op_enter (ex_call c_84 hf (vs := [str r3.1, str [44, 40, 41]]) rfl) rfl hf rfl rfl (w_strings_ContainsAny r3.1 [44, 40, 41] r12 _ (hG.own hF hO).1 hr12) ?_
 rintro e w' ⟨he, hb⟩
 refine ⟨_, he, fun a hf => ?_⟩
 have hO := hO.grow hb
 refine op_guard rfl hf rfl rfl (hc11) ?_
 refine op_val (ex_not hf rfl) rfl hf rfl rfl fun a hf => ?_
 refine op_guard rfl hf rfl rfl (hc10) ?_
 refine op_val (ex_pick_t hf rfl hc11 rfl) rfl hf rfl rfl fun a hf => ?_
 refine op_val (ex_pick_f hf rfl hc10 rfl) rfl hf rfl rfl fun a hf => ?_
 refine op_as hf rfl rfl fun a hf => ?_
 refine wpList_nil ?_
 refine nor_then ?_
 exact ⟨!r12, (hf.cons rfl hf.nil), hO, hm⟩
 have hm := ie hc11 hm
 refine op_pass rfl hf rfl rfl (hc11) rfl rfl fun a hf => ?_
 refine op_pass rfl hf rfl rfl (hc11) rfl rfl fun a hf => ?_
 refine op_pass rfl hf rfl rfl (hc11) rfl rfl fun a hf => ?_
 refine op_pass rfl hf rfl rfl (hc11) rfl rfl fun a hf => ?_
 refine op_pass rfl hf rfl rfl (hc11) rfl rfl fun a hf => ?_
 refine op_pass rfl hf rfl rfl (hc11) rfl rfl fun a hf => ?_
 refine op_guard rfl hf rfl rfl (hc10) ?_
 refine op_val (ex_pick_f hf rfl hc11 rfl) rfl hf rfl rfl fun a hf => ?_
 refine op_val (ex_pick_f hf rfl hc10 rfl) rfl hf rfl rfl fun a hf => ?_
 refine op_as hf rfl rfl fun a hf => ?_
 refine wpList_nil ?_
 refine nor_then ?_
 exact ⟨false, (hf.cons rfl hf.nil), hO, hm⟩
 rintro a w ⟨t13, hf, hO, hm⟩
 rw [via_reader_by_j1] at hm
 refine wp_ret ?_
 obtain rfl := Option.some.inj hm
 exact post_ret Tryz.results48 hf (.tmp rfl .nil) ⟨rfl, (hO.sub (.cons _ (.cons_cons _ (.cons _ (.cons_cons _ .slnil)))))⟩

set_option maxHeartbeats 1000000 in
theorem w_stringslite_HasPrefix (x_s : Str) (x_prefix : Str) (R : Bool) (w0 : World) (hG : Glob w0) (hm : stringslite_HasPrefix x_s x_prefix = some R) :
    Calls Tryz.prog 160 #[str x_s, str x_prefix] w0 fun e w' => e = .returned (.bool R) ∧ Below w0.heap.size w0 w' := by
 rw [stringslite_HasPrefix] at hm
 refine calls_enter (vs := [str x_s, str x_prefix]) Tryz.func160 rfl Tryz.ntmps160 rfl fun a hf => ?_
 have hF : Away [] := away_nil
 have hO : Dk.Own w0 [] w0 [] := Dk.Own.refl w0
 refine wp_seq_k fun _ hK1 => ?_
 refine wp_region_list ?_
 refine op_as hf rfl rfl fun a hf => ?_
 refine wpList_nil ?_
 refine nor_then (hK1 _ _ ?_)
 refine wp_seq_cut (fun a w => ∃ (t4 : Bool), Fits 18 [(4, .bool t4)] a ∧ Dk.Own w0 [] w [] ∧ stringslite_HasPrefix_j1 t4 = some R) ?_ ?_
 refine wp_region_list ?_
 refine op_mv hf rfl rfl fun a hf => ?_
 refine op_val (ex_len_s (l := x_s) Tryz.underlying9 hf rfl) rfl hf rfl rfl fun a hf => ?_
 refine op_mv hf rfl rfl fun a hf => ?_
 refine op_val (ex_len_s (l := x_prefix) Tryz.underlying9 hf rfl) rfl hf rfl rfl fun a hf => ?_
 refine op_val (ex_geq (m := (x_s.length : Int)) (n := (x_prefix.length : Int)) hf rfl rfl) rfl hf rfl rfl fun a hf => ?_
 refine op_mv hf rfl rfl fun a hf => ?_
 rcases bcase (decide ((x_prefix.length : Int) ≤ (x_s.length : Int))) with hc2 | hc2
 have hm := it hc2 hm
 refine op_guard rfl hf rfl rfl (hc2) ?_
 refine op_mv hf rfl rfl fun a hf => ?_
 refine op_guard rfl hf rfl rfl (hc2) ?_
 refine op_mv hf rfl rfl fun a hf => ?_
 refine op_guard rfl hf rfl rfl (hc2) ?_
 refine op_val (ex_len_s (l := x_prefix) Tryz.underlying9 hf rfl) rfl hf rfl rfl fun a hf => ?_
 refine op_guard rfl hf rfl rfl (hc2) ?_
 obtain ⟨s3, hs3, hm⟩ := ob hm
 refine op_val (ex_to_s (l := x_s) Tryz.underlying9 hf rfl rfl hs3) rfl hf rfl rfl fun a hf => ?_
 refine op_guard rfl hf rfl rfl (hc2) ?_
 refine op_mv hf rfl rfl fun a hf => ?_
 refine op_guard rfl hf rfl rfl (hc2) ?_
 refine op_val (ex_eql_s (l := s3) (m := x_prefix) hf rfl rfl) rfl hf rfl rfl fun a hf => ?_
 refine op_val (ex_pick_t hf rfl hc2 rfl) rfl hf rfl rfl fun a hf => ?_
 refine op_as hf rfl rfl fun a hf => ?_
 refine wpList_nil ?_
 refine nor_then ?_
 exact ⟨s3 == x_prefix, (hf.cons rfl hf.nil), hO, hm⟩
 have hm := ie hc2 hm
 refine op_pass rfl hf rfl rfl (hc2) rfl rfl fun a hf => ?_
 refine op_pass rfl hf rfl rfl (hc2) rfl rfl fun a hf => ?_
 refine op_pass rfl hf rfl rfl (hc2) rfl rfl fun a hf => ?_
 refine op_pass rfl hf rfl rfl (hc2) rfl rfl fun a hf => ?_
 refine op_pass rfl hf rfl rfl (hc2) rfl rfl fun a hf => ?_
 refine op_pass rfl hf rfl rfl (hc2) rfl rfl fun a hf => ?_
 refine op_val (ex_pick_f hf rfl hc2 rfl) rfl hf rfl rfl fun a hf => ?_
 refine op_as hf rfl rfl fun a hf => ?_
 refine wpList_nil ?_
 refine nor_then ?_
 exact ⟨false, (hf.cons rfl hf.nil), hO, hm⟩
 rintro a w ⟨t4, hf, hO, hm⟩
 rw [stringslite_HasPrefix_j1] at hm
 refine wp_ret ?_
 obtain rfl := Option.some.inj hm
 exact post_ret Tryz.results160 hf (.tmp rfl .nil) ⟨rfl, hO.below⟩

set_option maxHeartbeats 1000000 in
theorem w_stringslite_CutPrefix (x_s : Str) (x_prefix : Str) (R : Str × Bool) (w0 : World) (hG : Glob w0) (hm : stringslite_CutPrefix x_s x_prefix = some R) :
    Calls Tryz.prog 124 #[str x_s, str x_prefix] w0 fun e w' => e = .returned (.tuple #[str R.1, .bool R.2]) ∧ Below w0.heap.size w0 w' := by
 rw [stringslite_CutPrefix] at hm
 refine calls_enter (vs := [str x_s, str x_prefix]) Tryz.func124 rfl Tryz.ntmps124 rfl fun a hf => ?_
 have hF : Away [] := away_nil
 have hO : Dk.Own w0 [] w0 [] := Dk.Own.refl w0
 refine wp_seq_k fun _ hK1 => ?_
 refine wp_region_list ?_
 refine op_as hf rfl rfl fun a hf => ?_
 refine op_as hf rfl rfl fun a hf => ?_
 refine wpList_nil ?_
 refine nor_then (hK1 _ _ ?_)
 refine wp_seq_k fun _ hK6 => ?_
 refine wp_seq_k fun _ hK3 => ?_
 refine wp_region_list ?_
 refine op_mv hf rfl rfl fun a hf => ?_
 refine op_mv hf rfl rfl fun a hf => ?_
 obtain ⟨r2, hr2, hm⟩ := ob hm
 refine op_enter (ex_call c_160 hf (vs := [str x_s, str x_prefix]) rfl) rfl hf rfl rfl (w_stringslite_HasPrefix x_s x_prefix r2 _ (hG.own hF hO) hr2) ?_
 rintro e w' ⟨he, hb⟩
 refine ⟨_, he, fun a hf => ?_⟩
 have hO := hO.grow hb
 refine op_val (ex_not hf rfl) rfl hf rfl rfl fun a hf => ?_
 refine wpList_nil ?_
 refine nor_then (hK3 _ _ ?_)
 refine wp_cond_cut hf rfl (fun hc4 => ?_) (fun hc4 => ?_)
 have hm := it hc4 hm
 refine wp_seq_k fun _ hK5 => ?_
 refine wp_region_list ?_
 refine op_mv hf rfl rfl fun a hf => ?_
 refine op_as hf rfl rfl fun a hf => ?_
 refine op_as hf rfl rfl fun a hf => ?_
 refine wpList_nil ?_
 refine nor_then (hK5 _ _ ?_)
 refine wp_ret ?_
 refine ret_then ?_
 obtain rfl := Option.some.inj hm
 exact post_ret Tryz.results124 hf (.tmp rfl (.tmp rfl .nil)) ⟨rfl, hO.below⟩
 have hm := ie hc4 hm
 refine wp_skip ?_
 refine nor_then (hK6 _ _ ?_)
 refine wp_seq_k fun _ hK8 => ?_
 refine wp_region_list ?_
 refine op_mv hf rfl rfl fun a hf => ?_
 refine op_mv hf rfl rfl fun a hf => ?_
 refine op_val (ex_len_s (l := x_prefix) Tryz.underlying9 hf rfl) rfl hf rfl rfl fun a hf => ?_
 obtain ⟨s7, hs7, hm⟩ := ob hm
 refine op_val (ex_from_s (l := x_s) Tryz.underlying9 hf rfl rfl hs7) rfl hf rfl rfl fun a hf => ?_
 refine op_as hf rfl rfl fun a hf => ?_
 refine op_as hf rfl rfl fun a hf => ?_
 refine wpList_nil ?_
 refine nor_then (hK8 _ _ ?_)
 refine wp_ret ?_
 obtain rfl := Option.some.inj hm
 exact post_ret Tryz.results124 hf (.tmp rfl (.tmp rfl .nil)) ⟨rfl, hO.below⟩

end Go.Proofs
