/-
  Walks, written by a program (wip/gen): what its model says, the function returns; what was there before is as it was.
-/
import Derived.Test.YtnfkbhocbdheaacGreatDoorLib
import Derived.Test.YtnfkbhocbdheaacGreatDoorSq
import Derived.Test.YtnfkbhocbdheaacGreatDoorW0
import Derived.Test.YtnfkbhocbdheaacGreatDoorW1
set_option linter.unusedVariables false
set_option linter.unusedSimpArgs false
set_option maxRecDepth 100000
namespace Go.Proofs
open Go.Dk Go.Dm Go.RowKit

set_option maxHeartbeats 1000000 in
theorem w_octet_All (x_is : UInt8 → Option Bool) (x_l : List Str) (R : Bool) (w0 : World) (hG : Glob w0) {x_is_f : Nat} {x_is_p x_is_c : Array Value} (x_is_k : Callable Tryz.prog x_is_f) (x_is_h : ∀ (y0 : UInt8) (r : Bool) (w : World), Glob w → x_is y0 = some r → Calls Tryz.prog x_is_f (x_is_p ++ [byte y0].toArray ++ x_is_c) w fun e w' => e = .returned (.bool r) ∧ Below w.heap.size w w') {x_l_p0 : Option Addr} {x_l_c0 : Nat} (hs0 : Sees w0 x_l_p0 (cells enc_str x_l)) (hc0 : x_l.length ≤ x_l_c0) (hm : octet_All x_is x_l = some R) :
    Calls Tryz.prog 50 #[.func (.func x_is_f) x_is_p x_is_c, .slice x_l_p0 x_l.length x_l_c0] w0 fun e w' => e = .returned (.bool R) ∧ Below w0.heap.size w0 w' := by
 rw [octet_All] at hm
 refine calls_enter (vs := [.func (.func x_is_f) x_is_p x_is_c, .slice x_l_p0 x_l.length x_l_c0]) Tryz.func50 rfl Tryz.ntmps50 rfl fun a hf => ?_
 have hF : Away [] := away_nil
 have hO : Dk.Own w0 [] w0 [] := Dk.Own.refl w0
 have hO := hO.addShr hs0 (by simp [Res.shared])
 refine wp_seq_k fun _ hK1 => ?_
 refine wp_region_list ?_
 refine op_as hf rfl rfl fun a hf => ?_
 refine wpList_nil ?_
 refine nor_then (hK1 _ _ ?_)
 refine wp_seq_k fun _ hK26 => ?_
 refine wp_seq_k fun _ hK2 => ?_
 refine wp_region_list ?_
 refine op_mv hf rfl rfl fun a hf => ?_
 refine op_val (ex_len_l Tryz.underlying61 hf rfl) rfl hf rfl rfl fun a hf => ?_
 refine op_mv hf rfl rfl fun a hf => ?_
 refine wpList_nil ?_
 refine nor_then (hK2 _ _ ?_)
 refine wp_block ?_
 refine wp_loop_n (fun k a w => ∃ (i3 : Int), Fits 27 [(0, .func (.func x_is_f) x_is_p x_is_c), (8, .slice x_l_p0 x_l.length x_l_c0), (9, int (x_l.length : Int)), (10, int i3)] a ∧ Dk.Own w0 [] w [.shr x_l_p0 (cells enc_str x_l)] ∧ octet_All_L1 x_is x_l k i3 = some R) ?_ fuel ?_
 rintro n1 a w ⟨i3, hf, hO, hm⟩
 obtain _ | n1 := n1
 rw [octet_All_L1] at hm
 cases hm
 rw [octet_All_L1] at hm
 refine wp_seq_k fun _ hK4 => ?_
 refine wp_region_list ?_
 refine op_val (ex_lss (m := i3) (n := (x_l.length : Int)) hf rfl rfl) rfl hf rfl rfl fun a hf => ?_
 refine wpList_nil ?_
 refine nor_then (hK4 _ _ ?_)
 refine wp_seq_k fun _ hK6 => ?_
 refine wp_cond_cut hf rfl (fun hc5 => ?_) (fun hc5 => ?_)
 have hm := it hc5 hm
 refine wp_skip ?_
 refine nor_then (hK6 _ _ ?_)
 refine wp_seq_k fun _ hK24 => ?_
 refine wp_block ?_
 refine wp_seq_k fun _ hK10 => ?_
 refine wp_region_list ?_
 obtain ⟨x7, hx7, hm⟩ := ob hm
 obtain ⟨b8, o9, hix7, hSx7⟩ := elemAt (enc := enc_str) (sz := 1) (xs := x_l) 61 Tryz.underlying61 sz_9 (by decide) (fun _ => rfl) (hO.sees (i := 0) rfl) hx7
 refine op_val (ex_indexAddr hix7 hf rfl rfl) rfl hf rfl rfl fun a hf => ?_
 refine op_val (ex_load1 (o := 0) ag_9 (hSx7 _ (hO.sees (i := 0) rfl)) rfl hf rfl) rfl hf rfl rfl fun a hf => ?_
 refine op_as hf rfl rfl fun a hf => ?_
 refine wpList_nil ?_
 refine nor_then (hK10 _ _ ?_)
 refine wp_seq_k fun _ hK11 => ?_
 refine wp_region_list ?_
 refine op_mv hf rfl rfl fun a hf => ?_
 refine op_val (ex_len_s (l := x7) Tryz.underlying9 hf rfl) rfl hf rfl rfl fun a hf => ?_
 refine op_mv hf rfl rfl fun a hf => ?_
 refine wpList_nil ?_
 refine nor_then (hK11 _ _ ?_)
 refine wp_block ?_
 refine wp_loop_n (fun k a w => ∃ (i12 : Int), Fits 27 [(0, .func (.func x_is_f) x_is_p x_is_c), (6, str x7), (8, .slice x_l_p0 x_l.length x_l_c0), (9, int (x_l.length : Int)), (10, int i3), (15, int (x7.length : Int)), (16, int i12)] a ∧ Dk.Own w0 [] w [.shr x_l_p0 (cells enc_str x_l)] ∧ octet_All_L2 (octet_All_L1 x_is x_l n1) x_is i3 x7 k i12 = some R) ?_ fuel ?_
 rintro n2 a w ⟨i12, hf, hO, hm⟩
 obtain _ | n2 := n2
 rw [octet_All_L2] at hm
 cases hm
 rw [octet_All_L2] at hm
 refine wp_seq_k fun _ hK13 => ?_
 refine wp_region_list ?_
 refine op_val (ex_lss (m := i12) (n := (x7.length : Int)) hf rfl rfl) rfl hf rfl rfl fun a hf => ?_
 refine wpList_nil ?_
 refine nor_then (hK13 _ _ ?_)
 refine wp_seq_k fun _ hK15 => ?_
 refine wp_cond_cut hf rfl (fun hc14 => ?_) (fun hc14 => ?_)
 have hm := it hc14 hm
 refine wp_skip ?_
 refine nor_then (hK15 _ _ ?_)
 refine wp_seq_k fun _ hK22 => ?_
 refine wp_block ?_
 refine wp_seq_k fun _ hK16 => ?_
 refine wp_region_list ?_
 refine op_mv hf rfl rfl fun a hf => ?_
 refine op_as hf rfl rfl fun a hf => ?_
 refine wpList_nil ?_
 refine nor_then (hK16 _ _ ?_)
 refine wp_seq_k fun _ hK19 => ?_
 refine wp_region_list ?_
 refine op_mv hf rfl rfl fun a hf => ?_
 refine op_mv hf rfl rfl fun a hf => ?_
 refine op_mv hf rfl rfl fun a hf => ?_
 obtain ⟨b17, hb17, hm⟩ := ob hm
 refine op_val (ex_index (l := x7) Tryz.underlying9 hf rfl rfl hb17) rfl hf rfl rfl fun a hf => ?_
 obtain ⟨r18, hr18, hm⟩ := ob hm
 refine op_enter (ex_callv x_is_k hf rfl (vs := [byte b17]) rfl) rfl hf rfl rfl (x_is_h b17 r18 _ (hG.own hF hO) hr18) ?_
 rintro e w' ⟨he, hb⟩
 refine ⟨_, he, fun a hf => ?_⟩
 have hO := hO.grow hb
 refine op_val (ex_not hf rfl) rfl hf rfl rfl fun a hf => ?_
 refine wpList_nil ?_
 refine nor_then (hK19 _ _ ?_)
 refine wp_cond_cut hf rfl (fun hc20 => ?_) (fun hc20 => ?_)
 have hm := it hc20 hm
 refine wp_seq_k fun _ hK21 => ?_
 refine wp_region_list ?_
 refine op_as hf rfl rfl fun a hf => ?_
 refine wpList_nil ?_
 refine nor_then (hK21 _ _ ?_)
 refine wp_ret ?_
 refine ret_block ?_
 refine ret_then ?_
 refine ret_then ?_
 refine ret_block ?_
 refine ret_block ?_
 refine ret_then ?_
 refine ret_then ?_
 refine ret_block ?_
 refine ret_then ?_
 obtain rfl := Option.some.inj hm
 exact post_ret Tryz.results50 hf (.tmp rfl .nil) ⟨rfl, hO.below⟩
 have hm := ie hc20 hm
 refine wp_skip ?_
 refine nor_block ?_
 refine nor_then (hK22 _ _ ?_)
 refine wp_region_list ?_
 obtain ⟨i23, hi23, hm⟩ := ob hm
 refine op_val (ex_add hf rfl rfl hi23) rfl hf rfl rfl fun a hf => ?_
 refine op_mv hf rfl rfl fun a hf => ?_
 refine wpList_nil ?_
 refine nor_then ?_
 exact ⟨_, Nat.lt_succ_self _, i23, (hf.cons rfl (hf.cons rfl (hf.cons rfl (hf.cons rfl (hf.cons rfl (hf.cons rfl (hf.cons rfl hf.nil))))))), hO, hm⟩
 have hm := ie hc14 hm
 refine wp_exit ?_
 refine exit_then ?_
 refine exit_then ?_
 refine exit_here ?_
 refine nor_block ?_
 refine nor_then (hK24 _ _ ?_)
 refine wp_region_list ?_
 obtain ⟨i25, hi25, hm⟩ := ob hm
 refine op_val (ex_add hf rfl rfl hi25) rfl hf rfl rfl fun a hf => ?_
 refine op_mv hf rfl rfl fun a hf => ?_
 refine wpList_nil ?_
 refine nor_then ?_
 exact ⟨_, Nat.lt_succ_self _, i25, (hf.cons rfl (hf.cons rfl (hf.cons rfl (hf.cons rfl hf.nil)))), hO, hm⟩
 exact ⟨0, (hf.cons rfl (hf.cons rfl (hf.cons rfl (hf.cons rfl (hf.cons rfl (hf.cons rfl (hf.cons rfl hf.nil))))))), hO, hm⟩
 have hm := ie hc5 hm
 refine wp_exit ?_
 refine exit_then ?_
 refine exit_then ?_
 refine exit_here ?_
 refine nor_then (hK26 _ _ ?_)
 refine wp_seq_k fun _ hK27 => ?_
 refine wp_region_list ?_
 refine op_as hf rfl rfl fun a hf => ?_
 refine wpList_nil ?_
 refine nor_then (hK27 _ _ ?_)
 refine wp_ret ?_
 obtain rfl := Option.some.inj hm
 exact post_ret Tryz.results50 hf (.tmp rfl .nil) ⟨rfl, hO.below⟩
 exact ⟨0, (hf.cons rfl (hf.cons rfl (hf.cons rfl (hf.cons rfl hf.nil)))), hO, hm⟩

set_option maxHeartbeats 1000000 in
theorem w_numeral_worth (x_b : UInt8) (R : Int) (w0 : World) (hG : Glob w0) (hm : numeral_worth x_b = some R) :
    Calls Tryz.prog 172 #[byte x_b] w0 fun e w' => e = .returned (int R) ∧ Below w0.heap.size w0 w' := by
 rw [numeral_worth] at hm
 refine calls_enter (vs := [byte x_b]) Tryz.func172 rfl Tryz.ntmps172 rfl fun a hf => ?_
 have hF : Away [] := away_nil
 have hO : Dk.Own w0 [] w0 [] := Dk.Own.refl w0
 refine wp_seq_k fun _ hK1 => ?_
 refine wp_region_list ?_
 refine op_as hf rfl rfl fun a hf => ?_
 refine wpList_nil ?_
 refine nor_then (hK1 _ _ ?_)
 refine wp_seq_k fun _ hK6 => ?_
 refine wp_seq_k fun _ hK3 => ?_
 refine wp_region_list ?_
 refine op_mv hf rfl rfl fun a hf => ?_
 obtain ⟨r2, hr2, hm⟩ := ob hm
 refine op_enter (ex_call c_100 hf (vs := [byte x_b]) rfl) rfl hf rfl rfl (w_octet_IsDigit x_b r2 _ (hG.own hF hO) hr2) ?_
 rintro e w' ⟨he, hb⟩
 refine ⟨_, he, fun a hf => ?_⟩
 have hO := hO.grow hb
 refine wpList_nil ?_
 refine nor_then (hK3 _ _ ?_)
 refine wp_cond_cut hf rfl (fun hc4 => ?_) (fun hc4 => ?_)
 have hm := it hc4 hm
 refine wp_seq_k fun _ hK5 => ?_
 refine wp_region_list ?_
 refine op_mv hf rfl rfl fun a hf => ?_
 refine op_val (ex_sub_b (b := x_b) (c := 48) hf rfl rfl) rfl hf rfl rfl fun a hf => ?_
 refine op_val (ex_conv_i Tryz.underlying3 Tryz.underlying5 (byte_inI _) hf (kd := .u8) rfl) rfl hf rfl rfl fun a hf => ?_
 refine op_as hf rfl rfl fun a hf => ?_
 refine wpList_nil ?_
 refine nor_then (hK5 _ _ ?_)
 refine wp_ret ?_
 refine ret_then ?_
 obtain rfl := Option.some.inj hm
 exact post_ret Tryz.results172 hf (.tmp rfl .nil) ⟨rfl, hO.below⟩
 have hm := ie hc4 hm
 refine wp_skip ?_
 refine nor_then (hK6 _ _ ?_)
 refine wp_seq_k fun _ hK9 => ?_
 refine wp_region_list ?_
 refine op_mv hf rfl rfl fun a hf => ?_
 obtain ⟨r7, hr7, hm⟩ := ob hm
 refine op_enter (ex_call c_158 hf (vs := [byte x_b]) rfl) rfl hf rfl rfl (w_octet_Lower x_b r7 _ (hG.own hF hO) hr7) ?_
 rintro e w' ⟨he, hb⟩
 refine ⟨_, he, fun a hf => ?_⟩
 have hO := hO.grow hb
 refine op_val (ex_sub_b (b := r7) (c := 97) hf rfl rfl) rfl hf rfl rfl fun a hf => ?_
 refine op_val (ex_conv_i Tryz.underlying3 Tryz.underlying5 (byte_inI _) hf (kd := .u8) rfl) rfl hf rfl rfl fun a hf => ?_
 obtain ⟨i8, hi8, hm⟩ := ob hm
 refine op_val (ex_add hf rfl rfl hi8) rfl hf rfl rfl fun a hf => ?_
 refine op_as hf rfl rfl fun a hf => ?_
 refine wpList_nil ?_
 refine nor_then (hK9 _ _ ?_)
 refine wp_ret ?_
 obtain rfl := Option.some.inj hm
 exact post_ret Tryz.results172 hf (.tmp rfl .nil) ⟨rfl, hO.below⟩

set_option maxHeartbeats 1000000 in
theorem w_numeral_read (x_s : Str) (x_base : Int) (x_most : Int) (x_is : UInt8 → Option Bool) (R : Int × Int) (w0 : World) (hG : Glob w0) {x_is_f : Nat} {x_is_p x_is_c : Array Value} (x_is_k : Callable Tryz.prog x_is_f) (x_is_h : ∀ (y0 : UInt8) (r : Bool) (w : World), Glob w → x_is y0 = some r → Calls Tryz.prog x_is_f (x_is_p ++ [byte y0].toArray ++ x_is_c) w fun e w' => e = .returned (.bool r) ∧ Below w.heap.size w w') (hm : numeral_read x_s x_base x_most x_is = some R) :
    Calls Tryz.prog 143 #[str x_s, int x_base, int x_most, .func (.func x_is_f) x_is_p x_is_c] w0 fun e w' => e = .returned (.tuple #[int R.1, int R.2]) ∧ Below w0.heap.size w0 w' := by
 rw [numeral_read] at hm
 refine calls_enter (vs := [str x_s, int x_base, int x_most, .func (.func x_is_f) x_is_p x_is_c]) Tryz.func143 rfl Tryz.ntmps143 rfl fun a hf => ?_
 have hF : Away [] := away_nil
 have hO : Dk.Own w0 [] w0 [] := Dk.Own.refl w0
 refine wp_seq_k fun _ hK1 => ?_
 refine wp_region_list ?_
 refine op_as hf rfl rfl fun a hf => ?_
 refine op_as hf rfl rfl fun a hf => ?_
 refine wpList_nil ?_
 refine nor_then (hK1 _ _ ?_)
 refine wp_seq_k fun _ hK8 => ?_
 refine wp_seq_cut (fun a w => ∃ (t5 : Bool), Fits 50 [(0, str x_s), (1, int x_base), (2, int x_most), (21, .bool t5)] a ∧ Dk.Own w0 [] w [] ∧ numeral_read_j1 x_s x_base x_most t5 = some R) ?_ ?_
 refine wp_region_list ?_
 refine op_mv hf rfl rfl fun a hf => ?_
 refine op_val (ex_eql_s (l := x_s) (m := []) hf rfl rfl) rfl hf rfl rfl fun a hf => ?_
 refine op_mv hf rfl rfl fun a hf => ?_
 rcases bcase (x_s == []) with hc2 | hc2
 have hm := it hc2 hm
 refine op_pass rfl hf rfl rfl (hc2) rfl rfl fun a hf => ?_
 refine op_pass rfl hf rfl rfl (hc2) rfl rfl fun a hf => ?_
 refine op_pass rfl hf rfl rfl (hc2) rfl rfl fun a hf => ?_
 refine op_pass rfl hf rfl rfl (hc2) rfl rfl fun a hf => ?_
 refine op_pass rfl hf rfl rfl (hc2) rfl rfl fun a hf => ?_
 refine op_val (ex_pick_t hf rfl hc2 rfl) rfl hf rfl rfl fun a hf => ?_
 refine wpList_nil ?_
 refine nor_then ?_
 exact ⟨true, (hf.cons rfl (hf.cons rfl (hf.cons rfl (hf.cons rfl hf.nil)))), hO, hm⟩
 have hm := ie hc2 hm
 refine op_guard rfl hf rfl rfl (hc2) ?_
 refine op_mv hf rfl rfl fun a hf => ?_
 refine op_guard rfl hf rfl rfl (hc2) ?_
 refine op_mv hf rfl rfl fun a hf => ?_
 refine op_guard rfl hf rfl rfl (hc2) ?_
 refine op_buildSlice (vs := [(0, str x_s)]) (cs := [str x_s]) (e := 9) (sz := 1) hf rfl rfl (fun w => by kernel_rfl) rfl rfl hO fun a b3 w hf hO => ?_
 refine op_guard rfl hf rfl rfl (hc2) ?_
 obtain ⟨r4, hr4, hm⟩ := ob hm
 refine op_enter (ex_call c_50 hf (vs := [.func (.func x_is_f) x_is_p x_is_c, .slice (some ⟨b3, 0, none⟩) (([x_s] : List Str).length) 1]) rfl) rfl hf rfl rfl (w_octet_All x_is ([x_s] : List Str) r4 _ (hG.own hF hO) x_is_k x_is_h (hO.rowSees (i := 0) rfl) (hO.rowCap (i := 0) rfl) hr4) ?_
 rintro e w' ⟨he, hb⟩
 refine ⟨_, he, fun a hf => ?_⟩
 have hO := hO.grow hb
 refine op_guard rfl hf rfl rfl (hc2) ?_
 refine op_val (ex_not hf rfl) rfl hf rfl rfl fun a hf => ?_
 refine op_val (ex_pick_f hf rfl hc2 rfl) rfl hf rfl rfl fun a hf => ?_
 refine wpList_nil ?_
 refine nor_then ?_
 exact ⟨!r4, (hf.cons rfl (hf.cons rfl (hf.cons rfl (hf.cons rfl hf.nil)))), (hO.sub (.cons _ .slnil)), hm⟩
 rintro a w ⟨t5, hf, hO, hm⟩
 rw [numeral_read_j1] at hm
 refine wp_cond_cut hf rfl (fun hc6 => ?_) (fun hc6 => ?_)
 have hm := it hc6 hm
 refine wp_seq_k fun _ hK7 => ?_
 refine wp_region_list ?_
 refine op_as hf rfl rfl fun a hf => ?_
 refine op_as hf rfl rfl fun a hf => ?_
 refine wpList_nil ?_
 refine nor_then (hK7 _ _ ?_)
 refine wp_ret ?_
 refine ret_then ?_
 obtain rfl := Option.some.inj hm
 exact post_ret Tryz.results143 hf (.tmp rfl (.tmp rfl .nil)) ⟨rfl, hO.below⟩
 have hm := ie hc6 hm
 refine wp_skip ?_
 refine nor_then (hK8 _ _ ?_)
 refine wp_seq_k fun _ hK9 => ?_
 refine wp_region_list ?_
 refine op_as hf rfl rfl fun a hf => ?_
 refine wpList_nil ?_
 refine nor_then (hK9 _ _ ?_)
 refine wp_seq_k fun _ hK31 => ?_
 refine wp_seq_k fun _ hK10 => ?_
 refine wp_region_list ?_
 refine op_mv hf rfl rfl fun a hf => ?_
 refine op_val (ex_len_s (l := x_s) Tryz.underlying9 hf rfl) rfl hf rfl rfl fun a hf => ?_
 refine op_mv hf rfl rfl fun a hf => ?_
 refine wpList_nil ?_
 refine nor_then (hK10 _ _ ?_)
 refine wp_block ?_
 refine wp_loop_n (fun k a w => ∃ (i11 : Int) (i12 : Int), Fits 50 [(0, str x_s), (1, int x_base), (2, int x_most), (10, int i11), (23, int (x_s.length : Int)), (24, int i12)] a ∧ Dk.Own w0 [] w [] ∧ numeral_read_L2 x_s x_base x_most k i11 i12 = some R) ?_ fuel ?_
 rintro n2 a w ⟨i11, i12, hf, hO, hm⟩
 obtain _ | n2 := n2
 rw [numeral_read_L2] at hm
 cases hm
 rw [numeral_read_L2] at hm
 refine wp_seq_k fun _ hK13 => ?_
 refine wp_region_list ?_
 refine op_val (ex_lss (m := i12) (n := (x_s.length : Int)) hf rfl rfl) rfl hf rfl rfl fun a hf => ?_
 refine wpList_nil ?_
 refine nor_then (hK13 _ _ ?_)
 refine wp_seq_k fun _ hK15 => ?_
 refine wp_cond_cut hf rfl (fun hc14 => ?_) (fun hc14 => ?_)
 have hm := it hc14 hm
 refine wp_skip ?_
 refine nor_then (hK15 _ _ ?_)
 refine wp_seq_k fun _ hK29 => ?_
 refine wp_block ?_
 refine wp_seq_k fun _ hK16 => ?_
 refine wp_region_list ?_
 refine op_mv hf rfl rfl fun a hf => ?_
 refine op_as hf rfl rfl fun a hf => ?_
 refine wpList_nil ?_
 refine nor_then (hK16 _ _ ?_)
 refine wp_seq_k fun _ hK19 => ?_
 refine wp_region_list ?_
 refine op_mv hf rfl rfl fun a hf => ?_
 refine op_mv hf rfl rfl fun a hf => ?_
 obtain ⟨b17, hb17, hm⟩ := ob hm
 refine op_val (ex_index (l := x_s) Tryz.underlying9 hf rfl rfl hb17) rfl hf rfl rfl fun a hf => ?_
 obtain ⟨r18, hr18, hm⟩ := ob hm
 refine op_enter (ex_call c_172 hf (vs := [byte b17]) rfl) rfl hf rfl rfl (w_numeral_worth b17 r18 _ (hG.own hF hO) hr18) ?_
 rintro e w' ⟨he, hb⟩
 refine ⟨_, he, fun a hf => ?_⟩
 have hO := hO.grow hb
 refine op_as hf rfl rfl fun a hf => ?_
 refine wpList_nil ?_
 refine nor_then (hK19 _ _ ?_)
 refine wp_seq_k fun _ hK26 => ?_
 refine wp_seq_cut (fun a w => ∃ (t23 : Bool), Fits 50 [(0, str x_s), (1, int x_base), (2, int x_most), (10, int i11), (12, int r18), (23, int (x_s.length : Int)), (24, int i12), (42, .bool t23)] a ∧ Dk.Own w0 [] w [] ∧ numeral_read_j3 (numeral_read_L2 x_s x_base x_most n2) x_base i11 i12 r18 t23 = some R) ?_ ?_
 refine wp_region_list ?_
 refine op_mv hf rfl rfl fun a hf => ?_
 refine op_mv hf rfl rfl fun a hf => ?_
 refine op_val (ex_gtr (m := r18) (n := x_most) hf rfl rfl) rfl hf rfl rfl fun a hf => ?_
 refine op_mv hf rfl rfl fun a hf => ?_
 rcases bcase (decide (x_most < r18)) with hc20 | hc20
 have hm := it hc20 hm
 refine op_pass rfl hf rfl rfl (hc20) rfl rfl fun a hf => ?_
 refine op_pass rfl hf rfl rfl (hc20) rfl rfl fun a hf => ?_
 refine op_pass rfl hf rfl rfl (hc20) rfl rfl fun a hf => ?_
 refine op_pass rfl hf rfl rfl (hc20) rfl rfl fun a hf => ?_
 refine op_pass rfl hf rfl rfl (hc20) rfl rfl fun a hf => ?_
 refine op_pass rfl hf rfl rfl (hc20) rfl rfl fun a hf => ?_
 refine op_pass rfl hf rfl rfl (hc20) rfl rfl fun a hf => ?_
 refine op_val (ex_pick_t hf rfl hc20 rfl) rfl hf rfl rfl fun a hf => ?_
 refine wpList_nil ?_
 refine nor_then ?_
 exact ⟨true, (hf.cons rfl (hf.cons rfl (hf.cons rfl (hf.cons rfl (hf.cons rfl (hf.cons rfl (hf.cons rfl (hf.cons rfl hf.nil)))))))), hO, hm⟩
 have hm := ie hc20 hm
 refine op_guard rfl hf rfl rfl (hc20) ?_
 refine op_mv hf rfl rfl fun a hf => ?_
 refine op_guard rfl hf rfl rfl (hc20) ?_
 refine op_mv hf rfl rfl fun a hf => ?_
 refine op_guard rfl hf rfl rfl (hc20) ?_
 refine op_mv hf rfl rfl fun a hf => ?_
 refine op_guard rfl hf rfl rfl (hc20) ?_
 obtain ⟨i21, hi21, hm⟩ := ob hm
 refine op_val (ex_sub hf rfl rfl hi21) rfl hf rfl rfl fun a hf => ?_
 refine op_guard rfl hf rfl rfl (hc20) ?_
 refine op_mv hf rfl rfl fun a hf => ?_
 refine op_guard rfl hf rfl rfl (hc20) ?_
 obtain ⟨i22, hi22, hm⟩ := ob hm
 refine op_val (ex_quo hf rfl rfl hi22) rfl hf rfl rfl fun a hf => ?_
 refine op_guard rfl hf rfl rfl (hc20) ?_
 refine op_val (ex_gtr (m := i11) (n := i22) hf rfl rfl) rfl hf rfl rfl fun a hf => ?_
 refine op_val (ex_pick_f hf rfl hc20 rfl) rfl hf rfl rfl fun a hf => ?_
 refine wpList_nil ?_
 refine nor_then ?_
 exact ⟨decide (i22 < i11), (hf.cons rfl (hf.cons rfl (hf.cons rfl (hf.cons rfl (hf.cons rfl (hf.cons rfl (hf.cons rfl (hf.cons rfl hf.nil)))))))), hO, hm⟩
 rintro a w ⟨t23, hf, hO, hm⟩
 rw [numeral_read_j3] at hm
 refine wp_cond_cut hf rfl (fun hc24 => ?_) (fun hc24 => ?_)
 have hm := it hc24 hm
 refine wp_seq_k fun _ hK25 => ?_
 refine wp_region_list ?_
 refine op_as hf rfl rfl fun a hf => ?_
 refine op_as hf rfl rfl fun a hf => ?_
 refine wpList_nil ?_
 refine nor_then (hK25 _ _ ?_)
 refine wp_ret ?_
 refine ret_then ?_
 refine ret_block ?_
 refine ret_then ?_
 refine ret_then ?_
 refine ret_block ?_
 refine ret_then ?_
 obtain rfl := Option.some.inj hm
 exact post_ret Tryz.results143 hf (.tmp rfl (.tmp rfl .nil)) ⟨rfl, hO.below⟩
 have hm := ie hc24 hm
 refine wp_skip ?_
 refine nor_then (hK26 _ _ ?_)
 refine wp_region_list ?_
 refine op_mv hf rfl rfl fun a hf => ?_
 refine op_mv hf rfl rfl fun a hf => ?_
 obtain ⟨i27, hi27, hm⟩ := ob hm
 refine op_val (ex_mul hf rfl rfl hi27) rfl hf rfl rfl fun a hf => ?_
 refine op_mv hf rfl rfl fun a hf => ?_
 obtain ⟨i28, hi28, hm⟩ := ob hm
 refine op_val (ex_add hf rfl rfl hi28) rfl hf rfl rfl fun a hf => ?_
 refine op_as hf rfl rfl fun a hf => ?_
 refine wpList_nil ?_
 refine nor_block ?_
 refine nor_then (hK29 _ _ ?_)
 refine wp_region_list ?_
 obtain ⟨i30, hi30, hm⟩ := ob hm
 refine op_val (ex_add hf rfl rfl hi30) rfl hf rfl rfl fun a hf => ?_
 refine op_mv hf rfl rfl fun a hf => ?_
 refine wpList_nil ?_
 refine nor_then ?_
 exact ⟨_, Nat.lt_succ_self _, i28, i30, (hf.cons rfl (hf.cons rfl (hf.cons rfl (hf.cons rfl (hf.cons rfl (hf.cons rfl hf.nil)))))), hO, hm⟩
 have hm := ie hc14 hm
 refine wp_exit ?_
 refine exit_then ?_
 refine exit_then ?_
 refine exit_here ?_
 refine nor_then (hK31 _ _ ?_)
 refine wp_seq_k fun _ hK32 => ?_
 refine wp_region_list ?_
 refine op_mv hf rfl rfl fun a hf => ?_
 refine op_as hf rfl rfl fun a hf => ?_
 refine op_as hf rfl rfl fun a hf => ?_
 refine wpList_nil ?_
 refine nor_then (hK32 _ _ ?_)
 refine wp_ret ?_
 obtain rfl := Option.some.inj hm
 exact post_ret Tryz.results143 hf (.tmp rfl (.tmp rfl .nil)) ⟨rfl, hO.below⟩
 exact ⟨0, 0, (hf.cons rfl (hf.cons rfl (hf.cons rfl (hf.cons rfl (hf.cons rfl (hf.cons rfl hf.nil)))))), hO, hm⟩

set_option maxHeartbeats 1000000 in
theorem w_numeral_Decimal (x_s : Str) (x_most : Int) (R : Int × Int) (w0 : World) (hG : Glob w0) (hm : numeral_Decimal x_s x_most = some R) :
    Calls Tryz.prog 101 #[str x_s, int x_most] w0 fun e w' => e = .returned (.tuple #[int R.1, int R.2]) ∧ Below w0.heap.size w0 w' := by
 rw [numeral_Decimal] at hm
 refine calls_enter (vs := [str x_s, int x_most]) Tryz.func101 rfl Tryz.ntmps101 rfl fun a hf => ?_
 have hF : Away [] := away_nil
 have hO : Dk.Own w0 [] w0 [] := Dk.Own.refl w0
 refine wp_seq_k fun _ hK1 => ?_
 refine wp_region_list ?_
 refine op_as hf rfl rfl fun a hf => ?_
 refine op_as hf rfl rfl fun a hf => ?_
 refine wpList_nil ?_
 refine nor_then (hK1 _ _ ?_)
 refine wp_seq_k fun _ hK3 => ?_
 refine wp_region_list ?_
 refine op_mv hf rfl rfl fun a hf => ?_
 refine op_mv hf rfl rfl fun a hf => ?_
 obtain ⟨r2, hr2, hm⟩ := ob hm
 refine op_enter (ex_call c_143 hf (vs := [str x_s, int 10, int x_most, .func (.func 100) #[] #[]]) rfl) rfl hf rfl rfl (w_numeral_read x_s 10 x_most octet_IsDigit r2 _ (hG.own hF hO) c_100 (fun y0 r w hG h => callsE (w_octet_IsDigit y0 r w hG h)) hr2) ?_
 rintro e w' ⟨he, hb⟩
 refine ⟨_, he, fun a hf => ?_⟩
 have hO := hO.grow hb
 refine op_val (ex_extract hf rfl rfl) rfl hf rfl rfl fun a hf => ?_
 refine op_val (ex_extract hf rfl rfl) rfl hf rfl rfl fun a hf => ?_
 refine op_as hf rfl rfl fun a hf => ?_
 refine op_as hf rfl rfl fun a hf => ?_
 refine wpList_nil ?_
 refine nor_then (hK3 _ _ ?_)
 refine wp_ret ?_
 obtain rfl := Option.some.inj hm
 exact post_ret Tryz.results101 hf (.tmp rfl (.tmp rfl .nil)) ⟨rfl, hO.below⟩

set_option maxHeartbeats 1000000 in
theorem w_numeral_text (x_n : Int) (x_base : Int) (R : Str) (w0 : World) (hG : GlobT w0) (hm : numeral_text x_n x_base = some R) :
    Calls Tryz.prog 70 #[int x_n, int x_base] w0 fun e w' => e = .returned (str R) ∧ Below w0.heap.size w0 w' := by
 rw [numeral_text] at hm
 refine calls_enter (vs := [int x_n, int x_base]) Tryz.func70 rfl Tryz.ntmps70 rfl fun a hf => ?_
 have hF : Away [] := away_nil
 have hO : Dk.Own w0 [] w0 [] := Dk.Own.refl w0
 refine wp_seq_k fun _ hK1 => ?_
 refine wp_region_list ?_
 refine op_as hf rfl rfl fun a hf => ?_
 refine wpList_nil ?_
 refine nor_then (hK1 _ _ ?_)
 refine wp_seq_k fun _ hK5 => ?_
 refine wp_seq_k fun _ hK2 => ?_
 refine wp_region_list ?_
 refine op_mv hf rfl rfl fun a hf => ?_
 refine op_val (ex_lss (m := x_n) (n := 0) hf rfl rfl) rfl hf rfl rfl fun a hf => ?_
 refine wpList_nil ?_
 refine nor_then (hK2 _ _ ?_)
 refine wp_cond_cut hf rfl (fun hc3 => ?_) (fun hc3 => ?_)
 have hm := it hc3 hm
 refine wp_seq_k fun _ hK4 => ?_
 refine wp_region_list ?_
 refine op_as hf rfl rfl fun a hf => ?_
 refine wpList_nil ?_
 refine nor_then (hK4 _ _ ?_)
 refine wp_ret ?_
 refine ret_then ?_
 obtain rfl := Option.some.inj hm
 exact post_ret Tryz.results70 hf (.tmp rfl .nil) ⟨rfl, hO.below⟩
 have hm := ie hc3 hm
 refine wp_skip ?_
 refine nor_then (hK5 _ _ ?_)
 refine wp_seq_k fun _ hK7 => ?_
 refine wp_region_list ?_
 refine op_mv hf rfl rfl fun a hf => ?_
 refine op_mv hf rfl rfl fun a hf => ?_
 obtain ⟨r6, hr6, hm⟩ := ob hm
 refine op_enter (ex_call c_116 hf (vs := [int x_n, int x_base]) rfl) rfl hf rfl rfl (w_strconv_FormatInt x_n x_base r6 _ (hG.own hF hO) hr6) ?_
 rintro e w' ⟨he, hb⟩
 refine ⟨_, he, fun a hf => ?_⟩
 have hO := hO.grow hb
 refine op_as hf rfl rfl fun a hf => ?_
 refine wpList_nil ?_
 refine nor_then (hK7 _ _ ?_)
 refine wp_ret ?_
 obtain rfl := Option.some.inj hm
 exact post_ret Tryz.results70 hf (.tmp rfl .nil) ⟨rfl, hO.below⟩

set_option maxHeartbeats 1000000 in
theorem w_numeral_Text (x_n : Int) (R : Str) (w0 : World) (hG : GlobT w0) (hm : numeral_Text x_n = some R) :
    Calls Tryz.prog 40 #[int x_n] w0 fun e w' => e = .returned (str R) ∧ Below w0.heap.size w0 w' := by
 rw [numeral_Text] at hm
 refine calls_enter (vs := [int x_n]) Tryz.func40 rfl Tryz.ntmps40 rfl fun a hf => ?_
 have hF : Away [] := away_nil
 have hO : Dk.Own w0 [] w0 [] := Dk.Own.refl w0
 refine wp_seq_k fun _ hK1 => ?_
 refine wp_region_list ?_
 refine op_as hf rfl rfl fun a hf => ?_
 refine wpList_nil ?_
 refine nor_then (hK1 _ _ ?_)
 refine wp_seq_k fun _ hK3 => ?_
 refine wp_region_list ?_
 refine op_mv hf rfl rfl fun a hf => ?_
 obtain ⟨r2, hr2, hm⟩ := ob hm
 refine op_enter (ex_call c_70 hf (vs := [int x_n, int 10]) rfl) rfl hf rfl rfl (w_numeral_text x_n 10 r2 _ (hG.own hF hO) hr2) ?_
 rintro e w' ⟨he, hb⟩
 refine ⟨_, he, fun a hf => ?_⟩
 have hO := hO.grow hb
 refine op_as hf rfl rfl fun a hf => ?_
 refine wpList_nil ?_
 refine nor_then (hK3 _ _ ?_)
 refine wp_ret ?_
 obtain rfl := Option.some.inj hm
 exact post_ret Tryz.results40 hf (.tmp rfl .nil) ⟨rfl, hO.below⟩

set_option maxHeartbeats 1000000 in
theorem w_hostport_small (x_s : Str) (x_most : Int) (R : Bool) (w0 : World) (hG : GlobT w0) (hm : hostport_small x_s x_most = some R) :
    Calls Tryz.prog 135 #[str x_s, int x_most] w0 fun e w' => e = .returned (.bool R) ∧ Below w0.heap.size w0 w' := by
 rw [hostport_small] at hm
 refine calls_enter (vs := [str x_s, int x_most]) Tryz.func135 rfl Tryz.ntmps135 rfl fun a hf => ?_
 have hF : Away [] := away_nil
 have hO : Dk.Own w0 [] w0 [] := Dk.Own.refl w0
 refine wp_seq_k fun _ hK1 => ?_
 refine wp_region_list ?_
 refine op_as hf rfl rfl fun a hf => ?_
 refine wpList_nil ?_
 refine nor_then (hK1 _ _ ?_)
 refine wp_seq_k fun _ hK3 => ?_
 refine wp_region_list ?_
 refine op_mv hf rfl rfl fun a hf => ?_
 refine op_mv hf rfl rfl fun a hf => ?_
 obtain ⟨r2, hr2, hm⟩ := ob hm
 refine op_enter (ex_call c_101 hf (vs := [str x_s, int x_most]) rfl) rfl hf rfl rfl (w_numeral_Decimal x_s x_most r2 _ (hG.own hF hO).1 hr2) ?_
 rintro e w' ⟨he, hb⟩
 refine ⟨_, he, fun a hf => ?_⟩
 have hO := hO.grow hb
 refine op_mv hf rfl rfl fun a hf => ?_
 refine op_val (ex_extract hf rfl rfl) rfl hf rfl rfl fun a hf => ?_
 refine op_val (ex_extract hf rfl rfl) rfl hf rfl rfl fun a hf => ?_
 refine op_as hf rfl rfl fun a hf => ?_
 refine op_as hf rfl rfl fun a hf => ?_
 refine wpList_nil ?_
 refine nor_then (hK3 _ _ ?_)
 refine wp_seq_cut (fun a w => ∃ (t6 : Bool), Fits 21 [(4, .bool t6)] a ∧ Dk.Own w0 [] w [] ∧ hostport_small_j1 t6 = some R) ?_ ?_
 refine wp_region_list ?_
 refine op_mv hf rfl rfl fun a hf => ?_
 refine op_val (ex_eql (m := r2.2) (n := 0) hf rfl rfl) rfl hf rfl rfl fun a hf => ?_
 refine op_mv hf rfl rfl fun a hf => ?_
 rcases bcase (r2.2 == 0) with hc4 | hc4
 have hm := it hc4 hm
 refine op_guard rfl hf rfl rfl (hc4) ?_
 refine op_mv hf rfl rfl fun a hf => ?_
 refine op_guard rfl hf rfl rfl (hc4) ?_
 obtain ⟨r5, hr5, hm⟩ := ob hm
 refine op_enter (ex_call c_40 hf (vs := [int r2.1]) rfl) rfl hf rfl rfl (w_numeral_Text r2.1 r5 _ (hG.own hF hO) hr5) ?_
 rintro e w' ⟨he, hb⟩
 refine ⟨_, he, fun a hf => ?_⟩
 have hO := hO.grow hb
 refine op_guard rfl hf rfl rfl (hc4) ?_
 refine op_mv hf rfl rfl fun a hf => ?_
 refine op_guard rfl hf rfl rfl (hc4) ?_
 refine op_val (ex_eql_s (l := r5) (m := x_s) hf rfl rfl) rfl hf rfl rfl fun a hf => ?_
 refine op_val (ex_pick_t hf rfl hc4 rfl) rfl hf rfl rfl fun a hf => ?_
 refine op_as hf rfl rfl fun a hf => ?_
 refine wpList_nil ?_
 refine nor_then ?_
 exact ⟨r5 == x_s, (hf.cons rfl hf.nil), hO, hm⟩
 have hm := ie hc4 hm
 refine op_pass rfl hf rfl rfl (hc4) rfl rfl fun a hf => ?_
 refine op_pass rfl hf rfl rfl (hc4) rfl rfl fun a hf => ?_
 refine op_pass rfl hf rfl rfl (hc4) rfl rfl fun a hf => ?_
 refine op_pass rfl hf rfl rfl (hc4) rfl rfl fun a hf => ?_
 refine op_val (ex_pick_f hf rfl hc4 rfl) rfl hf rfl rfl fun a hf => ?_
 refine op_as hf rfl rfl fun a hf => ?_
 refine wpList_nil ?_
 refine nor_then ?_
 exact ⟨false, (hf.cons rfl hf.nil), hO, hm⟩
 rintro a w ⟨t6, hf, hO, hm⟩
 rw [hostport_small_j1] at hm
 refine wp_ret ?_
 obtain rfl := Option.some.inj hm
 exact post_ret Tryz.results135 hf (.tmp rfl .nil) ⟨rfl, hO.below⟩

set_option maxHeartbeats 1000000 in
theorem w_hostport_Four (x_s : Str) (R : Bool) (w0 : World) (hG : GlobT w0) (hm : hostport_Four x_s = some R) :
    Calls Tryz.prog 164 #[str x_s] w0 fun e w' => e = .returned (.bool R) ∧ Below w0.heap.size w0 w' := by
  unfold hostport_Four at hm
  split at hm
  · rename_i hs
    obtain ⟨bs, hbs, hm⟩ := ob hm
    cases hm
    exact Four_in (fun x => hostport_small x 255) (fun x b W hG h => w_hostport_small x 255 b W hG h) x_s hs bs hbs w0 hG
  · cases hm

set_option maxHeartbeats 1000000 in
theorem w_octet_IsHex (x_b : UInt8) (R : Bool) (w0 : World) (hG : Glob w0) (hm : octet_IsHex x_b = some R) :
    Calls Tryz.prog 192 #[byte x_b] w0 fun e w' => e = .returned (.bool R) ∧ Below w0.heap.size w0 w' := by
 rw [octet_IsHex] at hm
 refine calls_enter (vs := [byte x_b]) Tryz.func192 rfl Tryz.ntmps192 rfl fun a hf => ?_
 have hF : Away [] := away_nil
 have hO : Dk.Own w0 [] w0 [] := Dk.Own.refl w0
 refine wp_seq_k fun _ hK1 => ?_
 refine wp_region_list ?_
 refine op_as hf rfl rfl fun a hf => ?_
 refine wpList_nil ?_
 refine nor_then (hK1 _ _ ?_)
 refine wp_seq_cut (fun a w => ∃ (t7 : Bool), Fits 15 [(2, .bool t7)] a ∧ Dk.Own w0 [] w [] ∧ octet_IsHex_j1 t7 = some R) ?_ ?_
 refine wp_region_list ?_
 refine op_mv hf rfl rfl fun a hf => ?_
 obtain ⟨r2, hr2, hm⟩ := ob hm
 refine op_enter (ex_call c_100 hf (vs := [byte x_b]) rfl) rfl hf rfl rfl (w_octet_IsDigit x_b r2 _ (hG.own hF hO) hr2) ?_
 rintro e w' ⟨he, hb⟩
 refine ⟨_, he, fun a hf => ?_⟩
 have hO := hO.grow hb
 refine op_mv hf rfl rfl fun a hf => ?_
 rcases bcase (r2) with hc3 | hc3
 have hm := it hc3 hm
 refine op_pass rfl hf rfl rfl (hc3) rfl rfl fun a hf => ?_
 refine op_pass rfl hf rfl rfl (hc3) rfl rfl fun a hf => ?_
 refine op_pass rfl hf rfl rfl (hc3) rfl rfl fun a hf => ?_
 refine op_pass rfl hf rfl rfl (hc3) rfl rfl fun a hf => ?_
 refine op_passu rfl hf rfl rfl rfl rfl fun a hf => ?_
 refine op_passu rfl hf rfl rfl rfl rfl fun a hf => ?_
 refine op_passu rfl hf rfl rfl rfl rfl fun a hf => ?_
 refine op_pass rfl hf rfl rfl (hc3) rfl rfl fun a hf => ?_
 refine op_val (ex_pick_t hf rfl hc3 rfl) rfl hf rfl rfl fun a hf => ?_
 refine op_as hf rfl rfl fun a hf => ?_
 refine wpList_nil ?_
 refine nor_then ?_
 exact ⟨true, (hf.cons rfl hf.nil), hO, hm⟩
 have hm := ie hc3 hm
 refine op_guard rfl hf rfl rfl (hc3) ?_
 refine op_mv hf rfl rfl fun a hf => ?_
 refine op_guard rfl hf rfl rfl (hc3) ?_
 obtain ⟨r4, hr4, hm⟩ := ob hm
 refine op_enter (ex_call c_158 hf (vs := [byte x_b]) rfl) rfl hf rfl rfl (w_octet_Lower x_b r4 _ (hG.own hF hO) hr4) ?_
 rintro e w' ⟨he, hb⟩
 refine ⟨_, he, fun a hf => ?_⟩
 have hO := hO.grow hb
 refine op_guard rfl hf rfl rfl (hc3) ?_
 refine op_val (ex_geq_b (b := r4) (c := 97) hf rfl rfl) rfl hf rfl rfl fun a hf => ?_
 refine op_guard rfl hf rfl rfl (hc3) ?_
 refine op_mv hf rfl rfl fun a hf => ?_
 rcases bcase (decide (97 ≤ r4)) with hc5 | hc5
 have hm := it hc5 hm
 refine op_guard rfl hf rfl rfl (hc5) ?_
 refine op_mv hf rfl rfl fun a hf => ?_
 refine op_guard rfl hf rfl rfl (hc5) ?_
 obtain ⟨r6, hr6, hm⟩ := ob hm
 refine op_enter (ex_call c_158 hf (vs := [byte x_b]) rfl) rfl hf rfl rfl (w_octet_Lower x_b r6 _ (hG.own hF hO) hr6) ?_
 rintro e w' ⟨he, hb⟩
 refine ⟨_, he, fun a hf => ?_⟩
 have hO := hO.grow hb
 refine op_guard rfl hf rfl rfl (hc5) ?_
 refine op_val (ex_leq_b (b := r6) (c := 102) hf rfl rfl) rfl hf rfl rfl fun a hf => ?_
 refine op_guard rfl hf rfl rfl (hc3) ?_
 refine op_val (ex_pick_t hf rfl hc5 rfl) rfl hf rfl rfl fun a hf => ?_
 refine op_val (ex_pick_f hf rfl hc3 rfl) rfl hf rfl rfl fun a hf => ?_
 refine op_as hf rfl rfl fun a hf => ?_
 refine wpList_nil ?_
 refine nor_then ?_
 exact ⟨decide (r6 ≤ 102), (hf.cons rfl hf.nil), hO, hm⟩
 have hm := ie hc5 hm
 refine op_pass rfl hf rfl rfl (hc5) rfl rfl fun a hf => ?_
 refine op_pass rfl hf rfl rfl (hc5) rfl rfl fun a hf => ?_
 refine op_pass rfl hf rfl rfl (hc5) rfl rfl fun a hf => ?_
 refine op_guard rfl hf rfl rfl (hc3) ?_
 refine op_val (ex_pick_f hf rfl hc5 rfl) rfl hf rfl rfl fun a hf => ?_
 refine op_val (ex_pick_f hf rfl hc3 rfl) rfl hf rfl rfl fun a hf => ?_
 refine op_as hf rfl rfl fun a hf => ?_
 refine wpList_nil ?_
 refine nor_then ?_
 exact ⟨false, (hf.cons rfl hf.nil), hO, hm⟩
 rintro a w ⟨t7, hf, hO, hm⟩
 rw [octet_IsHex_j1] at hm
 refine wp_ret ?_
 obtain rfl := Option.some.inj hm
 exact post_ret Tryz.results192 hf (.tmp rfl .nil) ⟨rfl, hO.below⟩

set_option maxHeartbeats 1000000 in
theorem w_hostport_groups (x_s : Str) (x_last : Bool) (R : Int) (w0 : World) (hG : GlobT w0) (hm : hostport_groups x_s x_last = some R) :
    Calls Tryz.prog 180 #[str x_s, .bool x_last] w0 fun e w' => e = .returned (int R) ∧ Below w0.heap.size w0 w' := by
 rw [hostport_groups] at hm
 refine calls_enter (vs := [str x_s, .bool x_last]) Tryz.func180 rfl Tryz.ntmps180 rfl fun a hf => ?_
 have hF : Away [] := away_nil
 have hO : Dk.Own w0 [] w0 [] := Dk.Own.refl w0
 refine wp_seq_k fun _ hK1 => ?_
 refine wp_region_list ?_
 refine op_as hf rfl rfl fun a hf => ?_
 refine wpList_nil ?_
 refine nor_then (hK1 _ _ ?_)
 refine wp_seq_k fun _ hK5 => ?_
 refine wp_seq_k fun _ hK2 => ?_
 refine wp_region_list ?_
 refine op_mv hf rfl rfl fun a hf => ?_
 refine op_val (ex_eql_s (l := x_s) (m := []) hf rfl rfl) rfl hf rfl rfl fun a hf => ?_
 refine wpList_nil ?_
 refine nor_then (hK2 _ _ ?_)
 refine wp_cond_cut hf rfl (fun hc3 => ?_) (fun hc3 => ?_)
 have hm := it hc3 hm
 refine wp_seq_k fun _ hK4 => ?_
 refine wp_region_list ?_
 refine op_as hf rfl rfl fun a hf => ?_
 refine wpList_nil ?_
 refine nor_then (hK4 _ _ ?_)
 refine wp_ret ?_
 refine ret_then ?_
 obtain rfl := Option.some.inj hm
 exact post_ret Tryz.results180 hf (.tmp rfl .nil) ⟨rfl, hO.below⟩
 have hm := ie hc3 hm
 refine wp_skip ?_
 refine nor_then (hK5 _ _ ?_)
 refine wp_seq_k fun _ hK9 => ?_
 refine wp_region_list ?_
 refine op_mv hf rfl rfl fun a hf => ?_
 obtain ⟨r6, hr6, hm⟩ := ob hm
 refine op_enter (ex_call c_32 hf (vs := [str x_s, str [58]]) rfl) rfl hf rfl rfl (w_strings_Split x_s [58] r6 _ (hG.own hF hO).1 hr6) ?_
 rintro e w' ⟨p7, c8, he, hO'⟩
 refine ⟨_, he, fun a hf => ?_⟩
 have hO := hO.call hO' (by simp [Res.shared])
 refine op_as hf rfl rfl fun a hf => ?_
 refine wpList_nil ?_
 refine nor_then (hK9 _ _ ?_)
 refine wp_seq_k fun _ hK10 => ?_
 refine wp_region_list ?_
 refine op_as hf rfl rfl fun a hf => ?_
 refine wpList_nil ?_
 refine nor_then (hK10 _ _ ?_)
 refine wp_seq_k fun _ hK38 => ?_
 refine wp_seq_k fun _ hK11 => ?_
 refine wp_region_list ?_
 refine op_mv hf rfl rfl fun a hf => ?_
 refine op_val (ex_len_l Tryz.underlying61 hf rfl) rfl hf rfl rfl fun a hf => ?_
 refine op_mv hf rfl rfl fun a hf => ?_
 refine wpList_nil ?_
 refine nor_then (hK11 _ _ ?_)
 refine wp_block ?_
 refine wp_loop_n (fun k a w => ∃ (i12 : Int) (i13 : Int), Fits 53 [(1, .bool x_last), (5, .slice p7 r6.length c8), (6, int i12), (13, .slice p7 r6.length c8), (14, int (r6.length : Int)), (15, int i13)] a ∧ Dk.Own w0 [] w [.row (.slice p7 r6.length c8) 9 1 r6.length (cells enc_str r6)] ∧ hostport_groups_L1 x_last r6 k i12 i13 = some R) ?_ fuel ?_
 rintro n1 a w ⟨i12, i13, hf, hO, hm⟩
 obtain _ | n1 := n1
 rw [hostport_groups_L1] at hm
 cases hm
 rw [hostport_groups_L1] at hm
 refine wp_seq_k fun _ hK14 => ?_
 refine wp_region_list ?_
 refine op_val (ex_lss (m := i13) (n := (r6.length : Int)) hf rfl rfl) rfl hf rfl rfl fun a hf => ?_
 refine wpList_nil ?_
 refine nor_then (hK14 _ _ ?_)
 refine wp_seq_k fun _ hK16 => ?_
 refine wp_cond_cut hf rfl (fun hc15 => ?_) (fun hc15 => ?_)
 have hm := it hc15 hm
 refine wp_skip ?_
 refine nor_then (hK16 _ _ ?_)
 refine wp_seq_cut (fun a w => ∃ (i36 : Int), Fits 53 [(1, .bool x_last), (5, .slice p7 r6.length c8), (6, int i36), (13, .slice p7 r6.length c8), (14, int (r6.length : Int)), (15, int i13)] a ∧ Dk.Own w0 [] w [.row (.slice p7 r6.length c8) 9 1 r6.length (cells enc_str r6)] ∧ hostport_groups_j4 (hostport_groups_L1 x_last r6 n1) i13 i36 = some R) ?_ ?_
 refine wp_block ?_
 refine wp_seq_k fun _ hK20 => ?_
 refine wp_region_list ?_
 refine op_mv hf rfl rfl fun a hf => ?_
 obtain ⟨x17, hx17, hm⟩ := ob hm
 obtain ⟨b18, o19, hix17, hSx17, hAx17⟩ := elemAtRow (enc := enc_str) (sz := 1) (xs := r6) 61 Tryz.underlying61 sz_9 (by decide) (fun _ => rfl) hO (i := 0) rfl hx17
 refine op_val (ex_indexAddr hix17 hf rfl rfl) rfl hf rfl rfl fun a hf => ?_
 refine op_val (ex_load1 (o := 0) ag_9 (hSx17 _ (hO.rowSees (i := 0) rfl)) rfl hf rfl) rfl hf rfl rfl fun a hf => ?_
 refine op_as hf rfl rfl fun a hf => ?_
 refine op_as hf rfl rfl fun a hf => ?_
 refine wpList_nil ?_
 refine nor_then (hK20 _ _ ?_)
 refine wp_block ?_
 refine wp_seq_cut (fun a w => ∃ (t25 : Bool), Fits 53 [(1, .bool x_last), (5, .slice p7 r6.length c8), (6, int i12), (8, str x17), (13, .slice p7 r6.length c8), (14, int (r6.length : Int)), (15, int i13), (20, .bool t25)] a ∧ Dk.Own w0 [] w [.row (.slice p7 r6.length c8) 9 1 r6.length (cells enc_str r6)] ∧ hostport_groups_j2 (hostport_groups_L1 x_last r6 n1) i12 i13 x17 t25 = some R) ?_ ?_
 refine wp_region_list ?_
 refine op_mv hf rfl rfl fun a hf => ?_
 refine op_mv hf rfl rfl fun a hf => ?_
 rcases bcase (x_last) with hc21 | hc21
 have hm := it hc21 hm
 refine op_guard rfl hf rfl rfl (hc21) ?_
 refine op_mv hf rfl rfl fun a hf => ?_
 refine op_guard rfl hf rfl rfl (hc21) ?_
 refine op_mv hf rfl rfl fun a hf => ?_
 refine op_guard rfl hf rfl rfl (hc21) ?_
 refine op_val (ex_len_l Tryz.underlying61 hf rfl) rfl hf rfl rfl fun a hf => ?_
 refine op_guard rfl hf rfl rfl (hc21) ?_
 obtain ⟨i22, hi22, hm⟩ := ob hm
 refine op_val (ex_sub hf rfl rfl hi22) rfl hf rfl rfl fun a hf => ?_
 refine op_guard rfl hf rfl rfl (hc21) ?_
 refine op_val (ex_eql (m := i13) (n := i22) hf rfl rfl) rfl hf rfl rfl fun a hf => ?_
 refine op_val (ex_pick_t hf rfl hc21 rfl) rfl hf rfl rfl fun a hf => ?_
 refine op_mv hf rfl rfl fun a hf => ?_
 rcases bcase (i13 == i22) with hc23 | hc23
 have hm := it hc23 hm
 refine op_guard rfl hf rfl rfl (hc23) ?_
 refine op_mv hf rfl rfl fun a hf => ?_
 refine op_guard rfl hf rfl rfl (hc23) ?_
 obtain ⟨r24, hr24, hm⟩ := ob hm
 refine op_enter (ex_call c_164 hf (vs := [str x17]) rfl) rfl hf rfl rfl (w_hostport_Four x17 r24 _ (hG.own hF hO) hr24) ?_
 rintro e w' ⟨he, hb⟩
 refine ⟨_, he, fun a hf => ?_⟩
 have hO := hO.grow hb
 refine op_val (ex_pick_t hf rfl hc23 rfl) rfl hf rfl rfl fun a hf => ?_
 refine op_as hf rfl rfl fun a hf => ?_
 refine wpList_nil ?_
 refine nor_then ?_
 exact ⟨r24, (hf.cons rfl (hf.cons rfl (hf.cons rfl (hf.cons rfl (hf.cons rfl (hf.cons rfl (hf.cons rfl (hf.cons rfl hf.nil)))))))), hO, hm⟩
 have hm := ie hc23 hm
 refine op_pass rfl hf rfl rfl (hc23) rfl rfl fun a hf => ?_
 refine op_pass rfl hf rfl rfl (hc23) rfl rfl fun a hf => ?_
 refine op_val (ex_pick_f hf rfl hc23 rfl) rfl hf rfl rfl fun a hf => ?_
 refine op_as hf rfl rfl fun a hf => ?_
 refine wpList_nil ?_
 refine nor_then ?_
 exact ⟨false, (hf.cons rfl (hf.cons rfl (hf.cons rfl (hf.cons rfl (hf.cons rfl (hf.cons rfl (hf.cons rfl (hf.cons rfl hf.nil)))))))), hO, hm⟩
 have hm := ie hc21 hm
 refine op_pass rfl hf rfl rfl (hc21) rfl rfl fun a hf => ?_
 refine op_pass rfl hf rfl rfl (hc21) rfl rfl fun a hf => ?_
 refine op_pass rfl hf rfl rfl (hc21) rfl rfl fun a hf => ?_
 refine op_pass rfl hf rfl rfl (hc21) rfl rfl fun a hf => ?_
 refine op_pass rfl hf rfl rfl (hc21) rfl rfl fun a hf => ?_
 refine op_val (ex_pick_f hf rfl hc21 rfl) rfl hf rfl rfl fun a hf => ?_
 refine op_mv hf rfl rfl fun a hf => ?_
 refine op_pass rfl hf rfl rfl (rfl) rfl rfl fun a hf => ?_
 refine op_pass rfl hf rfl rfl (rfl) rfl rfl fun a hf => ?_
 refine op_val (ex_pick_f hf rfl rfl rfl) rfl hf rfl rfl fun a hf => ?_
 refine op_as hf rfl rfl fun a hf => ?_
 refine wpList_nil ?_
 refine nor_then ?_
 exact ⟨false, (hf.cons rfl (hf.cons rfl (hf.cons rfl (hf.cons rfl (hf.cons rfl (hf.cons rfl (hf.cons rfl (hf.cons rfl hf.nil)))))))), hO, hm⟩
 rintro a w ⟨t25, hf, hO, hm⟩
 rw [hostport_groups_j2] at hm
 refine wp_cond_cut hf rfl (fun hc26 => ?_) (fun hc26 => ?_)
 have hm := it hc26 hm
 refine wp_region_list ?_
 refine op_mv hf rfl rfl fun a hf => ?_
 obtain ⟨i27, hi27, hm⟩ := ob hm
 refine op_val (ex_add hf rfl rfl hi27) rfl hf rfl rfl fun a hf => ?_
 refine op_as hf rfl rfl fun a hf => ?_
 refine wpList_nil ?_
 refine nor_block ?_
 refine nor_block ?_
 refine nor_then ?_
 exact ⟨i27, (hf.cons rfl (hf.cons rfl (hf.cons rfl (hf.cons rfl (hf.cons rfl (hf.cons rfl hf.nil)))))), hO, hm⟩
 have hm := ie hc26 hm
 refine wp_seq_cut (fun a w => ∃ (t32 : Bool), Fits 53 [(1, .bool x_last), (5, .slice p7 r6.length c8), (6, int i12), (13, .slice p7 r6.length c8), (14, int (r6.length : Int)), (15, int i13), (35, .bool t32)] a ∧ Dk.Own w0 [] w [.row (.slice p7 r6.length c8) 9 1 r6.length (cells enc_str r6)] ∧ hostport_groups_j3 (hostport_groups_L1 x_last r6 n1) i12 i13 t32 = some R) ?_ ?_
 refine wp_region_list ?_
 refine op_mv hf rfl rfl fun a hf => ?_
 refine op_val (ex_len_s (l := x17) Tryz.underlying9 hf rfl) rfl hf rfl rfl fun a hf => ?_
 refine op_val (ex_geq (m := (x17.length : Int)) (n := 1) hf rfl rfl) rfl hf rfl rfl fun a hf => ?_
 refine op_mv hf rfl rfl fun a hf => ?_
 rcases bcase (decide (1 ≤ (x17.length : Int))) with hc28 | hc28
 have hm := it hc28 hm
 refine op_guard rfl hf rfl rfl (hc28) ?_
 refine op_mv hf rfl rfl fun a hf => ?_
 refine op_guard rfl hf rfl rfl (hc28) ?_
 refine op_val (ex_len_s (l := x17) Tryz.underlying9 hf rfl) rfl hf rfl rfl fun a hf => ?_
 refine op_guard rfl hf rfl rfl (hc28) ?_
 refine op_val (ex_leq (m := (x17.length : Int)) (n := 4) hf rfl rfl) rfl hf rfl rfl fun a hf => ?_
 refine op_val (ex_pick_t hf rfl hc28 rfl) rfl hf rfl rfl fun a hf => ?_
 refine op_mv hf rfl rfl fun a hf => ?_
 rcases bcase (decide ((x17.length : Int) ≤ 4)) with hc29 | hc29
 have hm := it hc29 hm
 refine op_guard rfl hf rfl rfl (hc29) ?_
 refine op_mv hf rfl rfl fun a hf => ?_
 refine op_guard rfl hf rfl rfl (hc29) ?_
 refine op_buildSlice (vs := [(0, str x17)]) (cs := [str x17]) (e := 9) (sz := 1) hf rfl rfl (fun w => by kernel_rfl) rfl rfl hO fun a b30 w hf hO => ?_
 refine op_guard rfl hf rfl rfl (hc29) ?_
 obtain ⟨r31, hr31, hm⟩ := ob hm
 refine op_enter (ex_call c_50 hf (vs := [.func (.func 192) #[] #[], .slice (some ⟨b30, 0, none⟩) (([x17] : List Str).length) 1]) rfl) rfl hf rfl rfl (w_octet_All octet_IsHex ([x17] : List Str) r31 _ (hG.own hF hO).1 c_192 (fun y0 r w hG h => callsE (w_octet_IsHex y0 r w hG h)) (hO.rowSees (i := 0) rfl) (hO.rowCap (i := 0) rfl) hr31) ?_
 rintro e w' ⟨he, hb⟩
 refine ⟨_, he, fun a hf => ?_⟩
 have hO := hO.grow hb
 refine op_val (ex_pick_t hf rfl hc29 rfl) rfl hf rfl rfl fun a hf => ?_
 refine op_as hf rfl rfl fun a hf => ?_
 refine wpList_nil ?_
 refine nor_then ?_
 exact ⟨r31, (hf.cons rfl (hf.cons rfl (hf.cons rfl (hf.cons rfl (hf.cons rfl (hf.cons rfl (hf.cons rfl hf.nil))))))), (hO.sub (.cons _ (.cons_cons _ .slnil))), hm⟩
 have hm := ie hc29 hm
 refine op_pass rfl hf rfl rfl (hc29) rfl rfl fun a hf => ?_
 refine op_pass rfl hf rfl rfl (hc29) rfl rfl fun a hf => ?_
 refine op_pass rfl hf rfl rfl (hc29) rfl rfl fun a hf => ?_
 refine op_val (ex_pick_f hf rfl hc29 rfl) rfl hf rfl rfl fun a hf => ?_
 refine op_as hf rfl rfl fun a hf => ?_
 refine wpList_nil ?_
 refine nor_then ?_
 exact ⟨false, (hf.cons rfl (hf.cons rfl (hf.cons rfl (hf.cons rfl (hf.cons rfl (hf.cons rfl (hf.cons rfl hf.nil))))))), hO, hm⟩
 have hm := ie hc28 hm
 refine op_pass rfl hf rfl rfl (hc28) rfl rfl fun a hf => ?_
 refine op_pass rfl hf rfl rfl (hc28) rfl rfl fun a hf => ?_
 refine op_pass rfl hf rfl rfl (hc28) rfl rfl fun a hf => ?_
 refine op_val (ex_pick_f hf rfl hc28 rfl) rfl hf rfl rfl fun a hf => ?_
 refine op_mv hf rfl rfl fun a hf => ?_
 refine op_pass rfl hf rfl rfl (rfl) rfl rfl fun a hf => ?_
 refine op_pass rfl hf rfl rfl (rfl) rfl rfl fun a hf => ?_
 refine op_pass rfl hf rfl rfl (rfl) rfl rfl fun a hf => ?_
 refine op_val (ex_pick_f hf rfl rfl rfl) rfl hf rfl rfl fun a hf => ?_
 refine op_as hf rfl rfl fun a hf => ?_
 refine wpList_nil ?_
 refine nor_then ?_
 exact ⟨false, (hf.cons rfl (hf.cons rfl (hf.cons rfl (hf.cons rfl (hf.cons rfl (hf.cons rfl (hf.cons rfl hf.nil))))))), hO, hm⟩
 rintro a w ⟨t32, hf, hO, hm⟩
 rw [hostport_groups_j3] at hm
 refine wp_cond_cut hf rfl (fun hc33 => ?_) (fun hc33 => ?_)
 have hm := it hc33 hm
 refine wp_region_list ?_
 refine op_mv hf rfl rfl fun a hf => ?_
 obtain ⟨i34, hi34, hm⟩ := ob hm
 refine op_val (ex_add hf rfl rfl hi34) rfl hf rfl rfl fun a hf => ?_
 refine op_as hf rfl rfl fun a hf => ?_
 refine wpList_nil ?_
 refine nor_block ?_
 refine nor_block ?_
 refine nor_then ?_
 exact ⟨i34, (hf.cons rfl (hf.cons rfl (hf.cons rfl (hf.cons rfl (hf.cons rfl (hf.cons rfl hf.nil)))))), hO, hm⟩
 have hm := ie hc33 hm
 refine wp_seq_k fun _ hK35 => ?_
 refine wp_region_list ?_
 refine op_as hf rfl rfl fun a hf => ?_
 refine wpList_nil ?_
 refine nor_then (hK35 _ _ ?_)
 refine wp_ret ?_
 refine ret_block ?_
 refine ret_block ?_
 refine ret_then ?_
 refine ret_then ?_
 refine ret_block ?_
 refine ret_then ?_
 obtain rfl := Option.some.inj hm
 exact post_ret Tryz.results180 hf (.tmp rfl .nil) ⟨rfl, hO.below⟩
 rintro a w ⟨i36, hf, hO, hm⟩
 rw [hostport_groups_j4] at hm
 refine wp_region_list ?_
 obtain ⟨i37, hi37, hm⟩ := ob hm
 refine op_val (ex_add hf rfl rfl hi37) rfl hf rfl rfl fun a hf => ?_
 refine op_mv hf rfl rfl fun a hf => ?_
 refine wpList_nil ?_
 refine nor_then ?_
 exact ⟨_, Nat.lt_succ_self _, i36, i37, (hf.cons rfl (hf.cons rfl (hf.cons rfl (hf.cons rfl (hf.cons rfl (hf.cons rfl hf.nil)))))), hO, hm⟩
 have hm := ie hc15 hm
 refine wp_exit ?_
 refine exit_then ?_
 refine exit_then ?_
 refine exit_here ?_
 refine nor_then (hK38 _ _ ?_)
 refine wp_seq_k fun _ hK39 => ?_
 refine wp_region_list ?_
 refine op_mv hf rfl rfl fun a hf => ?_
 refine op_as hf rfl rfl fun a hf => ?_
 refine wpList_nil ?_
 refine nor_then (hK39 _ _ ?_)
 refine wp_ret ?_
 obtain rfl := Option.some.inj hm
 exact post_ret Tryz.results180 hf (.tmp rfl .nil) ⟨rfl, hO.below⟩
 exact ⟨0, 0, (hf.cons rfl (hf.cons rfl (hf.cons rfl (hf.cons rfl (hf.cons rfl (hf.cons rfl hf.nil)))))), hO, hm⟩

set_option maxHeartbeats 1000000 in
theorem w_hostport_Six (x_s : Str) (R : Bool) (w0 : World) (hG : GlobT w0) (hm : hostport_Six x_s = some R) :
    Calls Tryz.prog 163 #[str x_s] w0 fun e w' => e = .returned (.bool R) ∧ Below w0.heap.size w0 w' := by
 rw [hostport_Six] at hm
 refine calls_enter (vs := [str x_s]) Tryz.func163 rfl Tryz.ntmps163 rfl fun a hf => ?_
 have hF : Away [] := away_nil
 have hO : Dk.Own w0 [] w0 [] := Dk.Own.refl w0
 refine wp_seq_k fun _ hK1 => ?_
 refine wp_region_list ?_
 refine op_as hf rfl rfl fun a hf => ?_
 refine wpList_nil ?_
 refine nor_then (hK1 _ _ ?_)
 refine wp_seq_k fun _ hK3 => ?_
 refine wp_region_list ?_
 refine op_mv hf rfl rfl fun a hf => ?_
 obtain ⟨r2, hr2, hm⟩ := ob hm
 refine op_enter (ex_call c_99 hf (vs := [str x_s, str [58, 58]]) rfl) rfl hf rfl rfl (w_strings_Cut x_s [58, 58] r2 _ (hG.own hF hO).1 hr2) ?_
 rintro e w' ⟨he, hb⟩
 refine ⟨_, he, fun a hf => ?_⟩
 have hO := hO.grow hb
 refine op_mv hf rfl rfl fun a hf => ?_
 refine op_val (ex_extract hf rfl rfl) rfl hf rfl rfl fun a hf => ?_
 refine op_val (ex_extract hf rfl rfl) rfl hf rfl rfl fun a hf => ?_
 refine op_val (ex_extract hf rfl rfl) rfl hf rfl rfl fun a hf => ?_
 refine op_as hf rfl rfl fun a hf => ?_
 refine op_as hf rfl rfl fun a hf => ?_
 refine op_as hf rfl rfl fun a hf => ?_
 refine wpList_nil ?_
 refine nor_then (hK3 _ _ ?_)
 refine wp_seq_k fun _ hK8 => ?_
 refine wp_seq_k fun _ hK4 => ?_
 refine wp_region_list ?_
 refine op_mv hf rfl rfl fun a hf => ?_
 refine op_val (ex_not hf rfl) rfl hf rfl rfl fun a hf => ?_
 refine wpList_nil ?_
 refine nor_then (hK4 _ _ ?_)
 refine wp_cond_cut hf rfl (fun hc5 => ?_) (fun hc5 => ?_)
 have hm := it hc5 hm
 refine wp_seq_k fun _ hK7 => ?_
 refine wp_region_list ?_
 refine op_mv hf rfl rfl fun a hf => ?_
 obtain ⟨r6, hr6, hm⟩ := ob hm
 refine op_enter (ex_call c_180 hf (vs := [str x_s, .bool true]) rfl) rfl hf rfl rfl (w_hostport_groups x_s true r6 _ (hG.own hF hO) hr6) ?_
 rintro e w' ⟨he, hb⟩
 refine ⟨_, he, fun a hf => ?_⟩
 have hO := hO.grow hb
 refine op_val (ex_eql (m := r6) (n := 8) hf rfl rfl) rfl hf rfl rfl fun a hf => ?_
 refine op_as hf rfl rfl fun a hf => ?_
 refine wpList_nil ?_
 refine nor_then (hK7 _ _ ?_)
 refine wp_ret ?_
 refine ret_then ?_
 obtain rfl := Option.some.inj hm
 exact post_ret Tryz.results163 hf (.tmp rfl .nil) ⟨rfl, hO.below⟩
 have hm := ie hc5 hm
 refine wp_skip ?_
 refine nor_then (hK8 _ _ ?_)
 refine wp_seq_k fun _ hK11 => ?_
 refine wp_region_list ?_
 refine op_mv hf rfl rfl fun a hf => ?_
 obtain ⟨r9, hr9, hm⟩ := ob hm
 refine op_enter (ex_call c_180 hf (vs := [str r2.1, .bool false]) rfl) rfl hf rfl rfl (w_hostport_groups r2.1 false r9 _ (hG.own hF hO) hr9) ?_
 rintro e w' ⟨he, hb⟩
 refine ⟨_, he, fun a hf => ?_⟩
 have hO := hO.grow hb
 refine op_mv hf rfl rfl fun a hf => ?_
 obtain ⟨r10, hr10, hm⟩ := ob hm
 refine op_enter (ex_call c_180 hf (vs := [str r2.2.1, .bool true]) rfl) rfl hf rfl rfl (w_hostport_groups r2.2.1 true r10 _ (hG.own hF hO) hr10) ?_
 rintro e w' ⟨he, hb⟩
 refine ⟨_, he, fun a hf => ?_⟩
 have hO := hO.grow hb
 refine op_as hf rfl rfl fun a hf => ?_
 refine op_as hf rfl rfl fun a hf => ?_
 refine wpList_nil ?_
 refine nor_then (hK11 _ _ ?_)
 refine wp_seq_cut (fun a w => ∃ (t15 : Bool), Fits 35 [(2, .bool t15)] a ∧ Dk.Own w0 [] w [] ∧ hostport_Six_j1 t15 = some R) ?_ ?_
 refine wp_region_list ?_
 refine op_mv hf rfl rfl fun a hf => ?_
 refine op_val (ex_geq (m := r9) (n := 0) hf rfl rfl) rfl hf rfl rfl fun a hf => ?_
 refine op_mv hf rfl rfl fun a hf => ?_
 rcases bcase (decide (0 ≤ r9)) with hc12 | hc12
 have hm := it hc12 hm
 refine op_guard rfl hf rfl rfl (hc12) ?_
 refine op_mv hf rfl rfl fun a hf => ?_
 refine op_guard rfl hf rfl rfl (hc12) ?_
 refine op_val (ex_geq (m := r10) (n := 0) hf rfl rfl) rfl hf rfl rfl fun a hf => ?_
 refine op_val (ex_pick_t hf rfl hc12 rfl) rfl hf rfl rfl fun a hf => ?_
 refine op_mv hf rfl rfl fun a hf => ?_
 rcases bcase (decide (0 ≤ r10)) with hc13 | hc13
 have hm := it hc13 hm
 refine op_guard rfl hf rfl rfl (hc13) ?_
 refine op_mv hf rfl rfl fun a hf => ?_
 refine op_guard rfl hf rfl rfl (hc13) ?_
 refine op_mv hf rfl rfl fun a hf => ?_
 refine op_guard rfl hf rfl rfl (hc13) ?_
 obtain ⟨i14, hi14, hm⟩ := ob hm
 refine op_val (ex_add hf rfl rfl hi14) rfl hf rfl rfl fun a hf => ?_
 refine op_guard rfl hf rfl rfl (hc13) ?_
 refine op_val (ex_leq (m := i14) (n := 7) hf rfl rfl) rfl hf rfl rfl fun a hf => ?_
 refine op_val (ex_pick_t hf rfl hc13 rfl) rfl hf rfl rfl fun a hf => ?_
 refine op_as hf rfl rfl fun a hf => ?_
 refine wpList_nil ?_
 refine nor_then ?_
 exact ⟨decide (i14 ≤ 7), (hf.cons rfl hf.nil), hO, hm⟩
 have hm := ie hc13 hm
 refine op_pass rfl hf rfl rfl (hc13) rfl rfl fun a hf => ?_
 refine op_pass rfl hf rfl rfl (hc13) rfl rfl fun a hf => ?_
 refine op_pass rfl hf rfl rfl (hc13) rfl rfl fun a hf => ?_
 refine op_pass rfl hf rfl rfl (hc13) rfl rfl fun a hf => ?_
 refine op_val (ex_pick_f hf rfl hc13 rfl) rfl hf rfl rfl fun a hf => ?_
 refine op_as hf rfl rfl fun a hf => ?_
 refine wpList_nil ?_
 refine nor_then ?_
 exact ⟨false, (hf.cons rfl hf.nil), hO, hm⟩
 have hm := ie hc12 hm
 refine op_pass rfl hf rfl rfl (hc12) rfl rfl fun a hf => ?_
 refine op_pass rfl hf rfl rfl (hc12) rfl rfl fun a hf => ?_
 refine op_val (ex_pick_f hf rfl hc12 rfl) rfl hf rfl rfl fun a hf => ?_
 refine op_mv hf rfl rfl fun a hf => ?_
 refine op_pass rfl hf rfl rfl (rfl) rfl rfl fun a hf => ?_
 refine op_pass rfl hf rfl rfl (rfl) rfl rfl fun a hf => ?_
 refine op_pass rfl hf rfl rfl (rfl) rfl rfl fun a hf => ?_
 refine op_pass rfl hf rfl rfl (rfl) rfl rfl fun a hf => ?_
 refine op_val (ex_pick_f hf rfl rfl rfl) rfl hf rfl rfl fun a hf => ?_
 refine op_as hf rfl rfl fun a hf => ?_
 refine wpList_nil ?_
 refine nor_then ?_
 exact ⟨false, (hf.cons rfl hf.nil), hO, hm⟩
 rintro a w ⟨t15, hf, hO, hm⟩
 rw [hostport_Six_j1] at hm
 refine wp_ret ?_
 obtain rfl := Option.some.inj hm
 exact post_ret Tryz.results163 hf (.tmp rfl .nil) ⟨rfl, hO.below⟩

set_option maxHeartbeats 1000000 in
theorem w_hostport_percent (x_s : Str) (R : Bool) (w0 : World) (hG : Glob w0) (hm : hostport_percent x_s = some R) :
    Calls Tryz.prog 182 #[str x_s] w0 fun e w' => e = .returned (.bool R) ∧ Below w0.heap.size w0 w' := by
 rw [hostport_percent] at hm
 refine calls_enter (vs := [str x_s]) Tryz.func182 rfl Tryz.ntmps182 rfl fun a hf => ?_
 have hF : Away [] := away_nil
 have hO : Dk.Own w0 [] w0 [] := Dk.Own.refl w0
 refine wp_seq_k fun _ hK1 => ?_
 refine wp_region_list ?_
 refine op_as hf rfl rfl fun a hf => ?_
 refine wpList_nil ?_
 refine nor_then (hK1 _ _ ?_)
 refine wp_seq_cut (fun a w => ∃ (t8 : Bool), Fits 17 [(2, .bool t8)] a ∧ Dk.Own w0 [] w [] ∧ hostport_percent_j1 t8 = some R) ?_ ?_
 refine wp_region_list ?_
 refine op_mv hf rfl rfl fun a hf => ?_
 refine op_val (ex_len_s (l := x_s) Tryz.underlying9 hf rfl) rfl hf rfl rfl fun a hf => ?_
 refine op_val (ex_geq (m := (x_s.length : Int)) (n := 3) hf rfl rfl) rfl hf rfl rfl fun a hf => ?_
 refine op_mv hf rfl rfl fun a hf => ?_
 rcases bcase (decide (3 ≤ (x_s.length : Int))) with hc2 | hc2
 have hm := it hc2 hm
 refine op_guard rfl hf rfl rfl (hc2) ?_
 refine op_mv hf rfl rfl fun a hf => ?_
 refine op_guard rfl hf rfl rfl (hc2) ?_
 obtain ⟨b3, hb3, hm⟩ := ob hm
 refine op_val (ex_index (l := x_s) Tryz.underlying9 hf rfl rfl hb3) rfl hf rfl rfl fun a hf => ?_
 refine op_guard rfl hf rfl rfl (hc2) ?_
 refine op_val (ex_eql_b (b := b3) (c := 37) hf rfl rfl) rfl hf rfl rfl fun a hf => ?_
 refine op_val (ex_pick_t hf rfl hc2 rfl) rfl hf rfl rfl fun a hf => ?_
 refine op_mv hf rfl rfl fun a hf => ?_
 rcases bcase (b3 == 37) with hc4 | hc4
 have hm := it hc4 hm
 refine op_guard rfl hf rfl rfl (hc4) ?_
 refine op_mv hf rfl rfl fun a hf => ?_
 refine op_guard rfl hf rfl rfl (hc4) ?_
 obtain ⟨s5, hs5, hm⟩ := ob hm
 refine op_val (ex_sub_s (l := x_s) Tryz.underlying9 hf rfl rfl rfl hs5) rfl hf rfl rfl fun a hf => ?_
 refine op_guard rfl hf rfl rfl (hc4) ?_
 refine op_buildSlice (vs := [(0, str s5)]) (cs := [str s5]) (e := 9) (sz := 1) hf rfl rfl (fun w => by kernel_rfl) rfl rfl hO fun a b6 w hf hO => ?_
 refine op_guard rfl hf rfl rfl (hc4) ?_
 obtain ⟨r7, hr7, hm⟩ := ob hm
 refine op_enter (ex_call c_50 hf (vs := [.func (.func 192) #[] #[], .slice (some ⟨b6, 0, none⟩) (([s5] : List Str).length) 1]) rfl) rfl hf rfl rfl (w_octet_All octet_IsHex ([s5] : List Str) r7 _ (hG.own hF hO) c_192 (fun y0 r w hG h => callsE (w_octet_IsHex y0 r w hG h)) (hO.rowSees (i := 0) rfl) (hO.rowCap (i := 0) rfl) hr7) ?_
 rintro e w' ⟨he, hb⟩
 refine ⟨_, he, fun a hf => ?_⟩
 have hO := hO.grow hb
 refine op_val (ex_pick_t hf rfl hc4 rfl) rfl hf rfl rfl fun a hf => ?_
 refine op_as hf rfl rfl fun a hf => ?_
 refine wpList_nil ?_
 refine nor_then ?_
 exact ⟨r7, (hf.cons rfl hf.nil), (hO.sub (.cons _ .slnil)), hm⟩
 have hm := ie hc4 hm
 refine op_pass rfl hf rfl rfl (hc4) rfl rfl fun a hf => ?_
 refine op_pass rfl hf rfl rfl (hc4) rfl rfl fun a hf => ?_
 refine op_pass rfl hf rfl rfl (hc4) rfl rfl fun a hf => ?_
 refine op_pass rfl hf rfl rfl (hc4) rfl rfl fun a hf => ?_
 refine op_val (ex_pick_f hf rfl hc4 rfl) rfl hf rfl rfl fun a hf => ?_
 refine op_as hf rfl rfl fun a hf => ?_
 refine wpList_nil ?_
 refine nor_then ?_
 exact ⟨false, (hf.cons rfl hf.nil), hO, hm⟩
 have hm := ie hc2 hm
 refine op_pass rfl hf rfl rfl (hc2) rfl rfl fun a hf => ?_
 refine op_pass rfl hf rfl rfl (hc2) rfl rfl fun a hf => ?_
 refine op_pass rfl hf rfl rfl (hc2) rfl rfl fun a hf => ?_
 refine op_val (ex_pick_f hf rfl hc2 rfl) rfl hf rfl rfl fun a hf => ?_
 refine op_mv hf rfl rfl fun a hf => ?_
 refine op_pass rfl hf rfl rfl (rfl) rfl rfl fun a hf => ?_
 refine op_pass rfl hf rfl rfl (rfl) rfl rfl fun a hf => ?_
 refine op_pass rfl hf rfl rfl (rfl) rfl rfl fun a hf => ?_
 refine op_pass rfl hf rfl rfl (rfl) rfl rfl fun a hf => ?_
 refine op_val (ex_pick_f hf rfl rfl rfl) rfl hf rfl rfl fun a hf => ?_
 refine op_as hf rfl rfl fun a hf => ?_
 refine wpList_nil ?_
 refine nor_then ?_
 exact ⟨false, (hf.cons rfl hf.nil), hO, hm⟩
 rintro a w ⟨t8, hf, hO, hm⟩
 rw [hostport_percent_j1] at hm
 refine wp_ret ?_
 obtain rfl := Option.some.inj hm
 exact post_ret Tryz.results182 hf (.tmp rfl .nil) ⟨rfl, hO.below⟩

end Go.Proofs
