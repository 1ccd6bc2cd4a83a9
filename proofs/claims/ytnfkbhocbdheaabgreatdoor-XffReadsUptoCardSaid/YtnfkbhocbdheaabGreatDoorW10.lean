/-
  Walks, written by a program (wip/gen): what its model says, the function returns; what was there before is as it was.
-/
import Derived.Test.YtnfkbhocbdheaabGreatDoorLib
import Derived.Test.YtnfkbhocbdheaabGreatDoorW6
import Derived.Test.YtnfkbhocbdheaabGreatDoorW7
import Derived.Test.YtnfkbhocbdheaabGreatDoorW9
set_option linter.unusedVariables false
set_option linter.unusedSimpArgs false
set_option maxRecDepth 100000
namespace Go.Proofs
open Go.Dk Go.Dm Go.RowKit

set_option maxHeartbeats 1000000 in
theorem w_xff_Append (x_client : Str) (x_l : List api_Field) (R : List api_Field) (w0 : World) (hG : GlobT w0) {x_l_p0 : Option Addr} {x_l_c0 : Nat} (hs0 : Sees w0 x_l_p0 (cells enc_api_Field x_l)) (hc0 : x_l.length ≤ x_l_c0) (hm : xff_Append x_client x_l = some R) :
    Calls Tryz.prog 46 #[str x_client, .slice x_l_p0 x_l.length x_l_c0] w0 fun e w' => ∃ (p0 : Option Addr) (c0 : Nat), e = .returned (.slice p0 R.length c0) ∧ Dk.Own w0 [] w' [.row (.slice p0 R.length c0) 86 2 R.length (cells enc_api_Field R)] := by
 rw [xff_Append] at hm
 refine calls_enter (vs := [str x_client, .slice x_l_p0 x_l.length x_l_c0]) Tryz.func46 rfl Tryz.ntmps46 rfl fun a hf => ?_
 have hF : Away [] := away_nil
 have hO : Dk.Own w0 [] w0 [] := Dk.Own.refl w0
 have hO := hO.addShr hs0 (by simp [Res.shared])
 refine wp_seq_k fun _ hK1 => ?_
 refine wp_region_list ?_
 have hO := hO.nilRow 86 2
 refine op_as hf rfl rfl fun a hf => ?_
 refine wpList_nil ?_
 refine nor_then (hK1 _ _ ?_)
 refine wp_seq_cut (fun a w => ∃ (s5 : Str), Fits 16 [(0, str s5), (1, .slice x_l_p0 x_l.length x_l_c0)] a ∧ Dk.Own w0 [] w [.row (.slice none 0 0) 86 2 0 (cells enc_api_Field []), .shr x_l_p0 (cells enc_api_Field x_l)] ∧ xff_Append_j1 x_l s5 = some R) ?_ ?_
 refine wp_seq_k fun _ hK3 => ?_
 refine wp_region_list ?_
 refine op_mv hf rfl rfl fun a hf => ?_
 obtain ⟨r2, hr2, hm⟩ := ob hm
 refine op_enter (ex_call c_51 hf (vs := [str x_client]) rfl) rfl hf rfl rfl (w_xff_bare x_client r2 _ (hG.own hF hO) hr2) ?_
 rintro e w' ⟨he, hb⟩
 refine ⟨_, he, fun a hf => ?_⟩
 have hO := hO.grow hb
 refine op_val (ex_not hf rfl) rfl hf rfl rfl fun a hf => ?_
 refine wpList_nil ?_
 refine nor_then (hK3 _ _ ?_)
 refine wp_cond_cut hf rfl (fun hc4 => ?_) (fun hc4 => ?_)
 have hm := it hc4 hm
 refine wp_region_list ?_
 refine op_as hf rfl rfl fun a hf => ?_
 refine wpList_nil ?_
 refine nor_then ?_
 exact ⟨[117, 110, 107, 110, 111, 119, 110], (hf.cons rfl (hf.cons rfl hf.nil)), hO, hm⟩
 have hm := ie hc4 hm
 refine wp_skip ?_
 refine nor_then ?_
 exact ⟨x_client, (hf.cons rfl (hf.cons rfl hf.nil)), hO, hm⟩
 rintro a w ⟨s5, hf, hO, hm⟩
 rw [xff_Append_j1] at hm
 refine wp_seq_k fun _ hK10 => ?_
 refine wp_region_list ?_
 refine op_mv hf rfl rfl fun a hf => ?_
 obtain ⟨r6, hr6, hm⟩ := ob hm
 refine op_enter (ex_call c_93 hf (vs := [.slice x_l_p0 x_l.length x_l_c0]) rfl) rfl hf rfl rfl (w_bag_New x_l r6 _ (hG.own hF hO).1 (hO.sees (i := 1) rfl) hc0 hr6) ?_
 rintro e w' ⟨b7, p8, c9, he, hO'⟩
 refine ⟨_, he, fun a hf => ?_⟩
 have hO := hO.call hO' (by simp [Res.shared])
 refine op_as hf rfl rfl fun a hf => ?_
 refine wpList_nil ?_
 refine nor_then (hK10 _ _ ?_)
 refine wp_seq_k fun _ hK14 => ?_
 refine wp_region_list ?_
 refine op_mv hf rfl rfl fun a hf => ?_
 refine op_mv hf rfl rfl fun a hf => ?_
 obtain ⟨r11, hr11, hm⟩ := ob hm
 refine op_enter (ex_call c_94 hf (vs := [ptr b7 0, str [88, 45, 70, 111, 114, 119, 97, 114, 100, 101, 100, 45, 70, 111, 114], str s5]) rfl) rfl hf rfl rfl (w_bag_Bag_Behind r6 [88, 45, 70, 111, 114, 119, 97, 114, 100, 101, 100, 45, 70, 111, 114] s5 r11 _ (hG.own hF hO).1 (Dk.Own.far (show Dk.Own w0 [] _ ([.blk b7 [.slice p8 r6.f_l.length c9] 170, .row (.slice p8 r6.f_l.length c9) 86 2 r6.f_l.length (cells enc_api_Field r6.f_l)] ++ [.row (.slice none 0 0) 86 2 0 (cells enc_api_Field []), .shr x_l_p0 (cells enc_api_Field x_l)]) from hO) rfl hF hG.size) ((show Dk.Own w0 [] _ ([.blk b7 [.slice p8 r6.f_l.length c9] 170, .row (.slice p8 r6.f_l.length c9) 86 2 r6.f_l.length (cells enc_api_Field r6.f_l)] ++ [.row (.slice none 0 0) 86 2 0 (cells enc_api_Field []), .shr x_l_p0 (cells enc_api_Field x_l)]) from hO).lend rfl trivial) hr11) ?_
 rintro e w' ⟨p12, c13, he, hO'⟩
 refine ⟨_, he, fun a hf => ?_⟩
 have hO := (show Dk.Own w0 [] _ ([.blk b7 [.slice p8 r6.f_l.length c9] 170, .row (.slice p8 r6.f_l.length c9) 86 2 r6.f_l.length (cells enc_api_Field r6.f_l)] ++ [.row (.slice none 0 0) 86 2 0 (cells enc_api_Field []), .shr x_l_p0 (cells enc_api_Field x_l)]) from hO).back rfl hO' rfl
 refine wpList_nil ?_
 refine nor_then (hK14 _ _ ?_)
 refine wp_seq_k fun _ hK18 => ?_
 refine wp_region_list ?_
 refine op_mv hf rfl rfl fun a hf => ?_
 obtain ⟨r15, hr15, hm⟩ := ob hm
 refine op_enter (ex_call c_95 hf (vs := [ptr b7 0]) rfl) rfl hf rfl rfl (w_bag_Bag_List r11 r15 _ (hG.own hF hO).1 (hO.blkSees (i := 0) rfl) (hO.rowSees (i := 1) rfl) (hO.rowCap (i := 1) rfl) hr15) ?_
 rintro e w' ⟨p16, c17, he, hO'⟩
 refine ⟨_, he, fun a hf => ?_⟩
 have hO := hO.call hO' (by simp [Res.shared])
 refine op_as hf rfl rfl fun a hf => ?_
 refine wpList_nil ?_
 refine nor_then (hK18 _ _ ?_)
 refine wp_ret ?_
 obtain rfl := Option.some.inj hm
 exact post_ret Tryz.results46 hf (.tmp rfl .nil) ⟨p16, c17, rfl, (hO.sub (.cons_cons _ (.cons _ (.cons _ (.cons _ (.cons _ .slnil))))))⟩

set_option maxHeartbeats 1000000 in
theorem w_ref06_Same (x_a : List Str) (x_b : List Str) (R : Bool) (w0 : World) (hG : Glob w0) {x_a_p0 : Option Addr} {x_a_c0 : Nat} (hs0 : Sees w0 x_a_p0 (cells enc_str x_a)) (hc0 : x_a.length ≤ x_a_c0) {x_b_p1 : Option Addr} {x_b_c1 : Nat} (hs1 : Sees w0 x_b_p1 (cells enc_str x_b)) (hc1 : x_b.length ≤ x_b_c1) (hm : ref06_Same x_a x_b = some R) :
    Calls Tryz.prog 21 #[.slice x_a_p0 x_a.length x_a_c0, .slice x_b_p1 x_b.length x_b_c1] w0 fun e w' => e = .returned (.bool R) ∧ Below w0.heap.size w0 w' := by
 rw [ref06_Same] at hm
 refine calls_enter (vs := [.slice x_a_p0 x_a.length x_a_c0, .slice x_b_p1 x_b.length x_b_c1]) Tryz.func21 rfl Tryz.ntmps21 rfl fun a hf => ?_
 have hF : Away [] := away_nil
 have hO : Dk.Own w0 [] w0 [] := Dk.Own.refl w0
 have hO := hO.addShr hs0 (by simp [Res.shared])
 have hO := hO.addShr hs1 (by simp [Res.shared])
 refine wp_seq_k fun _ hK1 => ?_
 refine wp_region_list ?_
 refine op_as hf rfl rfl fun a hf => ?_
 refine wpList_nil ?_
 refine nor_then (hK1 _ _ ?_)
 refine wp_seq_k fun _ hK5 => ?_
 refine wp_seq_k fun _ hK2 => ?_
 refine wp_region_list ?_
 refine op_mv hf rfl rfl fun a hf => ?_
 refine op_val (ex_len_l Tryz.underlying40 hf rfl) rfl hf rfl rfl fun a hf => ?_
 refine op_mv hf rfl rfl fun a hf => ?_
 refine op_val (ex_len_l Tryz.underlying40 hf rfl) rfl hf rfl rfl fun a hf => ?_
 refine op_val (ex_neq (m := (x_a.length : Int)) (n := (x_b.length : Int)) hf rfl rfl) rfl hf rfl rfl fun a hf => ?_
 refine wpList_nil ?_
 refine nor_then (hK2 _ _ ?_)
 refine wp_cond_cut hf rfl (fun hc3 => ?_) (fun hc3 => ?_)
 have hm := it hc3 hm
 refine wp_seq_k fun _ hK4 => ?_
 refine wp_region_list ?_
 refine op_as hf rfl rfl fun a hf => ?_
 refine wpList_nil ?_
 refine nor_then (hK4 _ _ ?_)
 refine wp_ret ?_
 refine ret_then ?_
 obtain rfl := Option.some.inj hm
 exact post_ret Tryz.results21 hf (.tmp rfl .nil) ⟨rfl, hO.below⟩
 have hm := ie hc3 hm
 refine wp_skip ?_
 refine nor_then (hK5 _ _ ?_)
 refine wp_seq_k fun _ hK22 => ?_
 refine wp_seq_k fun _ hK6 => ?_
 refine wp_region_list ?_
 refine op_as hf rfl rfl fun a hf => ?_
 refine wpList_nil ?_
 refine nor_then (hK6 _ _ ?_)
 refine wp_block ?_
 refine wp_loop_n (fun k a w => ∃ (i7 : Int), Fits 26 [(0, .slice x_a_p0 x_a.length x_a_c0), (1, .slice x_b_p1 x_b.length x_b_c1), (5, int i7)] a ∧ Dk.Own w0 [] w [.shr x_b_p1 (cells enc_str x_b), .shr x_a_p0 (cells enc_str x_a)] ∧ ref06_Same_L1 x_a x_b k i7 = some R) ?_ fuel ?_
 rintro n1 a w ⟨i7, hf, hO, hm⟩
 obtain _ | n1 := n1
 rw [ref06_Same_L1] at hm
 cases hm
 rw [ref06_Same_L1] at hm
 refine wp_seq_k fun _ hK10 => ?_
 refine wp_seq_k fun _ hK8 => ?_
 refine wp_region_list ?_
 refine op_mv hf rfl rfl fun a hf => ?_
 refine op_mv hf rfl rfl fun a hf => ?_
 refine op_val (ex_len_l Tryz.underlying40 hf rfl) rfl hf rfl rfl fun a hf => ?_
 refine op_val (ex_lss (m := i7) (n := (x_a.length : Int)) hf rfl rfl) rfl hf rfl rfl fun a hf => ?_
 refine wpList_nil ?_
 refine nor_then (hK8 _ _ ?_)
 refine wp_cond_cut hf rfl (fun hc9 => ?_) (fun hc9 => ?_)
 have hm := it hc9 hm
 refine wp_skip ?_
 refine nor_then (hK10 _ _ ?_)
 refine wp_seq_k fun _ hK20 => ?_
 refine wp_block ?_
 refine wp_seq_k fun _ hK17 => ?_
 refine wp_quiet (by kernel_rfl) (by kernel_rfl) hO ?_
 refine q_val (fun w hO => ex_move hf rfl) rfl hf rfl rfl fun a hf => ?_
 refine q_val (fun w hO => ex_move hf rfl) rfl hf rfl rfl fun a hf => ?_
 obtain ⟨x11, hx11, hm⟩ := ob hm
 obtain ⟨b12, o13, hix11, hSx11⟩ := elemAt (enc := enc_str) (sz := 1) (xs := x_a) 40 Tryz.underlying40 sz_9 (by decide) (fun _ => rfl) (hO.sees (i := 1) rfl) hx11
 refine q_val (fun w hO => ex_indexAddr hix11 hf rfl rfl) rfl hf rfl rfl fun a hf => ?_
 refine q_val (fun w hO => ex_load1 (o := 0) ag_9 (hSx11 _ (hO.sees (i := 1) rfl)) rfl hf rfl) rfl hf rfl rfl fun a hf => ?_
 refine q_val (fun w hO => ex_move hf rfl) rfl hf rfl rfl fun a hf => ?_
 refine q_val (fun w hO => ex_move hf rfl) rfl hf rfl rfl fun a hf => ?_
 obtain ⟨x14, hx14, hm⟩ := ob hm
 obtain ⟨b15, o16, hix14, hSx14⟩ := elemAt (enc := enc_str) (sz := 1) (xs := x_b) 40 Tryz.underlying40 sz_9 (by decide) (fun _ => rfl) (hO.sees (i := 0) rfl) hx14
 refine q_val (fun w hO => ex_indexAddr hix14 hf rfl rfl) rfl hf rfl rfl fun a hf => ?_
 refine q_val (fun w hO => ex_load1 (o := 0) ag_9 (hSx14 _ (hO.sees (i := 0) rfl)) rfl hf rfl) rfl hf rfl rfl fun a hf => ?_
 refine q_val (fun w hO => ex_neq_s (l := x11) (m := x14) hf rfl rfl) rfl hf rfl rfl fun a hf => ?_
 refine wpQuiet_nil ?_
 intro w hO
 refine nor_then (hK17 _ _ ?_)
 refine wp_cond_cut hf rfl (fun hc18 => ?_) (fun hc18 => ?_)
 have hm := it hc18 hm
 refine wp_seq_k fun _ hK19 => ?_
 refine wp_region_list ?_
 refine op_as hf rfl rfl fun a hf => ?_
 refine wpList_nil ?_
 refine nor_then (hK19 _ _ ?_)
 refine wp_ret ?_
 refine ret_block ?_
 refine ret_then ?_
 refine ret_then ?_
 refine ret_block ?_
 refine ret_then ?_
 obtain rfl := Option.some.inj hm
 exact post_ret Tryz.results21 hf (.tmp rfl .nil) ⟨rfl, hO.below⟩
 have hm := ie hc18 hm
 refine wp_skip ?_
 refine nor_block ?_
 refine nor_then (hK20 _ _ ?_)
 refine wp_region_list ?_
 refine op_mv hf rfl rfl fun a hf => ?_
 obtain ⟨i21, hi21, hm⟩ := ob hm
 refine op_val (ex_add hf rfl rfl hi21) rfl hf rfl rfl fun a hf => ?_
 refine op_as hf rfl rfl fun a hf => ?_
 refine wpList_nil ?_
 refine nor_then ?_
 exact ⟨_, Nat.lt_succ_self _, i21, (hf.cons rfl (hf.cons rfl (hf.cons rfl hf.nil))), hO, hm⟩
 have hm := ie hc9 hm
 refine wp_exit ?_
 refine exit_then ?_
 refine exit_then ?_
 refine exit_here ?_
 refine nor_then (hK22 _ _ ?_)
 refine wp_seq_k fun _ hK23 => ?_
 refine wp_region_list ?_
 refine op_as hf rfl rfl fun a hf => ?_
 refine wpList_nil ?_
 refine nor_then (hK23 _ _ ?_)
 refine wp_ret ?_
 obtain rfl := Option.some.inj hm
 exact post_ret Tryz.results21 hf (.tmp rfl .nil) ⟨rfl, hO.below⟩
 exact ⟨0, (hf.cons rfl (hf.cons rfl (hf.cons rfl hf.nil))), hO, hm⟩

set_option maxHeartbeats 1000000 in
theorem w_law27_awake (R : Bool) (w0 : World) (hG : GlobT w0) (hm : law27_awake = some R) :
    Calls Tryz.prog 16 #[] w0 fun e w' => e = .returned (.bool R) ∧ Below w0.heap.size w0 w' := by
 rw [law27_awake] at hm
 refine calls_enter (vs := []) Tryz.func16 rfl Tryz.ntmps16 rfl fun a hf => ?_
 have hF : Away [] := away_nil
 have hO : Dk.Own w0 [] w0 [] := Dk.Own.refl w0
 refine wp_seq_k fun _ hK1 => ?_
 refine wp_region_list ?_
 refine op_as hf rfl rfl fun a hf => ?_
 refine wpList_nil ?_
 refine nor_then (hK1 _ _ ?_)
 refine wp_seq_k fun _ hK6 => ?_
 refine wp_region_list ?_
 refine op_buildSlice (vs := [(0, str [49, 46, 50, 46, 51, 46, 52, 44, 32, 58, 58, 49])]) (cs := [str [49, 46, 50, 46, 51, 46, 52, 44, 32, 58, 58, 49]]) (e := 9) (sz := 1) hf rfl rfl (fun w => by kernel_rfl) rfl rfl hO fun a b2 w hf hO => ?_
 obtain ⟨r3, hr3, hm⟩ := ob hm
 refine op_enter (ex_call c_17 hf (vs := [.slice (some ⟨b2, 0, none⟩) (([[49, 46, 50, 46, 51, 46, 52, 44, 32, 58, 58, 49]]).length) 1]) rfl) rfl hf rfl rfl (w_xff_List ([[49, 46, 50, 46, 51, 46, 52, 44, 32, 58, 58, 49]]) r3 _ (hG.own hF hO) (hO.rowSees (i := 0) rfl) (hO.rowCap (i := 0) rfl) hr3) ?_
 rintro e w' ⟨p4, c5, he, hO'⟩
 refine ⟨_, he, fun a hf => ?_⟩
 have hO := hO.call hO' (by simp [Res.shared])
 refine op_mv hf rfl rfl fun a hf => ?_
 refine op_val (ex_extract hf rfl rfl) rfl hf rfl rfl fun a hf => ?_
 refine op_val (ex_extract hf rfl rfl) rfl hf rfl rfl fun a hf => ?_
 refine op_as hf rfl rfl fun a hf => ?_
 refine op_as hf rfl rfl fun a hf => ?_
 refine wpList_nil ?_
 refine nor_then (hK6 _ _ ?_)
 refine wp_seq_k fun _ hK10 => ?_
 refine wp_region_list ?_
 obtain ⟨r7, hr7, hm⟩ := ob hm
 refine op_enter (ex_call c_46 hf (vs := [str [120], .slice none 0 0]) rfl) rfl hf rfl rfl (w_xff_Append [120] [] r7 _ (hG.own hF hO) (Sees.nil _) (Nat.zero_le _) hr7) ?_
 rintro e w' ⟨p8, c9, he, hO'⟩
 refine ⟨_, he, fun a hf => ?_⟩
 have hO := hO.call hO' (by simp [Res.shared])
 refine op_as hf rfl rfl fun a hf => ?_
 refine wpList_nil ?_
 refine nor_then (hK10 _ _ ?_)
 refine wp_seq_cut (fun a w => ∃ (t19 : Bool), Fits 29 [(0, .bool t19)] a ∧ Dk.Own w0 [] w [.row (.slice p8 r7.length c9) 86 2 r7.length (cells enc_api_Field r7), .row (.slice p4 r3.1.length c5) 9 1 r3.1.length (cells enc_str r3.1), .row (.slice (some ⟨b2, 0, none⟩) (([[49, 46, 50, 46, 51, 46, 52, 44, 32, 58, 58, 49]]).length) 1) 9 1 (([[49, 46, 50, 46, 51, 46, 52, 44, 32, 58, 58, 49]]).length) (cells enc_str ([[49, 46, 50, 46, 51, 46, 52, 44, 32, 58, 58, 49]]))] ∧ law27_awake_j1 t19 = some R) ?_ ?_
 refine wp_region_list ?_
 refine op_mv hf rfl rfl fun a hf => ?_
 refine op_val (ex_eql (m := r3.2) (n := 0) hf rfl rfl) rfl hf rfl rfl fun a hf => ?_
 refine op_mv hf rfl rfl fun a hf => ?_
 rcases bcase (r3.2 == 0) with hc11 | hc11
 have hm := it hc11 hm
 refine op_guard rfl hf rfl rfl (hc11) ?_
 refine op_mv hf rfl rfl fun a hf => ?_
 refine op_guard rfl hf rfl rfl (hc11) ?_
 refine op_buildSlice (vs := [(0, str [49, 46, 50, 46, 51, 46, 52]), (1, str [58, 58, 49])]) (cs := [str [49, 46, 50, 46, 51, 46, 52], str [58, 58, 49]]) (e := 9) (sz := 1) hf rfl rfl (fun w => by kernel_rfl) rfl rfl hO fun a b12 w hf hO => ?_
 refine op_guard rfl hf rfl rfl (hc11) ?_
 obtain ⟨r13, hr13, hm⟩ := ob hm
 refine op_enter (ex_call c_21 hf (vs := [.slice p4 r3.1.length c5, .slice (some ⟨b12, 0, none⟩) (([[49, 46, 50, 46, 51, 46, 52], [58, 58, 49]]).length) 2]) rfl) rfl hf rfl rfl (w_ref06_Same r3.1 ([[49, 46, 50, 46, 51, 46, 52], [58, 58, 49]]) r13 _ (hG.own hF hO).1 (hO.rowSees (i := 2) rfl) (hO.rowCap (i := 2) rfl) (hO.rowSees (i := 0) rfl) (hO.rowCap (i := 0) rfl) hr13) ?_
 rintro e w' ⟨he, hb⟩
 refine ⟨_, he, fun a hf => ?_⟩
 have hO := hO.grow hb
 refine op_val (ex_pick_t hf rfl hc11 rfl) rfl hf rfl rfl fun a hf => ?_
 refine op_mv hf rfl rfl fun a hf => ?_
 rcases bcase (r13) with hc14 | hc14
 have hm := it hc14 hm
 refine op_guard rfl hf rfl rfl (hc14) ?_
 refine op_mv hf rfl rfl fun a hf => ?_
 refine op_guard rfl hf rfl rfl (hc14) ?_
 refine op_val (ex_len_l Tryz.underlying25 hf rfl) rfl hf rfl rfl fun a hf => ?_
 refine op_guard rfl hf rfl rfl (hc14) ?_
 refine op_val (ex_eql (m := (r7.length : Int)) (n := 1) hf rfl rfl) rfl hf rfl rfl fun a hf => ?_
 refine op_val (ex_pick_t hf rfl hc14 rfl) rfl hf rfl rfl fun a hf => ?_
 refine op_mv hf rfl rfl fun a hf => ?_
 rcases bcase ((r7.length : Int) == 1) with hc15 | hc15
 have hm := it hc15 hm
 refine op_guard rfl hf rfl rfl (hc15) ?_
 refine op_mv hf rfl rfl fun a hf => ?_
 refine op_guard rfl hf rfl rfl (hc15) ?_
 obtain ⟨x16, hx16, hm⟩ := ob hm
 obtain ⟨b17, o18, hix16, hSx16, hAx16⟩ := elemAtRow (enc := enc_api_Field) (sz := 2) (xs := r7) 25 Tryz.underlying25 sz_86 (by decide) (fun _ => rfl) hO (i := 1) rfl hx16
 refine op_val (ex_indexAddr hix16 hf rfl rfl) rfl hf rfl rfl fun a hf => ?_
 refine op_guard rfl hf rfl rfl (hc15) ?_
 refine op_val (ex_loadN (o := 0) (vs := [str x16.Name, str x16.Value]) ag_86 sz_86 (hSx16 _ (hO.rowSees (i := 1) rfl)) rfl rfl hf rfl) rfl hf rfl rfl fun a hf => ?_
 refine op_guard rfl hf rfl rfl (hc15) ?_
 refine op_val (ex_build (vs := [(0, str [88, 45, 70, 111, 114, 119, 97, 114, 100, 101, 100, 45, 70, 111, 114]), (1, str [117, 110, 107, 110, 111, 119, 110])]) (v := .agg #[str [88, 45, 70, 111, 114, 119, 97, 114, 100, 101, 100, 45, 70, 111, 114], str [117, 110, 107, 110, 111, 119, 110]]) hf rfl (by kernel_rfl)) rfl hf rfl rfl fun a hf => ?_
 refine op_guard rfl hf rfl rfl (hc15) ?_
 refine op_val (ex_eql_t (by kernel_rfl) (eq_86 x16 (⟨[88, 45, 70, 111, 114, 119, 97, 114, 100, 101, 100, 45, 70, 111, 114], [117, 110, 107, 110, 111, 119, 110]⟩ : api_Field)) hf rfl rfl) rfl hf rfl rfl fun a hf => ?_
 refine op_val (ex_pick_t hf rfl hc15 rfl) rfl hf rfl rfl fun a hf => ?_
 refine op_as hf rfl rfl fun a hf => ?_
 refine wpList_nil ?_
 refine nor_then ?_
 exact ⟨x16 == (⟨[88, 45, 70, 111, 114, 119, 97, 114, 100, 101, 100, 45, 70, 111, 114], [117, 110, 107, 110, 111, 119, 110]⟩ : api_Field), (hf.cons rfl hf.nil), (hO.sub (.cons _ (.cons_cons _ (.cons_cons _ (.cons_cons _ .slnil))))), hm⟩
 have hm := ie hc15 hm
 refine op_pass rfl hf rfl rfl (hc15) rfl rfl fun a hf => ?_
 refine op_pass rfl hf rfl rfl (hc15) rfl rfl fun a hf => ?_
 refine op_pass rfl hf rfl rfl (hc15) rfl rfl fun a hf => ?_
 refine op_pass rfl hf rfl rfl (hc15) rfl rfl fun a hf => ?_
 refine op_pass rfl hf rfl rfl (hc15) rfl rfl fun a hf => ?_
 refine op_val (ex_pick_f hf rfl hc15 rfl) rfl hf rfl rfl fun a hf => ?_
 refine op_as hf rfl rfl fun a hf => ?_
 refine wpList_nil ?_
 refine nor_then ?_
 exact ⟨false, (hf.cons rfl hf.nil), (hO.sub (.cons _ (.cons_cons _ (.cons_cons _ (.cons_cons _ .slnil))))), hm⟩
 have hm := ie hc14 hm
 refine op_pass rfl hf rfl rfl (hc14) rfl rfl fun a hf => ?_
 refine op_pass rfl hf rfl rfl (hc14) rfl rfl fun a hf => ?_
 refine op_pass rfl hf rfl rfl (hc14) rfl rfl fun a hf => ?_
 refine op_val (ex_pick_f hf rfl hc14 rfl) rfl hf rfl rfl fun a hf => ?_
 refine op_mv hf rfl rfl fun a hf => ?_
 refine op_pass rfl hf rfl rfl (rfl) rfl rfl fun a hf => ?_
 refine op_pass rfl hf rfl rfl (rfl) rfl rfl fun a hf => ?_
 refine op_pass rfl hf rfl rfl (rfl) rfl rfl fun a hf => ?_
 refine op_pass rfl hf rfl rfl (rfl) rfl rfl fun a hf => ?_
 refine op_pass rfl hf rfl rfl (rfl) rfl rfl fun a hf => ?_
 refine op_val (ex_pick_f hf rfl rfl rfl) rfl hf rfl rfl fun a hf => ?_
 refine op_as hf rfl rfl fun a hf => ?_
 refine wpList_nil ?_
 refine nor_then ?_
 exact ⟨false, (hf.cons rfl hf.nil), (hO.sub (.cons _ (.cons_cons _ (.cons_cons _ (.cons_cons _ .slnil))))), hm⟩
 have hm := ie hc11 hm
 refine op_pass rfl hf rfl rfl (hc11) rfl rfl fun a hf => ?_
 refine op_pass rfl hf rfl rfl (hc11) rfl rfl fun a hf => ?_
 refine op_pass rfl hf rfl rfl (hc11) rfl rfl fun a hf => ?_
 refine op_val (ex_pick_f hf rfl hc11 rfl) rfl hf rfl rfl fun a hf => ?_
 refine op_mv hf rfl rfl fun a hf => ?_
 refine op_pass rfl hf rfl rfl (rfl) rfl rfl fun a hf => ?_
 refine op_pass rfl hf rfl rfl (rfl) rfl rfl fun a hf => ?_
 refine op_pass rfl hf rfl rfl (rfl) rfl rfl fun a hf => ?_
 refine op_val (ex_pick_f hf rfl rfl rfl) rfl hf rfl rfl fun a hf => ?_
 refine op_mv hf rfl rfl fun a hf => ?_
 refine op_pass rfl hf rfl rfl (rfl) rfl rfl fun a hf => ?_
 refine op_pass rfl hf rfl rfl (rfl) rfl rfl fun a hf => ?_
 refine op_pass rfl hf rfl rfl (rfl) rfl rfl fun a hf => ?_
 refine op_pass rfl hf rfl rfl (rfl) rfl rfl fun a hf => ?_
 refine op_pass rfl hf rfl rfl (rfl) rfl rfl fun a hf => ?_
 refine op_val (ex_pick_f hf rfl rfl rfl) rfl hf rfl rfl fun a hf => ?_
 refine op_as hf rfl rfl fun a hf => ?_
 refine wpList_nil ?_
 refine nor_then ?_
 exact ⟨false, (hf.cons rfl hf.nil), hO, hm⟩
 rintro a w ⟨t19, hf, hO, hm⟩
 rw [law27_awake_j1] at hm
 refine wp_ret ?_
 obtain rfl := Option.some.inj hm
 exact post_ret Tryz.results16 hf (.tmp rfl .nil) ⟨rfl, hO.below⟩

set_option maxHeartbeats 1000000 in
theorem w_ref05_Front (x_s : Str) (R : Str × Int) (w0 : World) (hG : Glob w0) (hm : ref05_Front x_s = some R) :
    Calls Tryz.prog 147 #[str x_s] w0 fun e w' => e = .returned (.tuple #[str R.1, int R.2]) ∧ Below w0.heap.size w0 w' := by
 rw [ref05_Front] at hm
 refine calls_enter (vs := [str x_s]) Tryz.func147 rfl Tryz.ntmps147 rfl fun a hf => ?_
 have hF : Away [] := away_nil
 have hO : Dk.Own w0 [] w0 [] := Dk.Own.refl w0
 refine wp_seq_k fun _ hK1 => ?_
 refine wp_region_list ?_
 refine op_as hf rfl rfl fun a hf => ?_
 refine op_as hf rfl rfl fun a hf => ?_
 refine wpList_nil ?_
 refine nor_then (hK1 _ _ ?_)
 refine wp_seq_k fun _ hK7 => ?_
 refine wp_seq_cut (fun a w => ∃ (t4 : Bool), Fits 51 [(0, str x_s), (13, .bool t4)] a ∧ Dk.Own w0 [] w [] ∧ ref05_Front_j1 x_s t4 = some R) ?_ ?_
 refine wp_region_list ?_
 refine op_mv hf rfl rfl fun a hf => ?_
 refine op_val (ex_len_s (l := x_s) Tryz.underlying9 hf rfl) rfl hf rfl rfl fun a hf => ?_
 refine op_val (ex_eql (m := (x_s.length : Int)) (n := 0) hf rfl rfl) rfl hf rfl rfl fun a hf => ?_
 refine op_mv hf rfl rfl fun a hf => ?_
 rcases bcase ((x_s.length : Int) == 0) with hc2 | hc2
 have hm := it hc2 hm
 refine op_pass rfl hf rfl rfl (hc2) rfl rfl fun a hf => ?_
 refine op_pass rfl hf rfl rfl (hc2) rfl rfl fun a hf => ?_
 refine op_pass rfl hf rfl rfl (hc2) rfl rfl fun a hf => ?_
 refine op_val (ex_pick_t hf rfl hc2 rfl) rfl hf rfl rfl fun a hf => ?_
 refine wpList_nil ?_
 refine nor_then ?_
 exact ⟨true, (hf.cons rfl (hf.cons rfl hf.nil)), hO, hm⟩
 have hm := ie hc2 hm
 refine op_guard rfl hf rfl rfl (hc2) ?_
 refine op_mv hf rfl rfl fun a hf => ?_
 refine op_guard rfl hf rfl rfl (hc2) ?_
 obtain ⟨b3, hb3, hm⟩ := ob hm
 refine op_val (ex_index (l := x_s) Tryz.underlying9 hf rfl rfl hb3) rfl hf rfl rfl fun a hf => ?_
 refine op_guard rfl hf rfl rfl (hc2) ?_
 refine op_val (ex_neq_b (b := b3) (c := 34) hf rfl rfl) rfl hf rfl rfl fun a hf => ?_
 refine op_val (ex_pick_f hf rfl hc2 rfl) rfl hf rfl rfl fun a hf => ?_
 refine wpList_nil ?_
 refine nor_then ?_
 exact ⟨!(b3 == 34), (hf.cons rfl (hf.cons rfl hf.nil)), hO, hm⟩
 rintro a w ⟨t4, hf, hO, hm⟩
 rw [ref05_Front_j1] at hm
 refine wp_cond_cut hf rfl (fun hc5 => ?_) (fun hc5 => ?_)
 have hm := it hc5 hm
 refine wp_seq_k fun _ hK6 => ?_
 refine wp_region_list ?_
 refine op_as hf rfl rfl fun a hf => ?_
 refine op_as hf rfl rfl fun a hf => ?_
 refine wpList_nil ?_
 refine nor_then (hK6 _ _ ?_)
 refine wp_ret ?_
 refine ret_then ?_
 obtain rfl := Option.some.inj hm
 exact post_ret Tryz.results147 hf (.tmp rfl (.tmp rfl .nil)) ⟨rfl, hO.below⟩
 have hm := ie hc5 hm
 refine wp_skip ?_
 refine nor_then (hK7 _ _ ?_)
 refine wp_seq_k fun _ hK8 => ?_
 refine wp_region_list ?_
 refine op_as hf rfl rfl fun a hf => ?_
 refine wpList_nil ?_
 refine nor_then (hK8 _ _ ?_)
 refine wp_seq_k fun _ hK38 => ?_
 refine wp_seq_k fun _ hK9 => ?_
 refine wp_region_list ?_
 refine op_as hf rfl rfl fun a hf => ?_
 refine wpList_nil ?_
 refine nor_then (hK9 _ _ ?_)
 refine wp_block ?_
 refine wp_loop_n (fun k a w => ∃ (s10 : Str) (i11 : Int), Fits 51 [(0, str x_s), (4, str s10), (5, int i11)] a ∧ Dk.Own w0 [] w [] ∧ ref05_Front_L2 x_s k s10 i11 = some R) ?_ fuel ?_
 rintro n2 a w ⟨s10, i11, hf, hO, hm⟩
 obtain _ | n2 := n2
 rw [ref05_Front_L2] at hm
 cases hm
 rw [ref05_Front_L2] at hm
 refine wp_seq_k fun _ hK14 => ?_
 refine wp_seq_k fun _ hK12 => ?_
 refine wp_region_list ?_
 refine op_mv hf rfl rfl fun a hf => ?_
 refine op_mv hf rfl rfl fun a hf => ?_
 refine op_val (ex_len_s (l := x_s) Tryz.underlying9 hf rfl) rfl hf rfl rfl fun a hf => ?_
 refine op_val (ex_lss (m := i11) (n := (x_s.length : Int)) hf rfl rfl) rfl hf rfl rfl fun a hf => ?_
 refine wpList_nil ?_
 refine nor_then (hK12 _ _ ?_)
 refine wp_cond_cut hf rfl (fun hc13 => ?_) (fun hc13 => ?_)
 have hm := it hc13 hm
 refine wp_skip ?_
 refine nor_then (hK14 _ _ ?_)
 refine wp_seq_k fun _ hK36 => ?_
 refine wp_block ?_
 refine wp_seq_k fun _ hK20 => ?_
 refine wp_seq_k fun _ hK16 => ?_
 refine wp_region_list ?_
 refine op_mv hf rfl rfl fun a hf => ?_
 refine op_mv hf rfl rfl fun a hf => ?_
 obtain ⟨b15, hb15, hm⟩ := ob hm
 refine op_val (ex_index (l := x_s) Tryz.underlying9 hf rfl rfl hb15) rfl hf rfl rfl fun a hf => ?_
 refine op_val (ex_eql_b (b := b15) (c := 34) hf rfl rfl) rfl hf rfl rfl fun a hf => ?_
 refine wpList_nil ?_
 refine nor_then (hK16 _ _ ?_)
 refine wp_cond_cut hf rfl (fun hc17 => ?_) (fun hc17 => ?_)
 have hm := it hc17 hm
 refine wp_seq_k fun _ hK19 => ?_
 refine wp_region_list ?_
 refine op_mv hf rfl rfl fun a hf => ?_
 refine op_mv hf rfl rfl fun a hf => ?_
 obtain ⟨i18, hi18, hm⟩ := ob hm
 refine op_val (ex_add hf rfl rfl hi18) rfl hf rfl rfl fun a hf => ?_
 refine op_as hf rfl rfl fun a hf => ?_
 refine op_as hf rfl rfl fun a hf => ?_
 refine wpList_nil ?_
 refine nor_then (hK19 _ _ ?_)
 refine wp_ret ?_
 refine ret_then ?_
 refine ret_block ?_
 refine ret_then ?_
 refine ret_then ?_
 refine ret_block ?_
 refine ret_then ?_
 obtain rfl := Option.some.inj hm
 exact post_ret Tryz.results147 hf (.tmp rfl (.tmp rfl .nil)) ⟨rfl, hO.below⟩
 have hm := ie hc17 hm
 refine wp_skip ?_
 refine nor_then (hK20 _ _ ?_)
 refine wp_seq_cut (fun a w => ∃ (i25 : Int), Fits 51 [(0, str x_s), (4, str s10), (5, int i25)] a ∧ Dk.Own w0 [] w [] ∧ ref05_Front_j3 (ref05_Front_L2 x_s n2) x_s s10 i25 = some R) ?_ ?_
 refine wp_seq_k fun _ hK22 => ?_
 refine wp_region_list ?_
 refine op_mv hf rfl rfl fun a hf => ?_
 refine op_mv hf rfl rfl fun a hf => ?_
 obtain ⟨b21, hb21, hm⟩ := ob hm
 refine op_val (ex_index (l := x_s) Tryz.underlying9 hf rfl rfl hb21) rfl hf rfl rfl fun a hf => ?_
 refine op_val (ex_eql_b (b := b21) (c := 92) hf rfl rfl) rfl hf rfl rfl fun a hf => ?_
 refine wpList_nil ?_
 refine nor_then (hK22 _ _ ?_)
 refine wp_cond_cut hf rfl (fun hc23 => ?_) (fun hc23 => ?_)
 have hm := it hc23 hm
 refine wp_region_list ?_
 refine op_mv hf rfl rfl fun a hf => ?_
 obtain ⟨i24, hi24, hm⟩ := ob hm
 refine op_val (ex_add hf rfl rfl hi24) rfl hf rfl rfl fun a hf => ?_
 refine op_as hf rfl rfl fun a hf => ?_
 refine wpList_nil ?_
 refine nor_then ?_
 exact ⟨i24, (hf.cons rfl (hf.cons rfl (hf.cons rfl hf.nil))), hO, hm⟩
 have hm := ie hc23 hm
 refine wp_skip ?_
 refine nor_then ?_
 exact ⟨i11, (hf.cons rfl (hf.cons rfl (hf.cons rfl hf.nil))), hO, hm⟩
 rintro a w ⟨i25, hf, hO, hm⟩
 rw [ref05_Front_j3] at hm
 refine wp_seq_k fun _ hK32 => ?_
 refine wp_seq_cut (fun a w => ∃ (t29 : Bool), Fits 51 [(0, str x_s), (4, str s10), (5, int i25), (43, .bool t29)] a ∧ Dk.Own w0 [] w [] ∧ ref05_Front_j4 (ref05_Front_L2 x_s n2) x_s s10 i25 t29 = some R) ?_ ?_
 refine wp_region_list ?_
 refine op_mv hf rfl rfl fun a hf => ?_
 refine op_mv hf rfl rfl fun a hf => ?_
 refine op_val (ex_len_s (l := x_s) Tryz.underlying9 hf rfl) rfl hf rfl rfl fun a hf => ?_
 refine op_val (ex_eql (m := i25) (n := (x_s.length : Int)) hf rfl rfl) rfl hf rfl rfl fun a hf => ?_
 refine op_mv hf rfl rfl fun a hf => ?_
 rcases bcase (i25 == (x_s.length : Int)) with hc26 | hc26
 have hm := it hc26 hm
 refine op_pass rfl hf rfl rfl (hc26) rfl rfl fun a hf => ?_
 refine op_pass rfl hf rfl rfl (hc26) rfl rfl fun a hf => ?_
 refine op_pass rfl hf rfl rfl (hc26) rfl rfl fun a hf => ?_
 refine op_pass rfl hf rfl rfl (hc26) rfl rfl fun a hf => ?_
 refine op_pass rfl hf rfl rfl (hc26) rfl rfl fun a hf => ?_
 refine op_val (ex_pick_t hf rfl hc26 rfl) rfl hf rfl rfl fun a hf => ?_
 refine wpList_nil ?_
 refine nor_then ?_
 exact ⟨true, (hf.cons rfl (hf.cons rfl (hf.cons rfl (hf.cons rfl hf.nil)))), hO, hm⟩
 have hm := ie hc26 hm
 refine op_guard rfl hf rfl rfl (hc26) ?_
 refine op_mv hf rfl rfl fun a hf => ?_
 refine op_guard rfl hf rfl rfl (hc26) ?_
 refine op_mv hf rfl rfl fun a hf => ?_
 refine op_guard rfl hf rfl rfl (hc26) ?_
 obtain ⟨b27, hb27, hm⟩ := ob hm
 refine op_val (ex_index (l := x_s) Tryz.underlying9 hf rfl rfl hb27) rfl hf rfl rfl fun a hf => ?_
 refine op_guard rfl hf rfl rfl (hc26) ?_
 obtain ⟨r28, hr28, hm⟩ := ob hm
 refine op_enter (ex_call c_42 hf (vs := [byte b27]) rfl) rfl hf rfl rfl (w_ref01_Value b27 r28 _ (hG.own hF hO) hr28) ?_
 rintro e w' ⟨he, hb⟩
 refine ⟨_, he, fun a hf => ?_⟩
 have hO := hO.grow hb
 refine op_guard rfl hf rfl rfl (hc26) ?_
 refine op_val (ex_not hf rfl) rfl hf rfl rfl fun a hf => ?_
 refine op_val (ex_pick_f hf rfl hc26 rfl) rfl hf rfl rfl fun a hf => ?_
 refine wpList_nil ?_
 refine nor_then ?_
 exact ⟨!r28, (hf.cons rfl (hf.cons rfl (hf.cons rfl (hf.cons rfl hf.nil)))), hO, hm⟩
 rintro a w ⟨t29, hf, hO, hm⟩
 rw [ref05_Front_j4] at hm
 refine wp_cond_cut hf rfl (fun hc30 => ?_) (fun hc30 => ?_)
 have hm := it hc30 hm
 refine wp_seq_k fun _ hK31 => ?_
 refine wp_region_list ?_
 refine op_as hf rfl rfl fun a hf => ?_
 refine op_as hf rfl rfl fun a hf => ?_
 refine wpList_nil ?_
 refine nor_then (hK31 _ _ ?_)
 refine wp_ret ?_
 refine ret_then ?_
 refine ret_block ?_
 refine ret_then ?_
 refine ret_then ?_
 refine ret_block ?_
 refine ret_then ?_
 obtain rfl := Option.some.inj hm
 exact post_ret Tryz.results147 hf (.tmp rfl (.tmp rfl .nil)) ⟨rfl, hO.below⟩
 have hm := ie hc30 hm
 refine wp_skip ?_
 refine nor_then (hK32 _ _ ?_)
 refine wp_region_list ?_
 refine op_mv hf rfl rfl fun a hf => ?_
 refine op_mv hf rfl rfl fun a hf => ?_
 refine op_mv hf rfl rfl fun a hf => ?_
 refine op_mv hf rfl rfl fun a hf => ?_
 obtain ⟨i33, hi33, hm⟩ := ob hm
 refine op_val (ex_add hf rfl rfl hi33) rfl hf rfl rfl fun a hf => ?_
 obtain ⟨s34, hs34, hm⟩ := ob hm
 refine op_val (ex_sub_s (l := x_s) Tryz.underlying9 hf rfl rfl rfl hs34) rfl hf rfl rfl fun a hf => ?_
 obtain ⟨s35, hs35, hm⟩ := ob hm
 refine op_val (ex_cat (l := s10) (m := s34) hf rfl rfl hs35) rfl hf rfl rfl fun a hf => ?_
 refine op_as hf rfl rfl fun a hf => ?_
 refine wpList_nil ?_
 refine nor_block ?_
 refine nor_then (hK36 _ _ ?_)
 refine wp_region_list ?_
 refine op_mv hf rfl rfl fun a hf => ?_
 obtain ⟨i37, hi37, hm⟩ := ob hm
 refine op_val (ex_add hf rfl rfl hi37) rfl hf rfl rfl fun a hf => ?_
 refine op_as hf rfl rfl fun a hf => ?_
 refine wpList_nil ?_
 refine nor_then ?_
 exact ⟨_, Nat.lt_succ_self _, s35, i37, (hf.cons rfl (hf.cons rfl (hf.cons rfl hf.nil))), hO, hm⟩
 have hm := ie hc13 hm
 refine wp_exit ?_
 refine exit_then ?_
 refine exit_then ?_
 refine exit_here ?_
 refine nor_then (hK38 _ _ ?_)
 refine wp_seq_k fun _ hK39 => ?_
 refine wp_region_list ?_
 refine op_as hf rfl rfl fun a hf => ?_
 refine op_as hf rfl rfl fun a hf => ?_
 refine wpList_nil ?_
 refine nor_then (hK39 _ _ ?_)
 refine wp_ret ?_
 obtain rfl := Option.some.inj hm
 exact post_ret Tryz.results147 hf (.tmp rfl (.tmp rfl .nil)) ⟨rfl, hO.below⟩
 exact ⟨[], 1, (hf.cons rfl (hf.cons rfl (hf.cons rfl hf.nil))), hO, hm⟩

set_option maxHeartbeats 1000000 in
theorem w_ref06_Inner (x_s : Str) (R : Int) (w0 : World) (hG : Glob w0) (hm : ref06_Inner x_s = some R) :
    Calls Tryz.prog 98 #[str x_s] w0 fun e w' => e = .returned (int R) ∧ Below w0.heap.size w0 w' := by
 rw [ref06_Inner] at hm
 refine calls_enter (vs := [str x_s]) Tryz.func98 rfl Tryz.ntmps98 rfl fun a hf => ?_
 have hF : Away [] := away_nil
 have hO : Dk.Own w0 [] w0 [] := Dk.Own.refl w0
 refine wp_seq_k fun _ hK1 => ?_
 refine wp_region_list ?_
 refine op_as hf rfl rfl fun a hf => ?_
 refine wpList_nil ?_
 refine nor_then (hK1 _ _ ?_)
 refine wp_seq_k fun _ hK8 => ?_
 refine wp_seq_k fun _ hK3 => ?_
 refine wp_region_list ?_
 refine op_mv hf rfl rfl fun a hf => ?_
 obtain ⟨b2, hb2, hm⟩ := ob hm
 refine op_val (ex_index (l := x_s) Tryz.underlying9 hf rfl rfl hb2) rfl hf rfl rfl fun a hf => ?_
 refine op_val (ex_eql_b (b := b2) (c := 34) hf rfl rfl) rfl hf rfl rfl fun a hf => ?_
 refine wpList_nil ?_
 refine nor_then (hK3 _ _ ?_)
 refine wp_cond_cut hf rfl (fun hc4 => ?_) (fun hc4 => ?_)
 have hm := it hc4 hm
 refine wp_seq_k fun _ hK6 => ?_
 refine wp_region_list ?_
 refine op_mv hf rfl rfl fun a hf => ?_
 obtain ⟨r5, hr5, hm⟩ := ob hm
 refine op_enter (ex_call c_147 hf (vs := [str x_s]) rfl) rfl hf rfl rfl (w_ref05_Front x_s r5 _ (hG.own hF hO) hr5) ?_
 rintro e w' ⟨he, hb⟩
 refine ⟨_, he, fun a hf => ?_⟩
 have hO := hO.grow hb
 refine op_mv hf rfl rfl fun a hf => ?_
 refine op_val (ex_extract hf rfl rfl) rfl hf rfl rfl fun a hf => ?_
 refine op_val (ex_extract hf rfl rfl) rfl hf rfl rfl fun a hf => ?_
 refine op_as hf rfl rfl fun a hf => ?_
 refine op_as hf rfl rfl fun a hf => ?_
 refine wpList_nil ?_
 refine nor_then (hK6 _ _ ?_)
 refine wp_seq_k fun _ hK7 => ?_
 refine wp_region_list ?_
 refine op_mv hf rfl rfl fun a hf => ?_
 refine op_as hf rfl rfl fun a hf => ?_
 refine wpList_nil ?_
 refine nor_then (hK7 _ _ ?_)
 refine wp_ret ?_
 refine ret_then ?_
 obtain rfl := Option.some.inj hm
 exact post_ret Tryz.results98 hf (.tmp rfl .nil) ⟨rfl, hO.below⟩
 have hm := ie hc4 hm
 refine wp_skip ?_
 refine nor_then (hK8 _ _ ?_)
 refine wp_seq_k fun _ hK9 => ?_
 refine wp_region_list ?_
 refine op_as hf rfl rfl fun a hf => ?_
 refine wpList_nil ?_
 refine nor_then (hK9 _ _ ?_)
 refine wp_seq_k fun _ hK35 => ?_
 refine wp_seq_k fun _ hK10 => ?_
 refine wp_region_list ?_
 refine op_as hf rfl rfl fun a hf => ?_
 refine wpList_nil ?_
 refine nor_then (hK10 _ _ ?_)
 refine wp_block ?_
 refine wp_loop_n (fun k a w => ∃ (i11 : Int) (i12 : Int), Fits 41 [(0, str x_s), (5, int i11), (6, int i12)] a ∧ Dk.Own w0 [] w [] ∧ ref06_Inner_L1 x_s k i11 i12 = some R) ?_ fuel ?_
 rintro n1 a w ⟨i11, i12, hf, hO, hm⟩
 obtain _ | n1 := n1
 rw [ref06_Inner_L1] at hm
 cases hm
 rw [ref06_Inner_L1] at hm
 refine wp_seq_k fun _ hK15 => ?_
 refine wp_seq_k fun _ hK13 => ?_
 refine wp_region_list ?_
 refine op_mv hf rfl rfl fun a hf => ?_
 refine op_mv hf rfl rfl fun a hf => ?_
 refine op_val (ex_len_s (l := x_s) Tryz.underlying9 hf rfl) rfl hf rfl rfl fun a hf => ?_
 refine op_val (ex_lss (m := i12) (n := (x_s.length : Int)) hf rfl rfl) rfl hf rfl rfl fun a hf => ?_
 refine wpList_nil ?_
 refine nor_then (hK13 _ _ ?_)
 refine wp_cond_cut hf rfl (fun hc14 => ?_) (fun hc14 => ?_)
 have hm := it hc14 hm
 refine wp_skip ?_
 refine nor_then (hK15 _ _ ?_)
 refine wp_seq_k fun _ hK33 => ?_
 refine wp_block ?_
 refine wp_seq_cut (fun a w => ∃ (i27 : Int) (i28 : Int), Fits 41 [(0, str x_s), (5, int i27), (6, int i28)] a ∧ Dk.Own w0 [] w [] ∧ ref06_Inner_j2 (ref06_Inner_L1 x_s n1) i27 i28 = some R) ?_ ?_
 refine wp_seq_k fun _ hK17 => ?_
 refine wp_region_list ?_
 refine op_mv hf rfl rfl fun a hf => ?_
 refine op_mv hf rfl rfl fun a hf => ?_
 obtain ⟨b16, hb16, hm⟩ := ob hm
 refine op_val (ex_index (l := x_s) Tryz.underlying9 hf rfl rfl hb16) rfl hf rfl rfl fun a hf => ?_
 refine wpList_nil ?_
 refine nor_then (hK17 _ _ ?_)
 refine wp_block ?_
 refine wp_seq_k fun _ hK18 => ?_
 refine wp_region_list ?_
 refine op_val (ex_eql_b (b := b16) (c := 40) hf rfl rfl) rfl hf rfl rfl fun a hf => ?_
 refine op_as hf rfl rfl fun a hf => ?_
 refine wpList_nil ?_
 refine nor_then (hK18 _ _ ?_)
 refine wp_cond_cut hf rfl (fun hc19 => ?_) (fun hc19 => ?_)
 have hm := it hc19 hm
 refine wp_region_list ?_
 refine op_mv hf rfl rfl fun a hf => ?_
 obtain ⟨i20, hi20, hm⟩ := ob hm
 refine op_val (ex_add hf rfl rfl hi20) rfl hf rfl rfl fun a hf => ?_
 refine op_as hf rfl rfl fun a hf => ?_
 refine wpList_nil ?_
 refine nor_block ?_
 refine nor_then ?_
 exact ⟨i20, i12, (hf.cons rfl (hf.cons rfl (hf.cons rfl hf.nil))), hO, hm⟩
 have hm := ie hc19 hm
 refine wp_seq_k fun _ hK21 => ?_
 refine wp_region_list ?_
 refine op_val (ex_eql_b (b := b16) (c := 41) hf rfl rfl) rfl hf rfl rfl fun a hf => ?_
 refine op_as hf rfl rfl fun a hf => ?_
 refine wpList_nil ?_
 refine nor_then (hK21 _ _ ?_)
 refine wp_cond_cut hf rfl (fun hc22 => ?_) (fun hc22 => ?_)
 have hm := it hc22 hm
 refine wp_region_list ?_
 refine op_mv hf rfl rfl fun a hf => ?_
 obtain ⟨i23, hi23, hm⟩ := ob hm
 refine op_val (ex_sub hf rfl rfl hi23) rfl hf rfl rfl fun a hf => ?_
 refine op_as hf rfl rfl fun a hf => ?_
 refine wpList_nil ?_
 refine nor_block ?_
 refine nor_then ?_
 exact ⟨i23, i12, (hf.cons rfl (hf.cons rfl (hf.cons rfl hf.nil))), hO, hm⟩
 have hm := ie hc22 hm
 refine wp_seq_k fun _ hK24 => ?_
 refine wp_region_list ?_
 refine op_val (ex_eql_b (b := b16) (c := 92) hf rfl rfl) rfl hf rfl rfl fun a hf => ?_
 refine op_as hf rfl rfl fun a hf => ?_
 refine wpList_nil ?_
 refine nor_then (hK24 _ _ ?_)
 refine wp_cond_cut hf rfl (fun hc25 => ?_) (fun hc25 => ?_)
 have hm := it hc25 hm
 refine wp_region_list ?_
 refine op_mv hf rfl rfl fun a hf => ?_
 obtain ⟨i26, hi26, hm⟩ := ob hm
 refine op_val (ex_add hf rfl rfl hi26) rfl hf rfl rfl fun a hf => ?_
 refine op_as hf rfl rfl fun a hf => ?_
 refine wpList_nil ?_
 refine nor_block ?_
 refine nor_then ?_
 exact ⟨i11, i26, (hf.cons rfl (hf.cons rfl (hf.cons rfl hf.nil))), hO, hm⟩
 have hm := ie hc25 hm
 refine wp_skip ?_
 refine nor_block ?_
 refine nor_then ?_
 exact ⟨i11, i12, (hf.cons rfl (hf.cons rfl (hf.cons rfl hf.nil))), hO, hm⟩
 rintro a w ⟨i27, i28, hf, hO, hm⟩
 rw [ref06_Inner_j2] at hm
 refine wp_seq_k fun _ hK29 => ?_
 refine wp_region_list ?_
 refine op_mv hf rfl rfl fun a hf => ?_
 refine op_val (ex_eql (m := i27) (n := 0) hf rfl rfl) rfl hf rfl rfl fun a hf => ?_
 refine wpList_nil ?_
 refine nor_then (hK29 _ _ ?_)
 refine wp_cond_cut hf rfl (fun hc30 => ?_) (fun hc30 => ?_)
 have hm := it hc30 hm
 refine wp_seq_k fun _ hK32 => ?_
 refine wp_region_list ?_
 refine op_mv hf rfl rfl fun a hf => ?_
 obtain ⟨i31, hi31, hm⟩ := ob hm
 refine op_val (ex_add hf rfl rfl hi31) rfl hf rfl rfl fun a hf => ?_
 refine op_as hf rfl rfl fun a hf => ?_
 refine wpList_nil ?_
 refine nor_then (hK32 _ _ ?_)
 refine wp_ret ?_
 refine ret_block ?_
 refine ret_then ?_
 refine ret_then ?_
 refine ret_block ?_
 refine ret_then ?_
 obtain rfl := Option.some.inj hm
 exact post_ret Tryz.results98 hf (.tmp rfl .nil) ⟨rfl, hO.below⟩
 have hm := ie hc30 hm
 refine wp_skip ?_
 refine nor_block ?_
 refine nor_then (hK33 _ _ ?_)
 refine wp_region_list ?_
 refine op_mv hf rfl rfl fun a hf => ?_
 obtain ⟨i34, hi34, hm⟩ := ob hm
 refine op_val (ex_add hf rfl rfl hi34) rfl hf rfl rfl fun a hf => ?_
 refine op_as hf rfl rfl fun a hf => ?_
 refine wpList_nil ?_
 refine nor_then ?_
 exact ⟨_, Nat.lt_succ_self _, i27, i34, (hf.cons rfl (hf.cons rfl (hf.cons rfl hf.nil))), hO, hm⟩
 have hm := ie hc14 hm
 refine wp_exit ?_
 refine exit_then ?_
 refine exit_then ?_
 refine exit_here ?_
 refine nor_then (hK35 _ _ ?_)
 refine wp_seq_k fun _ hK36 => ?_
 refine wp_region_list ?_
 refine op_as hf rfl rfl fun a hf => ?_
 refine wpList_nil ?_
 refine nor_then (hK36 _ _ ?_)
 refine wp_ret ?_
 obtain rfl := Option.some.inj hm
 exact post_ret Tryz.results98 hf (.tmp rfl .nil) ⟨rfl, hO.below⟩
 exact ⟨0, 0, (hf.cons rfl (hf.cons rfl (hf.cons rfl hf.nil))), hO, hm⟩

set_option maxHeartbeats 1000000 in
theorem w_ref01_Blank (x_b : UInt8) (R : Bool) (w0 : World) (hG : Glob w0) (hm : ref01_Blank x_b = some R) :
    Calls Tryz.prog 114 #[byte x_b] w0 fun e w' => e = .returned (.bool R) ∧ Below w0.heap.size w0 w' := by
 rw [ref01_Blank] at hm
 refine calls_enter (vs := [byte x_b]) Tryz.func114 rfl Tryz.ntmps114 rfl fun a hf => ?_
 have hF : Away [] := away_nil
 have hO : Dk.Own w0 [] w0 [] := Dk.Own.refl w0
 refine wp_seq_k fun _ hK1 => ?_
 refine wp_region_list ?_
 refine op_as hf rfl rfl fun a hf => ?_
 refine wpList_nil ?_
 refine nor_then (hK1 _ _ ?_)
 refine wp_seq_cut (fun a w => ∃ (t3 : Bool), Fits 9 [(2, .bool t3)] a ∧ Dk.Own w0 [] w [] ∧ ref01_Blank_j1 t3 = some R) ?_ ?_
 refine wp_region_list ?_
 refine op_mv hf rfl rfl fun a hf => ?_
 refine op_val (ex_eql_b (b := x_b) (c := 32) hf rfl rfl) rfl hf rfl rfl fun a hf => ?_
 refine op_mv hf rfl rfl fun a hf => ?_
 rcases bcase (x_b == 32) with hc2 | hc2
 have hm := it hc2 hm
 refine op_pass rfl hf rfl rfl (hc2) rfl rfl fun a hf => ?_
 refine op_pass rfl hf rfl rfl (hc2) rfl rfl fun a hf => ?_
 refine op_val (ex_pick_t hf rfl hc2 rfl) rfl hf rfl rfl fun a hf => ?_
 refine op_as hf rfl rfl fun a hf => ?_
 refine wpList_nil ?_
 refine nor_then ?_
 exact ⟨true, (hf.cons rfl hf.nil), hO, hm⟩
 have hm := ie hc2 hm
 refine op_guard rfl hf rfl rfl (hc2) ?_
 refine op_mv hf rfl rfl fun a hf => ?_
 refine op_guard rfl hf rfl rfl (hc2) ?_
 refine op_val (ex_eql_b (b := x_b) (c := 9) hf rfl rfl) rfl hf rfl rfl fun a hf => ?_
 refine op_val (ex_pick_f hf rfl hc2 rfl) rfl hf rfl rfl fun a hf => ?_
 refine op_as hf rfl rfl fun a hf => ?_
 refine wpList_nil ?_
 refine nor_then ?_
 exact ⟨x_b == 9, (hf.cons rfl hf.nil), hO, hm⟩
 rintro a w ⟨t3, hf, hO, hm⟩
 rw [ref01_Blank_j1] at hm
 refine wp_ret ?_
 obtain rfl := Option.some.inj hm
 exact post_ret Tryz.results114 hf (.tmp rfl .nil) ⟨rfl, hO.below⟩

set_option maxHeartbeats 1000000 in
theorem w_ref06_Trim (x_s : Str) (R : Str) (w0 : World) (hG : Glob w0) (hm : ref06_Trim x_s = some R) :
    Calls Tryz.prog 99 #[str x_s] w0 fun e w' => e = .returned (str R) ∧ Below w0.heap.size w0 w' := by
 rw [ref06_Trim] at hm
 refine calls_enter (vs := [str x_s]) Tryz.func99 rfl Tryz.ntmps99 rfl fun a hf => ?_
 have hF : Away [] := away_nil
 have hO : Dk.Own w0 [] w0 [] := Dk.Own.refl w0
 refine wp_seq_k fun _ hK1 => ?_
 refine wp_region_list ?_
 refine op_as hf rfl rfl fun a hf => ?_
 refine wpList_nil ?_
 refine nor_then (hK1 _ _ ?_)
 refine wp_seq_k fun _ hK10 => ?_
 refine wp_block ?_
 refine wp_loop_n (fun k a w => ∃ (s2 : Str), Fits 30 [(0, str s2)] a ∧ Dk.Own w0 [] w [] ∧ ref06_Trim_L1 k s2 = some R) ?_ fuel ?_
 rintro n1 a w ⟨s2, hf, hO, hm⟩
 obtain _ | n1 := n1
 rw [ref06_Trim_L1] at hm
 cases hm
 rw [ref06_Trim_L1] at hm
 refine wp_seq_k fun _ hK8 => ?_
 refine wp_seq_cut (fun a w => ∃ (t6 : Bool), Fits 30 [(0, str s2), (10, .bool t6)] a ∧ Dk.Own w0 [] w [] ∧ ref06_Trim_j2 (ref06_Trim_L1 n1) s2 t6 = some R) ?_ ?_
 refine wp_region_list ?_
 refine op_mv hf rfl rfl fun a hf => ?_
 refine op_val (ex_len_s (l := s2) Tryz.underlying9 hf rfl) rfl hf rfl rfl fun a hf => ?_
 refine op_val (ex_gtr (m := (s2.length : Int)) (n := 0) hf rfl rfl) rfl hf rfl rfl fun a hf => ?_
 refine op_mv hf rfl rfl fun a hf => ?_
 rcases bcase (decide (0 < (s2.length : Int))) with hc3 | hc3
 have hm := it hc3 hm
 refine op_guard rfl hf rfl rfl (hc3) ?_
 refine op_mv hf rfl rfl fun a hf => ?_
 refine op_guard rfl hf rfl rfl (hc3) ?_
 obtain ⟨b4, hb4, hm⟩ := ob hm
 refine op_val (ex_index (l := s2) Tryz.underlying9 hf rfl rfl hb4) rfl hf rfl rfl fun a hf => ?_
 refine op_guard rfl hf rfl rfl (hc3) ?_
 obtain ⟨r5, hr5, hm⟩ := ob hm
 refine op_enter (ex_call c_114 hf (vs := [byte b4]) rfl) rfl hf rfl rfl (w_ref01_Blank b4 r5 _ (hG.own hF hO) hr5) ?_
 rintro e w' ⟨he, hb⟩
 refine ⟨_, he, fun a hf => ?_⟩
 have hO := hO.grow hb
 refine op_val (ex_pick_t hf rfl hc3 rfl) rfl hf rfl rfl fun a hf => ?_
 refine wpList_nil ?_
 refine nor_then ?_
 exact ⟨r5, (hf.cons rfl (hf.cons rfl hf.nil)), hO, hm⟩
 have hm := ie hc3 hm
 refine op_pass rfl hf rfl rfl (hc3) rfl rfl fun a hf => ?_
 refine op_pass rfl hf rfl rfl (hc3) rfl rfl fun a hf => ?_
 refine op_pass rfl hf rfl rfl (hc3) rfl rfl fun a hf => ?_
 refine op_val (ex_pick_f hf rfl hc3 rfl) rfl hf rfl rfl fun a hf => ?_
 refine wpList_nil ?_
 refine nor_then ?_
 exact ⟨false, (hf.cons rfl (hf.cons rfl hf.nil)), hO, hm⟩
 rintro a w ⟨t6, hf, hO, hm⟩
 rw [ref06_Trim_j2] at hm
 refine wp_cond_cut hf rfl (fun hc7 => ?_) (fun hc7 => ?_)
 have hm := it hc7 hm
 refine wp_skip ?_
 refine nor_then (hK8 _ _ ?_)
 refine wp_block ?_
 refine wp_region_list ?_
 refine op_mv hf rfl rfl fun a hf => ?_
 obtain ⟨s9, hs9, hm⟩ := ob hm
 refine op_val (ex_from_s (l := s2) Tryz.underlying9 hf rfl rfl hs9) rfl hf rfl rfl fun a hf => ?_
 refine op_as hf rfl rfl fun a hf => ?_
 refine wpList_nil ?_
 refine nor_block ?_
 refine nor_then ?_
 exact ⟨_, Nat.lt_succ_self _, s9, (hf.cons rfl hf.nil), hO, hm⟩
 have hm := ie hc7 hm
 refine wp_exit ?_
 refine exit_then ?_
 refine exit_then ?_
 refine exit_here ?_
 refine nor_then (hK10 _ _ ?_)
 refine wp_seq_k fun _ hK21 => ?_
 refine wp_block ?_
 refine wp_loop_n (fun k a w => ∃ (s11 : Str), Fits 30 [(0, str s11)] a ∧ Dk.Own w0 [] w [] ∧ ref06_Trim_L3 k s11 = some R) ?_ fuel ?_
 rintro n3 a w ⟨s11, hf, hO, hm⟩
 obtain _ | n3 := n3
 rw [ref06_Trim_L3] at hm
 cases hm
 rw [ref06_Trim_L3] at hm
 refine wp_seq_k fun _ hK18 => ?_
 refine wp_seq_cut (fun a w => ∃ (t16 : Bool), Fits 30 [(0, str s11), (23, .bool t16)] a ∧ Dk.Own w0 [] w [] ∧ ref06_Trim_j4 (ref06_Trim_L3 n3) s11 t16 = some R) ?_ ?_
 refine wp_region_list ?_
 refine op_mv hf rfl rfl fun a hf => ?_
 refine op_val (ex_len_s (l := s11) Tryz.underlying9 hf rfl) rfl hf rfl rfl fun a hf => ?_
 refine op_val (ex_gtr (m := (s11.length : Int)) (n := 0) hf rfl rfl) rfl hf rfl rfl fun a hf => ?_
 refine op_mv hf rfl rfl fun a hf => ?_
 rcases bcase (decide (0 < (s11.length : Int))) with hc12 | hc12
 have hm := it hc12 hm
 refine op_guard rfl hf rfl rfl (hc12) ?_
 refine op_mv hf rfl rfl fun a hf => ?_
 refine op_guard rfl hf rfl rfl (hc12) ?_
 refine op_mv hf rfl rfl fun a hf => ?_
 refine op_guard rfl hf rfl rfl (hc12) ?_
 refine op_val (ex_len_s (l := s11) Tryz.underlying9 hf rfl) rfl hf rfl rfl fun a hf => ?_
 refine op_guard rfl hf rfl rfl (hc12) ?_
 obtain ⟨i13, hi13, hm⟩ := ob hm
 refine op_val (ex_sub hf rfl rfl hi13) rfl hf rfl rfl fun a hf => ?_
 refine op_guard rfl hf rfl rfl (hc12) ?_
 obtain ⟨b14, hb14, hm⟩ := ob hm
 refine op_val (ex_index (l := s11) Tryz.underlying9 hf rfl rfl hb14) rfl hf rfl rfl fun a hf => ?_
 refine op_guard rfl hf rfl rfl (hc12) ?_
 obtain ⟨r15, hr15, hm⟩ := ob hm
 refine op_enter (ex_call c_114 hf (vs := [byte b14]) rfl) rfl hf rfl rfl (w_ref01_Blank b14 r15 _ (hG.own hF hO) hr15) ?_
 rintro e w' ⟨he, hb⟩
 refine ⟨_, he, fun a hf => ?_⟩
 have hO := hO.grow hb
 refine op_val (ex_pick_t hf rfl hc12 rfl) rfl hf rfl rfl fun a hf => ?_
 refine wpList_nil ?_
 refine nor_then ?_
 exact ⟨r15, (hf.cons rfl (hf.cons rfl hf.nil)), hO, hm⟩
 have hm := ie hc12 hm
 refine op_pass rfl hf rfl rfl (hc12) rfl rfl fun a hf => ?_
 refine op_pass rfl hf rfl rfl (hc12) rfl rfl fun a hf => ?_
 refine op_pass rfl hf rfl rfl (hc12) rfl rfl fun a hf => ?_
 refine op_pass rfl hf rfl rfl (hc12) rfl rfl fun a hf => ?_
 refine op_pass rfl hf rfl rfl (hc12) rfl rfl fun a hf => ?_
 refine op_pass rfl hf rfl rfl (hc12) rfl rfl fun a hf => ?_
 refine op_val (ex_pick_f hf rfl hc12 rfl) rfl hf rfl rfl fun a hf => ?_
 refine wpList_nil ?_
 refine nor_then ?_
 exact ⟨false, (hf.cons rfl (hf.cons rfl hf.nil)), hO, hm⟩
 rintro a w ⟨t16, hf, hO, hm⟩
 rw [ref06_Trim_j4] at hm
 refine wp_cond_cut hf rfl (fun hc17 => ?_) (fun hc17 => ?_)
 have hm := it hc17 hm
 refine wp_skip ?_
 refine nor_then (hK18 _ _ ?_)
 refine wp_block ?_
 refine wp_region_list ?_
 refine op_mv hf rfl rfl fun a hf => ?_
 refine op_mv hf rfl rfl fun a hf => ?_
 refine op_val (ex_len_s (l := s11) Tryz.underlying9 hf rfl) rfl hf rfl rfl fun a hf => ?_
 obtain ⟨i19, hi19, hm⟩ := ob hm
 refine op_val (ex_sub hf rfl rfl hi19) rfl hf rfl rfl fun a hf => ?_
 obtain ⟨s20, hs20, hm⟩ := ob hm
 refine op_val (ex_to_s (l := s11) Tryz.underlying9 hf rfl rfl hs20) rfl hf rfl rfl fun a hf => ?_
 refine op_as hf rfl rfl fun a hf => ?_
 refine wpList_nil ?_
 refine nor_block ?_
 refine nor_then ?_
 exact ⟨_, Nat.lt_succ_self _, s20, (hf.cons rfl hf.nil), hO, hm⟩
 have hm := ie hc17 hm
 refine wp_exit ?_
 refine exit_then ?_
 refine exit_then ?_
 refine exit_here ?_
 refine nor_then (hK21 _ _ ?_)
 refine wp_seq_k fun _ hK22 => ?_
 refine wp_region_list ?_
 refine op_mv hf rfl rfl fun a hf => ?_
 refine op_as hf rfl rfl fun a hf => ?_
 refine wpList_nil ?_
 refine nor_then (hK22 _ _ ?_)
 refine wp_ret ?_
 obtain rfl := Option.some.inj hm
 exact post_ret Tryz.results99 hf (.tmp rfl .nil) ⟨rfl, hO.below⟩
 exact ⟨s2, (hf.cons rfl hf.nil), hO, hm⟩
 exact ⟨x_s, (hf.cons rfl hf.nil), hO, hm⟩

set_option maxHeartbeats 1000000 in
theorem w_ref06_Split (x_a0 : Str) (R : List Str × Int) (w0 : World) (hG : Glob w0) (hm : ref06_Split x_a0 = some R) :
    Calls Tryz.prog 48 #[str x_a0] w0 fun e w' => ∃ (p0 : Option Addr) (c0 : Nat), e = .returned (.tuple #[.slice p0 R.1.length c0, int R.2]) ∧ Dk.Own w0 [] w' [.row (.slice p0 R.1.length c0) 9 1 R.1.length (cells enc_str R.1)] := by
 rw [ref06_Split] at hm
 refine calls_enter (vs := [str x_a0]) Tryz.func48 rfl Tryz.ntmps48 rfl fun a hf => ?_
 have hF : Away [] := away_nil
 have hO : Dk.Own w0 [] w0 [] := Dk.Own.refl w0
 refine wp_seq_k fun _ hK1 => ?_
 refine wp_region_list ?_
 have hO := hO.nilRow 9 1
 refine op_as hf rfl rfl fun a hf => ?_
 refine op_as hf rfl rfl fun a hf => ?_
 refine wpList_nil ?_
 refine nor_then (hK1 _ _ ?_)
 refine wp_seq_k fun _ hK2 => ?_
 refine wp_region_list ?_
 have hO := hO.nilRow 9 1
 refine op_as hf rfl rfl fun a hf => ?_
 refine wpList_nil ?_
 refine nor_then (hK2 _ _ ?_)
 refine wp_seq_k fun _ hK3 => ?_
 refine wp_region_list ?_
 refine op_as hf rfl rfl fun a hf => ?_
 refine wpList_nil ?_
 refine nor_then (hK3 _ _ ?_)
 refine wp_seq_k fun _ hK44 => ?_
 refine wp_seq_k fun _ hK4 => ?_
 refine wp_region_list ?_
 refine op_as hf rfl rfl fun a hf => ?_
 refine wpList_nil ?_
 refine nor_then (hK4 _ _ ?_)
 refine wp_block ?_
 refine wp_loop_n (fun k a w => ∃ (p5 : Option Addr) (c6 : Nat) (l7 : List Str) (i8 : Int) (i9 : Int), Fits 75 [(0, str x_a0), (4, .slice p5 l7.length c6), (5, int i8), (6, int i9)] a ∧ Dk.Own w0 [] w [.row (.slice p5 l7.length c6) 9 1 l7.length (cells enc_str l7), .row (.slice none 0 0) 9 1 0 (cells enc_str [])] ∧ ref06_Split_L1 x_a0 k l7 i8 i9 = some R) ?_ fuel ?_
 rintro n1 a w ⟨p5, c6, l7, i8, i9, hf, hO, hm⟩
 obtain _ | n1 := n1
 rw [ref06_Split_L1] at hm
 cases hm
 rw [ref06_Split_L1] at hm
 refine wp_seq_k fun _ hK12 => ?_
 refine wp_seq_k fun _ hK10 => ?_
 refine wp_region_list ?_
 refine op_mv hf rfl rfl fun a hf => ?_
 refine op_mv hf rfl rfl fun a hf => ?_
 refine op_val (ex_len_s (l := x_a0) Tryz.underlying9 hf rfl) rfl hf rfl rfl fun a hf => ?_
 refine op_val (ex_lss (m := i9) (n := (x_a0.length : Int)) hf rfl rfl) rfl hf rfl rfl fun a hf => ?_
 refine wpList_nil ?_
 refine nor_then (hK10 _ _ ?_)
 refine wp_cond_cut hf rfl (fun hc11 => ?_) (fun hc11 => ?_)
 have hm := it hc11 hm
 refine wp_skip ?_
 refine nor_then (hK12 _ _ ?_)
 refine wp_block ?_
 refine wp_seq_k fun _ hK27 => ?_
 refine wp_seq_cut (fun a w => ∃ (t16 : Bool), Fits 75 [(0, str x_a0), (4, .slice p5 l7.length c6), (5, int i8), (6, int i9), (23, .bool t16)] a ∧ Dk.Own w0 [] w [.row (.slice p5 l7.length c6) 9 1 l7.length (cells enc_str l7), .row (.slice none 0 0) 9 1 0 (cells enc_str [])] ∧ ref06_Split_j2 (ref06_Split_L1 x_a0 n1) x_a0 l7 i8 i9 t16 = some R) ?_ ?_
 refine wp_region_list ?_
 refine op_mv hf rfl rfl fun a hf => ?_
 refine op_mv hf rfl rfl fun a hf => ?_
 obtain ⟨b13, hb13, hm⟩ := ob hm
 refine op_val (ex_index (l := x_a0) Tryz.underlying9 hf rfl rfl hb13) rfl hf rfl rfl fun a hf => ?_
 refine op_val (ex_eql_b (b := b13) (c := 34) hf rfl rfl) rfl hf rfl rfl fun a hf => ?_
 refine op_mv hf rfl rfl fun a hf => ?_
 rcases bcase (b13 == 34) with hc14 | hc14
 have hm := it hc14 hm
 refine op_pass rfl hf rfl rfl (hc14) rfl rfl fun a hf => ?_
 refine op_pass rfl hf rfl rfl (hc14) rfl rfl fun a hf => ?_
 refine op_pass rfl hf rfl rfl (hc14) rfl rfl fun a hf => ?_
 refine op_pass rfl hf rfl rfl (hc14) rfl rfl fun a hf => ?_
 refine op_val (ex_pick_t hf rfl hc14 rfl) rfl hf rfl rfl fun a hf => ?_
 refine wpList_nil ?_
 refine nor_then ?_
 exact ⟨true, (hf.cons rfl (hf.cons rfl (hf.cons rfl (hf.cons rfl (hf.cons rfl hf.nil))))), hO, hm⟩
 have hm := ie hc14 hm
 refine op_guard rfl hf rfl rfl (hc14) ?_
 refine op_mv hf rfl rfl fun a hf => ?_
 refine op_guard rfl hf rfl rfl (hc14) ?_
 refine op_mv hf rfl rfl fun a hf => ?_
 refine op_guard rfl hf rfl rfl (hc14) ?_
 obtain ⟨b15, hb15, hm⟩ := ob hm
 refine op_val (ex_index (l := x_a0) Tryz.underlying9 hf rfl rfl hb15) rfl hf rfl rfl fun a hf => ?_
 refine op_guard rfl hf rfl rfl (hc14) ?_
 refine op_val (ex_eql_b (b := b15) (c := 40) hf rfl rfl) rfl hf rfl rfl fun a hf => ?_
 refine op_val (ex_pick_f hf rfl hc14 rfl) rfl hf rfl rfl fun a hf => ?_
 refine wpList_nil ?_
 refine nor_then ?_
 exact ⟨b15 == 40, (hf.cons rfl (hf.cons rfl (hf.cons rfl (hf.cons rfl (hf.cons rfl hf.nil))))), hO, hm⟩
 rintro a w ⟨t16, hf, hO, hm⟩
 rw [ref06_Split_j2] at hm
 refine wp_cond_cut hf rfl (fun hc17 => ?_) (fun hc17 => ?_)
 have hm := it hc17 hm
 refine wp_seq_k fun _ hK20 => ?_
 refine wp_region_list ?_
 refine op_mv hf rfl rfl fun a hf => ?_
 refine op_mv hf rfl rfl fun a hf => ?_
 obtain ⟨s18, hs18, hm⟩ := ob hm
 refine op_val (ex_from_s (l := x_a0) Tryz.underlying9 hf rfl rfl hs18) rfl hf rfl rfl fun a hf => ?_
 obtain ⟨r19, hr19, hm⟩ := ob hm
 refine op_enter (ex_call c_98 hf (vs := [str s18]) rfl) rfl hf rfl rfl (w_ref06_Inner s18 r19 _ (hG.own hF hO) hr19) ?_
 rintro e w' ⟨he, hb⟩
 refine ⟨_, he, fun a hf => ?_⟩
 have hO := hO.grow hb
 refine op_as hf rfl rfl fun a hf => ?_
 refine wpList_nil ?_
 refine nor_then (hK20 _ _ ?_)
 refine wp_seq_k fun _ hK24 => ?_
 refine wp_seq_k fun _ hK21 => ?_
 refine wp_region_list ?_
 refine op_mv hf rfl rfl fun a hf => ?_
 refine op_val (ex_eql (m := r19) (n := 0) hf rfl rfl) rfl hf rfl rfl fun a hf => ?_
 refine wpList_nil ?_
 refine nor_then (hK21 _ _ ?_)
 refine wp_cond_cut hf rfl (fun hc22 => ?_) (fun hc22 => ?_)
 have hm := it hc22 hm
 refine wp_seq_k fun _ hK23 => ?_
 refine wp_region_list ?_
 have hO := hO.nilRow 9 1
 refine op_as hf rfl rfl fun a hf => ?_
 refine op_as hf rfl rfl fun a hf => ?_
 refine wpList_nil ?_
 refine nor_then (hK23 _ _ ?_)
 refine wp_ret ?_
 refine ret_then ?_
 refine ret_then ?_
 refine ret_block ?_
 refine ret_then ?_
 refine ret_block ?_
 refine ret_then ?_
 obtain rfl := Option.some.inj hm
 exact post_ret Tryz.results48 hf (.tmp rfl (.tmp rfl .nil)) ⟨none, 0, rfl, (hO.sub (.cons_cons _ (.cons _ (.cons _ .slnil))))⟩
 have hm := ie hc22 hm
 refine wp_skip ?_
 refine nor_then (hK24 _ _ ?_)
 refine wp_seq_k fun _ hK26 => ?_
 refine wp_region_list ?_
 refine op_mv hf rfl rfl fun a hf => ?_
 refine op_mv hf rfl rfl fun a hf => ?_
 obtain ⟨i25, hi25, hm⟩ := ob hm
 refine op_val (ex_add hf rfl rfl hi25) rfl hf rfl rfl fun a hf => ?_
 refine op_as hf rfl rfl fun a hf => ?_
 refine wpList_nil ?_
 refine nor_then (hK26 _ _ ?_)
 refine wp_exit ?_
 refine exit_then ?_
 refine exit_here ?_
 refine nor_then ?_
 exact ⟨_, Nat.lt_succ_self _, p5, c6, l7, i8, i25, (hf.cons rfl (hf.cons rfl (hf.cons rfl (hf.cons rfl hf.nil)))), hO, hm⟩
 have hm := ie hc17 hm
 refine wp_skip ?_
 refine nor_then (hK27 _ _ ?_)
 refine wp_seq_cut (fun a w => ∃ (p39 : Option Addr) (c40 : Nat) (l41 : List Str) (i42 : Int), Fits 75 [(0, str x_a0), (4, .slice p39 l41.length c40), (5, int i42), (6, int i9)] a ∧ Dk.Own w0 [] w [.row (.slice p39 l41.length c40) 9 1 l41.length (cells enc_str l41), .row (.slice none 0 0) 9 1 0 (cells enc_str [])] ∧ ref06_Split_j3 (ref06_Split_L1 x_a0 n1) i9 l41 i42 = some R) ?_ ?_
 refine wp_seq_k fun _ hK29 => ?_
 refine wp_region_list ?_
 refine op_mv hf rfl rfl fun a hf => ?_
 refine op_mv hf rfl rfl fun a hf => ?_
 obtain ⟨b28, hb28, hm⟩ := ob hm
 refine op_val (ex_index (l := x_a0) Tryz.underlying9 hf rfl rfl hb28) rfl hf rfl rfl fun a hf => ?_
 refine op_val (ex_eql_b (b := b28) (c := 44) hf rfl rfl) rfl hf rfl rfl fun a hf => ?_
 refine wpList_nil ?_
 refine nor_then (hK29 _ _ ?_)
 refine wp_cond_cut hf rfl (fun hc30 => ?_) (fun hc30 => ?_)
 have hm := it hc30 hm
 refine wp_seq_k fun _ hK37 => ?_
 refine wp_region_list ?_
 refine op_mv hf rfl rfl fun a hf => ?_
 refine op_mv hf rfl rfl fun a hf => ?_
 refine op_mv hf rfl rfl fun a hf => ?_
 refine op_mv hf rfl rfl fun a hf => ?_
 obtain ⟨s31, hs31, hm⟩ := ob hm
 refine op_val (ex_sub_s (l := x_a0) Tryz.underlying9 hf rfl rfl rfl hs31) rfl hf rfl rfl fun a hf => ?_
 obtain ⟨r32, hr32, hm⟩ := ob hm
 refine op_enter (ex_call c_99 hf (vs := [str s31]) rfl) rfl hf rfl rfl (w_ref06_Trim s31 r32 _ (hG.own hF hO) hr32) ?_
 rintro e w' ⟨he, hb⟩
 refine ⟨_, he, fun a hf => ?_⟩
 have hO := hO.grow hb
 refine op_buildSlice (vs := [(0, str r32)]) (cs := [str r32]) (e := 9) (sz := 1) hf rfl rfl (fun w => by kernel_rfl) rfl rfl hO fun a b33 w hf hO => ?_
 obtain ⟨hg36, hm⟩ := og hm
 refine op_appendT el_40 (enc := enc_str) (xs := l7) (ys := [r32]) (i := 1) (fun _ => rfl) rfl (hO.rowSees (i := 0) rfl) (by simp [cells, enc_str, Value.oneCell']) hg36 hf rfl rfl rfl hO fun a p34 c35 w hf hO => ?_
 refine op_as hf rfl rfl fun a hf => ?_
 refine wpList_nil ?_
 refine nor_then (hK37 _ _ ?_)
 refine wp_region_list ?_
 refine op_mv hf rfl rfl fun a hf => ?_
 obtain ⟨i38, hi38, hm⟩ := ob hm
 refine op_val (ex_add hf rfl rfl hi38) rfl hf rfl rfl fun a hf => ?_
 refine op_as hf rfl rfl fun a hf => ?_
 refine wpList_nil ?_
 refine nor_then ?_
 exact ⟨p34, c35, l7 ++ [r32], i38, (hf.cons rfl (hf.cons rfl (hf.cons rfl (hf.cons rfl hf.nil)))), (hO.sub (.cons _ (.cons_cons _ (.cons_cons _ .slnil)))), hm⟩
 have hm := ie hc30 hm
 refine wp_skip ?_
 refine nor_then ?_
 exact ⟨p5, c6, l7, i8, (hf.cons rfl (hf.cons rfl (hf.cons rfl (hf.cons rfl hf.nil)))), hO, hm⟩
 rintro a w ⟨p39, c40, l41, i42, hf, hO, hm⟩
 rw [ref06_Split_j3] at hm
 refine wp_region_list ?_
 refine op_mv hf rfl rfl fun a hf => ?_
 obtain ⟨i43, hi43, hm⟩ := ob hm
 refine op_val (ex_add hf rfl rfl hi43) rfl hf rfl rfl fun a hf => ?_
 refine op_as hf rfl rfl fun a hf => ?_
 refine wpList_nil ?_
 refine nor_block ?_
 refine nor_then ?_
 exact ⟨_, Nat.lt_succ_self _, p39, c40, l41, i42, i43, (hf.cons rfl (hf.cons rfl (hf.cons rfl (hf.cons rfl hf.nil)))), hO, hm⟩
 have hm := ie hc11 hm
 refine wp_exit ?_
 refine exit_then ?_
 refine exit_then ?_
 refine exit_here ?_
 refine nor_then (hK44 _ _ ?_)
 refine wp_seq_k fun _ hK51 => ?_
 refine wp_region_list ?_
 refine op_mv hf rfl rfl fun a hf => ?_
 refine op_mv hf rfl rfl fun a hf => ?_
 refine op_mv hf rfl rfl fun a hf => ?_
 obtain ⟨s45, hs45, hm⟩ := ob hm
 refine op_val (ex_from_s (l := x_a0) Tryz.underlying9 hf rfl rfl hs45) rfl hf rfl rfl fun a hf => ?_
 obtain ⟨r46, hr46, hm⟩ := ob hm
 refine op_enter (ex_call c_99 hf (vs := [str s45]) rfl) rfl hf rfl rfl (w_ref06_Trim s45 r46 _ (hG.own hF hO) hr46) ?_
 rintro e w' ⟨he, hb⟩
 refine ⟨_, he, fun a hf => ?_⟩
 have hO := hO.grow hb
 refine op_buildSlice (vs := [(0, str r46)]) (cs := [str r46]) (e := 9) (sz := 1) hf rfl rfl (fun w => by kernel_rfl) rfl rfl hO fun a b47 w hf hO => ?_
 obtain ⟨hg50, hm⟩ := og hm
 refine op_appendT el_40 (enc := enc_str) (xs := l7) (ys := [r46]) (i := 1) (fun _ => rfl) rfl (hO.rowSees (i := 0) rfl) (by simp [cells, enc_str, Value.oneCell']) hg50 hf rfl rfl rfl hO fun a p48 c49 w hf hO => ?_
 refine op_as hf rfl rfl fun a hf => ?_
 refine wpList_nil ?_
 refine nor_then (hK51 _ _ ?_)
 refine wp_seq_k fun _ hK52 => ?_
 refine wp_region_list ?_
 have hO := hO.nilRow 9 1
 refine op_as hf rfl rfl fun a hf => ?_
 refine wpList_nil ?_
 refine nor_then (hK52 _ _ ?_)
 refine wp_seq_k fun _ hK77 => ?_
 refine wp_seq_k fun _ hK53 => ?_
 refine wp_region_list ?_
 refine op_as hf rfl rfl fun a hf => ?_
 refine wpList_nil ?_
 refine nor_then (hK53 _ _ ?_)
 refine wp_block ?_
 refine wp_loop_n (fun k a w => ∃ (p54 : Option Addr) (c55 : Nat) (l56 : List Str) (i57 : Int), Fits 75 [(4, .slice p48 ((l7 ++ [r46]).length) c49), (8, .slice p54 l56.length c55), (9, int i57)] a ∧ Dk.Own w0 [] w [.row (.slice p54 l56.length c55) 9 1 l56.length (cells enc_str l56), .row (.slice (some ⟨b47, 0, none⟩) ([r46].length) 1) 9 1 ([r46].length) (cells enc_str [r46]), .row (.slice p48 ((l7 ++ [r46]).length) c49) 9 1 ((l7 ++ [r46]).length) (cells enc_str (l7 ++ [r46])), .row (.slice none 0 0) 9 1 0 (cells enc_str [])] ∧ ref06_Split_L4 l7 r46 k l56 i57 = some R) ?_ fuel ?_
 rintro n4 a w ⟨p54, c55, l56, i57, hf, hO, hm⟩
 obtain _ | n4 := n4
 rw [ref06_Split_L4] at hm
 cases hm
 rw [ref06_Split_L4] at hm
 refine wp_seq_k fun _ hK60 => ?_
 refine wp_seq_k fun _ hK58 => ?_
 refine wp_region_list ?_
 refine op_mv hf rfl rfl fun a hf => ?_
 refine op_mv hf rfl rfl fun a hf => ?_
 refine op_val (ex_len_l Tryz.underlying40 hf rfl) rfl hf rfl rfl fun a hf => ?_
 refine op_val (ex_lss (m := i57) (n := ((l7 ++ [r46]).length : Int)) hf rfl rfl) rfl hf rfl rfl fun a hf => ?_
 refine wpList_nil ?_
 refine nor_then (hK58 _ _ ?_)
 refine wp_cond_cut hf rfl (fun hc59 => ?_) (fun hc59 => ?_)
 have hm := it hc59 hm
 refine wp_skip ?_
 refine nor_then (hK60 _ _ ?_)
 refine wp_seq_cut (fun a w => ∃ (p73 : Option Addr) (c74 : Nat) (l75 : List Str), Fits 75 [(4, .slice p48 ((l7 ++ [r46]).length) c49), (8, .slice p73 l75.length c74), (9, int i57)] a ∧ Dk.Own w0 [] w [.row (.slice p73 l75.length c74) 9 1 l75.length (cells enc_str l75), .row (.slice (some ⟨b47, 0, none⟩) ([r46].length) 1) 9 1 ([r46].length) (cells enc_str [r46]), .row (.slice p48 ((l7 ++ [r46]).length) c49) 9 1 ((l7 ++ [r46]).length) (cells enc_str (l7 ++ [r46])), .row (.slice none 0 0) 9 1 0 (cells enc_str [])] ∧ ref06_Split_j5 (ref06_Split_L4 l7 r46 n4) i57 l75 = some R) ?_ ?_
 refine wp_block ?_
 refine wp_seq_k fun _ hK64 => ?_
 refine wp_region_list ?_
 refine op_mv hf rfl rfl fun a hf => ?_
 refine op_mv hf rfl rfl fun a hf => ?_
 obtain ⟨x61, hx61, hm⟩ := ob hm
 obtain ⟨b62, o63, hix61, hSx61, hAx61⟩ := elemAtRow (enc := enc_str) (sz := 1) (xs := l7 ++ [r46]) 40 Tryz.underlying40 sz_9 (by decide) (fun _ => rfl) hO (i := 2) rfl hx61
 refine op_val (ex_indexAddr hix61 hf rfl rfl) rfl hf rfl rfl fun a hf => ?_
 refine op_val (ex_load1 (o := 0) ag_9 (hSx61 _ (hO.rowSees (i := 2) rfl)) rfl hf rfl) rfl hf rfl rfl fun a hf => ?_
 refine op_val (ex_neq_s (l := x61) (m := []) hf rfl rfl) rfl hf rfl rfl fun a hf => ?_
 refine wpList_nil ?_
 refine nor_then (hK64 _ _ ?_)
 refine wp_cond_cut hf rfl (fun hc65 => ?_) (fun hc65 => ?_)
 have hm := it hc65 hm
 refine wp_region_list ?_
 refine op_mv hf rfl rfl fun a hf => ?_
 refine op_mv hf rfl rfl fun a hf => ?_
 refine op_mv hf rfl rfl fun a hf => ?_
 obtain ⟨x66, hx66, hm⟩ := ob hm
 obtain ⟨b67, o68, hix66, hSx66, hAx66⟩ := elemAtRow (enc := enc_str) (sz := 1) (xs := l7 ++ [r46]) 40 Tryz.underlying40 sz_9 (by decide) (fun _ => rfl) hO (i := 2) rfl hx66
 refine op_val (ex_indexAddr hix66 hf rfl rfl) rfl hf rfl rfl fun a hf => ?_
 refine op_val (ex_load1 (o := 0) ag_9 (hSx66 _ (hO.rowSees (i := 2) rfl)) rfl hf rfl) rfl hf rfl rfl fun a hf => ?_
 refine op_buildSlice (vs := [(0, str x66)]) (cs := [str x66]) (e := 9) (sz := 1) hf rfl rfl (fun w => by kernel_rfl) rfl rfl hO fun a b69 w hf hO => ?_
 obtain ⟨hg72, hm⟩ := og hm
 refine op_appendT el_40 (enc := enc_str) (xs := l56) (ys := [x66]) (i := 1) (fun _ => rfl) rfl (hO.rowSees (i := 0) rfl) (by simp [cells, enc_str, Value.oneCell']) hg72 hf rfl rfl rfl hO fun a p70 c71 w hf hO => ?_
 refine op_as hf rfl rfl fun a hf => ?_
 refine wpList_nil ?_
 refine nor_block ?_
 refine nor_then ?_
 exact ⟨p70, c71, l56 ++ [x66], (hf.cons rfl (hf.cons rfl (hf.cons rfl hf.nil))), (hO.sub (.cons _ (.cons_cons _ (.cons_cons _ (.cons_cons _ (.cons_cons _ .slnil)))))), hm⟩
 have hm := ie hc65 hm
 refine wp_skip ?_
 refine nor_block ?_
 refine nor_then ?_
 exact ⟨p54, c55, l56, (hf.cons rfl (hf.cons rfl (hf.cons rfl hf.nil))), hO, hm⟩
 rintro a w ⟨p73, c74, l75, hf, hO, hm⟩
 rw [ref06_Split_j5] at hm
 refine wp_region_list ?_
 refine op_mv hf rfl rfl fun a hf => ?_
 obtain ⟨i76, hi76, hm⟩ := ob hm
 refine op_val (ex_add hf rfl rfl hi76) rfl hf rfl rfl fun a hf => ?_
 refine op_as hf rfl rfl fun a hf => ?_
 refine wpList_nil ?_
 refine nor_then ?_
 exact ⟨_, Nat.lt_succ_self _, p73, c74, l75, i76, (hf.cons rfl (hf.cons rfl (hf.cons rfl hf.nil))), hO, hm⟩
 have hm := ie hc59 hm
 refine wp_exit ?_
 refine exit_then ?_
 refine exit_then ?_
 refine exit_here ?_
 refine nor_then (hK77 _ _ ?_)
 refine wp_seq_k fun _ hK78 => ?_
 refine wp_region_list ?_
 refine op_mv hf rfl rfl fun a hf => ?_
 refine op_as hf rfl rfl fun a hf => ?_
 refine op_as hf rfl rfl fun a hf => ?_
 refine wpList_nil ?_
 refine nor_then (hK78 _ _ ?_)
 refine wp_ret ?_
 obtain rfl := Option.some.inj hm
 exact post_ret Tryz.results48 hf (.tmp rfl (.tmp rfl .nil)) ⟨p54, c55, rfl, (hO.sub (.cons_cons _ (.cons _ (.cons _ (.cons _ .slnil)))))⟩
 exact ⟨none, 0, [], 0, (hf.cons rfl (hf.cons rfl (hf.cons rfl hf.nil))), hO, hm⟩
 exact ⟨none, 0, [], 0, 0, (hf.cons rfl (hf.cons rfl (hf.cons rfl (hf.cons rfl hf.nil)))), hO, hm⟩

set_option maxHeartbeats 1000000 in
theorem w_ref27_Is (x_s : Str) (R : Bool) (w0 : World) (hG : Glob w0) (hm : ref27_Is x_s = some R) :
    Calls Tryz.prog 20 #[str x_s] w0 fun e w' => e = .returned (.bool R) ∧ Below w0.heap.size w0 w' := by
 rw [ref27_Is] at hm
 refine calls_enter (vs := [str x_s]) Tryz.func20 rfl Tryz.ntmps20 rfl fun a hf => ?_
 have hF : Away [] := away_nil
 have hO : Dk.Own w0 [] w0 [] := Dk.Own.refl w0
 refine wp_seq_k fun _ hK1 => ?_
 refine wp_region_list ?_
 refine op_as hf rfl rfl fun a hf => ?_
 refine wpList_nil ?_
 refine nor_then (hK1 _ _ ?_)
 refine wp_seq_k fun _ hK13 => ?_
 refine wp_seq_cut (fun a w => ∃ (t7 : Bool), Fits 36 [(0, str x_s), (18, .bool t7)] a ∧ Dk.Own w0 [] w [] ∧ ref27_Is_j1 x_s t7 = some R) ?_ ?_
 refine wp_region_list ?_
 refine op_mv hf rfl rfl fun a hf => ?_
 refine op_val (ex_len_s (l := x_s) Tryz.underlying9 hf rfl) rfl hf rfl rfl fun a hf => ?_
 refine op_val (ex_gtr (m := (x_s.length : Int)) (n := 2) hf rfl rfl) rfl hf rfl rfl fun a hf => ?_
 refine op_mv hf rfl rfl fun a hf => ?_
 rcases bcase (decide (2 < (x_s.length : Int))) with hc2 | hc2
 have hm := it hc2 hm
 refine op_guard rfl hf rfl rfl (hc2) ?_
 refine op_mv hf rfl rfl fun a hf => ?_
 refine op_guard rfl hf rfl rfl (hc2) ?_
 obtain ⟨b3, hb3, hm⟩ := ob hm
 refine op_val (ex_index (l := x_s) Tryz.underlying9 hf rfl rfl hb3) rfl hf rfl rfl fun a hf => ?_
 refine op_guard rfl hf rfl rfl (hc2) ?_
 refine op_val (ex_eql_b (b := b3) (c := 91) hf rfl rfl) rfl hf rfl rfl fun a hf => ?_
 refine op_val (ex_pick_t hf rfl hc2 rfl) rfl hf rfl rfl fun a hf => ?_
 refine op_mv hf rfl rfl fun a hf => ?_
 rcases bcase (b3 == 91) with hc4 | hc4
 have hm := it hc4 hm
 refine op_guard rfl hf rfl rfl (hc4) ?_
 refine op_mv hf rfl rfl fun a hf => ?_
 refine op_guard rfl hf rfl rfl (hc4) ?_
 refine op_mv hf rfl rfl fun a hf => ?_
 refine op_guard rfl hf rfl rfl (hc4) ?_
 refine op_val (ex_len_s (l := x_s) Tryz.underlying9 hf rfl) rfl hf rfl rfl fun a hf => ?_
 refine op_guard rfl hf rfl rfl (hc4) ?_
 obtain ⟨i5, hi5, hm⟩ := ob hm
 refine op_val (ex_sub hf rfl rfl hi5) rfl hf rfl rfl fun a hf => ?_
 refine op_guard rfl hf rfl rfl (hc4) ?_
 obtain ⟨b6, hb6, hm⟩ := ob hm
 refine op_val (ex_index (l := x_s) Tryz.underlying9 hf rfl rfl hb6) rfl hf rfl rfl fun a hf => ?_
 refine op_guard rfl hf rfl rfl (hc4) ?_
 refine op_val (ex_eql_b (b := b6) (c := 93) hf rfl rfl) rfl hf rfl rfl fun a hf => ?_
 refine op_val (ex_pick_t hf rfl hc4 rfl) rfl hf rfl rfl fun a hf => ?_
 refine wpList_nil ?_
 refine nor_then ?_
 exact ⟨b6 == 93, (hf.cons rfl (hf.cons rfl hf.nil)), hO, hm⟩
 have hm := ie hc4 hm
 refine op_pass rfl hf rfl rfl (hc4) rfl rfl fun a hf => ?_
 refine op_pass rfl hf rfl rfl (hc4) rfl rfl fun a hf => ?_
 refine op_pass rfl hf rfl rfl (hc4) rfl rfl fun a hf => ?_
 refine op_pass rfl hf rfl rfl (hc4) rfl rfl fun a hf => ?_
 refine op_pass rfl hf rfl rfl (hc4) rfl rfl fun a hf => ?_
 refine op_pass rfl hf rfl rfl (hc4) rfl rfl fun a hf => ?_
 refine op_val (ex_pick_f hf rfl hc4 rfl) rfl hf rfl rfl fun a hf => ?_
 refine wpList_nil ?_
 refine nor_then ?_
 exact ⟨false, (hf.cons rfl (hf.cons rfl hf.nil)), hO, hm⟩
 have hm := ie hc2 hm
 refine op_pass rfl hf rfl rfl (hc2) rfl rfl fun a hf => ?_
 refine op_pass rfl hf rfl rfl (hc2) rfl rfl fun a hf => ?_
 refine op_pass rfl hf rfl rfl (hc2) rfl rfl fun a hf => ?_
 refine op_val (ex_pick_f hf rfl hc2 rfl) rfl hf rfl rfl fun a hf => ?_
 refine op_mv hf rfl rfl fun a hf => ?_
 refine op_pass rfl hf rfl rfl (rfl) rfl rfl fun a hf => ?_
 refine op_pass rfl hf rfl rfl (rfl) rfl rfl fun a hf => ?_
 refine op_pass rfl hf rfl rfl (rfl) rfl rfl fun a hf => ?_
 refine op_pass rfl hf rfl rfl (rfl) rfl rfl fun a hf => ?_
 refine op_pass rfl hf rfl rfl (rfl) rfl rfl fun a hf => ?_
 refine op_pass rfl hf rfl rfl (rfl) rfl rfl fun a hf => ?_
 refine op_val (ex_pick_f hf rfl rfl rfl) rfl hf rfl rfl fun a hf => ?_
 refine wpList_nil ?_
 refine nor_then ?_
 exact ⟨false, (hf.cons rfl (hf.cons rfl hf.nil)), hO, hm⟩
 rintro a w ⟨t7, hf, hO, hm⟩
 rw [ref27_Is_j1] at hm
 refine wp_cond_cut hf rfl (fun hc8 => ?_) (fun hc8 => ?_)
 have hm := it hc8 hm
 refine wp_seq_k fun _ hK12 => ?_
 refine wp_region_list ?_
 refine op_mv hf rfl rfl fun a hf => ?_
 refine op_mv hf rfl rfl fun a hf => ?_
 refine op_val (ex_len_s (l := x_s) Tryz.underlying9 hf rfl) rfl hf rfl rfl fun a hf => ?_
 obtain ⟨i9, hi9, hm⟩ := ob hm
 refine op_val (ex_sub hf rfl rfl hi9) rfl hf rfl rfl fun a hf => ?_
 obtain ⟨s10, hs10, hm⟩ := ob hm
 refine op_val (ex_sub_s (l := x_s) Tryz.underlying9 hf rfl rfl rfl hs10) rfl hf rfl rfl fun a hf => ?_
 obtain ⟨r11, hr11, hm⟩ := ob hm
 refine op_enter (ex_call c_54 hf (vs := [str s10]) rfl) rfl hf rfl rfl (w_ref08_Six s10 r11 _ (hG.own hF hO) hr11) ?_
 rintro e w' ⟨he, hb⟩
 refine ⟨_, he, fun a hf => ?_⟩
 have hO := hO.grow hb
 refine op_as hf rfl rfl fun a hf => ?_
 refine wpList_nil ?_
 refine nor_then (hK12 _ _ ?_)
 refine wp_ret ?_
 refine ret_then ?_
 obtain rfl := Option.some.inj hm
 exact post_ret Tryz.results20 hf (.tmp rfl .nil) ⟨rfl, hO.below⟩
 have hm := ie hc8 hm
 refine wp_skip ?_
 refine nor_then (hK13 _ _ ?_)
 refine wp_seq_cut (fun a w => ∃ (t19 : Bool), Fits 36 [(2, .bool t19)] a ∧ Dk.Own w0 [] w [] ∧ ref27_Is_j2 t19 = some R) ?_ ?_
 refine wp_region_list ?_
 refine op_mv hf rfl rfl fun a hf => ?_
 obtain ⟨r14, hr14, hm⟩ := ob hm
 refine op_enter (ex_call c_55 hf (vs := [str x_s]) rfl) rfl hf rfl rfl (w_ref08_Four x_s r14 _ (hG.own hF hO) hr14) ?_
 rintro e w' ⟨he, hb⟩
 refine ⟨_, he, fun a hf => ?_⟩
 have hO := hO.grow hb
 refine op_mv hf rfl rfl fun a hf => ?_
 rcases bcase (r14) with hc15 | hc15
 have hm := it hc15 hm
 refine op_pass rfl hf rfl rfl (hc15) rfl rfl fun a hf => ?_
 refine op_pass rfl hf rfl rfl (hc15) rfl rfl fun a hf => ?_
 refine op_val (ex_pick_t hf rfl hc15 rfl) rfl hf rfl rfl fun a hf => ?_
 refine op_mv hf rfl rfl fun a hf => ?_
 refine op_pass rfl hf rfl rfl (rfl) rfl rfl fun a hf => ?_
 refine op_pass rfl hf rfl rfl (rfl) rfl rfl fun a hf => ?_
 refine op_pass rfl hf rfl rfl (rfl) rfl rfl fun a hf => ?_
 refine op_val (ex_pick_t hf rfl rfl rfl) rfl hf rfl rfl fun a hf => ?_
 refine op_as hf rfl rfl fun a hf => ?_
 refine wpList_nil ?_
 refine nor_then ?_
 exact ⟨true, (hf.cons rfl hf.nil), hO, hm⟩
 have hm := ie hc15 hm
 refine op_guard rfl hf rfl rfl (hc15) ?_
 refine op_mv hf rfl rfl fun a hf => ?_
 refine op_guard rfl hf rfl rfl (hc15) ?_
 obtain ⟨r16, hr16, hm⟩ := ob hm
 refine op_enter (ex_call c_54 hf (vs := [str x_s]) rfl) rfl hf rfl rfl (w_ref08_Six x_s r16 _ (hG.own hF hO) hr16) ?_
 rintro e w' ⟨he, hb⟩
 refine ⟨_, he, fun a hf => ?_⟩
 have hO := hO.grow hb
 refine op_val (ex_pick_f hf rfl hc15 rfl) rfl hf rfl rfl fun a hf => ?_
 refine op_mv hf rfl rfl fun a hf => ?_
 rcases bcase (r16) with hc17 | hc17
 have hm := it hc17 hm
 refine op_pass rfl hf rfl rfl (hc17) rfl rfl fun a hf => ?_
 refine op_pass rfl hf rfl rfl (hc17) rfl rfl fun a hf => ?_
 refine op_pass rfl hf rfl rfl (hc17) rfl rfl fun a hf => ?_
 refine op_val (ex_pick_t hf rfl hc17 rfl) rfl hf rfl rfl fun a hf => ?_
 refine op_as hf rfl rfl fun a hf => ?_
 refine wpList_nil ?_
 refine nor_then ?_
 exact ⟨true, (hf.cons rfl hf.nil), hO, hm⟩
 have hm := ie hc17 hm
 refine op_guard rfl hf rfl rfl (hc17) ?_
 refine op_mv hf rfl rfl fun a hf => ?_
 refine op_guard rfl hf rfl rfl (hc17) ?_
 obtain ⟨r18, hr18, hm⟩ := ob hm
 refine op_enter (ex_call c_56 hf (vs := [str x_s]) rfl) rfl hf rfl rfl (w_ref01_Fold x_s r18 _ (hG.own hF hO) hr18) ?_
 rintro e w' ⟨he, hb⟩
 refine ⟨_, he, fun a hf => ?_⟩
 have hO := hO.grow hb
 refine op_guard rfl hf rfl rfl (hc17) ?_
 refine op_val (ex_eql_s (l := r18) (m := [117, 110, 107, 110, 111, 119, 110]) hf rfl rfl) rfl hf rfl rfl fun a hf => ?_
 refine op_val (ex_pick_f hf rfl hc17 rfl) rfl hf rfl rfl fun a hf => ?_
 refine op_as hf rfl rfl fun a hf => ?_
 refine wpList_nil ?_
 refine nor_then ?_
 exact ⟨r18 == [117, 110, 107, 110, 111, 119, 110], (hf.cons rfl hf.nil), hO, hm⟩
 rintro a w ⟨t19, hf, hO, hm⟩
 rw [ref27_Is_j2] at hm
 refine wp_ret ?_
 obtain rfl := Option.some.inj hm
 exact post_ret Tryz.results20 hf (.tmp rfl .nil) ⟨rfl, hO.below⟩

set_option maxHeartbeats 1000000 in
theorem w_ref27_List (x_values : List Str) (R : List Str × Int) (w0 : World) (hG : Glob w0) {x_values_p0 : Option Addr} {x_values_c0 : Nat} (hs0 : Sees w0 x_values_p0 (cells enc_str x_values)) (hc0 : x_values.length ≤ x_values_c0) (hm : ref27_List x_values = some R) :
    Calls Tryz.prog 18 #[.slice x_values_p0 x_values.length x_values_c0] w0 fun e w' => ∃ (p0 : Option Addr) (c0 : Nat), e = .returned (.tuple #[.slice p0 R.1.length c0, int R.2]) ∧ Dk.Own w0 [] w' [.row (.slice p0 R.1.length c0) 9 1 R.1.length (cells enc_str R.1)] := by
 rw [ref27_List] at hm
 refine calls_enter (vs := [.slice x_values_p0 x_values.length x_values_c0]) Tryz.func18 rfl Tryz.ntmps18 rfl fun a hf => ?_
 have hF : Away [] := away_nil
 have hO : Dk.Own w0 [] w0 [] := Dk.Own.refl w0
 have hO := hO.addShr hs0 (by simp [Res.shared])
 refine wp_seq_k fun _ hK1 => ?_
 refine wp_region_list ?_
 have hO := hO.nilRow 9 1
 refine op_as hf rfl rfl fun a hf => ?_
 refine op_as hf rfl rfl fun a hf => ?_
 refine wpList_nil ?_
 refine nor_then (hK1 _ _ ?_)
 refine wp_seq_k fun _ hK2 => ?_
 refine wp_region_list ?_
 have hO := hO.nilRow 9 1
 refine op_as hf rfl rfl fun a hf => ?_
 refine wpList_nil ?_
 refine nor_then (hK2 _ _ ?_)
 refine wp_seq_k fun _ hK49 => ?_
 refine wp_seq_k fun _ hK3 => ?_
 refine wp_region_list ?_
 refine op_as hf rfl rfl fun a hf => ?_
 refine wpList_nil ?_
 refine nor_then (hK3 _ _ ?_)
 refine wp_block ?_
 refine wp_loop_n (fun k a w => ∃ (p4 : Option Addr) (c5 : Nat) (l6 : List Str) (i7 : Int), Fits 46 [(0, .slice x_values_p0 x_values.length x_values_c0), (4, .slice p4 l6.length c5), (5, int i7)] a ∧ Dk.Own w0 [] w [.row (.slice p4 l6.length c5) 9 1 l6.length (cells enc_str l6), .row (.slice none 0 0) 9 1 0 (cells enc_str []), .shr x_values_p0 (cells enc_str x_values)] ∧ ref27_List_L1 x_values k l6 i7 = some R) ?_ fuel ?_
 rintro n1 a w ⟨p4, c5, l6, i7, hf, hO, hm⟩
 obtain _ | n1 := n1
 rw [ref27_List_L1] at hm
 cases hm
 rw [ref27_List_L1] at hm
 refine wp_seq_k fun _ hK10 => ?_
 refine wp_seq_k fun _ hK8 => ?_
 refine wp_region_list ?_
 refine op_mv hf rfl rfl fun a hf => ?_
 refine op_mv hf rfl rfl fun a hf => ?_
 refine op_val (ex_len_l Tryz.underlying40 hf rfl) rfl hf rfl rfl fun a hf => ?_
 refine op_val (ex_lss (m := i7) (n := (x_values.length : Int)) hf rfl rfl) rfl hf rfl rfl fun a hf => ?_
 refine wpList_nil ?_
 refine nor_then (hK8 _ _ ?_)
 refine wp_cond_cut hf rfl (fun hc9 => ?_) (fun hc9 => ?_)
 have hm := it hc9 hm
 refine wp_skip ?_
 refine nor_then (hK10 _ _ ?_)
 refine wp_seq_k fun _ hK47 => ?_
 refine wp_block ?_
 refine wp_seq_k fun _ hK17 => ?_
 refine wp_region_list ?_
 refine op_mv hf rfl rfl fun a hf => ?_
 refine op_mv hf rfl rfl fun a hf => ?_
 obtain ⟨x11, hx11, hm⟩ := ob hm
 obtain ⟨b12, o13, hix11, hSx11⟩ := elemAt (enc := enc_str) (sz := 1) (xs := x_values) 40 Tryz.underlying40 sz_9 (by decide) (fun _ => rfl) (hO.sees (i := 2) rfl) hx11
 refine op_val (ex_indexAddr hix11 hf rfl rfl) rfl hf rfl rfl fun a hf => ?_
 refine op_val (ex_load1 (o := 0) ag_9 (hSx11 _ (hO.sees (i := 2) rfl)) rfl hf rfl) rfl hf rfl rfl fun a hf => ?_
 obtain ⟨r14, hr14, hm⟩ := ob hm
 refine op_enter (ex_call c_48 hf (vs := [str x11]) rfl) rfl hf rfl rfl (w_ref06_Split x11 r14 _ (hG.own hF hO) hr14) ?_
 rintro e w' ⟨p15, c16, he, hO'⟩
 refine ⟨_, he, fun a hf => ?_⟩
 have hO := hO.call hO' (by simp [Res.shared])
 refine op_mv hf rfl rfl fun a hf => ?_
 refine op_val (ex_extract hf rfl rfl) rfl hf rfl rfl fun a hf => ?_
 refine op_val (ex_extract hf rfl rfl) rfl hf rfl rfl fun a hf => ?_
 refine op_as hf rfl rfl fun a hf => ?_
 refine op_as hf rfl rfl fun a hf => ?_
 refine wpList_nil ?_
 refine nor_then (hK17 _ _ ?_)
 refine wp_seq_k fun _ hK21 => ?_
 refine wp_seq_k fun _ hK18 => ?_
 refine wp_region_list ?_
 refine op_mv hf rfl rfl fun a hf => ?_
 refine op_val (ex_neq (m := r14.2) (n := 0) hf rfl rfl) rfl hf rfl rfl fun a hf => ?_
 refine wpList_nil ?_
 refine nor_then (hK18 _ _ ?_)
 refine wp_cond_cut hf rfl (fun hc19 => ?_) (fun hc19 => ?_)
 have hm := it hc19 hm
 refine wp_seq_k fun _ hK20 => ?_
 refine wp_region_list ?_
 refine op_mv hf rfl rfl fun a hf => ?_
 have hO := hO.nilRow 9 1
 refine op_as hf rfl rfl fun a hf => ?_
 refine op_as hf rfl rfl fun a hf => ?_
 refine wpList_nil ?_
 refine nor_then (hK20 _ _ ?_)
 refine wp_ret ?_
 refine ret_then ?_
 refine ret_block ?_
 refine ret_then ?_
 refine ret_then ?_
 refine ret_block ?_
 refine ret_then ?_
 obtain rfl := Option.some.inj hm
 exact post_ret Tryz.results18 hf (.tmp rfl (.tmp rfl .nil)) ⟨none, 0, rfl, (hO.sub (.cons_cons _ (.cons _ (.cons _ (.cons _ (.cons _ .slnil))))))⟩
 have hm := ie hc19 hm
 refine wp_skip ?_
 refine nor_then (hK21 _ _ ?_)
 refine wp_seq_k fun _ hK22 => ?_
 refine wp_region_list ?_
 refine op_as hf rfl rfl fun a hf => ?_
 refine wpList_nil ?_
 refine nor_then (hK22 _ _ ?_)
 refine wp_block ?_
 refine wp_loop_n (fun k a w => ∃ (p23 : Option Addr) (c24 : Nat) (l25 : List Str) (i26 : Int), Fits 46 [(0, .slice x_values_p0 x_values.length x_values_c0), (4, .slice p23 l25.length c24), (5, int i7), (6, .slice p15 r14.1.length c16), (8, int i26)] a ∧ Dk.Own w0 [] w [.row (.slice p15 r14.1.length c16) 9 1 r14.1.length (cells enc_str r14.1), .row (.slice p23 l25.length c24) 9 1 l25.length (cells enc_str l25), .row (.slice none 0 0) 9 1 0 (cells enc_str []), .shr x_values_p0 (cells enc_str x_values)] ∧ ref27_List_L2 (ref27_List_L1 x_values n1) i7 r14 k l25 i26 = some R) ?_ fuel ?_
 rintro n2 a w ⟨p23, c24, l25, i26, hf, hO, hm⟩
 obtain _ | n2 := n2
 rw [ref27_List_L2] at hm
 cases hm
 rw [ref27_List_L2] at hm
 refine wp_seq_k fun _ hK29 => ?_
 refine wp_seq_k fun _ hK27 => ?_
 refine wp_region_list ?_
 refine op_mv hf rfl rfl fun a hf => ?_
 refine op_mv hf rfl rfl fun a hf => ?_
 refine op_val (ex_len_l Tryz.underlying40 hf rfl) rfl hf rfl rfl fun a hf => ?_
 refine op_val (ex_lss (m := i26) (n := (r14.1.length : Int)) hf rfl rfl) rfl hf rfl rfl fun a hf => ?_
 refine wpList_nil ?_
 refine nor_then (hK27 _ _ ?_)
 refine wp_cond_cut hf rfl (fun hc28 => ?_) (fun hc28 => ?_)
 have hm := it hc28 hm
 refine wp_skip ?_
 refine nor_then (hK29 _ _ ?_)
 refine wp_seq_k fun _ hK45 => ?_
 refine wp_block ?_
 refine wp_seq_k fun _ hK37 => ?_
 refine wp_seq_k fun _ hK34 => ?_
 refine wp_region_list ?_
 refine op_mv hf rfl rfl fun a hf => ?_
 refine op_mv hf rfl rfl fun a hf => ?_
 obtain ⟨x30, hx30, hm⟩ := ob hm
 obtain ⟨b31, o32, hix30, hSx30, hAx30⟩ := elemAtRow (enc := enc_str) (sz := 1) (xs := r14.1) 40 Tryz.underlying40 sz_9 (by decide) (fun _ => rfl) hO (i := 0) rfl hx30
 refine op_val (ex_indexAddr hix30 hf rfl rfl) rfl hf rfl rfl fun a hf => ?_
 refine op_val (ex_load1 (o := 0) ag_9 (hSx30 _ (hO.rowSees (i := 0) rfl)) rfl hf rfl) rfl hf rfl rfl fun a hf => ?_
 obtain ⟨r33, hr33, hm⟩ := ob hm
 refine op_enter (ex_call c_20 hf (vs := [str x30]) rfl) rfl hf rfl rfl (w_ref27_Is x30 r33 _ (hG.own hF hO) hr33) ?_
 rintro e w' ⟨he, hb⟩
 refine ⟨_, he, fun a hf => ?_⟩
 have hO := hO.grow hb
 refine op_val (ex_not hf rfl) rfl hf rfl rfl fun a hf => ?_
 refine wpList_nil ?_
 refine nor_then (hK34 _ _ ?_)
 refine wp_cond_cut hf rfl (fun hc35 => ?_) (fun hc35 => ?_)
 have hm := it hc35 hm
 refine wp_seq_k fun _ hK36 => ?_
 refine wp_region_list ?_
 have hO := hO.nilRow 9 1
 refine op_as hf rfl rfl fun a hf => ?_
 refine op_as hf rfl rfl fun a hf => ?_
 refine wpList_nil ?_
 refine nor_then (hK36 _ _ ?_)
 refine wp_ret ?_
 refine ret_then ?_
 refine ret_block ?_
 refine ret_then ?_
 refine ret_then ?_
 refine ret_block ?_
 refine ret_block ?_
 refine ret_then ?_
 refine ret_then ?_
 refine ret_block ?_
 refine ret_then ?_
 obtain rfl := Option.some.inj hm
 exact post_ret Tryz.results18 hf (.tmp rfl (.tmp rfl .nil)) ⟨none, 0, rfl, (hO.sub (.cons_cons _ (.cons _ (.cons _ (.cons _ (.cons _ .slnil))))))⟩
 have hm := ie hc35 hm
 refine wp_skip ?_
 refine nor_then (hK37 _ _ ?_)
 refine wp_region_list ?_
 refine op_mv hf rfl rfl fun a hf => ?_
 refine op_mv hf rfl rfl fun a hf => ?_
 refine op_mv hf rfl rfl fun a hf => ?_
 obtain ⟨x38, hx38, hm⟩ := ob hm
 obtain ⟨b39, o40, hix38, hSx38, hAx38⟩ := elemAtRow (enc := enc_str) (sz := 1) (xs := r14.1) 40 Tryz.underlying40 sz_9 (by decide) (fun _ => rfl) hO (i := 0) rfl hx38
 refine op_val (ex_indexAddr hix38 hf rfl rfl) rfl hf rfl rfl fun a hf => ?_
 refine op_val (ex_load1 (o := 0) ag_9 (hSx38 _ (hO.rowSees (i := 0) rfl)) rfl hf rfl) rfl hf rfl rfl fun a hf => ?_
 refine op_buildSlice (vs := [(0, str x38)]) (cs := [str x38]) (e := 9) (sz := 1) hf rfl rfl (fun w => by kernel_rfl) rfl rfl hO fun a b41 w hf hO => ?_
 obtain ⟨hg44, hm⟩ := og hm
 refine op_appendT el_40 (enc := enc_str) (xs := l25) (ys := [x38]) (i := 2) (fun _ => rfl) rfl (hO.rowSees (i := 0) rfl) (by simp [cells, enc_str, Value.oneCell']) hg44 hf rfl rfl rfl hO fun a p42 c43 w hf hO => ?_
 refine op_as hf rfl rfl fun a hf => ?_
 refine wpList_nil ?_
 refine nor_block ?_
 refine nor_then (hK45 _ _ ?_)
 refine wp_region_list ?_
 refine op_mv hf rfl rfl fun a hf => ?_
 obtain ⟨i46, hi46, hm⟩ := ob hm
 refine op_val (ex_add hf rfl rfl hi46) rfl hf rfl rfl fun a hf => ?_
 refine op_as hf rfl rfl fun a hf => ?_
 refine wpList_nil ?_
 refine nor_then ?_
 exact ⟨_, Nat.lt_succ_self _, p42, c43, l25 ++ [x38], i46, (hf.cons rfl (hf.cons rfl (hf.cons rfl (hf.cons rfl (hf.cons rfl hf.nil))))), (hO.sub (.cons _ (.cons_cons _ (.cons_cons _ (.cons_cons _ (.cons_cons _ .slnil)))))), hm⟩
 have hm := ie hc28 hm
 refine wp_exit ?_
 refine exit_then ?_
 refine exit_then ?_
 refine exit_here ?_
 refine nor_block ?_
 refine nor_then (hK47 _ _ ?_)
 refine wp_region_list ?_
 refine op_mv hf rfl rfl fun a hf => ?_
 obtain ⟨i48, hi48, hm⟩ := ob hm
 refine op_val (ex_add hf rfl rfl hi48) rfl hf rfl rfl fun a hf => ?_
 refine op_as hf rfl rfl fun a hf => ?_
 refine wpList_nil ?_
 refine nor_then ?_
 exact ⟨_, Nat.lt_succ_self _, p23, c24, l25, i48, (hf.cons rfl (hf.cons rfl (hf.cons rfl hf.nil))), (hO.sub (.cons _ (.cons_cons _ (.cons_cons _ (.cons_cons _ .slnil))))), hm⟩
 exact ⟨p4, c5, l6, 0, (hf.cons rfl (hf.cons rfl (hf.cons rfl (hf.cons rfl (hf.cons rfl hf.nil))))), hO, hm⟩
 have hm := ie hc9 hm
 refine wp_exit ?_
 refine exit_then ?_
 refine exit_then ?_
 refine exit_here ?_
 refine nor_then (hK49 _ _ ?_)
 refine wp_seq_k fun _ hK50 => ?_
 refine wp_region_list ?_
 refine op_mv hf rfl rfl fun a hf => ?_
 refine op_as hf rfl rfl fun a hf => ?_
 refine op_as hf rfl rfl fun a hf => ?_
 refine wpList_nil ?_
 refine nor_then (hK50 _ _ ?_)
 refine wp_ret ?_
 obtain rfl := Option.some.inj hm
 exact post_ret Tryz.results18 hf (.tmp rfl (.tmp rfl .nil)) ⟨p4, c5, rfl, (hO.sub (.cons_cons _ (.cons _ (.cons _ .slnil))))⟩
 exact ⟨none, 0, [], 0, (hf.cons rfl (hf.cons rfl (hf.cons rfl hf.nil))), hO, hm⟩

set_option maxHeartbeats 1000000 in
theorem w_xff_First (x_values : List Str) (R : Str) (w0 : World) (hG : GlobT w0) {x_values_p0 : Option Addr} {x_values_c0 : Nat} (hs0 : Sees w0 x_values_p0 (cells enc_str x_values)) (hc0 : x_values.length ≤ x_values_c0) (hm : xff_First x_values = some R) :
    Calls Tryz.prog 22 #[.slice x_values_p0 x_values.length x_values_c0] w0 fun e w' => e = .returned (str R) ∧ Below w0.heap.size w0 w' := by
 rw [xff_First] at hm
 refine calls_enter (vs := [.slice x_values_p0 x_values.length x_values_c0]) Tryz.func22 rfl Tryz.ntmps22 rfl fun a hf => ?_
 have hF : Away [] := away_nil
 have hO : Dk.Own w0 [] w0 [] := Dk.Own.refl w0
 have hO := hO.addShr hs0 (by simp [Res.shared])
 refine wp_seq_k fun _ hK1 => ?_
 refine wp_region_list ?_
 refine op_as hf rfl rfl fun a hf => ?_
 refine wpList_nil ?_
 refine nor_then (hK1 _ _ ?_)
 refine wp_seq_k fun _ hK5 => ?_
 refine wp_region_list ?_
 refine op_mv hf rfl rfl fun a hf => ?_
 obtain ⟨r2, hr2, hm⟩ := ob hm
 refine op_enter (ex_call c_17 hf (vs := [.slice x_values_p0 x_values.length x_values_c0]) rfl) rfl hf rfl rfl (w_xff_List x_values r2 _ (hG.own hF hO) (hO.sees (i := 0) rfl) hc0 hr2) ?_
 rintro e w' ⟨p3, c4, he, hO'⟩
 refine ⟨_, he, fun a hf => ?_⟩
 have hO := hO.call hO' (by simp [Res.shared])
 refine op_mv hf rfl rfl fun a hf => ?_
 refine op_val (ex_extract hf rfl rfl) rfl hf rfl rfl fun a hf => ?_
 refine op_val (ex_extract hf rfl rfl) rfl hf rfl rfl fun a hf => ?_
 refine op_as hf rfl rfl fun a hf => ?_
 refine op_as hf rfl rfl fun a hf => ?_
 refine wpList_nil ?_
 refine nor_then (hK5 _ _ ?_)
 refine wp_seq_k fun _ hK10 => ?_
 refine wp_seq_cut (fun a w => ∃ (t7 : Bool), Fits 20 [(3, .slice p3 r2.1.length c4), (16, .bool t7)] a ∧ Dk.Own w0 [] w [.row (.slice p3 r2.1.length c4) 9 1 r2.1.length (cells enc_str r2.1), .shr x_values_p0 (cells enc_str x_values)] ∧ xff_First_j1 r2 t7 = some R) ?_ ?_
 refine wp_region_list ?_
 refine op_mv hf rfl rfl fun a hf => ?_
 refine op_val (ex_neq (m := r2.2) (n := 0) hf rfl rfl) rfl hf rfl rfl fun a hf => ?_
 refine op_mv hf rfl rfl fun a hf => ?_
 rcases bcase (!(r2.2 == 0)) with hc6 | hc6
 have hm := it hc6 hm
 refine op_pass rfl hf rfl rfl (hc6) rfl rfl fun a hf => ?_
 refine op_pass rfl hf rfl rfl (hc6) rfl rfl fun a hf => ?_
 refine op_pass rfl hf rfl rfl (hc6) rfl rfl fun a hf => ?_
 refine op_val (ex_pick_t hf rfl hc6 rfl) rfl hf rfl rfl fun a hf => ?_
 refine wpList_nil ?_
 refine nor_then ?_
 exact ⟨true, (hf.cons rfl (hf.cons rfl hf.nil)), hO, hm⟩
 have hm := ie hc6 hm
 refine op_guard rfl hf rfl rfl (hc6) ?_
 refine op_mv hf rfl rfl fun a hf => ?_
 refine op_guard rfl hf rfl rfl (hc6) ?_
 refine op_val (ex_len_l Tryz.underlying40 hf rfl) rfl hf rfl rfl fun a hf => ?_
 refine op_guard rfl hf rfl rfl (hc6) ?_
 refine op_val (ex_eql (m := (r2.1.length : Int)) (n := 0) hf rfl rfl) rfl hf rfl rfl fun a hf => ?_
 refine op_val (ex_pick_f hf rfl hc6 rfl) rfl hf rfl rfl fun a hf => ?_
 refine wpList_nil ?_
 refine nor_then ?_
 exact ⟨(r2.1.length : Int) == 0, (hf.cons rfl (hf.cons rfl hf.nil)), hO, hm⟩
 rintro a w ⟨t7, hf, hO, hm⟩
 rw [xff_First_j1] at hm
 refine wp_cond_cut hf rfl (fun hc8 => ?_) (fun hc8 => ?_)
 have hm := it hc8 hm
 refine wp_seq_k fun _ hK9 => ?_
 refine wp_region_list ?_
 refine op_as hf rfl rfl fun a hf => ?_
 refine wpList_nil ?_
 refine nor_then (hK9 _ _ ?_)
 refine wp_ret ?_
 refine ret_then ?_
 obtain rfl := Option.some.inj hm
 exact post_ret Tryz.results22 hf (.tmp rfl .nil) ⟨rfl, hO.below⟩
 have hm := ie hc8 hm
 refine wp_skip ?_
 refine nor_then (hK10 _ _ ?_)
 refine wp_seq_k fun _ hK14 => ?_
 refine wp_region_list ?_
 refine op_mv hf rfl rfl fun a hf => ?_
 obtain ⟨x11, hx11, hm⟩ := ob hm
 obtain ⟨b12, o13, hix11, hSx11, hAx11⟩ := elemAtRow (enc := enc_str) (sz := 1) (xs := r2.1) 40 Tryz.underlying40 sz_9 (by decide) (fun _ => rfl) hO (i := 0) rfl hx11
 refine op_val (ex_indexAddr hix11 hf rfl rfl) rfl hf rfl rfl fun a hf => ?_
 refine op_val (ex_load1 (o := 0) ag_9 (hSx11 _ (hO.rowSees (i := 0) rfl)) rfl hf rfl) rfl hf rfl rfl fun a hf => ?_
 refine op_as hf rfl rfl fun a hf => ?_
 refine wpList_nil ?_
 refine nor_then (hK14 _ _ ?_)
 refine wp_ret ?_
 obtain rfl := Option.some.inj hm
 exact post_ret Tryz.results22 hf (.tmp rfl .nil) ⟨rfl, hO.below⟩

set_option maxHeartbeats 1000000 in
theorem w_law27_XffReads (x_a0 : Str) (x_a1 : Str) (R : Bool) (w0 : World) (hG : GlobT w0) (hm : law27_XffReads x_a0 x_a1 = some R) :
    Calls Tryz.prog 5 #[str x_a0, str x_a1] w0 fun e w' => e = .returned (.bool R) ∧ Below w0.heap.size w0 w' := by
 rw [law27_XffReads] at hm
 refine calls_enter (vs := [str x_a0, str x_a1]) Tryz.func5 rfl Tryz.ntmps5 rfl fun a hf => ?_
 have hF : Away [] := away_nil
 have hO : Dk.Own w0 [] w0 [] := Dk.Own.refl w0
 refine wp_seq_k fun _ hK1 => ?_
 refine wp_region_list ?_
 refine op_as hf rfl rfl fun a hf => ?_
 refine wpList_nil ?_
 refine nor_then (hK1 _ _ ?_)
 refine wp_seq_k fun _ hK6 => ?_
 refine wp_seq_k fun _ hK3 => ?_
 refine wp_region_list ?_
 obtain ⟨r2, hr2, hm⟩ := ob hm
 refine op_enter (ex_call c_16 hf (vs := []) rfl) rfl hf rfl rfl (w_law27_awake r2 _ (hG.own hF hO) hr2) ?_
 rintro e w' ⟨he, hb⟩
 refine ⟨_, he, fun a hf => ?_⟩
 have hO := hO.grow hb
 refine op_val (ex_not hf rfl) rfl hf rfl rfl fun a hf => ?_
 refine wpList_nil ?_
 refine nor_then (hK3 _ _ ?_)
 refine wp_cond_cut hf rfl (fun hc4 => ?_) (fun hc4 => ?_)
 have hm := it hc4 hm
 refine wp_seq_k fun _ hK5 => ?_
 refine wp_region_list ?_
 refine op_as hf rfl rfl fun a hf => ?_
 refine wpList_nil ?_
 refine nor_then (hK5 _ _ ?_)
 refine wp_ret ?_
 refine ret_then ?_
 obtain rfl := Option.some.inj hm
 exact post_ret Tryz.results5 hf (.tmp rfl .nil) ⟨rfl, hO.below⟩
 have hm := ie hc4 hm
 refine wp_skip ?_
 refine nor_then (hK6 _ _ ?_)
 refine wp_seq_k fun _ hK9 => ?_
 refine wp_quiet (by kernel_rfl) (by kernel_rfl) hO ?_
 refine q_val (fun w hO => ex_move hf rfl) rfl hf rfl rfl fun a hf => ?_
 refine q_val (fun w hO => ex_move hf rfl) rfl hf rfl rfl fun a hf => ?_
 refine q_val (fun w hO => ex_len_s (l := x_a0) Tryz.underlying9 hf rfl) rfl hf rfl rfl fun a hf => ?_
 refine q_val (fun w hO => ex_min (m := (x_a0.length : Int)) (n := 200) hf rfl rfl) rfl hf rfl rfl fun a hf => ?_
 obtain ⟨s7, hs7, hm⟩ := ob hm
 refine q_val (fun w hO => ex_to_s (l := x_a0) Tryz.underlying9 hf rfl rfl hs7) rfl hf rfl rfl fun a hf => ?_
 refine q_val (fun w hO => ex_move hf rfl) rfl hf rfl rfl fun a hf => ?_
 refine q_val (fun w hO => ex_move hf rfl) rfl hf rfl rfl fun a hf => ?_
 refine q_val (fun w hO => ex_len_s (l := x_a1) Tryz.underlying9 hf rfl) rfl hf rfl rfl fun a hf => ?_
 refine q_val (fun w hO => ex_min (m := (x_a1.length : Int)) (n := 200) hf rfl rfl) rfl hf rfl rfl fun a hf => ?_
 obtain ⟨s8, hs8, hm⟩ := ob hm
 refine q_val (fun w hO => ex_to_s (l := x_a1) Tryz.underlying9 hf rfl rfl hs8) rfl hf rfl rfl fun a hf => ?_
 refine q_val (fun w hO => ex_assign hf rfl) rfl hf rfl rfl fun a hf => ?_
 refine q_val (fun w hO => ex_assign hf rfl) rfl hf rfl rfl fun a hf => ?_
 refine wpQuiet_nil ?_
 intro w hO
 refine nor_then (hK9 _ _ ?_)
 refine wp_seq_k fun _ hK14 => ?_
 refine wp_region_list ?_
 refine op_mv hf rfl rfl fun a hf => ?_
 refine op_mv hf rfl rfl fun a hf => ?_
 refine op_buildSlice (vs := [(0, str s7), (1, str s8)]) (cs := [str s7, str s8]) (e := 9) (sz := 1) hf rfl rfl (fun w => by kernel_rfl) rfl rfl hO fun a b10 w hf hO => ?_
 obtain ⟨r11, hr11, hm⟩ := ob hm
 refine op_enter (ex_call c_17 hf (vs := [.slice (some ⟨b10, 0, none⟩) ([s7, s8].length) 2]) rfl) rfl hf rfl rfl (w_xff_List [s7, s8] r11 _ (hG.own hF hO) (hO.rowSees (i := 0) rfl) (hO.rowCap (i := 0) rfl) hr11) ?_
 rintro e w' ⟨p12, c13, he, hO'⟩
 refine ⟨_, he, fun a hf => ?_⟩
 have hO := hO.call hO' (by simp [Res.shared])
 refine op_mv hf rfl rfl fun a hf => ?_
 refine op_val (ex_extract hf rfl rfl) rfl hf rfl rfl fun a hf => ?_
 refine op_val (ex_extract hf rfl rfl) rfl hf rfl rfl fun a hf => ?_
 refine op_as hf rfl rfl fun a hf => ?_
 refine op_as hf rfl rfl fun a hf => ?_
 refine wpList_nil ?_
 refine nor_then (hK14 _ _ ?_)
 refine wp_seq_k fun _ hK19 => ?_
 refine wp_region_list ?_
 refine op_mv hf rfl rfl fun a hf => ?_
 refine op_mv hf rfl rfl fun a hf => ?_
 refine op_buildSlice (vs := [(0, str s7), (1, str s8)]) (cs := [str s7, str s8]) (e := 9) (sz := 1) hf rfl rfl (fun w => by kernel_rfl) rfl rfl hO fun a b15 w hf hO => ?_
 obtain ⟨r16, hr16, hm⟩ := ob hm
 refine op_enter (ex_call c_18 hf (vs := [.slice (some ⟨b15, 0, none⟩) ([s7, s8].length) 2]) rfl) rfl hf rfl rfl (w_ref27_List [s7, s8] r16 _ (hG.own hF hO).1 (hO.rowSees (i := 0) rfl) (hO.rowCap (i := 0) rfl) hr16) ?_
 rintro e w' ⟨p17, c18, he, hO'⟩
 refine ⟨_, he, fun a hf => ?_⟩
 have hO := hO.call hO' (by simp [Res.shared])
 refine op_mv hf rfl rfl fun a hf => ?_
 refine op_val (ex_extract hf rfl rfl) rfl hf rfl rfl fun a hf => ?_
 refine op_val (ex_extract hf rfl rfl) rfl hf rfl rfl fun a hf => ?_
 refine op_as hf rfl rfl fun a hf => ?_
 refine op_as hf rfl rfl fun a hf => ?_
 refine wpList_nil ?_
 refine nor_then (hK19 _ _ ?_)
 refine wp_seq_k fun _ hK20 => ?_
 refine wp_region_list ?_
 refine op_as hf rfl rfl fun a hf => ?_
 refine wpList_nil ?_
 refine nor_then (hK20 _ _ ?_)
 refine wp_seq_cut (fun a w => ∃ (s26 : Str), Fits 65 [(0, str s7), (1, str s8), (5, .slice p12 r11.1.length c13), (6, int r11.2), (7, .slice p17 r16.1.length c18), (8, int r16.2), (9, str s26)] a ∧ Dk.Own w0 [] w [.row (.slice p17 r16.1.length c18) 9 1 r16.1.length (cells enc_str r16.1), .row (.slice (some ⟨b15, 0, none⟩) ([s7, s8].length) 2) 9 1 ([s7, s8].length) (cells enc_str [s7, s8]), .row (.slice p12 r11.1.length c13) 9 1 r11.1.length (cells enc_str r11.1), .row (.slice (some ⟨b10, 0, none⟩) ([s7, s8].length) 2) 9 1 ([s7, s8].length) (cells enc_str [s7, s8])] ∧ law27_XffReads_j1 s7 s8 r11 r16 s26 = some R) ?_ ?_
 refine wp_seq_k fun _ hK21 => ?_
 refine wp_region_list ?_
 refine op_mv hf rfl rfl fun a hf => ?_
 refine op_val (ex_len_l Tryz.underlying40 hf rfl) rfl hf rfl rfl fun a hf => ?_
 refine op_val (ex_gtr (m := (r16.1.length : Int)) (n := 0) hf rfl rfl) rfl hf rfl rfl fun a hf => ?_
 refine wpList_nil ?_
 refine nor_then (hK21 _ _ ?_)
 refine wp_cond_cut hf rfl (fun hc22 => ?_) (fun hc22 => ?_)
 have hm := it hc22 hm
 refine wp_region_list ?_
 refine op_mv hf rfl rfl fun a hf => ?_
 obtain ⟨x23, hx23, hm⟩ := ob hm
 obtain ⟨b24, o25, hix23, hSx23, hAx23⟩ := elemAtRow (enc := enc_str) (sz := 1) (xs := r16.1) 40 Tryz.underlying40 sz_9 (by decide) (fun _ => rfl) hO (i := 0) rfl hx23
 refine op_val (ex_indexAddr hix23 hf rfl rfl) rfl hf rfl rfl fun a hf => ?_
 refine op_val (ex_load1 (o := 0) ag_9 (hSx23 _ (hO.rowSees (i := 0) rfl)) rfl hf rfl) rfl hf rfl rfl fun a hf => ?_
 refine op_as hf rfl rfl fun a hf => ?_
 refine wpList_nil ?_
 refine nor_then ?_
 exact ⟨x23, (hf.cons rfl (hf.cons rfl (hf.cons rfl (hf.cons rfl (hf.cons rfl (hf.cons rfl (hf.cons rfl hf.nil))))))), hO, hm⟩
 have hm := ie hc22 hm
 refine wp_skip ?_
 refine nor_then ?_
 exact ⟨[], (hf.cons rfl (hf.cons rfl (hf.cons rfl (hf.cons rfl (hf.cons rfl (hf.cons rfl (hf.cons rfl hf.nil))))))), hO, hm⟩
 rintro a w ⟨s26, hf, hO, hm⟩
 rw [law27_XffReads_j1] at hm
 refine wp_seq_cut (fun a w => ∃ (t35 : Bool), Fits 65 [(4, .bool t35)] a ∧ Dk.Own w0 [] w [.row (.slice p17 r16.1.length c18) 9 1 r16.1.length (cells enc_str r16.1), .row (.slice (some ⟨b15, 0, none⟩) ([s7, s8].length) 2) 9 1 ([s7, s8].length) (cells enc_str [s7, s8]), .row (.slice p12 r11.1.length c13) 9 1 r11.1.length (cells enc_str r11.1), .row (.slice (some ⟨b10, 0, none⟩) ([s7, s8].length) 2) 9 1 ([s7, s8].length) (cells enc_str [s7, s8])] ∧ law27_XffReads_j2 t35 = some R) ?_ ?_
 refine wp_region_list ?_
 refine op_mv hf rfl rfl fun a hf => ?_
 obtain ⟨r27, hr27, hm⟩ := ob hm
 refine op_enter (ex_call c_19 hf (vs := [str s7]) rfl) rfl hf rfl rfl (w_xff_Is s7 r27 _ (hG.own hF hO) hr27) ?_
 rintro e w' ⟨he, hb⟩
 refine ⟨_, he, fun a hf => ?_⟩
 have hO := hO.grow hb
 refine op_mv hf rfl rfl fun a hf => ?_
 obtain ⟨r28, hr28, hm⟩ := ob hm
 refine op_enter (ex_call c_20 hf (vs := [str s7]) rfl) rfl hf rfl rfl (w_ref27_Is s7 r28 _ (hG.own hF hO).1 hr28) ?_
 rintro e w' ⟨he, hb⟩
 refine ⟨_, he, fun a hf => ?_⟩
 have hO := hO.grow hb
 refine op_val (ex_eql_o Tryz.underlying4 hf rfl rfl) rfl hf rfl rfl fun a hf => ?_
 refine op_mv hf rfl rfl fun a hf => ?_
 rcases bcase (r27 == r28) with hc29 | hc29
 have hm := it hc29 hm
 refine op_guard rfl hf rfl rfl (hc29) ?_
 refine op_mv hf rfl rfl fun a hf => ?_
 refine op_guard rfl hf rfl rfl (hc29) ?_
 refine op_mv hf rfl rfl fun a hf => ?_
 refine op_guard rfl hf rfl rfl (hc29) ?_
 obtain ⟨r30, hr30, hm⟩ := ob hm
 refine op_enter (ex_call c_21 hf (vs := [.slice p12 r11.1.length c13, .slice p17 r16.1.length c18]) rfl) rfl hf rfl rfl (w_ref06_Same r11.1 r16.1 r30 _ (hG.own hF hO).1 (hO.rowSees (i := 2) rfl) (hO.rowCap (i := 2) rfl) (hO.rowSees (i := 0) rfl) (hO.rowCap (i := 0) rfl) hr30) ?_
 rintro e w' ⟨he, hb⟩
 refine ⟨_, he, fun a hf => ?_⟩
 have hO := hO.grow hb
 refine op_val (ex_pick_t hf rfl hc29 rfl) rfl hf rfl rfl fun a hf => ?_
 refine op_mv hf rfl rfl fun a hf => ?_
 rcases bcase (r30) with hc31 | hc31
 have hm := it hc31 hm
 refine op_guard rfl hf rfl rfl (hc31) ?_
 refine op_mv hf rfl rfl fun a hf => ?_
 refine op_guard rfl hf rfl rfl (hc31) ?_
 refine op_mv hf rfl rfl fun a hf => ?_
 refine op_guard rfl hf rfl rfl (hc31) ?_
 refine op_val (ex_eql (m := r11.2) (n := r16.2) hf rfl rfl) rfl hf rfl rfl fun a hf => ?_
 refine op_val (ex_pick_t hf rfl hc31 rfl) rfl hf rfl rfl fun a hf => ?_
 refine op_mv hf rfl rfl fun a hf => ?_
 rcases bcase (r11.2 == r16.2) with hc32 | hc32
 have hm := it hc32 hm
 refine op_guard rfl hf rfl rfl (hc32) ?_
 refine op_mv hf rfl rfl fun a hf => ?_
 refine op_guard rfl hf rfl rfl (hc32) ?_
 refine op_mv hf rfl rfl fun a hf => ?_
 refine op_guard rfl hf rfl rfl (hc32) ?_
 refine op_buildSlice (vs := [(0, str s7), (1, str s8)]) (cs := [str s7, str s8]) (e := 9) (sz := 1) hf rfl rfl (fun w => by kernel_rfl) rfl rfl hO fun a b33 w hf hO => ?_
 refine op_guard rfl hf rfl rfl (hc32) ?_
 obtain ⟨r34, hr34, hm⟩ := ob hm
 refine op_enter (ex_call c_22 hf (vs := [.slice (some ⟨b33, 0, none⟩) ([s7, s8].length) 2]) rfl) rfl hf rfl rfl (w_xff_First [s7, s8] r34 _ (hG.own hF hO) (hO.rowSees (i := 0) rfl) (hO.rowCap (i := 0) rfl) hr34) ?_
 rintro e w' ⟨he, hb⟩
 refine ⟨_, he, fun a hf => ?_⟩
 have hO := hO.grow hb
 refine op_guard rfl hf rfl rfl (hc32) ?_
 refine op_mv hf rfl rfl fun a hf => ?_
 refine op_guard rfl hf rfl rfl (hc32) ?_
 refine op_val (ex_eql_s (l := r34) (m := s26) hf rfl rfl) rfl hf rfl rfl fun a hf => ?_
 refine op_val (ex_pick_t hf rfl hc32 rfl) rfl hf rfl rfl fun a hf => ?_
 refine op_as hf rfl rfl fun a hf => ?_
 refine wpList_nil ?_
 refine nor_then ?_
 exact ⟨r34 == s26, (hf.cons rfl hf.nil), (hO.sub (.cons _ (.cons_cons _ (.cons_cons _ (.cons_cons _ (.cons_cons _ .slnil)))))), hm⟩
 have hm := ie hc32 hm
 refine op_pass rfl hf rfl rfl (hc32) rfl rfl fun a hf => ?_
 refine op_pass rfl hf rfl rfl (hc32) rfl rfl fun a hf => ?_
 refine op_pass rfl hf rfl rfl (hc32) rfl rfl fun a hf => ?_
 refine op_pass rfl hf rfl rfl (hc32) rfl rfl fun a hf => ?_
 refine op_pass rfl hf rfl rfl (hc32) rfl rfl fun a hf => ?_
 refine op_pass rfl hf rfl rfl (hc32) rfl rfl fun a hf => ?_
 refine op_val (ex_pick_f hf rfl hc32 rfl) rfl hf rfl rfl fun a hf => ?_
 refine op_as hf rfl rfl fun a hf => ?_
 refine wpList_nil ?_
 refine nor_then ?_
 exact ⟨false, (hf.cons rfl hf.nil), hO, hm⟩
 have hm := ie hc31 hm
 refine op_pass rfl hf rfl rfl (hc31) rfl rfl fun a hf => ?_
 refine op_pass rfl hf rfl rfl (hc31) rfl rfl fun a hf => ?_
 refine op_pass rfl hf rfl rfl (hc31) rfl rfl fun a hf => ?_
 refine op_val (ex_pick_f hf rfl hc31 rfl) rfl hf rfl rfl fun a hf => ?_
 refine op_mv hf rfl rfl fun a hf => ?_
 refine op_pass rfl hf rfl rfl (rfl) rfl rfl fun a hf => ?_
 refine op_pass rfl hf rfl rfl (rfl) rfl rfl fun a hf => ?_
 refine op_pass rfl hf rfl rfl (rfl) rfl rfl fun a hf => ?_
 refine op_pass rfl hf rfl rfl (rfl) rfl rfl fun a hf => ?_
 refine op_pass rfl hf rfl rfl (rfl) rfl rfl fun a hf => ?_
 refine op_pass rfl hf rfl rfl (rfl) rfl rfl fun a hf => ?_
 refine op_val (ex_pick_f hf rfl rfl rfl) rfl hf rfl rfl fun a hf => ?_
 refine op_as hf rfl rfl fun a hf => ?_
 refine wpList_nil ?_
 refine nor_then ?_
 exact ⟨false, (hf.cons rfl hf.nil), hO, hm⟩
 have hm := ie hc29 hm
 refine op_pass rfl hf rfl rfl (hc29) rfl rfl fun a hf => ?_
 refine op_pass rfl hf rfl rfl (hc29) rfl rfl fun a hf => ?_
 refine op_pass rfl hf rfl rfl (hc29) rfl rfl fun a hf => ?_
 refine op_val (ex_pick_f hf rfl hc29 rfl) rfl hf rfl rfl fun a hf => ?_
 refine op_mv hf rfl rfl fun a hf => ?_
 refine op_pass rfl hf rfl rfl (rfl) rfl rfl fun a hf => ?_
 refine op_pass rfl hf rfl rfl (rfl) rfl rfl fun a hf => ?_
 refine op_pass rfl hf rfl rfl (rfl) rfl rfl fun a hf => ?_
 refine op_val (ex_pick_f hf rfl rfl rfl) rfl hf rfl rfl fun a hf => ?_
 refine op_mv hf rfl rfl fun a hf => ?_
 refine op_pass rfl hf rfl rfl (rfl) rfl rfl fun a hf => ?_
 refine op_pass rfl hf rfl rfl (rfl) rfl rfl fun a hf => ?_
 refine op_pass rfl hf rfl rfl (rfl) rfl rfl fun a hf => ?_
 refine op_pass rfl hf rfl rfl (rfl) rfl rfl fun a hf => ?_
 refine op_pass rfl hf rfl rfl (rfl) rfl rfl fun a hf => ?_
 refine op_pass rfl hf rfl rfl (rfl) rfl rfl fun a hf => ?_
 refine op_val (ex_pick_f hf rfl rfl rfl) rfl hf rfl rfl fun a hf => ?_
 refine op_as hf rfl rfl fun a hf => ?_
 refine wpList_nil ?_
 refine nor_then ?_
 exact ⟨false, (hf.cons rfl hf.nil), hO, hm⟩
 rintro a w ⟨t35, hf, hO, hm⟩
 rw [law27_XffReads_j2] at hm
 refine wp_ret ?_
 obtain rfl := Option.some.inj hm
 exact post_ret Tryz.results5 hf (.tmp rfl .nil) ⟨rfl, hO.below⟩

end Go.Proofs
