/-
  Walks, written by a program (wip/gen): what its model says, the function returns; what was there before is as it was.
-/
import Derived.Test.YtnfkbhocbdheaacGreatDoorLib
import Derived.Test.YtnfkbhocbdheaacGreatDoorW1
import Derived.Test.YtnfkbhocbdheaacGreatDoorW2
import Derived.Test.YtnfkbhocbdheaacGreatDoorW3
import Derived.Test.YtnfkbhocbdheaacGreatDoorW4
set_option linter.unusedVariables false
set_option linter.unusedSimpArgs false
set_option maxRecDepth 100000
namespace Go.Proofs
open Go.Dk Go.Dm Go.RowKit

set_option maxHeartbeats 1000000 in
theorem w_bag_New (x_l : List api_Field) (R : bag_Bag) (w0 : World) (hG : Glob w0) {x_l_p0 : Option Addr} {x_l_c0 : Nat} (hs0 : Sees w0 x_l_p0 (cells enc_api_Field x_l)) (hc0 : x_l.length ≤ x_l_c0) (hm : bag_New x_l = some R) :
    Calls Tryz.prog 88 #[.slice x_l_p0 x_l.length x_l_c0] w0 fun e w' => ∃ (b0 : Nat) (p1 : Option Addr) (c1 : Nat), e = .returned (ptr b0 0) ∧ Dk.Own w0 [] w' [.blk b0 [.slice p1 R.f_l.length c1] 158, .row (.slice p1 R.f_l.length c1) 44 2 R.f_l.length (cells enc_api_Field R.f_l)] := by
 rw [bag_New] at hm
 refine calls_enter (vs := [.slice x_l_p0 x_l.length x_l_c0]) Tryz.func88 rfl Tryz.ntmps88 rfl fun a hf => ?_
 have hF : Away [] := away_nil
 have hO : Dk.Own w0 [] w0 [] := Dk.Own.refl w0
 have hO := hO.addShr hs0 (by simp [Res.shared])
 refine wp_seq_k fun _ hK1 => ?_
 refine wp_region_list ?_
 refine op_as hf rfl rfl fun a hf => ?_
 refine wpList_nil ?_
 refine nor_then (hK1 _ _ ?_)
 refine wp_seq_k fun _ hK6 => ?_
 refine wp_region_list ?_
 refine op_mv hf rfl rfl fun a hf => ?_
 obtain ⟨r2, hr2, hm⟩ := ob hm
 refine op_enter (ex_call c_131 hf (vs := [.slice x_l_p0 x_l.length x_l_c0]) rfl) rfl hf rfl rfl (w_slices_Clone_gapi_Field_api_Field_ x_l r2 _ (hG.own hF hO) (hO.sees (i := 0) rfl) hc0 hr2) ?_
 rintro e w' ⟨p3, c4, he, hO'⟩
 refine ⟨_, he, fun a hf => ?_⟩
 have hO := hO.call hO' (by simp [Res.shared])
 refine op_val (ex_build (vs := [(0, .slice p3 r2.length c4)]) (v := .agg #[.slice p3 r2.length c4]) hf rfl (by kernel_rfl)) rfl hf rfl rfl fun a hf => ?_
 refine op_box (v := .agg #[.slice p3 r2.length c4]) (cs := [.slice p3 r2.length c4]) rfl hf rfl rfl hO fun a b5 w hf hO => ?_
 refine op_as hf rfl rfl fun a hf => ?_
 refine wpList_nil ?_
 refine nor_then (hK6 _ _ ?_)
 refine wp_ret ?_
 obtain rfl := Option.some.inj hm
 exact post_ret Tryz.results88 hf (.tmp rfl .nil) ⟨b5, p3, c4, rfl, (hO.sub (.cons_cons _ (.cons_cons _ (.cons _ .slnil))))⟩

set_option maxHeartbeats 1000000 in
theorem w_bag_Bag_List (x_b : bag_Bag) (R : List api_Field) (w0 : World) (hG : Glob w0) {x_b_b0 : Nat} {x_b_p1 : Option Addr} {x_b_c1 : Nat} (hs0 : Sees w0 (some ⟨x_b_b0, 0, none⟩) [.slice x_b_p1 x_b.f_l.length x_b_c1]) (hs1 : Sees w0 x_b_p1 (cells enc_api_Field x_b.f_l)) (hc1 : x_b.f_l.length ≤ x_b_c1) (hm : bag_Bag_List x_b = some R) :
    Calls Tryz.prog 132 #[ptr x_b_b0 0] w0 fun e w' => ∃ (p0 : Option Addr) (c0 : Nat), e = .returned (.slice p0 R.length c0) ∧ Dk.Own w0 [] w' [.row (.slice p0 R.length c0) 44 2 R.length (cells enc_api_Field R)] := by
 rw [bag_Bag_List] at hm
 refine calls_enter (vs := [ptr x_b_b0 0]) Tryz.func132 rfl Tryz.ntmps132 rfl fun a hf => ?_
 have hF : Away [] := away_nil
 have hO : Dk.Own w0 [] w0 [] := Dk.Own.refl w0
 have hO := hO.addShr hs0 (by simp [Res.shared])
 have hO := hO.addShr hs1 (by simp [Res.shared])
 refine wp_seq_k fun _ hK1 => ?_
 refine wp_region_list ?_
 have hO := hO.nilRow 44 2
 refine op_as hf rfl rfl fun a hf => ?_
 refine wpList_nil ?_
 refine nor_then (hK1 _ _ ?_)
 refine wp_seq_k fun _ hK3 => ?_
 refine wp_seq_k fun _ hK2 => ?_
 refine wp_region_list ?_
 refine op_mv hf rfl rfl fun a hf => ?_
 refine op_val (ex_eql_pn Tryz.underlying114 hf rfl rfl) rfl hf rfl rfl fun a hf => ?_
 refine wpList_nil ?_
 refine nor_then (hK2 _ _ ?_)
 refine wp_cond_f hf rfl rfl ?_
 refine wp_skip ?_
 refine nor_then (hK3 _ _ ?_)
 refine wp_seq_k fun _ hK7 => ?_
 refine wp_region_list ?_
 refine op_mv hf rfl rfl fun a hf => ?_
 refine op_val (ex_nilCheck hf rfl) rfl hf rfl rfl fun a hf => ?_
 refine op_val (ex_field fa_158_0 hf rfl) rfl hf rfl rfl fun a hf => ?_
 refine op_val (ex_load1 (o := 0) ag_23 (hO.sees (i := 2) rfl) rfl hf rfl) rfl hf rfl rfl fun a hf => ?_
 obtain ⟨r4, hr4, hm⟩ := ob hm
 refine op_enter (ex_call c_131 hf (vs := [.slice x_b_p1 x_b.f_l.length x_b_c1]) rfl) rfl hf rfl rfl (w_slices_Clone_gapi_Field_api_Field_ x_b.f_l r4 _ (hG.own hF hO) (hO.sees (i := 1) rfl) hc1 hr4) ?_
 rintro e w' ⟨p5, c6, he, hO'⟩
 refine ⟨_, he, fun a hf => ?_⟩
 have hO := hO.call hO' (by simp [Res.shared])
 refine op_as hf rfl rfl fun a hf => ?_
 refine wpList_nil ?_
 refine nor_then (hK7 _ _ ?_)
 refine wp_ret ?_
 obtain rfl := Option.some.inj hm
 exact post_ret Tryz.results132 hf (.tmp rfl .nil) ⟨p5, c6, rfl, (hO.sub (.cons_cons _ (.cons _ (.cons _ (.cons _ .slnil)))))⟩

set_option maxHeartbeats 1000000 in
theorem w_octet_Same (x_a : Str) (x_b : Str) (R : Bool) (w0 : World) (hG : Glob w0) (hm : octet_Same x_a x_b = some R) :
    Calls Tryz.prog 133 #[str x_a, str x_b] w0 fun e w' => e = .returned (.bool R) ∧ Below w0.heap.size w0 w' := by
 rw [octet_Same] at hm
 refine calls_enter (vs := [str x_a, str x_b]) Tryz.func133 rfl Tryz.ntmps133 rfl fun a hf => ?_
 have hF : Away [] := away_nil
 have hO : Dk.Own w0 [] w0 [] := Dk.Own.refl w0
 refine wp_seq_k fun _ hK1 => ?_
 refine wp_region_list ?_
 refine op_as hf rfl rfl fun a hf => ?_
 refine wpList_nil ?_
 refine nor_then (hK1 _ _ ?_)
 refine wp_seq_k fun _ hK4 => ?_
 refine wp_region_list ?_
 refine op_mv hf rfl rfl fun a hf => ?_
 obtain ⟨r2, hr2, hm⟩ := ob hm
 refine op_enter (ex_call c_162 hf (vs := [str x_a]) rfl) rfl hf rfl rfl (w_octet_Fold x_a r2 _ (hG.own hF hO) hr2) ?_
 rintro e w' ⟨he, hb⟩
 refine ⟨_, he, fun a hf => ?_⟩
 have hO := hO.grow hb
 refine op_mv hf rfl rfl fun a hf => ?_
 obtain ⟨r3, hr3, hm⟩ := ob hm
 refine op_enter (ex_call c_162 hf (vs := [str x_b]) rfl) rfl hf rfl rfl (w_octet_Fold x_b r3 _ (hG.own hF hO) hr3) ?_
 rintro e w' ⟨he, hb⟩
 refine ⟨_, he, fun a hf => ?_⟩
 have hO := hO.grow hb
 refine op_val (ex_eql_s (l := r2) (m := r3) hf rfl rfl) rfl hf rfl rfl fun a hf => ?_
 refine op_as hf rfl rfl fun a hf => ?_
 refine wpList_nil ?_
 refine nor_then (hK4 _ _ ?_)
 refine wp_ret ?_
 obtain rfl := Option.some.inj hm
 exact post_ret Tryz.results133 hf (.tmp rfl .nil) ⟨rfl, hO.below⟩

set_option maxHeartbeats 1000000 in
theorem w_bag_Bag_Values (x_b : bag_Bag) (x_name : Str) (R : List Str) (w0 : World) (hG : Glob w0) {x_b_b0 : Nat} {x_b_p1 : Option Addr} {x_b_c1 : Nat} (hs0 : Sees w0 (some ⟨x_b_b0, 0, none⟩) [.slice x_b_p1 x_b.f_l.length x_b_c1]) (hs1 : Sees w0 x_b_p1 (cells enc_api_Field x_b.f_l)) (hc1 : x_b.f_l.length ≤ x_b_c1) (hm : bag_Bag_Values x_b x_name = some R) :
    Calls Tryz.prog 89 #[ptr x_b_b0 0, str x_name] w0 fun e w' => ∃ (p0 : Option Addr) (c0 : Nat), e = .returned (.slice p0 R.length c0) ∧ Dk.Own w0 [] w' [.row (.slice p0 R.length c0) 9 1 R.length (cells enc_str R)] := by
 rw [bag_Bag_Values] at hm
 refine calls_enter (vs := [ptr x_b_b0 0, str x_name]) Tryz.func89 rfl Tryz.ntmps89 rfl fun a hf => ?_
 have hF : Away [] := away_nil
 have hO : Dk.Own w0 [] w0 [] := Dk.Own.refl w0
 have hO := hO.addShr hs0 (by simp [Res.shared])
 have hO := hO.addShr hs1 (by simp [Res.shared])
 refine wp_seq_k fun _ hK1 => ?_
 refine wp_region_list ?_
 have hO := hO.nilRow 9 1
 refine op_as hf rfl rfl fun a hf => ?_
 refine wpList_nil ?_
 refine nor_then (hK1 _ _ ?_)
 refine wp_seq_k fun _ hK2 => ?_
 refine wp_region_list ?_
 have hO := hO.nilRow 9 1
 refine op_as hf rfl rfl fun a hf => ?_
 refine wpList_nil ?_
 refine nor_then (hK2 _ _ ?_)
 refine wp_seq_k fun _ hK30 => ?_
 refine wp_seq_k fun _ hK6 => ?_
 refine wp_region_list ?_
 refine op_mv hf rfl rfl fun a hf => ?_
 obtain ⟨r3, hr3, hm⟩ := ob hm
 refine op_enter (ex_call c_132 hf (vs := [ptr x_b_b0 0]) rfl) rfl hf rfl rfl (w_bag_Bag_List x_b r3 _ (hG.own hF hO) (hO.sees (i := 3) rfl) (hO.sees (i := 2) rfl) hc1 hr3) ?_
 rintro e w' ⟨p4, c5, he, hO'⟩
 refine ⟨_, he, fun a hf => ?_⟩
 have hO := hO.call hO' (by simp [Res.shared])
 refine op_val (ex_len_l Tryz.underlying23 hf rfl) rfl hf rfl rfl fun a hf => ?_
 refine op_mv hf rfl rfl fun a hf => ?_
 refine wpList_nil ?_
 refine nor_then (hK6 _ _ ?_)
 refine wp_block ?_
 refine wp_loop_n (fun k a w => ∃ (p7 : Option Addr) (c8 : Nat) (l9 : List Str) (i10 : Int), Fits 26 [(1, str x_name), (5, .slice p7 l9.length c8), (9, .slice p4 r3.length c5), (10, int (r3.length : Int)), (11, int i10)] a ∧ Dk.Own w0 [] w [.row (.slice p4 r3.length c5) 44 2 r3.length (cells enc_api_Field r3), .row (.slice p7 l9.length c8) 9 1 l9.length (cells enc_str l9), .row (.slice none 0 0) 9 1 0 (cells enc_str []), .shr x_b_p1 (cells enc_api_Field x_b.f_l), .shr (some ⟨x_b_b0, 0, none⟩) ([.slice x_b_p1 x_b.f_l.length x_b_c1])] ∧ bag_Bag_Values_L1 x_name r3 k l9 i10 = some R) ?_ fuel ?_
 rintro n1 a w ⟨p7, c8, l9, i10, hf, hO, hm⟩
 obtain _ | n1 := n1
 rw [bag_Bag_Values_L1] at hm
 cases hm
 rw [bag_Bag_Values_L1] at hm
 refine wp_seq_k fun _ hK11 => ?_
 refine wp_region_list ?_
 refine op_val (ex_lss (m := i10) (n := (r3.length : Int)) hf rfl rfl) rfl hf rfl rfl fun a hf => ?_
 refine wpList_nil ?_
 refine nor_then (hK11 _ _ ?_)
 refine wp_seq_k fun _ hK13 => ?_
 refine wp_cond_cut hf rfl (fun hc12 => ?_) (fun hc12 => ?_)
 have hm := it hc12 hm
 refine wp_skip ?_
 refine nor_then (hK13 _ _ ?_)
 refine wp_seq_cut (fun a w => ∃ (p26 : Option Addr) (c27 : Nat) (l28 : List Str), Fits 26 [(1, str x_name), (5, .slice p26 l28.length c27), (9, .slice p4 r3.length c5), (10, int (r3.length : Int)), (11, int i10)] a ∧ Dk.Own w0 [] w [.row (.slice p4 r3.length c5) 44 2 r3.length (cells enc_api_Field r3), .row (.slice p26 l28.length c27) 9 1 l28.length (cells enc_str l28), .row (.slice none 0 0) 9 1 0 (cells enc_str []), .shr x_b_p1 (cells enc_api_Field x_b.f_l), .shr (some ⟨x_b_b0, 0, none⟩) ([.slice x_b_p1 x_b.f_l.length x_b_c1])] ∧ bag_Bag_Values_j2 (bag_Bag_Values_L1 x_name r3 n1) i10 l28 = some R) ?_ ?_
 refine wp_block ?_
 refine wp_seq_k fun _ hK18 => ?_
 refine wp_region_list ?_
 obtain ⟨x14, hx14, hm⟩ := ob hm
 obtain ⟨b15, o16, hix14, hSx14, hAx14⟩ := elemAtRow (enc := enc_api_Field) (sz := 2) (xs := r3) 23 Tryz.underlying23 sz_44 (by decide) (fun _ => rfl) hO (i := 0) rfl hx14
 refine op_val (ex_indexAddr hix14 hf rfl rfl) rfl hf rfl rfl fun a hf => ?_
 refine op_val (ex_loadN (o := 0) (vs := [str x14.Name, str x14.Value]) ag_44 sz_44 (hSx14 _ (hO.rowSees (i := 0) rfl)) rfl rfl hf rfl) rfl hf rfl rfl fun a hf => ?_
 refine op_alloc al_44 hf rfl hO fun a b17 w hf hO => ?_
 refine op_storeN (i := 0) (n := 2) sz_44 rfl rfl rfl (by simp [Value.oneCell']) hf rfl rfl hO fun w hO => ?_
 refine wpList_nil ?_
 refine nor_then (hK18 _ _ ?_)
 refine wp_seq_k fun _ hK20 => ?_
 refine wp_region_list ?_
 refine op_val (ex_field fa_44_0 hf rfl) rfl hf rfl rfl fun a hf => ?_
 refine op_val (ex_load1 (o := 0) ag_9 (hO.blkSees (i := 0) rfl) rfl hf rfl) rfl hf rfl rfl fun a hf => ?_
 refine op_mv hf rfl rfl fun a hf => ?_
 obtain ⟨r19, hr19, hm⟩ := ob hm
 refine op_enter (ex_call c_133 hf (vs := [str x14.Name, str x_name]) rfl) rfl hf rfl rfl (w_octet_Same x14.Name x_name r19 _ (hG.own hF hO) hr19) ?_
 rintro e w' ⟨he, hb⟩
 refine ⟨_, he, fun a hf => ?_⟩
 have hO := hO.grow hb
 refine wpList_nil ?_
 refine nor_then (hK20 _ _ ?_)
 refine wp_cond_cut hf rfl (fun hc21 => ?_) (fun hc21 => ?_)
 have hm := it hc21 hm
 refine wp_region_list ?_
 refine op_mv hf rfl rfl fun a hf => ?_
 refine op_val (ex_field fa_44_1 hf rfl) rfl hf rfl rfl fun a hf => ?_
 refine op_val (ex_load1 (o := 1) ag_9 (hO.blkSees (i := 0) rfl) rfl hf rfl) rfl hf rfl rfl fun a hf => ?_
 refine op_buildSlice (vs := [(0, str x14.Value)]) (cs := [str x14.Value]) (e := 9) (sz := 1) hf rfl rfl (fun w => by kernel_rfl) rfl rfl hO fun a b22 w hf hO => ?_
 obtain ⟨hg25, hm⟩ := og hm
 refine op_appendT el_61 (enc := enc_str) (xs := l9) (ys := ([x14.Value] : List Str)) (i := 3) (fun _ => rfl) rfl (hO.rowSees (i := 0) rfl) (by simp [cells, enc_str, Value.oneCell']) hg25 hf rfl rfl rfl hO fun a p23 c24 w hf hO => ?_
 refine op_as hf rfl rfl fun a hf => ?_
 refine wpList_nil ?_
 refine nor_block ?_
 refine nor_then ?_
 exact ⟨p23, c24, l9 ++ ([x14.Value] : List Str), (hf.cons rfl (hf.cons rfl (hf.cons rfl (hf.cons rfl (hf.cons rfl hf.nil))))), (hO.sub (.cons _ (.cons _ (.cons_cons _ (.cons_cons _ (.cons_cons _ (.cons_cons _ (.cons_cons _ .slnil)))))))), hm⟩
 have hm := ie hc21 hm
 refine wp_skip ?_
 refine nor_block ?_
 refine nor_then ?_
 exact ⟨p7, c8, l9, (hf.cons rfl (hf.cons rfl (hf.cons rfl (hf.cons rfl (hf.cons rfl hf.nil))))), (hO.sub (.cons _ (.cons_cons _ (.cons_cons _ (.cons_cons _ (.cons_cons _ (.cons_cons _ .slnil))))))), hm⟩
 rintro a w ⟨p26, c27, l28, hf, hO, hm⟩
 rw [bag_Bag_Values_j2] at hm
 refine wp_region_list ?_
 obtain ⟨i29, hi29, hm⟩ := ob hm
 refine op_val (ex_add hf rfl rfl hi29) rfl hf rfl rfl fun a hf => ?_
 refine op_mv hf rfl rfl fun a hf => ?_
 refine wpList_nil ?_
 refine nor_then ?_
 exact ⟨_, Nat.lt_succ_self _, p26, c27, l28, i29, (hf.cons rfl (hf.cons rfl (hf.cons rfl (hf.cons rfl (hf.cons rfl hf.nil))))), hO, hm⟩
 have hm := ie hc12 hm
 refine wp_exit ?_
 refine exit_then ?_
 refine exit_then ?_
 refine exit_here ?_
 refine nor_then (hK30 _ _ ?_)
 refine wp_seq_k fun _ hK31 => ?_
 refine wp_region_list ?_
 refine op_mv hf rfl rfl fun a hf => ?_
 refine op_as hf rfl rfl fun a hf => ?_
 refine wpList_nil ?_
 refine nor_then (hK31 _ _ ?_)
 refine wp_ret ?_
 obtain rfl := Option.some.inj hm
 exact post_ret Tryz.results89 hf (.tmp rfl .nil) ⟨p7, c8, rfl, (hO.sub (.cons _ (.cons_cons _ (.cons _ (.cons _ (.cons _ .slnil))))))⟩
 exact ⟨none, 0, [], 0, (hf.cons rfl (hf.cons rfl (hf.cons rfl (hf.cons rfl (hf.cons rfl hf.nil))))), hO, hm⟩

set_option maxHeartbeats 1000000 in
theorem w_head_hosts (x_h : api_Head) (R : Bool) (w0 : World) (hG : GlobT w0) {x_h_p0 : Option Addr} {x_h_c0 : Nat} (hs0 : Sees w0 x_h_p0 (cells enc_api_Field x_h.Fields)) (hc0 : x_h.Fields.length ≤ x_h_c0) (hm : head_hosts x_h = some R) :
    Calls Tryz.prog 53 #[.agg #[int x_h.Kind, str x_h.Method, str x_h.Target, int x_h.Code, str x_h.Reason, int x_h.Minor, .slice x_h_p0 x_h.Fields.length x_h_c0]] w0 fun e w' => e = .returned (.bool R) ∧ Below w0.heap.size w0 w' := by
 rw [head_hosts] at hm
 refine calls_enter (vs := [.agg #[int x_h.Kind, str x_h.Method, str x_h.Target, int x_h.Code, str x_h.Reason, int x_h.Minor, .slice x_h_p0 x_h.Fields.length x_h_c0]]) Tryz.func53 rfl Tryz.ntmps53 rfl fun a hf => ?_
 have hF : Away [] := away_nil
 have hO : Dk.Own w0 [] w0 [] := Dk.Own.refl w0
 have hO := hO.addShr hs0 (by simp [Res.shared])
 refine wp_seq_k fun _ hK2 => ?_
 refine wp_region_list ?_
 refine op_box (v := .agg #[int x_h.Kind, str x_h.Method, str x_h.Target, int x_h.Code, str x_h.Reason, int x_h.Minor, .slice x_h_p0 x_h.Fields.length x_h_c0]) (cs := [int x_h.Kind, str x_h.Method, str x_h.Target, int x_h.Code, str x_h.Reason, int x_h.Minor, .slice x_h_p0 x_h.Fields.length x_h_c0]) rfl hf rfl rfl hO fun a b1 w hf hO => ?_
 refine op_as hf rfl rfl fun a hf => ?_
 refine wpList_nil ?_
 refine nor_then (hK2 _ _ ?_)
 refine wp_seq_k fun _ hK6 => ?_
 refine wp_seq_k fun _ hK3 => ?_
 refine wp_region_list ?_
 refine op_val (ex_field fa_25_0 hf rfl) rfl hf rfl rfl fun a hf => ?_
 refine op_val (ex_load1 (o := 0) ag_22 (hO.blkSees (i := 0) rfl) rfl hf rfl) rfl hf rfl rfl fun a hf => ?_
 refine op_val (ex_neq (m := x_h.Kind) (n := 1) hf rfl rfl) rfl hf rfl rfl fun a hf => ?_
 refine wpList_nil ?_
 refine nor_then (hK3 _ _ ?_)
 refine wp_cond_cut hf rfl (fun hc4 => ?_) (fun hc4 => ?_)
 have hm := it hc4 hm
 refine wp_seq_k fun _ hK5 => ?_
 refine wp_region_list ?_
 refine op_as hf rfl rfl fun a hf => ?_
 refine wpList_nil ?_
 refine nor_then (hK5 _ _ ?_)
 refine wp_ret ?_
 refine ret_then ?_
 obtain rfl := Option.some.inj hm
 exact post_ret Tryz.results53 hf (.tmp rfl .nil) ⟨rfl, hO.below⟩
 have hm := ie hc4 hm
 refine wp_skip ?_
 refine nor_then (hK6 _ _ ?_)
 refine wp_seq_k fun _ hK14 => ?_
 refine wp_region_list ?_
 refine op_val (ex_field fa_25_6 hf rfl) rfl hf rfl rfl fun a hf => ?_
 refine op_val (ex_load1 (o := 6) ag_23 (hO.blkSees (i := 0) rfl) rfl hf rfl) rfl hf rfl rfl fun a hf => ?_
 obtain ⟨r7, hr7, hm⟩ := ob hm
 refine op_enter (ex_call c_88 hf (vs := [.slice x_h_p0 x_h.Fields.length x_h_c0]) rfl) rfl hf rfl rfl (w_bag_New x_h.Fields r7 _ (hG.own hF hO).1 (hO.sees (i := 1) rfl) hc0 hr7) ?_
 rintro e w' ⟨b8, p9, c10, he, hO'⟩
 refine ⟨_, he, fun a hf => ?_⟩
 have hO := hO.call hO' (by simp [Res.shared])
 obtain ⟨r11, hr11, hm⟩ := ob hm
 refine op_enter (ex_call c_89 hf (vs := [ptr b8 0, str [72, 111, 115, 116]]) rfl) rfl hf rfl rfl (w_bag_Bag_Values r7 [72, 111, 115, 116] r11 _ (hG.own hF hO).1 (hO.blkSees (i := 0) rfl) (hO.rowSees (i := 1) rfl) (hO.rowCap (i := 1) rfl) hr11) ?_
 rintro e w' ⟨p12, c13, he, hO'⟩
 refine ⟨_, he, fun a hf => ?_⟩
 have hO := hO.call hO' (by simp [Res.shared])
 refine op_as hf rfl rfl fun a hf => ?_
 refine wpList_nil ?_
 refine nor_then (hK14 _ _ ?_)
 refine wp_seq_k fun _ hK19 => ?_
 refine wp_seq_cut (fun a w => ∃ (t16 : Bool), Fits 43 [(3, .slice p12 r11.length c13), (24, .bool t16)] a ∧ Dk.Own w0 [] w [.row (.slice p12 r11.length c13) 9 1 r11.length (cells enc_str r11), .blk b8 [.slice p9 r7.f_l.length c10] 158, .row (.slice p9 r7.f_l.length c10) 44 2 r7.f_l.length (cells enc_api_Field r7.f_l), .blk b1 [int x_h.Kind, str x_h.Method, str x_h.Target, int x_h.Code, str x_h.Reason, int x_h.Minor, .slice x_h_p0 x_h.Fields.length x_h_c0] 25, .shr x_h_p0 (cells enc_api_Field x_h.Fields)] ∧ head_hosts_j1 r11 t16 = some R) ?_ ?_
 refine wp_region_list ?_
 refine op_mv hf rfl rfl fun a hf => ?_
 refine op_val (ex_len_l Tryz.underlying61 hf rfl) rfl hf rfl rfl fun a hf => ?_
 refine op_val (ex_gtr (m := (r11.length : Int)) (n := 1) hf rfl rfl) rfl hf rfl rfl fun a hf => ?_
 refine op_mv hf rfl rfl fun a hf => ?_
 rcases bcase (decide (1 < (r11.length : Int))) with hc15 | hc15
 have hm := it hc15 hm
 refine op_pass rfl hf rfl rfl (hc15) rfl rfl fun a hf => ?_
 refine op_pass rfl hf rfl rfl (hc15) rfl rfl fun a hf => ?_
 refine op_pass rfl hf rfl rfl (hc15) rfl rfl fun a hf => ?_
 refine op_pass rfl hf rfl rfl (hc15) rfl rfl fun a hf => ?_
 refine op_pass rfl hf rfl rfl (hc15) rfl rfl fun a hf => ?_
 refine op_val (ex_pick_t hf rfl hc15 rfl) rfl hf rfl rfl fun a hf => ?_
 refine wpList_nil ?_
 refine nor_then ?_
 exact ⟨true, (hf.cons rfl (hf.cons rfl hf.nil)), hO, hm⟩
 have hm := ie hc15 hm
 refine op_guard rfl hf rfl rfl (hc15) ?_
 refine op_mv hf rfl rfl fun a hf => ?_
 refine op_guard rfl hf rfl rfl (hc15) ?_
 refine op_val (ex_len_l Tryz.underlying61 hf rfl) rfl hf rfl rfl fun a hf => ?_
 refine op_guard rfl hf rfl rfl (hc15) ?_
 refine op_val (ex_field fa_25_5 hf rfl) rfl hf rfl rfl fun a hf => ?_
 refine op_guard rfl hf rfl rfl (hc15) ?_
 refine op_val (ex_load1 (o := 5) ag_3 (hO.blkSees (i := 3) rfl) rfl hf rfl) rfl hf rfl rfl fun a hf => ?_
 refine op_guard rfl hf rfl rfl (hc15) ?_
 refine op_val (ex_lss (m := (r11.length : Int)) (n := x_h.Minor) hf rfl rfl) rfl hf rfl rfl fun a hf => ?_
 refine op_val (ex_pick_f hf rfl hc15 rfl) rfl hf rfl rfl fun a hf => ?_
 refine wpList_nil ?_
 refine nor_then ?_
 exact ⟨decide ((r11.length : Int) < x_h.Minor), (hf.cons rfl (hf.cons rfl hf.nil)), hO, hm⟩
 rintro a w ⟨t16, hf, hO, hm⟩
 rw [head_hosts_j1] at hm
 refine wp_cond_cut hf rfl (fun hc17 => ?_) (fun hc17 => ?_)
 have hm := it hc17 hm
 refine wp_seq_k fun _ hK18 => ?_
 refine wp_region_list ?_
 refine op_as hf rfl rfl fun a hf => ?_
 refine wpList_nil ?_
 refine nor_then (hK18 _ _ ?_)
 refine wp_ret ?_
 refine ret_then ?_
 obtain rfl := Option.some.inj hm
 exact post_ret Tryz.results53 hf (.tmp rfl .nil) ⟨rfl, hO.below⟩
 have hm := ie hc17 hm
 refine wp_skip ?_
 refine nor_then (hK19 _ _ ?_)
 refine wp_seq_k fun _ hK38 => ?_
 refine wp_seq_k fun _ hK20 => ?_
 refine wp_region_list ?_
 refine op_mv hf rfl rfl fun a hf => ?_
 refine op_val (ex_len_l Tryz.underlying61 hf rfl) rfl hf rfl rfl fun a hf => ?_
 refine op_mv hf rfl rfl fun a hf => ?_
 refine wpList_nil ?_
 refine nor_then (hK20 _ _ ?_)
 refine wp_block ?_
 refine wp_loop_n (fun k a w => ∃ (i21 : Int), Fits 43 [(25, .slice p12 r11.length c13), (26, int (r11.length : Int)), (27, int i21)] a ∧ Dk.Own w0 [] w [.row (.slice p12 r11.length c13) 9 1 r11.length (cells enc_str r11), .blk b8 [.slice p9 r7.f_l.length c10] 158, .row (.slice p9 r7.f_l.length c10) 44 2 r7.f_l.length (cells enc_api_Field r7.f_l), .blk b1 [int x_h.Kind, str x_h.Method, str x_h.Target, int x_h.Code, str x_h.Reason, int x_h.Minor, .slice x_h_p0 x_h.Fields.length x_h_c0] 25, .shr x_h_p0 (cells enc_api_Field x_h.Fields)] ∧ head_hosts_L2 r11 k i21 = some R) ?_ fuel ?_
 rintro n2 a w ⟨i21, hf, hO, hm⟩
 obtain _ | n2 := n2
 rw [head_hosts_L2] at hm
 cases hm
 rw [head_hosts_L2] at hm
 refine wp_seq_k fun _ hK22 => ?_
 refine wp_region_list ?_
 refine op_val (ex_lss (m := i21) (n := (r11.length : Int)) hf rfl rfl) rfl hf rfl rfl fun a hf => ?_
 refine wpList_nil ?_
 refine nor_then (hK22 _ _ ?_)
 refine wp_seq_k fun _ hK24 => ?_
 refine wp_cond_cut hf rfl (fun hc23 => ?_) (fun hc23 => ?_)
 have hm := it hc23 hm
 refine wp_skip ?_
 refine nor_then (hK24 _ _ ?_)
 refine wp_seq_k fun _ hK36 => ?_
 refine wp_block ?_
 refine wp_seq_k fun _ hK28 => ?_
 refine wp_region_list ?_
 obtain ⟨x25, hx25, hm⟩ := ob hm
 obtain ⟨b26, o27, hix25, hSx25, hAx25⟩ := elemAtRow (enc := enc_str) (sz := 1) (xs := r11) 61 Tryz.underlying61 sz_9 (by decide) (fun _ => rfl) hO (i := 0) rfl hx25
 refine op_val (ex_indexAddr hix25 hf rfl rfl) rfl hf rfl rfl fun a hf => ?_
 refine op_val (ex_load1 (o := 0) ag_9 (hSx25 _ (hO.rowSees (i := 0) rfl)) rfl hf rfl) rfl hf rfl rfl fun a hf => ?_
 refine op_as hf rfl rfl fun a hf => ?_
 refine wpList_nil ?_
 refine nor_then (hK28 _ _ ?_)
 refine wp_seq_k fun _ hK31 => ?_
 refine wp_region_list ?_
 refine op_mv hf rfl rfl fun a hf => ?_
 obtain ⟨r29, hr29, hm⟩ := ob hm
 refine op_enter (ex_call c_90 hf (vs := [str x25]) rfl) rfl hf rfl rfl (w_hostport_Parse x25 r29 _ (hG.own hF hO) hr29) ?_
 rintro e w' ⟨he, hb⟩
 refine ⟨_, he, fun a hf => ?_⟩
 have hO := hO.grow hb
 refine op_mv hf rfl rfl fun a hf => ?_
 refine op_val (ex_extract hf rfl rfl) rfl hf rfl rfl fun a hf => ?_
 refine op_val (ex_extract hf rfl rfl) rfl hf rfl rfl fun a hf => ?_
 refine op_alloc al_81 hf rfl hO fun a b30 w hf hO => ?_
 refine op_storeN (i := 0) (n := 3) sz_81 rfl rfl rfl (by simp [Value.oneCell']) hf rfl rfl hO fun w hO => ?_
 refine op_as hf rfl rfl fun a hf => ?_
 refine wpList_nil ?_
 refine nor_then (hK31 _ _ ?_)
 refine wp_seq_cut (fun a w => ∃ (t33 : Bool), Fits 43 [(25, .slice p12 r11.length c13), (26, int (r11.length : Int)), (27, int i21), (41, .bool t33)] a ∧ Dk.Own w0 [] w [.blk b30 [int r29.1.Kind, str r29.1.Name, int r29.1.Port] 81, .row (.slice p12 r11.length c13) 9 1 r11.length (cells enc_str r11), .blk b8 [.slice p9 r7.f_l.length c10] 158, .row (.slice p9 r7.f_l.length c10) 44 2 r7.f_l.length (cells enc_api_Field r7.f_l), .blk b1 [int x_h.Kind, str x_h.Method, str x_h.Target, int x_h.Code, str x_h.Reason, int x_h.Minor, .slice x_h_p0 x_h.Fields.length x_h_c0] 25, .shr x_h_p0 (cells enc_api_Field x_h.Fields)] ∧ head_hosts_j3 (head_hosts_L2 r11 n2) i21 t33 = some R) ?_ ?_
 refine wp_region_list ?_
 refine op_mv hf rfl rfl fun a hf => ?_
 refine op_val (ex_neq (m := r29.2) (n := 0) hf rfl rfl) rfl hf rfl rfl fun a hf => ?_
 refine op_mv hf rfl rfl fun a hf => ?_
 rcases bcase (!(r29.2 == 0)) with hc32 | hc32
 have hm := it hc32 hm
 refine op_guard rfl hf rfl rfl (hc32) ?_
 refine op_mv hf rfl rfl fun a hf => ?_
 refine op_guard rfl hf rfl rfl (hc32) ?_
 refine op_val (ex_neq_s (l := x25) (m := []) hf rfl rfl) rfl hf rfl rfl fun a hf => ?_
 refine op_val (ex_pick_t hf rfl hc32 rfl) rfl hf rfl rfl fun a hf => ?_
 refine wpList_nil ?_
 refine nor_then ?_
 exact ⟨!(x25 == []), (hf.cons rfl (hf.cons rfl (hf.cons rfl (hf.cons rfl hf.nil)))), hO, hm⟩
 have hm := ie hc32 hm
 refine op_pass rfl hf rfl rfl (hc32) rfl rfl fun a hf => ?_
 refine op_pass rfl hf rfl rfl (hc32) rfl rfl fun a hf => ?_
 refine op_val (ex_pick_f hf rfl hc32 rfl) rfl hf rfl rfl fun a hf => ?_
 refine wpList_nil ?_
 refine nor_then ?_
 exact ⟨false, (hf.cons rfl (hf.cons rfl (hf.cons rfl (hf.cons rfl hf.nil)))), hO, hm⟩
 rintro a w ⟨t33, hf, hO, hm⟩
 rw [head_hosts_j3] at hm
 refine wp_cond_cut hf rfl (fun hc34 => ?_) (fun hc34 => ?_)
 have hm := it hc34 hm
 refine wp_seq_k fun _ hK35 => ?_
 refine wp_region_list ?_
 refine op_as hf rfl rfl fun a hf => ?_
 refine wpList_nil ?_
 refine nor_then (hK35 _ _ ?_)
 refine wp_ret ?_
 refine ret_block ?_
 refine ret_then ?_
 refine ret_then ?_
 refine ret_block ?_
 refine ret_then ?_
 obtain rfl := Option.some.inj hm
 exact post_ret Tryz.results53 hf (.tmp rfl .nil) ⟨rfl, hO.below⟩
 have hm := ie hc34 hm
 refine wp_skip ?_
 refine nor_block ?_
 refine nor_then (hK36 _ _ ?_)
 refine wp_region_list ?_
 obtain ⟨i37, hi37, hm⟩ := ob hm
 refine op_val (ex_add hf rfl rfl hi37) rfl hf rfl rfl fun a hf => ?_
 refine op_mv hf rfl rfl fun a hf => ?_
 refine wpList_nil ?_
 refine nor_then ?_
 exact ⟨_, Nat.lt_succ_self _, i37, (hf.cons rfl (hf.cons rfl (hf.cons rfl hf.nil))), (hO.sub (.cons _ (.cons_cons _ (.cons_cons _ (.cons_cons _ (.cons_cons _ (.cons_cons _ .slnil))))))), hm⟩
 have hm := ie hc23 hm
 refine wp_exit ?_
 refine exit_then ?_
 refine exit_then ?_
 refine exit_here ?_
 refine nor_then (hK38 _ _ ?_)
 refine wp_seq_k fun _ hK39 => ?_
 refine wp_region_list ?_
 refine op_as hf rfl rfl fun a hf => ?_
 refine wpList_nil ?_
 refine nor_then (hK39 _ _ ?_)
 refine wp_ret ?_
 obtain rfl := Option.some.inj hm
 exact post_ret Tryz.results53 hf (.tmp rfl .nil) ⟨rfl, hO.below⟩
 exact ⟨0, (hf.cons rfl (hf.cons rfl (hf.cons rfl hf.nil))), hO, hm⟩

set_option maxHeartbeats 1000000 in
theorem w_head_whole (x_h : api_Head) (R : Int) (w0 : World) (hG : GlobT w0) {x_h_p0 : Option Addr} {x_h_c0 : Nat} (hs0 : Sees w0 x_h_p0 (cells enc_api_Field x_h.Fields)) (hc0 : x_h.Fields.length ≤ x_h_c0) (hm : head_whole x_h = some R) :
    Calls Tryz.prog 28 #[.agg #[int x_h.Kind, str x_h.Method, str x_h.Target, int x_h.Code, str x_h.Reason, int x_h.Minor, .slice x_h_p0 x_h.Fields.length x_h_c0]] w0 fun e w' => e = .returned (int R) ∧ Below w0.heap.size w0 w' := by
 rw [head_whole] at hm
 refine calls_enter (vs := [.agg #[int x_h.Kind, str x_h.Method, str x_h.Target, int x_h.Code, str x_h.Reason, int x_h.Minor, .slice x_h_p0 x_h.Fields.length x_h_c0]]) Tryz.func28 rfl Tryz.ntmps28 rfl fun a hf => ?_
 have hF : Away [] := away_nil
 have hO : Dk.Own w0 [] w0 [] := Dk.Own.refl w0
 have hO := hO.addShr hs0 (by simp [Res.shared])
 refine wp_seq_k fun _ hK2 => ?_
 refine wp_region_list ?_
 refine op_box (v := .agg #[int x_h.Kind, str x_h.Method, str x_h.Target, int x_h.Code, str x_h.Reason, int x_h.Minor, .slice x_h_p0 x_h.Fields.length x_h_c0]) (cs := [int x_h.Kind, str x_h.Method, str x_h.Target, int x_h.Code, str x_h.Reason, int x_h.Minor, .slice x_h_p0 x_h.Fields.length x_h_c0]) rfl hf rfl rfl hO fun a b1 w hf hO => ?_
 refine op_as hf rfl rfl fun a hf => ?_
 refine wpList_nil ?_
 refine nor_then (hK2 _ _ ?_)
 refine wp_seq_k fun _ hK10 => ?_
 refine wp_block ?_
 refine wp_seq_k fun _ hK3 => ?_
 refine wp_region_list ?_
 refine op_val (ex_field fa_25_6 hf rfl) rfl hf rfl rfl fun a hf => ?_
 refine op_val (ex_load1 (o := 6) ag_23 (hO.blkSees (i := 0) rfl) rfl hf rfl) rfl hf rfl rfl fun a hf => ?_
 refine op_val (ex_len_l Tryz.underlying23 hf rfl) rfl hf rfl rfl fun a hf => ?_
 refine op_val (ex_gtr (m := (x_h.Fields.length : Int)) (n := 100) hf rfl rfl) rfl hf rfl rfl fun a hf => ?_
 refine op_as hf rfl rfl fun a hf => ?_
 refine wpList_nil ?_
 refine nor_then (hK3 _ _ ?_)
 refine wp_cond_cut hf rfl (fun hc4 => ?_) (fun hc4 => ?_)
 have hm := it hc4 hm
 refine wp_seq_k fun _ hK5 => ?_
 refine wp_region_list ?_
 refine op_as hf rfl rfl fun a hf => ?_
 refine wpList_nil ?_
 refine nor_then (hK5 _ _ ?_)
 refine wp_ret ?_
 refine ret_block ?_
 refine ret_then ?_
 obtain rfl := Option.some.inj hm
 exact post_ret Tryz.results28 hf (.tmp rfl .nil) ⟨rfl, hO.below⟩
 have hm := ie hc4 hm
 refine wp_seq_k fun _ hK7 => ?_
 refine wp_region_list ?_
 refine op_val (ex_loadN (o := 0) (vs := [int x_h.Kind, str x_h.Method, str x_h.Target, int x_h.Code, str x_h.Reason, int x_h.Minor, .slice x_h_p0 x_h.Fields.length x_h_c0]) ag_25 sz_25 (hO.blkSees (i := 0) rfl) rfl rfl hf rfl) rfl hf rfl rfl fun a hf => ?_
 obtain ⟨r6, hr6, hm⟩ := ob hm
 refine op_enter (ex_call c_53 hf (vs := [.agg #[int x_h.Kind, str x_h.Method, str x_h.Target, int x_h.Code, str x_h.Reason, int x_h.Minor, .slice x_h_p0 x_h.Fields.length x_h_c0]]) rfl) rfl hf rfl rfl (w_head_hosts x_h r6 _ (hG.own hF hO) (hO.sees (i := 1) rfl) hc0 hr6) ?_
 rintro e w' ⟨he, hb⟩
 refine ⟨_, he, fun a hf => ?_⟩
 have hO := hO.grow hb
 refine op_val (ex_not hf rfl) rfl hf rfl rfl fun a hf => ?_
 refine op_as hf rfl rfl fun a hf => ?_
 refine wpList_nil ?_
 refine nor_then (hK7 _ _ ?_)
 refine wp_cond_cut hf rfl (fun hc8 => ?_) (fun hc8 => ?_)
 have hm := it hc8 hm
 refine wp_seq_k fun _ hK9 => ?_
 refine wp_region_list ?_
 refine op_as hf rfl rfl fun a hf => ?_
 refine wpList_nil ?_
 refine nor_then (hK9 _ _ ?_)
 refine wp_ret ?_
 refine ret_block ?_
 refine ret_then ?_
 obtain rfl := Option.some.inj hm
 exact post_ret Tryz.results28 hf (.tmp rfl .nil) ⟨rfl, hO.below⟩
 have hm := ie hc8 hm
 refine wp_skip ?_
 refine nor_block ?_
 refine nor_then (hK10 _ _ ?_)
 refine wp_seq_k fun _ hK11 => ?_
 refine wp_region_list ?_
 refine op_as hf rfl rfl fun a hf => ?_
 refine wpList_nil ?_
 refine nor_then (hK11 _ _ ?_)
 refine wp_ret ?_
 obtain rfl := Option.some.inj hm
 exact post_ret Tryz.results28 hf (.tmp rfl .nil) ⟨rfl, hO.below⟩

set_option maxHeartbeats 1000000 in
theorem w_head_Parse (x_a0 : Int) (x_a1 : Str) (x_a2 : Int) (R : api_Head × Int) (w0 : World) (hG : GlobT w0) (hm : head_Parse x_a0 x_a1 x_a2 = some R) :
    Calls Tryz.prog 13 #[int x_a0, str x_a1, int x_a2] w0 fun e w' => ∃ (p0 : Option Addr) (c0 : Nat), e = .returned (.tuple #[.agg #[int R.1.Kind, str R.1.Method, str R.1.Target, int R.1.Code, str R.1.Reason, int R.1.Minor, .slice p0 R.1.Fields.length c0], int R.2]) ∧ Dk.Own w0 [] w' [.row (.slice p0 R.1.Fields.length c0) 44 2 R.1.Fields.length (cells enc_api_Field R.1.Fields)] := by
 rw [head_Parse] at hm
 refine calls_enter (vs := [int x_a0, str x_a1, int x_a2]) Tryz.func13 rfl Tryz.ntmps13 rfl fun a hf => ?_
 have hF : Away [] := away_nil
 have hO : Dk.Own w0 [] w0 [] := Dk.Own.refl w0
 refine wp_seq_k fun _ hK2 => ?_
 refine wp_region_list ?_
 refine op_alloc al_25 hf rfl hO fun a b1 w hf hO => ?_
 have hO := hO.nilRow 44 2
 refine op_as hf rfl rfl fun a hf => ?_
 refine wpList_nil ?_
 refine nor_then (hK2 _ _ ?_)
 refine wp_seq_k fun _ hK11 => ?_
 refine wp_seq_k fun _ hK7 => ?_
 refine wp_region_list ?_
 refine op_mv hf rfl rfl fun a hf => ?_
 obtain ⟨r3, hr3, hm⟩ := ob hm
 refine op_enter (ex_call c_30 hf (vs := [int x_a0, str []]) rfl) rfl hf rfl rfl (w_startline_Parse x_a0 [] r3 _ (hG.own hF hO) hr3) ?_
 rintro e w' ⟨p4, c5, he, hO'⟩
 refine ⟨_, he, fun a hf => ?_⟩
 have hO := hO.call hO' (by simp [Res.shared])
 refine op_mv hf rfl rfl fun a hf => ?_
 refine op_val (ex_extract hf rfl rfl) rfl hf rfl rfl fun a hf => ?_
 refine op_val (ex_extract hf rfl rfl) rfl hf rfl rfl fun a hf => ?_
 refine op_alloc al_25 hf rfl hO fun a b6 w hf hO => ?_
 have hO := hO.nilRow 44 2
 refine op_storeN (i := 1) (n := 7) sz_25 rfl rfl rfl (by simp [Value.oneCell']) hf rfl rfl hO fun w hO => ?_
 refine op_as hf rfl rfl fun a hf => ?_
 refine wpList_nil ?_
 refine nor_then (hK7 _ _ ?_)
 refine wp_seq_k fun _ hK8 => ?_
 refine wp_region_list ?_
 refine op_mv hf rfl rfl fun a hf => ?_
 refine op_val (ex_eql (m := r3.2) (n := 1) hf rfl rfl) rfl hf rfl rfl fun a hf => ?_
 refine wpList_nil ?_
 refine nor_then (hK8 _ _ ?_)
 refine wp_cond_cut hf rfl (fun hc9 => ?_) (fun hc9 => ?_)
 have hm := it hc9 hm
 refine wp_seq_k fun _ hK10 => ?_
 refine wp_region_list ?_
 refine op_val (ex_build (vs := []) (v := .agg #[int 0, str [], str [], int 0, str [], int 0, .slice none 0 0]) hf rfl (by kernel_rfl)) rfl hf rfl rfl fun a hf => ?_
 refine op_mv hf rfl rfl fun a hf => ?_
 refine op_storeN (i := 4) (n := 7) sz_25 rfl rfl rfl (by simp [Value.oneCell']) hf rfl rfl hO fun w hO => ?_
 have hO := hO.nilRow 44 2
 refine op_as hf rfl rfl fun a hf => ?_
 refine wpList_nil ?_
 refine nor_then (hK10 _ _ ?_)
 refine wp_ret ?_
 refine ret_then ?_
 obtain rfl := Option.some.inj hm
 exact post_ret Tryz.results13 hf (.cell rfl (run_loadVarN (n := 7) (vs := [int 0, str [], str [], int 0, str [], int 0, .slice none 0 0]) ag_25 sz_25 rfl ((hO.blkSees (i := 5) rfl).cells (o := 0) (n := 7) rfl)) (.tmp rfl .nil)) ⟨none, 0, rfl, (hO.sub (.cons_cons _ (.cons _ (.cons _ (.cons _ (.cons _ (.cons _ .slnil)))))))⟩
 have hm := ie hc9 hm
 refine wp_skip ?_
 refine nor_then (hK11 _ _ ?_)
 refine wp_seq_k fun _ hK13 => ?_
 refine wp_region_list ?_
 refine op_mv hf rfl rfl fun a hf => ?_
 obtain ⟨r12, hr12, hm⟩ := ob hm
 refine op_enter (ex_call c_31 hf (vs := [str x_a1, str [13, 10, 13, 10]]) rfl) rfl hf rfl rfl (w_strings_Index x_a1 [13, 10, 13, 10] r12 _ (hG.own hF hO).1 hr12) ?_
 rintro e w' ⟨he, hb⟩
 refine ⟨_, he, fun a hf => ?_⟩
 have hO := hO.grow hb
 refine op_as hf rfl rfl fun a hf => ?_
 refine wpList_nil ?_
 refine nor_then (hK13 _ _ ?_)
 refine wp_seq_k fun _ hK22 => ?_
 refine wp_block ?_
 refine wp_seq_k fun _ hK14 => ?_
 refine wp_region_list ?_
 refine op_mv hf rfl rfl fun a hf => ?_
 refine op_val (ex_len_s (l := x_a1) Tryz.underlying9 hf rfl) rfl hf rfl rfl fun a hf => ?_
 refine op_mv hf rfl rfl fun a hf => ?_
 refine op_val (ex_gtr (m := (x_a1.length : Int)) (n := x_a2) hf rfl rfl) rfl hf rfl rfl fun a hf => ?_
 refine op_as hf rfl rfl fun a hf => ?_
 refine wpList_nil ?_
 refine nor_then (hK14 _ _ ?_)
 refine wp_cond_cut hf rfl (fun hc15 => ?_) (fun hc15 => ?_)
 have hm := it hc15 hm
 refine wp_seq_k fun _ hK16 => ?_
 refine wp_region_list ?_
 refine op_val (ex_build (vs := []) (v := .agg #[int 0, str [], str [], int 0, str [], int 0, .slice none 0 0]) hf rfl (by kernel_rfl)) rfl hf rfl rfl fun a hf => ?_
 refine op_storeN (i := 4) (n := 7) sz_25 rfl rfl rfl (by simp [Value.oneCell']) hf rfl rfl hO fun w hO => ?_
 have hO := hO.nilRow 44 2
 refine op_as hf rfl rfl fun a hf => ?_
 refine wpList_nil ?_
 refine nor_then (hK16 _ _ ?_)
 refine wp_ret ?_
 refine ret_block ?_
 refine ret_then ?_
 obtain rfl := Option.some.inj hm
 exact post_ret Tryz.results13 hf (.cell rfl (run_loadVarN (n := 7) (vs := [int 0, str [], str [], int 0, str [], int 0, .slice none 0 0]) ag_25 sz_25 rfl ((hO.blkSees (i := 5) rfl).cells (o := 0) (n := 7) rfl)) (.tmp rfl .nil)) ⟨none, 0, rfl, (hO.sub (.cons_cons _ (.cons _ (.cons _ (.cons _ (.cons _ (.cons _ .slnil)))))))⟩
 have hm := ie hc15 hm
 refine wp_seq_cut (fun a w => ∃ (t19 : Bool), Fits 93 [(0, int x_a0), (1, str x_a1), (6, ptr b1 0), (10, int r12), (36, .bool t19)] a ∧ Dk.Own w0 [] w [.row (.slice none 0 0) 44 2 0 (cells enc_api_Field []), .blk b6 [int r3.1.Kind, str r3.1.Method, str r3.1.Target, int r3.1.Code, str r3.1.Reason, int r3.1.Minor, .slice p4 r3.1.Fields.length c5] 25, .row (.slice p4 r3.1.Fields.length c5) 44 2 r3.1.Fields.length (cells enc_api_Field r3.1.Fields), .row (.slice none 0 0) 44 2 0 (cells enc_api_Field []), .blk b1 [int 0, str [], str [], int 0, str [], int 0, .slice none 0 0] 25] ∧ head_Parse_j1 x_a0 x_a1 r12 t19 = some R) ?_ ?_
 refine wp_region_list ?_
 refine op_mv hf rfl rfl fun a hf => ?_
 refine op_val (ex_lss (m := r12) (n := 0) hf rfl rfl) rfl hf rfl rfl fun a hf => ?_
 refine op_mv hf rfl rfl fun a hf => ?_
 rcases bcase (decide (r12 < 0)) with hc17 | hc17
 have hm := it hc17 hm
 refine op_pass rfl hf rfl rfl (hc17) rfl rfl fun a hf => ?_
 refine op_pass rfl hf rfl rfl (hc17) rfl rfl fun a hf => ?_
 refine op_pass rfl hf rfl rfl (hc17) rfl rfl fun a hf => ?_
 refine op_pass rfl hf rfl rfl (hc17) rfl rfl fun a hf => ?_
 refine op_pass rfl hf rfl rfl (hc17) rfl rfl fun a hf => ?_
 refine op_val (ex_pick_t hf rfl hc17 rfl) rfl hf rfl rfl fun a hf => ?_
 refine op_as hf rfl rfl fun a hf => ?_
 refine wpList_nil ?_
 refine nor_then ?_
 exact ⟨true, (hf.cons rfl (hf.cons rfl (hf.cons rfl (hf.cons rfl (hf.cons rfl hf.nil))))), hO, hm⟩
 have hm := ie hc17 hm
 refine op_guard rfl hf rfl rfl (hc17) ?_
 refine op_mv hf rfl rfl fun a hf => ?_
 refine op_guard rfl hf rfl rfl (hc17) ?_
 obtain ⟨i18, hi18, hm⟩ := ob hm
 refine op_val (ex_add hf rfl rfl hi18) rfl hf rfl rfl fun a hf => ?_
 refine op_guard rfl hf rfl rfl (hc17) ?_
 refine op_mv hf rfl rfl fun a hf => ?_
 refine op_guard rfl hf rfl rfl (hc17) ?_
 refine op_val (ex_len_s (l := x_a1) Tryz.underlying9 hf rfl) rfl hf rfl rfl fun a hf => ?_
 refine op_guard rfl hf rfl rfl (hc17) ?_
 refine op_val (ex_neq (m := i18) (n := (x_a1.length : Int)) hf rfl rfl) rfl hf rfl rfl fun a hf => ?_
 refine op_val (ex_pick_f hf rfl hc17 rfl) rfl hf rfl rfl fun a hf => ?_
 refine op_as hf rfl rfl fun a hf => ?_
 refine wpList_nil ?_
 refine nor_then ?_
 exact ⟨!(i18 == (x_a1.length : Int)), (hf.cons rfl (hf.cons rfl (hf.cons rfl (hf.cons rfl (hf.cons rfl hf.nil))))), hO, hm⟩
 rintro a w ⟨t19, hf, hO, hm⟩
 rw [head_Parse_j1] at hm
 refine wp_cond_cut hf rfl (fun hc20 => ?_) (fun hc20 => ?_)
 have hm := it hc20 hm
 refine wp_seq_k fun _ hK21 => ?_
 refine wp_region_list ?_
 refine op_val (ex_build (vs := []) (v := .agg #[int 0, str [], str [], int 0, str [], int 0, .slice none 0 0]) hf rfl (by kernel_rfl)) rfl hf rfl rfl fun a hf => ?_
 refine op_storeN (i := 4) (n := 7) sz_25 rfl rfl rfl (by simp [Value.oneCell']) hf rfl rfl hO fun w hO => ?_
 have hO := hO.nilRow 44 2
 refine op_as hf rfl rfl fun a hf => ?_
 refine wpList_nil ?_
 refine nor_then (hK21 _ _ ?_)
 refine wp_ret ?_
 refine ret_block ?_
 refine ret_then ?_
 obtain rfl := Option.some.inj hm
 exact post_ret Tryz.results13 hf (.cell rfl (run_loadVarN (n := 7) (vs := [int 0, str [], str [], int 0, str [], int 0, .slice none 0 0]) ag_25 sz_25 rfl ((hO.blkSees (i := 5) rfl).cells (o := 0) (n := 7) rfl)) (.tmp rfl .nil)) ⟨none, 0, rfl, (hO.sub (.cons_cons _ (.cons _ (.cons _ (.cons _ (.cons _ (.cons _ .slnil)))))))⟩
 have hm := ie hc20 hm
 refine wp_skip ?_
 refine nor_block ?_
 refine nor_then (hK22 _ _ ?_)
 refine wp_seq_k fun _ hK27 => ?_
 refine wp_region_list ?_
 refine op_mv hf rfl rfl fun a hf => ?_
 refine op_mv hf rfl rfl fun a hf => ?_
 obtain ⟨s23, hs23, hm⟩ := ob hm
 refine op_val (ex_to_s (l := x_a1) Tryz.underlying9 hf rfl rfl hs23) rfl hf rfl rfl fun a hf => ?_
 obtain ⟨r24, hr24, hm⟩ := ob hm
 refine op_enter (ex_call c_32 hf (vs := [str s23, str [13, 10]]) rfl) rfl hf rfl rfl (w_strings_Split s23 [13, 10] r24 _ (hG.own hF hO).1 hr24) ?_
 rintro e w' ⟨p25, c26, he, hO'⟩
 refine ⟨_, he, fun a hf => ?_⟩
 have hO := hO.call hO' (by simp [Res.shared])
 refine op_as hf rfl rfl fun a hf => ?_
 refine wpList_nil ?_
 refine nor_then (hK27 _ _ ?_)
 refine wp_seq_k fun _ hK35 => ?_
 refine wp_region_list ?_
 refine op_mv hf rfl rfl fun a hf => ?_
 refine op_mv hf rfl rfl fun a hf => ?_
 obtain ⟨x28, hx28, hm⟩ := ob hm
 obtain ⟨b29, o30, hix28, hSx28, hAx28⟩ := elemAtRow (enc := enc_str) (sz := 1) (xs := r24) 61 Tryz.underlying61 sz_9 (by decide) (fun _ => rfl) hO (i := 0) rfl hx28
 refine op_val (ex_indexAddr hix28 hf rfl rfl) rfl hf rfl rfl fun a hf => ?_
 refine op_val (ex_load1 (o := 0) ag_9 (hSx28 _ (hO.rowSees (i := 0) rfl)) rfl hf rfl) rfl hf rfl rfl fun a hf => ?_
 obtain ⟨r31, hr31, hm⟩ := ob hm
 refine op_enter (ex_call c_30 hf (vs := [int x_a0, str x28]) rfl) rfl hf rfl rfl (w_startline_Parse x_a0 x28 r31 _ (hG.own hF hO) hr31) ?_
 rintro e w' ⟨p32, c33, he, hO'⟩
 refine ⟨_, he, fun a hf => ?_⟩
 have hO := hO.call hO' (by simp [Res.shared])
 refine op_mv hf rfl rfl fun a hf => ?_
 refine op_val (ex_extract hf rfl rfl) rfl hf rfl rfl fun a hf => ?_
 refine op_val (ex_extract hf rfl rfl) rfl hf rfl rfl fun a hf => ?_
 refine op_alloc al_25 hf rfl hO fun a b34 w hf hO => ?_
 have hO := hO.nilRow 44 2
 refine op_storeN (i := 1) (n := 7) sz_25 rfl rfl rfl (by simp [Value.oneCell']) hf rfl rfl hO fun w hO => ?_
 refine op_as hf rfl rfl fun a hf => ?_
 refine wpList_nil ?_
 refine nor_then (hK35 _ _ ?_)
 refine wp_seq_k fun _ hK39 => ?_
 refine wp_seq_k fun _ hK36 => ?_
 refine wp_region_list ?_
 refine op_mv hf rfl rfl fun a hf => ?_
 refine op_val (ex_neq (m := r31.2) (n := 0) hf rfl rfl) rfl hf rfl rfl fun a hf => ?_
 refine wpList_nil ?_
 refine nor_then (hK36 _ _ ?_)
 refine wp_cond_cut hf rfl (fun hc37 => ?_) (fun hc37 => ?_)
 have hm := it hc37 hm
 refine wp_seq_k fun _ hK38 => ?_
 refine wp_region_list ?_
 refine op_val (ex_build (vs := []) (v := .agg #[int 0, str [], str [], int 0, str [], int 0, .slice none 0 0]) hf rfl (by kernel_rfl)) rfl hf rfl rfl fun a hf => ?_
 refine op_mv hf rfl rfl fun a hf => ?_
 refine op_storeN (i := 8) (n := 7) sz_25 rfl rfl rfl (by simp [Value.oneCell']) hf rfl rfl hO fun w hO => ?_
 have hO := hO.nilRow 44 2
 refine op_as hf rfl rfl fun a hf => ?_
 refine wpList_nil ?_
 refine nor_then (hK38 _ _ ?_)
 refine wp_ret ?_
 refine ret_then ?_
 obtain rfl := Option.some.inj hm
 exact post_ret Tryz.results13 hf (.cell rfl (run_loadVarN (n := 7) (vs := [int 0, str [], str [], int 0, str [], int 0, .slice none 0 0]) ag_25 sz_25 rfl ((hO.blkSees (i := 9) rfl).cells (o := 0) (n := 7) rfl)) (.tmp rfl .nil)) ⟨none, 0, rfl, (hO.sub (.cons_cons _ (.cons _ (.cons _ (.cons _ (.cons _ (.cons _ (.cons _ (.cons _ (.cons _ (.cons _ .slnil)))))))))))⟩
 have hm := ie hc37 hm
 refine wp_skip ?_
 refine nor_then (hK39 _ _ ?_)
 refine wp_seq_cut (fun a w => ∃ (i75 : Int) (s76 : Str) (s77 : Str) (i78 : Int) (s79 : Str) (i80 : Int) (p81 : Option Addr) (c82 : Nat) (l83 : List api_Field), Fits 93 [(6, ptr b1 0), (12, ptr b34 0)] a ∧ Dk.Own w0 [] w [.row (.slice none 0 0) 44 2 0 (cells enc_api_Field []), .blk b34 [int i75, str s76, str s77, int i78, str s79, int i80, .slice p81 l83.length c82] 25, .row (.slice p81 l83.length c82) 44 2 l83.length (cells enc_api_Field l83), .shr p25 (cells enc_str r24), .row (.slice none 0 0) 44 2 0 (cells enc_api_Field []), .blk b6 [int r3.1.Kind, str r3.1.Method, str r3.1.Target, int r3.1.Code, str r3.1.Reason, int r3.1.Minor, .slice p4 r3.1.Fields.length c5] 25, .row (.slice p4 r3.1.Fields.length c5) 44 2 r3.1.Fields.length (cells enc_api_Field r3.1.Fields), .row (.slice none 0 0) 44 2 0 (cells enc_api_Field []), .blk b1 [int 0, str [], str [], int 0, str [], int 0, .slice none 0 0] 25] ∧ head_Parse_j3 i75 s76 s77 i78 s79 i80 l83 = some R) ?_ ?_
 refine wp_seq_k fun _ hK44 => ?_
 refine wp_region_list ?_
 refine op_mv hf rfl rfl fun a hf => ?_
 obtain ⟨l41, hl41, hm⟩ := ob hm
 have hcr40 := hO.rowCap (i := 3) rfl
 have hO := hO.giveRow (i := 3) rfl
 obtain ⟨p42, c43, hrl41, hVl41, hCl41, hPl41⟩ := sliceFrom (enc := enc_str) (xs := r24) 61 Tryz.underlying61 sz_9 (fun _ => rfl) (hO.sees (i := 3) rfl) hcr40 hl41
 have hO := hO.share (i := 3) rfl hPl41 (hVl41 _ (hO.sees (i := 3) rfl))
 refine op_val (ex_sliceFrom Tryz.underlying61 hrl41 hf rfl rfl) rfl hf rfl rfl fun a hf => ?_
 refine op_val (ex_len_l Tryz.underlying61 hf rfl) rfl hf rfl rfl fun a hf => ?_
 refine op_mv hf rfl rfl fun a hf => ?_
 refine wpList_nil ?_
 refine nor_then (hK44 _ _ ?_)
 refine wp_block ?_
 refine wp_loop_n (fun k a w => ∃ (i45 : Int) (s46 : Str) (s47 : Str) (i48 : Int) (s49 : Str) (i50 : Int) (p51 : Option Addr) (c52 : Nat) (l53 : List api_Field) (i54 : Int), Fits 93 [(6, ptr b1 0), (12, ptr b34 0), (64, .slice p42 l41.length c43), (65, int (l41.length : Int)), (66, int i54)] a ∧ Dk.Own w0 [] w [.shr p42 (cells enc_str l41), .row (.slice none 0 0) 44 2 0 (cells enc_api_Field []), .blk b34 [int i45, str s46, str s47, int i48, str s49, int i50, .slice p51 l53.length c52] 25, .row (.slice p51 l53.length c52) 44 2 l53.length (cells enc_api_Field l53), .shr p25 (cells enc_str r24), .row (.slice none 0 0) 44 2 0 (cells enc_api_Field []), .blk b6 [int r3.1.Kind, str r3.1.Method, str r3.1.Target, int r3.1.Code, str r3.1.Reason, int r3.1.Minor, .slice p4 r3.1.Fields.length c5] 25, .row (.slice p4 r3.1.Fields.length c5) 44 2 r3.1.Fields.length (cells enc_api_Field r3.1.Fields), .row (.slice none 0 0) 44 2 0 (cells enc_api_Field []), .blk b1 [int 0, str [], str [], int 0, str [], int 0, .slice none 0 0] 25] ∧ head_Parse_L2 l41 k i45 s46 s47 i48 s49 i50 l53 i54 = some R) ?_ fuel ?_
 rintro n2 a w ⟨i45, s46, s47, i48, s49, i50, p51, c52, l53, i54, hf, hO, hm⟩
 obtain _ | n2 := n2
 rw [head_Parse_L2] at hm
 cases hm
 rw [head_Parse_L2] at hm
 refine wp_seq_k fun _ hK55 => ?_
 refine wp_region_list ?_
 refine op_val (ex_lss (m := i54) (n := (l41.length : Int)) hf rfl rfl) rfl hf rfl rfl fun a hf => ?_
 refine wpList_nil ?_
 refine nor_then (hK55 _ _ ?_)
 refine wp_seq_k fun _ hK57 => ?_
 refine wp_cond_cut hf rfl (fun hc56 => ?_) (fun hc56 => ?_)
 have hm := it hc56 hm
 refine wp_skip ?_
 refine nor_then (hK57 _ _ ?_)
 refine wp_seq_k fun _ hK73 => ?_
 refine wp_block ?_
 refine wp_seq_k fun _ hK61 => ?_
 refine wp_region_list ?_
 obtain ⟨x58, hx58, hm⟩ := ob hm
 obtain ⟨b59, o60, hix58, hSx58⟩ := elemAt (enc := enc_str) (sz := 1) (xs := l41) 61 Tryz.underlying61 sz_9 (by decide) (fun _ => rfl) (hO.sees (i := 0) rfl) hx58
 refine op_val (ex_indexAddr hix58 hf rfl rfl) rfl hf rfl rfl fun a hf => ?_
 refine op_val (ex_load1 (o := 0) ag_9 (hSx58 _ (hO.sees (i := 0) rfl)) rfl hf rfl) rfl hf rfl rfl fun a hf => ?_
 refine op_as hf rfl rfl fun a hf => ?_
 refine wpList_nil ?_
 refine nor_then (hK61 _ _ ?_)
 refine wp_seq_k fun _ hK64 => ?_
 refine wp_region_list ?_
 refine op_mv hf rfl rfl fun a hf => ?_
 obtain ⟨r62, hr62, hm⟩ := ob hm
 refine op_enter (ex_call c_33 hf (vs := [str x58]) rfl) rfl hf rfl rfl (w_fieldline_Parse x58 r62 _ (hG.own hF hO).1 hr62) ?_
 rintro e w' ⟨he, hb⟩
 refine ⟨_, he, fun a hf => ?_⟩
 have hO := hO.grow hb
 refine op_mv hf rfl rfl fun a hf => ?_
 refine op_val (ex_extract hf rfl rfl) rfl hf rfl rfl fun a hf => ?_
 refine op_val (ex_extract hf rfl rfl) rfl hf rfl rfl fun a hf => ?_
 refine op_alloc al_44 hf rfl hO fun a b63 w hf hO => ?_
 refine op_storeN (i := 0) (n := 2) sz_44 rfl rfl rfl (by simp [Value.oneCell']) hf rfl rfl hO fun w hO => ?_
 refine op_as hf rfl rfl fun a hf => ?_
 refine wpList_nil ?_
 refine nor_then (hK64 _ _ ?_)
 refine wp_seq_k fun _ hK68 => ?_
 refine wp_seq_k fun _ hK65 => ?_
 refine wp_region_list ?_
 refine op_mv hf rfl rfl fun a hf => ?_
 refine op_val (ex_neq (m := r62.2) (n := 0) hf rfl rfl) rfl hf rfl rfl fun a hf => ?_
 refine wpList_nil ?_
 refine nor_then (hK65 _ _ ?_)
 refine wp_cond_cut hf rfl (fun hc66 => ?_) (fun hc66 => ?_)
 have hm := it hc66 hm
 refine wp_seq_k fun _ hK67 => ?_
 refine wp_region_list ?_
 refine op_val (ex_build (vs := []) (v := .agg #[int 0, str [], str [], int 0, str [], int 0, .slice none 0 0]) hf rfl (by kernel_rfl)) rfl hf rfl rfl fun a hf => ?_
 refine op_mv hf rfl rfl fun a hf => ?_
 refine op_storeN (i := 10) (n := 7) sz_25 rfl rfl rfl (by simp [Value.oneCell']) hf rfl rfl hO fun w hO => ?_
 have hO := hO.nilRow 44 2
 refine op_as hf rfl rfl fun a hf => ?_
 refine wpList_nil ?_
 refine nor_then (hK67 _ _ ?_)
 refine wp_ret ?_
 refine ret_then ?_
 refine ret_block ?_
 refine ret_then ?_
 refine ret_then ?_
 refine ret_block ?_
 refine ret_then ?_
 obtain rfl := Option.some.inj hm
 exact post_ret Tryz.results13 hf (.cell rfl (run_loadVarN (n := 7) (vs := [int 0, str [], str [], int 0, str [], int 0, .slice none 0 0]) ag_25 sz_25 rfl ((hO.blkSees (i := 11) rfl).cells (o := 0) (n := 7) rfl)) (.tmp rfl .nil)) ⟨none, 0, rfl, (hO.sub (.cons_cons _ (.cons _ (.cons _ (.cons _ (.cons _ (.cons _ (.cons _ (.cons _ (.cons _ (.cons _ (.cons _ (.cons _ .slnil)))))))))))))⟩
 have hm := ie hc66 hm
 refine wp_skip ?_
 refine nor_then (hK68 _ _ ?_)
 refine wp_region_list ?_
 refine op_val (ex_field fa_25_6 hf rfl) rfl hf rfl rfl fun a hf => ?_
 refine op_val (ex_load1 (o := 6) ag_23 (hO.blkSees (i := 3) rfl) rfl hf rfl) rfl hf rfl rfl fun a hf => ?_
 refine op_val (ex_loadN (o := 0) (vs := [str r62.1.Name, str r62.1.Value]) ag_44 sz_44 (hO.blkSees (i := 0) rfl) rfl rfl hf rfl) rfl hf rfl rfl fun a hf => ?_
 refine op_buildSlice (vs := [(0, .agg #[str r62.1.Name, str r62.1.Value])]) (cs := [str r62.1.Name, str r62.1.Value]) (e := 44) (sz := 2) hf rfl rfl (fun w => by kernel_rfl) rfl rfl hO fun a b69 w hf hO => ?_
 obtain ⟨hg72, hm⟩ := og hm
 refine op_appendT el_23 (enc := enc_api_Field) (xs := l53) (ys := [r62.1]) (i := 5) (fun _ => rfl) rfl (hO.rowSees (i := 0) rfl) (by simp [cells, enc_api_Field, Value.oneCell']) hg72 hf rfl rfl rfl hO fun a p70 c71 w hf hO => ?_
 refine op_val (ex_field fa_25_6 hf rfl) rfl hf rfl rfl fun a hf => ?_
 refine op_store1 (i := 4) (o := 6) (v := .slice p70 ((l53 ++ [r62.1]).length) c71) sz_23 rfl rfl rfl rfl hf rfl rfl hO fun w hO => ?_
 refine wpList_nil ?_
 refine nor_block ?_
 refine nor_then (hK73 _ _ ?_)
 refine wp_region_list ?_
 obtain ⟨i74, hi74, hm⟩ := ob hm
 refine op_val (ex_add hf rfl rfl hi74) rfl hf rfl rfl fun a hf => ?_
 refine op_mv hf rfl rfl fun a hf => ?_
 refine wpList_nil ?_
 refine nor_then ?_
 exact ⟨_, Nat.lt_succ_self _, i45, s46, s47, i48, s49, i50, p70, c71, l53 ++ [r62.1], i74, (hf.cons rfl (hf.cons rfl (hf.cons rfl (hf.cons rfl (hf.cons rfl hf.nil))))), (hO.sub (.cons _ (.cons _ (.cons_cons _ (.cons_cons _ (.cons_cons _ (.cons_cons _ (.cons_cons _ (.cons_cons _ (.cons_cons _ (.cons_cons _ (.cons_cons _ (.cons_cons _ .slnil))))))))))))), hm⟩
 have hm := ie hc56 hm
 refine wp_exit ?_
 refine exit_then ?_
 refine exit_then ?_
 refine exit_here ?_
 refine nor_then ?_
 exact ⟨i45, s46, s47, i48, s49, i50, p51, c52, l53, (hf.cons rfl (hf.cons rfl hf.nil)), (hO.sub (.cons _ (.cons_cons _ (.cons_cons _ (.cons_cons _ (.cons_cons _ (.cons_cons _ (.cons_cons _ (.cons_cons _ (.cons_cons _ (.cons_cons _ .slnil))))))))))), hm⟩
 exact ⟨r31.1.Kind, r31.1.Method, r31.1.Target, r31.1.Code, r31.1.Reason, r31.1.Minor, p32, c33, r31.1.Fields, 0, (hf.cons rfl (hf.cons rfl (hf.cons rfl (hf.cons rfl (hf.cons rfl hf.nil))))), hO, hm⟩
 rintro a w ⟨i75, s76, s77, i78, s79, i80, p81, c82, l83, hf, hO, hm⟩
 rw [head_Parse_j3] at hm
 refine wp_seq_k fun _ hK89 => ?_
 refine wp_seq_k fun _ hK85 => ?_
 refine wp_region_list ?_
 refine op_val (ex_loadN (o := 0) (vs := [int i75, str s76, str s77, int i78, str s79, int i80, .slice p81 l83.length c82]) ag_25 sz_25 (hO.blkSees (i := 1) rfl) rfl rfl hf rfl) rfl hf rfl rfl fun a hf => ?_
 obtain ⟨r84, hr84, hm⟩ := ob hm
 refine op_enter (ex_call c_28 hf (vs := [.agg #[int i75, str s76, str s77, int i78, str s79, int i80, .slice p81 l83.length c82]]) rfl) rfl hf rfl rfl (w_head_whole (⟨i75, s76, s77, i78, s79, i80, l83⟩ : api_Head) r84 _ (hG.own hF hO) (hO.rowSees (i := 2) rfl) (hO.rowCap (i := 2) rfl) hr84) ?_
 rintro e w' ⟨he, hb⟩
 refine ⟨_, he, fun a hf => ?_⟩
 have hO := hO.grow hb
 refine op_as hf rfl rfl fun a hf => ?_
 refine wpList_nil ?_
 refine nor_then (hK85 _ _ ?_)
 refine wp_seq_k fun _ hK86 => ?_
 refine wp_region_list ?_
 refine op_mv hf rfl rfl fun a hf => ?_
 refine op_val (ex_neq (m := r84) (n := 0) hf rfl rfl) rfl hf rfl rfl fun a hf => ?_
 refine wpList_nil ?_
 refine nor_then (hK86 _ _ ?_)
 refine wp_cond_cut hf rfl (fun hc87 => ?_) (fun hc87 => ?_)
 have hm := it hc87 hm
 refine wp_seq_k fun _ hK88 => ?_
 refine wp_region_list ?_
 refine op_val (ex_build (vs := []) (v := .agg #[int 0, str [], str [], int 0, str [], int 0, .slice none 0 0]) hf rfl (by kernel_rfl)) rfl hf rfl rfl fun a hf => ?_
 refine op_mv hf rfl rfl fun a hf => ?_
 refine op_storeN (i := 8) (n := 7) sz_25 rfl rfl rfl (by simp [Value.oneCell']) hf rfl rfl hO fun w hO => ?_
 have hO := hO.nilRow 44 2
 refine op_as hf rfl rfl fun a hf => ?_
 refine wpList_nil ?_
 refine nor_then (hK88 _ _ ?_)
 refine wp_ret ?_
 refine ret_then ?_
 obtain rfl := Option.some.inj hm
 exact post_ret Tryz.results13 hf (.cell rfl (run_loadVarN (n := 7) (vs := [int 0, str [], str [], int 0, str [], int 0, .slice none 0 0]) ag_25 sz_25 rfl ((hO.blkSees (i := 9) rfl).cells (o := 0) (n := 7) rfl)) (.tmp rfl .nil)) ⟨none, 0, rfl, (hO.sub (.cons_cons _ (.cons _ (.cons _ (.cons _ (.cons _ (.cons _ (.cons _ (.cons _ (.cons _ (.cons _ .slnil)))))))))))⟩
 have hm := ie hc87 hm
 refine wp_skip ?_
 refine nor_then (hK89 _ _ ?_)
 refine wp_seq_k fun _ hK90 => ?_
 refine wp_region_list ?_
 refine op_val (ex_loadN (o := 0) (vs := [int i75, str s76, str s77, int i78, str s79, int i80, .slice p81 l83.length c82]) ag_25 sz_25 (hO.blkSees (i := 1) rfl) rfl rfl hf rfl) rfl hf rfl rfl fun a hf => ?_
 refine op_storeN (i := 8) (n := 7) sz_25 rfl rfl rfl (by simp [Value.oneCell']) hf rfl rfl hO fun w hO => ?_
 refine op_as hf rfl rfl fun a hf => ?_
 refine wpList_nil ?_
 refine nor_then (hK90 _ _ ?_)
 refine wp_ret ?_
 obtain rfl := Option.some.inj hm
 exact post_ret Tryz.results13 hf (.cell rfl (run_loadVarN (n := 7) (vs := [int i75, str s76, str s77, int i78, str s79, int i80, .slice p81 l83.length c82]) ag_25 sz_25 rfl ((hO.blkSees (i := 8) rfl).cells (o := 0) (n := 7) rfl)) (.tmp rfl .nil)) ⟨p81, c82, rfl, (hO.sub (.cons _ (.cons _ (.cons_cons _ (.cons _ (.cons _ (.cons _ (.cons _ (.cons _ (.cons _ .slnil))))))))))⟩

set_option maxHeartbeats 1000000 in
theorem w_quill_Join (x_sep : Str) (x_l : List Str) (R : Str) (w0 : World) (hG : Glob w0) {x_l_p0 : Option Addr} {x_l_c0 : Nat} (hs0 : Sees w0 x_l_p0 (cells enc_str x_l)) (hc0 : x_l.length ≤ x_l_c0) (hm : quill_Join x_sep x_l = some R) :
    Calls Tryz.prog 41 #[str x_sep, .slice x_l_p0 x_l.length x_l_c0] w0 fun e w' => e = .returned (str R) ∧ Below w0.heap.size w0 w' := by
 rw [quill_Join] at hm
 refine calls_enter (vs := [str x_sep, .slice x_l_p0 x_l.length x_l_c0]) Tryz.func41 rfl Tryz.ntmps41 rfl fun a hf => ?_
 have hF : Away [] := away_nil
 have hO : Dk.Own w0 [] w0 [] := Dk.Own.refl w0
 have hO := hO.addShr hs0 (by simp [Res.shared])
 refine wp_seq_k fun _ hK1 => ?_
 refine wp_region_list ?_
 refine op_as hf rfl rfl fun a hf => ?_
 refine wpList_nil ?_
 refine nor_then (hK1 _ _ ?_)
 refine wp_seq_k fun _ hK3 => ?_
 refine wp_region_list ?_
 refine op_mv hf rfl rfl fun a hf => ?_
 refine op_mv hf rfl rfl fun a hf => ?_
 obtain ⟨r2, hr2, hm⟩ := ob hm
 refine op_enter (ex_call c_71 hf (vs := [.slice x_l_p0 x_l.length x_l_c0, str x_sep]) rfl) rfl hf rfl rfl (w_strings_Join x_l x_sep r2 _ (hG.own hF hO) (hO.sees (i := 0) rfl) hc0 hr2) ?_
 rintro e w' ⟨he, hb⟩
 refine ⟨_, he, fun a hf => ?_⟩
 have hO := hO.grow hb
 refine op_as hf rfl rfl fun a hf => ?_
 refine wpList_nil ?_
 refine nor_then (hK3 _ _ ?_)
 refine wp_ret ?_
 obtain rfl := Option.some.inj hm
 exact post_ret Tryz.results41 hf (.tmp rfl .nil) ⟨rfl, hO.below⟩

set_option maxHeartbeats 1000000 in
theorem w_startline_Text (x_a0 : api_Head) (R : Str × Int) (w0 : World) (hG : GlobT w0) {x_a0_p0 : Option Addr} {x_a0_c0 : Nat} (hs0 : Sees w0 x_a0_p0 (cells enc_api_Field x_a0.Fields)) (hc0 : x_a0.Fields.length ≤ x_a0_c0) (hm : startline_Text x_a0 = some R) :
    Calls Tryz.prog 20 #[.agg #[int x_a0.Kind, str x_a0.Method, str x_a0.Target, int x_a0.Code, str x_a0.Reason, int x_a0.Minor, .slice x_a0_p0 x_a0.Fields.length x_a0_c0]] w0 fun e w' => e = .returned (.tuple #[str R.1, int R.2]) ∧ Below w0.heap.size w0 w' := by
 rw [startline_Text] at hm
 refine calls_enter (vs := [.agg #[int x_a0.Kind, str x_a0.Method, str x_a0.Target, int x_a0.Code, str x_a0.Reason, int x_a0.Minor, .slice x_a0_p0 x_a0.Fields.length x_a0_c0]]) Tryz.func20 rfl Tryz.ntmps20 rfl fun a hf => ?_
 have hF : Away [] := away_nil
 have hO : Dk.Own w0 [] w0 [] := Dk.Own.refl w0
 have hO := hO.addShr hs0 (by simp [Res.shared])
 refine wp_seq_k fun _ hK2 => ?_
 refine wp_region_list ?_
 refine op_box (v := .agg #[int x_a0.Kind, str x_a0.Method, str x_a0.Target, int x_a0.Code, str x_a0.Reason, int x_a0.Minor, .slice x_a0_p0 x_a0.Fields.length x_a0_c0]) (cs := [int x_a0.Kind, str x_a0.Method, str x_a0.Target, int x_a0.Code, str x_a0.Reason, int x_a0.Minor, .slice x_a0_p0 x_a0.Fields.length x_a0_c0]) rfl hf rfl rfl hO fun a b1 w hf hO => ?_
 refine op_as hf rfl rfl fun a hf => ?_
 refine op_as hf rfl rfl fun a hf => ?_
 refine wpList_nil ?_
 refine nor_then (hK2 _ _ ?_)
 refine wp_seq_k fun _ hK5 => ?_
 refine wp_region_list ?_
 refine op_val (ex_field fa_25_5 hf rfl) rfl hf rfl rfl fun a hf => ?_
 refine op_val (ex_load1 (o := 5) ag_3 (hO.blkSees (i := 0) rfl) rfl hf rfl) rfl hf rfl rfl fun a hf => ?_
 obtain ⟨r3, hr3, hm⟩ := ob hm
 refine op_enter (ex_call c_40 hf (vs := [int x_a0.Minor]) rfl) rfl hf rfl rfl (w_numeral_Text x_a0.Minor r3 _ (hG.own hF hO) hr3) ?_
 rintro e w' ⟨he, hb⟩
 refine ⟨_, he, fun a hf => ?_⟩
 have hO := hO.grow hb
 obtain ⟨s4, hs4, hm⟩ := ob hm
 refine op_val (ex_cat (l := [72, 84, 84, 80, 47, 49, 46]) (m := r3) hf rfl rfl hs4) rfl hf rfl rfl fun a hf => ?_
 refine op_as hf rfl rfl fun a hf => ?_
 refine wpList_nil ?_
 refine nor_then (hK5 _ _ ?_)
 refine wp_seq_k fun _ hK8 => ?_
 refine wp_region_list ?_
 refine op_val (ex_field fa_25_1 hf rfl) rfl hf rfl rfl fun a hf => ?_
 refine op_val (ex_load1 (o := 1) ag_9 (hO.blkSees (i := 0) rfl) rfl hf rfl) rfl hf rfl rfl fun a hf => ?_
 refine op_val (ex_field fa_25_2 hf rfl) rfl hf rfl rfl fun a hf => ?_
 refine op_val (ex_load1 (o := 2) ag_9 (hO.blkSees (i := 0) rfl) rfl hf rfl) rfl hf rfl rfl fun a hf => ?_
 refine op_mv hf rfl rfl fun a hf => ?_
 refine op_buildSlice (vs := [(0, str x_a0.Method), (1, str x_a0.Target), (2, str s4)]) (cs := [str x_a0.Method, str x_a0.Target, str s4]) (e := 9) (sz := 1) hf rfl rfl (fun w => by kernel_rfl) rfl rfl hO fun a b6 w hf hO => ?_
 obtain ⟨r7, hr7, hm⟩ := ob hm
 refine op_enter (ex_call c_41 hf (vs := [str [32], .slice (some ⟨b6, 0, none⟩) (([x_a0.Method, x_a0.Target, s4] : List Str).length) 3]) rfl) rfl hf rfl rfl (w_quill_Join [32] ([x_a0.Method, x_a0.Target, s4] : List Str) r7 _ (hG.own hF hO).1 (hO.rowSees (i := 0) rfl) (hO.rowCap (i := 0) rfl) hr7) ?_
 rintro e w' ⟨he, hb⟩
 refine ⟨_, he, fun a hf => ?_⟩
 have hO := hO.grow hb
 refine op_as hf rfl rfl fun a hf => ?_
 refine wpList_nil ?_
 refine nor_then (hK8 _ _ ?_)
 refine wp_seq_cut (fun a w => ∃ (s14 : Str), Fits 81 [(1, ptr b1 0), (5, str s14)] a ∧ Dk.Own w0 [] w [.row (.slice (some ⟨b6, 0, none⟩) (([x_a0.Method, x_a0.Target, s4] : List Str).length) 3) 9 1 (([x_a0.Method, x_a0.Target, s4] : List Str).length) (cells enc_str ([x_a0.Method, x_a0.Target, s4] : List Str)), .blk b1 [int x_a0.Kind, str x_a0.Method, str x_a0.Target, int x_a0.Code, str x_a0.Reason, int x_a0.Minor, .slice x_a0_p0 x_a0.Fields.length x_a0_c0] 25, .shr x_a0_p0 (cells enc_api_Field x_a0.Fields)] ∧ startline_Text_j1 x_a0 s14 = some R) ?_ ?_
 refine wp_seq_k fun _ hK9 => ?_
 refine wp_region_list ?_
 refine op_val (ex_field fa_25_0 hf rfl) rfl hf rfl rfl fun a hf => ?_
 refine op_val (ex_load1 (o := 0) ag_22 (hO.blkSees (i := 1) rfl) rfl hf rfl) rfl hf rfl rfl fun a hf => ?_
 refine op_val (ex_eql (m := x_a0.Kind) (n := 2) hf rfl rfl) rfl hf rfl rfl fun a hf => ?_
 refine wpList_nil ?_
 refine nor_then (hK9 _ _ ?_)
 refine wp_cond_cut hf rfl (fun hc10 => ?_) (fun hc10 => ?_)
 have hm := it hc10 hm
 obtain ⟨r11, hr11, hm⟩ := ob hm
 obtain ⟨r13, hr13, hm⟩ := ob hm
 refine wp_drawS' (S := Nat) (E0 := [(1, ptr b1 0), (4, str s4), (5, str r7)]) (by kernel_rfl) (fun k σ w => match k with | 0 => Dk.Own w0 [] w [.row (.slice (some ⟨b6, 0, none⟩) (([x_a0.Method, x_a0.Target, s4] : List Str).length) 3) 9 1 (([x_a0.Method, x_a0.Target, s4] : List Str).length) (cells enc_str ([x_a0.Method, x_a0.Target, s4] : List Str)), .blk b1 [int x_a0.Kind, str x_a0.Method, str x_a0.Target, int x_a0.Code, str x_a0.Reason, int x_a0.Minor, .slice x_a0_p0 x_a0.Fields.length x_a0_c0] 25, .shr x_a0_p0 (cells enc_api_Field x_a0.Fields)] | 1 => Dk.Own w0 [] w [.row (.slice (some ⟨b6, 0, none⟩) (([x_a0.Method, x_a0.Target, s4] : List Str).length) 3) 9 1 (([x_a0.Method, x_a0.Target, s4] : List Str).length) (cells enc_str ([x_a0.Method, x_a0.Target, s4] : List Str)), .blk b1 [int x_a0.Kind, str x_a0.Method, str x_a0.Target, int x_a0.Code, str x_a0.Reason, int x_a0.Minor, .slice x_a0_p0 x_a0.Fields.length x_a0_c0] 25, .shr x_a0_p0 (cells enc_api_Field x_a0.Fields)] | 2 => Dk.Own w0 [] w [.row (.slice (some ⟨σ, 0, none⟩) (([s4, r11, x_a0.Reason] : List Str).length) 3) 9 1 (([s4, r11, x_a0.Reason] : List Str).length) (cells enc_str ([s4, r11, x_a0.Reason] : List Str)), .row (.slice (some ⟨b6, 0, none⟩) (([x_a0.Method, x_a0.Target, s4] : List Str).length) 3) 9 1 (([x_a0.Method, x_a0.Target, s4] : List Str).length) (cells enc_str ([x_a0.Method, x_a0.Target, s4] : List Str)), .blk b1 [int x_a0.Kind, str x_a0.Method, str x_a0.Target, int x_a0.Code, str x_a0.Reason, int x_a0.Minor, .slice x_a0_p0 x_a0.Fields.length x_a0_c0] 25, .shr x_a0_p0 (cells enc_api_Field x_a0.Fields)] | _ => Dk.Own w0 [] w [.row (.slice (some ⟨σ, 0, none⟩) (([s4, r11, x_a0.Reason] : List Str).length) 3) 9 1 (([s4, r11, x_a0.Reason] : List Str).length) (cells enc_str ([s4, r11, x_a0.Reason] : List Str)), .row (.slice (some ⟨b6, 0, none⟩) (([x_a0.Method, x_a0.Target, s4] : List Str).length) 3) 9 1 (([x_a0.Method, x_a0.Target, s4] : List Str).length) (cells enc_str ([x_a0.Method, x_a0.Target, s4] : List Str)), .blk b1 [int x_a0.Kind, str x_a0.Method, str x_a0.Target, int x_a0.Code, str x_a0.Reason, int x_a0.Minor, .slice x_a0_p0 x_a0.Fields.length x_a0_c0] 25, .shr x_a0_p0 (cells enc_api_Field x_a0.Fields)]) (fun σ => [⟨[(4, str s4)], some (23, str s4)⟩, ⟨[(1, ptr b1 0)], some (24, ptr b1 3)⟩, ⟨[(24, ptr b1 3)], some (25, int x_a0.Code)⟩, ⟨[(25, int x_a0.Code)], some (26, str r11)⟩, ⟨[(1, ptr b1 0)], some (27, ptr b1 4)⟩, ⟨[(27, ptr b1 4)], some (28, str x_a0.Reason)⟩, ⟨[(23, str s4), (26, str r11), (28, str x_a0.Reason)], some (29, .slice (some ⟨σ, 0, none⟩) (([s4, r11, x_a0.Reason] : List Str).length) 3)⟩, ⟨[(29, .slice (some ⟨σ, 0, none⟩) (([s4, r11, x_a0.Reason] : List Str).length) 3)], some (30, str r13)⟩, ⟨[(30, str r13)], some (5, str r13)⟩]) (0) [3, 6, 7] rfl (fun _ => rfl) (fun _ => rfl) (fun _ => rfl) rfl rfl (by decide) rfl hO.drew (hf.cons rfl (hf.cons rfl (hf.cons rfl hf.nil))) (fun σ => ⟨⟨rfl, trivial⟩, ⟨rfl, trivial⟩, ⟨rfl, trivial⟩, ⟨rfl, trivial⟩, ⟨rfl, trivial⟩, ⟨rfl, trivial⟩, ⟨rfl, rfl, rfl, trivial⟩, ⟨rfl, trivial⟩, ⟨rfl, trivial⟩, trivial⟩) ⟨sS_pure rfl (fun σ => rfl) (fun σ => rfl) (fun σ a w k _ _ _ _ hf => ex_move hf rfl), sS_pure rfl (fun σ => rfl) (fun σ => rfl) (fun σ a w k _ _ _ _ hf => ex_field fa_25_3 hf rfl), sS_pure rfl (fun σ => rfl) (fun σ => rfl) (fun σ a w k hk hlo hup hst hf => match k, hk, hlo, hup, hst, hf with | 0, _, _, _, hst, hf => have hO : Dk.Own w0 [] w _ := hst; ex_load1 (o := 3) ag_3 (hO.blkSees (i := 1) rfl) rfl hf rfl | 1, _, _, _, hst, hf => have hO : Dk.Own w0 [] w _ := hst; ex_load1 (o := 3) ag_3 (hO.blkSees (i := 1) rfl) rfl hf rfl | 2, _, _, _, hst, hf => have hO : Dk.Own w0 [] w _ := hst; ex_load1 (o := 3) ag_3 (hO.blkSees (i := 2) rfl) rfl hf rfl | 3, _, _, _, hst, hf => have hO : Dk.Own w0 [] w _ := hst; ex_load1 (o := 3) ag_3 (hO.blkSees (i := 2) rfl) rfl hf rfl | k + 4, hk, _, _, _, _ => absurd hk (by simp)), sS_call rfl (fun σ => rfl) (fun σ => rfl) rfl (fun σ a w (_ : _) hf => ex_call c_40 hf (vs := [int x_a0.Code]) rfl) (fun σ w (hO : Dk.Own w0 [] w _) => (w_numeral_Text x_a0.Code r11 _ (hG.own hF hO) hr11).mono fun e w' h => by obtain ⟨he, hb⟩ := h; exact ⟨(σ), he, hO.grow hb, .inr rfl, .inr rfl, .inr rfl, .inr rfl, .inr rfl, .inr rfl, .inr rfl, .inr rfl, .inr rfl, trivial⟩), sS_pure rfl (fun σ => rfl) (fun σ => rfl) (fun σ a w k _ _ _ _ hf => ex_field fa_25_4 hf rfl), sS_pure rfl (fun σ => rfl) (fun σ => rfl) (fun σ a w k hk hlo hup hst hf => match k, hk, hlo, hup, hst, hf with | 0, _, _, _, hst, hf => have hO : Dk.Own w0 [] w _ := hst; ex_load1 (o := 4) ag_9 (hO.blkSees (i := 1) rfl) rfl hf rfl | 1, _, _, _, hst, hf => have hO : Dk.Own w0 [] w _ := hst; ex_load1 (o := 4) ag_9 (hO.blkSees (i := 1) rfl) rfl hf rfl | 2, _, _, _, hst, hf => have hO : Dk.Own w0 [] w _ := hst; ex_load1 (o := 4) ag_9 (hO.blkSees (i := 2) rfl) rfl hf rfl | 3, _, _, _, hst, hf => have hO : Dk.Own w0 [] w _ := hst; ex_load1 (o := 4) ag_9 (hO.blkSees (i := 2) rfl) rfl hf rfl | k + 4, hk, _, _, _, _ => absurd hk (by simp)), sS_val rfl (fun σ => rfl) (fun σ => rfl) rfl (fun σ w (hO : Dk.Own w0 [] w _) => by obtain ⟨b12, w', hO', hr⟩ := ef_buildSlice (E := [(23, str s4), (26, str r11), (28, str x_a0.Reason)]) (parts := #[(0, (.tmp 23)), (1, (.tmp 26)), (2, (.tmp 28))]) (t' := 61) (n := 3) (vs := [(0, str s4), (1, str r11), (2, str x_a0.Reason)]) (cs := [str s4, str r11, str x_a0.Reason]) (e := 9) (sz := 1) (fun w => by kernel_rfl) rfl rfl hO rfl; exact ⟨(b12), w', hO', ⟨.inr rfl, .inr rfl, .inr rfl, .inr rfl, .inr rfl, .inr rfl, .inl rfl, .inl rfl, .inr rfl, trivial⟩, hr⟩), sS_call rfl (fun σ => rfl) (fun σ => rfl) rfl (fun σ a w (_ : _) hf => ex_call c_41 hf (vs := [str [32], .slice (some ⟨σ, 0, none⟩) (([s4, r11, x_a0.Reason] : List Str).length) 3]) rfl) (fun σ w (hO : Dk.Own w0 [] w _) => (w_quill_Join [32] ([s4, r11, x_a0.Reason] : List Str) r13 _ (hG.own hF hO).1 (hO.rowSees (i := 0) rfl) (hO.rowCap (i := 0) rfl) hr13).mono fun e w' h => by obtain ⟨he, hb⟩ := h; exact ⟨(σ), he, hO.grow hb, .inr rfl, .inr rfl, .inr rfl, .inr rfl, .inr rfl, .inr rfl, .inr rfl, .inr rfl, .inr rfl, trivial⟩), sS_pure rfl (fun σ => rfl) (fun σ => rfl) (fun σ a w k _ _ _ _ hf => ex_assign hf rfl), trivial⟩ ?_
 rintro b12 a w hf hO
 have hO : Dk.Own w0 [] w _ := hO
 have hf : Fits 81 [(1, ptr b1 0), (5, str r13)] a := (hf.cons rfl (hf.cons rfl hf.nil))
 refine nor_then ?_
 exact ⟨r13, (hf.cons rfl (hf.cons rfl hf.nil)), (hO.sub (.cons _ (.cons_cons _ (.cons_cons _ (.cons_cons _ .slnil))))), hm⟩
 have hm := ie hc10 hm
 refine wp_skip ?_
 refine nor_then ?_
 exact ⟨r7, (hf.cons rfl (hf.cons rfl hf.nil)), hO, hm⟩
 rintro a w ⟨s14, hf, hO, hm⟩
 rw [startline_Text_j1] at hm
 refine wp_seq_k fun _ hK19 => ?_
 refine wp_region_list ?_
 refine op_val (ex_field fa_25_0 hf rfl) rfl hf rfl rfl fun a hf => ?_
 refine op_val (ex_load1 (o := 0) ag_22 (hO.blkSees (i := 1) rfl) rfl hf rfl) rfl hf rfl rfl fun a hf => ?_
 refine op_mv hf rfl rfl fun a hf => ?_
 obtain ⟨r15, hr15, hm⟩ := ob hm
 refine op_enter (ex_call c_30 hf (vs := [int x_a0.Kind, str s14]) rfl) rfl hf rfl rfl (w_startline_Parse x_a0.Kind s14 r15 _ (hG.own hF hO) hr15) ?_
 rintro e w' ⟨p16, c17, he, hO'⟩
 refine ⟨_, he, fun a hf => ?_⟩
 have hO := hO.call hO' (by simp [Res.shared])
 refine op_mv hf rfl rfl fun a hf => ?_
 refine op_val (ex_extract hf rfl rfl) rfl hf rfl rfl fun a hf => ?_
 refine op_val (ex_extract hf rfl rfl) rfl hf rfl rfl fun a hf => ?_
 refine op_alloc al_25 hf rfl hO fun a b18 w hf hO => ?_
 have hO := hO.nilRow 44 2
 refine op_storeN (i := 1) (n := 7) sz_25 rfl rfl rfl (by simp [Value.oneCell']) hf rfl rfl hO fun w hO => ?_
 refine op_as hf rfl rfl fun a hf => ?_
 refine wpList_nil ?_
 refine nor_then (hK19 _ _ ?_)
 refine wp_seq_k fun _ hK23 => ?_
 refine wp_seq_k fun _ hK20 => ?_
 refine wp_region_list ?_
 refine op_mv hf rfl rfl fun a hf => ?_
 refine op_val (ex_eql (m := r15.2) (n := 1) hf rfl rfl) rfl hf rfl rfl fun a hf => ?_
 refine wpList_nil ?_
 refine nor_then (hK20 _ _ ?_)
 refine wp_cond_cut hf rfl (fun hc21 => ?_) (fun hc21 => ?_)
 have hm := it hc21 hm
 refine wp_seq_k fun _ hK22 => ?_
 refine wp_region_list ?_
 refine op_mv hf rfl rfl fun a hf => ?_
 refine op_as hf rfl rfl fun a hf => ?_
 refine op_as hf rfl rfl fun a hf => ?_
 refine wpList_nil ?_
 refine nor_then (hK22 _ _ ?_)
 refine wp_ret ?_
 refine ret_then ?_
 obtain rfl := Option.some.inj hm
 exact post_ret Tryz.results20 hf (.tmp rfl (.tmp rfl .nil)) ⟨rfl, hO.below⟩
 have hm := ie hc21 hm
 refine wp_skip ?_
 refine nor_then (hK23 _ _ ?_)
 refine wp_seq_cut (fun a w => ∃ (t28 : Bool), Fits 81 [(5, str s14), (7, int r15.2), (8, .bool t28)] a ∧ Dk.Own w0 [] w [.row (.slice none 0 0) 44 2 0 (cells enc_api_Field []), .blk b18 [int r15.1.Kind, str r15.1.Method, str r15.1.Target, int r15.1.Code, str r15.1.Reason, int r15.1.Minor, .slice p16 r15.1.Fields.length c17] 25, .row (.slice p16 r15.1.Fields.length c17) 44 2 r15.1.Fields.length (cells enc_api_Field r15.1.Fields), .row (.slice (some ⟨b6, 0, none⟩) (([x_a0.Method, x_a0.Target, s4] : List Str).length) 3) 9 1 (([x_a0.Method, x_a0.Target, s4] : List Str).length) (cells enc_str ([x_a0.Method, x_a0.Target, s4] : List Str)), .blk b1 [int x_a0.Kind, str x_a0.Method, str x_a0.Target, int x_a0.Code, str x_a0.Reason, int x_a0.Minor, .slice x_a0_p0 x_a0.Fields.length x_a0_c0] 25, .shr x_a0_p0 (cells enc_api_Field x_a0.Fields)] ∧ startline_Text_j2 s14 r15 t28 = some R) ?_ ?_
 refine wp_region_list ?_
 refine op_val (ex_field fa_25_1 hf rfl) rfl hf rfl rfl fun a hf => ?_
 refine op_val (ex_load1 (o := 1) ag_9 (hO.blkSees (i := 1) rfl) rfl hf rfl) rfl hf rfl rfl fun a hf => ?_
 refine op_val (ex_field fa_25_1 hf rfl) rfl hf rfl rfl fun a hf => ?_
 refine op_val (ex_load1 (o := 1) ag_9 (hO.blkSees (i := 4) rfl) rfl hf rfl) rfl hf rfl rfl fun a hf => ?_
 refine op_val (ex_eql_s (l := r15.1.Method) (m := x_a0.Method) hf rfl rfl) rfl hf rfl rfl fun a hf => ?_
 refine op_mv hf rfl rfl fun a hf => ?_
 rcases bcase (r15.1.Method == x_a0.Method) with hc24 | hc24
 have hm := it hc24 hm
 refine op_guard rfl hf rfl rfl (hc24) ?_
 refine op_val (ex_field fa_25_2 hf rfl) rfl hf rfl rfl fun a hf => ?_
 refine op_guard rfl hf rfl rfl (hc24) ?_
 refine op_val (ex_load1 (o := 2) ag_9 (hO.blkSees (i := 1) rfl) rfl hf rfl) rfl hf rfl rfl fun a hf => ?_
 refine op_guard rfl hf rfl rfl (hc24) ?_
 refine op_val (ex_field fa_25_2 hf rfl) rfl hf rfl rfl fun a hf => ?_
 refine op_guard rfl hf rfl rfl (hc24) ?_
 refine op_val (ex_load1 (o := 2) ag_9 (hO.blkSees (i := 4) rfl) rfl hf rfl) rfl hf rfl rfl fun a hf => ?_
 refine op_guard rfl hf rfl rfl (hc24) ?_
 refine op_val (ex_eql_s (l := r15.1.Target) (m := x_a0.Target) hf rfl rfl) rfl hf rfl rfl fun a hf => ?_
 refine op_val (ex_pick_t hf rfl hc24 rfl) rfl hf rfl rfl fun a hf => ?_
 refine op_mv hf rfl rfl fun a hf => ?_
 rcases bcase (r15.1.Target == x_a0.Target) with hc25 | hc25
 have hm := it hc25 hm
 refine op_guard rfl hf rfl rfl (hc25) ?_
 refine op_val (ex_field fa_25_5 hf rfl) rfl hf rfl rfl fun a hf => ?_
 refine op_guard rfl hf rfl rfl (hc25) ?_
 refine op_val (ex_load1 (o := 5) ag_3 (hO.blkSees (i := 1) rfl) rfl hf rfl) rfl hf rfl rfl fun a hf => ?_
 refine op_guard rfl hf rfl rfl (hc25) ?_
 refine op_val (ex_field fa_25_5 hf rfl) rfl hf rfl rfl fun a hf => ?_
 refine op_guard rfl hf rfl rfl (hc25) ?_
 refine op_val (ex_load1 (o := 5) ag_3 (hO.blkSees (i := 4) rfl) rfl hf rfl) rfl hf rfl rfl fun a hf => ?_
 refine op_guard rfl hf rfl rfl (hc25) ?_
 refine op_val (ex_eql (m := r15.1.Minor) (n := x_a0.Minor) hf rfl rfl) rfl hf rfl rfl fun a hf => ?_
 refine op_val (ex_pick_t hf rfl hc25 rfl) rfl hf rfl rfl fun a hf => ?_
 refine op_mv hf rfl rfl fun a hf => ?_
 rcases bcase (r15.1.Minor == x_a0.Minor) with hc26 | hc26
 have hm := it hc26 hm
 refine op_guard rfl hf rfl rfl (hc26) ?_
 refine op_val (ex_field fa_25_3 hf rfl) rfl hf rfl rfl fun a hf => ?_
 refine op_guard rfl hf rfl rfl (hc26) ?_
 refine op_val (ex_load1 (o := 3) ag_3 (hO.blkSees (i := 1) rfl) rfl hf rfl) rfl hf rfl rfl fun a hf => ?_
 refine op_guard rfl hf rfl rfl (hc26) ?_
 refine op_val (ex_field fa_25_3 hf rfl) rfl hf rfl rfl fun a hf => ?_
 refine op_guard rfl hf rfl rfl (hc26) ?_
 refine op_val (ex_load1 (o := 3) ag_3 (hO.blkSees (i := 4) rfl) rfl hf rfl) rfl hf rfl rfl fun a hf => ?_
 refine op_guard rfl hf rfl rfl (hc26) ?_
 refine op_val (ex_eql (m := r15.1.Code) (n := x_a0.Code) hf rfl rfl) rfl hf rfl rfl fun a hf => ?_
 refine op_val (ex_pick_t hf rfl hc26 rfl) rfl hf rfl rfl fun a hf => ?_
 refine op_mv hf rfl rfl fun a hf => ?_
 rcases bcase (r15.1.Code == x_a0.Code) with hc27 | hc27
 have hm := it hc27 hm
 refine op_guard rfl hf rfl rfl (hc27) ?_
 refine op_val (ex_field fa_25_4 hf rfl) rfl hf rfl rfl fun a hf => ?_
 refine op_guard rfl hf rfl rfl (hc27) ?_
 refine op_val (ex_load1 (o := 4) ag_9 (hO.blkSees (i := 1) rfl) rfl hf rfl) rfl hf rfl rfl fun a hf => ?_
 refine op_guard rfl hf rfl rfl (hc27) ?_
 refine op_val (ex_field fa_25_4 hf rfl) rfl hf rfl rfl fun a hf => ?_
 refine op_guard rfl hf rfl rfl (hc27) ?_
 refine op_val (ex_load1 (o := 4) ag_9 (hO.blkSees (i := 4) rfl) rfl hf rfl) rfl hf rfl rfl fun a hf => ?_
 refine op_guard rfl hf rfl rfl (hc27) ?_
 refine op_val (ex_eql_s (l := r15.1.Reason) (m := x_a0.Reason) hf rfl rfl) rfl hf rfl rfl fun a hf => ?_
 refine op_val (ex_pick_t hf rfl hc27 rfl) rfl hf rfl rfl fun a hf => ?_
 refine op_as hf rfl rfl fun a hf => ?_
 refine wpList_nil ?_
 refine nor_then ?_
 exact ⟨r15.1.Reason == x_a0.Reason, (hf.cons rfl (hf.cons rfl (hf.cons rfl hf.nil))), hO, hm⟩
 have hm := ie hc27 hm
 refine op_pass rfl hf rfl rfl (hc27) rfl rfl fun a hf => ?_
 refine op_pass rfl hf rfl rfl (hc27) rfl rfl fun a hf => ?_
 refine op_pass rfl hf rfl rfl (hc27) rfl rfl fun a hf => ?_
 refine op_pass rfl hf rfl rfl (hc27) rfl rfl fun a hf => ?_
 refine op_pass rfl hf rfl rfl (hc27) rfl rfl fun a hf => ?_
 refine op_val (ex_pick_f hf rfl hc27 rfl) rfl hf rfl rfl fun a hf => ?_
 refine op_as hf rfl rfl fun a hf => ?_
 refine wpList_nil ?_
 refine nor_then ?_
 exact ⟨false, (hf.cons rfl (hf.cons rfl (hf.cons rfl hf.nil))), hO, hm⟩
 have hm := ie hc26 hm
 refine op_pass rfl hf rfl rfl (hc26) rfl rfl fun a hf => ?_
 refine op_pass rfl hf rfl rfl (hc26) rfl rfl fun a hf => ?_
 refine op_pass rfl hf rfl rfl (hc26) rfl rfl fun a hf => ?_
 refine op_pass rfl hf rfl rfl (hc26) rfl rfl fun a hf => ?_
 refine op_pass rfl hf rfl rfl (hc26) rfl rfl fun a hf => ?_
 refine op_val (ex_pick_f hf rfl hc26 rfl) rfl hf rfl rfl fun a hf => ?_
 refine op_mv hf rfl rfl fun a hf => ?_
 refine op_pass rfl hf rfl rfl (rfl) rfl rfl fun a hf => ?_
 refine op_pass rfl hf rfl rfl (rfl) rfl rfl fun a hf => ?_
 refine op_pass rfl hf rfl rfl (rfl) rfl rfl fun a hf => ?_
 refine op_pass rfl hf rfl rfl (rfl) rfl rfl fun a hf => ?_
 refine op_pass rfl hf rfl rfl (rfl) rfl rfl fun a hf => ?_
 refine op_val (ex_pick_f hf rfl rfl rfl) rfl hf rfl rfl fun a hf => ?_
 refine op_as hf rfl rfl fun a hf => ?_
 refine wpList_nil ?_
 refine nor_then ?_
 exact ⟨false, (hf.cons rfl (hf.cons rfl (hf.cons rfl hf.nil))), hO, hm⟩
 have hm := ie hc25 hm
 refine op_pass rfl hf rfl rfl (hc25) rfl rfl fun a hf => ?_
 refine op_pass rfl hf rfl rfl (hc25) rfl rfl fun a hf => ?_
 refine op_pass rfl hf rfl rfl (hc25) rfl rfl fun a hf => ?_
 refine op_pass rfl hf rfl rfl (hc25) rfl rfl fun a hf => ?_
 refine op_pass rfl hf rfl rfl (hc25) rfl rfl fun a hf => ?_
 refine op_val (ex_pick_f hf rfl hc25 rfl) rfl hf rfl rfl fun a hf => ?_
 refine op_mv hf rfl rfl fun a hf => ?_
 refine op_pass rfl hf rfl rfl (rfl) rfl rfl fun a hf => ?_
 refine op_pass rfl hf rfl rfl (rfl) rfl rfl fun a hf => ?_
 refine op_pass rfl hf rfl rfl (rfl) rfl rfl fun a hf => ?_
 refine op_pass rfl hf rfl rfl (rfl) rfl rfl fun a hf => ?_
 refine op_pass rfl hf rfl rfl (rfl) rfl rfl fun a hf => ?_
 refine op_val (ex_pick_f hf rfl rfl rfl) rfl hf rfl rfl fun a hf => ?_
 refine op_mv hf rfl rfl fun a hf => ?_
 refine op_pass rfl hf rfl rfl (rfl) rfl rfl fun a hf => ?_
 refine op_pass rfl hf rfl rfl (rfl) rfl rfl fun a hf => ?_
 refine op_pass rfl hf rfl rfl (rfl) rfl rfl fun a hf => ?_
 refine op_pass rfl hf rfl rfl (rfl) rfl rfl fun a hf => ?_
 refine op_pass rfl hf rfl rfl (rfl) rfl rfl fun a hf => ?_
 refine op_val (ex_pick_f hf rfl rfl rfl) rfl hf rfl rfl fun a hf => ?_
 refine op_as hf rfl rfl fun a hf => ?_
 refine wpList_nil ?_
 refine nor_then ?_
 exact ⟨false, (hf.cons rfl (hf.cons rfl (hf.cons rfl hf.nil))), hO, hm⟩
 have hm := ie hc24 hm
 refine op_pass rfl hf rfl rfl (hc24) rfl rfl fun a hf => ?_
 refine op_pass rfl hf rfl rfl (hc24) rfl rfl fun a hf => ?_
 refine op_pass rfl hf rfl rfl (hc24) rfl rfl fun a hf => ?_
 refine op_pass rfl hf rfl rfl (hc24) rfl rfl fun a hf => ?_
 refine op_pass rfl hf rfl rfl (hc24) rfl rfl fun a hf => ?_
 refine op_val (ex_pick_f hf rfl hc24 rfl) rfl hf rfl rfl fun a hf => ?_
 refine op_mv hf rfl rfl fun a hf => ?_
 refine op_pass rfl hf rfl rfl (rfl) rfl rfl fun a hf => ?_
 refine op_pass rfl hf rfl rfl (rfl) rfl rfl fun a hf => ?_
 refine op_pass rfl hf rfl rfl (rfl) rfl rfl fun a hf => ?_
 refine op_pass rfl hf rfl rfl (rfl) rfl rfl fun a hf => ?_
 refine op_pass rfl hf rfl rfl (rfl) rfl rfl fun a hf => ?_
 refine op_val (ex_pick_f hf rfl rfl rfl) rfl hf rfl rfl fun a hf => ?_
 refine op_mv hf rfl rfl fun a hf => ?_
 refine op_pass rfl hf rfl rfl (rfl) rfl rfl fun a hf => ?_
 refine op_pass rfl hf rfl rfl (rfl) rfl rfl fun a hf => ?_
 refine op_pass rfl hf rfl rfl (rfl) rfl rfl fun a hf => ?_
 refine op_pass rfl hf rfl rfl (rfl) rfl rfl fun a hf => ?_
 refine op_pass rfl hf rfl rfl (rfl) rfl rfl fun a hf => ?_
 refine op_val (ex_pick_f hf rfl rfl rfl) rfl hf rfl rfl fun a hf => ?_
 refine op_mv hf rfl rfl fun a hf => ?_
 refine op_pass rfl hf rfl rfl (rfl) rfl rfl fun a hf => ?_
 refine op_pass rfl hf rfl rfl (rfl) rfl rfl fun a hf => ?_
 refine op_pass rfl hf rfl rfl (rfl) rfl rfl fun a hf => ?_
 refine op_pass rfl hf rfl rfl (rfl) rfl rfl fun a hf => ?_
 refine op_pass rfl hf rfl rfl (rfl) rfl rfl fun a hf => ?_
 refine op_val (ex_pick_f hf rfl rfl rfl) rfl hf rfl rfl fun a hf => ?_
 refine op_as hf rfl rfl fun a hf => ?_
 refine wpList_nil ?_
 refine nor_then ?_
 exact ⟨false, (hf.cons rfl (hf.cons rfl (hf.cons rfl hf.nil))), hO, hm⟩
 rintro a w ⟨t28, hf, hO, hm⟩
 rw [startline_Text_j2] at hm
 refine wp_seq_k fun _ hK33 => ?_
 refine wp_seq_cut (fun a w => ∃ (t30 : Bool), Fits 81 [(5, str s14), (79, .bool t30)] a ∧ Dk.Own w0 [] w [.row (.slice none 0 0) 44 2 0 (cells enc_api_Field []), .blk b18 [int r15.1.Kind, str r15.1.Method, str r15.1.Target, int r15.1.Code, str r15.1.Reason, int r15.1.Minor, .slice p16 r15.1.Fields.length c17] 25, .row (.slice p16 r15.1.Fields.length c17) 44 2 r15.1.Fields.length (cells enc_api_Field r15.1.Fields), .row (.slice (some ⟨b6, 0, none⟩) (([x_a0.Method, x_a0.Target, s4] : List Str).length) 3) 9 1 (([x_a0.Method, x_a0.Target, s4] : List Str).length) (cells enc_str ([x_a0.Method, x_a0.Target, s4] : List Str)), .blk b1 [int x_a0.Kind, str x_a0.Method, str x_a0.Target, int x_a0.Code, str x_a0.Reason, int x_a0.Minor, .slice x_a0_p0 x_a0.Fields.length x_a0_c0] 25, .shr x_a0_p0 (cells enc_api_Field x_a0.Fields)] ∧ startline_Text_j3 s14 t30 = some R) ?_ ?_
 refine wp_region_list ?_
 refine op_mv hf rfl rfl fun a hf => ?_
 refine op_val (ex_neq (m := r15.2) (n := 0) hf rfl rfl) rfl hf rfl rfl fun a hf => ?_
 refine op_mv hf rfl rfl fun a hf => ?_
 rcases bcase (!(r15.2 == 0)) with hc29 | hc29
 have hm := it hc29 hm
 refine op_pass rfl hf rfl rfl (hc29) rfl rfl fun a hf => ?_
 refine op_pass rfl hf rfl rfl (hc29) rfl rfl fun a hf => ?_
 refine op_val (ex_pick_t hf rfl hc29 rfl) rfl hf rfl rfl fun a hf => ?_
 refine wpList_nil ?_
 refine nor_then ?_
 exact ⟨true, (hf.cons rfl (hf.cons rfl hf.nil)), hO, hm⟩
 have hm := ie hc29 hm
 refine op_guard rfl hf rfl rfl (hc29) ?_
 refine op_mv hf rfl rfl fun a hf => ?_
 refine op_guard rfl hf rfl rfl (hc29) ?_
 refine op_val (ex_not hf rfl) rfl hf rfl rfl fun a hf => ?_
 refine op_val (ex_pick_f hf rfl hc29 rfl) rfl hf rfl rfl fun a hf => ?_
 refine wpList_nil ?_
 refine nor_then ?_
 exact ⟨!t28, (hf.cons rfl (hf.cons rfl hf.nil)), hO, hm⟩
 rintro a w ⟨t30, hf, hO, hm⟩
 rw [startline_Text_j3] at hm
 refine wp_cond_cut hf rfl (fun hc31 => ?_) (fun hc31 => ?_)
 have hm := it hc31 hm
 refine wp_seq_k fun _ hK32 => ?_
 refine wp_region_list ?_
 refine op_as hf rfl rfl fun a hf => ?_
 refine op_as hf rfl rfl fun a hf => ?_
 refine wpList_nil ?_
 refine nor_then (hK32 _ _ ?_)
 refine wp_ret ?_
 refine ret_then ?_
 obtain rfl := Option.some.inj hm
 exact post_ret Tryz.results20 hf (.tmp rfl (.tmp rfl .nil)) ⟨rfl, hO.below⟩
 have hm := ie hc31 hm
 refine wp_skip ?_
 refine nor_then (hK33 _ _ ?_)
 refine wp_seq_k fun _ hK34 => ?_
 refine wp_region_list ?_
 refine op_mv hf rfl rfl fun a hf => ?_
 refine op_as hf rfl rfl fun a hf => ?_
 refine op_as hf rfl rfl fun a hf => ?_
 refine wpList_nil ?_
 refine nor_then (hK34 _ _ ?_)
 refine wp_ret ?_
 obtain rfl := Option.some.inj hm
 exact post_ret Tryz.results20 hf (.tmp rfl (.tmp rfl .nil)) ⟨rfl, hO.below⟩

set_option maxHeartbeats 1000000 in
theorem w_octet_Token (x_s : Str) (R : Bool) (w0 : World) (hG : Glob w0) (hm : octet_Token x_s = some R) :
    Calls Tryz.prog 49 #[str x_s] w0 fun e w' => e = .returned (.bool R) ∧ Below w0.heap.size w0 w' := by
 rw [octet_Token] at hm
 refine calls_enter (vs := [str x_s]) Tryz.func49 rfl Tryz.ntmps49 rfl fun a hf => ?_
 have hF : Away [] := away_nil
 have hO : Dk.Own w0 [] w0 [] := Dk.Own.refl w0
 refine wp_seq_k fun _ hK1 => ?_
 refine wp_region_list ?_
 refine op_as hf rfl rfl fun a hf => ?_
 refine wpList_nil ?_
 refine nor_then (hK1 _ _ ?_)
 refine wp_seq_cut (fun a w => ∃ (t5 : Bool), Fits 10 [(2, .bool t5)] a ∧ Dk.Own w0 [] w [] ∧ octet_Token_j1 t5 = some R) ?_ ?_
 refine wp_region_list ?_
 refine op_mv hf rfl rfl fun a hf => ?_
 refine op_val (ex_neq_s (l := x_s) (m := []) hf rfl rfl) rfl hf rfl rfl fun a hf => ?_
 refine op_mv hf rfl rfl fun a hf => ?_
 rcases bcase (!(x_s == [])) with hc2 | hc2
 have hm := it hc2 hm
 refine op_guard rfl hf rfl rfl (hc2) ?_
 refine op_mv hf rfl rfl fun a hf => ?_
 refine op_guard rfl hf rfl rfl (hc2) ?_
 refine op_buildSlice (vs := [(0, str x_s)]) (cs := [str x_s]) (e := 9) (sz := 1) hf rfl rfl (fun w => by kernel_rfl) rfl rfl hO fun a b3 w hf hO => ?_
 refine op_guard rfl hf rfl rfl (hc2) ?_
 obtain ⟨r4, hr4, hm⟩ := ob hm
 refine op_enter (ex_call c_50 hf (vs := [.func (.func 78) #[] #[], .slice (some ⟨b3, 0, none⟩) (([x_s] : List Str).length) 1]) rfl) rfl hf rfl rfl (w_octet_All octet_IsToken ([x_s] : List Str) r4 _ (hG.own hF hO) c_78 (fun y0 r w hG h => callsE (w_octet_IsToken y0 r w hG h)) (hO.rowSees (i := 0) rfl) (hO.rowCap (i := 0) rfl) hr4) ?_
 rintro e w' ⟨he, hb⟩
 refine ⟨_, he, fun a hf => ?_⟩
 have hO := hO.grow hb
 refine op_val (ex_pick_t hf rfl hc2 rfl) rfl hf rfl rfl fun a hf => ?_
 refine op_as hf rfl rfl fun a hf => ?_
 refine wpList_nil ?_
 refine nor_then ?_
 exact ⟨r4, (hf.cons rfl hf.nil), (hO.sub (.cons _ .slnil)), hm⟩
 have hm := ie hc2 hm
 refine op_pass rfl hf rfl rfl (hc2) rfl rfl fun a hf => ?_
 refine op_pass rfl hf rfl rfl (hc2) rfl rfl fun a hf => ?_
 refine op_pass rfl hf rfl rfl (hc2) rfl rfl fun a hf => ?_
 refine op_val (ex_pick_f hf rfl hc2 rfl) rfl hf rfl rfl fun a hf => ?_
 refine op_as hf rfl rfl fun a hf => ?_
 refine wpList_nil ?_
 refine nor_then ?_
 exact ⟨false, (hf.cons rfl hf.nil), hO, hm⟩
 rintro a w ⟨t5, hf, hO, hm⟩
 rw [octet_Token_j1] at hm
 refine wp_ret ?_
 obtain rfl := Option.some.inj hm
 exact post_ret Tryz.results49 hf (.tmp rfl .nil) ⟨rfl, hO.below⟩

set_option maxHeartbeats 1000000 in
theorem w_fieldline_Check (x_f : api_Field) (R : Int) (w0 : World) (hG : Glob w0) (hm : fieldline_Check x_f = some R) :
    Calls Tryz.prog 27 #[.agg #[str x_f.Name, str x_f.Value]] w0 fun e w' => e = .returned (int R) ∧ Below w0.heap.size w0 w' := by
 rw [fieldline_Check] at hm
 refine calls_enter (vs := [.agg #[str x_f.Name, str x_f.Value]]) Tryz.func27 rfl Tryz.ntmps27 rfl fun a hf => ?_
 have hF : Away [] := away_nil
 have hO : Dk.Own w0 [] w0 [] := Dk.Own.refl w0
 refine wp_seq_k fun _ hK2 => ?_
 refine wp_region_list ?_
 refine op_box (v := .agg #[str x_f.Name, str x_f.Value]) (cs := [str x_f.Name, str x_f.Value]) rfl hf rfl rfl hO fun a b1 w hf hO => ?_
 refine op_as hf rfl rfl fun a hf => ?_
 refine wpList_nil ?_
 refine nor_then (hK2 _ _ ?_)
 refine wp_seq_k fun _ hK14 => ?_
 refine wp_block ?_
 refine wp_seq_k fun _ hK4 => ?_
 refine wp_region_list ?_
 refine op_val (ex_field fa_44_0 hf rfl) rfl hf rfl rfl fun a hf => ?_
 refine op_val (ex_load1 (o := 0) ag_9 (hO.blkSees (i := 0) rfl) rfl hf rfl) rfl hf rfl rfl fun a hf => ?_
 obtain ⟨r3, hr3, hm⟩ := ob hm
 refine op_enter (ex_call c_49 hf (vs := [str x_f.Name]) rfl) rfl hf rfl rfl (w_octet_Token x_f.Name r3 _ (hG.own hF hO) hr3) ?_
 rintro e w' ⟨he, hb⟩
 refine ⟨_, he, fun a hf => ?_⟩
 have hO := hO.grow hb
 refine op_val (ex_not hf rfl) rfl hf rfl rfl fun a hf => ?_
 refine op_as hf rfl rfl fun a hf => ?_
 refine wpList_nil ?_
 refine nor_then (hK4 _ _ ?_)
 refine wp_cond_cut hf rfl (fun hc5 => ?_) (fun hc5 => ?_)
 have hm := it hc5 hm
 refine wp_seq_k fun _ hK6 => ?_
 refine wp_region_list ?_
 refine op_as hf rfl rfl fun a hf => ?_
 refine wpList_nil ?_
 refine nor_then (hK6 _ _ ?_)
 refine wp_ret ?_
 refine ret_block ?_
 refine ret_then ?_
 obtain rfl := Option.some.inj hm
 exact post_ret Tryz.results27 hf (.tmp rfl .nil) ⟨rfl, hO.below⟩
 have hm := ie hc5 hm
 refine wp_seq_cut (fun a w => ∃ (t11 : Bool), Fits 22 [(8, .bool t11)] a ∧ Dk.Own w0 [] w [.blk b1 [str x_f.Name, str x_f.Value] 44] ∧ fieldline_Check_j1 t11 = some R) ?_ ?_
 obtain ⟨r8, hr8, hm⟩ := ob hm
 rcases bcase (!r8) with hc9 | hc9
 have hm := it hc9 hm
 refine wp_drawG' (S := Nat) (E0 := [(1, ptr b1 0)]) (by kernel_rfl) (fun k σ w => match k with | 0 => Dk.Own w0 [] w [.blk b1 [str x_f.Name, str x_f.Value] 44] | 1 => Dk.Own w0 [] w [.row (.slice (some ⟨σ, 0, none⟩) (([x_f.Value] : List Str).length) 1) 9 1 (([x_f.Value] : List Str).length) (cells enc_str ([x_f.Value] : List Str)), .blk b1 [str x_f.Name, str x_f.Value] 44] | _ => Dk.Own w0 [] w [.row (.slice (some ⟨σ, 0, none⟩) (([x_f.Value] : List Str).length) 1) 9 1 (([x_f.Value] : List Str).length) (cells enc_str ([x_f.Value] : List Str)), .blk b1 [str x_f.Name, str x_f.Value] 44]) (fun σ => [⟨[(1, ptr b1 0)], some (9, ptr b1 1)⟩, ⟨[(9, ptr b1 1)], some (10, str x_f.Value)⟩, ⟨[(10, str x_f.Value)], some (11, .slice (some ⟨σ, 0, none⟩) (([x_f.Value] : List Str).length) 1)⟩, ⟨[(11, .slice (some ⟨σ, 0, none⟩) (([x_f.Value] : List Str).length) 1)], some (12, .bool r8)⟩, ⟨[(12, .bool r8)], some (13, .bool (!r8))⟩, ⟨[(13, .bool (!r8))], some (14, .bool (!r8))⟩, ⟨[(14, .bool (!r8))], some (15, undef)⟩, ⟨[(14, .bool (!r8))], some (16, undef)⟩, ⟨[(14, .bool (!r8))], some (17, undef)⟩, ⟨[(14, .bool (!r8))], some (18, undef)⟩, ⟨[(14, .bool (!r8))], some (19, undef)⟩, ⟨[(14, .bool (!r8))], some (20, undef)⟩, ⟨[(14, .bool (!r8)), (20, undef)], some (21, .bool true)⟩, ⟨[(21, .bool true)], some (8, .bool true)⟩]) (0) [2, 3] [6, 7, 8, 9, 10, 11] ⟨g_none rfl rfl, g_none rfl rfl, g_none rfl rfl, g_none rfl rfl, g_none rfl rfl, g_none rfl rfl, g_some (u := fun σ => !r8) rfl (fun σ => rfl) rfl (fun σ => rfl) (fun σ => by rw [hc9] <;> rfl), g_some (u := fun σ => !r8) rfl (fun σ => rfl) rfl (fun σ => rfl) (fun σ => by rw [hc9] <;> rfl), g_some (u := fun σ => !r8) rfl (fun σ => rfl) rfl (fun σ => rfl) (fun σ => by rw [hc9] <;> rfl), g_some (u := fun σ => !r8) rfl (fun σ => rfl) rfl (fun σ => rfl) (fun σ => by rw [hc9] <;> rfl), g_some (u := fun σ => !r8) rfl (fun σ => rfl) rfl (fun σ => rfl) (fun σ => by rw [hc9] <;> rfl), g_some (u := fun σ => !r8) rfl (fun σ => rfl) rfl (fun σ => rfl) (fun σ => by rw [hc9] <;> rfl), g_none rfl rfl, g_none rfl rfl, trivial⟩ (fun σ => ⟨.inl rfl, .inl rfl, .inl rfl, .inl rfl, .inl rfl, .inl rfl, .inr ⟨rfl, rfl⟩, .inr ⟨rfl, rfl⟩, .inr ⟨rfl, rfl⟩, .inr ⟨rfl, rfl⟩, .inr ⟨rfl, rfl⟩, .inr ⟨rfl, rfl⟩, .inl rfl, .inl rfl, trivial⟩) (fun _ => rfl) (fun _ => rfl) (fun _ => rfl) rfl rfl (by decide) rfl hO.drew (hf.cons rfl hf.nil) (fun σ => ⟨⟨rfl, trivial⟩, ⟨rfl, trivial⟩, ⟨rfl, trivial⟩, ⟨rfl, trivial⟩, ⟨rfl, trivial⟩, ⟨rfl, trivial⟩, ⟨rfl, trivial⟩, ⟨rfl, trivial⟩, ⟨rfl, trivial⟩, ⟨rfl, trivial⟩, ⟨rfl, trivial⟩, ⟨rfl, trivial⟩, ⟨rfl, rfl, trivial⟩, ⟨rfl, trivial⟩, trivial⟩) ⟨.inr ⟨rfl, sS_pure rfl (fun σ => rfl) (fun σ => rfl) (fun σ a w k _ _ _ _ hf => ex_field fa_44_1 hf rfl)⟩, .inr ⟨rfl, sS_pure rfl (fun σ => rfl) (fun σ => rfl) (fun σ a w k hk hlo hup hst hf => match k, hk, hlo, hup, hst, hf with | 0, _, _, _, hst, hf => have hO : Dk.Own w0 [] w _ := hst; ex_load1 (o := 1) ag_9 (hO.blkSees (i := 0) rfl) rfl hf rfl | 1, _, _, _, hst, hf => have hO : Dk.Own w0 [] w _ := hst; ex_load1 (o := 1) ag_9 (hO.blkSees (i := 1) rfl) rfl hf rfl | 2, _, _, _, hst, hf => have hO : Dk.Own w0 [] w _ := hst; ex_load1 (o := 1) ag_9 (hO.blkSees (i := 1) rfl) rfl hf rfl | k + 3, hk, _, _, _, _ => absurd hk (by simp))⟩, .inr ⟨rfl, sS_val rfl (fun σ => rfl) (fun σ => rfl) rfl (fun σ w (hO : Dk.Own w0 [] w _) => by obtain ⟨b7, w', hO', hr⟩ := ef_buildSlice (E := [(10, str x_f.Value)]) (parts := #[(0, (.tmp 10))]) (t' := 61) (n := 1) (vs := [(0, str x_f.Value)]) (cs := [str x_f.Value]) (e := 9) (sz := 1) (fun w => by kernel_rfl) rfl rfl hO rfl; exact ⟨(b7), w', hO', ⟨.inr rfl, .inr rfl, .inl rfl, .inl rfl, .inr rfl, .inr rfl, .inr rfl, .inr rfl, .inr rfl, .inr rfl, .inr rfl, .inr rfl, .inr rfl, .inr rfl, trivial⟩, hr⟩)⟩, .inr ⟨rfl, sS_call rfl (fun σ => rfl) (fun σ => rfl) rfl (fun σ a w (_ : _) hf => ex_call c_50 hf (vs := [.func (.func 51) #[] #[], .slice (some ⟨σ, 0, none⟩) (([x_f.Value] : List Str).length) 1]) rfl) (fun σ w (hO : Dk.Own w0 [] w _) => (w_octet_All octet_IsValue ([x_f.Value] : List Str) r8 _ (hG.own hF hO) c_51 (fun y0 r w hG h => callsE (w_octet_IsValue y0 r w hG h)) (hO.rowSees (i := 0) rfl) (hO.rowCap (i := 0) rfl) hr8).mono fun e w' h => by obtain ⟨he, hb⟩ := h; exact ⟨(σ), he, hO.grow hb, .inr rfl, .inr rfl, .inr rfl, .inr rfl, .inr rfl, .inr rfl, .inr rfl, .inr rfl, .inr rfl, .inr rfl, .inr rfl, .inr rfl, .inr rfl, .inr rfl, trivial⟩)⟩, .inr ⟨rfl, sS_pure rfl (fun σ => rfl) (fun σ => rfl) (fun σ a w k _ _ _ _ hf => ex_not hf rfl)⟩, .inr ⟨rfl, sS_pure rfl (fun σ => rfl) (fun σ => rfl) (fun σ a w k _ _ _ _ hf => ex_move hf rfl)⟩, .inl rfl, .inl rfl, .inl rfl, .inl rfl, .inl rfl, .inl rfl, .inr ⟨rfl, sS_pure rfl (fun σ => rfl) (fun σ => rfl) (fun σ a w k _ _ _ _ hf => ex_pick_t hf rfl hc9 rfl)⟩, .inr ⟨rfl, sS_pure rfl (fun σ => rfl) (fun σ => rfl) (fun σ a w k _ _ _ _ hf => ex_assign hf rfl)⟩, trivial⟩ ?_
 rintro b7 a w hf hO
 have hO : Dk.Own w0 [] w _ := hO
 have hf : Fits 22 [(8, .bool true)] a := (hf.cons rfl hf.nil)
 refine nor_then ?_
 exact ⟨true, (hf.cons rfl hf.nil), (hO.sub (.cons _ (.cons_cons _ .slnil))), hm⟩
 have hm := ie hc9 hm
 obtain ⟨r10, hr10, hm⟩ := ob hm
 refine wp_drawG' (S := Nat) (E0 := [(1, ptr b1 0)]) (by kernel_rfl) (fun k σ w => match k with | 0 => Dk.Own w0 [] w [.blk b1 [str x_f.Name, str x_f.Value] 44] | 1 => Dk.Own w0 [] w [.row (.slice (some ⟨σ, 0, none⟩) (([x_f.Value] : List Str).length) 1) 9 1 (([x_f.Value] : List Str).length) (cells enc_str ([x_f.Value] : List Str)), .blk b1 [str x_f.Name, str x_f.Value] 44] | 2 => Dk.Own w0 [] w [.row (.slice (some ⟨σ, 0, none⟩) (([x_f.Value] : List Str).length) 1) 9 1 (([x_f.Value] : List Str).length) (cells enc_str ([x_f.Value] : List Str)), .blk b1 [str x_f.Name, str x_f.Value] 44] | _ => Dk.Own w0 [] w [.row (.slice (some ⟨σ, 0, none⟩) (([x_f.Value] : List Str).length) 1) 9 1 (([x_f.Value] : List Str).length) (cells enc_str ([x_f.Value] : List Str)), .blk b1 [str x_f.Name, str x_f.Value] 44]) (fun σ => [⟨[(1, ptr b1 0)], some (9, ptr b1 1)⟩, ⟨[(9, ptr b1 1)], some (10, str x_f.Value)⟩, ⟨[(10, str x_f.Value)], some (11, .slice (some ⟨σ, 0, none⟩) (([x_f.Value] : List Str).length) 1)⟩, ⟨[(11, .slice (some ⟨σ, 0, none⟩) (([x_f.Value] : List Str).length) 1)], some (12, .bool r8)⟩, ⟨[(12, .bool r8)], some (13, .bool (!r8))⟩, ⟨[(13, .bool (!r8))], some (14, .bool (!r8))⟩, ⟨[(1, ptr b1 0), (14, .bool (!r8))], some (15, ptr b1 1)⟩, ⟨[(15, ptr b1 1), (14, .bool (!r8))], some (16, str x_f.Value)⟩, ⟨[(16, str x_f.Value), (14, .bool (!r8))], some (17, str r10)⟩, ⟨[(1, ptr b1 0), (14, .bool (!r8))], some (18, ptr b1 1)⟩, ⟨[(18, ptr b1 1), (14, .bool (!r8))], some (19, str x_f.Value)⟩, ⟨[(17, str r10), (19, str x_f.Value), (14, .bool (!r8))], some (20, .bool (!(r10 == x_f.Value)))⟩, ⟨[(14, .bool (!r8)), (20, .bool (!(r10 == x_f.Value)))], some (21, .bool (!(r10 == x_f.Value)))⟩, ⟨[(21, .bool (!(r10 == x_f.Value)))], some (8, .bool (!(r10 == x_f.Value)))⟩]) (0) [2, 3, 8] [] ⟨g_none rfl rfl, g_none rfl rfl, g_none rfl rfl, g_none rfl rfl, g_none rfl rfl, g_none rfl rfl, g_some (u := fun σ => !r8) rfl (fun σ => rfl) rfl (fun σ => rfl) (fun σ => by rw [hc9] <;> rfl), g_some (u := fun σ => !r8) rfl (fun σ => rfl) rfl (fun σ => rfl) (fun σ => by rw [hc9] <;> rfl), g_some (u := fun σ => !r8) rfl (fun σ => rfl) rfl (fun σ => rfl) (fun σ => by rw [hc9] <;> rfl), g_some (u := fun σ => !r8) rfl (fun σ => rfl) rfl (fun σ => rfl) (fun σ => by rw [hc9] <;> rfl), g_some (u := fun σ => !r8) rfl (fun σ => rfl) rfl (fun σ => rfl) (fun σ => by rw [hc9] <;> rfl), g_some (u := fun σ => !r8) rfl (fun σ => rfl) rfl (fun σ => rfl) (fun σ => by rw [hc9] <;> rfl), g_none rfl rfl, g_none rfl rfl, trivial⟩ (fun σ => ⟨.inl rfl, .inl rfl, .inl rfl, .inl rfl, .inl rfl, .inl rfl, .inl rfl, .inl rfl, .inl rfl, .inl rfl, .inl rfl, .inl rfl, .inl rfl, .inl rfl, trivial⟩) (fun _ => rfl) (fun _ => rfl) (fun _ => rfl) rfl rfl (by decide) rfl hO.drew (hf.cons rfl hf.nil) (fun σ => ⟨⟨rfl, trivial⟩, ⟨rfl, trivial⟩, ⟨rfl, trivial⟩, ⟨rfl, trivial⟩, ⟨rfl, trivial⟩, ⟨rfl, trivial⟩, ⟨rfl, rfl, trivial⟩, ⟨rfl, rfl, trivial⟩, ⟨rfl, rfl, trivial⟩, ⟨rfl, rfl, trivial⟩, ⟨rfl, rfl, trivial⟩, ⟨rfl, rfl, rfl, trivial⟩, ⟨rfl, rfl, trivial⟩, ⟨rfl, trivial⟩, trivial⟩) ⟨.inr ⟨rfl, sS_pure rfl (fun σ => rfl) (fun σ => rfl) (fun σ a w k _ _ _ _ hf => ex_field fa_44_1 hf rfl)⟩, .inr ⟨rfl, sS_pure rfl (fun σ => rfl) (fun σ => rfl) (fun σ a w k hk hlo hup hst hf => match k, hk, hlo, hup, hst, hf with | 0, _, _, _, hst, hf => have hO : Dk.Own w0 [] w _ := hst; ex_load1 (o := 1) ag_9 (hO.blkSees (i := 0) rfl) rfl hf rfl | 1, _, _, _, hst, hf => have hO : Dk.Own w0 [] w _ := hst; ex_load1 (o := 1) ag_9 (hO.blkSees (i := 1) rfl) rfl hf rfl | 2, _, _, _, hst, hf => have hO : Dk.Own w0 [] w _ := hst; ex_load1 (o := 1) ag_9 (hO.blkSees (i := 1) rfl) rfl hf rfl | 3, _, _, _, hst, hf => have hO : Dk.Own w0 [] w _ := hst; ex_load1 (o := 1) ag_9 (hO.blkSees (i := 1) rfl) rfl hf rfl | k + 4, hk, _, _, _, _ => absurd hk (by simp))⟩, .inr ⟨rfl, sS_val rfl (fun σ => rfl) (fun σ => rfl) rfl (fun σ w (hO : Dk.Own w0 [] w _) => by obtain ⟨b7, w', hO', hr⟩ := ef_buildSlice (E := [(10, str x_f.Value)]) (parts := #[(0, (.tmp 10))]) (t' := 61) (n := 1) (vs := [(0, str x_f.Value)]) (cs := [str x_f.Value]) (e := 9) (sz := 1) (fun w => by kernel_rfl) rfl rfl hO rfl; exact ⟨(b7), w', hO', ⟨.inr rfl, .inr rfl, .inl rfl, .inl rfl, .inr rfl, .inr rfl, .inr rfl, .inr rfl, .inr rfl, .inr rfl, .inr rfl, .inr rfl, .inr rfl, .inr rfl, trivial⟩, hr⟩)⟩, .inr ⟨rfl, sS_call rfl (fun σ => rfl) (fun σ => rfl) rfl (fun σ a w (_ : _) hf => ex_call c_50 hf (vs := [.func (.func 51) #[] #[], .slice (some ⟨σ, 0, none⟩) (([x_f.Value] : List Str).length) 1]) rfl) (fun σ w (hO : Dk.Own w0 [] w _) => (w_octet_All octet_IsValue ([x_f.Value] : List Str) r8 _ (hG.own hF hO) c_51 (fun y0 r w hG h => callsE (w_octet_IsValue y0 r w hG h)) (hO.rowSees (i := 0) rfl) (hO.rowCap (i := 0) rfl) hr8).mono fun e w' h => by obtain ⟨he, hb⟩ := h; exact ⟨(σ), he, hO.grow hb, .inr rfl, .inr rfl, .inr rfl, .inr rfl, .inr rfl, .inr rfl, .inr rfl, .inr rfl, .inr rfl, .inr rfl, .inr rfl, .inr rfl, .inr rfl, .inr rfl, trivial⟩)⟩, .inr ⟨rfl, sS_pure rfl (fun σ => rfl) (fun σ => rfl) (fun σ a w k _ _ _ _ hf => ex_not hf rfl)⟩, .inr ⟨rfl, sS_pure rfl (fun σ => rfl) (fun σ => rfl) (fun σ a w k _ _ _ _ hf => ex_move hf rfl)⟩, .inr ⟨rfl, sS_pure rfl (fun σ => rfl) (fun σ => rfl) (fun σ a w k _ _ _ _ hf => ex_field fa_44_1 hf rfl)⟩, .inr ⟨rfl, sS_pure rfl (fun σ => rfl) (fun σ => rfl) (fun σ a w k hk hlo hup hst hf => match k, hk, hlo, hup, hst, hf with | 0, _, _, _, hst, hf => have hO : Dk.Own w0 [] w _ := hst; ex_load1 (o := 1) ag_9 (hO.blkSees (i := 0) rfl) rfl hf rfl | 1, _, _, _, hst, hf => have hO : Dk.Own w0 [] w _ := hst; ex_load1 (o := 1) ag_9 (hO.blkSees (i := 1) rfl) rfl hf rfl | 2, _, _, _, hst, hf => have hO : Dk.Own w0 [] w _ := hst; ex_load1 (o := 1) ag_9 (hO.blkSees (i := 1) rfl) rfl hf rfl | 3, _, _, _, hst, hf => have hO : Dk.Own w0 [] w _ := hst; ex_load1 (o := 1) ag_9 (hO.blkSees (i := 1) rfl) rfl hf rfl | k + 4, hk, _, _, _, _ => absurd hk (by simp))⟩, .inr ⟨rfl, sS_call rfl (fun σ => rfl) (fun σ => rfl) rfl (fun σ a w (_ : _) hf => ex_call c_52 hf (vs := [str x_f.Value, str [32, 9]]) rfl) (fun σ w (hO : Dk.Own w0 [] w _) => (w_strings_Trim x_f.Value [32, 9] r10 _ (hG.own hF hO) hr10).mono fun e w' h => by obtain ⟨he, hb⟩ := h; exact ⟨(σ), he, hO.grow hb, .inr rfl, .inr rfl, .inr rfl, .inr rfl, .inr rfl, .inr rfl, .inr rfl, .inr rfl, .inr rfl, .inr rfl, .inr rfl, .inr rfl, .inr rfl, .inr rfl, trivial⟩)⟩, .inr ⟨rfl, sS_pure rfl (fun σ => rfl) (fun σ => rfl) (fun σ a w k _ _ _ _ hf => ex_field fa_44_1 hf rfl)⟩, .inr ⟨rfl, sS_pure rfl (fun σ => rfl) (fun σ => rfl) (fun σ a w k hk hlo hup hst hf => match k, hk, hlo, hup, hst, hf with | 0, _, _, _, hst, hf => have hO : Dk.Own w0 [] w _ := hst; ex_load1 (o := 1) ag_9 (hO.blkSees (i := 0) rfl) rfl hf rfl | 1, _, _, _, hst, hf => have hO : Dk.Own w0 [] w _ := hst; ex_load1 (o := 1) ag_9 (hO.blkSees (i := 1) rfl) rfl hf rfl | 2, _, _, _, hst, hf => have hO : Dk.Own w0 [] w _ := hst; ex_load1 (o := 1) ag_9 (hO.blkSees (i := 1) rfl) rfl hf rfl | 3, _, _, _, hst, hf => have hO : Dk.Own w0 [] w _ := hst; ex_load1 (o := 1) ag_9 (hO.blkSees (i := 1) rfl) rfl hf rfl | k + 4, hk, _, _, _, _ => absurd hk (by simp))⟩, .inr ⟨rfl, sS_pure rfl (fun σ => rfl) (fun σ => rfl) (fun σ a w k _ _ _ _ hf => ex_neq_s (l := r10) (m := x_f.Value) hf rfl rfl)⟩, .inr ⟨rfl, sS_pure rfl (fun σ => rfl) (fun σ => rfl) (fun σ a w k _ _ _ _ hf => ex_pick_f hf rfl hc9 rfl)⟩, .inr ⟨rfl, sS_pure rfl (fun σ => rfl) (fun σ => rfl) (fun σ a w k _ _ _ _ hf => ex_assign hf rfl)⟩, trivial⟩ ?_
 rintro b7 a w hf hO
 have hO : Dk.Own w0 [] w _ := hO
 have hf : Fits 22 [(8, .bool (!(r10 == x_f.Value)))] a := (hf.cons rfl hf.nil)
 refine nor_then ?_
 exact ⟨!(r10 == x_f.Value), (hf.cons rfl hf.nil), (hO.sub (.cons _ (.cons_cons _ .slnil))), hm⟩
 rintro a w ⟨t11, hf, hO, hm⟩
 rw [fieldline_Check_j1] at hm
 refine wp_cond_cut hf rfl (fun hc12 => ?_) (fun hc12 => ?_)
 have hm := it hc12 hm
 refine wp_seq_k fun _ hK13 => ?_
 refine wp_region_list ?_
 refine op_as hf rfl rfl fun a hf => ?_
 refine wpList_nil ?_
 refine nor_then (hK13 _ _ ?_)
 refine wp_ret ?_
 refine ret_block ?_
 refine ret_then ?_
 obtain rfl := Option.some.inj hm
 exact post_ret Tryz.results27 hf (.tmp rfl .nil) ⟨rfl, hO.below⟩
 have hm := ie hc12 hm
 refine wp_skip ?_
 refine nor_block ?_
 refine nor_then (hK14 _ _ ?_)
 refine wp_seq_k fun _ hK15 => ?_
 refine wp_region_list ?_
 refine op_as hf rfl rfl fun a hf => ?_
 refine wpList_nil ?_
 refine nor_then (hK15 _ _ ?_)
 refine wp_ret ?_
 obtain rfl := Option.some.inj hm
 exact post_ret Tryz.results27 hf (.tmp rfl .nil) ⟨rfl, hO.below⟩

set_option maxHeartbeats 1000000 in
theorem w_head_Check (x_h : api_Head) (R : Int) (w0 : World) (hG : GlobT w0) {x_h_p0 : Option Addr} {x_h_c0 : Nat} (hs0 : Sees w0 x_h_p0 (cells enc_api_Field x_h.Fields)) (hc0 : x_h.Fields.length ≤ x_h_c0) (hm : head_Check x_h = some R) :
    Calls Tryz.prog 11 #[.agg #[int x_h.Kind, str x_h.Method, str x_h.Target, int x_h.Code, str x_h.Reason, int x_h.Minor, .slice x_h_p0 x_h.Fields.length x_h_c0]] w0 fun e w' => e = .returned (int R) ∧ Below w0.heap.size w0 w' := by
 rw [head_Check] at hm
 refine calls_enter (vs := [.agg #[int x_h.Kind, str x_h.Method, str x_h.Target, int x_h.Code, str x_h.Reason, int x_h.Minor, .slice x_h_p0 x_h.Fields.length x_h_c0]]) Tryz.func11 rfl Tryz.ntmps11 rfl fun a hf => ?_
 have hF : Away [] := away_nil
 have hO : Dk.Own w0 [] w0 [] := Dk.Own.refl w0
 have hO := hO.addShr hs0 (by simp [Res.shared])
 refine wp_seq_k fun _ hK2 => ?_
 refine wp_region_list ?_
 refine op_box (v := .agg #[int x_h.Kind, str x_h.Method, str x_h.Target, int x_h.Code, str x_h.Reason, int x_h.Minor, .slice x_h_p0 x_h.Fields.length x_h_c0]) (cs := [int x_h.Kind, str x_h.Method, str x_h.Target, int x_h.Code, str x_h.Reason, int x_h.Minor, .slice x_h_p0 x_h.Fields.length x_h_c0]) rfl hf rfl rfl hO fun a b1 w hf hO => ?_
 refine op_as hf rfl rfl fun a hf => ?_
 refine wpList_nil ?_
 refine nor_then (hK2 _ _ ?_)
 refine wp_seq_k fun _ hK8 => ?_
 refine wp_seq_k fun _ hK4 => ?_
 refine wp_region_list ?_
 refine op_val (ex_loadN (o := 0) (vs := [int x_h.Kind, str x_h.Method, str x_h.Target, int x_h.Code, str x_h.Reason, int x_h.Minor, .slice x_h_p0 x_h.Fields.length x_h_c0]) ag_25 sz_25 (hO.blkSees (i := 0) rfl) rfl rfl hf rfl) rfl hf rfl rfl fun a hf => ?_
 obtain ⟨r3, hr3, hm⟩ := ob hm
 refine op_enter (ex_call c_20 hf (vs := [.agg #[int x_h.Kind, str x_h.Method, str x_h.Target, int x_h.Code, str x_h.Reason, int x_h.Minor, .slice x_h_p0 x_h.Fields.length x_h_c0]]) rfl) rfl hf rfl rfl (w_startline_Text x_h r3 _ (hG.own hF hO) (hO.sees (i := 1) rfl) hc0 hr3) ?_
 rintro e w' ⟨he, hb⟩
 refine ⟨_, he, fun a hf => ?_⟩
 have hO := hO.grow hb
 refine op_mv hf rfl rfl fun a hf => ?_
 refine op_val (ex_extract hf rfl rfl) rfl hf rfl rfl fun a hf => ?_
 refine op_val (ex_extract hf rfl rfl) rfl hf rfl rfl fun a hf => ?_
 refine op_as hf rfl rfl fun a hf => ?_
 refine op_as hf rfl rfl fun a hf => ?_
 refine wpList_nil ?_
 refine nor_then (hK4 _ _ ?_)
 refine wp_seq_k fun _ hK5 => ?_
 refine wp_region_list ?_
 refine op_mv hf rfl rfl fun a hf => ?_
 refine op_val (ex_neq (m := r3.2) (n := 0) hf rfl rfl) rfl hf rfl rfl fun a hf => ?_
 refine wpList_nil ?_
 refine nor_then (hK5 _ _ ?_)
 refine wp_cond_cut hf rfl (fun hc6 => ?_) (fun hc6 => ?_)
 have hm := it hc6 hm
 refine wp_seq_k fun _ hK7 => ?_
 refine wp_region_list ?_
 refine op_mv hf rfl rfl fun a hf => ?_
 refine op_as hf rfl rfl fun a hf => ?_
 refine wpList_nil ?_
 refine nor_then (hK7 _ _ ?_)
 refine wp_ret ?_
 refine ret_then ?_
 obtain rfl := Option.some.inj hm
 exact post_ret Tryz.results11 hf (.tmp rfl .nil) ⟨rfl, hO.below⟩
 have hm := ie hc6 hm
 refine wp_skip ?_
 refine nor_then (hK8 _ _ ?_)
 refine wp_seq_k fun _ hK26 => ?_
 refine wp_seq_k fun _ hK9 => ?_
 refine wp_region_list ?_
 refine op_val (ex_field fa_25_6 hf rfl) rfl hf rfl rfl fun a hf => ?_
 refine op_val (ex_load1 (o := 6) ag_23 (hO.blkSees (i := 0) rfl) rfl hf rfl) rfl hf rfl rfl fun a hf => ?_
 refine op_val (ex_len_l Tryz.underlying23 hf rfl) rfl hf rfl rfl fun a hf => ?_
 refine op_mv hf rfl rfl fun a hf => ?_
 refine wpList_nil ?_
 refine nor_then (hK9 _ _ ?_)
 refine wp_block ?_
 refine wp_loop_n (fun k a w => ∃ (i10 : Int), Fits 31 [(1, ptr b1 0), (17, .slice x_h_p0 x_h.Fields.length x_h_c0), (18, int (x_h.Fields.length : Int)), (19, int i10)] a ∧ Dk.Own w0 [] w [.blk b1 [int x_h.Kind, str x_h.Method, str x_h.Target, int x_h.Code, str x_h.Reason, int x_h.Minor, .slice x_h_p0 x_h.Fields.length x_h_c0] 25, .shr x_h_p0 (cells enc_api_Field x_h.Fields)] ∧ head_Check_L1 x_h k i10 = some R) ?_ fuel ?_
 rintro n1 a w ⟨i10, hf, hO, hm⟩
 obtain _ | n1 := n1
 rw [head_Check_L1] at hm
 cases hm
 rw [head_Check_L1] at hm
 refine wp_seq_k fun _ hK11 => ?_
 refine wp_region_list ?_
 refine op_val (ex_lss (m := i10) (n := (x_h.Fields.length : Int)) hf rfl rfl) rfl hf rfl rfl fun a hf => ?_
 refine wpList_nil ?_
 refine nor_then (hK11 _ _ ?_)
 refine wp_seq_k fun _ hK13 => ?_
 refine wp_cond_cut hf rfl (fun hc12 => ?_) (fun hc12 => ?_)
 have hm := it hc12 hm
 refine wp_skip ?_
 refine nor_then (hK13 _ _ ?_)
 refine wp_seq_k fun _ hK24 => ?_
 refine wp_block ?_
 refine wp_seq_k fun _ hK18 => ?_
 refine wp_region_list ?_
 obtain ⟨x14, hx14, hm⟩ := ob hm
 obtain ⟨b15, o16, hix14, hSx14⟩ := elemAt (enc := enc_api_Field) (sz := 2) (xs := x_h.Fields) 23 Tryz.underlying23 sz_44 (by decide) (fun _ => rfl) (hO.sees (i := 1) rfl) hx14
 refine op_val (ex_indexAddr hix14 hf rfl rfl) rfl hf rfl rfl fun a hf => ?_
 refine op_val (ex_loadN (o := 0) (vs := [str x14.Name, str x14.Value]) ag_44 sz_44 (hSx14 _ (hO.sees (i := 1) rfl)) rfl rfl hf rfl) rfl hf rfl rfl fun a hf => ?_
 refine op_alloc al_44 hf rfl hO fun a b17 w hf hO => ?_
 refine op_storeN (i := 0) (n := 2) sz_44 rfl rfl rfl (by simp [Value.oneCell']) hf rfl rfl hO fun w hO => ?_
 refine wpList_nil ?_
 refine nor_then (hK18 _ _ ?_)
 refine wp_seq_k fun _ hK20 => ?_
 refine wp_region_list ?_
 refine op_val (ex_loadN (o := 0) (vs := [str x14.Name, str x14.Value]) ag_44 sz_44 (hO.blkSees (i := 0) rfl) rfl rfl hf rfl) rfl hf rfl rfl fun a hf => ?_
 obtain ⟨r19, hr19, hm⟩ := ob hm
 refine op_enter (ex_call c_27 hf (vs := [.agg #[str x14.Name, str x14.Value]]) rfl) rfl hf rfl rfl (w_fieldline_Check x14 r19 _ (hG.own hF hO).1 hr19) ?_
 rintro e w' ⟨he, hb⟩
 refine ⟨_, he, fun a hf => ?_⟩
 have hO := hO.grow hb
 refine op_as hf rfl rfl fun a hf => ?_
 refine wpList_nil ?_
 refine nor_then (hK20 _ _ ?_)
 refine wp_seq_k fun _ hK21 => ?_
 refine wp_region_list ?_
 refine op_mv hf rfl rfl fun a hf => ?_
 refine op_val (ex_neq (m := r19) (n := 0) hf rfl rfl) rfl hf rfl rfl fun a hf => ?_
 refine wpList_nil ?_
 refine nor_then (hK21 _ _ ?_)
 refine wp_cond_cut hf rfl (fun hc22 => ?_) (fun hc22 => ?_)
 have hm := it hc22 hm
 refine wp_seq_k fun _ hK23 => ?_
 refine wp_region_list ?_
 refine op_mv hf rfl rfl fun a hf => ?_
 refine op_as hf rfl rfl fun a hf => ?_
 refine wpList_nil ?_
 refine nor_then (hK23 _ _ ?_)
 refine wp_ret ?_
 refine ret_block ?_
 refine ret_then ?_
 refine ret_then ?_
 refine ret_block ?_
 refine ret_then ?_
 obtain rfl := Option.some.inj hm
 exact post_ret Tryz.results11 hf (.tmp rfl .nil) ⟨rfl, hO.below⟩
 have hm := ie hc22 hm
 refine wp_skip ?_
 refine nor_block ?_
 refine nor_then (hK24 _ _ ?_)
 refine wp_region_list ?_
 obtain ⟨i25, hi25, hm⟩ := ob hm
 refine op_val (ex_add hf rfl rfl hi25) rfl hf rfl rfl fun a hf => ?_
 refine op_mv hf rfl rfl fun a hf => ?_
 refine wpList_nil ?_
 refine nor_then ?_
 exact ⟨_, Nat.lt_succ_self _, i25, (hf.cons rfl (hf.cons rfl (hf.cons rfl (hf.cons rfl hf.nil)))), (hO.sub (.cons _ (.cons_cons _ (.cons_cons _ .slnil)))), hm⟩
 have hm := ie hc12 hm
 refine wp_exit ?_
 refine exit_then ?_
 refine exit_then ?_
 refine exit_here ?_
 refine nor_then (hK26 _ _ ?_)
 refine wp_seq_k fun _ hK28 => ?_
 refine wp_region_list ?_
 refine op_val (ex_loadN (o := 0) (vs := [int x_h.Kind, str x_h.Method, str x_h.Target, int x_h.Code, str x_h.Reason, int x_h.Minor, .slice x_h_p0 x_h.Fields.length x_h_c0]) ag_25 sz_25 (hO.blkSees (i := 0) rfl) rfl rfl hf rfl) rfl hf rfl rfl fun a hf => ?_
 obtain ⟨r27, hr27, hm⟩ := ob hm
 refine op_enter (ex_call c_28 hf (vs := [.agg #[int x_h.Kind, str x_h.Method, str x_h.Target, int x_h.Code, str x_h.Reason, int x_h.Minor, .slice x_h_p0 x_h.Fields.length x_h_c0]]) rfl) rfl hf rfl rfl (w_head_whole x_h r27 _ (hG.own hF hO) (hO.sees (i := 1) rfl) hc0 hr27) ?_
 rintro e w' ⟨he, hb⟩
 refine ⟨_, he, fun a hf => ?_⟩
 have hO := hO.grow hb
 refine op_as hf rfl rfl fun a hf => ?_
 refine wpList_nil ?_
 refine nor_then (hK28 _ _ ?_)
 refine wp_ret ?_
 obtain rfl := Option.some.inj hm
 exact post_ret Tryz.results11 hf (.tmp rfl .nil) ⟨rfl, hO.below⟩
 exact ⟨0, (hf.cons rfl (hf.cons rfl (hf.cons rfl (hf.cons rfl hf.nil)))), hO, hm⟩

end Go.Proofs
