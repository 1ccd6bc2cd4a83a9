/-
  Walks, written by a program (wip/gen): what its model says, the function returns; what was there before is as it was.
-/
import Derived.Test.YtnfkbhocbdheaacGreatDoorLib
import Derived.Test.YtnfkbhocbdheaacGreatDoorW5
import Derived.Test.YtnfkbhocbdheaacGreatDoorW6
import Derived.Test.YtnfkbhocbdheaacGreatDoorW10
set_option linter.unusedVariables false
set_option linter.unusedSimpArgs false
set_option maxRecDepth 100000
namespace Go.Proofs
open Go.Dk Go.Dm Go.RowKit

set_option maxHeartbeats 1000000 in
theorem w_slices_Equal_gapi_Field_api_Field_ (x_s1 : List api_Field) (x_s2 : List api_Field) (R : Bool) (w0 : World) (hG : Glob w0) {x_s1_p0 : Option Addr} {x_s1_c0 : Nat} (hs0 : Sees w0 x_s1_p0 (cells enc_api_Field x_s1)) (hc0 : x_s1.length ≤ x_s1_c0) {x_s2_p1 : Option Addr} {x_s2_c1 : Nat} (hs1 : Sees w0 x_s2_p1 (cells enc_api_Field x_s2)) (hc1 : x_s2.length ≤ x_s2_c1) (hm : slices_Equal_gapi_Field_api_Field_ x_s1 x_s2 = some R) :
    Calls Tryz.prog 39 #[.slice x_s1_p0 x_s1.length x_s1_c0, .slice x_s2_p1 x_s2.length x_s2_c1] w0 fun e w' => e = .returned (.bool R) ∧ Below w0.heap.size w0 w' := by
  rw [slices_Equal_gapi_Field_api_Field_] at hm
  refine calls_enter (vs := [.slice x_s1_p0 x_s1.length x_s1_c0, .slice x_s2_p1 x_s2.length x_s2_c1]) Tryz.func39 rfl Tryz.ntmps39 rfl fun a hf => ?_
  have hF : Away [] := away_nil
  have hO : Dk.Own w0 [] w0 [] := Dk.Own.refl w0
  have hO := hO.addShr hs0 (by simp [Res.shared])
  have hO := hO.addShr hs1 (by simp [Res.shared])
  refine wp_seq_k fun _ hK1 => ?_
  refine wp_region_list ?_
  refine op_val (ex_assign hf rfl) rfl hf rfl rfl fun a hf => ?_
  refine wpList_nil ?_
  refine nor_then (hK1 _ _ ?_)
  refine wp_seq_k fun _ hK5 => ?_
  refine wp_seq_k fun _ hK2 => ?_
  refine wp_region_list ?_
  refine op_val (ex_move hf rfl) rfl hf rfl rfl fun a hf => ?_
  refine op_val (ex_len_l Tryz.underlying23 hf rfl) rfl hf rfl rfl fun a hf => ?_
  refine op_val (ex_move hf rfl) rfl hf rfl rfl fun a hf => ?_
  refine op_val (ex_len_l Tryz.underlying23 hf rfl) rfl hf rfl rfl fun a hf => ?_
  refine op_val (ex_neq (m := (x_s1.length : Int)) (n := (x_s2.length : Int)) hf rfl rfl) rfl hf rfl rfl fun a hf => ?_
  refine wpList_nil ?_
  refine nor_then (hK2 _ _ ?_)
  refine wp_cond_cut hf rfl (fun hc3 => ?_) (fun hc3 => ?_)
  · have hm := it hc3 hm
    refine wp_seq_k fun _ hK4 => ?_
    refine wp_region_list ?_
    refine op_val (ex_assign hf rfl) rfl hf rfl rfl fun a hf => ?_
    refine wpList_nil ?_
    refine nor_then (hK4 _ _ ?_)
    refine wp_ret ?_
    refine ret_then ?_
    obtain rfl := Option.some.inj hm
    exact post_ret Tryz.results39 hf (.tmp rfl .nil) ⟨rfl, hO.below⟩
  · have hm := ie hc3 hm
    refine wp_skip ?_
    refine nor_then (hK5 _ _ ?_)
    refine wp_seq_k fun _ hK23 => ?_
    refine wp_seq_k fun _ hK6 => ?_
    refine wp_region_list ?_
    refine op_val (ex_move hf rfl) rfl hf rfl rfl fun a hf => ?_
    refine op_val (ex_len_l Tryz.underlying23 hf rfl) rfl hf rfl rfl fun a hf => ?_
    refine op_val (ex_move hf rfl) rfl hf rfl rfl fun a hf => ?_
    refine wpList_nil ?_
    refine nor_then (hK6 _ _ ?_)
    refine wp_block ?_
    refine wp_loop_n (fun k a w => ∃ (i7 : Int), Fits 26 [(0, .slice x_s1_p0 x_s1.length x_s1_c0), (1, .slice x_s2_p1 x_s2.length x_s2_c1), (12, int (x_s1.length : Int)), (13, int i7)] a ∧ Dk.Own w0 [] w [.shr x_s2_p1 (cells enc_api_Field x_s2), .shr x_s1_p0 (cells enc_api_Field x_s1)] ∧ slices_Equal_gapi_Field_api_Field__L1 x_s1 x_s2 k i7 = some R) ?_ fuel ?_
    · rintro n1 a w ⟨i7, hf, hO, hm⟩
      obtain _ | n1 := n1
      · rw [slices_Equal_gapi_Field_api_Field__L1] at hm
        cases hm
      · rw [slices_Equal_gapi_Field_api_Field__L1] at hm
        refine wp_seq_k fun _ hK8 => ?_
        refine wp_region_list ?_
        refine op_val (ex_lss (m := i7) (n := (x_s1.length : Int)) hf rfl rfl) rfl hf rfl rfl fun a hf => ?_
        refine wpList_nil ?_
        refine nor_then (hK8 _ _ ?_)
        refine wp_seq_k fun _ hK10 => ?_
        refine wp_cond_cut hf rfl (fun hc9 => ?_) (fun hc9 => ?_)
        · have hm := it hc9 hm
          refine wp_skip ?_
          refine nor_then (hK10 _ _ ?_)
          refine wp_seq_k fun _ hK21 => ?_
          refine wp_block ?_
          refine wp_seq_k fun _ hK11 => ?_
          refine wp_region_list ?_
          refine op_val (ex_move hf rfl) rfl hf rfl rfl fun a hf => ?_
          refine op_val (ex_assign hf rfl) rfl hf rfl rfl fun a hf => ?_
          refine wpList_nil ?_
          refine nor_then (hK11 _ _ ?_)
          refine wp_seq_k fun _ hK18 => ?_
          refine wp_quiet (by kernel_rfl) (by kernel_rfl) hO ?_
          refine q_val (fun w hO => ex_move hf rfl) rfl hf rfl rfl fun a hf => ?_
          refine q_val (fun w hO => ex_move hf rfl) rfl hf rfl rfl fun a hf => ?_
          obtain ⟨x12, hx12, hm⟩ := ob hm
          obtain ⟨b13, o14, hix12, hSx12⟩ := elemAt (enc := enc_api_Field) (sz := 2) (xs := x_s1) 23 Tryz.underlying23 sz_44 (by decide) (fun _ => rfl) (hO.sees (i := 1) rfl) hx12
          refine q_val (fun w hO => ex_indexAddr hix12 hf rfl rfl) rfl hf rfl rfl fun a hf => ?_
          refine q_val (fun w hO => ex_loadN (o := 0) (vs := [str x12.Name, str x12.Value]) ag_44 sz_44 (hSx12 _ (hO.sees (i := 1) rfl)) rfl rfl hf rfl) rfl hf rfl rfl fun a hf => ?_
          refine q_val (fun w hO => ex_move hf rfl) rfl hf rfl rfl fun a hf => ?_
          refine q_val (fun w hO => ex_move hf rfl) rfl hf rfl rfl fun a hf => ?_
          obtain ⟨x15, hx15, hm⟩ := ob hm
          obtain ⟨b16, o17, hix15, hSx15⟩ := elemAt (enc := enc_api_Field) (sz := 2) (xs := x_s2) 23 Tryz.underlying23 sz_44 (by decide) (fun _ => rfl) (hO.sees (i := 0) rfl) hx15
          refine q_val (fun w hO => ex_indexAddr hix15 hf rfl rfl) rfl hf rfl rfl fun a hf => ?_
          refine q_val (fun w hO => ex_loadN (o := 0) (vs := [str x15.Name, str x15.Value]) ag_44 sz_44 (hSx15 _ (hO.sees (i := 0) rfl)) rfl rfl hf rfl) rfl hf rfl rfl fun a hf => ?_
          refine q_val (fun w hO => ex_neq_t (by kernel_rfl) (eq_44 x12 x15) hf rfl rfl) rfl hf rfl rfl fun a hf => ?_
          refine wpQuiet_nil ?_
          intro w hO
          refine nor_then (hK18 _ _ ?_)
          refine wp_cond_cut hf rfl (fun hc19 => ?_) (fun hc19 => ?_)
          · have hm := it hc19 hm
            refine wp_seq_k fun _ hK20 => ?_
            refine wp_region_list ?_
            refine op_val (ex_assign hf rfl) rfl hf rfl rfl fun a hf => ?_
            refine wpList_nil ?_
            refine nor_then (hK20 _ _ ?_)
            refine wp_ret ?_
            refine ret_block ?_
            refine ret_then ?_
            refine ret_then ?_
            refine ret_block ?_
            refine ret_then ?_
            obtain rfl := Option.some.inj hm
            exact post_ret Tryz.results39 hf (.tmp rfl .nil) ⟨rfl, hO.below⟩
          · have hm := ie hc19 hm
            refine wp_skip ?_
            refine nor_block ?_
            refine nor_then (hK21 _ _ ?_)
            refine wp_region_list ?_
            obtain ⟨i22, hi22, hm⟩ := ob hm
            refine op_val (ex_add hf rfl rfl hi22) rfl hf rfl rfl fun a hf => ?_
            refine op_val (ex_move hf rfl) rfl hf rfl rfl fun a hf => ?_
            refine wpList_nil ?_
            refine nor_then ?_
            exact ⟨_, Nat.lt_succ_self _, i22, (hf.cons rfl (hf.cons rfl (hf.cons rfl (hf.cons rfl hf.nil)))), hO, hm⟩
        · have hm := ie hc9 hm
          refine wp_exit ?_
          refine exit_then ?_
          refine exit_then ?_
          refine exit_here ?_
          refine nor_then (hK23 _ _ ?_)
          refine wp_seq_k fun _ hK24 => ?_
          refine wp_region_list ?_
          refine op_val (ex_assign hf rfl) rfl hf rfl rfl fun a hf => ?_
          refine wpList_nil ?_
          refine nor_then (hK24 _ _ ?_)
          refine wp_ret ?_
          obtain rfl := Option.some.inj hm
          exact post_ret Tryz.results39 hf (.tmp rfl .nil) ⟨rfl, hO.below⟩
    · exact ⟨0, (hf.cons rfl (hf.cons rfl (hf.cons rfl (hf.cons rfl hf.nil)))), hO, hm⟩

set_option maxHeartbeats 1000000 in
theorem w_head_Same (x_a : api_Head) (x_b : api_Head) (R : Bool) (w0 : World) (hG : Glob w0) {x_a_p0 : Option Addr} {x_a_c0 : Nat} (hs0 : Sees w0 x_a_p0 (cells enc_api_Field x_a.Fields)) (hc0 : x_a.Fields.length ≤ x_a_c0) {x_b_p1 : Option Addr} {x_b_c1 : Nat} (hs1 : Sees w0 x_b_p1 (cells enc_api_Field x_b.Fields)) (hc1 : x_b.Fields.length ≤ x_b_c1) (hm : head_Same x_a x_b = some R) :
    Calls Tryz.prog 17 #[.agg #[int x_a.Kind, str x_a.Method, str x_a.Target, int x_a.Code, str x_a.Reason, int x_a.Minor, .slice x_a_p0 x_a.Fields.length x_a_c0], .agg #[int x_b.Kind, str x_b.Method, str x_b.Target, int x_b.Code, str x_b.Reason, int x_b.Minor, .slice x_b_p1 x_b.Fields.length x_b_c1]] w0 fun e w' => e = .returned (.bool R) ∧ Below w0.heap.size w0 w' := by
  rw [head_Same] at hm
  refine calls_enter (vs := [.agg #[int x_a.Kind, str x_a.Method, str x_a.Target, int x_a.Code, str x_a.Reason, int x_a.Minor, .slice x_a_p0 x_a.Fields.length x_a_c0], .agg #[int x_b.Kind, str x_b.Method, str x_b.Target, int x_b.Code, str x_b.Reason, int x_b.Minor, .slice x_b_p1 x_b.Fields.length x_b_c1]]) Tryz.func17 rfl Tryz.ntmps17 rfl fun a hf => ?_
  have hF : Away [] := away_nil
  have hO : Dk.Own w0 [] w0 [] := Dk.Own.refl w0
  have hO := hO.addShr hs0 (by simp [Res.shared])
  have hO := hO.addShr hs1 (by simp [Res.shared])
  refine wp_seq_k fun _ hK3 => ?_
  refine wp_region_list ?_
  refine op_box (v := .agg #[int x_a.Kind, str x_a.Method, str x_a.Target, int x_a.Code, str x_a.Reason, int x_a.Minor, .slice x_a_p0 x_a.Fields.length x_a_c0]) (cs := [int x_a.Kind, str x_a.Method, str x_a.Target, int x_a.Code, str x_a.Reason, int x_a.Minor, .slice x_a_p0 x_a.Fields.length x_a_c0]) rfl hf rfl rfl hO fun a b1 w hf hO => ?_
  refine op_box (v := .agg #[int x_b.Kind, str x_b.Method, str x_b.Target, int x_b.Code, str x_b.Reason, int x_b.Minor, .slice x_b_p1 x_b.Fields.length x_b_c1]) (cs := [int x_b.Kind, str x_b.Method, str x_b.Target, int x_b.Code, str x_b.Reason, int x_b.Minor, .slice x_b_p1 x_b.Fields.length x_b_c1]) rfl hf rfl rfl hO fun a b2 w hf hO => ?_
  refine op_val (ex_assign hf rfl) rfl hf rfl rfl fun a hf => ?_
  refine wpList_nil ?_
  refine nor_then (hK3 _ _ ?_)
  refine wp_seq_cut (fun a w => ∃ (t11 : Bool), Fits 52 [(4, .bool t11)] a ∧ Dk.Own w0 [] w [.blk b2 [int x_b.Kind, str x_b.Method, str x_b.Target, int x_b.Code, str x_b.Reason, int x_b.Minor, .slice x_b_p1 x_b.Fields.length x_b_c1] 25, .blk b1 [int x_a.Kind, str x_a.Method, str x_a.Target, int x_a.Code, str x_a.Reason, int x_a.Minor, .slice x_a_p0 x_a.Fields.length x_a_c0] 25, .shr x_b_p1 (cells enc_api_Field x_b.Fields), .shr x_a_p0 (cells enc_api_Field x_a.Fields)] ∧ head_Same_j1 t11 = some R) ?_ ?_
  · refine wp_region_list ?_
    refine op_val (ex_field fa_25_0 hf rfl) rfl hf rfl rfl fun a hf => ?_
    refine op_val (ex_load1 (o := 0) ag_22 (hO.blkSees (i := 1) rfl) rfl hf rfl) rfl hf rfl rfl fun a hf => ?_
    refine op_val (ex_field fa_25_0 hf rfl) rfl hf rfl rfl fun a hf => ?_
    refine op_val (ex_load1 (o := 0) ag_22 (hO.blkSees (i := 0) rfl) rfl hf rfl) rfl hf rfl rfl fun a hf => ?_
    refine op_val (ex_eql (m := x_a.Kind) (n := x_b.Kind) hf rfl rfl) rfl hf rfl rfl fun a hf => ?_
    refine op_val (ex_move hf rfl) rfl hf rfl rfl fun a hf => ?_
    rcases bcase (x_a.Kind == x_b.Kind) with hc4 | hc4
    · have hm := it hc4 hm
      refine op_guard rfl hf rfl rfl (hc4) ?_
      refine op_val (ex_field fa_25_1 hf rfl) rfl hf rfl rfl fun a hf => ?_
      refine op_guard rfl hf rfl rfl (hc4) ?_
      refine op_val (ex_load1 (o := 1) ag_9 (hO.blkSees (i := 1) rfl) rfl hf rfl) rfl hf rfl rfl fun a hf => ?_
      refine op_guard rfl hf rfl rfl (hc4) ?_
      refine op_val (ex_field fa_25_1 hf rfl) rfl hf rfl rfl fun a hf => ?_
      refine op_guard rfl hf rfl rfl (hc4) ?_
      refine op_val (ex_load1 (o := 1) ag_9 (hO.blkSees (i := 0) rfl) rfl hf rfl) rfl hf rfl rfl fun a hf => ?_
      refine op_guard rfl hf rfl rfl (hc4) ?_
      refine op_val (ex_eql_s (l := x_a.Method) (m := x_b.Method) hf rfl rfl) rfl hf rfl rfl fun a hf => ?_
      refine op_val (ex_pick_t hf rfl hc4 rfl) rfl hf rfl rfl fun a hf => ?_
      refine op_val (ex_move hf rfl) rfl hf rfl rfl fun a hf => ?_
      rcases bcase (x_a.Method == x_b.Method) with hc5 | hc5
      · have hm := it hc5 hm
        refine op_guard rfl hf rfl rfl (hc5) ?_
        refine op_val (ex_field fa_25_2 hf rfl) rfl hf rfl rfl fun a hf => ?_
        refine op_guard rfl hf rfl rfl (hc5) ?_
        refine op_val (ex_load1 (o := 2) ag_9 (hO.blkSees (i := 1) rfl) rfl hf rfl) rfl hf rfl rfl fun a hf => ?_
        refine op_guard rfl hf rfl rfl (hc5) ?_
        refine op_val (ex_field fa_25_2 hf rfl) rfl hf rfl rfl fun a hf => ?_
        refine op_guard rfl hf rfl rfl (hc5) ?_
        refine op_val (ex_load1 (o := 2) ag_9 (hO.blkSees (i := 0) rfl) rfl hf rfl) rfl hf rfl rfl fun a hf => ?_
        refine op_guard rfl hf rfl rfl (hc5) ?_
        refine op_val (ex_eql_s (l := x_a.Target) (m := x_b.Target) hf rfl rfl) rfl hf rfl rfl fun a hf => ?_
        refine op_val (ex_pick_t hf rfl hc5 rfl) rfl hf rfl rfl fun a hf => ?_
        refine op_val (ex_move hf rfl) rfl hf rfl rfl fun a hf => ?_
        rcases bcase (x_a.Target == x_b.Target) with hc6 | hc6
        · have hm := it hc6 hm
          refine op_guard rfl hf rfl rfl (hc6) ?_
          refine op_val (ex_field fa_25_5 hf rfl) rfl hf rfl rfl fun a hf => ?_
          refine op_guard rfl hf rfl rfl (hc6) ?_
          refine op_val (ex_load1 (o := 5) ag_3 (hO.blkSees (i := 1) rfl) rfl hf rfl) rfl hf rfl rfl fun a hf => ?_
          refine op_guard rfl hf rfl rfl (hc6) ?_
          refine op_val (ex_field fa_25_5 hf rfl) rfl hf rfl rfl fun a hf => ?_
          refine op_guard rfl hf rfl rfl (hc6) ?_
          refine op_val (ex_load1 (o := 5) ag_3 (hO.blkSees (i := 0) rfl) rfl hf rfl) rfl hf rfl rfl fun a hf => ?_
          refine op_guard rfl hf rfl rfl (hc6) ?_
          refine op_val (ex_eql (m := x_a.Minor) (n := x_b.Minor) hf rfl rfl) rfl hf rfl rfl fun a hf => ?_
          refine op_val (ex_pick_t hf rfl hc6 rfl) rfl hf rfl rfl fun a hf => ?_
          refine op_val (ex_move hf rfl) rfl hf rfl rfl fun a hf => ?_
          rcases bcase (x_a.Minor == x_b.Minor) with hc7 | hc7
          · have hm := it hc7 hm
            refine op_guard rfl hf rfl rfl (hc7) ?_
            refine op_val (ex_field fa_25_3 hf rfl) rfl hf rfl rfl fun a hf => ?_
            refine op_guard rfl hf rfl rfl (hc7) ?_
            refine op_val (ex_load1 (o := 3) ag_3 (hO.blkSees (i := 1) rfl) rfl hf rfl) rfl hf rfl rfl fun a hf => ?_
            refine op_guard rfl hf rfl rfl (hc7) ?_
            refine op_val (ex_field fa_25_3 hf rfl) rfl hf rfl rfl fun a hf => ?_
            refine op_guard rfl hf rfl rfl (hc7) ?_
            refine op_val (ex_load1 (o := 3) ag_3 (hO.blkSees (i := 0) rfl) rfl hf rfl) rfl hf rfl rfl fun a hf => ?_
            refine op_guard rfl hf rfl rfl (hc7) ?_
            refine op_val (ex_eql (m := x_a.Code) (n := x_b.Code) hf rfl rfl) rfl hf rfl rfl fun a hf => ?_
            refine op_val (ex_pick_t hf rfl hc7 rfl) rfl hf rfl rfl fun a hf => ?_
            refine op_val (ex_move hf rfl) rfl hf rfl rfl fun a hf => ?_
            rcases bcase (x_a.Code == x_b.Code) with hc8 | hc8
            · have hm := it hc8 hm
              refine op_guard rfl hf rfl rfl (hc8) ?_
              refine op_val (ex_field fa_25_4 hf rfl) rfl hf rfl rfl fun a hf => ?_
              refine op_guard rfl hf rfl rfl (hc8) ?_
              refine op_val (ex_load1 (o := 4) ag_9 (hO.blkSees (i := 1) rfl) rfl hf rfl) rfl hf rfl rfl fun a hf => ?_
              refine op_guard rfl hf rfl rfl (hc8) ?_
              refine op_val (ex_field fa_25_4 hf rfl) rfl hf rfl rfl fun a hf => ?_
              refine op_guard rfl hf rfl rfl (hc8) ?_
              refine op_val (ex_load1 (o := 4) ag_9 (hO.blkSees (i := 0) rfl) rfl hf rfl) rfl hf rfl rfl fun a hf => ?_
              refine op_guard rfl hf rfl rfl (hc8) ?_
              refine op_val (ex_eql_s (l := x_a.Reason) (m := x_b.Reason) hf rfl rfl) rfl hf rfl rfl fun a hf => ?_
              refine op_val (ex_pick_t hf rfl hc8 rfl) rfl hf rfl rfl fun a hf => ?_
              refine op_val (ex_move hf rfl) rfl hf rfl rfl fun a hf => ?_
              rcases bcase (x_a.Reason == x_b.Reason) with hc9 | hc9
              · have hm := it hc9 hm
                refine op_guard rfl hf rfl rfl (hc9) ?_
                refine op_val (ex_field fa_25_6 hf rfl) rfl hf rfl rfl fun a hf => ?_
                refine op_guard rfl hf rfl rfl (hc9) ?_
                refine op_val (ex_load1 (o := 6) ag_23 (hO.blkSees (i := 1) rfl) rfl hf rfl) rfl hf rfl rfl fun a hf => ?_
                refine op_guard rfl hf rfl rfl (hc9) ?_
                refine op_val (ex_field fa_25_6 hf rfl) rfl hf rfl rfl fun a hf => ?_
                refine op_guard rfl hf rfl rfl (hc9) ?_
                refine op_val (ex_load1 (o := 6) ag_23 (hO.blkSees (i := 0) rfl) rfl hf rfl) rfl hf rfl rfl fun a hf => ?_
                refine op_guard rfl hf rfl rfl (hc9) ?_
                obtain ⟨r10, hr10, hm⟩ := ob hm
                refine op_enter (ex_call c_39 hf (vs := [.slice x_a_p0 x_a.Fields.length x_a_c0, .slice x_b_p1 x_b.Fields.length x_b_c1]) rfl) rfl hf rfl rfl (w_slices_Equal_gapi_Field_api_Field_ x_a.Fields x_b.Fields r10 _ (hG.own hF hO) (hO.sees (i := 3) rfl) hc0 (hO.sees (i := 2) rfl) hc1 hr10) ?_
                rintro e w' ⟨he, hb⟩
                refine ⟨_, he, fun a hf => ?_⟩
                have hO := hO.grow hb
                refine op_val (ex_pick_t hf rfl hc9 rfl) rfl hf rfl rfl fun a hf => ?_
                refine op_val (ex_assign hf rfl) rfl hf rfl rfl fun a hf => ?_
                refine wpList_nil ?_
                refine nor_then ?_
                exact ⟨r10, (hf.cons rfl hf.nil), hO, hm⟩
              · have hm := ie hc9 hm
                refine op_pass rfl hf rfl rfl (hc9) rfl rfl fun a hf => ?_
                refine op_pass rfl hf rfl rfl (hc9) rfl rfl fun a hf => ?_
                refine op_pass rfl hf rfl rfl (hc9) rfl rfl fun a hf => ?_
                refine op_pass rfl hf rfl rfl (hc9) rfl rfl fun a hf => ?_
                refine op_pass rfl hf rfl rfl (hc9) rfl rfl fun a hf => ?_
                refine op_val (ex_pick_f hf rfl hc9 rfl) rfl hf rfl rfl fun a hf => ?_
                refine op_val (ex_assign hf rfl) rfl hf rfl rfl fun a hf => ?_
                refine wpList_nil ?_
                refine nor_then ?_
                exact ⟨false, (hf.cons rfl hf.nil), hO, hm⟩
            · have hm := ie hc8 hm
              refine op_pass rfl hf rfl rfl (hc8) rfl rfl fun a hf => ?_
              refine op_pass rfl hf rfl rfl (hc8) rfl rfl fun a hf => ?_
              refine op_pass rfl hf rfl rfl (hc8) rfl rfl fun a hf => ?_
              refine op_pass rfl hf rfl rfl (hc8) rfl rfl fun a hf => ?_
              refine op_pass rfl hf rfl rfl (hc8) rfl rfl fun a hf => ?_
              refine op_val (ex_pick_f hf rfl hc8 rfl) rfl hf rfl rfl fun a hf => ?_
              refine op_val (ex_move hf rfl) rfl hf rfl rfl fun a hf => ?_
              refine op_pass rfl hf rfl rfl (rfl) rfl rfl fun a hf => ?_
              refine op_pass rfl hf rfl rfl (rfl) rfl rfl fun a hf => ?_
              refine op_pass rfl hf rfl rfl (rfl) rfl rfl fun a hf => ?_
              refine op_pass rfl hf rfl rfl (rfl) rfl rfl fun a hf => ?_
              refine op_pass rfl hf rfl rfl (rfl) rfl rfl fun a hf => ?_
              refine op_val (ex_pick_f hf rfl rfl rfl) rfl hf rfl rfl fun a hf => ?_
              refine op_val (ex_assign hf rfl) rfl hf rfl rfl fun a hf => ?_
              refine wpList_nil ?_
              refine nor_then ?_
              exact ⟨false, (hf.cons rfl hf.nil), hO, hm⟩
          · have hm := ie hc7 hm
            refine op_pass rfl hf rfl rfl (hc7) rfl rfl fun a hf => ?_
            refine op_pass rfl hf rfl rfl (hc7) rfl rfl fun a hf => ?_
            refine op_pass rfl hf rfl rfl (hc7) rfl rfl fun a hf => ?_
            refine op_pass rfl hf rfl rfl (hc7) rfl rfl fun a hf => ?_
            refine op_pass rfl hf rfl rfl (hc7) rfl rfl fun a hf => ?_
            refine op_val (ex_pick_f hf rfl hc7 rfl) rfl hf rfl rfl fun a hf => ?_
            refine op_val (ex_move hf rfl) rfl hf rfl rfl fun a hf => ?_
            refine op_pass rfl hf rfl rfl (rfl) rfl rfl fun a hf => ?_
            refine op_pass rfl hf rfl rfl (rfl) rfl rfl fun a hf => ?_
            refine op_pass rfl hf rfl rfl (rfl) rfl rfl fun a hf => ?_
            refine op_pass rfl hf rfl rfl (rfl) rfl rfl fun a hf => ?_
            refine op_pass rfl hf rfl rfl (rfl) rfl rfl fun a hf => ?_
            refine op_val (ex_pick_f hf rfl rfl rfl) rfl hf rfl rfl fun a hf => ?_
            refine op_val (ex_move hf rfl) rfl hf rfl rfl fun a hf => ?_
            refine op_pass rfl hf rfl rfl (rfl) rfl rfl fun a hf => ?_
            refine op_pass rfl hf rfl rfl (rfl) rfl rfl fun a hf => ?_
            refine op_pass rfl hf rfl rfl (rfl) rfl rfl fun a hf => ?_
            refine op_pass rfl hf rfl rfl (rfl) rfl rfl fun a hf => ?_
            refine op_pass rfl hf rfl rfl (rfl) rfl rfl fun a hf => ?_
            refine op_val (ex_pick_f hf rfl rfl rfl) rfl hf rfl rfl fun a hf => ?_
            refine op_val (ex_assign hf rfl) rfl hf rfl rfl fun a hf => ?_
            refine wpList_nil ?_
            refine nor_then ?_
            exact ⟨false, (hf.cons rfl hf.nil), hO, hm⟩
        · have hm := ie hc6 hm
          refine op_pass rfl hf rfl rfl (hc6) rfl rfl fun a hf => ?_
          refine op_pass rfl hf rfl rfl (hc6) rfl rfl fun a hf => ?_
          refine op_pass rfl hf rfl rfl (hc6) rfl rfl fun a hf => ?_
          refine op_pass rfl hf rfl rfl (hc6) rfl rfl fun a hf => ?_
          refine op_pass rfl hf rfl rfl (hc6) rfl rfl fun a hf => ?_
          refine op_val (ex_pick_f hf rfl hc6 rfl) rfl hf rfl rfl fun a hf => ?_
          refine op_val (ex_move hf rfl) rfl hf rfl rfl fun a hf => ?_
          refine op_pass rfl hf rfl rfl (rfl) rfl rfl fun a hf => ?_
          refine op_pass rfl hf rfl rfl (rfl) rfl rfl fun a hf => ?_
          refine op_pass rfl hf rfl rfl (rfl) rfl rfl fun a hf => ?_
          refine op_pass rfl hf rfl rfl (rfl) rfl rfl fun a hf => ?_
          refine op_pass rfl hf rfl rfl (rfl) rfl rfl fun a hf => ?_
          refine op_val (ex_pick_f hf rfl rfl rfl) rfl hf rfl rfl fun a hf => ?_
          refine op_val (ex_move hf rfl) rfl hf rfl rfl fun a hf => ?_
          refine op_pass rfl hf rfl rfl (rfl) rfl rfl fun a hf => ?_
          refine op_pass rfl hf rfl rfl (rfl) rfl rfl fun a hf => ?_
          refine op_pass rfl hf rfl rfl (rfl) rfl rfl fun a hf => ?_
          refine op_pass rfl hf rfl rfl (rfl) rfl rfl fun a hf => ?_
          refine op_pass rfl hf rfl rfl (rfl) rfl rfl fun a hf => ?_
          refine op_val (ex_pick_f hf rfl rfl rfl) rfl hf rfl rfl fun a hf => ?_
          refine op_val (ex_move hf rfl) rfl hf rfl rfl fun a hf => ?_
          refine op_pass rfl hf rfl rfl (rfl) rfl rfl fun a hf => ?_
          refine op_pass rfl hf rfl rfl (rfl) rfl rfl fun a hf => ?_
          refine op_pass rfl hf rfl rfl (rfl) rfl rfl fun a hf => ?_
          refine op_pass rfl hf rfl rfl (rfl) rfl rfl fun a hf => ?_
          refine op_pass rfl hf rfl rfl (rfl) rfl rfl fun a hf => ?_
          refine op_val (ex_pick_f hf rfl rfl rfl) rfl hf rfl rfl fun a hf => ?_
          refine op_val (ex_assign hf rfl) rfl hf rfl rfl fun a hf => ?_
          refine wpList_nil ?_
          refine nor_then ?_
          exact ⟨false, (hf.cons rfl hf.nil), hO, hm⟩
      · have hm := ie hc5 hm
        refine op_pass rfl hf rfl rfl (hc5) rfl rfl fun a hf => ?_
        refine op_pass rfl hf rfl rfl (hc5) rfl rfl fun a hf => ?_
        refine op_pass rfl hf rfl rfl (hc5) rfl rfl fun a hf => ?_
        refine op_pass rfl hf rfl rfl (hc5) rfl rfl fun a hf => ?_
        refine op_pass rfl hf rfl rfl (hc5) rfl rfl fun a hf => ?_
        refine op_val (ex_pick_f hf rfl hc5 rfl) rfl hf rfl rfl fun a hf => ?_
        refine op_val (ex_move hf rfl) rfl hf rfl rfl fun a hf => ?_
        refine op_pass rfl hf rfl rfl (rfl) rfl rfl fun a hf => ?_
        refine op_pass rfl hf rfl rfl (rfl) rfl rfl fun a hf => ?_
        refine op_pass rfl hf rfl rfl (rfl) rfl rfl fun a hf => ?_
        refine op_pass rfl hf rfl rfl (rfl) rfl rfl fun a hf => ?_
        refine op_pass rfl hf rfl rfl (rfl) rfl rfl fun a hf => ?_
        refine op_val (ex_pick_f hf rfl rfl rfl) rfl hf rfl rfl fun a hf => ?_
        refine op_val (ex_move hf rfl) rfl hf rfl rfl fun a hf => ?_
        refine op_pass rfl hf rfl rfl (rfl) rfl rfl fun a hf => ?_
        refine op_pass rfl hf rfl rfl (rfl) rfl rfl fun a hf => ?_
        refine op_pass rfl hf rfl rfl (rfl) rfl rfl fun a hf => ?_
        refine op_pass rfl hf rfl rfl (rfl) rfl rfl fun a hf => ?_
        refine op_pass rfl hf rfl rfl (rfl) rfl rfl fun a hf => ?_
        refine op_val (ex_pick_f hf rfl rfl rfl) rfl hf rfl rfl fun a hf => ?_
        refine op_val (ex_move hf rfl) rfl hf rfl rfl fun a hf => ?_
        refine op_pass rfl hf rfl rfl (rfl) rfl rfl fun a hf => ?_
        refine op_pass rfl hf rfl rfl (rfl) rfl rfl fun a hf => ?_
        refine op_pass rfl hf rfl rfl (rfl) rfl rfl fun a hf => ?_
        refine op_pass rfl hf rfl rfl (rfl) rfl rfl fun a hf => ?_
        refine op_pass rfl hf rfl rfl (rfl) rfl rfl fun a hf => ?_
        refine op_val (ex_pick_f hf rfl rfl rfl) rfl hf rfl rfl fun a hf => ?_
        refine op_val (ex_move hf rfl) rfl hf rfl rfl fun a hf => ?_
        refine op_pass rfl hf rfl rfl (rfl) rfl rfl fun a hf => ?_
        refine op_pass rfl hf rfl rfl (rfl) rfl rfl fun a hf => ?_
        refine op_pass rfl hf rfl rfl (rfl) rfl rfl fun a hf => ?_
        refine op_pass rfl hf rfl rfl (rfl) rfl rfl fun a hf => ?_
        refine op_pass rfl hf rfl rfl (rfl) rfl rfl fun a hf => ?_
        refine op_val (ex_pick_f hf rfl rfl rfl) rfl hf rfl rfl fun a hf => ?_
        refine op_val (ex_assign hf rfl) rfl hf rfl rfl fun a hf => ?_
        refine wpList_nil ?_
        refine nor_then ?_
        exact ⟨false, (hf.cons rfl hf.nil), hO, hm⟩
    · have hm := ie hc4 hm
      refine op_pass rfl hf rfl rfl (hc4) rfl rfl fun a hf => ?_
      refine op_pass rfl hf rfl rfl (hc4) rfl rfl fun a hf => ?_
      refine op_pass rfl hf rfl rfl (hc4) rfl rfl fun a hf => ?_
      refine op_pass rfl hf rfl rfl (hc4) rfl rfl fun a hf => ?_
      refine op_pass rfl hf rfl rfl (hc4) rfl rfl fun a hf => ?_
      refine op_val (ex_pick_f hf rfl hc4 rfl) rfl hf rfl rfl fun a hf => ?_
      refine op_val (ex_move hf rfl) rfl hf rfl rfl fun a hf => ?_
      refine op_pass rfl hf rfl rfl (rfl) rfl rfl fun a hf => ?_
      refine op_pass rfl hf rfl rfl (rfl) rfl rfl fun a hf => ?_
      refine op_pass rfl hf rfl rfl (rfl) rfl rfl fun a hf => ?_
      refine op_pass rfl hf rfl rfl (rfl) rfl rfl fun a hf => ?_
      refine op_pass rfl hf rfl rfl (rfl) rfl rfl fun a hf => ?_
      refine op_val (ex_pick_f hf rfl rfl rfl) rfl hf rfl rfl fun a hf => ?_
      refine op_val (ex_move hf rfl) rfl hf rfl rfl fun a hf => ?_
      refine op_pass rfl hf rfl rfl (rfl) rfl rfl fun a hf => ?_
      refine op_pass rfl hf rfl rfl (rfl) rfl rfl fun a hf => ?_
      refine op_pass rfl hf rfl rfl (rfl) rfl rfl fun a hf => ?_
      refine op_pass rfl hf rfl rfl (rfl) rfl rfl fun a hf => ?_
      refine op_pass rfl hf rfl rfl (rfl) rfl rfl fun a hf => ?_
      refine op_val (ex_pick_f hf rfl rfl rfl) rfl hf rfl rfl fun a hf => ?_
      refine op_val (ex_move hf rfl) rfl hf rfl rfl fun a hf => ?_
      refine op_pass rfl hf rfl rfl (rfl) rfl rfl fun a hf => ?_
      refine op_pass rfl hf rfl rfl (rfl) rfl rfl fun a hf => ?_
      refine op_pass rfl hf rfl rfl (rfl) rfl rfl fun a hf => ?_
      refine op_pass rfl hf rfl rfl (rfl) rfl rfl fun a hf => ?_
      refine op_pass rfl hf rfl rfl (rfl) rfl rfl fun a hf => ?_
      refine op_val (ex_pick_f hf rfl rfl rfl) rfl hf rfl rfl fun a hf => ?_
      refine op_val (ex_move hf rfl) rfl hf rfl rfl fun a hf => ?_
      refine op_pass rfl hf rfl rfl (rfl) rfl rfl fun a hf => ?_
      refine op_pass rfl hf rfl rfl (rfl) rfl rfl fun a hf => ?_
      refine op_pass rfl hf rfl rfl (rfl) rfl rfl fun a hf => ?_
      refine op_pass rfl hf rfl rfl (rfl) rfl rfl fun a hf => ?_
      refine op_pass rfl hf rfl rfl (rfl) rfl rfl fun a hf => ?_
      refine op_val (ex_pick_f hf rfl rfl rfl) rfl hf rfl rfl fun a hf => ?_
      refine op_val (ex_move hf rfl) rfl hf rfl rfl fun a hf => ?_
      refine op_pass rfl hf rfl rfl (rfl) rfl rfl fun a hf => ?_
      refine op_pass rfl hf rfl rfl (rfl) rfl rfl fun a hf => ?_
      refine op_pass rfl hf rfl rfl (rfl) rfl rfl fun a hf => ?_
      refine op_pass rfl hf rfl rfl (rfl) rfl rfl fun a hf => ?_
      refine op_pass rfl hf rfl rfl (rfl) rfl rfl fun a hf => ?_
      refine op_val (ex_pick_f hf rfl rfl rfl) rfl hf rfl rfl fun a hf => ?_
      refine op_val (ex_assign hf rfl) rfl hf rfl rfl fun a hf => ?_
      refine wpList_nil ?_
      refine nor_then ?_
      exact ⟨false, (hf.cons rfl hf.nil), hO, hm⟩
  · rintro a w ⟨t11, hf, hO, hm⟩
    rw [head_Same_j1] at hm
    refine wp_ret ?_
    obtain rfl := Option.some.inj hm
    exact post_ret Tryz.results17 hf (.tmp rfl .nil) ⟨rfl, hO.below⟩

set_option maxHeartbeats 1000000 in
theorem w_law15_HeadSame (x_a : api_Head) (x_b : api_Head) (R : Bool) (w0 : World) (hG : GlobT w0) {x_a_p0 : Option Addr} {x_a_c0 : Nat} (hs0 : Sees w0 x_a_p0 (cells enc_api_Field x_a.Fields)) (hc0 : x_a.Fields.length ≤ x_a_c0) {x_b_p1 : Option Addr} {x_b_c1 : Nat} (hs1 : Sees w0 x_b_p1 (cells enc_api_Field x_b.Fields)) (hc1 : x_b.Fields.length ≤ x_b_c1) (hm : law15_HeadSame x_a x_b = some R) :
    Calls Tryz.prog 6 #[.agg #[int x_a.Kind, str x_a.Method, str x_a.Target, int x_a.Code, str x_a.Reason, int x_a.Minor, .slice x_a_p0 x_a.Fields.length x_a_c0], .agg #[int x_b.Kind, str x_b.Method, str x_b.Target, int x_b.Code, str x_b.Reason, int x_b.Minor, .slice x_b_p1 x_b.Fields.length x_b_c1]] w0 fun e w' => e = .returned (.bool R) ∧ Below w0.heap.size w0 w' := by
  rw [law15_HeadSame] at hm
  refine calls_enter (vs := [.agg #[int x_a.Kind, str x_a.Method, str x_a.Target, int x_a.Code, str x_a.Reason, int x_a.Minor, .slice x_a_p0 x_a.Fields.length x_a_c0], .agg #[int x_b.Kind, str x_b.Method, str x_b.Target, int x_b.Code, str x_b.Reason, int x_b.Minor, .slice x_b_p1 x_b.Fields.length x_b_c1]]) Tryz.func6 rfl Tryz.ntmps6 rfl fun a hf => ?_
  have hF : Away [] := away_nil
  have hO : Dk.Own w0 [] w0 [] := Dk.Own.refl w0
  have hO := hO.addShr hs0 (by simp [Res.shared])
  have hO := hO.addShr hs1 (by simp [Res.shared])
  refine wp_seq_k fun _ hK3 => ?_
  refine wp_region_list ?_
  refine op_box (v := .agg #[int x_a.Kind, str x_a.Method, str x_a.Target, int x_a.Code, str x_a.Reason, int x_a.Minor, .slice x_a_p0 x_a.Fields.length x_a_c0]) (cs := [int x_a.Kind, str x_a.Method, str x_a.Target, int x_a.Code, str x_a.Reason, int x_a.Minor, .slice x_a_p0 x_a.Fields.length x_a_c0]) rfl hf rfl rfl hO fun a b1 w hf hO => ?_
  refine op_box (v := .agg #[int x_b.Kind, str x_b.Method, str x_b.Target, int x_b.Code, str x_b.Reason, int x_b.Minor, .slice x_b_p1 x_b.Fields.length x_b_c1]) (cs := [int x_b.Kind, str x_b.Method, str x_b.Target, int x_b.Code, str x_b.Reason, int x_b.Minor, .slice x_b_p1 x_b.Fields.length x_b_c1]) rfl hf rfl rfl hO fun a b2 w hf hO => ?_
  refine op_val (ex_assign hf rfl) rfl hf rfl rfl fun a hf => ?_
  refine wpList_nil ?_
  refine nor_then (hK3 _ _ ?_)
  refine wp_seq_k fun _ hK8 => ?_
  refine wp_seq_k fun _ hK5 => ?_
  refine wp_region_list ?_
  obtain ⟨r4, hr4, hm⟩ := ob hm
  refine op_enter (ex_call c_7 hf (vs := []) rfl) rfl hf rfl rfl (w_law15_awake r4 _ (hG.own hF hO) hr4) ?_
  rintro e w' ⟨he, hb⟩
  refine ⟨_, he, fun a hf => ?_⟩
  have hO := hO.grow hb
  refine op_val (ex_not hf rfl) rfl hf rfl rfl fun a hf => ?_
  refine wpList_nil ?_
  refine nor_then (hK5 _ _ ?_)
  refine wp_cond_cut hf rfl (fun hc6 => ?_) (fun hc6 => ?_)
  · have hm := it hc6 hm
    refine wp_seq_k fun _ hK7 => ?_
    refine wp_region_list ?_
    refine op_val (ex_assign hf rfl) rfl hf rfl rfl fun a hf => ?_
    refine wpList_nil ?_
    refine nor_then (hK7 _ _ ?_)
    refine wp_ret ?_
    refine ret_then ?_
    obtain rfl := Option.some.inj hm
    exact post_ret Tryz.results6 hf (.tmp rfl .nil) ⟨rfl, hO.below⟩
  · have hm := ie hc6 hm
    refine wp_skip ?_
    refine nor_then (hK8 _ _ ?_)
    refine wp_seq_k fun _ hK15 => ?_
    obtain ⟨r9, hr9, hm⟩ := ob hm
    obtain ⟨r12, hr12, hm⟩ := ob hm
    refine wp_drawS' (S := Option Addr × Nat × Option Addr × Nat) (E0 := [(2, ptr b1 0), (3, ptr b2 0)]) (by kernel_rfl) (fun k σ w => match k with | 0 => Dk.Own w0 [] w [.blk b2 [int x_b.Kind, str x_b.Method, str x_b.Target, int x_b.Code, str x_b.Reason, int x_b.Minor, .slice x_b_p1 x_b.Fields.length x_b_c1] 25, .blk b1 [int x_a.Kind, str x_a.Method, str x_a.Target, int x_a.Code, str x_a.Reason, int x_a.Minor, .slice x_a_p0 x_a.Fields.length x_a_c0] 25, .shr x_b_p1 (cells enc_api_Field x_b.Fields), .shr x_a_p0 (cells enc_api_Field x_a.Fields)] | 1 => Dk.Own w0 [] w [.row (.slice (σ.1) r9.Fields.length (σ.2.1)) 44 2 r9.Fields.length (cells enc_api_Field r9.Fields), .blk b2 [int x_b.Kind, str x_b.Method, str x_b.Target, int x_b.Code, str x_b.Reason, int x_b.Minor, .slice x_b_p1 x_b.Fields.length x_b_c1] 25, .blk b1 [int x_a.Kind, str x_a.Method, str x_a.Target, int x_a.Code, str x_a.Reason, int x_a.Minor, .slice x_a_p0 x_a.Fields.length x_a_c0] 25, .shr x_b_p1 (cells enc_api_Field x_b.Fields), .shr x_a_p0 (cells enc_api_Field x_a.Fields)] | 2 => Dk.Own w0 [] w [.row (.slice (σ.2.2.1) r12.Fields.length (σ.2.2.2)) 44 2 r12.Fields.length (cells enc_api_Field r12.Fields), .row (.slice (σ.1) r9.Fields.length (σ.2.1)) 44 2 r9.Fields.length (cells enc_api_Field r9.Fields), .blk b2 [int x_b.Kind, str x_b.Method, str x_b.Target, int x_b.Code, str x_b.Reason, int x_b.Minor, .slice x_b_p1 x_b.Fields.length x_b_c1] 25, .blk b1 [int x_a.Kind, str x_a.Method, str x_a.Target, int x_a.Code, str x_a.Reason, int x_a.Minor, .slice x_a_p0 x_a.Fields.length x_a_c0] 25, .shr x_b_p1 (cells enc_api_Field x_b.Fields), .shr x_a_p0 (cells enc_api_Field x_a.Fields)] | 3 => Dk.Own w0 [] w [.row (.slice (σ.2.2.1) r12.Fields.length (σ.2.2.2)) 44 2 r12.Fields.length (cells enc_api_Field r12.Fields), .row (.slice (σ.1) r9.Fields.length (σ.2.1)) 44 2 r9.Fields.length (cells enc_api_Field r9.Fields), .blk b2 [int x_b.Kind, str x_b.Method, str x_b.Target, int x_b.Code, str x_b.Reason, int x_b.Minor, .slice x_b_p1 x_b.Fields.length x_b_c1] 25, .blk b1 [int r9.Kind, str r9.Method, str r9.Target, int r9.Code, str r9.Reason, int r9.Minor, .slice (σ.1) r9.Fields.length (σ.2.1)] 25, .shr x_b_p1 (cells enc_api_Field x_b.Fields), .shr x_a_p0 (cells enc_api_Field x_a.Fields)] | _ => Dk.Own w0 [] w [.row (.slice (σ.2.2.1) r12.Fields.length (σ.2.2.2)) 44 2 r12.Fields.length (cells enc_api_Field r12.Fields), .row (.slice (σ.1) r9.Fields.length (σ.2.1)) 44 2 r9.Fields.length (cells enc_api_Field r9.Fields), .blk b2 [int r12.Kind, str r12.Method, str r12.Target, int r12.Code, str r12.Reason, int r12.Minor, .slice (σ.2.2.1) r12.Fields.length (σ.2.2.2)] 25, .blk b1 [int r9.Kind, str r9.Method, str r9.Target, int r9.Code, str r9.Reason, int r9.Minor, .slice (σ.1) r9.Fields.length (σ.2.1)] 25, .shr x_b_p1 (cells enc_api_Field x_b.Fields), .shr x_a_p0 (cells enc_api_Field x_a.Fields)]) (fun σ => [⟨[(2, ptr b1 0)], some (7, .agg #[int x_a.Kind, str x_a.Method, str x_a.Target, int x_a.Code, str x_a.Reason, int x_a.Minor, .slice x_a_p0 x_a.Fields.length x_a_c0])⟩, ⟨[(7, .agg #[int x_a.Kind, str x_a.Method, str x_a.Target, int x_a.Code, str x_a.Reason, int x_a.Minor, .slice x_a_p0 x_a.Fields.length x_a_c0])], some (8, .agg #[int r9.Kind, str r9.Method, str r9.Target, int r9.Code, str r9.Reason, int r9.Minor, .slice (σ.1) r9.Fields.length (σ.2.1)])⟩, ⟨[(3, ptr b2 0)], some (9, .agg #[int x_b.Kind, str x_b.Method, str x_b.Target, int x_b.Code, str x_b.Reason, int x_b.Minor, .slice x_b_p1 x_b.Fields.length x_b_c1])⟩, ⟨[(9, .agg #[int x_b.Kind, str x_b.Method, str x_b.Target, int x_b.Code, str x_b.Reason, int x_b.Minor, .slice x_b_p1 x_b.Fields.length x_b_c1])], some (10, .agg #[int r12.Kind, str r12.Method, str r12.Target, int r12.Code, str r12.Reason, int r12.Minor, .slice (σ.2.2.1) r12.Fields.length (σ.2.2.2)])⟩, ⟨[(2, ptr b1 0), (8, .agg #[int r9.Kind, str r9.Method, str r9.Target, int r9.Code, str r9.Reason, int r9.Minor, .slice (σ.1) r9.Fields.length (σ.2.1)])], none⟩, ⟨[(3, ptr b2 0), (10, .agg #[int r12.Kind, str r12.Method, str r12.Target, int r12.Code, str r12.Reason, int r12.Minor, .slice (σ.2.2.1) r12.Fields.length (σ.2.2.2)])], none⟩]) (none, 0, none, 0) [1, 3, 4, 5] rfl (fun _ => rfl) (fun _ => rfl) (fun _ => rfl) rfl rfl (by decide) rfl hO.drew (hf.cons rfl (hf.cons rfl hf.nil)) (fun σ => ⟨⟨rfl, trivial⟩, ⟨⟨rfl, trivial⟩, ⟨⟨rfl, trivial⟩, ⟨⟨rfl, trivial⟩, ⟨⟨rfl, ⟨rfl, trivial⟩⟩, ⟨⟨rfl, ⟨rfl, trivial⟩⟩, trivial⟩⟩⟩⟩⟩⟩) ⟨sS_pure rfl (fun σ => rfl) (fun σ => rfl) (fun σ a w k hk hlo hup hst hf => match k, hk, hlo, hup, hst, hf with | 0, _, _, _, hst, hf => have hO : Dk.Own w0 [] w [.blk b2 [int x_b.Kind, str x_b.Method, str x_b.Target, int x_b.Code, str x_b.Reason, int x_b.Minor, .slice x_b_p1 x_b.Fields.length x_b_c1] 25, .blk b1 [int x_a.Kind, str x_a.Method, str x_a.Target, int x_a.Code, str x_a.Reason, int x_a.Minor, .slice x_a_p0 x_a.Fields.length x_a_c0] 25, .shr x_b_p1 (cells enc_api_Field x_b.Fields), .shr x_a_p0 (cells enc_api_Field x_a.Fields)] := hst; ex_loadN (o := 0) (vs := [int x_a.Kind, str x_a.Method, str x_a.Target, int x_a.Code, str x_a.Reason, int x_a.Minor, .slice x_a_p0 x_a.Fields.length x_a_c0]) ag_25 sz_25 (hO.blkSees (i := 1) rfl) rfl rfl hf rfl | 1, _, _, _, hst, hf => have hO : Dk.Own w0 [] w [.row (.slice (σ.1) r9.Fields.length (σ.2.1)) 44 2 r9.Fields.length (cells enc_api_Field r9.Fields), .blk b2 [int x_b.Kind, str x_b.Method, str x_b.Target, int x_b.Code, str x_b.Reason, int x_b.Minor, .slice x_b_p1 x_b.Fields.length x_b_c1] 25, .blk b1 [int x_a.Kind, str x_a.Method, str x_a.Target, int x_a.Code, str x_a.Reason, int x_a.Minor, .slice x_a_p0 x_a.Fields.length x_a_c0] 25, .shr x_b_p1 (cells enc_api_Field x_b.Fields), .shr x_a_p0 (cells enc_api_Field x_a.Fields)] := hst; ex_loadN (o := 0) (vs := [int x_a.Kind, str x_a.Method, str x_a.Target, int x_a.Code, str x_a.Reason, int x_a.Minor, .slice x_a_p0 x_a.Fields.length x_a_c0]) ag_25 sz_25 (hO.blkSees (i := 2) rfl) rfl rfl hf rfl | 2, _, _, _, hst, hf => have hO : Dk.Own w0 [] w [.row (.slice (σ.2.2.1) r12.Fields.length (σ.2.2.2)) 44 2 r12.Fields.length (cells enc_api_Field r12.Fields), .row (.slice (σ.1) r9.Fields.length (σ.2.1)) 44 2 r9.Fields.length (cells enc_api_Field r9.Fields), .blk b2 [int x_b.Kind, str x_b.Method, str x_b.Target, int x_b.Code, str x_b.Reason, int x_b.Minor, .slice x_b_p1 x_b.Fields.length x_b_c1] 25, .blk b1 [int x_a.Kind, str x_a.Method, str x_a.Target, int x_a.Code, str x_a.Reason, int x_a.Minor, .slice x_a_p0 x_a.Fields.length x_a_c0] 25, .shr x_b_p1 (cells enc_api_Field x_b.Fields), .shr x_a_p0 (cells enc_api_Field x_a.Fields)] := hst; ex_loadN (o := 0) (vs := [int x_a.Kind, str x_a.Method, str x_a.Target, int x_a.Code, str x_a.Reason, int x_a.Minor, .slice x_a_p0 x_a.Fields.length x_a_c0]) ag_25 sz_25 (hO.blkSees (i := 3) rfl) rfl rfl hf rfl | 3, _, _, hup, _, _ => absurd (hup 0 (by decide) (by kernel_rfl)) (by decide) | 4, _, _, hup, _, _ => absurd (hup 0 (by decide) (by kernel_rfl)) (by decide) | k + 5, hk, _, _, _, _ => absurd hk (by simp)), ⟨sS_call rfl (fun σ => rfl) (fun σ => rfl) rfl (fun σ a w (_ : _) hf => ex_call c_8 hf (vs := [.agg #[int x_a.Kind, str x_a.Method, str x_a.Target, int x_a.Code, str x_a.Reason, int x_a.Minor, .slice x_a_p0 x_a.Fields.length x_a_c0]]) rfl) (fun σ w (hO : Dk.Own w0 [] w [.blk b2 [int x_b.Kind, str x_b.Method, str x_b.Target, int x_b.Code, str x_b.Reason, int x_b.Minor, .slice x_b_p1 x_b.Fields.length x_b_c1] 25, .blk b1 [int x_a.Kind, str x_a.Method, str x_a.Target, int x_a.Code, str x_a.Reason, int x_a.Minor, .slice x_a_p0 x_a.Fields.length x_a_c0] 25, .shr x_b_p1 (cells enc_api_Field x_b.Fields), .shr x_a_p0 (cells enc_api_Field x_a.Fields)]) => (w_law15_Few x_a r9 _ (hG.own hF hO).1 (hO.sees (i := 3) rfl) hc0 hr9).mono fun e w' h => by obtain ⟨p10, c11, he, hO'⟩ := h; exact ⟨(p10, c11, (σ.2.2.1), (σ.2.2.2)), he, hO.call hO' (by simp [Res.shared]), ⟨.inr rfl, ⟨.inl rfl, ⟨.inr rfl, ⟨.inr rfl, ⟨.inl rfl, ⟨.inr rfl, trivial⟩⟩⟩⟩⟩⟩⟩), ⟨sS_pure rfl (fun σ => rfl) (fun σ => rfl) (fun σ a w k hk hlo hup hst hf => match k, hk, hlo, hup, hst, hf with | 0, _, _, _, hst, hf => have hO : Dk.Own w0 [] w [.blk b2 [int x_b.Kind, str x_b.Method, str x_b.Target, int x_b.Code, str x_b.Reason, int x_b.Minor, .slice x_b_p1 x_b.Fields.length x_b_c1] 25, .blk b1 [int x_a.Kind, str x_a.Method, str x_a.Target, int x_a.Code, str x_a.Reason, int x_a.Minor, .slice x_a_p0 x_a.Fields.length x_a_c0] 25, .shr x_b_p1 (cells enc_api_Field x_b.Fields), .shr x_a_p0 (cells enc_api_Field x_a.Fields)] := hst; ex_loadN (o := 0) (vs := [int x_b.Kind, str x_b.Method, str x_b.Target, int x_b.Code, str x_b.Reason, int x_b.Minor, .slice x_b_p1 x_b.Fields.length x_b_c1]) ag_25 sz_25 (hO.blkSees (i := 0) rfl) rfl rfl hf rfl | 1, _, _, _, hst, hf => have hO : Dk.Own w0 [] w [.row (.slice (σ.1) r9.Fields.length (σ.2.1)) 44 2 r9.Fields.length (cells enc_api_Field r9.Fields), .blk b2 [int x_b.Kind, str x_b.Method, str x_b.Target, int x_b.Code, str x_b.Reason, int x_b.Minor, .slice x_b_p1 x_b.Fields.length x_b_c1] 25, .blk b1 [int x_a.Kind, str x_a.Method, str x_a.Target, int x_a.Code, str x_a.Reason, int x_a.Minor, .slice x_a_p0 x_a.Fields.length x_a_c0] 25, .shr x_b_p1 (cells enc_api_Field x_b.Fields), .shr x_a_p0 (cells enc_api_Field x_a.Fields)] := hst; ex_loadN (o := 0) (vs := [int x_b.Kind, str x_b.Method, str x_b.Target, int x_b.Code, str x_b.Reason, int x_b.Minor, .slice x_b_p1 x_b.Fields.length x_b_c1]) ag_25 sz_25 (hO.blkSees (i := 1) rfl) rfl rfl hf rfl | 2, _, _, _, hst, hf => have hO : Dk.Own w0 [] w [.row (.slice (σ.2.2.1) r12.Fields.length (σ.2.2.2)) 44 2 r12.Fields.length (cells enc_api_Field r12.Fields), .row (.slice (σ.1) r9.Fields.length (σ.2.1)) 44 2 r9.Fields.length (cells enc_api_Field r9.Fields), .blk b2 [int x_b.Kind, str x_b.Method, str x_b.Target, int x_b.Code, str x_b.Reason, int x_b.Minor, .slice x_b_p1 x_b.Fields.length x_b_c1] 25, .blk b1 [int x_a.Kind, str x_a.Method, str x_a.Target, int x_a.Code, str x_a.Reason, int x_a.Minor, .slice x_a_p0 x_a.Fields.length x_a_c0] 25, .shr x_b_p1 (cells enc_api_Field x_b.Fields), .shr x_a_p0 (cells enc_api_Field x_a.Fields)] := hst; ex_loadN (o := 0) (vs := [int x_b.Kind, str x_b.Method, str x_b.Target, int x_b.Code, str x_b.Reason, int x_b.Minor, .slice x_b_p1 x_b.Fields.length x_b_c1]) ag_25 sz_25 (hO.blkSees (i := 2) rfl) rfl rfl hf rfl | 3, _, _, _, hst, hf => have hO : Dk.Own w0 [] w [.row (.slice (σ.2.2.1) r12.Fields.length (σ.2.2.2)) 44 2 r12.Fields.length (cells enc_api_Field r12.Fields), .row (.slice (σ.1) r9.Fields.length (σ.2.1)) 44 2 r9.Fields.length (cells enc_api_Field r9.Fields), .blk b2 [int x_b.Kind, str x_b.Method, str x_b.Target, int x_b.Code, str x_b.Reason, int x_b.Minor, .slice x_b_p1 x_b.Fields.length x_b_c1] 25, .blk b1 [int r9.Kind, str r9.Method, str r9.Target, int r9.Code, str r9.Reason, int r9.Minor, .slice (σ.1) r9.Fields.length (σ.2.1)] 25, .shr x_b_p1 (cells enc_api_Field x_b.Fields), .shr x_a_p0 (cells enc_api_Field x_a.Fields)] := hst; ex_loadN (o := 0) (vs := [int x_b.Kind, str x_b.Method, str x_b.Target, int x_b.Code, str x_b.Reason, int x_b.Minor, .slice x_b_p1 x_b.Fields.length x_b_c1]) ag_25 sz_25 (hO.blkSees (i := 2) rfl) rfl rfl hf rfl | 4, _, _, hup, _, _ => absurd (hup 1 (by decide) (by kernel_rfl)) (by decide) | k + 5, hk, _, _, _, _ => absurd hk (by simp)), ⟨sS_call rfl (fun σ => rfl) (fun σ => rfl) rfl (fun σ a w (_ : _) hf => ex_call c_8 hf (vs := [.agg #[int x_b.Kind, str x_b.Method, str x_b.Target, int x_b.Code, str x_b.Reason, int x_b.Minor, .slice x_b_p1 x_b.Fields.length x_b_c1]]) rfl) (fun σ w (hO : Dk.Own w0 [] w [.row (.slice (σ.1) r9.Fields.length (σ.2.1)) 44 2 r9.Fields.length (cells enc_api_Field r9.Fields), .blk b2 [int x_b.Kind, str x_b.Method, str x_b.Target, int x_b.Code, str x_b.Reason, int x_b.Minor, .slice x_b_p1 x_b.Fields.length x_b_c1] 25, .blk b1 [int x_a.Kind, str x_a.Method, str x_a.Target, int x_a.Code, str x_a.Reason, int x_a.Minor, .slice x_a_p0 x_a.Fields.length x_a_c0] 25, .shr x_b_p1 (cells enc_api_Field x_b.Fields), .shr x_a_p0 (cells enc_api_Field x_a.Fields)]) => (w_law15_Few x_b r12 _ (hG.own hF hO).1 (hO.sees (i := 3) rfl) hc1 hr12).mono fun e w' h => by obtain ⟨p13, c14, he, hO'⟩ := h; exact ⟨((σ.1), (σ.2.1), p13, c14), he, hO.call hO' (by simp [Res.shared]), ⟨.inr rfl, ⟨.inr rfl, ⟨.inr rfl, ⟨.inl rfl, ⟨.inr rfl, ⟨.inl rfl, trivial⟩⟩⟩⟩⟩⟩⟩), ⟨sS_skip rfl (fun σ => rfl) (fun σ => rfl) rfl (fun σ w (hO : Dk.Own w0 [] w [.row (.slice (σ.2.2.1) r12.Fields.length (σ.2.2.2)) 44 2 r12.Fields.length (cells enc_api_Field r12.Fields), .row (.slice (σ.1) r9.Fields.length (σ.2.1)) 44 2 r9.Fields.length (cells enc_api_Field r9.Fields), .blk b2 [int x_b.Kind, str x_b.Method, str x_b.Target, int x_b.Code, str x_b.Reason, int x_b.Minor, .slice x_b_p1 x_b.Fields.length x_b_c1] 25, .blk b1 [int x_a.Kind, str x_a.Method, str x_a.Target, int x_a.Code, str x_a.Reason, int x_a.Minor, .slice x_a_p0 x_a.Fields.length x_a_c0] 25, .shr x_b_p1 (cells enc_api_Field x_b.Fields), .shr x_a_p0 (cells enc_api_Field x_a.Fields)]) => by obtain ⟨w', hO', hr⟩ := ef_storeN (x := (.tmp 2)) (y := (.tmp 8)) (E := [(2, ptr b1 0), (8, .agg #[int r9.Kind, str r9.Method, str r9.Target, int r9.Code, str r9.Reason, int r9.Minor, .slice (σ.1) r9.Fields.length (σ.2.1)])]) (i := 3) (n := 7) (vs := [int r9.Kind, str r9.Method, str r9.Target, int r9.Code, str r9.Reason, int r9.Minor, .slice (σ.1) r9.Fields.length (σ.2.1)]) sz_25 rfl rfl rfl (by simp [Value.oneCell']) hO rfl rfl; exact ⟨((σ.1), (σ.2.1), (σ.2.2.1), (σ.2.2.2)), w', hO', ⟨.inr rfl, ⟨.inr rfl, ⟨.inr rfl, ⟨.inr rfl, ⟨.inr rfl, ⟨.inr rfl, trivial⟩⟩⟩⟩⟩⟩, hr⟩), ⟨sS_skip rfl (fun σ => rfl) (fun σ => rfl) rfl (fun σ w (hO : Dk.Own w0 [] w [.row (.slice (σ.2.2.1) r12.Fields.length (σ.2.2.2)) 44 2 r12.Fields.length (cells enc_api_Field r12.Fields), .row (.slice (σ.1) r9.Fields.length (σ.2.1)) 44 2 r9.Fields.length (cells enc_api_Field r9.Fields), .blk b2 [int x_b.Kind, str x_b.Method, str x_b.Target, int x_b.Code, str x_b.Reason, int x_b.Minor, .slice x_b_p1 x_b.Fields.length x_b_c1] 25, .blk b1 [int r9.Kind, str r9.Method, str r9.Target, int r9.Code, str r9.Reason, int r9.Minor, .slice (σ.1) r9.Fields.length (σ.2.1)] 25, .shr x_b_p1 (cells enc_api_Field x_b.Fields), .shr x_a_p0 (cells enc_api_Field x_a.Fields)]) => by obtain ⟨w', hO', hr⟩ := ef_storeN (x := (.tmp 3)) (y := (.tmp 10)) (E := [(3, ptr b2 0), (10, .agg #[int r12.Kind, str r12.Method, str r12.Target, int r12.Code, str r12.Reason, int r12.Minor, .slice (σ.2.2.1) r12.Fields.length (σ.2.2.2)])]) (i := 2) (n := 7) (vs := [int r12.Kind, str r12.Method, str r12.Target, int r12.Code, str r12.Reason, int r12.Minor, .slice (σ.2.2.1) r12.Fields.length (σ.2.2.2)]) sz_25 rfl rfl rfl (by simp [Value.oneCell']) hO rfl rfl; exact ⟨((σ.1), (σ.2.1), (σ.2.2.1), (σ.2.2.2)), w', hO', ⟨.inr rfl, ⟨.inr rfl, ⟨.inr rfl, ⟨.inr rfl, ⟨.inr rfl, ⟨.inr rfl, trivial⟩⟩⟩⟩⟩⟩, hr⟩), trivial⟩⟩⟩⟩⟩⟩ ?_
    rintro ⟨p10, c11, p13, c14⟩ a w hf hO
    have hO : Dk.Own w0 [] w [.row (.slice p13 r12.Fields.length c14) 44 2 r12.Fields.length (cells enc_api_Field r12.Fields), .row (.slice p10 r9.Fields.length c11) 44 2 r9.Fields.length (cells enc_api_Field r9.Fields), .blk b2 [int r12.Kind, str r12.Method, str r12.Target, int r12.Code, str r12.Reason, int r12.Minor, .slice p13 r12.Fields.length c14] 25, .blk b1 [int r9.Kind, str r9.Method, str r9.Target, int r9.Code, str r9.Reason, int r9.Minor, .slice p10 r9.Fields.length c11] 25, .shr x_b_p1 (cells enc_api_Field x_b.Fields), .shr x_a_p0 (cells enc_api_Field x_a.Fields)] := hO
    have hf : Fits 23 [(2, ptr b1 0), (3, ptr b2 0)] a := (hf.cons rfl (hf.cons rfl hf.nil))
    refine nor_then (hK15 _ _ ?_)
    refine wp_seq_cut (fun a w => ∃ (t20 : Bool), Fits 23 [(4, .bool t20)] a ∧ Dk.Own w0 [] w [.row (.slice p13 r12.Fields.length c14) 44 2 r12.Fields.length (cells enc_api_Field r12.Fields), .row (.slice p10 r9.Fields.length c11) 44 2 r9.Fields.length (cells enc_api_Field r9.Fields), .blk b2 [int r12.Kind, str r12.Method, str r12.Target, int r12.Code, str r12.Reason, int r12.Minor, .slice p13 r12.Fields.length c14] 25, .blk b1 [int r9.Kind, str r9.Method, str r9.Target, int r9.Code, str r9.Reason, int r9.Minor, .slice p10 r9.Fields.length c11] 25, .shr x_b_p1 (cells enc_api_Field x_b.Fields), .shr x_a_p0 (cells enc_api_Field x_a.Fields)] ∧ law15_HeadSame_j1 t20 = some R) ?_ ?_
    · refine wp_quiet (by kernel_rfl) (by kernel_rfl) hO ?_
      refine q_val (fun w hO => ex_loadN (o := 0) (vs := [int r9.Kind, str r9.Method, str r9.Target, int r9.Code, str r9.Reason, int r9.Minor, .slice p10 r9.Fields.length c11]) ag_25 sz_25 (hO.blkSees (i := 3) rfl) rfl rfl hf rfl) rfl hf rfl rfl fun a hf => ?_
      refine q_val (fun w hO => ex_loadN (o := 0) (vs := [int r12.Kind, str r12.Method, str r12.Target, int r12.Code, str r12.Reason, int r12.Minor, .slice p13 r12.Fields.length c14]) ag_25 sz_25 (hO.blkSees (i := 2) rfl) rfl rfl hf rfl) rfl hf rfl rfl fun a hf => ?_
      obtain ⟨r16, hr16, hm⟩ := ob hm
      refine q_call (fun w hO => ex_call c_17 hf (vs := [.agg #[int r9.Kind, str r9.Method, str r9.Target, int r9.Code, str r9.Reason, int r9.Minor, .slice p10 r9.Fields.length c11], .agg #[int r12.Kind, str r12.Method, str r12.Target, int r12.Code, str r12.Reason, int r12.Minor, .slice p13 r12.Fields.length c14]]) rfl) rfl hf rfl rfl (fun w hO => (w_head_Same r9 r12 r16 _ (hG.own hF hO).1 (hO.rowSees (i := 1) rfl) (hO.rowCap (i := 1) rfl) (hO.rowSees (i := 0) rfl) (hO.rowCap (i := 0) rfl) hr16).mono fun e w' ⟨he, hb⟩ => ⟨he, hO.grow hb⟩) fun a hf => ?_
      refine q_val (fun w hO => ex_loadN (o := 0) (vs := [int r9.Kind, str r9.Method, str r9.Target, int r9.Code, str r9.Reason, int r9.Minor, .slice p10 r9.Fields.length c11]) ag_25 sz_25 (hO.blkSees (i := 3) rfl) rfl rfl hf rfl) rfl hf rfl rfl fun a hf => ?_
      refine q_val (fun w hO => ex_loadN (o := 0) (vs := [int r12.Kind, str r12.Method, str r12.Target, int r12.Code, str r12.Reason, int r12.Minor, .slice p13 r12.Fields.length c14]) ag_25 sz_25 (hO.blkSees (i := 2) rfl) rfl rfl hf rfl) rfl hf rfl rfl fun a hf => ?_
      obtain ⟨r17, hr17, hm⟩ := ob hm
      refine q_call (fun w hO => ex_call c_14 hf (vs := [.agg #[int r9.Kind, str r9.Method, str r9.Target, int r9.Code, str r9.Reason, int r9.Minor, .slice p10 r9.Fields.length c11], .agg #[int r12.Kind, str r12.Method, str r12.Target, int r12.Code, str r12.Reason, int r12.Minor, .slice p13 r12.Fields.length c14]]) rfl) rfl hf rfl rfl (fun w hO => (w_ref15_Same r9 r12 r17 _ (hG.own hF hO).1 (hO.rowSees (i := 1) rfl) (hO.rowCap (i := 1) rfl) (hO.rowSees (i := 0) rfl) (hO.rowCap (i := 0) rfl) hr17).mono fun e w' ⟨he, hb⟩ => ⟨he, hO.grow hb⟩) fun a hf => ?_
      refine q_val (fun w hO => ex_eql_o Tryz.underlying4 hf rfl rfl) rfl hf rfl rfl fun a hf => ?_
      refine q_val (fun w hO => ex_move hf rfl) rfl hf rfl rfl fun a hf => ?_
      rcases bcase (r16 == r17) with hc18 | hc18
      · have hm := it hc18 hm
        refine q_guard rfl hf rfl rfl (hc18) ?_
        refine q_val (fun w hO => ex_loadN (o := 0) (vs := [int r9.Kind, str r9.Method, str r9.Target, int r9.Code, str r9.Reason, int r9.Minor, .slice p10 r9.Fields.length c11]) ag_25 sz_25 (hO.blkSees (i := 3) rfl) rfl rfl hf rfl) rfl hf rfl rfl fun a hf => ?_
        refine q_guard rfl hf rfl rfl (hc18) ?_
        refine q_val (fun w hO => ex_loadN (o := 0) (vs := [int r9.Kind, str r9.Method, str r9.Target, int r9.Code, str r9.Reason, int r9.Minor, .slice p10 r9.Fields.length c11]) ag_25 sz_25 (hO.blkSees (i := 3) rfl) rfl rfl hf rfl) rfl hf rfl rfl fun a hf => ?_
        refine q_guard rfl hf rfl rfl (hc18) ?_
        obtain ⟨r19, hr19, hm⟩ := ob hm
        refine q_call (fun w hO => ex_call c_17 hf (vs := [.agg #[int r9.Kind, str r9.Method, str r9.Target, int r9.Code, str r9.Reason, int r9.Minor, .slice p10 r9.Fields.length c11], .agg #[int r9.Kind, str r9.Method, str r9.Target, int r9.Code, str r9.Reason, int r9.Minor, .slice p10 r9.Fields.length c11]]) rfl) rfl hf rfl rfl (fun w hO => (w_head_Same r9 r9 r19 _ (hG.own hF hO).1 (hO.rowSees (i := 1) rfl) (hO.rowCap (i := 1) rfl) (hO.rowSees (i := 1) rfl) (hO.rowCap (i := 1) rfl) hr19).mono fun e w' ⟨he, hb⟩ => ⟨he, hO.grow hb⟩) fun a hf => ?_
        refine q_val (fun w hO => ex_pick_t hf rfl hc18 rfl) rfl hf rfl rfl fun a hf => ?_
        refine q_val (fun w hO => ex_assign hf rfl) rfl hf rfl rfl fun a hf => ?_
        refine wpQuiet_nil ?_
        intro w hO
        refine nor_then ?_
        exact ⟨r19, (hf.cons rfl hf.nil), hO, hm⟩
      · have hm := ie hc18 hm
        refine q_pass rfl hf rfl rfl (hc18) rfl rfl fun a hf => ?_
        refine q_pass rfl hf rfl rfl (hc18) rfl rfl fun a hf => ?_
        refine q_pass rfl hf rfl rfl (hc18) rfl rfl fun a hf => ?_
        refine q_val (fun w hO => ex_pick_f hf rfl hc18 rfl) rfl hf rfl rfl fun a hf => ?_
        refine q_val (fun w hO => ex_assign hf rfl) rfl hf rfl rfl fun a hf => ?_
        refine wpQuiet_nil ?_
        intro w hO
        refine nor_then ?_
        exact ⟨false, (hf.cons rfl hf.nil), hO, hm⟩
    · rintro a w ⟨t20, hf, hO, hm⟩
      rw [law15_HeadSame_j1] at hm
      refine wp_ret ?_
      obtain rfl := Option.some.inj hm
      exact post_ret Tryz.results6 hf (.tmp rfl .nil) ⟨rfl, hO.below⟩

end Go.Proofs
