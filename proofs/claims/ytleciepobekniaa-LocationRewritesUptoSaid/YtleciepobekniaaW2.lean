/-
  Walks, written by a program (wip/gen): what its model says, the function returns; what was there before is as it was.
-/
import Derived.Test.YtleciepobekniaaLib
import Derived.Test.YtleciepobekniaaW0
import Derived.Test.YtleciepobekniaaW1
set_option linter.unusedVariables false
set_option linter.unusedSimpArgs false
set_option maxRecDepth 100000
namespace Go.Proofs
open Go.Dk Go.Dm Go.RowKit

set_option maxHeartbeats 1000000 in
theorem w_uriref_bytes (x_s : Str) (x_more : Str) (R : Bool) (w0 : World) (hG : Glob w0) (hm : uriref_bytes x_s x_more = some R) :
    Calls Try.prog 37 #[str x_s, str x_more] w0 fun e w' => e = .returned (.bool R) ∧ Below w0.heap.size w0 w' := by
  rw [uriref_bytes] at hm
  refine calls_enter (vs := [str x_s, str x_more]) Try.func37 rfl Try.ntmps37 rfl fun a hf => ?_
  have hO : Own w0 [] w0 [] := Own.refl w0
  refine wp_seq_k fun _ hK1 => ?_
  refine wp_region_list ?_
  refine op_val (ex_assign hf rfl) rfl hf rfl rfl fun a hf => ?_
  refine wpList_nil ?_
  refine nor_then (hK1 _ _ ?_)
  refine wp_seq_k fun _ hK32 => ?_
  refine wp_seq_k fun _ hK2 => ?_
  refine wp_region_list ?_
  refine op_val (ex_assign hf rfl) rfl hf rfl rfl fun a hf => ?_
  refine wpList_nil ?_
  refine nor_then (hK2 _ _ ?_)
  refine wp_block ?_
  refine wp_loop_n (fun k a w => ∃ (i3 : Int), Fits 49 [(0, str x_s), (1, str x_more), (5, int i3)] a ∧ Own w0 [] w [] ∧ uriref_bytes_L1 x_s x_more k i3 = some R) ?_ fuel ?_
  · rintro n1 a w ⟨i3, hf, hO, hm⟩
    obtain _ | n1 := n1
    · rw [uriref_bytes_L1] at hm
      cases hm
    · rw [uriref_bytes_L1] at hm
      refine wp_seq_k fun _ hK6 => ?_
      refine wp_seq_k fun _ hK4 => ?_
      refine wp_region_list ?_
      refine op_val (ex_move hf rfl) rfl hf rfl rfl fun a hf => ?_
      refine op_val (ex_move hf rfl) rfl hf rfl rfl fun a hf => ?_
      refine op_val (ex_len_s (l := x_s) Try.underlying9 hf rfl) rfl hf rfl rfl fun a hf => ?_
      refine op_val (ex_lss (m := i3) (n := (x_s.length : Int)) hf rfl rfl) rfl hf rfl rfl fun a hf => ?_
      refine wpList_nil ?_
      refine nor_then (hK4 _ _ ?_)
      refine wp_cond_cut hf rfl (fun hc5 => ?_) (fun hc5 => ?_)
      · have hm := it hc5 hm
        refine wp_skip ?_
        refine nor_then (hK6 _ _ ?_)
        refine wp_seq_cut (fun a w => ∃ (i30 : Int), Fits 49 [(0, str x_s), (1, str x_more), (5, int i30)] a ∧ Own w0 [] w [] ∧ uriref_bytes_j4 (uriref_bytes_L1 x_s x_more n1) i30 = some R) ?_ ?_
        · refine wp_block ?_
          refine wp_block ?_
          refine wp_seq_k fun _ hK8 => ?_
          refine wp_region_list ?_
          refine op_val (ex_move hf rfl) rfl hf rfl rfl fun a hf => ?_
          refine op_val (ex_move hf rfl) rfl hf rfl rfl fun a hf => ?_
          obtain ⟨b7, hb7, hm⟩ := ob hm
          refine op_val (ex_index (l := x_s) Try.underlying9 hf rfl rfl hb7) rfl hf rfl rfl fun a hf => ?_
          refine op_val (ex_eql_b (b := b7) (c := 37) hf rfl rfl) rfl hf rfl rfl fun a hf => ?_
          refine op_val (ex_assign hf rfl) rfl hf rfl rfl fun a hf => ?_
          refine wpList_nil ?_
          refine nor_then (hK8 _ _ ?_)
          refine wp_cond_cut hf rfl (fun hc9 => ?_) (fun hc9 => ?_)
          · have hm := it hc9 hm
            refine wp_seq_k fun _ hK20 => ?_
            refine wp_seq_cut (fun a w => ∃ (t17 : Bool), Fits 49 [(0, str x_s), (1, str x_more), (5, int i3), (32, .bool t17)] a ∧ Own w0 [] w [] ∧ uriref_bytes_j2 (uriref_bytes_L1 x_s x_more n1) i3 t17 = some R) ?_ ?_
            · refine wp_region_list ?_
              refine op_val (ex_move hf rfl) rfl hf rfl rfl fun a hf => ?_
              obtain ⟨i10, hi10, hm⟩ := ob hm
              refine op_val (ex_add hf rfl rfl hi10) rfl hf rfl rfl fun a hf => ?_
              refine op_val (ex_move hf rfl) rfl hf rfl rfl fun a hf => ?_
              refine op_val (ex_len_s (l := x_s) Try.underlying9 hf rfl) rfl hf rfl rfl fun a hf => ?_
              refine op_val (ex_geq (m := i10) (n := (x_s.length : Int)) hf rfl rfl) rfl hf rfl rfl fun a hf => ?_
              refine op_val (ex_move hf rfl) rfl hf rfl rfl fun a hf => ?_
              rcases bcase (decide ((x_s.length : Int) ≤ i10)) with hc11 | hc11
              · have hm := it hc11 hm
                refine op_pass rfl hf rfl rfl (hc11) rfl rfl fun a hf => ?_
                refine op_pass rfl hf rfl rfl (hc11) rfl rfl fun a hf => ?_
                refine op_pass rfl hf rfl rfl (hc11) rfl rfl fun a hf => ?_
                refine op_pass rfl hf rfl rfl (hc11) rfl rfl fun a hf => ?_
                refine op_pass rfl hf rfl rfl (hc11) rfl rfl fun a hf => ?_
                refine op_pass rfl hf rfl rfl (hc11) rfl rfl fun a hf => ?_
                refine op_pass rfl hf rfl rfl (hc11) rfl rfl fun a hf => ?_
                refine op_pass rfl hf rfl rfl (hc11) rfl rfl fun a hf => ?_
                refine op_pass rfl hf rfl rfl (hc11) rfl rfl fun a hf => ?_
                refine op_val (ex_pick_t hf rfl hc11 rfl) rfl hf rfl rfl fun a hf => ?_
                refine wpList_nil ?_
                refine nor_then ?_
                exact ⟨true, (hf.cons rfl (hf.cons rfl (hf.cons rfl (hf.cons rfl hf.nil)))), hO, hm⟩
              · have hm := ie hc11 hm
                refine op_guard rfl hf rfl rfl (hc11) ?_
                refine op_val (ex_move hf rfl) rfl hf rfl rfl fun a hf => ?_
                refine op_guard rfl hf rfl rfl (hc11) ?_
                refine op_val (ex_move hf rfl) rfl hf rfl rfl fun a hf => ?_
                refine op_guard rfl hf rfl rfl (hc11) ?_
                obtain ⟨i12, hi12, hm⟩ := ob hm
                refine op_val (ex_add hf rfl rfl hi12) rfl hf rfl rfl fun a hf => ?_
                refine op_guard rfl hf rfl rfl (hc11) ?_
                refine op_val (ex_move hf rfl) rfl hf rfl rfl fun a hf => ?_
                refine op_guard rfl hf rfl rfl (hc11) ?_
                obtain ⟨i13, hi13, hm⟩ := ob hm
                refine op_val (ex_add hf rfl rfl hi13) rfl hf rfl rfl fun a hf => ?_
                refine op_guard rfl hf rfl rfl (hc11) ?_
                obtain ⟨s14, hs14, hm⟩ := ob hm
                refine op_val (ex_sub_s (l := x_s) Try.underlying9 hf rfl rfl rfl hs14) rfl hf rfl rfl fun a hf => ?_
                refine op_guard rfl hf rfl rfl (hc11) ?_
                refine op_buildSlice (vs := [(0, str s14)]) (cs := [str s14]) (e := 9) (sz := 1) hf rfl rfl (fun w => by kernel_rfl) rfl rfl hO fun a b15 w hf hO => ?_
                refine op_guard rfl hf rfl rfl (hc11) ?_
                obtain ⟨r16, hr16, hm⟩ := ob hm
                refine op_enter (ex_call c_44 hf (vs := [.func (.func 46) #[] #[], .slice (some ⟨b15, 0, none⟩) ([s14].length) 1]) rfl) rfl hf rfl rfl (w_octet_All octet_IsHex [s14] r16 _ (hG.own hO) c_46 (fun y0 r w hG h => callsE (w_octet_IsHex y0 r w hG h)) (hO.rowSees (i := 0) rfl) hr16) ?_
                rintro e w' ⟨he, hb⟩
                refine ⟨_, he, fun a hf => ?_⟩
                have hO := hO.grow hb
                refine op_guard rfl hf rfl rfl (hc11) ?_
                refine op_val (ex_not hf rfl) rfl hf rfl rfl fun a hf => ?_
                refine op_val (ex_pick_f hf rfl hc11 rfl) rfl hf rfl rfl fun a hf => ?_
                refine wpList_nil ?_
                refine nor_then ?_
                exact ⟨!r16, (hf.cons rfl (hf.cons rfl (hf.cons rfl (hf.cons rfl hf.nil)))), (hO.sub (.cons _ .slnil)), hm⟩
            · rintro a w ⟨t17, hf, hO, hm⟩
              rw [uriref_bytes_j2] at hm
              refine wp_cond_cut hf rfl (fun hc18 => ?_) (fun hc18 => ?_)
              · have hm := it hc18 hm
                refine wp_seq_k fun _ hK19 => ?_
                refine wp_region_list ?_
                refine op_val (ex_assign hf rfl) rfl hf rfl rfl fun a hf => ?_
                refine wpList_nil ?_
                refine nor_then (hK19 _ _ ?_)
                refine wp_ret ?_
                refine ret_then ?_
                refine ret_block ?_
                refine ret_block ?_
                refine ret_then ?_
                refine ret_then ?_
                refine ret_block ?_
                refine ret_then ?_
                obtain rfl := Option.some.inj hm
                exact post_ret Try.results37 hf (.tmp rfl .nil) ⟨rfl, hO.below⟩
              · have hm := ie hc18 hm
                refine wp_skip ?_
                refine nor_then (hK20 _ _ ?_)
                refine wp_region_list ?_
                refine op_val (ex_move hf rfl) rfl hf rfl rfl fun a hf => ?_
                obtain ⟨i21, hi21, hm⟩ := ob hm
                refine op_val (ex_add hf rfl rfl hi21) rfl hf rfl rfl fun a hf => ?_
                refine op_val (ex_assign hf rfl) rfl hf rfl rfl fun a hf => ?_
                refine wpList_nil ?_
                refine nor_block ?_
                refine nor_block ?_
                refine nor_then ?_
                exact ⟨i21, (hf.cons rfl (hf.cons rfl (hf.cons rfl hf.nil))), hO, hm⟩
          · have hm := ie hc9 hm
            refine wp_seq_cut (fun a w => ∃ (t27 : Bool), Fits 49 [(0, str x_s), (1, str x_more), (5, int i3), (35, .bool t27)] a ∧ Own w0 [] w [] ∧ uriref_bytes_j3 (uriref_bytes_L1 x_s x_more n1) i3 t27 = some R) ?_ ?_
            · refine wp_region_list ?_
              refine op_val (ex_move hf rfl) rfl hf rfl rfl fun a hf => ?_
              refine op_val (ex_move hf rfl) rfl hf rfl rfl fun a hf => ?_
              obtain ⟨b22, hb22, hm⟩ := ob hm
              refine op_val (ex_index (l := x_s) Try.underlying9 hf rfl rfl hb22) rfl hf rfl rfl fun a hf => ?_
              obtain ⟨r23, hr23, hm⟩ := ob hm
              refine op_enter (ex_call c_47 hf (vs := [byte b22]) rfl) rfl hf rfl rfl (w_octet_IsPath b22 r23 _ (hG.own hO) hr23) ?_
              rintro e w' ⟨he, hb⟩
              refine ⟨_, he, fun a hf => ?_⟩
              have hO := hO.grow hb
              refine op_val (ex_not hf rfl) rfl hf rfl rfl fun a hf => ?_
              refine op_val (ex_move hf rfl) rfl hf rfl rfl fun a hf => ?_
              rcases bcase (!r23) with hc24 | hc24
              · have hm := it hc24 hm
                refine op_guard rfl hf rfl rfl (hc24) ?_
                refine op_val (ex_move hf rfl) rfl hf rfl rfl fun a hf => ?_
                refine op_guard rfl hf rfl rfl (hc24) ?_
                refine op_val (ex_move hf rfl) rfl hf rfl rfl fun a hf => ?_
                refine op_guard rfl hf rfl rfl (hc24) ?_
                refine op_val (ex_move hf rfl) rfl hf rfl rfl fun a hf => ?_
                refine op_guard rfl hf rfl rfl (hc24) ?_
                obtain ⟨b25, hb25, hm⟩ := ob hm
                refine op_val (ex_index (l := x_s) Try.underlying9 hf rfl rfl hb25) rfl hf rfl rfl fun a hf => ?_
                refine op_guard rfl hf rfl rfl (hc24) ?_
                obtain ⟨r26, hr26, hm⟩ := ob hm
                refine op_enter (ex_call c_19 hf (vs := [str x_more, byte b25]) rfl) rfl hf rfl rfl (w_strings_IndexByte x_more b25 r26 _ (hG.own hO) hr26) ?_
                rintro e w' ⟨he, hb⟩
                refine ⟨_, he, fun a hf => ?_⟩
                have hO := hO.grow hb
                refine op_guard rfl hf rfl rfl (hc24) ?_
                refine op_val (ex_lss (m := r26) (n := 0) hf rfl rfl) rfl hf rfl rfl fun a hf => ?_
                refine op_val (ex_pick_t hf rfl hc24 rfl) rfl hf rfl rfl fun a hf => ?_
                refine op_val (ex_assign hf rfl) rfl hf rfl rfl fun a hf => ?_
                refine wpList_nil ?_
                refine nor_then ?_
                exact ⟨decide (r26 < 0), (hf.cons rfl (hf.cons rfl (hf.cons rfl (hf.cons rfl hf.nil)))), hO, hm⟩
              · have hm := ie hc24 hm
                refine op_pass rfl hf rfl rfl (hc24) rfl rfl fun a hf => ?_
                refine op_pass rfl hf rfl rfl (hc24) rfl rfl fun a hf => ?_
                refine op_pass rfl hf rfl rfl (hc24) rfl rfl fun a hf => ?_
                refine op_pass rfl hf rfl rfl (hc24) rfl rfl fun a hf => ?_
                refine op_pass rfl hf rfl rfl (hc24) rfl rfl fun a hf => ?_
                refine op_pass rfl hf rfl rfl (hc24) rfl rfl fun a hf => ?_
                refine op_val (ex_pick_f hf rfl hc24 rfl) rfl hf rfl rfl fun a hf => ?_
                refine op_val (ex_assign hf rfl) rfl hf rfl rfl fun a hf => ?_
                refine wpList_nil ?_
                refine nor_then ?_
                exact ⟨false, (hf.cons rfl (hf.cons rfl (hf.cons rfl (hf.cons rfl hf.nil)))), hO, hm⟩
            · rintro a w ⟨t27, hf, hO, hm⟩
              rw [uriref_bytes_j3] at hm
              refine wp_cond_cut hf rfl (fun hc28 => ?_) (fun hc28 => ?_)
              · have hm := it hc28 hm
                refine wp_seq_k fun _ hK29 => ?_
                refine wp_region_list ?_
                refine op_val (ex_assign hf rfl) rfl hf rfl rfl fun a hf => ?_
                refine wpList_nil ?_
                refine nor_then (hK29 _ _ ?_)
                refine wp_ret ?_
                refine ret_block ?_
                refine ret_block ?_
                refine ret_then ?_
                refine ret_then ?_
                refine ret_block ?_
                refine ret_then ?_
                obtain rfl := Option.some.inj hm
                exact post_ret Try.results37 hf (.tmp rfl .nil) ⟨rfl, hO.below⟩
              · have hm := ie hc28 hm
                refine wp_skip ?_
                refine nor_block ?_
                refine nor_block ?_
                refine nor_then ?_
                exact ⟨i3, (hf.cons rfl (hf.cons rfl (hf.cons rfl hf.nil))), hO, hm⟩
        · rintro a w ⟨i30, hf, hO, hm⟩
          rw [uriref_bytes_j4] at hm
          refine wp_region_list ?_
          refine op_val (ex_move hf rfl) rfl hf rfl rfl fun a hf => ?_
          obtain ⟨i31, hi31, hm⟩ := ob hm
          refine op_val (ex_add hf rfl rfl hi31) rfl hf rfl rfl fun a hf => ?_
          refine op_val (ex_assign hf rfl) rfl hf rfl rfl fun a hf => ?_
          refine wpList_nil ?_
          refine nor_then ?_
          exact ⟨_, Nat.lt_succ_self _, i31, (hf.cons rfl (hf.cons rfl (hf.cons rfl hf.nil))), hO, hm⟩
      · have hm := ie hc5 hm
        refine wp_exit ?_
        refine exit_then ?_
        refine exit_then ?_
        refine exit_here ?_
        refine nor_then (hK32 _ _ ?_)
        refine wp_seq_k fun _ hK33 => ?_
        refine wp_region_list ?_
        refine op_val (ex_assign hf rfl) rfl hf rfl rfl fun a hf => ?_
        refine wpList_nil ?_
        refine nor_then (hK33 _ _ ?_)
        refine wp_ret ?_
        obtain rfl := Option.some.inj hm
        exact post_ret Try.results37 hf (.tmp rfl .nil) ⟨rfl, hO.below⟩
  · exact ⟨0, (hf.cons rfl (hf.cons rfl (hf.cons rfl hf.nil))), hO, hm⟩

set_option maxHeartbeats 1000000 in
theorem w_uriref_well (x_r : api_Ref) (R : Bool) (w0 : World) (hG : Glob w0) (hm : uriref_well x_r = some R) :
    Calls Try.prog 29 #[.agg #[str x_r.Scheme, str x_r.Auth, str x_r.Path, str x_r.Query, str x_r.Frag, .bool x_r.HasAuth, .bool x_r.HasQuery, .bool x_r.HasFrag]] w0 fun e w' => e = .returned (.bool R) ∧ Below w0.heap.size w0 w' := by
  rw [uriref_well] at hm
  refine calls_enter (vs := [.agg #[str x_r.Scheme, str x_r.Auth, str x_r.Path, str x_r.Query, str x_r.Frag, .bool x_r.HasAuth, .bool x_r.HasQuery, .bool x_r.HasFrag]]) Try.func29 rfl Try.ntmps29 rfl fun a hf => ?_
  have hO : Own w0 [] w0 [] := Own.refl w0
  refine wp_seq_k fun _ hK2 => ?_
  refine wp_region_list ?_
  refine op_box (v := .agg #[str x_r.Scheme, str x_r.Auth, str x_r.Path, str x_r.Query, str x_r.Frag, .bool x_r.HasAuth, .bool x_r.HasQuery, .bool x_r.HasFrag]) (cs := [str x_r.Scheme, str x_r.Auth, str x_r.Path, str x_r.Query, str x_r.Frag, .bool x_r.HasAuth, .bool x_r.HasQuery, .bool x_r.HasFrag]) rfl hf rfl rfl hO fun a b1 w hf hO => ?_
  refine op_val (ex_assign hf rfl) rfl hf rfl rfl fun a hf => ?_
  refine wpList_nil ?_
  refine nor_then (hK2 _ _ ?_)
  refine wp_seq_k fun _ hK4 => ?_
  refine wp_region_list ?_
  refine op_val (ex_field fa_27_2 hf rfl) rfl hf rfl rfl fun a hf => ?_
  refine op_val (ex_load1 (o := 2) ag_9 (hO.blkSees (i := 0) rfl) rfl hf rfl) rfl hf rfl rfl fun a hf => ?_
  obtain ⟨r3, hr3, hm⟩ := ob hm
  refine op_enter (ex_call c_36 hf (vs := [str x_r.Path, str [47]]) rfl) rfl hf rfl rfl (w_uriref_upto x_r.Path [47] r3 _ (hG.own hO) hr3) ?_
  rintro e w' ⟨he, hb⟩
  refine ⟨_, he, fun a hf => ?_⟩
  have hO := hO.grow hb
  refine op_val (ex_move hf rfl) rfl hf rfl rfl fun a hf => ?_
  refine op_val (ex_extract hf rfl rfl) rfl hf rfl rfl fun a hf => ?_
  refine op_val (ex_extract hf rfl rfl) rfl hf rfl rfl fun a hf => ?_
  refine op_val (ex_assign hf rfl) rfl hf rfl rfl fun a hf => ?_
  refine op_val (ex_assign hf rfl) rfl hf rfl rfl fun a hf => ?_
  refine wpList_nil ?_
  refine nor_then (hK4 _ _ ?_)
  refine wp_seq_k fun _ hK26 => ?_
  refine wp_block ?_
  refine wp_seq_cut (fun a w => ∃ (t14 : Bool), Fits 63 [(1, ptr b1 0), (3, str r3.1), (11, .bool t14)] a ∧ Own w0 [] w [.blk b1 [str x_r.Scheme, str x_r.Auth, str x_r.Path, str x_r.Query, str x_r.Frag, .bool x_r.HasAuth, .bool x_r.HasQuery, .bool x_r.HasFrag] 27] ∧ uriref_well_j1 x_r r3 t14 = some R) ?_ ?_
  · refine wp_region_list ?_
    refine op_val (ex_field fa_27_1 hf rfl) rfl hf rfl rfl fun a hf => ?_
    refine op_val (ex_load1 (o := 1) ag_9 (hO.blkSees (i := 0) rfl) rfl hf rfl) rfl hf rfl rfl fun a hf => ?_
    obtain ⟨r5, hr5, hm⟩ := ob hm
    refine op_enter (ex_call c_37 hf (vs := [str x_r.Auth, str [91, 93]]) rfl) rfl hf rfl rfl (w_uriref_bytes x_r.Auth [91, 93] r5 _ (hG.own hO) hr5) ?_
    rintro e w' ⟨he, hb⟩
    refine ⟨_, he, fun a hf => ?_⟩
    have hO := hO.grow hb
    refine op_val (ex_not hf rfl) rfl hf rfl rfl fun a hf => ?_
    refine op_val (ex_move hf rfl) rfl hf rfl rfl fun a hf => ?_
    rcases bcase (!r5) with hc6 | hc6
    · have hm := it hc6 hm
      refine op_pass rfl hf rfl rfl (hc6) rfl rfl fun a hf => ?_
      refine op_pass rfl hf rfl rfl (hc6) rfl rfl fun a hf => ?_
      refine op_pass rfl hf rfl rfl (hc6) rfl rfl fun a hf => ?_
      refine op_val (ex_pick_t hf rfl hc6 rfl) rfl hf rfl rfl fun a hf => ?_
      refine op_val (ex_move hf rfl) rfl hf rfl rfl fun a hf => ?_
      refine op_pass rfl hf rfl rfl (rfl) rfl rfl fun a hf => ?_
      refine op_pass rfl hf rfl rfl (rfl) rfl rfl fun a hf => ?_
      refine op_pass rfl hf rfl rfl (rfl) rfl rfl fun a hf => ?_
      refine op_pass rfl hf rfl rfl (rfl) rfl rfl fun a hf => ?_
      refine op_val (ex_pick_t hf rfl rfl rfl) rfl hf rfl rfl fun a hf => ?_
      refine op_val (ex_move hf rfl) rfl hf rfl rfl fun a hf => ?_
      refine op_pass rfl hf rfl rfl (rfl) rfl rfl fun a hf => ?_
      refine op_pass rfl hf rfl rfl (rfl) rfl rfl fun a hf => ?_
      refine op_pass rfl hf rfl rfl (rfl) rfl rfl fun a hf => ?_
      refine op_pass rfl hf rfl rfl (rfl) rfl rfl fun a hf => ?_
      refine op_val (ex_pick_t hf rfl rfl rfl) rfl hf rfl rfl fun a hf => ?_
      refine op_val (ex_move hf rfl) rfl hf rfl rfl fun a hf => ?_
      refine op_pass rfl hf rfl rfl (rfl) rfl rfl fun a hf => ?_
      refine op_pass rfl hf rfl rfl (rfl) rfl rfl fun a hf => ?_
      refine op_pass rfl hf rfl rfl (rfl) rfl rfl fun a hf => ?_
      refine op_pass rfl hf rfl rfl (rfl) rfl rfl fun a hf => ?_
      refine op_val (ex_pick_t hf rfl rfl rfl) rfl hf rfl rfl fun a hf => ?_
      refine op_val (ex_assign hf rfl) rfl hf rfl rfl fun a hf => ?_
      refine wpList_nil ?_
      refine nor_then ?_
      exact ⟨true, (hf.cons rfl (hf.cons rfl (hf.cons rfl hf.nil))), hO, hm⟩
    · have hm := ie hc6 hm
      refine op_guard rfl hf rfl rfl (hc6) ?_
      refine op_val (ex_field fa_27_1 hf rfl) rfl hf rfl rfl fun a hf => ?_
      refine op_guard rfl hf rfl rfl (hc6) ?_
      refine op_val (ex_load1 (o := 1) ag_9 (hO.blkSees (i := 0) rfl) rfl hf rfl) rfl hf rfl rfl fun a hf => ?_
      refine op_guard rfl hf rfl rfl (hc6) ?_
      obtain ⟨r7, hr7, hm⟩ := ob hm
      refine op_enter (ex_call c_38 hf (vs := [str x_r.Auth, str [64]]) rfl) rfl hf rfl rfl (w_strings_Contains x_r.Auth [64] r7 _ (hG.own hO) hr7) ?_
      rintro e w' ⟨he, hb⟩
      refine ⟨_, he, fun a hf => ?_⟩
      have hO := hO.grow hb
      refine op_val (ex_pick_f hf rfl hc6 rfl) rfl hf rfl rfl fun a hf => ?_
      refine op_val (ex_move hf rfl) rfl hf rfl rfl fun a hf => ?_
      rcases bcase (r7) with hc8 | hc8
      · have hm := it hc8 hm
        refine op_pass rfl hf rfl rfl (hc8) rfl rfl fun a hf => ?_
        refine op_pass rfl hf rfl rfl (hc8) rfl rfl fun a hf => ?_
        refine op_pass rfl hf rfl rfl (hc8) rfl rfl fun a hf => ?_
        refine op_pass rfl hf rfl rfl (hc8) rfl rfl fun a hf => ?_
        refine op_val (ex_pick_t hf rfl hc8 rfl) rfl hf rfl rfl fun a hf => ?_
        refine op_val (ex_move hf rfl) rfl hf rfl rfl fun a hf => ?_
        refine op_pass rfl hf rfl rfl (rfl) rfl rfl fun a hf => ?_
        refine op_pass rfl hf rfl rfl (rfl) rfl rfl fun a hf => ?_
        refine op_pass rfl hf rfl rfl (rfl) rfl rfl fun a hf => ?_
        refine op_pass rfl hf rfl rfl (rfl) rfl rfl fun a hf => ?_
        refine op_val (ex_pick_t hf rfl rfl rfl) rfl hf rfl rfl fun a hf => ?_
        refine op_val (ex_move hf rfl) rfl hf rfl rfl fun a hf => ?_
        refine op_pass rfl hf rfl rfl (rfl) rfl rfl fun a hf => ?_
        refine op_pass rfl hf rfl rfl (rfl) rfl rfl fun a hf => ?_
        refine op_pass rfl hf rfl rfl (rfl) rfl rfl fun a hf => ?_
        refine op_pass rfl hf rfl rfl (rfl) rfl rfl fun a hf => ?_
        refine op_val (ex_pick_t hf rfl rfl rfl) rfl hf rfl rfl fun a hf => ?_
        refine op_val (ex_assign hf rfl) rfl hf rfl rfl fun a hf => ?_
        refine wpList_nil ?_
        refine nor_then ?_
        exact ⟨true, (hf.cons rfl (hf.cons rfl (hf.cons rfl hf.nil))), hO, hm⟩
      · have hm := ie hc8 hm
        refine op_guard rfl hf rfl rfl (hc8) ?_
        refine op_val (ex_field fa_27_2 hf rfl) rfl hf rfl rfl fun a hf => ?_
        refine op_guard rfl hf rfl rfl (hc8) ?_
        refine op_val (ex_load1 (o := 2) ag_9 (hO.blkSees (i := 0) rfl) rfl hf rfl) rfl hf rfl rfl fun a hf => ?_
        refine op_guard rfl hf rfl rfl (hc8) ?_
        obtain ⟨r9, hr9, hm⟩ := ob hm
        refine op_enter (ex_call c_37 hf (vs := [str x_r.Path, str [47]]) rfl) rfl hf rfl rfl (w_uriref_bytes x_r.Path [47] r9 _ (hG.own hO) hr9) ?_
        rintro e w' ⟨he, hb⟩
        refine ⟨_, he, fun a hf => ?_⟩
        have hO := hO.grow hb
        refine op_guard rfl hf rfl rfl (hc8) ?_
        refine op_val (ex_not hf rfl) rfl hf rfl rfl fun a hf => ?_
        refine op_val (ex_pick_f hf rfl hc8 rfl) rfl hf rfl rfl fun a hf => ?_
        refine op_val (ex_move hf rfl) rfl hf rfl rfl fun a hf => ?_
        rcases bcase (!r9) with hc10 | hc10
        · have hm := it hc10 hm
          refine op_pass rfl hf rfl rfl (hc10) rfl rfl fun a hf => ?_
          refine op_pass rfl hf rfl rfl (hc10) rfl rfl fun a hf => ?_
          refine op_pass rfl hf rfl rfl (hc10) rfl rfl fun a hf => ?_
          refine op_pass rfl hf rfl rfl (hc10) rfl rfl fun a hf => ?_
          refine op_val (ex_pick_t hf rfl hc10 rfl) rfl hf rfl rfl fun a hf => ?_
          refine op_val (ex_move hf rfl) rfl hf rfl rfl fun a hf => ?_
          refine op_pass rfl hf rfl rfl (rfl) rfl rfl fun a hf => ?_
          refine op_pass rfl hf rfl rfl (rfl) rfl rfl fun a hf => ?_
          refine op_pass rfl hf rfl rfl (rfl) rfl rfl fun a hf => ?_
          refine op_pass rfl hf rfl rfl (rfl) rfl rfl fun a hf => ?_
          refine op_val (ex_pick_t hf rfl rfl rfl) rfl hf rfl rfl fun a hf => ?_
          refine op_val (ex_assign hf rfl) rfl hf rfl rfl fun a hf => ?_
          refine wpList_nil ?_
          refine nor_then ?_
          exact ⟨true, (hf.cons rfl (hf.cons rfl (hf.cons rfl hf.nil))), hO, hm⟩
        · have hm := ie hc10 hm
          refine op_guard rfl hf rfl rfl (hc10) ?_
          refine op_val (ex_field fa_27_3 hf rfl) rfl hf rfl rfl fun a hf => ?_
          refine op_guard rfl hf rfl rfl (hc10) ?_
          refine op_val (ex_load1 (o := 3) ag_9 (hO.blkSees (i := 0) rfl) rfl hf rfl) rfl hf rfl rfl fun a hf => ?_
          refine op_guard rfl hf rfl rfl (hc10) ?_
          obtain ⟨r11, hr11, hm⟩ := ob hm
          refine op_enter (ex_call c_37 hf (vs := [str x_r.Query, str [47, 63]]) rfl) rfl hf rfl rfl (w_uriref_bytes x_r.Query [47, 63] r11 _ (hG.own hO) hr11) ?_
          rintro e w' ⟨he, hb⟩
          refine ⟨_, he, fun a hf => ?_⟩
          have hO := hO.grow hb
          refine op_guard rfl hf rfl rfl (hc10) ?_
          refine op_val (ex_not hf rfl) rfl hf rfl rfl fun a hf => ?_
          refine op_val (ex_pick_f hf rfl hc10 rfl) rfl hf rfl rfl fun a hf => ?_
          refine op_val (ex_move hf rfl) rfl hf rfl rfl fun a hf => ?_
          rcases bcase (!r11) with hc12 | hc12
          · have hm := it hc12 hm
            refine op_pass rfl hf rfl rfl (hc12) rfl rfl fun a hf => ?_
            refine op_pass rfl hf rfl rfl (hc12) rfl rfl fun a hf => ?_
            refine op_pass rfl hf rfl rfl (hc12) rfl rfl fun a hf => ?_
            refine op_pass rfl hf rfl rfl (hc12) rfl rfl fun a hf => ?_
            refine op_val (ex_pick_t hf rfl hc12 rfl) rfl hf rfl rfl fun a hf => ?_
            refine op_val (ex_assign hf rfl) rfl hf rfl rfl fun a hf => ?_
            refine wpList_nil ?_
            refine nor_then ?_
            exact ⟨true, (hf.cons rfl (hf.cons rfl (hf.cons rfl hf.nil))), hO, hm⟩
          · have hm := ie hc12 hm
            refine op_guard rfl hf rfl rfl (hc12) ?_
            refine op_val (ex_field fa_27_4 hf rfl) rfl hf rfl rfl fun a hf => ?_
            refine op_guard rfl hf rfl rfl (hc12) ?_
            refine op_val (ex_load1 (o := 4) ag_9 (hO.blkSees (i := 0) rfl) rfl hf rfl) rfl hf rfl rfl fun a hf => ?_
            refine op_guard rfl hf rfl rfl (hc12) ?_
            obtain ⟨r13, hr13, hm⟩ := ob hm
            refine op_enter (ex_call c_37 hf (vs := [str x_r.Frag, str [47, 63]]) rfl) rfl hf rfl rfl (w_uriref_bytes x_r.Frag [47, 63] r13 _ (hG.own hO) hr13) ?_
            rintro e w' ⟨he, hb⟩
            refine ⟨_, he, fun a hf => ?_⟩
            have hO := hO.grow hb
            refine op_guard rfl hf rfl rfl (hc12) ?_
            refine op_val (ex_not hf rfl) rfl hf rfl rfl fun a hf => ?_
            refine op_val (ex_pick_f hf rfl hc12 rfl) rfl hf rfl rfl fun a hf => ?_
            refine op_val (ex_assign hf rfl) rfl hf rfl rfl fun a hf => ?_
            refine wpList_nil ?_
            refine nor_then ?_
            exact ⟨!r13, (hf.cons rfl (hf.cons rfl (hf.cons rfl hf.nil))), hO, hm⟩
  · rintro a w ⟨t14, hf, hO, hm⟩
    rw [uriref_well_j1] at hm
    refine wp_cond_cut hf rfl (fun hc15 => ?_) (fun hc15 => ?_)
    · have hm := it hc15 hm
      refine wp_seq_k fun _ hK16 => ?_
      refine wp_region_list ?_
      refine op_val (ex_assign hf rfl) rfl hf rfl rfl fun a hf => ?_
      refine wpList_nil ?_
      refine nor_then (hK16 _ _ ?_)
      refine wp_ret ?_
      refine ret_block ?_
      refine ret_then ?_
      obtain rfl := Option.some.inj hm
      exact post_ret Try.results29 hf (.tmp rfl .nil) ⟨rfl, hO.below⟩
    · have hm := ie hc15 hm
      refine wp_seq_k fun _ hK17 => ?_
      refine wp_region_list ?_
      refine op_val (ex_field fa_27_5 hf rfl) rfl hf rfl rfl fun a hf => ?_
      refine op_val (ex_load1 (o := 5) ag_4 (hO.blkSees (i := 0) rfl) rfl hf rfl) rfl hf rfl rfl fun a hf => ?_
      refine op_val (ex_assign hf rfl) rfl hf rfl rfl fun a hf => ?_
      refine wpList_nil ?_
      refine nor_then (hK17 _ _ ?_)
      refine wp_cond_cut hf rfl (fun hc18 => ?_) (fun hc18 => ?_)
      · have hm := it hc18 hm
        refine wp_seq_cut (fun a w => ∃ (t21 : Bool), Fits 63 [(2, .bool t21)] a ∧ Own w0 [] w [.blk b1 [str x_r.Scheme, str x_r.Auth, str x_r.Path, str x_r.Query, str x_r.Frag, .bool x_r.HasAuth, .bool x_r.HasQuery, .bool x_r.HasFrag] 27] ∧ uriref_well_j2 t21 = some R) ?_ ?_
        · refine wp_region_list ?_
          refine op_val (ex_field fa_27_2 hf rfl) rfl hf rfl rfl fun a hf => ?_
          refine op_val (ex_load1 (o := 2) ag_9 (hO.blkSees (i := 0) rfl) rfl hf rfl) rfl hf rfl rfl fun a hf => ?_
          refine op_val (ex_eql_s (l := x_r.Path) (m := []) hf rfl rfl) rfl hf rfl rfl fun a hf => ?_
          refine op_val (ex_move hf rfl) rfl hf rfl rfl fun a hf => ?_
          rcases bcase (x_r.Path == []) with hc19 | hc19
          · have hm := it hc19 hm
            refine op_pass rfl hf rfl rfl (hc19) rfl rfl fun a hf => ?_
            refine op_pass rfl hf rfl rfl (hc19) rfl rfl fun a hf => ?_
            refine op_pass rfl hf rfl rfl (hc19) rfl rfl fun a hf => ?_
            refine op_pass rfl hf rfl rfl (hc19) rfl rfl fun a hf => ?_
            refine op_val (ex_pick_t hf rfl hc19 rfl) rfl hf rfl rfl fun a hf => ?_
            refine op_val (ex_assign hf rfl) rfl hf rfl rfl fun a hf => ?_
            refine wpList_nil ?_
            refine nor_then ?_
            exact ⟨true, (hf.cons rfl hf.nil), hO, hm⟩
          · have hm := ie hc19 hm
            refine op_guard rfl hf rfl rfl (hc19) ?_
            refine op_val (ex_field fa_27_2 hf rfl) rfl hf rfl rfl fun a hf => ?_
            refine op_guard rfl hf rfl rfl (hc19) ?_
            refine op_val (ex_load1 (o := 2) ag_9 (hO.blkSees (i := 0) rfl) rfl hf rfl) rfl hf rfl rfl fun a hf => ?_
            refine op_guard rfl hf rfl rfl (hc19) ?_
            obtain ⟨b20, hb20, hm⟩ := ob hm
            refine op_val (ex_index (l := x_r.Path) Try.underlying9 hf rfl rfl hb20) rfl hf rfl rfl fun a hf => ?_
            refine op_guard rfl hf rfl rfl (hc19) ?_
            refine op_val (ex_eql_b (b := b20) (c := 47) hf rfl rfl) rfl hf rfl rfl fun a hf => ?_
            refine op_val (ex_pick_f hf rfl hc19 rfl) rfl hf rfl rfl fun a hf => ?_
            refine op_val (ex_assign hf rfl) rfl hf rfl rfl fun a hf => ?_
            refine wpList_nil ?_
            refine nor_then ?_
            exact ⟨b20 == 47, (hf.cons rfl hf.nil), hO, hm⟩
        · rintro a w ⟨t21, hf, hO, hm⟩
          rw [uriref_well_j2] at hm
          refine wp_ret ?_
          refine ret_block ?_
          refine ret_then ?_
          obtain rfl := Option.some.inj hm
          exact post_ret Try.results29 hf (.tmp rfl .nil) ⟨rfl, hO.below⟩
      · have hm := ie hc18 hm
        refine wp_seq_k fun _ hK23 => ?_
        refine wp_region_list ?_
        refine op_val (ex_field fa_27_2 hf rfl) rfl hf rfl rfl fun a hf => ?_
        refine op_val (ex_load1 (o := 2) ag_9 (hO.blkSees (i := 0) rfl) rfl hf rfl) rfl hf rfl rfl fun a hf => ?_
        obtain ⟨r22, hr22, hm⟩ := ob hm
        refine op_enter (ex_call c_35 hf (vs := [str x_r.Path, str [47, 47]]) rfl) rfl hf rfl rfl (w_strings_HasPrefix x_r.Path [47, 47] r22 _ (hG.own hO) hr22) ?_
        rintro e w' ⟨he, hb⟩
        refine ⟨_, he, fun a hf => ?_⟩
        have hO := hO.grow hb
        refine op_val (ex_assign hf rfl) rfl hf rfl rfl fun a hf => ?_
        refine wpList_nil ?_
        refine nor_then (hK23 _ _ ?_)
        refine wp_cond_cut hf rfl (fun hc24 => ?_) (fun hc24 => ?_)
        · have hm := it hc24 hm
          refine wp_seq_k fun _ hK25 => ?_
          refine wp_region_list ?_
          refine op_val (ex_assign hf rfl) rfl hf rfl rfl fun a hf => ?_
          refine wpList_nil ?_
          refine nor_then (hK25 _ _ ?_)
          refine wp_ret ?_
          refine ret_block ?_
          refine ret_then ?_
          obtain rfl := Option.some.inj hm
          exact post_ret Try.results29 hf (.tmp rfl .nil) ⟨rfl, hO.below⟩
        · have hm := ie hc24 hm
          refine wp_skip ?_
          refine nor_block ?_
          refine nor_then (hK26 _ _ ?_)
          refine wp_seq_cut (fun a w => ∃ (t29 : Bool), Fits 63 [(2, .bool t29)] a ∧ Own w0 [] w [.blk b1 [str x_r.Scheme, str x_r.Auth, str x_r.Path, str x_r.Query, str x_r.Frag, .bool x_r.HasAuth, .bool x_r.HasQuery, .bool x_r.HasFrag] 27] ∧ uriref_well_j3 t29 = some R) ?_ ?_
          · refine wp_region_list ?_
            refine op_val (ex_field fa_27_0 hf rfl) rfl hf rfl rfl fun a hf => ?_
            refine op_val (ex_load1 (o := 0) ag_9 (hO.blkSees (i := 0) rfl) rfl hf rfl) rfl hf rfl rfl fun a hf => ?_
            refine op_val (ex_neq_s (l := x_r.Scheme) (m := []) hf rfl rfl) rfl hf rfl rfl fun a hf => ?_
            refine op_val (ex_move hf rfl) rfl hf rfl rfl fun a hf => ?_
            rcases bcase (!(x_r.Scheme == [])) with hc27 | hc27
            · have hm := it hc27 hm
              refine op_pass rfl hf rfl rfl (hc27) rfl rfl fun a hf => ?_
              refine op_pass rfl hf rfl rfl (hc27) rfl rfl fun a hf => ?_
              refine op_pass rfl hf rfl rfl (hc27) rfl rfl fun a hf => ?_
              refine op_val (ex_pick_t hf rfl hc27 rfl) rfl hf rfl rfl fun a hf => ?_
              refine op_val (ex_assign hf rfl) rfl hf rfl rfl fun a hf => ?_
              refine wpList_nil ?_
              refine nor_then ?_
              exact ⟨true, (hf.cons rfl hf.nil), hO, hm⟩
            · have hm := ie hc27 hm
              refine op_guard rfl hf rfl rfl (hc27) ?_
              refine op_val (ex_move hf rfl) rfl hf rfl rfl fun a hf => ?_
              refine op_guard rfl hf rfl rfl (hc27) ?_
              obtain ⟨r28, hr28, hm⟩ := ob hm
              refine op_enter (ex_call c_38 hf (vs := [str r3.1, str [58]]) rfl) rfl hf rfl rfl (w_strings_Contains r3.1 [58] r28 _ (hG.own hO) hr28) ?_
              rintro e w' ⟨he, hb⟩
              refine ⟨_, he, fun a hf => ?_⟩
              have hO := hO.grow hb
              refine op_guard rfl hf rfl rfl (hc27) ?_
              refine op_val (ex_not hf rfl) rfl hf rfl rfl fun a hf => ?_
              refine op_val (ex_pick_f hf rfl hc27 rfl) rfl hf rfl rfl fun a hf => ?_
              refine op_val (ex_assign hf rfl) rfl hf rfl rfl fun a hf => ?_
              refine wpList_nil ?_
              refine nor_then ?_
              exact ⟨!r28, (hf.cons rfl hf.nil), hO, hm⟩
          · rintro a w ⟨t29, hf, hO, hm⟩
            rw [uriref_well_j3] at hm
            refine wp_ret ?_
            obtain rfl := Option.some.inj hm
            exact post_ret Try.results29 hf (.tmp rfl .nil) ⟨rfl, hO.below⟩

set_option maxHeartbeats 1000000 in
theorem w_uriref_Parse (x_s : Str) (R : api_Ref × Int) (w0 : World) (hG : Glob w0) (hm : uriref_Parse x_s = some R) :
    Calls Try.prog 20 #[str x_s] w0 fun e w' => e = .returned (.tuple #[.agg #[str R.1.Scheme, str R.1.Auth, str R.1.Path, str R.1.Query, str R.1.Frag, .bool R.1.HasAuth, .bool R.1.HasQuery, .bool R.1.HasFrag], int R.2]) ∧ Below w0.heap.size w0 w' := by
  rw [uriref_Parse] at hm
  refine calls_enter (vs := [str x_s]) Try.func20 rfl Try.ntmps20 rfl fun a hf => ?_
  have hO : Own w0 [] w0 [] := Own.refl w0
  refine wp_seq_k fun _ hK2 => ?_
  refine wp_region_list ?_
  refine op_alloc al_27 hf rfl hO fun a b1 w hf hO => ?_
  refine op_val (ex_assign hf rfl) rfl hf rfl rfl fun a hf => ?_
  refine wpList_nil ?_
  refine nor_then (hK2 _ _ ?_)
  refine wp_seq_k fun _ hK5 => ?_
  refine wp_region_list ?_
  refine op_val (ex_move hf rfl) rfl hf rfl rfl fun a hf => ?_
  obtain ⟨r3, hr3, hm⟩ := ob hm
  refine op_enter (ex_call c_28 hf (vs := [str x_s]) rfl) rfl hf rfl rfl (w_uriref_parts x_s r3 _ (hG.own hO) hr3) ?_
  rintro e w' ⟨he, hb⟩
  refine ⟨_, he, fun a hf => ?_⟩
  have hO := hO.grow hb
  refine op_alloc al_27 hf rfl hO fun a b4 w hf hO => ?_
  refine op_storeN (i := 0) (n := 8) sz_27 rfl rfl rfl (by simp [Value.oneCell']) hf rfl rfl hO fun w hO => ?_
  refine wpList_nil ?_
  refine nor_then (hK5 _ _ ?_)
  refine wp_seq_k fun _ hK10 => ?_
  refine wp_seq_k fun _ hK7 => ?_
  refine wp_region_list ?_
  refine op_val (ex_loadN (o := 0) (vs := [str r3.Scheme, str r3.Auth, str r3.Path, str r3.Query, str r3.Frag, .bool r3.HasAuth, .bool r3.HasQuery, .bool r3.HasFrag]) ag_27 sz_27 (hO.blkSees (i := 0) rfl) rfl rfl hf rfl) rfl hf rfl rfl fun a hf => ?_
  obtain ⟨r6, hr6, hm⟩ := ob hm
  refine op_enter (ex_call c_29 hf (vs := [.agg #[str r3.Scheme, str r3.Auth, str r3.Path, str r3.Query, str r3.Frag, .bool r3.HasAuth, .bool r3.HasQuery, .bool r3.HasFrag]]) rfl) rfl hf rfl rfl (w_uriref_well r3 r6 _ (hG.own hO) hr6) ?_
  rintro e w' ⟨he, hb⟩
  refine ⟨_, he, fun a hf => ?_⟩
  have hO := hO.grow hb
  refine op_val (ex_not hf rfl) rfl hf rfl rfl fun a hf => ?_
  refine wpList_nil ?_
  refine nor_then (hK7 _ _ ?_)
  refine wp_cond_cut hf rfl (fun hc8 => ?_) (fun hc8 => ?_)
  · have hm := it hc8 hm
    refine wp_seq_k fun _ hK9 => ?_
    refine wp_region_list ?_
    refine op_val (ex_build (vs := []) (v := .agg #[str [], str [], str [], str [], str [], .bool false, .bool false, .bool false]) hf rfl (by kernel_rfl)) rfl hf rfl rfl fun a hf => ?_
    refine op_storeN (i := 1) (n := 8) sz_27 rfl rfl rfl (by simp [Value.oneCell']) hf rfl rfl hO fun w hO => ?_
    refine op_val (ex_assign hf rfl) rfl hf rfl rfl fun a hf => ?_
    refine wpList_nil ?_
    refine nor_then (hK9 _ _ ?_)
    refine wp_ret ?_
    refine ret_then ?_
    obtain rfl := Option.some.inj hm
    exact post_ret Try.results20 hf (.cell rfl (run_loadVarN (n := 8) (vs := [str [], str [], str [], str [], str [], .bool false, .bool false, .bool false]) ag_27 sz_27 rfl ((hO.blkSees (i := 1) rfl).cells (o := 0) (n := 8) rfl)) (.tmp rfl .nil)) ⟨rfl, hO.below⟩
  · have hm := ie hc8 hm
    refine wp_skip ?_
    refine nor_then (hK10 _ _ ?_)
    refine wp_seq_k fun _ hK11 => ?_
    refine wp_region_list ?_
    refine op_val (ex_loadN (o := 0) (vs := [str r3.Scheme, str r3.Auth, str r3.Path, str r3.Query, str r3.Frag, .bool r3.HasAuth, .bool r3.HasQuery, .bool r3.HasFrag]) ag_27 sz_27 (hO.blkSees (i := 0) rfl) rfl rfl hf rfl) rfl hf rfl rfl fun a hf => ?_
    refine op_storeN (i := 1) (n := 8) sz_27 rfl rfl rfl (by simp [Value.oneCell']) hf rfl rfl hO fun w hO => ?_
    refine op_val (ex_assign hf rfl) rfl hf rfl rfl fun a hf => ?_
    refine wpList_nil ?_
    refine nor_then (hK11 _ _ ?_)
    refine wp_ret ?_
    obtain rfl := Option.some.inj hm
    exact post_ret Try.results20 hf (.cell rfl (run_loadVarN (n := 8) (vs := [str r3.Scheme, str r3.Auth, str r3.Path, str r3.Query, str r3.Frag, .bool r3.HasAuth, .bool r3.HasQuery, .bool r3.HasFrag]) ag_27 sz_27 rfl ((hO.blkSees (i := 1) rfl).cells (o := 0) (n := 8) rfl)) (.tmp rfl .nil)) ⟨rfl, hO.below⟩

set_option maxHeartbeats 1000000 in
theorem w_location_is (x_s : Str) (R : Bool) (w0 : World) (hG : Glob w0) (hm : location_is x_s = some R) :
    Calls Try.prog 12 #[str x_s] w0 fun e w' => e = .returned (.bool R) ∧ Below w0.heap.size w0 w' := by
  rw [location_is] at hm
  refine calls_enter (vs := [str x_s]) Try.func12 rfl Try.ntmps12 rfl fun a hf => ?_
  have hO : Own w0 [] w0 [] := Own.refl w0
  refine wp_seq_k fun _ hK1 => ?_
  refine wp_region_list ?_
  refine op_val (ex_assign hf rfl) rfl hf rfl rfl fun a hf => ?_
  refine wpList_nil ?_
  refine nor_then (hK1 _ _ ?_)
  refine wp_seq_k fun _ hK4 => ?_
  refine wp_region_list ?_
  refine op_val (ex_move hf rfl) rfl hf rfl rfl fun a hf => ?_
  obtain ⟨r2, hr2, hm⟩ := ob hm
  refine op_enter (ex_call c_20 hf (vs := [str x_s]) rfl) rfl hf rfl rfl (w_uriref_Parse x_s r2 _ (hG.own hO) hr2) ?_
  rintro e w' ⟨he, hb⟩
  refine ⟨_, he, fun a hf => ?_⟩
  have hO := hO.grow hb
  refine op_val (ex_move hf rfl) rfl hf rfl rfl fun a hf => ?_
  refine op_val (ex_extract hf rfl rfl) rfl hf rfl rfl fun a hf => ?_
  refine op_val (ex_extract hf rfl rfl) rfl hf rfl rfl fun a hf => ?_
  refine op_alloc al_27 hf rfl hO fun a b3 w hf hO => ?_
  refine op_storeN (i := 0) (n := 8) sz_27 rfl rfl rfl (by simp [Value.oneCell']) hf rfl rfl hO fun w hO => ?_
  refine op_val (ex_assign hf rfl) rfl hf rfl rfl fun a hf => ?_
  refine wpList_nil ?_
  refine nor_then (hK4 _ _ ?_)
  refine wp_seq_k fun _ hK5 => ?_
  refine wp_region_list ?_
  refine op_val (ex_move hf rfl) rfl hf rfl rfl fun a hf => ?_
  refine op_val (ex_eql (m := r2.2) (n := 0) hf rfl rfl) rfl hf rfl rfl fun a hf => ?_
  refine op_val (ex_assign hf rfl) rfl hf rfl rfl fun a hf => ?_
  refine wpList_nil ?_
  refine nor_then (hK5 _ _ ?_)
  refine wp_ret ?_
  obtain rfl := Option.some.inj hm
  exact post_ret Try.results12 hf (.tmp rfl .nil) ⟨rfl, hO.below⟩

set_option maxHeartbeats 1000000 in
theorem w_location_Rewrite (x_s : Str) (x_l : List api_Swap) (R : Str) (w0 : World) (hG : Glob w0) {x_l_p0 : Option Addr} {x_l_c0 : Nat} (hs0 : Sees w0 x_l_p0 (cells enc_api_Swap x_l)) (hm : location_Rewrite x_s x_l = some R) :
    Calls Try.prog 6 #[str x_s, .slice x_l_p0 x_l.length x_l_c0] w0 fun e w' => e = .returned (str R) ∧ Below w0.heap.size w0 w' := by
  rw [location_Rewrite] at hm
  refine calls_enter (vs := [str x_s, .slice x_l_p0 x_l.length x_l_c0]) Try.func6 rfl Try.ntmps6 rfl fun a hf => ?_
  have hO : Own w0 [] w0 [] := Own.refl w0
  have hO := hO.addShr hs0 (by simp [Res.shared])
  refine wp_seq_k fun _ hK1 => ?_
  refine wp_region_list ?_
  refine op_val (ex_assign hf rfl) rfl hf rfl rfl fun a hf => ?_
  refine wpList_nil ?_
  refine nor_then (hK1 _ _ ?_)
  refine wp_seq_k fun _ hK3 => ?_
  refine wp_region_list ?_
  refine op_val (ex_move hf rfl) rfl hf rfl rfl fun a hf => ?_
  refine op_val (ex_move hf rfl) rfl hf rfl rfl fun a hf => ?_
  obtain ⟨r2, hr2, hm⟩ := ob hm
  refine op_enter (ex_call c_11 hf (vs := [str x_s, .slice x_l_p0 x_l.length x_l_c0]) rfl) rfl hf rfl rfl (w_uriref_Swap x_s x_l r2 _ (hG.own hO) (hO.sees (i := 0) rfl) hr2) ?_
  rintro e w' ⟨he, hb⟩
  refine ⟨_, he, fun a hf => ?_⟩
  have hO := hO.grow hb
  refine op_val (ex_move hf rfl) rfl hf rfl rfl fun a hf => ?_
  refine op_val (ex_extract hf rfl rfl) rfl hf rfl rfl fun a hf => ?_
  refine op_val (ex_extract hf rfl rfl) rfl hf rfl rfl fun a hf => ?_
  refine op_val (ex_assign hf rfl) rfl hf rfl rfl fun a hf => ?_
  refine op_val (ex_assign hf rfl) rfl hf rfl rfl fun a hf => ?_
  refine wpList_nil ?_
  refine nor_then (hK3 _ _ ?_)
  refine wp_seq_k fun _ hK11 => ?_
  refine wp_seq_cut (fun a w => ∃ (t8 : Bool), Fits 27 [(0, str x_s), (5, str r2.1), (24, .bool t8)] a ∧ Own w0 [] w [.shr x_l_p0 (cells enc_api_Swap x_l)] ∧ location_Rewrite_j1 x_s r2 t8 = some R) ?_ ?_
  · refine wp_region_list ?_
    refine op_val (ex_move hf rfl) rfl hf rfl rfl fun a hf => ?_
    refine op_val (ex_not hf rfl) rfl hf rfl rfl fun a hf => ?_
    refine op_val (ex_move hf rfl) rfl hf rfl rfl fun a hf => ?_
    rcases bcase (!r2.2) with hc4 | hc4
    · have hm := it hc4 hm
      refine op_pass rfl hf rfl rfl (hc4) rfl rfl fun a hf => ?_
      refine op_pass rfl hf rfl rfl (hc4) rfl rfl fun a hf => ?_
      refine op_pass rfl hf rfl rfl (hc4) rfl rfl fun a hf => ?_
      refine op_val (ex_pick_t hf rfl hc4 rfl) rfl hf rfl rfl fun a hf => ?_
      refine op_val (ex_move hf rfl) rfl hf rfl rfl fun a hf => ?_
      refine op_pass rfl hf rfl rfl (rfl) rfl rfl fun a hf => ?_
      refine op_pass rfl hf rfl rfl (rfl) rfl rfl fun a hf => ?_
      refine op_pass rfl hf rfl rfl (rfl) rfl rfl fun a hf => ?_
      refine op_val (ex_pick_t hf rfl rfl rfl) rfl hf rfl rfl fun a hf => ?_
      refine wpList_nil ?_
      refine nor_then ?_
      exact ⟨true, (hf.cons rfl (hf.cons rfl (hf.cons rfl hf.nil))), hO, hm⟩
    · have hm := ie hc4 hm
      refine op_guard rfl hf rfl rfl (hc4) ?_
      refine op_val (ex_move hf rfl) rfl hf rfl rfl fun a hf => ?_
      refine op_guard rfl hf rfl rfl (hc4) ?_
      obtain ⟨r5, hr5, hm⟩ := ob hm
      refine op_enter (ex_call c_12 hf (vs := [str x_s]) rfl) rfl hf rfl rfl (w_location_is x_s r5 _ (hG.own hO) hr5) ?_
      rintro e w' ⟨he, hb⟩
      refine ⟨_, he, fun a hf => ?_⟩
      have hO := hO.grow hb
      refine op_guard rfl hf rfl rfl (hc4) ?_
      refine op_val (ex_not hf rfl) rfl hf rfl rfl fun a hf => ?_
      refine op_val (ex_pick_f hf rfl hc4 rfl) rfl hf rfl rfl fun a hf => ?_
      refine op_val (ex_move hf rfl) rfl hf rfl rfl fun a hf => ?_
      rcases bcase (!r5) with hc6 | hc6
      · have hm := it hc6 hm
        refine op_pass rfl hf rfl rfl (hc6) rfl rfl fun a hf => ?_
        refine op_pass rfl hf rfl rfl (hc6) rfl rfl fun a hf => ?_
        refine op_pass rfl hf rfl rfl (hc6) rfl rfl fun a hf => ?_
        refine op_val (ex_pick_t hf rfl hc6 rfl) rfl hf rfl rfl fun a hf => ?_
        refine wpList_nil ?_
        refine nor_then ?_
        exact ⟨true, (hf.cons rfl (hf.cons rfl (hf.cons rfl hf.nil))), hO, hm⟩
      · have hm := ie hc6 hm
        refine op_guard rfl hf rfl rfl (hc6) ?_
        refine op_val (ex_move hf rfl) rfl hf rfl rfl fun a hf => ?_
        refine op_guard rfl hf rfl rfl (hc6) ?_
        obtain ⟨r7, hr7, hm⟩ := ob hm
        refine op_enter (ex_call c_12 hf (vs := [str r2.1]) rfl) rfl hf rfl rfl (w_location_is r2.1 r7 _ (hG.own hO) hr7) ?_
        rintro e w' ⟨he, hb⟩
        refine ⟨_, he, fun a hf => ?_⟩
        have hO := hO.grow hb
        refine op_guard rfl hf rfl rfl (hc6) ?_
        refine op_val (ex_not hf rfl) rfl hf rfl rfl fun a hf => ?_
        refine op_val (ex_pick_f hf rfl hc6 rfl) rfl hf rfl rfl fun a hf => ?_
        refine wpList_nil ?_
        refine nor_then ?_
        exact ⟨!r7, (hf.cons rfl (hf.cons rfl (hf.cons rfl hf.nil))), hO, hm⟩
  · rintro a w ⟨t8, hf, hO, hm⟩
    rw [location_Rewrite_j1] at hm
    refine wp_cond_cut hf rfl (fun hc9 => ?_) (fun hc9 => ?_)
    · have hm := it hc9 hm
      refine wp_seq_k fun _ hK10 => ?_
      refine wp_region_list ?_
      refine op_val (ex_move hf rfl) rfl hf rfl rfl fun a hf => ?_
      refine op_val (ex_assign hf rfl) rfl hf rfl rfl fun a hf => ?_
      refine wpList_nil ?_
      refine nor_then (hK10 _ _ ?_)
      refine wp_ret ?_
      refine ret_then ?_
      obtain rfl := Option.some.inj hm
      exact post_ret Try.results6 hf (.tmp rfl .nil) ⟨rfl, hO.below⟩
    · have hm := ie hc9 hm
      refine wp_skip ?_
      refine nor_then (hK11 _ _ ?_)
      refine wp_seq_k fun _ hK12 => ?_
      refine wp_region_list ?_
      refine op_val (ex_move hf rfl) rfl hf rfl rfl fun a hf => ?_
      refine op_val (ex_assign hf rfl) rfl hf rfl rfl fun a hf => ?_
      refine wpList_nil ?_
      refine nor_then (hK12 _ _ ?_)
      refine wp_ret ?_
      obtain rfl := Option.some.inj hm
      exact post_ret Try.results6 hf (.tmp rfl .nil) ⟨rfl, hO.below⟩

set_option maxHeartbeats 1000000 in
theorem w_law30_awake (R : Bool) (w0 : World) (hG : Glob w0) (hm : law30_awake = some R) :
    Calls Try.prog 4 #[] w0 fun e w' => e = .returned (.bool R) ∧ Below w0.heap.size w0 w' := by
  rw [law30_awake] at hm
  refine calls_enter (vs := []) Try.func4 rfl Try.ntmps4 rfl fun a hf => ?_
  have hO : Own w0 [] w0 [] := Own.refl w0
  refine wp_seq_k fun _ hK1 => ?_
  refine wp_region_list ?_
  refine op_val (ex_assign hf rfl) rfl hf rfl rfl fun a hf => ?_
  refine wpList_nil ?_
  refine nor_then (hK1 _ _ ?_)
  refine wp_seq_k fun _ hK4 => ?_
  refine wp_region_list ?_
  refine op_val (ex_build (vs := [(0, str [104, 116, 116, 112, 58, 47, 47, 117, 112]), (1, str [47, 120])]) (v := .agg #[str [104, 116, 116, 112, 58, 47, 47, 117, 112], str [47, 120]]) hf rfl (by kernel_rfl)) rfl hf rfl rfl fun a hf => ?_
  refine op_buildSlice (vs := [(0, .agg #[str [104, 116, 116, 112, 58, 47, 47, 117, 112], str [47, 120]])]) (cs := [str [104, 116, 116, 112, 58, 47, 47, 117, 112], str [47, 120]]) (e := 36) (sz := 2) hf rfl rfl (fun w => by kernel_rfl) rfl rfl hO fun a b2 w hf hO => ?_
  obtain ⟨r3, hr3, hm⟩ := ob hm
  refine op_enter (ex_call c_6 hf (vs := [str [104, 116, 116, 112, 58, 47, 47, 117, 112, 47, 97, 63, 98], .slice (some ⟨b2, 0, none⟩) (([(⟨[104, 116, 116, 112, 58, 47, 47, 117, 112], [47, 120]⟩ : api_Swap)]).length) 1]) rfl) rfl hf rfl rfl (w_location_Rewrite [104, 116, 116, 112, 58, 47, 47, 117, 112, 47, 97, 63, 98] ([(⟨[104, 116, 116, 112, 58, 47, 47, 117, 112], [47, 120]⟩ : api_Swap)]) r3 _ (hG.own hO) (hO.rowSees (i := 0) rfl) hr3) ?_
  rintro e w' ⟨he, hb⟩
  refine ⟨_, he, fun a hf => ?_⟩
  have hO := hO.grow hb
  refine op_val (ex_eql_s (l := r3) (m := [47, 120, 47, 97, 63, 98]) hf rfl rfl) rfl hf rfl rfl fun a hf => ?_
  refine op_val (ex_assign hf rfl) rfl hf rfl rfl fun a hf => ?_
  refine wpList_nil ?_
  refine nor_then (hK4 _ _ ?_)
  refine wp_ret ?_
  obtain rfl := Option.some.inj hm
  exact post_ret Try.results4 hf (.tmp rfl .nil) ⟨rfl, hO.below⟩

set_option maxHeartbeats 1000000 in
theorem w_law29_Few (x_l : List api_Swap) (R : List api_Swap) (w0 : World) (hG : Glob w0) {x_l_p0 : Option Addr} {x_l_c0 : Nat} (hs0 : Sees w0 x_l_p0 (cells enc_api_Swap x_l)) (hm : law29_Few x_l = some R) :
    Calls Try.prog 5 #[.slice x_l_p0 x_l.length x_l_c0] w0 fun e w' => ∃ (p0 : Option Addr) (c0 : Nat), e = .returned (.slice p0 R.length c0) ∧ Own w0 [] w' [.row (.slice p0 R.length c0) 36 2 R.length (cells enc_api_Swap R)] := by
  rw [law29_Few] at hm
  refine calls_enter (vs := [.slice x_l_p0 x_l.length x_l_c0]) Try.func5 rfl Try.ntmps5 rfl fun a hf => ?_
  have hO : Own w0 [] w0 [] := Own.refl w0
  have hO := hO.addShr hs0 (by simp [Res.shared])
  refine wp_seq_k fun _ hK1 => ?_
  refine wp_region_list ?_
  refine op_val (ex_assign hf rfl) rfl hf rfl rfl fun a hf => ?_
  refine wpList_nil ?_
  refine nor_then (hK1 _ _ ?_)
  refine wp_seq_k fun _ hK2 => ?_
  refine wp_region_list ?_
  refine op_val (ex_assign hf rfl) rfl hf rfl rfl fun a hf => ?_
  refine wpList_nil ?_
  refine nor_then (hK2 _ _ ?_)
  refine wp_seq_k fun _ hK32 => ?_
  refine wp_seq_k fun _ hK3 => ?_
  refine wp_region_list ?_
  refine op_val (ex_assign hf rfl) rfl hf rfl rfl fun a hf => ?_
  refine wpList_nil ?_
  refine nor_then (hK3 _ _ ?_)
  refine wp_block ?_
  have hO := hO.nilRow 36 2
  refine wp_loop_n (fun k a w => ∃ (p4 : Option Addr) (c5 : Nat) (l6 : List api_Swap) (i7 : Int), Fits 46 [(0, .slice x_l_p0 x_l.length x_l_c0), (3, .slice p4 l6.length c5), (4, int i7)] a ∧ Own w0 [] w [.row (.slice p4 l6.length c5) 36 2 l6.length (cells enc_api_Swap l6), .shr x_l_p0 (cells enc_api_Swap x_l)] ∧ law29_Few_L1 x_l k l6 i7 = some R) ?_ fuel ?_
  · rintro n1 a w ⟨p4, c5, l6, i7, hf, hO, hm⟩
    obtain _ | n1 := n1
    · rw [law29_Few_L1] at hm
      cases hm
    · rw [law29_Few_L1] at hm
      refine wp_seq_k fun _ hK11 => ?_
      refine wp_seq_cut (fun a w => ∃ (t9 : Bool), Fits 46 [(0, .slice x_l_p0 x_l.length x_l_c0), (3, .slice p4 l6.length c5), (4, int i7), (12, .bool t9)] a ∧ Own w0 [] w [.row (.slice p4 l6.length c5) 36 2 l6.length (cells enc_api_Swap l6), .shr x_l_p0 (cells enc_api_Swap x_l)] ∧ law29_Few_j2 (law29_Few_L1 x_l n1) x_l l6 i7 t9 = some R) ?_ ?_
      · refine wp_region_list ?_
        refine op_val (ex_move hf rfl) rfl hf rfl rfl fun a hf => ?_
        refine op_val (ex_move hf rfl) rfl hf rfl rfl fun a hf => ?_
        refine op_val (ex_len_l Try.underlying22 hf rfl) rfl hf rfl rfl fun a hf => ?_
        refine op_val (ex_lss (m := i7) (n := (x_l.length : Int)) hf rfl rfl) rfl hf rfl rfl fun a hf => ?_
        refine op_val (ex_move hf rfl) rfl hf rfl rfl fun a hf => ?_
        rcases bcase (decide (i7 < (x_l.length : Int))) with hc8 | hc8
        · have hm := it hc8 hm
          refine op_guard rfl hf rfl rfl (hc8) ?_
          refine op_val (ex_move hf rfl) rfl hf rfl rfl fun a hf => ?_
          refine op_guard rfl hf rfl rfl (hc8) ?_
          refine op_val (ex_lss (m := i7) (n := 70) hf rfl rfl) rfl hf rfl rfl fun a hf => ?_
          refine op_val (ex_pick_t hf rfl hc8 rfl) rfl hf rfl rfl fun a hf => ?_
          refine wpList_nil ?_
          refine nor_then ?_
          exact ⟨decide (i7 < 70), (hf.cons rfl (hf.cons rfl (hf.cons rfl (hf.cons rfl hf.nil)))), hO, hm⟩
        · have hm := ie hc8 hm
          refine op_pass rfl hf rfl rfl (hc8) rfl rfl fun a hf => ?_
          refine op_pass rfl hf rfl rfl (hc8) rfl rfl fun a hf => ?_
          refine op_val (ex_pick_f hf rfl hc8 rfl) rfl hf rfl rfl fun a hf => ?_
          refine wpList_nil ?_
          refine nor_then ?_
          exact ⟨false, (hf.cons rfl (hf.cons rfl (hf.cons rfl (hf.cons rfl hf.nil)))), hO, hm⟩
      · rintro a w ⟨t9, hf, hO, hm⟩
        rw [law29_Few_j2] at hm
        refine wp_cond_cut hf rfl (fun hc10 => ?_) (fun hc10 => ?_)
        · have hm := it hc10 hm
          refine wp_skip ?_
          refine nor_then (hK11 _ _ ?_)
          refine wp_seq_k fun _ hK30 => ?_
          refine wp_block ?_
          obtain ⟨x12, hx12, hm⟩ := ob hm
          obtain ⟨b13, o14, hix12, hSx12⟩ := elemAt (enc := enc_api_Swap) (sz := 2) (xs := x_l) 22 Try.underlying22 sz_36 (by decide) (fun _ => rfl) (hO.sees (i := 1) rfl) hx12
          obtain ⟨x15, hx15, hm⟩ := ob hm
          obtain ⟨b16, o17, hix15, hSx15⟩ := elemAt (enc := enc_api_Swap) (sz := 2) (xs := x_l) 22 Try.underlying22 sz_36 (by decide) (fun _ => rfl) (hO.sees (i := 1) rfl) hx15
          obtain ⟨s18, hs18, hm⟩ := ob hm
          obtain ⟨x19, hx19, hm⟩ := ob hm
          obtain ⟨b20, o21, hix19, hSx19⟩ := elemAt (enc := enc_api_Swap) (sz := 2) (xs := x_l) 22 Try.underlying22 sz_36 (by decide) (fun _ => rfl) (hO.sees (i := 1) rfl) hx19
          obtain ⟨x22, hx22, hm⟩ := ob hm
          obtain ⟨b23, o24, hix22, hSx22⟩ := elemAt (enc := enc_api_Swap) (sz := 2) (xs := x_l) 22 Try.underlying22 sz_36 (by decide) (fun _ => rfl) (hO.sees (i := 1) rfl) hx22
          obtain ⟨s25, hs25, hm⟩ := ob hm
          obtain ⟨hg29, hm⟩ := og hm
          refine wp_drawS' (S := Nat × Option Addr × Nat) (E0 := [(0, .slice x_l_p0 x_l.length x_l_c0), (3, .slice p4 l6.length c5), (4, int i7)]) (by kernel_rfl) (fun k σ w => match k with | 0 => Own w0 [] w [.row (.slice p4 l6.length c5) 36 2 l6.length (cells enc_api_Swap l6), .shr x_l_p0 (cells enc_api_Swap x_l)] | 1 => Own w0 [] w [.row (.slice (some ⟨(σ.1), 0, none⟩) (([(⟨s18, s25⟩ : api_Swap)]).length) 1) 36 2 (([(⟨s18, s25⟩ : api_Swap)]).length) (cells enc_api_Swap ([(⟨s18, s25⟩ : api_Swap)])), .row (.slice p4 l6.length c5) 36 2 l6.length (cells enc_api_Swap l6), .shr x_l_p0 (cells enc_api_Swap x_l)] | _ => Own w0 [] w [.row (.slice (some ⟨(σ.1), 0, none⟩) (([(⟨s18, s25⟩ : api_Swap)]).length) 1) 36 2 (([(⟨s18, s25⟩ : api_Swap)]).length) (cells enc_api_Swap ([(⟨s18, s25⟩ : api_Swap)])), .row (.slice (σ.2.1) ((l6 ++ [(⟨s18, s25⟩ : api_Swap)]).length) (σ.2.2)) 36 2 ((l6 ++ [(⟨s18, s25⟩ : api_Swap)]).length) (cells enc_api_Swap (l6 ++ [(⟨s18, s25⟩ : api_Swap)])), .shr x_l_p0 (cells enc_api_Swap x_l)]) (fun σ => [⟨[(3, .slice p4 l6.length c5)], some (15, .slice p4 l6.length c5)⟩, ⟨[(0, .slice x_l_p0 x_l.length x_l_c0)], some (16, .slice x_l_p0 x_l.length x_l_c0)⟩, ⟨[(4, int i7)], some (17, int i7)⟩, ⟨[(16, .slice x_l_p0 x_l.length x_l_c0), (17, int i7)], some (18, ptr b13 o14)⟩, ⟨[(18, ptr b13 o14)], some (19, ptr b13 o14)⟩, ⟨[(19, ptr b13 o14)], some (20, str x12.From)⟩, ⟨[(0, .slice x_l_p0 x_l.length x_l_c0)], some (21, .slice x_l_p0 x_l.length x_l_c0)⟩, ⟨[(4, int i7)], some (22, int i7)⟩, ⟨[(21, .slice x_l_p0 x_l.length x_l_c0), (22, int i7)], some (23, ptr b16 o17)⟩, ⟨[(23, ptr b16 o17)], some (24, ptr b16 o17)⟩, ⟨[(24, ptr b16 o17)], some (25, str x15.From)⟩, ⟨[(25, str x15.From)], some (26, int (x15.From.length : Int))⟩, ⟨[(26, int (x15.From.length : Int))], some (27, int (min (x15.From.length : Int) 60))⟩, ⟨[(20, str x12.From), (27, int (min (x15.From.length : Int) 60))], some (28, str s18)⟩, ⟨[(0, .slice x_l_p0 x_l.length x_l_c0)], some (29, .slice x_l_p0 x_l.length x_l_c0)⟩, ⟨[(4, int i7)], some (30, int i7)⟩, ⟨[(29, .slice x_l_p0 x_l.length x_l_c0), (30, int i7)], some (31, ptr b20 o21)⟩, ⟨[(31, ptr b20 o21)], some (32, ptr b20 (o21 + 1))⟩, ⟨[(32, ptr b20 (o21 + 1))], some (33, str x19.To)⟩, ⟨[(0, .slice x_l_p0 x_l.length x_l_c0)], some (34, .slice x_l_p0 x_l.length x_l_c0)⟩, ⟨[(4, int i7)], some (35, int i7)⟩, ⟨[(34, .slice x_l_p0 x_l.length x_l_c0), (35, int i7)], some (36, ptr b23 o24)⟩, ⟨[(36, ptr b23 o24)], some (37, ptr b23 (o24 + 1))⟩, ⟨[(37, ptr b23 (o24 + 1))], some (38, str x22.To)⟩, ⟨[(38, str x22.To)], some (39, int (x22.To.length : Int))⟩, ⟨[(39, int (x22.To.length : Int))], some (40, int (min (x22.To.length : Int) 60))⟩, ⟨[(33, str x19.To), (40, int (min (x22.To.length : Int) 60))], some (41, str s25)⟩, ⟨[(28, str s18), (41, str s25)], some (42, .agg #[str s18, str s25])⟩, ⟨[(42, .agg #[str s18, str s25])], some (43, .slice (some ⟨(σ.1), 0, none⟩) (([(⟨s18, s25⟩ : api_Swap)]).length) 1)⟩, ⟨[(15, .slice p4 l6.length c5), (43, .slice (some ⟨(σ.1), 0, none⟩) (([(⟨s18, s25⟩ : api_Swap)]).length) 1)], some (44, .slice (σ.2.1) ((l6 ++ [(⟨s18, s25⟩ : api_Swap)]).length) (σ.2.2))⟩, ⟨[(44, .slice (σ.2.1) ((l6 ++ [(⟨s18, s25⟩ : api_Swap)]).length) (σ.2.2))], some (3, .slice (σ.2.1) ((l6 ++ [(⟨s18, s25⟩ : api_Swap)]).length) (σ.2.2))⟩]) (0, none, 0) [28, 29] rfl (fun _ => rfl) (fun _ => rfl) (fun _ => rfl) rfl rfl (by decide) rfl hO.drew (hf.cons rfl (hf.cons rfl (hf.cons rfl hf.nil))) (fun σ => ⟨⟨rfl, trivial⟩, ⟨⟨rfl, trivial⟩, ⟨⟨rfl, trivial⟩, ⟨⟨rfl, ⟨rfl, trivial⟩⟩, ⟨⟨rfl, trivial⟩, ⟨⟨rfl, trivial⟩, ⟨⟨rfl, trivial⟩, ⟨⟨rfl, trivial⟩, ⟨⟨rfl, ⟨rfl, trivial⟩⟩, ⟨⟨rfl, trivial⟩, ⟨⟨rfl, trivial⟩, ⟨⟨rfl, trivial⟩, ⟨⟨rfl, trivial⟩, ⟨⟨rfl, ⟨rfl, trivial⟩⟩, ⟨⟨rfl, trivial⟩, ⟨⟨rfl, trivial⟩, ⟨⟨rfl, ⟨rfl, trivial⟩⟩, ⟨⟨rfl, trivial⟩, ⟨⟨rfl, trivial⟩, ⟨⟨rfl, trivial⟩, ⟨⟨rfl, trivial⟩, ⟨⟨rfl, ⟨rfl, trivial⟩⟩, ⟨⟨rfl, trivial⟩, ⟨⟨rfl, trivial⟩, ⟨⟨rfl, trivial⟩, ⟨⟨rfl, trivial⟩, ⟨⟨rfl, ⟨rfl, trivial⟩⟩, ⟨⟨rfl, ⟨rfl, trivial⟩⟩, ⟨⟨rfl, trivial⟩, ⟨⟨rfl, ⟨rfl, trivial⟩⟩, ⟨⟨rfl, trivial⟩, trivial⟩⟩⟩⟩⟩⟩⟩⟩⟩⟩⟩⟩⟩⟩⟩⟩⟩⟩⟩⟩⟩⟩⟩⟩⟩⟩⟩⟩⟩⟩⟩) ⟨sS_pure rfl (fun σ => rfl) (fun σ => rfl) (fun σ a w k _ _ _ hf => ex_move hf rfl), ⟨sS_pure rfl (fun σ => rfl) (fun σ => rfl) (fun σ a w k _ _ _ hf => ex_move hf rfl), ⟨sS_pure rfl (fun σ => rfl) (fun σ => rfl) (fun σ a w k _ _ _ hf => ex_move hf rfl), ⟨sS_pure rfl (fun σ => rfl) (fun σ => rfl) (fun σ a w k _ _ _ hf => ex_indexAddr hix12 hf rfl rfl), ⟨sS_pure rfl (fun σ => rfl) (fun σ => rfl) (fun σ a w k _ _ _ hf => ex_field fa_36_0 hf rfl), ⟨sS_pure rfl (fun σ => rfl) (fun σ => rfl) (fun σ a w k hk _ hst hf => match k, hk, hst, hf with | 0, _, hst, hf => have hO : Own w0 [] w [.row (.slice p4 l6.length c5) 36 2 l6.length (cells enc_api_Swap l6), .shr x_l_p0 (cells enc_api_Swap x_l)] := hst; ex_load1 (o := 0) ag_9 (hSx12 _ (hO.sees (i := 1) rfl)) rfl hf rfl | 1, _, hst, hf => have hO : Own w0 [] w [.row (.slice (some ⟨(σ.1), 0, none⟩) (([(⟨s18, s25⟩ : api_Swap)]).length) 1) 36 2 (([(⟨s18, s25⟩ : api_Swap)]).length) (cells enc_api_Swap ([(⟨s18, s25⟩ : api_Swap)])), .row (.slice p4 l6.length c5) 36 2 l6.length (cells enc_api_Swap l6), .shr x_l_p0 (cells enc_api_Swap x_l)] := hst; ex_load1 (o := 0) ag_9 (hSx12 _ (hO.sees (i := 2) rfl)) rfl hf rfl | 2, _, hst, hf => have hO : Own w0 [] w [.row (.slice (some ⟨(σ.1), 0, none⟩) (([(⟨s18, s25⟩ : api_Swap)]).length) 1) 36 2 (([(⟨s18, s25⟩ : api_Swap)]).length) (cells enc_api_Swap ([(⟨s18, s25⟩ : api_Swap)])), .row (.slice (σ.2.1) ((l6 ++ [(⟨s18, s25⟩ : api_Swap)]).length) (σ.2.2)) 36 2 ((l6 ++ [(⟨s18, s25⟩ : api_Swap)]).length) (cells enc_api_Swap (l6 ++ [(⟨s18, s25⟩ : api_Swap)])), .shr x_l_p0 (cells enc_api_Swap x_l)] := hst; ex_load1 (o := 0) ag_9 (hSx12 _ (hO.sees (i := 2) rfl)) rfl hf rfl | k + 3, hk, _, _ => absurd hk (by simp)), ⟨sS_pure rfl (fun σ => rfl) (fun σ => rfl) (fun σ a w k _ _ _ hf => ex_move hf rfl), ⟨sS_pure rfl (fun σ => rfl) (fun σ => rfl) (fun σ a w k _ _ _ hf => ex_move hf rfl), ⟨sS_pure rfl (fun σ => rfl) (fun σ => rfl) (fun σ a w k _ _ _ hf => ex_indexAddr hix15 hf rfl rfl), ⟨sS_pure rfl (fun σ => rfl) (fun σ => rfl) (fun σ a w k _ _ _ hf => ex_field fa_36_0 hf rfl), ⟨sS_pure rfl (fun σ => rfl) (fun σ => rfl) (fun σ a w k hk _ hst hf => match k, hk, hst, hf with | 0, _, hst, hf => have hO : Own w0 [] w [.row (.slice p4 l6.length c5) 36 2 l6.length (cells enc_api_Swap l6), .shr x_l_p0 (cells enc_api_Swap x_l)] := hst; ex_load1 (o := 0) ag_9 (hSx15 _ (hO.sees (i := 1) rfl)) rfl hf rfl | 1, _, hst, hf => have hO : Own w0 [] w [.row (.slice (some ⟨(σ.1), 0, none⟩) (([(⟨s18, s25⟩ : api_Swap)]).length) 1) 36 2 (([(⟨s18, s25⟩ : api_Swap)]).length) (cells enc_api_Swap ([(⟨s18, s25⟩ : api_Swap)])), .row (.slice p4 l6.length c5) 36 2 l6.length (cells enc_api_Swap l6), .shr x_l_p0 (cells enc_api_Swap x_l)] := hst; ex_load1 (o := 0) ag_9 (hSx15 _ (hO.sees (i := 2) rfl)) rfl hf rfl | 2, _, hst, hf => have hO : Own w0 [] w [.row (.slice (some ⟨(σ.1), 0, none⟩) (([(⟨s18, s25⟩ : api_Swap)]).length) 1) 36 2 (([(⟨s18, s25⟩ : api_Swap)]).length) (cells enc_api_Swap ([(⟨s18, s25⟩ : api_Swap)])), .row (.slice (σ.2.1) ((l6 ++ [(⟨s18, s25⟩ : api_Swap)]).length) (σ.2.2)) 36 2 ((l6 ++ [(⟨s18, s25⟩ : api_Swap)]).length) (cells enc_api_Swap (l6 ++ [(⟨s18, s25⟩ : api_Swap)])), .shr x_l_p0 (cells enc_api_Swap x_l)] := hst; ex_load1 (o := 0) ag_9 (hSx15 _ (hO.sees (i := 2) rfl)) rfl hf rfl | k + 3, hk, _, _ => absurd hk (by simp)), ⟨sS_pure rfl (fun σ => rfl) (fun σ => rfl) (fun σ a w k _ _ _ hf => ex_len_s (l := x15.From) Try.underlying9 hf rfl), ⟨sS_pure rfl (fun σ => rfl) (fun σ => rfl) (fun σ a w k _ _ _ hf => ex_min (m := (x15.From.length : Int)) (n := 60) hf rfl rfl), ⟨sS_pure rfl (fun σ => rfl) (fun σ => rfl) (fun σ a w k _ _ _ hf => ex_to_s (l := x12.From) Try.underlying9 hf rfl rfl hs18), ⟨sS_pure rfl (fun σ => rfl) (fun σ => rfl) (fun σ a w k _ _ _ hf => ex_move hf rfl), ⟨sS_pure rfl (fun σ => rfl) (fun σ => rfl) (fun σ a w k _ _ _ hf => ex_move hf rfl), ⟨sS_pure rfl (fun σ => rfl) (fun σ => rfl) (fun σ a w k _ _ _ hf => ex_indexAddr hix19 hf rfl rfl), ⟨sS_pure rfl (fun σ => rfl) (fun σ => rfl) (fun σ a w k _ _ _ hf => ex_field fa_36_1 hf rfl), ⟨sS_pure rfl (fun σ => rfl) (fun σ => rfl) (fun σ a w k hk _ hst hf => match k, hk, hst, hf with | 0, _, hst, hf => have hO : Own w0 [] w [.row (.slice p4 l6.length c5) 36 2 l6.length (cells enc_api_Swap l6), .shr x_l_p0 (cells enc_api_Swap x_l)] := hst; ex_load1 (o := 1) ag_9 (hSx19 _ (hO.sees (i := 1) rfl)) rfl hf rfl | 1, _, hst, hf => have hO : Own w0 [] w [.row (.slice (some ⟨(σ.1), 0, none⟩) (([(⟨s18, s25⟩ : api_Swap)]).length) 1) 36 2 (([(⟨s18, s25⟩ : api_Swap)]).length) (cells enc_api_Swap ([(⟨s18, s25⟩ : api_Swap)])), .row (.slice p4 l6.length c5) 36 2 l6.length (cells enc_api_Swap l6), .shr x_l_p0 (cells enc_api_Swap x_l)] := hst; ex_load1 (o := 1) ag_9 (hSx19 _ (hO.sees (i := 2) rfl)) rfl hf rfl | 2, _, hst, hf => have hO : Own w0 [] w [.row (.slice (some ⟨(σ.1), 0, none⟩) (([(⟨s18, s25⟩ : api_Swap)]).length) 1) 36 2 (([(⟨s18, s25⟩ : api_Swap)]).length) (cells enc_api_Swap ([(⟨s18, s25⟩ : api_Swap)])), .row (.slice (σ.2.1) ((l6 ++ [(⟨s18, s25⟩ : api_Swap)]).length) (σ.2.2)) 36 2 ((l6 ++ [(⟨s18, s25⟩ : api_Swap)]).length) (cells enc_api_Swap (l6 ++ [(⟨s18, s25⟩ : api_Swap)])), .shr x_l_p0 (cells enc_api_Swap x_l)] := hst; ex_load1 (o := 1) ag_9 (hSx19 _ (hO.sees (i := 2) rfl)) rfl hf rfl | k + 3, hk, _, _ => absurd hk (by simp)), ⟨sS_pure rfl (fun σ => rfl) (fun σ => rfl) (fun σ a w k _ _ _ hf => ex_move hf rfl), ⟨sS_pure rfl (fun σ => rfl) (fun σ => rfl) (fun σ a w k _ _ _ hf => ex_move hf rfl), ⟨sS_pure rfl (fun σ => rfl) (fun σ => rfl) (fun σ a w k _ _ _ hf => ex_indexAddr hix22 hf rfl rfl), ⟨sS_pure rfl (fun σ => rfl) (fun σ => rfl) (fun σ a w k _ _ _ hf => ex_field fa_36_1 hf rfl), ⟨sS_pure rfl (fun σ => rfl) (fun σ => rfl) (fun σ a w k hk _ hst hf => match k, hk, hst, hf with | 0, _, hst, hf => have hO : Own w0 [] w [.row (.slice p4 l6.length c5) 36 2 l6.length (cells enc_api_Swap l6), .shr x_l_p0 (cells enc_api_Swap x_l)] := hst; ex_load1 (o := 1) ag_9 (hSx22 _ (hO.sees (i := 1) rfl)) rfl hf rfl | 1, _, hst, hf => have hO : Own w0 [] w [.row (.slice (some ⟨(σ.1), 0, none⟩) (([(⟨s18, s25⟩ : api_Swap)]).length) 1) 36 2 (([(⟨s18, s25⟩ : api_Swap)]).length) (cells enc_api_Swap ([(⟨s18, s25⟩ : api_Swap)])), .row (.slice p4 l6.length c5) 36 2 l6.length (cells enc_api_Swap l6), .shr x_l_p0 (cells enc_api_Swap x_l)] := hst; ex_load1 (o := 1) ag_9 (hSx22 _ (hO.sees (i := 2) rfl)) rfl hf rfl | 2, _, hst, hf => have hO : Own w0 [] w [.row (.slice (some ⟨(σ.1), 0, none⟩) (([(⟨s18, s25⟩ : api_Swap)]).length) 1) 36 2 (([(⟨s18, s25⟩ : api_Swap)]).length) (cells enc_api_Swap ([(⟨s18, s25⟩ : api_Swap)])), .row (.slice (σ.2.1) ((l6 ++ [(⟨s18, s25⟩ : api_Swap)]).length) (σ.2.2)) 36 2 ((l6 ++ [(⟨s18, s25⟩ : api_Swap)]).length) (cells enc_api_Swap (l6 ++ [(⟨s18, s25⟩ : api_Swap)])), .shr x_l_p0 (cells enc_api_Swap x_l)] := hst; ex_load1 (o := 1) ag_9 (hSx22 _ (hO.sees (i := 2) rfl)) rfl hf rfl | k + 3, hk, _, _ => absurd hk (by simp)), ⟨sS_pure rfl (fun σ => rfl) (fun σ => rfl) (fun σ a w k _ _ _ hf => ex_len_s (l := x22.To) Try.underlying9 hf rfl), ⟨sS_pure rfl (fun σ => rfl) (fun σ => rfl) (fun σ a w k _ _ _ hf => ex_min (m := (x22.To.length : Int)) (n := 60) hf rfl rfl), ⟨sS_pure rfl (fun σ => rfl) (fun σ => rfl) (fun σ a w k _ _ _ hf => ex_to_s (l := x19.To) Try.underlying9 hf rfl rfl hs25), ⟨sS_pure rfl (fun σ => rfl) (fun σ => rfl) (fun σ a w k _ _ _ hf => ex_build (vs := [(0, str s18), (1, str s25)]) (v := .agg #[str s18, str s25]) hf rfl (by kernel_rfl)), ⟨sS_val rfl (fun σ => rfl) (fun σ => rfl) rfl (fun σ w (hO : Own w0 [] w [.row (.slice p4 l6.length c5) 36 2 l6.length (cells enc_api_Swap l6), .shr x_l_p0 (cells enc_api_Swap x_l)]) => by obtain ⟨b26, w', hO', hr⟩ := ef_buildSlice (E := [(42, .agg #[str s18, str s25])]) (parts := #[(0, (.tmp 42))]) (t' := 22) (n := 1) (vs := [(0, .agg #[str s18, str s25])]) (cs := [str s18, str s25]) (e := 36) (sz := 2) (fun w => by kernel_rfl) rfl rfl hO rfl; exact ⟨(b26, (σ.2.1), (σ.2.2)), w', hO', ⟨.inr rfl, ⟨.inr rfl, ⟨.inr rfl, ⟨.inr rfl, ⟨.inr rfl, ⟨.inr rfl, ⟨.inr rfl, ⟨.inr rfl, ⟨.inr rfl, ⟨.inr rfl, ⟨.inr rfl, ⟨.inr rfl, ⟨.inr rfl, ⟨.inr rfl, ⟨.inr rfl, ⟨.inr rfl, ⟨.inr rfl, ⟨.inr rfl, ⟨.inr rfl, ⟨.inr rfl, ⟨.inr rfl, ⟨.inr rfl, ⟨.inr rfl, ⟨.inr rfl, ⟨.inr rfl, ⟨.inr rfl, ⟨.inr rfl, ⟨.inr rfl, ⟨.inl rfl, ⟨.inl rfl, ⟨.inr rfl, trivial⟩⟩⟩⟩⟩⟩⟩⟩⟩⟩⟩⟩⟩⟩⟩⟩⟩⟩⟩⟩⟩⟩⟩⟩⟩⟩⟩⟩⟩⟩⟩, hr⟩), ⟨sS_val rfl (fun σ => rfl) (fun σ => rfl) rfl (fun σ w (hO : Own w0 [] w [.row (.slice (some ⟨(σ.1), 0, none⟩) (([(⟨s18, s25⟩ : api_Swap)]).length) 1) 36 2 (([(⟨s18, s25⟩ : api_Swap)]).length) (cells enc_api_Swap ([(⟨s18, s25⟩ : api_Swap)])), .row (.slice p4 l6.length c5) 36 2 l6.length (cells enc_api_Swap l6), .shr x_l_p0 (cells enc_api_Swap x_l)]) => by obtain ⟨p27, c28, w', hO', hr⟩ := ef_append (E := [(15, .slice p4 l6.length c5), (43, .slice (some ⟨(σ.1), 0, none⟩) (([(⟨s18, s25⟩ : api_Swap)]).length) 1)]) (x := (.tmp 15)) (y := (.tmp 43)) el_22 (enc := enc_api_Swap) (xs := l6) (ys := [(⟨s18, s25⟩ : api_Swap)]) (i := 1) (fun _ => rfl) rfl (hO.rowSees (i := 0) rfl) (by simp [cells, enc_api_Swap, Value.oneCell']) hg29 hO rfl rfl; exact ⟨((σ.1), p27, c28), w', hO', ⟨.inr rfl, ⟨.inr rfl, ⟨.inr rfl, ⟨.inr rfl, ⟨.inr rfl, ⟨.inr rfl, ⟨.inr rfl, ⟨.inr rfl, ⟨.inr rfl, ⟨.inr rfl, ⟨.inr rfl, ⟨.inr rfl, ⟨.inr rfl, ⟨.inr rfl, ⟨.inr rfl, ⟨.inr rfl, ⟨.inr rfl, ⟨.inr rfl, ⟨.inr rfl, ⟨.inr rfl, ⟨.inr rfl, ⟨.inr rfl, ⟨.inr rfl, ⟨.inr rfl, ⟨.inr rfl, ⟨.inr rfl, ⟨.inr rfl, ⟨.inr rfl, ⟨.inr rfl, ⟨.inl rfl, ⟨.inl rfl, trivial⟩⟩⟩⟩⟩⟩⟩⟩⟩⟩⟩⟩⟩⟩⟩⟩⟩⟩⟩⟩⟩⟩⟩⟩⟩⟩⟩⟩⟩⟩⟩, hr⟩), ⟨sS_pure rfl (fun σ => rfl) (fun σ => rfl) (fun σ a w k _ _ _ hf => ex_assign hf rfl), trivial⟩⟩⟩⟩⟩⟩⟩⟩⟩⟩⟩⟩⟩⟩⟩⟩⟩⟩⟩⟩⟩⟩⟩⟩⟩⟩⟩⟩⟩⟩⟩ ?_
          rintro ⟨b26, p27, c28⟩ a w hf hO
          have hO : Own w0 [] w [.row (.slice (some ⟨b26, 0, none⟩) (([(⟨s18, s25⟩ : api_Swap)]).length) 1) 36 2 (([(⟨s18, s25⟩ : api_Swap)]).length) (cells enc_api_Swap ([(⟨s18, s25⟩ : api_Swap)])), .row (.slice p27 ((l6 ++ [(⟨s18, s25⟩ : api_Swap)]).length) c28) 36 2 ((l6 ++ [(⟨s18, s25⟩ : api_Swap)]).length) (cells enc_api_Swap (l6 ++ [(⟨s18, s25⟩ : api_Swap)])), .shr x_l_p0 (cells enc_api_Swap x_l)] := hO
          have hf : Fits 46 [(0, .slice x_l_p0 x_l.length x_l_c0), (3, .slice p27 ((l6 ++ [(⟨s18, s25⟩ : api_Swap)]).length) c28), (4, int i7)] a := (hf.cons rfl (hf.cons rfl (hf.cons rfl hf.nil)))
          refine nor_block ?_
          refine nor_then (hK30 _ _ ?_)
          refine wp_region_list ?_
          refine op_val (ex_move hf rfl) rfl hf rfl rfl fun a hf => ?_
          obtain ⟨i31, hi31, hm⟩ := ob hm
          refine op_val (ex_add hf rfl rfl hi31) rfl hf rfl rfl fun a hf => ?_
          refine op_val (ex_assign hf rfl) rfl hf rfl rfl fun a hf => ?_
          refine wpList_nil ?_
          refine nor_then ?_
          exact ⟨_, Nat.lt_succ_self _, p27, c28, l6 ++ [(⟨s18, s25⟩ : api_Swap)], i31, (hf.cons rfl (hf.cons rfl (hf.cons rfl hf.nil))), (hO.sub (.cons _ (.cons_cons _ (.cons_cons _ .slnil)))), hm⟩
        · have hm := ie hc10 hm
          refine wp_exit ?_
          refine exit_then ?_
          refine exit_then ?_
          refine exit_here ?_
          refine nor_then (hK32 _ _ ?_)
          refine wp_seq_k fun _ hK33 => ?_
          refine wp_region_list ?_
          refine op_val (ex_move hf rfl) rfl hf rfl rfl fun a hf => ?_
          refine op_val (ex_assign hf rfl) rfl hf rfl rfl fun a hf => ?_
          refine wpList_nil ?_
          refine nor_then (hK33 _ _ ?_)
          refine wp_ret ?_
          obtain rfl := Option.some.inj hm
          exact post_ret Try.results5 hf (.tmp rfl .nil) ⟨p4, c5, rfl, (hO.sub (.cons_cons _ (.cons _ .slnil)))⟩
  · exact ⟨none, 0, [], 0, (hf.cons rfl (hf.cons rfl (hf.cons rfl hf.nil))), hO, hm⟩

set_option maxHeartbeats 1000000 in
theorem w_ref01_In (x_b : UInt8) (x_l : Str) (R : Bool) (w0 : World) (hG : Glob w0) (hm : ref01_In x_b x_l = some R) :
    Calls Try.prog 21 #[byte x_b, str x_l] w0 fun e w' => e = .returned (.bool R) ∧ Below w0.heap.size w0 w' := by
  rw [ref01_In] at hm
  refine calls_enter (vs := [byte x_b, str x_l]) Try.func21 rfl Try.ntmps21 rfl fun a hf => ?_
  have hO : Own w0 [] w0 [] := Own.refl w0
  refine wp_seq_k fun _ hK1 => ?_
  refine wp_region_list ?_
  refine op_val (ex_assign hf rfl) rfl hf rfl rfl fun a hf => ?_
  refine wpList_nil ?_
  refine nor_then (hK1 _ _ ?_)
  refine wp_seq_k fun _ hK13 => ?_
  refine wp_seq_k fun _ hK2 => ?_
  refine wp_region_list ?_
  refine op_val (ex_assign hf rfl) rfl hf rfl rfl fun a hf => ?_
  refine wpList_nil ?_
  refine nor_then (hK2 _ _ ?_)
  refine wp_block ?_
  refine wp_loop_n (fun k a w => ∃ (i3 : Int), Fits 17 [(0, byte x_b), (1, str x_l), (5, int i3)] a ∧ Own w0 [] w [] ∧ ref01_In_L1 x_b x_l k i3 = some R) ?_ fuel ?_
  · rintro n1 a w ⟨i3, hf, hO, hm⟩
    obtain _ | n1 := n1
    · rw [ref01_In_L1] at hm
      cases hm
    · rw [ref01_In_L1] at hm
      refine wp_seq_k fun _ hK6 => ?_
      refine wp_seq_k fun _ hK4 => ?_
      refine wp_region_list ?_
      refine op_val (ex_move hf rfl) rfl hf rfl rfl fun a hf => ?_
      refine op_val (ex_move hf rfl) rfl hf rfl rfl fun a hf => ?_
      refine op_val (ex_len_s (l := x_l) Try.underlying9 hf rfl) rfl hf rfl rfl fun a hf => ?_
      refine op_val (ex_lss (m := i3) (n := (x_l.length : Int)) hf rfl rfl) rfl hf rfl rfl fun a hf => ?_
      refine wpList_nil ?_
      refine nor_then (hK4 _ _ ?_)
      refine wp_cond_cut hf rfl (fun hc5 => ?_) (fun hc5 => ?_)
      · have hm := it hc5 hm
        refine wp_skip ?_
        refine nor_then (hK6 _ _ ?_)
        refine wp_seq_k fun _ hK11 => ?_
        refine wp_block ?_
        refine wp_seq_k fun _ hK8 => ?_
        refine wp_region_list ?_
        refine op_val (ex_move hf rfl) rfl hf rfl rfl fun a hf => ?_
        refine op_val (ex_move hf rfl) rfl hf rfl rfl fun a hf => ?_
        obtain ⟨b7, hb7, hm⟩ := ob hm
        refine op_val (ex_index (l := x_l) Try.underlying9 hf rfl rfl hb7) rfl hf rfl rfl fun a hf => ?_
        refine op_val (ex_move hf rfl) rfl hf rfl rfl fun a hf => ?_
        refine op_val (ex_eql_b (b := b7) (c := x_b) hf rfl rfl) rfl hf rfl rfl fun a hf => ?_
        refine wpList_nil ?_
        refine nor_then (hK8 _ _ ?_)
        refine wp_cond_cut hf rfl (fun hc9 => ?_) (fun hc9 => ?_)
        · have hm := it hc9 hm
          refine wp_seq_k fun _ hK10 => ?_
          refine wp_region_list ?_
          refine op_val (ex_assign hf rfl) rfl hf rfl rfl fun a hf => ?_
          refine wpList_nil ?_
          refine nor_then (hK10 _ _ ?_)
          refine wp_ret ?_
          refine ret_block ?_
          refine ret_then ?_
          refine ret_then ?_
          refine ret_block ?_
          refine ret_then ?_
          obtain rfl := Option.some.inj hm
          exact post_ret Try.results21 hf (.tmp rfl .nil) ⟨rfl, hO.below⟩
        · have hm := ie hc9 hm
          refine wp_skip ?_
          refine nor_block ?_
          refine nor_then (hK11 _ _ ?_)
          refine wp_region_list ?_
          refine op_val (ex_move hf rfl) rfl hf rfl rfl fun a hf => ?_
          obtain ⟨i12, hi12, hm⟩ := ob hm
          refine op_val (ex_add hf rfl rfl hi12) rfl hf rfl rfl fun a hf => ?_
          refine op_val (ex_assign hf rfl) rfl hf rfl rfl fun a hf => ?_
          refine wpList_nil ?_
          refine nor_then ?_
          exact ⟨_, Nat.lt_succ_self _, i12, (hf.cons rfl (hf.cons rfl (hf.cons rfl hf.nil))), hO, hm⟩
      · have hm := ie hc5 hm
        refine wp_exit ?_
        refine exit_then ?_
        refine exit_then ?_
        refine exit_here ?_
        refine nor_then (hK13 _ _ ?_)
        refine wp_seq_k fun _ hK14 => ?_
        refine wp_region_list ?_
        refine op_val (ex_assign hf rfl) rfl hf rfl rfl fun a hf => ?_
        refine wpList_nil ?_
        refine nor_then (hK14 _ _ ?_)
        refine wp_ret ?_
        obtain rfl := Option.some.inj hm
        exact post_ret Try.results21 hf (.tmp rfl .nil) ⟨rfl, hO.below⟩
  · exact ⟨0, (hf.cons rfl (hf.cons rfl (hf.cons rfl hf.nil))), hO, hm⟩

set_option maxHeartbeats 1000000 in
theorem w_ref11_first (x_s : Str) (x_l : Str) (R : Int) (w0 : World) (hG : Glob w0) (hm : ref11_first x_s x_l = some R) :
    Calls Try.prog 13 #[str x_s, str x_l] w0 fun e w' => e = .returned (int R) ∧ Below w0.heap.size w0 w' := by
  rw [ref11_first] at hm
  refine calls_enter (vs := [str x_s, str x_l]) Try.func13 rfl Try.ntmps13 rfl fun a hf => ?_
  have hO : Own w0 [] w0 [] := Own.refl w0
  refine wp_seq_k fun _ hK1 => ?_
  refine wp_region_list ?_
  refine op_val (ex_assign hf rfl) rfl hf rfl rfl fun a hf => ?_
  refine wpList_nil ?_
  refine nor_then (hK1 _ _ ?_)
  refine wp_seq_k fun _ hK2 => ?_
  refine wp_region_list ?_
  refine op_val (ex_assign hf rfl) rfl hf rfl rfl fun a hf => ?_
  refine wpList_nil ?_
  refine nor_then (hK2 _ _ ?_)
  refine wp_seq_k fun _ hK11 => ?_
  refine wp_block ?_
  refine wp_loop_n (fun k a w => ∃ (i3 : Int), Fits 21 [(0, str x_s), (1, str x_l), (5, int i3)] a ∧ Own w0 [] w [] ∧ ref11_first_L1 x_s x_l k i3 = some R) ?_ fuel ?_
  · rintro n1 a w ⟨i3, hf, hO, hm⟩
    obtain _ | n1 := n1
    · rw [ref11_first_L1] at hm
      cases hm
    · rw [ref11_first_L1] at hm
      refine wp_seq_k fun _ hK9 => ?_
      refine wp_seq_cut (fun a w => ∃ (t7 : Bool), Fits 21 [(0, str x_s), (1, str x_l), (5, int i3), (17, .bool t7)] a ∧ Own w0 [] w [] ∧ ref11_first_j2 (ref11_first_L1 x_s x_l n1) i3 t7 = some R) ?_ ?_
      · refine wp_region_list ?_
        refine op_val (ex_move hf rfl) rfl hf rfl rfl fun a hf => ?_
        refine op_val (ex_move hf rfl) rfl hf rfl rfl fun a hf => ?_
        refine op_val (ex_len_s (l := x_s) Try.underlying9 hf rfl) rfl hf rfl rfl fun a hf => ?_
        refine op_val (ex_lss (m := i3) (n := (x_s.length : Int)) hf rfl rfl) rfl hf rfl rfl fun a hf => ?_
        refine op_val (ex_move hf rfl) rfl hf rfl rfl fun a hf => ?_
        rcases bcase (decide (i3 < (x_s.length : Int))) with hc4 | hc4
        · have hm := it hc4 hm
          refine op_guard rfl hf rfl rfl (hc4) ?_
          refine op_val (ex_move hf rfl) rfl hf rfl rfl fun a hf => ?_
          refine op_guard rfl hf rfl rfl (hc4) ?_
          refine op_val (ex_move hf rfl) rfl hf rfl rfl fun a hf => ?_
          refine op_guard rfl hf rfl rfl (hc4) ?_
          obtain ⟨b5, hb5, hm⟩ := ob hm
          refine op_val (ex_index (l := x_s) Try.underlying9 hf rfl rfl hb5) rfl hf rfl rfl fun a hf => ?_
          refine op_guard rfl hf rfl rfl (hc4) ?_
          refine op_val (ex_move hf rfl) rfl hf rfl rfl fun a hf => ?_
          refine op_guard rfl hf rfl rfl (hc4) ?_
          obtain ⟨r6, hr6, hm⟩ := ob hm
          refine op_enter (ex_call c_21 hf (vs := [byte b5, str x_l]) rfl) rfl hf rfl rfl (w_ref01_In b5 x_l r6 _ (hG.own hO) hr6) ?_
          rintro e w' ⟨he, hb⟩
          refine ⟨_, he, fun a hf => ?_⟩
          have hO := hO.grow hb
          refine op_guard rfl hf rfl rfl (hc4) ?_
          refine op_val (ex_not hf rfl) rfl hf rfl rfl fun a hf => ?_
          refine op_val (ex_pick_t hf rfl hc4 rfl) rfl hf rfl rfl fun a hf => ?_
          refine wpList_nil ?_
          refine nor_then ?_
          exact ⟨!r6, (hf.cons rfl (hf.cons rfl (hf.cons rfl (hf.cons rfl hf.nil)))), hO, hm⟩
        · have hm := ie hc4 hm
          refine op_pass rfl hf rfl rfl (hc4) rfl rfl fun a hf => ?_
          refine op_pass rfl hf rfl rfl (hc4) rfl rfl fun a hf => ?_
          refine op_pass rfl hf rfl rfl (hc4) rfl rfl fun a hf => ?_
          refine op_pass rfl hf rfl rfl (hc4) rfl rfl fun a hf => ?_
          refine op_pass rfl hf rfl rfl (hc4) rfl rfl fun a hf => ?_
          refine op_pass rfl hf rfl rfl (hc4) rfl rfl fun a hf => ?_
          refine op_val (ex_pick_f hf rfl hc4 rfl) rfl hf rfl rfl fun a hf => ?_
          refine wpList_nil ?_
          refine nor_then ?_
          exact ⟨false, (hf.cons rfl (hf.cons rfl (hf.cons rfl (hf.cons rfl hf.nil)))), hO, hm⟩
      · rintro a w ⟨t7, hf, hO, hm⟩
        rw [ref11_first_j2] at hm
        refine wp_cond_cut hf rfl (fun hc8 => ?_) (fun hc8 => ?_)
        · have hm := it hc8 hm
          refine wp_skip ?_
          refine nor_then (hK9 _ _ ?_)
          refine wp_block ?_
          refine wp_region_list ?_
          refine op_val (ex_move hf rfl) rfl hf rfl rfl fun a hf => ?_
          obtain ⟨i10, hi10, hm⟩ := ob hm
          refine op_val (ex_add hf rfl rfl hi10) rfl hf rfl rfl fun a hf => ?_
          refine op_val (ex_assign hf rfl) rfl hf rfl rfl fun a hf => ?_
          refine wpList_nil ?_
          refine nor_block ?_
          refine nor_then ?_
          exact ⟨_, Nat.lt_succ_self _, i10, (hf.cons rfl (hf.cons rfl (hf.cons rfl hf.nil))), hO, hm⟩
        · have hm := ie hc8 hm
          refine wp_exit ?_
          refine exit_then ?_
          refine exit_then ?_
          refine exit_here ?_
          refine nor_then (hK11 _ _ ?_)
          refine wp_seq_k fun _ hK12 => ?_
          refine wp_region_list ?_
          refine op_val (ex_move hf rfl) rfl hf rfl rfl fun a hf => ?_
          refine op_val (ex_assign hf rfl) rfl hf rfl rfl fun a hf => ?_
          refine wpList_nil ?_
          refine nor_then (hK12 _ _ ?_)
          refine wp_ret ?_
          obtain rfl := Option.some.inj hm
          exact post_ret Try.results13 hf (.tmp rfl .nil) ⟨rfl, hO.below⟩
  · exact ⟨0, (hf.cons rfl (hf.cons rfl (hf.cons rfl hf.nil))), hO, hm⟩

set_option maxHeartbeats 1000000 in
theorem w_ref01_Alpha (x_b : UInt8) (R : Bool) (w0 : World) (hG : Glob w0) (hm : ref01_Alpha x_b = some R) :
    Calls Try.prog 22 #[byte x_b] w0 fun e w' => e = .returned (.bool R) ∧ Below w0.heap.size w0 w' := by
  rw [ref01_Alpha] at hm
  refine calls_enter (vs := [byte x_b]) Try.func22 rfl Try.ntmps22 rfl fun a hf => ?_
  have hO : Own w0 [] w0 [] := Own.refl w0
  refine wp_seq_k fun _ hK1 => ?_
  refine wp_region_list ?_
  refine op_val (ex_assign hf rfl) rfl hf rfl rfl fun a hf => ?_
  refine wpList_nil ?_
  refine nor_then (hK1 _ _ ?_)
  refine wp_seq_k fun _ hK3 => ?_
  refine wp_region_list ?_
  refine op_val (ex_move hf rfl) rfl hf rfl rfl fun a hf => ?_
  obtain ⟨r2, hr2, hm⟩ := ob hm
  refine op_enter (ex_call c_21 hf (vs := [byte x_b, str [97, 98, 99, 100, 101, 102, 103, 104, 105, 106, 107, 108, 109, 110, 111, 112, 113, 114, 115, 116, 117, 118, 119, 120, 121, 122, 65, 66, 67, 68, 69, 70, 71, 72, 73, 74, 75, 76, 77, 78, 79, 80, 81, 82, 83, 84, 85, 86, 87, 88, 89, 90]]) rfl) rfl hf rfl rfl (w_ref01_In x_b [97, 98, 99, 100, 101, 102, 103, 104, 105, 106, 107, 108, 109, 110, 111, 112, 113, 114, 115, 116, 117, 118, 119, 120, 121, 122, 65, 66, 67, 68, 69, 70, 71, 72, 73, 74, 75, 76, 77, 78, 79, 80, 81, 82, 83, 84, 85, 86, 87, 88, 89, 90] r2 _ (hG.own hO) hr2) ?_
  rintro e w' ⟨he, hb⟩
  refine ⟨_, he, fun a hf => ?_⟩
  have hO := hO.grow hb
  refine op_val (ex_assign hf rfl) rfl hf rfl rfl fun a hf => ?_
  refine wpList_nil ?_
  refine nor_then (hK3 _ _ ?_)
  refine wp_ret ?_
  obtain rfl := Option.some.inj hm
  exact post_ret Try.results22 hf (.tmp rfl .nil) ⟨rfl, hO.below⟩

end Go.Proofs
