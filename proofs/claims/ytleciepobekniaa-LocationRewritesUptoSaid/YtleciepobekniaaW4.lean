/-
  Walks, written by a program (wip/gen): what its model says, the function returns; what was there before is as it was.
-/
import Derived.Test.YtleciepobekniaaLib
import Derived.Test.YtleciepobekniaaW2
import Derived.Test.YtleciepobekniaaW3
set_option linter.unusedVariables false
set_option linter.unusedSimpArgs false
set_option maxRecDepth 100000
namespace Go.Proofs
open Go.Dk Go.Dm Go.RowKit

set_option maxHeartbeats 1000000 in
theorem w_ref30_Rewrite (x_s : Str) (x_l : List api_Swap) (R : Str) (w0 : World) (hG : Glob w0) {x_l_p0 : Option Addr} {x_l_c0 : Nat} (hs0 : Sees w0 x_l_p0 (cells enc_api_Swap x_l)) (hm : ref30_Rewrite x_s x_l = some R) :
    Calls Try.prog 8 #[str x_s, .slice x_l_p0 x_l.length x_l_c0] w0 fun e w' => e = .returned (str R) ∧ Below w0.heap.size w0 w' := by
  rw [ref30_Rewrite] at hm
  refine calls_enter (vs := [str x_s, .slice x_l_p0 x_l.length x_l_c0]) Try.func8 rfl Try.ntmps8 rfl fun a hf => ?_
  have hO : Own w0 [] w0 [] := Own.refl w0
  have hO := hO.addShr hs0 (by simp [Res.shared])
  refine wp_seq_k fun _ hK1 => ?_
  refine wp_region_list ?_
  refine op_val (ex_assign hf rfl) rfl hf rfl rfl fun a hf => ?_
  refine wpList_nil ?_
  refine nor_then (hK1 _ _ ?_)
  refine wp_seq_k fun _ hK4 => ?_
  refine wp_region_list ?_
  refine op_val (ex_move hf rfl) rfl hf rfl rfl fun a hf => ?_
  obtain ⟨r2, hr2, hm⟩ := ob hm
  refine op_enter (ex_call c_7 hf (vs := [str x_s]) rfl) rfl hf rfl rfl (w_ref11_Parse x_s r2 _ (hG.own hO) hr2) ?_
  rintro e w' ⟨he, hb⟩
  refine ⟨_, he, fun a hf => ?_⟩
  have hO := hO.grow hb
  refine op_val (ex_move hf rfl) rfl hf rfl rfl fun a hf => ?_
  refine op_val (ex_extract hf rfl rfl) rfl hf rfl rfl fun a hf => ?_
  refine op_val (ex_extract hf rfl rfl) rfl hf rfl rfl fun a hf => ?_
  refine op_alloc al_27 hf rfl hO fun a b3 w hf hO => ?_
  refine op_storeN (i := 0) (n := 8) sz_27 rfl rfl rfl (by simp [Value.oneCell']) hf rfl rfl hO fun w hO => ?_
  refine op_val (ex_assign hf rfl) rfl hf rfl rfl fun a hf => ?_
  refine wpList_nil ?_
  refine nor_then (hK4 _ _ ?_)
  refine wp_seq_k fun _ hK6 => ?_
  refine wp_region_list ?_
  refine op_val (ex_move hf rfl) rfl hf rfl rfl fun a hf => ?_
  refine op_val (ex_move hf rfl) rfl hf rfl rfl fun a hf => ?_
  obtain ⟨r5, hr5, hm⟩ := ob hm
  refine op_enter (ex_call c_16 hf (vs := [str x_s, .slice x_l_p0 x_l.length x_l_c0]) rfl) rfl hf rfl rfl (w_ref11_Swap x_s x_l r5 _ (hG.own hO) (hO.sees (i := 1) rfl) hr5) ?_
  rintro e w' ⟨he, hb⟩
  refine ⟨_, he, fun a hf => ?_⟩
  have hO := hO.grow hb
  refine op_val (ex_move hf rfl) rfl hf rfl rfl fun a hf => ?_
  refine op_val (ex_extract hf rfl rfl) rfl hf rfl rfl fun a hf => ?_
  refine op_val (ex_extract hf rfl rfl) rfl hf rfl rfl fun a hf => ?_
  refine op_val (ex_assign hf rfl) rfl hf rfl rfl fun a hf => ?_
  refine op_val (ex_assign hf rfl) rfl hf rfl rfl fun a hf => ?_
  refine wpList_nil ?_
  refine nor_then (hK6 _ _ ?_)
  refine wp_seq_k fun _ hK9 => ?_
  refine wp_region_list ?_
  refine op_val (ex_move hf rfl) rfl hf rfl rfl fun a hf => ?_
  obtain ⟨r7, hr7, hm⟩ := ob hm
  refine op_enter (ex_call c_7 hf (vs := [str r5.1]) rfl) rfl hf rfl rfl (w_ref11_Parse r5.1 r7 _ (hG.own hO) hr7) ?_
  rintro e w' ⟨he, hb⟩
  refine ⟨_, he, fun a hf => ?_⟩
  have hO := hO.grow hb
  refine op_val (ex_move hf rfl) rfl hf rfl rfl fun a hf => ?_
  refine op_val (ex_extract hf rfl rfl) rfl hf rfl rfl fun a hf => ?_
  refine op_val (ex_extract hf rfl rfl) rfl hf rfl rfl fun a hf => ?_
  refine op_alloc al_27 hf rfl hO fun a b8 w hf hO => ?_
  refine op_storeN (i := 0) (n := 8) sz_27 rfl rfl rfl (by simp [Value.oneCell']) hf rfl rfl hO fun w hO => ?_
  refine op_val (ex_assign hf rfl) rfl hf rfl rfl fun a hf => ?_
  refine wpList_nil ?_
  refine nor_then (hK9 _ _ ?_)
  refine wp_seq_k fun _ hK15 => ?_
  refine wp_seq_cut (fun a w => ∃ (t12 : Bool), Fits 38 [(0, str x_s), (7, str r5.1), (35, .bool t12)] a ∧ Own w0 [] w [.blk b8 [str r7.1.Scheme, str r7.1.Auth, str r7.1.Path, str r7.1.Query, str r7.1.Frag, .bool r7.1.HasAuth, .bool r7.1.HasQuery, .bool r7.1.HasFrag] 27, .blk b3 [str r2.1.Scheme, str r2.1.Auth, str r2.1.Path, str r2.1.Query, str r2.1.Frag, .bool r2.1.HasAuth, .bool r2.1.HasQuery, .bool r2.1.HasFrag] 27, .shr x_l_p0 (cells enc_api_Swap x_l)] ∧ ref30_Rewrite_j1 x_s r5 t12 = some R) ?_ ?_
  · refine wp_region_list ?_
    refine op_val (ex_move hf rfl) rfl hf rfl rfl fun a hf => ?_
    refine op_val (ex_eql (m := r2.2) (n := 0) hf rfl rfl) rfl hf rfl rfl fun a hf => ?_
    refine op_val (ex_move hf rfl) rfl hf rfl rfl fun a hf => ?_
    rcases bcase (r2.2 == 0) with hc10 | hc10
    · have hm := it hc10 hm
      refine op_guard rfl hf rfl rfl (hc10) ?_
      refine op_val (ex_move hf rfl) rfl hf rfl rfl fun a hf => ?_
      refine op_val (ex_pick_t hf rfl hc10 rfl) rfl hf rfl rfl fun a hf => ?_
      refine op_val (ex_move hf rfl) rfl hf rfl rfl fun a hf => ?_
      rcases bcase (r5.2) with hc11 | hc11
      · have hm := it hc11 hm
        refine op_guard rfl hf rfl rfl (hc11) ?_
        refine op_val (ex_move hf rfl) rfl hf rfl rfl fun a hf => ?_
        refine op_guard rfl hf rfl rfl (hc11) ?_
        refine op_val (ex_eql (m := r7.2) (n := 0) hf rfl rfl) rfl hf rfl rfl fun a hf => ?_
        refine op_val (ex_pick_t hf rfl hc11 rfl) rfl hf rfl rfl fun a hf => ?_
        refine wpList_nil ?_
        refine nor_then ?_
        exact ⟨r7.2 == 0, (hf.cons rfl (hf.cons rfl (hf.cons rfl hf.nil))), hO, hm⟩
      · have hm := ie hc11 hm
        refine op_pass rfl hf rfl rfl (hc11) rfl rfl fun a hf => ?_
        refine op_pass rfl hf rfl rfl (hc11) rfl rfl fun a hf => ?_
        refine op_val (ex_pick_f hf rfl hc11 rfl) rfl hf rfl rfl fun a hf => ?_
        refine wpList_nil ?_
        refine nor_then ?_
        exact ⟨false, (hf.cons rfl (hf.cons rfl (hf.cons rfl hf.nil))), hO, hm⟩
    · have hm := ie hc10 hm
      refine op_pass rfl hf rfl rfl (hc10) rfl rfl fun a hf => ?_
      refine op_val (ex_pick_f hf rfl hc10 rfl) rfl hf rfl rfl fun a hf => ?_
      refine op_val (ex_move hf rfl) rfl hf rfl rfl fun a hf => ?_
      refine op_pass rfl hf rfl rfl (rfl) rfl rfl fun a hf => ?_
      refine op_pass rfl hf rfl rfl (rfl) rfl rfl fun a hf => ?_
      refine op_val (ex_pick_f hf rfl rfl rfl) rfl hf rfl rfl fun a hf => ?_
      refine wpList_nil ?_
      refine nor_then ?_
      exact ⟨false, (hf.cons rfl (hf.cons rfl (hf.cons rfl hf.nil))), hO, hm⟩
  · rintro a w ⟨t12, hf, hO, hm⟩
    rw [ref30_Rewrite_j1] at hm
    refine wp_cond_cut hf rfl (fun hc13 => ?_) (fun hc13 => ?_)
    · have hm := it hc13 hm
      refine wp_seq_k fun _ hK14 => ?_
      refine wp_region_list ?_
      refine op_val (ex_move hf rfl) rfl hf rfl rfl fun a hf => ?_
      refine op_val (ex_assign hf rfl) rfl hf rfl rfl fun a hf => ?_
      refine wpList_nil ?_
      refine nor_then (hK14 _ _ ?_)
      refine wp_ret ?_
      refine ret_then ?_
      obtain rfl := Option.some.inj hm
      exact post_ret Try.results8 hf (.tmp rfl .nil) ⟨rfl, hO.below⟩
    · have hm := ie hc13 hm
      refine wp_skip ?_
      refine nor_then (hK15 _ _ ?_)
      refine wp_seq_k fun _ hK16 => ?_
      refine wp_region_list ?_
      refine op_val (ex_move hf rfl) rfl hf rfl rfl fun a hf => ?_
      refine op_val (ex_assign hf rfl) rfl hf rfl rfl fun a hf => ?_
      refine wpList_nil ?_
      refine nor_then (hK16 _ _ ?_)
      refine wp_ret ?_
      obtain rfl := Option.some.inj hm
      exact post_ret Try.results8 hf (.tmp rfl .nil) ⟨rfl, hO.below⟩

set_option maxHeartbeats 1000000 in
theorem w_location_Check (x_l : List api_Swap) (R : Int) (w0 : World) (hG : Glob w0) {x_l_p0 : Option Addr} {x_l_c0 : Nat} (hs0 : Sees w0 x_l_p0 (cells enc_api_Swap x_l)) (hm : location_Check x_l = some R) :
    Calls Try.prog 9 #[.slice x_l_p0 x_l.length x_l_c0] w0 fun e w' => e = .returned (int R) ∧ Below w0.heap.size w0 w' := by
  rw [location_Check] at hm
  refine calls_enter (vs := [.slice x_l_p0 x_l.length x_l_c0]) Try.func9 rfl Try.ntmps9 rfl fun a hf => ?_
  have hO : Own w0 [] w0 [] := Own.refl w0
  have hO := hO.addShr hs0 (by simp [Res.shared])
  refine wp_seq_k fun _ hK1 => ?_
  refine wp_region_list ?_
  refine op_val (ex_assign hf rfl) rfl hf rfl rfl fun a hf => ?_
  refine wpList_nil ?_
  refine nor_then (hK1 _ _ ?_)
  refine wp_seq_k fun _ hK21 => ?_
  refine wp_seq_k fun _ hK2 => ?_
  refine wp_region_list ?_
  refine op_val (ex_move hf rfl) rfl hf rfl rfl fun a hf => ?_
  refine op_val (ex_len_l Try.underlying22 hf rfl) rfl hf rfl rfl fun a hf => ?_
  refine op_val (ex_move hf rfl) rfl hf rfl rfl fun a hf => ?_
  refine wpList_nil ?_
  refine nor_then (hK2 _ _ ?_)
  refine wp_block ?_
  refine wp_loop_n (fun k a w => ∃ (i3 : Int), Fits 30 [(0, .slice x_l_p0 x_l.length x_l_c0), (5, .slice x_l_p0 x_l.length x_l_c0), (6, int (x_l.length : Int)), (7, int i3)] a ∧ Own w0 [] w [.shr x_l_p0 (cells enc_api_Swap x_l)] ∧ location_Check_L1 x_l k i3 = some R) ?_ fuel ?_
  · rintro n1 a w ⟨i3, hf, hO, hm⟩
    obtain _ | n1 := n1
    · rw [location_Check_L1] at hm
      cases hm
    · rw [location_Check_L1] at hm
      refine wp_seq_k fun _ hK4 => ?_
      refine wp_region_list ?_
      refine op_val (ex_lss (m := i3) (n := (x_l.length : Int)) hf rfl rfl) rfl hf rfl rfl fun a hf => ?_
      refine wpList_nil ?_
      refine nor_then (hK4 _ _ ?_)
      refine wp_seq_k fun _ hK6 => ?_
      refine wp_cond_cut hf rfl (fun hc5 => ?_) (fun hc5 => ?_)
      · have hm := it hc5 hm
        refine wp_skip ?_
        refine nor_then (hK6 _ _ ?_)
        refine wp_seq_k fun _ hK19 => ?_
        refine wp_block ?_
        refine wp_seq_k fun _ hK11 => ?_
        refine wp_region_list ?_
        obtain ⟨x7, hx7, hm⟩ := ob hm
        obtain ⟨b8, o9, hix7, hSx7⟩ := elemAt (enc := enc_api_Swap) (sz := 2) (xs := x_l) 22 Try.underlying22 sz_36 (by decide) (fun _ => rfl) (hO.sees (i := 0) rfl) hx7
        refine op_val (ex_indexAddr hix7 hf rfl rfl) rfl hf rfl rfl fun a hf => ?_
        refine op_val (ex_loadN (o := 0) (vs := [str x7.From, str x7.To]) ag_36 sz_36 (hSx7 _ (hO.sees (i := 0) rfl)) rfl rfl hf rfl) rfl hf rfl rfl fun a hf => ?_
        refine op_alloc al_36 hf rfl hO fun a b10 w hf hO => ?_
        refine op_storeN (i := 0) (n := 2) sz_36 rfl rfl rfl (by simp [Value.oneCell']) hf rfl rfl hO fun w hO => ?_
        refine wpList_nil ?_
        refine nor_then (hK11 _ _ ?_)
        refine wp_seq_cut (fun a w => ∃ (t16 : Bool), Fits 30 [(0, .slice x_l_p0 x_l.length x_l_c0), (5, .slice x_l_p0 x_l.length x_l_c0), (6, int (x_l.length : Int)), (7, int i3), (25, .bool t16)] a ∧ Own w0 [] w [.blk b10 [str x7.From, str x7.To] 36, .shr x_l_p0 (cells enc_api_Swap x_l)] ∧ location_Check_j2 (location_Check_L1 x_l n1) i3 t16 = some R) ?_ ?_
        · refine wp_region_list ?_
          refine op_val (ex_field fa_36_0 hf rfl) rfl hf rfl rfl fun a hf => ?_
          refine op_val (ex_load1 (o := 0) ag_9 (hO.blkSees (i := 0) rfl) rfl hf rfl) rfl hf rfl rfl fun a hf => ?_
          refine op_val (ex_eql_s (l := x7.From) (m := []) hf rfl rfl) rfl hf rfl rfl fun a hf => ?_
          refine op_val (ex_move hf rfl) rfl hf rfl rfl fun a hf => ?_
          rcases bcase (x7.From == []) with hc12 | hc12
          · have hm := it hc12 hm
            refine op_pass rfl hf rfl rfl (hc12) rfl rfl fun a hf => ?_
            refine op_pass rfl hf rfl rfl (hc12) rfl rfl fun a hf => ?_
            refine op_pass rfl hf rfl rfl (hc12) rfl rfl fun a hf => ?_
            refine op_pass rfl hf rfl rfl (hc12) rfl rfl fun a hf => ?_
            refine op_val (ex_pick_t hf rfl hc12 rfl) rfl hf rfl rfl fun a hf => ?_
            refine op_val (ex_move hf rfl) rfl hf rfl rfl fun a hf => ?_
            refine op_pass rfl hf rfl rfl (rfl) rfl rfl fun a hf => ?_
            refine op_pass rfl hf rfl rfl (rfl) rfl rfl fun a hf => ?_
            refine op_pass rfl hf rfl rfl (rfl) rfl rfl fun a hf => ?_
            refine op_pass rfl hf rfl rfl (rfl) rfl rfl fun a hf => ?_
            refine op_val (ex_pick_t hf rfl rfl rfl) rfl hf rfl rfl fun a hf => ?_
            refine wpList_nil ?_
            refine nor_then ?_
            exact ⟨true, (hf.cons rfl (hf.cons rfl (hf.cons rfl (hf.cons rfl (hf.cons rfl hf.nil))))), hO, hm⟩
          · have hm := ie hc12 hm
            refine op_guard rfl hf rfl rfl (hc12) ?_
            refine op_val (ex_field fa_36_0 hf rfl) rfl hf rfl rfl fun a hf => ?_
            refine op_guard rfl hf rfl rfl (hc12) ?_
            refine op_val (ex_load1 (o := 0) ag_9 (hO.blkSees (i := 0) rfl) rfl hf rfl) rfl hf rfl rfl fun a hf => ?_
            refine op_guard rfl hf rfl rfl (hc12) ?_
            obtain ⟨r13, hr13, hm⟩ := ob hm
            refine op_enter (ex_call c_12 hf (vs := [str x7.From]) rfl) rfl hf rfl rfl (w_location_is x7.From r13 _ (hG.own hO) hr13) ?_
            rintro e w' ⟨he, hb⟩
            refine ⟨_, he, fun a hf => ?_⟩
            have hO := hO.grow hb
            refine op_guard rfl hf rfl rfl (hc12) ?_
            refine op_val (ex_not hf rfl) rfl hf rfl rfl fun a hf => ?_
            refine op_val (ex_pick_f hf rfl hc12 rfl) rfl hf rfl rfl fun a hf => ?_
            refine op_val (ex_move hf rfl) rfl hf rfl rfl fun a hf => ?_
            rcases bcase (!r13) with hc14 | hc14
            · have hm := it hc14 hm
              refine op_pass rfl hf rfl rfl (hc14) rfl rfl fun a hf => ?_
              refine op_pass rfl hf rfl rfl (hc14) rfl rfl fun a hf => ?_
              refine op_pass rfl hf rfl rfl (hc14) rfl rfl fun a hf => ?_
              refine op_pass rfl hf rfl rfl (hc14) rfl rfl fun a hf => ?_
              refine op_val (ex_pick_t hf rfl hc14 rfl) rfl hf rfl rfl fun a hf => ?_
              refine wpList_nil ?_
              refine nor_then ?_
              exact ⟨true, (hf.cons rfl (hf.cons rfl (hf.cons rfl (hf.cons rfl (hf.cons rfl hf.nil))))), hO, hm⟩
            · have hm := ie hc14 hm
              refine op_guard rfl hf rfl rfl (hc14) ?_
              refine op_val (ex_field fa_36_1 hf rfl) rfl hf rfl rfl fun a hf => ?_
              refine op_guard rfl hf rfl rfl (hc14) ?_
              refine op_val (ex_load1 (o := 1) ag_9 (hO.blkSees (i := 0) rfl) rfl hf rfl) rfl hf rfl rfl fun a hf => ?_
              refine op_guard rfl hf rfl rfl (hc14) ?_
              obtain ⟨r15, hr15, hm⟩ := ob hm
              refine op_enter (ex_call c_12 hf (vs := [str x7.To]) rfl) rfl hf rfl rfl (w_location_is x7.To r15 _ (hG.own hO) hr15) ?_
              rintro e w' ⟨he, hb⟩
              refine ⟨_, he, fun a hf => ?_⟩
              have hO := hO.grow hb
              refine op_guard rfl hf rfl rfl (hc14) ?_
              refine op_val (ex_not hf rfl) rfl hf rfl rfl fun a hf => ?_
              refine op_val (ex_pick_f hf rfl hc14 rfl) rfl hf rfl rfl fun a hf => ?_
              refine wpList_nil ?_
              refine nor_then ?_
              exact ⟨!r15, (hf.cons rfl (hf.cons rfl (hf.cons rfl (hf.cons rfl (hf.cons rfl hf.nil))))), hO, hm⟩
        · rintro a w ⟨t16, hf, hO, hm⟩
          rw [location_Check_j2] at hm
          refine wp_cond_cut hf rfl (fun hc17 => ?_) (fun hc17 => ?_)
          · have hm := it hc17 hm
            refine wp_seq_k fun _ hK18 => ?_
            refine wp_region_list ?_
            refine op_val (ex_assign hf rfl) rfl hf rfl rfl fun a hf => ?_
            refine wpList_nil ?_
            refine nor_then (hK18 _ _ ?_)
            refine wp_ret ?_
            refine ret_block ?_
            refine ret_then ?_
            refine ret_then ?_
            refine ret_block ?_
            refine ret_then ?_
            obtain rfl := Option.some.inj hm
            exact post_ret Try.results9 hf (.tmp rfl .nil) ⟨rfl, hO.below⟩
          · have hm := ie hc17 hm
            refine wp_skip ?_
            refine nor_block ?_
            refine nor_then (hK19 _ _ ?_)
            refine wp_region_list ?_
            obtain ⟨i20, hi20, hm⟩ := ob hm
            refine op_val (ex_add hf rfl rfl hi20) rfl hf rfl rfl fun a hf => ?_
            refine op_val (ex_move hf rfl) rfl hf rfl rfl fun a hf => ?_
            refine wpList_nil ?_
            refine nor_then ?_
            exact ⟨_, Nat.lt_succ_self _, i20, (hf.cons rfl (hf.cons rfl (hf.cons rfl (hf.cons rfl hf.nil)))), (hO.sub (.cons _ (.cons_cons _ .slnil))), hm⟩
      · have hm := ie hc5 hm
        refine wp_exit ?_
        refine exit_then ?_
        refine exit_then ?_
        refine exit_here ?_
        refine nor_then (hK21 _ _ ?_)
        refine wp_seq_k fun _ hK25 => ?_
        refine wp_seq_k fun _ hK22 => ?_
        refine wp_region_list ?_
        refine op_val (ex_move hf rfl) rfl hf rfl rfl fun a hf => ?_
        refine op_val (ex_len_l Try.underlying22 hf rfl) rfl hf rfl rfl fun a hf => ?_
        refine op_val (ex_gtr (m := (x_l.length : Int)) (n := 64) hf rfl rfl) rfl hf rfl rfl fun a hf => ?_
        refine wpList_nil ?_
        refine nor_then (hK22 _ _ ?_)
        refine wp_cond_cut hf rfl (fun hc23 => ?_) (fun hc23 => ?_)
        · have hm := it hc23 hm
          refine wp_seq_k fun _ hK24 => ?_
          refine wp_region_list ?_
          refine op_val (ex_assign hf rfl) rfl hf rfl rfl fun a hf => ?_
          refine wpList_nil ?_
          refine nor_then (hK24 _ _ ?_)
          refine wp_ret ?_
          refine ret_then ?_
          obtain rfl := Option.some.inj hm
          exact post_ret Try.results9 hf (.tmp rfl .nil) ⟨rfl, hO.below⟩
        · have hm := ie hc23 hm
          refine wp_skip ?_
          refine nor_then (hK25 _ _ ?_)
          refine wp_seq_k fun _ hK26 => ?_
          refine wp_region_list ?_
          refine op_val (ex_assign hf rfl) rfl hf rfl rfl fun a hf => ?_
          refine wpList_nil ?_
          refine nor_then (hK26 _ _ ?_)
          refine wp_ret ?_
          obtain rfl := Option.some.inj hm
          exact post_ret Try.results9 hf (.tmp rfl .nil) ⟨rfl, hO.below⟩
  · exact ⟨0, (hf.cons rfl (hf.cons rfl (hf.cons rfl (hf.cons rfl hf.nil)))), hO, hm⟩

set_option maxHeartbeats 1000000 in
theorem w_ref30_Check (x_l : List api_Swap) (R : Int) (w0 : World) (hG : Glob w0) {x_l_p0 : Option Addr} {x_l_c0 : Nat} (hs0 : Sees w0 x_l_p0 (cells enc_api_Swap x_l)) (hm : ref30_Check x_l = some R) :
    Calls Try.prog 10 #[.slice x_l_p0 x_l.length x_l_c0] w0 fun e w' => e = .returned (int R) ∧ Below w0.heap.size w0 w' := by
  rw [ref30_Check] at hm
  refine calls_enter (vs := [.slice x_l_p0 x_l.length x_l_c0]) Try.func10 rfl Try.ntmps10 rfl fun a hf => ?_
  have hO : Own w0 [] w0 [] := Own.refl w0
  have hO := hO.addShr hs0 (by simp [Res.shared])
  refine wp_seq_k fun _ hK1 => ?_
  refine wp_region_list ?_
  refine op_val (ex_assign hf rfl) rfl hf rfl rfl fun a hf => ?_
  refine wpList_nil ?_
  refine nor_then (hK1 _ _ ?_)
  refine wp_seq_k fun _ hK29 => ?_
  refine wp_seq_k fun _ hK2 => ?_
  refine wp_region_list ?_
  refine op_val (ex_assign hf rfl) rfl hf rfl rfl fun a hf => ?_
  refine wpList_nil ?_
  refine nor_then (hK2 _ _ ?_)
  refine wp_block ?_
  refine wp_loop_n (fun k a w => ∃ (i3 : Int), Fits 49 [(0, .slice x_l_p0 x_l.length x_l_c0), (3, int i3)] a ∧ Own w0 [] w [.shr x_l_p0 (cells enc_api_Swap x_l)] ∧ ref30_Check_L1 x_l k i3 = some R) ?_ fuel ?_
  · rintro n1 a w ⟨i3, hf, hO, hm⟩
    obtain _ | n1 := n1
    · rw [ref30_Check_L1] at hm
      cases hm
    · rw [ref30_Check_L1] at hm
      refine wp_seq_k fun _ hK6 => ?_
      refine wp_seq_k fun _ hK4 => ?_
      refine wp_region_list ?_
      refine op_val (ex_move hf rfl) rfl hf rfl rfl fun a hf => ?_
      refine op_val (ex_move hf rfl) rfl hf rfl rfl fun a hf => ?_
      refine op_val (ex_len_l Try.underlying22 hf rfl) rfl hf rfl rfl fun a hf => ?_
      refine op_val (ex_lss (m := i3) (n := (x_l.length : Int)) hf rfl rfl) rfl hf rfl rfl fun a hf => ?_
      refine wpList_nil ?_
      refine nor_then (hK4 _ _ ?_)
      refine wp_cond_cut hf rfl (fun hc5 => ?_) (fun hc5 => ?_)
      · have hm := it hc5 hm
        refine wp_skip ?_
        refine nor_then (hK6 _ _ ?_)
        refine wp_seq_k fun _ hK27 => ?_
        refine wp_block ?_
        refine wp_seq_k fun _ hK12 => ?_
        refine wp_region_list ?_
        refine op_val (ex_move hf rfl) rfl hf rfl rfl fun a hf => ?_
        refine op_val (ex_move hf rfl) rfl hf rfl rfl fun a hf => ?_
        obtain ⟨x7, hx7, hm⟩ := ob hm
        obtain ⟨b8, o9, hix7, hSx7⟩ := elemAt (enc := enc_api_Swap) (sz := 2) (xs := x_l) 22 Try.underlying22 sz_36 (by decide) (fun _ => rfl) (hO.sees (i := 0) rfl) hx7
        refine op_val (ex_indexAddr hix7 hf rfl rfl) rfl hf rfl rfl fun a hf => ?_
        refine op_val (ex_field fa_36_0 hf rfl) rfl hf rfl rfl fun a hf => ?_
        refine op_val (ex_load1 (o := 0) ag_9 (hSx7 _ (hO.sees (i := 0) rfl)) rfl hf rfl) rfl hf rfl rfl fun a hf => ?_
        obtain ⟨r10, hr10, hm⟩ := ob hm
        refine op_enter (ex_call c_7 hf (vs := [str x7.From]) rfl) rfl hf rfl rfl (w_ref11_Parse x7.From r10 _ (hG.own hO) hr10) ?_
        rintro e w' ⟨he, hb⟩
        refine ⟨_, he, fun a hf => ?_⟩
        have hO := hO.grow hb
        refine op_val (ex_move hf rfl) rfl hf rfl rfl fun a hf => ?_
        refine op_val (ex_extract hf rfl rfl) rfl hf rfl rfl fun a hf => ?_
        refine op_val (ex_extract hf rfl rfl) rfl hf rfl rfl fun a hf => ?_
        refine op_alloc al_27 hf rfl hO fun a b11 w hf hO => ?_
        refine op_storeN (i := 0) (n := 8) sz_27 rfl rfl rfl (by simp [Value.oneCell']) hf rfl rfl hO fun w hO => ?_
        refine op_val (ex_assign hf rfl) rfl hf rfl rfl fun a hf => ?_
        refine wpList_nil ?_
        refine nor_then (hK12 _ _ ?_)
        refine wp_seq_k fun _ hK18 => ?_
        refine wp_region_list ?_
        refine op_val (ex_move hf rfl) rfl hf rfl rfl fun a hf => ?_
        refine op_val (ex_move hf rfl) rfl hf rfl rfl fun a hf => ?_
        obtain ⟨x13, hx13, hm⟩ := ob hm
        obtain ⟨b14, o15, hix13, hSx13⟩ := elemAt (enc := enc_api_Swap) (sz := 2) (xs := x_l) 22 Try.underlying22 sz_36 (by decide) (fun _ => rfl) (hO.sees (i := 1) rfl) hx13
        refine op_val (ex_indexAddr hix13 hf rfl rfl) rfl hf rfl rfl fun a hf => ?_
        refine op_val (ex_field fa_36_1 hf rfl) rfl hf rfl rfl fun a hf => ?_
        refine op_val (ex_load1 (o := 1) ag_9 (hSx13 _ (hO.sees (i := 1) rfl)) rfl hf rfl) rfl hf rfl rfl fun a hf => ?_
        obtain ⟨r16, hr16, hm⟩ := ob hm
        refine op_enter (ex_call c_7 hf (vs := [str x13.To]) rfl) rfl hf rfl rfl (w_ref11_Parse x13.To r16 _ (hG.own hO) hr16) ?_
        rintro e w' ⟨he, hb⟩
        refine ⟨_, he, fun a hf => ?_⟩
        have hO := hO.grow hb
        refine op_val (ex_move hf rfl) rfl hf rfl rfl fun a hf => ?_
        refine op_val (ex_extract hf rfl rfl) rfl hf rfl rfl fun a hf => ?_
        refine op_val (ex_extract hf rfl rfl) rfl hf rfl rfl fun a hf => ?_
        refine op_alloc al_27 hf rfl hO fun a b17 w hf hO => ?_
        refine op_storeN (i := 0) (n := 8) sz_27 rfl rfl rfl (by simp [Value.oneCell']) hf rfl rfl hO fun w hO => ?_
        refine op_val (ex_assign hf rfl) rfl hf rfl rfl fun a hf => ?_
        refine wpList_nil ?_
        refine nor_then (hK18 _ _ ?_)
        refine wp_seq_cut (fun a w => ∃ (t24 : Bool), Fits 49 [(0, .slice x_l_p0 x_l.length x_l_c0), (3, int i3), (45, .bool t24)] a ∧ Own w0 [] w [.blk b17 [str r16.1.Scheme, str r16.1.Auth, str r16.1.Path, str r16.1.Query, str r16.1.Frag, .bool r16.1.HasAuth, .bool r16.1.HasQuery, .bool r16.1.HasFrag] 27, .blk b11 [str r10.1.Scheme, str r10.1.Auth, str r10.1.Path, str r10.1.Query, str r10.1.Frag, .bool r10.1.HasAuth, .bool r10.1.HasQuery, .bool r10.1.HasFrag] 27, .shr x_l_p0 (cells enc_api_Swap x_l)] ∧ ref30_Check_j2 (ref30_Check_L1 x_l n1) i3 t24 = some R) ?_ ?_
        · refine wp_region_list ?_
          refine op_val (ex_move hf rfl) rfl hf rfl rfl fun a hf => ?_
          refine op_val (ex_move hf rfl) rfl hf rfl rfl fun a hf => ?_
          obtain ⟨x19, hx19, hm⟩ := ob hm
          obtain ⟨b20, o21, hix19, hSx19⟩ := elemAt (enc := enc_api_Swap) (sz := 2) (xs := x_l) 22 Try.underlying22 sz_36 (by decide) (fun _ => rfl) (hO.sees (i := 2) rfl) hx19
          refine op_val (ex_indexAddr hix19 hf rfl rfl) rfl hf rfl rfl fun a hf => ?_
          refine op_val (ex_field fa_36_0 hf rfl) rfl hf rfl rfl fun a hf => ?_
          refine op_val (ex_load1 (o := 0) ag_9 (hSx19 _ (hO.sees (i := 2) rfl)) rfl hf rfl) rfl hf rfl rfl fun a hf => ?_
          refine op_val (ex_eql_s (l := x19.From) (m := []) hf rfl rfl) rfl hf rfl rfl fun a hf => ?_
          refine op_val (ex_move hf rfl) rfl hf rfl rfl fun a hf => ?_
          rcases bcase (x19.From == []) with hc22 | hc22
          · have hm := it hc22 hm
            refine op_pass rfl hf rfl rfl (hc22) rfl rfl fun a hf => ?_
            refine op_pass rfl hf rfl rfl (hc22) rfl rfl fun a hf => ?_
            refine op_val (ex_pick_t hf rfl hc22 rfl) rfl hf rfl rfl fun a hf => ?_
            refine op_val (ex_move hf rfl) rfl hf rfl rfl fun a hf => ?_
            refine op_pass rfl hf rfl rfl (rfl) rfl rfl fun a hf => ?_
            refine op_pass rfl hf rfl rfl (rfl) rfl rfl fun a hf => ?_
            refine op_val (ex_pick_t hf rfl rfl rfl) rfl hf rfl rfl fun a hf => ?_
            refine wpList_nil ?_
            refine nor_then ?_
            exact ⟨true, (hf.cons rfl (hf.cons rfl (hf.cons rfl hf.nil))), hO, hm⟩
          · have hm := ie hc22 hm
            refine op_guard rfl hf rfl rfl (hc22) ?_
            refine op_val (ex_move hf rfl) rfl hf rfl rfl fun a hf => ?_
            refine op_guard rfl hf rfl rfl (hc22) ?_
            refine op_val (ex_neq (m := r10.2) (n := 0) hf rfl rfl) rfl hf rfl rfl fun a hf => ?_
            refine op_val (ex_pick_f hf rfl hc22 rfl) rfl hf rfl rfl fun a hf => ?_
            refine op_val (ex_move hf rfl) rfl hf rfl rfl fun a hf => ?_
            rcases bcase (!(r10.2 == 0)) with hc23 | hc23
            · have hm := it hc23 hm
              refine op_pass rfl hf rfl rfl (hc23) rfl rfl fun a hf => ?_
              refine op_pass rfl hf rfl rfl (hc23) rfl rfl fun a hf => ?_
              refine op_val (ex_pick_t hf rfl hc23 rfl) rfl hf rfl rfl fun a hf => ?_
              refine wpList_nil ?_
              refine nor_then ?_
              exact ⟨true, (hf.cons rfl (hf.cons rfl (hf.cons rfl hf.nil))), hO, hm⟩
            · have hm := ie hc23 hm
              refine op_guard rfl hf rfl rfl (hc23) ?_
              refine op_val (ex_move hf rfl) rfl hf rfl rfl fun a hf => ?_
              refine op_guard rfl hf rfl rfl (hc23) ?_
              refine op_val (ex_neq (m := r16.2) (n := 0) hf rfl rfl) rfl hf rfl rfl fun a hf => ?_
              refine op_val (ex_pick_f hf rfl hc23 rfl) rfl hf rfl rfl fun a hf => ?_
              refine wpList_nil ?_
              refine nor_then ?_
              exact ⟨!(r16.2 == 0), (hf.cons rfl (hf.cons rfl (hf.cons rfl hf.nil))), hO, hm⟩
        · rintro a w ⟨t24, hf, hO, hm⟩
          rw [ref30_Check_j2] at hm
          refine wp_cond_cut hf rfl (fun hc25 => ?_) (fun hc25 => ?_)
          · have hm := it hc25 hm
            refine wp_seq_k fun _ hK26 => ?_
            refine wp_region_list ?_
            refine op_val (ex_assign hf rfl) rfl hf rfl rfl fun a hf => ?_
            refine wpList_nil ?_
            refine nor_then (hK26 _ _ ?_)
            refine wp_ret ?_
            refine ret_block ?_
            refine ret_then ?_
            refine ret_then ?_
            refine ret_block ?_
            refine ret_then ?_
            obtain rfl := Option.some.inj hm
            exact post_ret Try.results10 hf (.tmp rfl .nil) ⟨rfl, hO.below⟩
          · have hm := ie hc25 hm
            refine wp_skip ?_
            refine nor_block ?_
            refine nor_then (hK27 _ _ ?_)
            refine wp_region_list ?_
            refine op_val (ex_move hf rfl) rfl hf rfl rfl fun a hf => ?_
            obtain ⟨i28, hi28, hm⟩ := ob hm
            refine op_val (ex_add hf rfl rfl hi28) rfl hf rfl rfl fun a hf => ?_
            refine op_val (ex_assign hf rfl) rfl hf rfl rfl fun a hf => ?_
            refine wpList_nil ?_
            refine nor_then ?_
            exact ⟨_, Nat.lt_succ_self _, i28, (hf.cons rfl (hf.cons rfl hf.nil)), (hO.sub (.cons _ (.cons _ (.cons_cons _ .slnil)))), hm⟩
      · have hm := ie hc5 hm
        refine wp_exit ?_
        refine exit_then ?_
        refine exit_then ?_
        refine exit_here ?_
        refine nor_then (hK29 _ _ ?_)
        refine wp_seq_k fun _ hK33 => ?_
        refine wp_seq_k fun _ hK30 => ?_
        refine wp_region_list ?_
        refine op_val (ex_move hf rfl) rfl hf rfl rfl fun a hf => ?_
        refine op_val (ex_len_l Try.underlying22 hf rfl) rfl hf rfl rfl fun a hf => ?_
        refine op_val (ex_gtr (m := (x_l.length : Int)) (n := 64) hf rfl rfl) rfl hf rfl rfl fun a hf => ?_
        refine wpList_nil ?_
        refine nor_then (hK30 _ _ ?_)
        refine wp_cond_cut hf rfl (fun hc31 => ?_) (fun hc31 => ?_)
        · have hm := it hc31 hm
          refine wp_seq_k fun _ hK32 => ?_
          refine wp_region_list ?_
          refine op_val (ex_assign hf rfl) rfl hf rfl rfl fun a hf => ?_
          refine wpList_nil ?_
          refine nor_then (hK32 _ _ ?_)
          refine wp_ret ?_
          refine ret_then ?_
          obtain rfl := Option.some.inj hm
          exact post_ret Try.results10 hf (.tmp rfl .nil) ⟨rfl, hO.below⟩
        · have hm := ie hc31 hm
          refine wp_skip ?_
          refine nor_then (hK33 _ _ ?_)
          refine wp_seq_k fun _ hK34 => ?_
          refine wp_region_list ?_
          refine op_val (ex_assign hf rfl) rfl hf rfl rfl fun a hf => ?_
          refine wpList_nil ?_
          refine nor_then (hK34 _ _ ?_)
          refine wp_ret ?_
          obtain rfl := Option.some.inj hm
          exact post_ret Try.results10 hf (.tmp rfl .nil) ⟨rfl, hO.below⟩
  · exact ⟨0, (hf.cons rfl (hf.cons rfl hf.nil)), hO, hm⟩

set_option maxHeartbeats 1000000 in
theorem w_law30_LocationRewrites (x_s : Str) (x_l : List api_Swap) (R : Bool) (w0 : World) (hG : Glob w0) {x_l_p0 : Option Addr} {x_l_c0 : Nat} (hs0 : Sees w0 x_l_p0 (cells enc_api_Swap x_l)) (hm : law30_LocationRewrites x_s x_l = some R) :
    Calls Try.prog 3 #[str x_s, .slice x_l_p0 x_l.length x_l_c0] w0 fun e w' => e = .returned (.bool R) ∧ Below w0.heap.size w0 w' := by
  rw [law30_LocationRewrites] at hm
  refine calls_enter (vs := [str x_s, .slice x_l_p0 x_l.length x_l_c0]) Try.func3 rfl Try.ntmps3 rfl fun a hf => ?_
  have hO : Own w0 [] w0 [] := Own.refl w0
  have hO := hO.addShr hs0 (by simp [Res.shared])
  refine wp_seq_k fun _ hK1 => ?_
  refine wp_region_list ?_
  refine op_val (ex_assign hf rfl) rfl hf rfl rfl fun a hf => ?_
  refine wpList_nil ?_
  refine nor_then (hK1 _ _ ?_)
  refine wp_seq_k fun _ hK6 => ?_
  refine wp_seq_k fun _ hK3 => ?_
  refine wp_region_list ?_
  obtain ⟨r2, hr2, hm⟩ := ob hm
  refine op_enter (ex_call c_4 hf (vs := []) rfl) rfl hf rfl rfl (w_law30_awake r2 _ (hG.own hO) hr2) ?_
  rintro e w' ⟨he, hb⟩
  refine ⟨_, he, fun a hf => ?_⟩
  have hO := hO.grow hb
  refine op_val (ex_not hf rfl) rfl hf rfl rfl fun a hf => ?_
  refine wpList_nil ?_
  refine nor_then (hK3 _ _ ?_)
  refine wp_cond_cut hf rfl (fun hc4 => ?_) (fun hc4 => ?_)
  · have hm := it hc4 hm
    refine wp_seq_k fun _ hK5 => ?_
    refine wp_region_list ?_
    refine op_val (ex_assign hf rfl) rfl hf rfl rfl fun a hf => ?_
    refine wpList_nil ?_
    refine nor_then (hK5 _ _ ?_)
    refine wp_ret ?_
    refine ret_then ?_
    obtain rfl := Option.some.inj hm
    exact post_ret Try.results3 hf (.tmp rfl .nil) ⟨rfl, hO.below⟩
  · have hm := ie hc4 hm
    refine wp_skip ?_
    refine nor_then (hK6 _ _ ?_)
    refine wp_seq_k fun _ hK11 => ?_
    obtain ⟨s7, hs7, hm⟩ := ob hm
    obtain ⟨r8, hr8, hm⟩ := ob hm
    refine wp_drawS' (S := Option Addr × Nat) (E0 := [(0, str x_s), (1, .slice x_l_p0 x_l.length x_l_c0)]) (by kernel_rfl) (fun k σ w => match k with | 0 => Own w0 [] w [.shr x_l_p0 (cells enc_api_Swap x_l)] | _ => Own w0 [] w [.row (.slice (σ.1) r8.length (σ.2)) 36 2 r8.length (cells enc_api_Swap r8), .shr x_l_p0 (cells enc_api_Swap x_l)]) (fun σ => [⟨[(0, str x_s)], some (12, str x_s)⟩, ⟨[(0, str x_s)], some (13, str x_s)⟩, ⟨[(13, str x_s)], some (14, int (x_s.length : Int))⟩, ⟨[(14, int (x_s.length : Int))], some (15, int (min (x_s.length : Int) 200))⟩, ⟨[(12, str x_s), (15, int (min (x_s.length : Int) 200))], some (16, str s7)⟩, ⟨[(1, .slice x_l_p0 x_l.length x_l_c0)], some (17, .slice x_l_p0 x_l.length x_l_c0)⟩, ⟨[(17, .slice x_l_p0 x_l.length x_l_c0)], some (18, .slice (σ.1) r8.length (σ.2))⟩, ⟨[(16, str s7)], some (0, str s7)⟩, ⟨[(18, .slice (σ.1) r8.length (σ.2))], some (1, .slice (σ.1) r8.length (σ.2))⟩]) (none, 0) [6] rfl (fun _ => rfl) (fun _ => rfl) (fun _ => rfl) rfl rfl (by decide) rfl hO.drew (hf.cons rfl (hf.cons rfl hf.nil)) (fun σ => ⟨⟨rfl, trivial⟩, ⟨⟨rfl, trivial⟩, ⟨⟨rfl, trivial⟩, ⟨⟨rfl, trivial⟩, ⟨⟨rfl, ⟨rfl, trivial⟩⟩, ⟨⟨rfl, trivial⟩, ⟨⟨rfl, trivial⟩, ⟨⟨rfl, trivial⟩, ⟨⟨rfl, trivial⟩, trivial⟩⟩⟩⟩⟩⟩⟩⟩⟩) ⟨sS_pure rfl (fun σ => rfl) (fun σ => rfl) (fun σ a w k _ _ _ hf => ex_move hf rfl), ⟨sS_pure rfl (fun σ => rfl) (fun σ => rfl) (fun σ a w k _ _ _ hf => ex_move hf rfl), ⟨sS_pure rfl (fun σ => rfl) (fun σ => rfl) (fun σ a w k _ _ _ hf => ex_len_s (l := x_s) Try.underlying9 hf rfl), ⟨sS_pure rfl (fun σ => rfl) (fun σ => rfl) (fun σ a w k _ _ _ hf => ex_min (m := (x_s.length : Int)) (n := 200) hf rfl rfl), ⟨sS_pure rfl (fun σ => rfl) (fun σ => rfl) (fun σ a w k _ _ _ hf => ex_to_s (l := x_s) Try.underlying9 hf rfl rfl hs7), ⟨sS_pure rfl (fun σ => rfl) (fun σ => rfl) (fun σ a w k _ _ _ hf => ex_move hf rfl), ⟨sS_call rfl (fun σ => rfl) (fun σ => rfl) rfl (fun σ a w (_ : _) hf => ex_call c_5 hf (vs := [.slice x_l_p0 x_l.length x_l_c0]) rfl) (fun σ w (hO : Own w0 [] w [.shr x_l_p0 (cells enc_api_Swap x_l)]) => (w_law29_Few x_l r8 _ (hG.own hO) (hO.sees (i := 0) rfl) hr8).mono fun e w' h => by obtain ⟨p9, c10, he, hO'⟩ := h; exact ⟨(p9, c10), he, hO.call hO' (by simp [Res.shared]), ⟨.inr rfl, ⟨.inr rfl, ⟨.inr rfl, ⟨.inr rfl, ⟨.inr rfl, ⟨.inr rfl, ⟨.inl rfl, ⟨.inr rfl, ⟨.inl rfl, trivial⟩⟩⟩⟩⟩⟩⟩⟩⟩⟩), ⟨sS_pure rfl (fun σ => rfl) (fun σ => rfl) (fun σ a w k _ _ _ hf => ex_assign hf rfl), ⟨sS_pure rfl (fun σ => rfl) (fun σ => rfl) (fun σ a w k _ _ _ hf => ex_assign hf rfl), trivial⟩⟩⟩⟩⟩⟩⟩⟩⟩ ?_
    rintro ⟨p9, c10⟩ a w hf hO
    have hO : Own w0 [] w [.row (.slice p9 r8.length c10) 36 2 r8.length (cells enc_api_Swap r8), .shr x_l_p0 (cells enc_api_Swap x_l)] := hO
    have hf : Fits 57 [(0, str s7), (1, .slice p9 r8.length c10)] a := (hf.cons rfl (hf.cons rfl hf.nil))
    refine nor_then (hK11 _ _ ?_)
    refine wp_seq_k fun _ hK13 => ?_
    refine wp_region_list ?_
    refine op_val (ex_move hf rfl) rfl hf rfl rfl fun a hf => ?_
    refine op_val (ex_move hf rfl) rfl hf rfl rfl fun a hf => ?_
    obtain ⟨r12, hr12, hm⟩ := ob hm
    refine op_enter (ex_call c_6 hf (vs := [str s7, .slice p9 r8.length c10]) rfl) rfl hf rfl rfl (w_location_Rewrite s7 r8 r12 _ (hG.own hO) (hO.rowSees (i := 0) rfl) hr12) ?_
    rintro e w' ⟨he, hb⟩
    refine ⟨_, he, fun a hf => ?_⟩
    have hO := hO.grow hb
    refine op_val (ex_assign hf rfl) rfl hf rfl rfl fun a hf => ?_
    refine wpList_nil ?_
    refine nor_then (hK13 _ _ ?_)
    refine wp_seq_k fun _ hK16 => ?_
    refine wp_region_list ?_
    refine op_val (ex_move hf rfl) rfl hf rfl rfl fun a hf => ?_
    obtain ⟨r14, hr14, hm⟩ := ob hm
    refine op_enter (ex_call c_7 hf (vs := [str s7]) rfl) rfl hf rfl rfl (w_ref11_Parse s7 r14 _ (hG.own hO) hr14) ?_
    rintro e w' ⟨he, hb⟩
    refine ⟨_, he, fun a hf => ?_⟩
    have hO := hO.grow hb
    refine op_val (ex_move hf rfl) rfl hf rfl rfl fun a hf => ?_
    refine op_val (ex_extract hf rfl rfl) rfl hf rfl rfl fun a hf => ?_
    refine op_val (ex_extract hf rfl rfl) rfl hf rfl rfl fun a hf => ?_
    refine op_alloc al_27 hf rfl hO fun a b15 w hf hO => ?_
    refine op_storeN (i := 0) (n := 8) sz_27 rfl rfl rfl (by simp [Value.oneCell']) hf rfl rfl hO fun w hO => ?_
    refine op_val (ex_assign hf rfl) rfl hf rfl rfl fun a hf => ?_
    refine wpList_nil ?_
    refine nor_then (hK16 _ _ ?_)
    refine wp_seq_k fun _ hK19 => ?_
    refine wp_region_list ?_
    refine op_val (ex_move hf rfl) rfl hf rfl rfl fun a hf => ?_
    obtain ⟨r17, hr17, hm⟩ := ob hm
    refine op_enter (ex_call c_7 hf (vs := [str r12]) rfl) rfl hf rfl rfl (w_ref11_Parse r12 r17 _ (hG.own hO) hr17) ?_
    rintro e w' ⟨he, hb⟩
    refine ⟨_, he, fun a hf => ?_⟩
    have hO := hO.grow hb
    refine op_val (ex_move hf rfl) rfl hf rfl rfl fun a hf => ?_
    refine op_val (ex_extract hf rfl rfl) rfl hf rfl rfl fun a hf => ?_
    refine op_val (ex_extract hf rfl rfl) rfl hf rfl rfl fun a hf => ?_
    refine op_alloc al_27 hf rfl hO fun a b18 w hf hO => ?_
    refine op_storeN (i := 0) (n := 8) sz_27 rfl rfl rfl (by simp [Value.oneCell']) hf rfl rfl hO fun w hO => ?_
    refine op_val (ex_assign hf rfl) rfl hf rfl rfl fun a hf => ?_
    refine wpList_nil ?_
    refine nor_then (hK19 _ _ ?_)
    refine wp_seq_cut (fun a w => ∃ (t32 : Bool), Fits 57 [(4, .bool t32)] a ∧ Own w0 [] w [.blk b18 [str r17.1.Scheme, str r17.1.Auth, str r17.1.Path, str r17.1.Query, str r17.1.Frag, .bool r17.1.HasAuth, .bool r17.1.HasQuery, .bool r17.1.HasFrag] 27, .blk b15 [str r14.1.Scheme, str r14.1.Auth, str r14.1.Path, str r14.1.Query, str r14.1.Frag, .bool r14.1.HasAuth, .bool r14.1.HasQuery, .bool r14.1.HasFrag] 27, .row (.slice p9 r8.length c10) 36 2 r8.length (cells enc_api_Swap r8), .shr x_l_p0 (cells enc_api_Swap x_l)] ∧ law30_LocationRewrites_j1 t32 = some R) ?_ ?_
    · refine wp_region_list ?_
      refine op_val (ex_move hf rfl) rfl hf rfl rfl fun a hf => ?_
      refine op_val (ex_move hf rfl) rfl hf rfl rfl fun a hf => ?_
      refine op_val (ex_move hf rfl) rfl hf rfl rfl fun a hf => ?_
      obtain ⟨r20, hr20, hm⟩ := ob hm
      refine op_enter (ex_call c_8 hf (vs := [str s7, .slice p9 r8.length c10]) rfl) rfl hf rfl rfl (w_ref30_Rewrite s7 r8 r20 _ (hG.own hO) (hO.rowSees (i := 2) rfl) hr20) ?_
      rintro e w' ⟨he, hb⟩
      refine ⟨_, he, fun a hf => ?_⟩
      have hO := hO.grow hb
      refine op_val (ex_eql_s (l := r12) (m := r20) hf rfl rfl) rfl hf rfl rfl fun a hf => ?_
      refine op_val (ex_move hf rfl) rfl hf rfl rfl fun a hf => ?_
      rcases bcase (r12 == r20) with hc21 | hc21
      · have hm := it hc21 hm
        refine op_guard rfl hf rfl rfl (hc21) ?_
        refine op_val (ex_move hf rfl) rfl hf rfl rfl fun a hf => ?_
        refine op_guard rfl hf rfl rfl (hc21) ?_
        refine op_val (ex_neq (m := r14.2) (n := 0) hf rfl rfl) rfl hf rfl rfl fun a hf => ?_
        refine op_guard rfl hf rfl rfl (hc21) ?_
        refine op_val (ex_move hf rfl) rfl hf rfl rfl fun a hf => ?_
        rcases bcase (!(r14.2 == 0)) with hc22 | hc22
        · have hm := it hc22 hm
          refine op_guard rfl hf rfl rfl (hc22) ?_
          refine op_val (ex_move hf rfl) rfl hf rfl rfl fun a hf => ?_
          refine op_guard rfl hf rfl rfl (hc22) ?_
          refine op_val (ex_move hf rfl) rfl hf rfl rfl fun a hf => ?_
          refine op_guard rfl hf rfl rfl (hc22) ?_
          refine op_val (ex_eql_s (l := r12) (m := s7) hf rfl rfl) rfl hf rfl rfl fun a hf => ?_
          refine op_guard rfl hf rfl rfl (hc21) ?_
          refine op_val (ex_pick_t hf rfl hc22 rfl) rfl hf rfl rfl fun a hf => ?_
          refine op_guard rfl hf rfl rfl (hc21) ?_
          refine op_val (ex_move hf rfl) rfl hf rfl rfl fun a hf => ?_
          rcases bcase (r12 == s7) with hc23 | hc23
          · have hm := it hc23 hm
            refine op_pass rfl hf rfl rfl (hc23) rfl rfl fun a hf => ?_
            refine op_pass rfl hf rfl rfl (hc23) rfl rfl fun a hf => ?_
            refine op_guard rfl hf rfl rfl (hc21) ?_
            refine op_val (ex_pick_t hf rfl hc23 rfl) rfl hf rfl rfl fun a hf => ?_
            refine op_val (ex_pick_t hf rfl hc21 rfl) rfl hf rfl rfl fun a hf => ?_
            refine op_val (ex_move hf rfl) rfl hf rfl rfl fun a hf => ?_
            refine op_guard rfl hf rfl rfl (rfl) ?_
            refine op_val (ex_move hf rfl) rfl hf rfl rfl fun a hf => ?_
            refine op_guard rfl hf rfl rfl (rfl) ?_
            obtain ⟨r24, hr24, hm⟩ := ob hm
            refine op_enter (ex_call c_9 hf (vs := [.slice p9 r8.length c10]) rfl) rfl hf rfl rfl (w_location_Check r8 r24 _ (hG.own hO) (hO.rowSees (i := 2) rfl) hr24) ?_
            rintro e w' ⟨he, hb⟩
            refine ⟨_, he, fun a hf => ?_⟩
            have hO := hO.grow hb
            refine op_guard rfl hf rfl rfl (rfl) ?_
            refine op_val (ex_move hf rfl) rfl hf rfl rfl fun a hf => ?_
            refine op_guard rfl hf rfl rfl (rfl) ?_
            obtain ⟨r25, hr25, hm⟩ := ob hm
            refine op_enter (ex_call c_10 hf (vs := [.slice p9 r8.length c10]) rfl) rfl hf rfl rfl (w_ref30_Check r8 r25 _ (hG.own hO) (hO.rowSees (i := 2) rfl) hr25) ?_
            rintro e w' ⟨he, hb⟩
            refine ⟨_, he, fun a hf => ?_⟩
            have hO := hO.grow hb
            refine op_guard rfl hf rfl rfl (rfl) ?_
            refine op_val (ex_eql (m := r24) (n := r25) hf rfl rfl) rfl hf rfl rfl fun a hf => ?_
            refine op_val (ex_pick_t hf rfl rfl rfl) rfl hf rfl rfl fun a hf => ?_
            refine op_val (ex_assign hf rfl) rfl hf rfl rfl fun a hf => ?_
            refine wpList_nil ?_
            refine nor_then ?_
            exact ⟨r24 == r25, (hf.cons rfl hf.nil), hO, hm⟩
          · have hm := ie hc23 hm
            refine op_guard rfl hf rfl rfl (hc23) ?_
            refine op_val (ex_move hf rfl) rfl hf rfl rfl fun a hf => ?_
            refine op_guard rfl hf rfl rfl (hc23) ?_
            refine op_val (ex_eql (m := r17.2) (n := 0) hf rfl rfl) rfl hf rfl rfl fun a hf => ?_
            refine op_guard rfl hf rfl rfl (hc21) ?_
            refine op_val (ex_pick_f hf rfl hc23 rfl) rfl hf rfl rfl fun a hf => ?_
            refine op_val (ex_pick_t hf rfl hc21 rfl) rfl hf rfl rfl fun a hf => ?_
            refine op_val (ex_move hf rfl) rfl hf rfl rfl fun a hf => ?_
            rcases bcase (r17.2 == 0) with hc26 | hc26
            · have hm := it hc26 hm
              refine op_guard rfl hf rfl rfl (hc26) ?_
              refine op_val (ex_move hf rfl) rfl hf rfl rfl fun a hf => ?_
              refine op_guard rfl hf rfl rfl (hc26) ?_
              obtain ⟨r27, hr27, hm⟩ := ob hm
              refine op_enter (ex_call c_9 hf (vs := [.slice p9 r8.length c10]) rfl) rfl hf rfl rfl (w_location_Check r8 r27 _ (hG.own hO) (hO.rowSees (i := 2) rfl) hr27) ?_
              rintro e w' ⟨he, hb⟩
              refine ⟨_, he, fun a hf => ?_⟩
              have hO := hO.grow hb
              refine op_guard rfl hf rfl rfl (hc26) ?_
              refine op_val (ex_move hf rfl) rfl hf rfl rfl fun a hf => ?_
              refine op_guard rfl hf rfl rfl (hc26) ?_
              obtain ⟨r28, hr28, hm⟩ := ob hm
              refine op_enter (ex_call c_10 hf (vs := [.slice p9 r8.length c10]) rfl) rfl hf rfl rfl (w_ref30_Check r8 r28 _ (hG.own hO) (hO.rowSees (i := 2) rfl) hr28) ?_
              rintro e w' ⟨he, hb⟩
              refine ⟨_, he, fun a hf => ?_⟩
              have hO := hO.grow hb
              refine op_guard rfl hf rfl rfl (hc26) ?_
              refine op_val (ex_eql (m := r27) (n := r28) hf rfl rfl) rfl hf rfl rfl fun a hf => ?_
              refine op_val (ex_pick_t hf rfl hc26 rfl) rfl hf rfl rfl fun a hf => ?_
              refine op_val (ex_assign hf rfl) rfl hf rfl rfl fun a hf => ?_
              refine wpList_nil ?_
              refine nor_then ?_
              exact ⟨r27 == r28, (hf.cons rfl hf.nil), hO, hm⟩
            · have hm := ie hc26 hm
              refine op_pass rfl hf rfl rfl (hc26) rfl rfl fun a hf => ?_
              refine op_pass rfl hf rfl rfl (hc26) rfl rfl fun a hf => ?_
              refine op_pass rfl hf rfl rfl (hc26) rfl rfl fun a hf => ?_
              refine op_pass rfl hf rfl rfl (hc26) rfl rfl fun a hf => ?_
              refine op_pass rfl hf rfl rfl (hc26) rfl rfl fun a hf => ?_
              refine op_val (ex_pick_f hf rfl hc26 rfl) rfl hf rfl rfl fun a hf => ?_
              refine op_val (ex_assign hf rfl) rfl hf rfl rfl fun a hf => ?_
              refine wpList_nil ?_
              refine nor_then ?_
              exact ⟨false, (hf.cons rfl hf.nil), hO, hm⟩
        · have hm := ie hc22 hm
          refine op_pass rfl hf rfl rfl (hc22) rfl rfl fun a hf => ?_
          refine op_pass rfl hf rfl rfl (hc22) rfl rfl fun a hf => ?_
          refine op_pass rfl hf rfl rfl (hc22) rfl rfl fun a hf => ?_
          refine op_guard rfl hf rfl rfl (hc21) ?_
          refine op_val (ex_pick_f hf rfl hc22 rfl) rfl hf rfl rfl fun a hf => ?_
          refine op_guard rfl hf rfl rfl (hc21) ?_
          refine op_val (ex_move hf rfl) rfl hf rfl rfl fun a hf => ?_
          refine op_guard rfl hf rfl rfl (rfl) ?_
          refine op_val (ex_move hf rfl) rfl hf rfl rfl fun a hf => ?_
          refine op_guard rfl hf rfl rfl (rfl) ?_
          refine op_val (ex_eql (m := r17.2) (n := 0) hf rfl rfl) rfl hf rfl rfl fun a hf => ?_
          refine op_guard rfl hf rfl rfl (hc21) ?_
          refine op_val (ex_pick_f hf rfl rfl rfl) rfl hf rfl rfl fun a hf => ?_
          refine op_val (ex_pick_t hf rfl hc21 rfl) rfl hf rfl rfl fun a hf => ?_
          refine op_val (ex_move hf rfl) rfl hf rfl rfl fun a hf => ?_
          rcases bcase (r17.2 == 0) with hc29 | hc29
          · have hm := it hc29 hm
            refine op_guard rfl hf rfl rfl (hc29) ?_
            refine op_val (ex_move hf rfl) rfl hf rfl rfl fun a hf => ?_
            refine op_guard rfl hf rfl rfl (hc29) ?_
            obtain ⟨r30, hr30, hm⟩ := ob hm
            refine op_enter (ex_call c_9 hf (vs := [.slice p9 r8.length c10]) rfl) rfl hf rfl rfl (w_location_Check r8 r30 _ (hG.own hO) (hO.rowSees (i := 2) rfl) hr30) ?_
            rintro e w' ⟨he, hb⟩
            refine ⟨_, he, fun a hf => ?_⟩
            have hO := hO.grow hb
            refine op_guard rfl hf rfl rfl (hc29) ?_
            refine op_val (ex_move hf rfl) rfl hf rfl rfl fun a hf => ?_
            refine op_guard rfl hf rfl rfl (hc29) ?_
            obtain ⟨r31, hr31, hm⟩ := ob hm
            refine op_enter (ex_call c_10 hf (vs := [.slice p9 r8.length c10]) rfl) rfl hf rfl rfl (w_ref30_Check r8 r31 _ (hG.own hO) (hO.rowSees (i := 2) rfl) hr31) ?_
            rintro e w' ⟨he, hb⟩
            refine ⟨_, he, fun a hf => ?_⟩
            have hO := hO.grow hb
            refine op_guard rfl hf rfl rfl (hc29) ?_
            refine op_val (ex_eql (m := r30) (n := r31) hf rfl rfl) rfl hf rfl rfl fun a hf => ?_
            refine op_val (ex_pick_t hf rfl hc29 rfl) rfl hf rfl rfl fun a hf => ?_
            refine op_val (ex_assign hf rfl) rfl hf rfl rfl fun a hf => ?_
            refine wpList_nil ?_
            refine nor_then ?_
            exact ⟨r30 == r31, (hf.cons rfl hf.nil), hO, hm⟩
          · have hm := ie hc29 hm
            refine op_pass rfl hf rfl rfl (hc29) rfl rfl fun a hf => ?_
            refine op_pass rfl hf rfl rfl (hc29) rfl rfl fun a hf => ?_
            refine op_pass rfl hf rfl rfl (hc29) rfl rfl fun a hf => ?_
            refine op_pass rfl hf rfl rfl (hc29) rfl rfl fun a hf => ?_
            refine op_pass rfl hf rfl rfl (hc29) rfl rfl fun a hf => ?_
            refine op_val (ex_pick_f hf rfl hc29 rfl) rfl hf rfl rfl fun a hf => ?_
            refine op_val (ex_assign hf rfl) rfl hf rfl rfl fun a hf => ?_
            refine wpList_nil ?_
            refine nor_then ?_
            exact ⟨false, (hf.cons rfl hf.nil), hO, hm⟩
      · have hm := ie hc21 hm
        refine op_pass rfl hf rfl rfl (hc21) rfl rfl fun a hf => ?_
        refine op_pass rfl hf rfl rfl (hc21) rfl rfl fun a hf => ?_
        refine op_pass rfl hf rfl rfl (hc21) rfl rfl fun a hf => ?_
        refine op_passu rfl hf rfl rfl rfl rfl fun a hf => ?_
        refine op_passu rfl hf rfl rfl rfl rfl fun a hf => ?_
        refine op_passu rfl hf rfl rfl rfl rfl fun a hf => ?_
        refine op_pass rfl hf rfl rfl (hc21) rfl rfl fun a hf => ?_
        refine op_pass rfl hf rfl rfl (hc21) rfl rfl fun a hf => ?_
        refine op_passu rfl hf rfl rfl rfl rfl fun a hf => ?_
        refine op_passu rfl hf rfl rfl rfl rfl fun a hf => ?_
        refine op_pass rfl hf rfl rfl (hc21) rfl rfl fun a hf => ?_
        refine op_val (ex_pick_f hf rfl hc21 rfl) rfl hf rfl rfl fun a hf => ?_
        refine op_val (ex_move hf rfl) rfl hf rfl rfl fun a hf => ?_
        refine op_pass rfl hf rfl rfl (rfl) rfl rfl fun a hf => ?_
        refine op_pass rfl hf rfl rfl (rfl) rfl rfl fun a hf => ?_
        refine op_pass rfl hf rfl rfl (rfl) rfl rfl fun a hf => ?_
        refine op_pass rfl hf rfl rfl (rfl) rfl rfl fun a hf => ?_
        refine op_pass rfl hf rfl rfl (rfl) rfl rfl fun a hf => ?_
        refine op_val (ex_pick_f hf rfl rfl rfl) rfl hf rfl rfl fun a hf => ?_
        refine op_val (ex_assign hf rfl) rfl hf rfl rfl fun a hf => ?_
        refine wpList_nil ?_
        refine nor_then ?_
        exact ⟨false, (hf.cons rfl hf.nil), hO, hm⟩
    · rintro a w ⟨t32, hf, hO, hm⟩
      rw [law30_LocationRewrites_j1] at hm
      refine wp_ret ?_
      obtain rfl := Option.some.inj hm
      exact post_ret Try.results3 hf (.tmp rfl .nil) ⟨rfl, hO.below⟩

end Go.Proofs
