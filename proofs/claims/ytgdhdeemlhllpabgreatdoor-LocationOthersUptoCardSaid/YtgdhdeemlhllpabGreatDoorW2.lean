/-
  Walks, written by a program (wip/gen): what its model says, the function returns; what was there before is as it was.
-/
import Derived.Test.YtgdhdeemlhllpabGreatDoorLib
import Derived.Test.YtgdhdeemlhllpabGreatDoorW0
import Derived.Test.YtgdhdeemlhllpabGreatDoorW1
set_option linter.unusedVariables false
set_option linter.unusedSimpArgs false
set_option maxRecDepth 100000
namespace Go.Proofs
open Go.Dk Go.Dm Go.RowKit

set_option maxHeartbeats 1000000 in
theorem w_domains_Map (x_name : Str) (x_l : List api_Swap) (R : Str × Bool) (w0 : World) (hG : GlobT w0) {x_l_p0 : Option Addr} {x_l_c0 : Nat} (hs0 : Sees w0 x_l_p0 (cells enc_api_Swap x_l)) (hc0 : x_l.length ≤ x_l_c0) (hm : domains_Map x_name x_l = some R) :
    Calls Tryz.prog 13 #[str x_name, .slice x_l_p0 x_l.length x_l_c0] w0 fun e w' => e = .returned (.tuple #[str R.1, .bool R.2]) ∧ Below w0.heap.size w0 w' := by
  rw [domains_Map] at hm
  refine calls_enter (vs := [str x_name, .slice x_l_p0 x_l.length x_l_c0]) Tryz.func13 rfl Tryz.ntmps13 rfl fun a hf => ?_
  have hF : Away [] := away_nil
  have hO : Dk.Own w0 [] w0 [] := Dk.Own.refl w0
  have hO := hO.addShr hs0 (by simp [Res.shared])
  refine wp_seq_k fun _ hK1 => ?_
  refine wp_region_list ?_
  refine op_val (ex_assign hf rfl) rfl hf rfl rfl fun a hf => ?_
  refine op_val (ex_assign hf rfl) rfl hf rfl rfl fun a hf => ?_
  refine wpList_nil ?_
  refine nor_then (hK1 _ _ ?_)
  refine wp_seq_k fun _ hK3 => ?_
  refine wp_region_list ?_
  refine op_val (ex_move hf rfl) rfl hf rfl rfl fun a hf => ?_
  obtain ⟨r2, hr2, hm⟩ := ob hm
  refine op_enter (ex_call c_33 hf (vs := [str x_name, str [46]]) rfl) rfl hf rfl rfl (w_strings_TrimPrefix x_name [46] r2 _ (hG.own hF hO).1 hr2) ?_
  rintro e w' ⟨he, hb⟩
  refine ⟨_, he, fun a hf => ?_⟩
  have hO := hO.grow hb
  refine op_val (ex_assign hf rfl) rfl hf rfl rfl fun a hf => ?_
  refine wpList_nil ?_
  refine nor_then (hK3 _ _ ?_)
  refine wp_seq_k fun _ hK23 => ?_
  refine wp_seq_k fun _ hK4 => ?_
  refine wp_region_list ?_
  refine op_val (ex_move hf rfl) rfl hf rfl rfl fun a hf => ?_
  refine op_val (ex_len_l Tryz.underlying22 hf rfl) rfl hf rfl rfl fun a hf => ?_
  refine op_val (ex_move hf rfl) rfl hf rfl rfl fun a hf => ?_
  refine wpList_nil ?_
  refine nor_then (hK4 _ _ ?_)
  refine wp_block ?_
  refine wp_loop_n (fun k a w => ∃ (i5 : Int), Fits 34 [(0, str x_name), (6, str r2), (11, .slice x_l_p0 x_l.length x_l_c0), (12, int (x_l.length : Int)), (13, int i5)] a ∧ Dk.Own w0 [] w [.shr x_l_p0 (cells enc_api_Swap x_l)] ∧ domains_Map_L1 x_name x_l r2 k i5 = some R) ?_ fuel ?_
  · rintro n1 a w ⟨i5, hf, hO, hm⟩
    obtain _ | n1 := n1
    · rw [domains_Map_L1] at hm
      cases hm
    · rw [domains_Map_L1] at hm
      refine wp_seq_k fun _ hK6 => ?_
      refine wp_region_list ?_
      refine op_val (ex_lss (m := i5) (n := (x_l.length : Int)) hf rfl rfl) rfl hf rfl rfl fun a hf => ?_
      refine wpList_nil ?_
      refine nor_then (hK6 _ _ ?_)
      refine wp_seq_k fun _ hK8 => ?_
      refine wp_cond_cut hf rfl (fun hc7 => ?_) (fun hc7 => ?_)
      · have hm := it hc7 hm
        refine wp_skip ?_
        refine nor_then (hK8 _ _ ?_)
        refine wp_seq_k fun _ hK21 => ?_
        refine wp_block ?_
        refine wp_seq_k fun _ hK13 => ?_
        refine wp_region_list ?_
        obtain ⟨x9, hx9, hm⟩ := ob hm
        obtain ⟨b10, o11, hix9, hSx9⟩ := elemAt (enc := enc_api_Swap) (sz := 2) (xs := x_l) 22 Tryz.underlying22 sz_56 (by decide) (fun _ => rfl) (hO.sees (i := 0) rfl) hx9
        refine op_val (ex_indexAddr hix9 hf rfl rfl) rfl hf rfl rfl fun a hf => ?_
        refine op_val (ex_loadN (o := 0) (vs := [str x9.From, str x9.To]) ag_56 sz_56 (hSx9 _ (hO.sees (i := 0) rfl)) rfl rfl hf rfl) rfl hf rfl rfl fun a hf => ?_
        refine op_alloc al_56 hf rfl hO fun a b12 w hf hO => ?_
        refine op_storeN (i := 0) (n := 2) sz_56 rfl rfl rfl (by simp [Value.oneCell']) hf rfl rfl hO fun w hO => ?_
        refine wpList_nil ?_
        refine nor_then (hK13 _ _ ?_)
        refine wp_seq_k fun _ hK15 => ?_
        refine wp_region_list ?_
        refine op_val (ex_move hf rfl) rfl hf rfl rfl fun a hf => ?_
        refine op_val (ex_field fa_56_0 hf rfl) rfl hf rfl rfl fun a hf => ?_
        refine op_val (ex_load1 (o := 0) ag_9 (hO.blkSees (i := 0) rfl) rfl hf rfl) rfl hf rfl rfl fun a hf => ?_
        obtain ⟨r14, hr14, hm⟩ := ob hm
        refine op_enter (ex_call c_34 hf (vs := [str r2, str x9.From]) rfl) rfl hf rfl rfl (w_hostport_Under r2 x9.From r14 _ (hG.own hF hO) hr14) ?_
        rintro e w' ⟨he, hb⟩
        refine ⟨_, he, fun a hf => ?_⟩
        have hO := hO.grow hb
        refine wpList_nil ?_
        refine nor_then (hK15 _ _ ?_)
        refine wp_cond_cut hf rfl (fun hc16 => ?_) (fun hc16 => ?_)
        · have hm := it hc16 hm
          refine wp_seq_k fun _ hK20 => ?_
          refine wp_quiet (by kernel_rfl) (by kernel_rfl) hO ?_
          refine q_val (fun w hO => ex_move hf rfl) rfl hf rfl rfl fun a hf => ?_
          refine q_val (fun w hO => ex_move hf rfl) rfl hf rfl rfl fun a hf => ?_
          refine q_val (fun w hO => ex_len_s (l := r2) Tryz.underlying9 hf rfl) rfl hf rfl rfl fun a hf => ?_
          refine q_val (fun w hO => ex_field fa_56_0 hf rfl) rfl hf rfl rfl fun a hf => ?_
          refine q_val (fun w hO => ex_load1 (o := 0) ag_9 (hO.blkSees (i := 0) rfl) rfl hf rfl) rfl hf rfl rfl fun a hf => ?_
          refine q_val (fun w hO => ex_len_s (l := x9.From) Tryz.underlying9 hf rfl) rfl hf rfl rfl fun a hf => ?_
          obtain ⟨i17, hi17, hm⟩ := ob hm
          refine q_val (fun w hO => ex_sub hf rfl rfl hi17) rfl hf rfl rfl fun a hf => ?_
          obtain ⟨s18, hs18, hm⟩ := ob hm
          refine q_val (fun w hO => ex_to_s (l := r2) Tryz.underlying9 hf rfl rfl hs18) rfl hf rfl rfl fun a hf => ?_
          refine q_val (fun w hO => ex_field fa_56_1 hf rfl) rfl hf rfl rfl fun a hf => ?_
          refine q_val (fun w hO => ex_load1 (o := 1) ag_9 (hO.blkSees (i := 0) rfl) rfl hf rfl) rfl hf rfl rfl fun a hf => ?_
          obtain ⟨s19, hs19, hm⟩ := ob hm
          refine q_val (fun w hO => ex_cat (l := s18) (m := x9.To) hf rfl rfl hs19) rfl hf rfl rfl fun a hf => ?_
          refine q_val (fun w hO => ex_assign hf rfl) rfl hf rfl rfl fun a hf => ?_
          refine q_val (fun w hO => ex_assign hf rfl) rfl hf rfl rfl fun a hf => ?_
          refine wpQuiet_nil ?_
          intro w hO
          refine nor_then (hK20 _ _ ?_)
          refine wp_ret ?_
          refine ret_block ?_
          refine ret_then ?_
          refine ret_then ?_
          refine ret_block ?_
          refine ret_then ?_
          obtain rfl := Option.some.inj hm
          exact post_ret Tryz.results13 hf (.tmp rfl (.tmp rfl .nil)) ⟨rfl, hO.below⟩
        · have hm := ie hc16 hm
          refine wp_skip ?_
          refine nor_block ?_
          refine nor_then (hK21 _ _ ?_)
          refine wp_region_list ?_
          obtain ⟨i22, hi22, hm⟩ := ob hm
          refine op_val (ex_add hf rfl rfl hi22) rfl hf rfl rfl fun a hf => ?_
          refine op_val (ex_move hf rfl) rfl hf rfl rfl fun a hf => ?_
          refine wpList_nil ?_
          refine nor_then ?_
          exact ⟨_, Nat.lt_succ_self _, i22, (hf.cons rfl (hf.cons rfl (hf.cons rfl (hf.cons rfl (hf.cons rfl hf.nil))))), (hO.sub (.cons _ (.cons_cons _ .slnil))), hm⟩
      · have hm := ie hc7 hm
        refine wp_exit ?_
        refine exit_then ?_
        refine exit_then ?_
        refine exit_here ?_
        refine nor_then (hK23 _ _ ?_)
        refine wp_seq_k fun _ hK24 => ?_
        refine wp_region_list ?_
        refine op_val (ex_move hf rfl) rfl hf rfl rfl fun a hf => ?_
        refine op_val (ex_assign hf rfl) rfl hf rfl rfl fun a hf => ?_
        refine op_val (ex_assign hf rfl) rfl hf rfl rfl fun a hf => ?_
        refine wpList_nil ?_
        refine nor_then (hK24 _ _ ?_)
        refine wp_ret ?_
        obtain rfl := Option.some.inj hm
        exact post_ret Tryz.results13 hf (.tmp rfl (.tmp rfl .nil)) ⟨rfl, hO.below⟩
  · exact ⟨0, (hf.cons rfl (hf.cons rfl (hf.cons rfl (hf.cons rfl (hf.cons rfl hf.nil))))), hO, hm⟩

end Go.Proofs
