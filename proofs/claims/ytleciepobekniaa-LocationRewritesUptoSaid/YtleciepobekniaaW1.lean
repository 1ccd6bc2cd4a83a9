/-
  Walks, written by a program (wip/gen): what its model says, the function returns; what was there before is as it was.
-/
import Derived.Test.YtleciepobekniaaLib
import Derived.Test.YtleciepobekniaaW0
set_option linter.unusedVariables false
set_option linter.unusedSimpArgs false
set_option maxRecDepth 100000
namespace Go.Proofs
open Go.Dk Go.Dm Go.RowKit

set_option maxHeartbeats 1000000 in
theorem w_octet_All (x_is : UInt8 → Option Bool) (x_l : List Str) (R : Bool) (w0 : World) (hG : Glob w0) {x_is_f : Nat} {x_is_p x_is_c : Array Value} (x_is_k : Callable Try.prog x_is_f) (x_is_h : ∀ (y0 : UInt8) (r : Bool) (w : World), Glob w → x_is y0 = some r → Calls Try.prog x_is_f (x_is_p ++ [byte y0].toArray ++ x_is_c) w fun e w' => e = .returned (.bool r) ∧ Below w.heap.size w w') {x_l_p2 : Option Addr} {x_l_c2 : Nat} (hs2 : Sees w0 x_l_p2 (cells enc_str x_l)) (hm : octet_All x_is x_l = some R) :
    Calls Try.prog 44 #[.func (.func x_is_f) x_is_p x_is_c, .slice x_l_p2 x_l.length x_l_c2] w0 fun e w' => e = .returned (.bool R) ∧ Below w0.heap.size w0 w' := by
  rw [octet_All] at hm
  refine calls_enter (vs := [.func (.func x_is_f) x_is_p x_is_c, .slice x_l_p2 x_l.length x_l_c2]) Try.func44 rfl Try.ntmps44 rfl fun a hf => ?_
  have hO : Own w0 [] w0 [] := Own.refl w0
  have hO := hO.addShr hs2 (by simp [Res.shared])
  refine wp_seq_k fun _ hK1 => ?_
  refine wp_region_list ?_
  refine op_val (ex_assign hf rfl) rfl hf rfl rfl fun a hf => ?_
  refine wpList_nil ?_
  refine nor_then (hK1 _ _ ?_)
  refine wp_seq_k fun _ hK26 => ?_
  refine wp_seq_k fun _ hK2 => ?_
  refine wp_region_list ?_
  refine op_val (ex_move hf rfl) rfl hf rfl rfl fun a hf => ?_
  refine op_val (ex_len_l Try.underlying55 hf rfl) rfl hf rfl rfl fun a hf => ?_
  refine op_val (ex_move hf rfl) rfl hf rfl rfl fun a hf => ?_
  refine wpList_nil ?_
  refine nor_then (hK2 _ _ ?_)
  refine wp_block ?_
  refine wp_loop_n (fun k a w => ∃ (i3 : Int), Fits 27 [(0, .func (.func x_is_f) x_is_p x_is_c), (8, .slice x_l_p2 x_l.length x_l_c2), (9, int (x_l.length : Int)), (10, int i3)] a ∧ Own w0 [] w [.shr x_l_p2 (cells enc_str x_l)] ∧ octet_All_L1 x_is x_l k i3 = some R) ?_ fuel ?_
  · rintro n1 a w ⟨i3, hf, hO, hm⟩
    obtain _ | n1 := n1
    · rw [octet_All_L1] at hm
      cases hm
    · rw [octet_All_L1] at hm
      refine wp_seq_k fun _ hK4 => ?_
      refine wp_region_list ?_
      refine op_val (ex_lss (m := i3) (n := (x_l.length : Int)) hf rfl rfl) rfl hf rfl rfl fun a hf => ?_
      refine wpList_nil ?_
      refine nor_then (hK4 _ _ ?_)
      refine wp_seq_k fun _ hK6 => ?_
      refine wp_cond_cut hf rfl (fun hc5 => ?_) (fun hc5 => ?_)
      · have hm := it hc5 hm
        refine wp_skip ?_
        refine nor_then (hK6 _ _ ?_)
        refine wp_seq_k fun _ hK24 => ?_
        refine wp_block ?_
        refine wp_seq_k fun _ hK10 => ?_
        refine wp_region_list ?_
        obtain ⟨x7, hx7, hm⟩ := ob hm
        obtain ⟨b8, o9, hix7, hSx7⟩ := elemAt (enc := enc_str) (sz := 1) (xs := x_l) 55 Try.underlying55 sz_9 (by decide) (fun _ => rfl) (hO.sees (i := 0) rfl) hx7
        refine op_val (ex_indexAddr hix7 hf rfl rfl) rfl hf rfl rfl fun a hf => ?_
        refine op_val (ex_load1 (o := 0) ag_9 (hSx7 _ (hO.sees (i := 0) rfl)) rfl hf rfl) rfl hf rfl rfl fun a hf => ?_
        refine op_val (ex_assign hf rfl) rfl hf rfl rfl fun a hf => ?_
        refine wpList_nil ?_
        refine nor_then (hK10 _ _ ?_)
        refine wp_seq_k fun _ hK11 => ?_
        refine wp_region_list ?_
        refine op_val (ex_move hf rfl) rfl hf rfl rfl fun a hf => ?_
        refine op_val (ex_len_s (l := x7) Try.underlying9 hf rfl) rfl hf rfl rfl fun a hf => ?_
        refine op_val (ex_move hf rfl) rfl hf rfl rfl fun a hf => ?_
        refine wpList_nil ?_
        refine nor_then (hK11 _ _ ?_)
        refine wp_block ?_
        refine wp_loop_n (fun k a w => ∃ (i12 : Int), Fits 27 [(0, .func (.func x_is_f) x_is_p x_is_c), (6, str x7), (8, .slice x_l_p2 x_l.length x_l_c2), (9, int (x_l.length : Int)), (10, int i3), (15, int (x7.length : Int)), (16, int i12)] a ∧ Own w0 [] w [.shr x_l_p2 (cells enc_str x_l)] ∧ octet_All_L2 (octet_All_L1 x_is x_l n1) x_is i3 x7 k i12 = some R) ?_ fuel ?_
        · rintro n2 a w ⟨i12, hf, hO, hm⟩
          obtain _ | n2 := n2
          · rw [octet_All_L2] at hm
            cases hm
          · rw [octet_All_L2] at hm
            refine wp_seq_k fun _ hK13 => ?_
            refine wp_region_list ?_
            refine op_val (ex_lss (m := i12) (n := (x7.length : Int)) hf rfl rfl) rfl hf rfl rfl fun a hf => ?_
            refine wpList_nil ?_
            refine nor_then (hK13 _ _ ?_)
            refine wp_seq_k fun _ hK15 => ?_
            refine wp_cond_cut hf rfl (fun hc14 => ?_) (fun hc14 => ?_)
            · have hm := it hc14 hm
              refine wp_skip ?_
              refine nor_then (hK15 _ _ ?_)
              refine wp_seq_k fun _ hK22 => ?_
              refine wp_block ?_
              refine wp_seq_k fun _ hK16 => ?_
              refine wp_region_list ?_
              refine op_val (ex_move hf rfl) rfl hf rfl rfl fun a hf => ?_
              refine op_val (ex_assign hf rfl) rfl hf rfl rfl fun a hf => ?_
              refine wpList_nil ?_
              refine nor_then (hK16 _ _ ?_)
              refine wp_seq_k fun _ hK19 => ?_
              refine wp_region_list ?_
              refine op_val (ex_move hf rfl) rfl hf rfl rfl fun a hf => ?_
              refine op_val (ex_move hf rfl) rfl hf rfl rfl fun a hf => ?_
              refine op_val (ex_move hf rfl) rfl hf rfl rfl fun a hf => ?_
              obtain ⟨b17, hb17, hm⟩ := ob hm
              refine op_val (ex_index (l := x7) Try.underlying9 hf rfl rfl hb17) rfl hf rfl rfl fun a hf => ?_
              obtain ⟨r18, hr18, hm⟩ := ob hm
              refine op_enter (ex_callv x_is_k hf rfl (vs := [byte b17]) rfl) rfl hf rfl rfl (x_is_h b17 r18 _ (hG.own hO) hr18) ?_
              rintro e w' ⟨he, hb⟩
              refine ⟨_, he, fun a hf => ?_⟩
              have hO := hO.grow hb
              refine op_val (ex_not hf rfl) rfl hf rfl rfl fun a hf => ?_
              refine wpList_nil ?_
              refine nor_then (hK19 _ _ ?_)
              refine wp_cond_cut hf rfl (fun hc20 => ?_) (fun hc20 => ?_)
              · have hm := it hc20 hm
                refine wp_seq_k fun _ hK21 => ?_
                refine wp_region_list ?_
                refine op_val (ex_assign hf rfl) rfl hf rfl rfl fun a hf => ?_
                refine wpList_nil ?_
                refine nor_then (hK21 _ _ ?_)
                refine wp_ret ?_
                refine ret_block ?_
                refine ret_then ?_
                refine ret_then ?_
                refine ret_block ?_
                refine ret_block ?_
                refine ret_then ?_
                refine ret_then ?_
                refine ret_block ?_
                refine ret_then ?_
                obtain rfl := Option.some.inj hm
                exact post_ret Try.results44 hf (.tmp rfl .nil) ⟨rfl, hO.below⟩
              · have hm := ie hc20 hm
                refine wp_skip ?_
                refine nor_block ?_
                refine nor_then (hK22 _ _ ?_)
                refine wp_region_list ?_
                obtain ⟨i23, hi23, hm⟩ := ob hm
                refine op_val (ex_add hf rfl rfl hi23) rfl hf rfl rfl fun a hf => ?_
                refine op_val (ex_move hf rfl) rfl hf rfl rfl fun a hf => ?_
                refine wpList_nil ?_
                refine nor_then ?_
                exact ⟨_, Nat.lt_succ_self _, i23, (hf.cons rfl (hf.cons rfl (hf.cons rfl (hf.cons rfl (hf.cons rfl (hf.cons rfl (hf.cons rfl hf.nil))))))), hO, hm⟩
            · have hm := ie hc14 hm
              refine wp_exit ?_
              refine exit_then ?_
              refine exit_then ?_
              refine exit_here ?_
              refine nor_block ?_
              refine nor_then (hK24 _ _ ?_)
              refine wp_region_list ?_
              obtain ⟨i25, hi25, hm⟩ := ob hm
              refine op_val (ex_add hf rfl rfl hi25) rfl hf rfl rfl fun a hf => ?_
              refine op_val (ex_move hf rfl) rfl hf rfl rfl fun a hf => ?_
              refine wpList_nil ?_
              refine nor_then ?_
              exact ⟨_, Nat.lt_succ_self _, i25, (hf.cons rfl (hf.cons rfl (hf.cons rfl (hf.cons rfl hf.nil)))), hO, hm⟩
        · exact ⟨0, (hf.cons rfl (hf.cons rfl (hf.cons rfl (hf.cons rfl (hf.cons rfl (hf.cons rfl (hf.cons rfl hf.nil))))))), hO, hm⟩
      · have hm := ie hc5 hm
        refine wp_exit ?_
        refine exit_then ?_
        refine exit_then ?_
        refine exit_here ?_
        refine nor_then (hK26 _ _ ?_)
        refine wp_seq_k fun _ hK27 => ?_
        refine wp_region_list ?_
        refine op_val (ex_assign hf rfl) rfl hf rfl rfl fun a hf => ?_
        refine wpList_nil ?_
        refine nor_then (hK27 _ _ ?_)
        refine wp_ret ?_
        obtain rfl := Option.some.inj hm
        exact post_ret Try.results44 hf (.tmp rfl .nil) ⟨rfl, hO.below⟩
  · exact ⟨0, (hf.cons rfl (hf.cons rfl (hf.cons rfl (hf.cons rfl hf.nil)))), hO, hm⟩

set_option maxHeartbeats 1000000 in
theorem w_uriref_scheme (x_s : Str) (R : Bool) (w0 : World) (hG : Glob w0) (hm : uriref_scheme x_s = some R) :
    Calls Try.prog 34 #[str x_s] w0 fun e w' => e = .returned (.bool R) ∧ Below w0.heap.size w0 w' := by
  rw [uriref_scheme] at hm
  refine calls_enter (vs := [str x_s]) Try.func34 rfl Try.ntmps34 rfl fun a hf => ?_
  have hO : Own w0 [] w0 [] := Own.refl w0
  refine wp_seq_k fun _ hK1 => ?_
  refine wp_region_list ?_
  refine op_val (ex_assign hf rfl) rfl hf rfl rfl fun a hf => ?_
  refine wpList_nil ?_
  refine nor_then (hK1 _ _ ?_)
  refine wp_seq_k fun _ hK2 => ?_
  refine wp_region_list ?_
  refine op_val (ex_assign hf rfl) rfl hf rfl rfl fun a hf => ?_
  refine wpList_nil ?_
  refine nor_then (hK2 _ _ ?_)
  refine wp_seq_cut (fun a w => ∃ (t9 : Bool), Fits 17 [(2, .bool t9)] a ∧ Own w0 [] w [] ∧ uriref_scheme_j1 t9 = some R) ?_ ?_
  · refine wp_region_list ?_
    refine op_val (ex_move hf rfl) rfl hf rfl rfl fun a hf => ?_
    refine op_val (ex_neq_s (l := x_s) (m := []) hf rfl rfl) rfl hf rfl rfl fun a hf => ?_
    refine op_val (ex_move hf rfl) rfl hf rfl rfl fun a hf => ?_
    rcases bcase (!(x_s == [])) with hc3 | hc3
    · have hm := it hc3 hm
      refine op_guard rfl hf rfl rfl (hc3) ?_
      refine op_val (ex_move hf rfl) rfl hf rfl rfl fun a hf => ?_
      refine op_guard rfl hf rfl rfl (hc3) ?_
      obtain ⟨b4, hb4, hm⟩ := ob hm
      refine op_val (ex_index (l := x_s) Try.underlying9 hf rfl rfl hb4) rfl hf rfl rfl fun a hf => ?_
      refine op_guard rfl hf rfl rfl (hc3) ?_
      obtain ⟨r5, hr5, hm⟩ := ob hm
      refine op_enter (ex_call c_42 hf (vs := [byte b4]) rfl) rfl hf rfl rfl (w_octet_IsAlpha b4 r5 _ (hG.own hO) hr5) ?_
      rintro e w' ⟨he, hb⟩
      refine ⟨_, he, fun a hf => ?_⟩
      have hO := hO.grow hb
      refine op_val (ex_pick_t hf rfl hc3 rfl) rfl hf rfl rfl fun a hf => ?_
      refine op_val (ex_move hf rfl) rfl hf rfl rfl fun a hf => ?_
      rcases bcase (r5) with hc6 | hc6
      · have hm := it hc6 hm
        refine op_guard rfl hf rfl rfl (hc6) ?_
        refine op_val (ex_move hf rfl) rfl hf rfl rfl fun a hf => ?_
        refine op_guard rfl hf rfl rfl (hc6) ?_
        refine op_val (ex_move hf rfl) rfl hf rfl rfl fun a hf => ?_
        refine op_guard rfl hf rfl rfl (hc6) ?_
        refine op_buildSlice (vs := [(0, str x_s)]) (cs := [str x_s]) (e := 9) (sz := 1) hf rfl rfl (fun w => by kernel_rfl) rfl rfl hO fun a b7 w hf hO => ?_
        refine op_guard rfl hf rfl rfl (hc6) ?_
        obtain ⟨r8, hr8, hm⟩ := ob hm
        refine op_enter (ex_call c_44 hf (vs := [.func (.func 41) #[] #[], .slice (some ⟨b7, 0, none⟩) ([x_s].length) 1]) rfl) rfl hf rfl rfl (w_octet_All uriref_scheme_1 [x_s] r8 _ (hG.own hO) c_41 (fun y0 r w hG h => callsE (w_uriref_scheme_1 y0 r w hG h)) (hO.rowSees (i := 0) rfl) hr8) ?_
        rintro e w' ⟨he, hb⟩
        refine ⟨_, he, fun a hf => ?_⟩
        have hO := hO.grow hb
        refine op_val (ex_pick_t hf rfl hc6 rfl) rfl hf rfl rfl fun a hf => ?_
        refine op_val (ex_assign hf rfl) rfl hf rfl rfl fun a hf => ?_
        refine wpList_nil ?_
        refine nor_then ?_
        exact ⟨r8, (hf.cons rfl hf.nil), (hO.sub (.cons _ .slnil)), hm⟩
      · have hm := ie hc6 hm
        refine op_pass rfl hf rfl rfl (hc6) rfl rfl fun a hf => ?_
        refine op_pass rfl hf rfl rfl (hc6) rfl rfl fun a hf => ?_
        refine op_pass rfl hf rfl rfl (hc6) rfl rfl fun a hf => ?_
        refine op_pass rfl hf rfl rfl (hc6) rfl rfl fun a hf => ?_
        refine op_val (ex_pick_f hf rfl hc6 rfl) rfl hf rfl rfl fun a hf => ?_
        refine op_val (ex_assign hf rfl) rfl hf rfl rfl fun a hf => ?_
        refine wpList_nil ?_
        refine nor_then ?_
        exact ⟨false, (hf.cons rfl hf.nil), hO, hm⟩
    · have hm := ie hc3 hm
      refine op_pass rfl hf rfl rfl (hc3) rfl rfl fun a hf => ?_
      refine op_pass rfl hf rfl rfl (hc3) rfl rfl fun a hf => ?_
      refine op_pass rfl hf rfl rfl (hc3) rfl rfl fun a hf => ?_
      refine op_val (ex_pick_f hf rfl hc3 rfl) rfl hf rfl rfl fun a hf => ?_
      refine op_val (ex_move hf rfl) rfl hf rfl rfl fun a hf => ?_
      refine op_pass rfl hf rfl rfl (rfl) rfl rfl fun a hf => ?_
      refine op_pass rfl hf rfl rfl (rfl) rfl rfl fun a hf => ?_
      refine op_pass rfl hf rfl rfl (rfl) rfl rfl fun a hf => ?_
      refine op_pass rfl hf rfl rfl (rfl) rfl rfl fun a hf => ?_
      refine op_val (ex_pick_f hf rfl rfl rfl) rfl hf rfl rfl fun a hf => ?_
      refine op_val (ex_assign hf rfl) rfl hf rfl rfl fun a hf => ?_
      refine wpList_nil ?_
      refine nor_then ?_
      exact ⟨false, (hf.cons rfl hf.nil), hO, hm⟩
  · rintro a w ⟨t9, hf, hO, hm⟩
    rw [uriref_scheme_j1] at hm
    refine wp_ret ?_
    obtain rfl := Option.some.inj hm
    exact post_ret Try.results34 hf (.tmp rfl .nil) ⟨rfl, hO.below⟩

set_option maxHeartbeats 1000000 in
theorem w_strings_HasPrefix (x_s : Str) (x_prefix : Str) (R : Bool) (w0 : World) (hG : Glob w0) (hm : strings_HasPrefix x_s x_prefix = some R) :
    Calls Try.prog 35 #[str x_s, str x_prefix] w0 fun e w' => e = .returned (.bool R) ∧ Below w0.heap.size w0 w' := by
  rw [strings_HasPrefix] at hm
  refine calls_enter (vs := [str x_s, str x_prefix]) Try.func35 rfl Try.ntmps35 rfl fun a hf => ?_
  have hO : Own w0 [] w0 [] := Own.refl w0
  refine wp_seq_k fun _ hK1 => ?_
  refine wp_region_list ?_
  refine op_val (ex_assign hf rfl) rfl hf rfl rfl fun a hf => ?_
  refine wpList_nil ?_
  refine nor_then (hK1 _ _ ?_)
  refine wp_seq_k fun _ hK3 => ?_
  refine wp_region_list ?_
  refine op_val (ex_move hf rfl) rfl hf rfl rfl fun a hf => ?_
  refine op_val (ex_move hf rfl) rfl hf rfl rfl fun a hf => ?_
  obtain ⟨r2, hr2, hm⟩ := ob hm
  refine op_enter (ex_call c_32 hf (vs := [str x_s, str x_prefix]) rfl) rfl hf rfl rfl (w_stringslite_HasPrefix x_s x_prefix r2 _ (hG.own hO) hr2) ?_
  rintro e w' ⟨he, hb⟩
  refine ⟨_, he, fun a hf => ?_⟩
  have hO := hO.grow hb
  refine op_val (ex_assign hf rfl) rfl hf rfl rfl fun a hf => ?_
  refine wpList_nil ?_
  refine nor_then (hK3 _ _ ?_)
  refine wp_ret ?_
  obtain rfl := Option.some.inj hm
  exact post_ret Try.results35 hf (.tmp rfl .nil) ⟨rfl, hO.below⟩

set_option maxHeartbeats 1000000 in
theorem w_uriref_upto (x_s : Str) (x_l : Str) (R : Str × Str) (w0 : World) (hG : Glob w0) (hm : uriref_upto x_s x_l = some R) :
    Calls Try.prog 36 #[str x_s, str x_l] w0 fun e w' => e = .returned (.tuple #[str R.1, str R.2]) ∧ Below w0.heap.size w0 w' := by
  rw [uriref_upto] at hm
  refine calls_enter (vs := [str x_s, str x_l]) Try.func36 rfl Try.ntmps36 rfl fun a hf => ?_
  have hO : Own w0 [] w0 [] := Own.refl w0
  refine wp_seq_k fun _ hK1 => ?_
  refine wp_region_list ?_
  refine op_val (ex_assign hf rfl) rfl hf rfl rfl fun a hf => ?_
  refine op_val (ex_assign hf rfl) rfl hf rfl rfl fun a hf => ?_
  refine wpList_nil ?_
  refine nor_then (hK1 _ _ ?_)
  refine wp_seq_k fun _ hK9 => ?_
  refine wp_seq_k fun _ hK3 => ?_
  refine wp_region_list ?_
  refine op_val (ex_move hf rfl) rfl hf rfl rfl fun a hf => ?_
  refine op_val (ex_move hf rfl) rfl hf rfl rfl fun a hf => ?_
  obtain ⟨r2, hr2, hm⟩ := ob hm
  refine op_enter (ex_call c_45 hf (vs := [str x_s, str x_l]) rfl) rfl hf rfl rfl (w_strings_IndexAny x_s x_l r2 _ (hG.own hO) hr2) ?_
  rintro e w' ⟨he, hb⟩
  refine ⟨_, he, fun a hf => ?_⟩
  have hO := hO.grow hb
  refine op_val (ex_assign hf rfl) rfl hf rfl rfl fun a hf => ?_
  refine wpList_nil ?_
  refine nor_then (hK3 _ _ ?_)
  refine wp_seq_k fun _ hK4 => ?_
  refine wp_region_list ?_
  refine op_val (ex_move hf rfl) rfl hf rfl rfl fun a hf => ?_
  refine op_val (ex_geq (m := r2) (n := 0) hf rfl rfl) rfl hf rfl rfl fun a hf => ?_
  refine wpList_nil ?_
  refine nor_then (hK4 _ _ ?_)
  refine wp_cond_cut hf rfl (fun hc5 => ?_) (fun hc5 => ?_)
  · have hm := it hc5 hm
    refine wp_seq_k fun _ hK8 => ?_
    refine wp_quiet (by kernel_rfl) (by kernel_rfl) hO ?_
    refine q_val (fun w hO => ex_move hf rfl) rfl hf rfl rfl fun a hf => ?_
    refine q_val (fun w hO => ex_move hf rfl) rfl hf rfl rfl fun a hf => ?_
    obtain ⟨s6, hs6, hm⟩ := ob hm
    refine q_val (fun w hO => ex_to_s (l := x_s) Try.underlying9 hf rfl rfl hs6) rfl hf rfl rfl fun a hf => ?_
    refine q_val (fun w hO => ex_move hf rfl) rfl hf rfl rfl fun a hf => ?_
    refine q_val (fun w hO => ex_move hf rfl) rfl hf rfl rfl fun a hf => ?_
    obtain ⟨s7, hs7, hm⟩ := ob hm
    refine q_val (fun w hO => ex_from_s (l := x_s) Try.underlying9 hf rfl rfl hs7) rfl hf rfl rfl fun a hf => ?_
    refine q_val (fun w hO => ex_assign hf rfl) rfl hf rfl rfl fun a hf => ?_
    refine q_val (fun w hO => ex_assign hf rfl) rfl hf rfl rfl fun a hf => ?_
    refine wpQuiet_nil ?_
    intro w hO
    refine nor_then (hK8 _ _ ?_)
    refine wp_ret ?_
    refine ret_then ?_
    obtain rfl := Option.some.inj hm
    exact post_ret Try.results36 hf (.tmp rfl (.tmp rfl .nil)) ⟨rfl, hO.below⟩
  · have hm := ie hc5 hm
    refine wp_skip ?_
    refine nor_then (hK9 _ _ ?_)
    refine wp_seq_k fun _ hK10 => ?_
    refine wp_region_list ?_
    refine op_val (ex_move hf rfl) rfl hf rfl rfl fun a hf => ?_
    refine op_val (ex_assign hf rfl) rfl hf rfl rfl fun a hf => ?_
    refine op_val (ex_assign hf rfl) rfl hf rfl rfl fun a hf => ?_
    refine wpList_nil ?_
    refine nor_then (hK10 _ _ ?_)
    refine wp_ret ?_
    obtain rfl := Option.some.inj hm
    exact post_ret Try.results36 hf (.tmp rfl (.tmp rfl .nil)) ⟨rfl, hO.below⟩

set_option maxHeartbeats 1000000 in
theorem w_uriref_parts (x_s : Str) (R : api_Ref) (w0 : World) (hG : Glob w0) (hm : uriref_parts x_s = some R) :
    Calls Try.prog 28 #[str x_s] w0 fun e w' => e = .returned (.agg #[str R.Scheme, str R.Auth, str R.Path, str R.Query, str R.Frag, .bool R.HasAuth, .bool R.HasQuery, .bool R.HasFrag]) ∧ Below w0.heap.size w0 w' := by
  rw [uriref_parts] at hm
  refine calls_enter (vs := [str x_s]) Try.func28 rfl Try.ntmps28 rfl fun a hf => ?_
  have hO : Own w0 [] w0 [] := Own.refl w0
  refine wp_seq_k fun _ hK2 => ?_
  refine wp_region_list ?_
  refine op_alloc al_27 hf rfl hO fun a b1 w hf hO => ?_
  refine wpList_nil ?_
  refine nor_then (hK2 _ _ ?_)
  refine wp_seq_k fun _ hK4 => ?_
  refine wp_region_list ?_
  refine op_alloc al_27 hf rfl hO fun a b3 w hf hO => ?_
  refine wpList_nil ?_
  refine nor_then (hK4 _ _ ?_)
  refine wp_seq_cut (fun a w => ∃ (s15 : Str) (s16 : Str), Fits 56 [(0, str s15), (2, ptr b1 0), (3, ptr b3 0)] a ∧ Own w0 [] w [.blk b3 [str s16, str [], str [], str [], str [], .bool false, .bool false, .bool false] 27, .blk b1 [str [], str [], str [], str [], str [], .bool false, .bool false, .bool false] 27] ∧ uriref_parts_j2 s15 s16 = some R) ?_ ?_
  · refine wp_seq_k fun _ hK6 => ?_
    refine wp_region_list ?_
    refine op_val (ex_move hf rfl) rfl hf rfl rfl fun a hf => ?_
    obtain ⟨r5, hr5, hm⟩ := ob hm
    refine op_enter (ex_call c_19 hf (vs := [str x_s, byte 58]) rfl) rfl hf rfl rfl (w_strings_IndexByte x_s 58 r5 _ (hG.own hO) hr5) ?_
    rintro e w' ⟨he, hb⟩
    refine ⟨_, he, fun a hf => ?_⟩
    have hO := hO.grow hb
    refine op_val (ex_assign hf rfl) rfl hf rfl rfl fun a hf => ?_
    refine wpList_nil ?_
    refine nor_then (hK6 _ _ ?_)
    refine wp_seq_cut (fun a w => ∃ (t10 : Bool), Fits 56 [(0, str x_s), (2, ptr b1 0), (3, ptr b3 0), (4, int r5), (14, .bool t10)] a ∧ Own w0 [] w [.blk b3 [str [], str [], str [], str [], str [], .bool false, .bool false, .bool false] 27, .blk b1 [str [], str [], str [], str [], str [], .bool false, .bool false, .bool false] 27] ∧ uriref_parts_j1 x_s r5 t10 = some R) ?_ ?_
    · refine wp_region_list ?_
      refine op_val (ex_move hf rfl) rfl hf rfl rfl fun a hf => ?_
      refine op_val (ex_gtr (m := r5) (n := 0) hf rfl rfl) rfl hf rfl rfl fun a hf => ?_
      refine op_val (ex_move hf rfl) rfl hf rfl rfl fun a hf => ?_
      rcases bcase (decide (0 < r5)) with hc7 | hc7
      · have hm := it hc7 hm
        refine op_guard rfl hf rfl rfl (hc7) ?_
        refine op_val (ex_move hf rfl) rfl hf rfl rfl fun a hf => ?_
        refine op_guard rfl hf rfl rfl (hc7) ?_
        refine op_val (ex_move hf rfl) rfl hf rfl rfl fun a hf => ?_
        refine op_guard rfl hf rfl rfl (hc7) ?_
        obtain ⟨s8, hs8, hm⟩ := ob hm
        refine op_val (ex_to_s (l := x_s) Try.underlying9 hf rfl rfl hs8) rfl hf rfl rfl fun a hf => ?_
        refine op_guard rfl hf rfl rfl (hc7) ?_
        obtain ⟨r9, hr9, hm⟩ := ob hm
        refine op_enter (ex_call c_34 hf (vs := [str s8]) rfl) rfl hf rfl rfl (w_uriref_scheme s8 r9 _ (hG.own hO) hr9) ?_
        rintro e w' ⟨he, hb⟩
        refine ⟨_, he, fun a hf => ?_⟩
        have hO := hO.grow hb
        refine op_val (ex_pick_t hf rfl hc7 rfl) rfl hf rfl rfl fun a hf => ?_
        refine wpList_nil ?_
        refine nor_then ?_
        exact ⟨r9, (hf.cons rfl (hf.cons rfl (hf.cons rfl (hf.cons rfl (hf.cons rfl hf.nil))))), hO, hm⟩
      · have hm := ie hc7 hm
        refine op_pass rfl hf rfl rfl (hc7) rfl rfl fun a hf => ?_
        refine op_pass rfl hf rfl rfl (hc7) rfl rfl fun a hf => ?_
        refine op_pass rfl hf rfl rfl (hc7) rfl rfl fun a hf => ?_
        refine op_pass rfl hf rfl rfl (hc7) rfl rfl fun a hf => ?_
        refine op_val (ex_pick_f hf rfl hc7 rfl) rfl hf rfl rfl fun a hf => ?_
        refine wpList_nil ?_
        refine nor_then ?_
        exact ⟨false, (hf.cons rfl (hf.cons rfl (hf.cons rfl (hf.cons rfl (hf.cons rfl hf.nil))))), hO, hm⟩
    · rintro a w ⟨t10, hf, hO, hm⟩
      rw [uriref_parts_j1] at hm
      refine wp_cond_cut hf rfl (fun hc11 => ?_) (fun hc11 => ?_)
      · have hm := it hc11 hm
        obtain ⟨s12, hs12, hm⟩ := ob hm
        obtain ⟨i13, hi13, hm⟩ := ob hm
        obtain ⟨s14, hs14, hm⟩ := ob hm
        refine wp_drawS' (S := Unit) (E0 := [(0, str x_s), (2, ptr b1 0), (3, ptr b3 0), (4, int r5)]) (by kernel_rfl) (fun k σ w => match k with | 0 => Own w0 [] w [.blk b3 [str [], str [], str [], str [], str [], .bool false, .bool false, .bool false] 27, .blk b1 [str [], str [], str [], str [], str [], .bool false, .bool false, .bool false] 27] | _ => Own w0 [] w [.blk b3 [str s12, str [], str [], str [], str [], .bool false, .bool false, .bool false] 27, .blk b1 [str [], str [], str [], str [], str [], .bool false, .bool false, .bool false] 27]) (fun σ => [⟨[(0, str x_s)], some (15, str x_s)⟩, ⟨[(4, int r5)], some (16, int r5)⟩, ⟨[(15, str x_s), (16, int r5)], some (17, str s12)⟩, ⟨[(0, str x_s)], some (18, str x_s)⟩, ⟨[(4, int r5)], some (19, int r5)⟩, ⟨[(19, int r5)], some (20, int i13)⟩, ⟨[(18, str x_s), (20, int i13)], some (21, str s14)⟩, ⟨[(3, ptr b3 0)], some (22, ptr b3 0)⟩, ⟨[(17, str s12), (22, ptr b3 0)], none⟩, ⟨[(21, str s14)], some (0, str s14)⟩]) () [8] rfl (fun _ => rfl) (fun _ => rfl) (fun _ => rfl) rfl rfl (by decide) rfl hO.drew (hf.cons rfl (hf.cons rfl (hf.cons rfl (hf.cons rfl hf.nil)))) (fun σ => ⟨⟨rfl, trivial⟩, ⟨⟨rfl, trivial⟩, ⟨⟨rfl, ⟨rfl, trivial⟩⟩, ⟨⟨rfl, trivial⟩, ⟨⟨rfl, trivial⟩, ⟨⟨rfl, trivial⟩, ⟨⟨rfl, ⟨rfl, trivial⟩⟩, ⟨⟨rfl, trivial⟩, ⟨⟨rfl, ⟨rfl, trivial⟩⟩, ⟨⟨rfl, trivial⟩, trivial⟩⟩⟩⟩⟩⟩⟩⟩⟩⟩) ⟨sS_pure rfl (fun σ => rfl) (fun σ => rfl) (fun σ a w k _ _ _ hf => ex_move hf rfl), ⟨sS_pure rfl (fun σ => rfl) (fun σ => rfl) (fun σ a w k _ _ _ hf => ex_move hf rfl), ⟨sS_pure rfl (fun σ => rfl) (fun σ => rfl) (fun σ a w k _ _ _ hf => ex_to_s (l := x_s) Try.underlying9 hf rfl rfl hs12), ⟨sS_pure rfl (fun σ => rfl) (fun σ => rfl) (fun σ a w k _ _ _ hf => ex_move hf rfl), ⟨sS_pure rfl (fun σ => rfl) (fun σ => rfl) (fun σ a w k _ _ _ hf => ex_move hf rfl), ⟨sS_pure rfl (fun σ => rfl) (fun σ => rfl) (fun σ a w k _ _ _ hf => ex_add hf rfl rfl hi13), ⟨sS_pure rfl (fun σ => rfl) (fun σ => rfl) (fun σ a w k _ _ _ hf => ex_from_s (l := x_s) Try.underlying9 hf rfl rfl hs14), ⟨sS_pure rfl (fun σ => rfl) (fun σ => rfl) (fun σ a w k _ _ _ hf => ex_field fa_27_0 hf rfl), ⟨sS_skip rfl (fun σ => rfl) (fun σ => rfl) rfl (fun σ w (hO : Own w0 [] w [.blk b3 [str [], str [], str [], str [], str [], .bool false, .bool false, .bool false] 27, .blk b1 [str [], str [], str [], str [], str [], .bool false, .bool false, .bool false] 27]) => by obtain ⟨w', hO', hr⟩ := ef_store1 (x := (.tmp 22)) (y := (.tmp 17)) (E := [(17, str s12), (22, ptr b3 0)]) (i := 0) (o := 0) (v := str s12) sz_9 rfl rfl rfl rfl hO rfl rfl; exact ⟨(), w', hO', ⟨.inr rfl, ⟨.inr rfl, ⟨.inr rfl, ⟨.inr rfl, ⟨.inr rfl, ⟨.inr rfl, ⟨.inr rfl, ⟨.inr rfl, ⟨.inr rfl, ⟨.inr rfl, trivial⟩⟩⟩⟩⟩⟩⟩⟩⟩⟩, hr⟩), ⟨sS_pure rfl (fun σ => rfl) (fun σ => rfl) (fun σ a w k _ _ _ hf => ex_assign hf rfl), trivial⟩⟩⟩⟩⟩⟩⟩⟩⟩⟩ ?_
        rintro _ a w hf hO
        have hO : Own w0 [] w [.blk b3 [str s12, str [], str [], str [], str [], .bool false, .bool false, .bool false] 27, .blk b1 [str [], str [], str [], str [], str [], .bool false, .bool false, .bool false] 27] := hO
        have hf : Fits 56 [(0, str s14), (2, ptr b1 0), (3, ptr b3 0)] a := (hf.cons rfl (hf.cons rfl (hf.cons rfl hf.nil)))
        refine nor_then ?_
        exact ⟨s14, s12, (hf.cons rfl (hf.cons rfl (hf.cons rfl hf.nil))), hO, hm⟩
      · have hm := ie hc11 hm
        refine wp_skip ?_
        refine nor_then ?_
        exact ⟨x_s, [], (hf.cons rfl (hf.cons rfl (hf.cons rfl hf.nil))), hO, hm⟩
  · rintro a w ⟨s15, s16, hf, hO, hm⟩
    rw [uriref_parts_j2] at hm
    refine wp_seq_cut (fun a w => ∃ (s23 : Str) (s24 : Str) (t25 : Bool), Fits 56 [(0, str s23), (2, ptr b1 0), (3, ptr b3 0)] a ∧ Own w0 [] w [.blk b3 [str s16, str s24, str [], str [], str [], .bool t25, .bool false, .bool false] 27, .blk b1 [str [], str [], str [], str [], str [], .bool false, .bool false, .bool false] 27] ∧ uriref_parts_j3 s16 s23 s24 t25 = some R) ?_ ?_
    · refine wp_seq_k fun _ hK18 => ?_
      refine wp_region_list ?_
      refine op_val (ex_move hf rfl) rfl hf rfl rfl fun a hf => ?_
      obtain ⟨r17, hr17, hm⟩ := ob hm
      refine op_enter (ex_call c_35 hf (vs := [str s15, str [47, 47]]) rfl) rfl hf rfl rfl (w_strings_HasPrefix s15 [47, 47] r17 _ (hG.own hO) hr17) ?_
      rintro e w' ⟨he, hb⟩
      refine ⟨_, he, fun a hf => ?_⟩
      have hO := hO.grow hb
      refine wpList_nil ?_
      refine nor_then (hK18 _ _ ?_)
      refine wp_cond_cut hf rfl (fun hc19 => ?_) (fun hc19 => ?_)
      · have hm := it hc19 hm
        refine wp_seq_k fun _ hK20 => ?_
        refine wp_region_list ?_
        refine op_val (ex_field fa_27_5 hf rfl) rfl hf rfl rfl fun a hf => ?_
        refine op_store1 (i := 0) (o := 5) (v := .bool true) sz_4 rfl rfl rfl rfl hf rfl rfl hO fun w hO => ?_
        refine wpList_nil ?_
        refine nor_then (hK20 _ _ ?_)
        refine wp_region_list ?_
        refine op_val (ex_move hf rfl) rfl hf rfl rfl fun a hf => ?_
        obtain ⟨s21, hs21, hm⟩ := ob hm
        refine op_val (ex_from_s (l := s15) Try.underlying9 hf rfl rfl hs21) rfl hf rfl rfl fun a hf => ?_
        obtain ⟨r22, hr22, hm⟩ := ob hm
        refine op_enter (ex_call c_36 hf (vs := [str s21, str [47, 63, 35]]) rfl) rfl hf rfl rfl (w_uriref_upto s21 [47, 63, 35] r22 _ (hG.own hO) hr22) ?_
        rintro e w' ⟨he, hb⟩
        refine ⟨_, he, fun a hf => ?_⟩
        have hO := hO.grow hb
        refine op_val (ex_move hf rfl) rfl hf rfl rfl fun a hf => ?_
        refine op_val (ex_extract hf rfl rfl) rfl hf rfl rfl fun a hf => ?_
        refine op_val (ex_extract hf rfl rfl) rfl hf rfl rfl fun a hf => ?_
        refine op_val (ex_field fa_27_1 hf rfl) rfl hf rfl rfl fun a hf => ?_
        refine op_store1 (i := 0) (o := 1) (v := str r22.1) sz_9 rfl rfl rfl rfl hf rfl rfl hO fun w hO => ?_
        refine op_val (ex_assign hf rfl) rfl hf rfl rfl fun a hf => ?_
        refine wpList_nil ?_
        refine nor_then ?_
        exact ⟨r22.2, r22.1, true, (hf.cons rfl (hf.cons rfl (hf.cons rfl hf.nil))), hO, hm⟩
      · have hm := ie hc19 hm
        refine wp_skip ?_
        refine nor_then ?_
        exact ⟨s15, [], false, (hf.cons rfl (hf.cons rfl (hf.cons rfl hf.nil))), hO, hm⟩
    · rintro a w ⟨s23, s24, t25, hf, hO, hm⟩
      rw [uriref_parts_j3] at hm
      refine wp_seq_k fun _ hK27 => ?_
      refine wp_region_list ?_
      refine op_val (ex_move hf rfl) rfl hf rfl rfl fun a hf => ?_
      obtain ⟨r26, hr26, hm⟩ := ob hm
      refine op_enter (ex_call c_36 hf (vs := [str s23, str [63, 35]]) rfl) rfl hf rfl rfl (w_uriref_upto s23 [63, 35] r26 _ (hG.own hO) hr26) ?_
      rintro e w' ⟨he, hb⟩
      refine ⟨_, he, fun a hf => ?_⟩
      have hO := hO.grow hb
      refine op_val (ex_move hf rfl) rfl hf rfl rfl fun a hf => ?_
      refine op_val (ex_extract hf rfl rfl) rfl hf rfl rfl fun a hf => ?_
      refine op_val (ex_extract hf rfl rfl) rfl hf rfl rfl fun a hf => ?_
      refine op_val (ex_field fa_27_2 hf rfl) rfl hf rfl rfl fun a hf => ?_
      refine op_store1 (i := 0) (o := 2) (v := str r26.1) sz_9 rfl rfl rfl rfl hf rfl rfl hO fun w hO => ?_
      refine op_val (ex_assign hf rfl) rfl hf rfl rfl fun a hf => ?_
      refine wpList_nil ?_
      refine nor_then (hK27 _ _ ?_)
      refine wp_seq_cut (fun a w => ∃ (s34 : Str) (s35 : Str) (t36 : Bool), Fits 56 [(0, str s34), (2, ptr b1 0), (3, ptr b3 0)] a ∧ Own w0 [] w [.blk b3 [str s16, str s24, str r26.1, str s35, str [], .bool t25, .bool t36, .bool false] 27, .blk b1 [str [], str [], str [], str [], str [], .bool false, .bool false, .bool false] 27] ∧ uriref_parts_j4 s16 s24 t25 r26 s34 s35 t36 = some R) ?_ ?_
      · refine wp_seq_k fun _ hK29 => ?_
        refine wp_region_list ?_
        refine op_val (ex_move hf rfl) rfl hf rfl rfl fun a hf => ?_
        obtain ⟨r28, hr28, hm⟩ := ob hm
        refine op_enter (ex_call c_35 hf (vs := [str r26.2, str [63]]) rfl) rfl hf rfl rfl (w_strings_HasPrefix r26.2 [63] r28 _ (hG.own hO) hr28) ?_
        rintro e w' ⟨he, hb⟩
        refine ⟨_, he, fun a hf => ?_⟩
        have hO := hO.grow hb
        refine wpList_nil ?_
        refine nor_then (hK29 _ _ ?_)
        refine wp_cond_cut hf rfl (fun hc30 => ?_) (fun hc30 => ?_)
        · have hm := it hc30 hm
          refine wp_seq_k fun _ hK31 => ?_
          refine wp_region_list ?_
          refine op_val (ex_field fa_27_6 hf rfl) rfl hf rfl rfl fun a hf => ?_
          refine op_store1 (i := 0) (o := 6) (v := .bool true) sz_4 rfl rfl rfl rfl hf rfl rfl hO fun w hO => ?_
          refine wpList_nil ?_
          refine nor_then (hK31 _ _ ?_)
          refine wp_region_list ?_
          refine op_val (ex_move hf rfl) rfl hf rfl rfl fun a hf => ?_
          obtain ⟨s32, hs32, hm⟩ := ob hm
          refine op_val (ex_from_s (l := r26.2) Try.underlying9 hf rfl rfl hs32) rfl hf rfl rfl fun a hf => ?_
          obtain ⟨r33, hr33, hm⟩ := ob hm
          refine op_enter (ex_call c_36 hf (vs := [str s32, str [35]]) rfl) rfl hf rfl rfl (w_uriref_upto s32 [35] r33 _ (hG.own hO) hr33) ?_
          rintro e w' ⟨he, hb⟩
          refine ⟨_, he, fun a hf => ?_⟩
          have hO := hO.grow hb
          refine op_val (ex_move hf rfl) rfl hf rfl rfl fun a hf => ?_
          refine op_val (ex_extract hf rfl rfl) rfl hf rfl rfl fun a hf => ?_
          refine op_val (ex_extract hf rfl rfl) rfl hf rfl rfl fun a hf => ?_
          refine op_val (ex_field fa_27_3 hf rfl) rfl hf rfl rfl fun a hf => ?_
          refine op_store1 (i := 0) (o := 3) (v := str r33.1) sz_9 rfl rfl rfl rfl hf rfl rfl hO fun w hO => ?_
          refine op_val (ex_assign hf rfl) rfl hf rfl rfl fun a hf => ?_
          refine wpList_nil ?_
          refine nor_then ?_
          exact ⟨r33.2, r33.1, true, (hf.cons rfl (hf.cons rfl (hf.cons rfl hf.nil))), hO, hm⟩
        · have hm := ie hc30 hm
          refine wp_skip ?_
          refine nor_then ?_
          exact ⟨r26.2, [], false, (hf.cons rfl (hf.cons rfl (hf.cons rfl hf.nil))), hO, hm⟩
      · rintro a w ⟨s34, s35, t36, hf, hO, hm⟩
        rw [uriref_parts_j4] at hm
        refine wp_seq_cut (fun a w => ∃ (s40 : Str) (t41 : Bool), Fits 56 [(2, ptr b1 0), (3, ptr b3 0)] a ∧ Own w0 [] w [.blk b3 [str s16, str s24, str r26.1, str s35, str s40, .bool t25, .bool t36, .bool t41] 27, .blk b1 [str [], str [], str [], str [], str [], .bool false, .bool false, .bool false] 27] ∧ uriref_parts_j5 s16 s24 t25 r26 s35 t36 s40 t41 = some R) ?_ ?_
        · refine wp_seq_k fun _ hK37 => ?_
          refine wp_region_list ?_
          refine op_val (ex_move hf rfl) rfl hf rfl rfl fun a hf => ?_
          refine op_val (ex_neq_s (l := s34) (m := []) hf rfl rfl) rfl hf rfl rfl fun a hf => ?_
          refine wpList_nil ?_
          refine nor_then (hK37 _ _ ?_)
          refine wp_cond_cut hf rfl (fun hc38 => ?_) (fun hc38 => ?_)
          · have hm := it hc38 hm
            obtain ⟨s39, hs39, hm⟩ := ob hm
            refine wp_drawS' (S := Unit) (E0 := [(0, str s34), (2, ptr b1 0), (3, ptr b3 0)]) (by kernel_rfl) (fun k σ w => match k with | 0 => Own w0 [] w [.blk b3 [str s16, str s24, str r26.1, str s35, str [], .bool t25, .bool t36, .bool false] 27, .blk b1 [str [], str [], str [], str [], str [], .bool false, .bool false, .bool false] 27] | 1 => Own w0 [] w [.blk b3 [str s16, str s24, str r26.1, str s35, str [], .bool t25, .bool t36, .bool true] 27, .blk b1 [str [], str [], str [], str [], str [], .bool false, .bool false, .bool false] 27] | _ => Own w0 [] w [.blk b3 [str s16, str s24, str r26.1, str s35, str s39, .bool t25, .bool t36, .bool true] 27, .blk b1 [str [], str [], str [], str [], str [], .bool false, .bool false, .bool false] 27]) (fun σ => [⟨[(0, str s34)], some (51, str s34)⟩, ⟨[(51, str s34)], some (52, str s39)⟩, ⟨[(3, ptr b3 0)], some (53, ptr b3 7)⟩, ⟨[(53, ptr b3 7)], none⟩, ⟨[(3, ptr b3 0)], some (54, ptr b3 4)⟩, ⟨[(52, str s39), (54, ptr b3 4)], none⟩]) () [3, 5] rfl (fun _ => rfl) (fun _ => rfl) (fun _ => rfl) rfl rfl (by decide) rfl hO.drew (hf.cons rfl (hf.cons rfl (hf.cons rfl hf.nil))) (fun σ => ⟨⟨rfl, trivial⟩, ⟨⟨rfl, trivial⟩, ⟨⟨rfl, trivial⟩, ⟨⟨rfl, trivial⟩, ⟨⟨rfl, trivial⟩, ⟨⟨rfl, ⟨rfl, trivial⟩⟩, trivial⟩⟩⟩⟩⟩⟩) ⟨sS_pure rfl (fun σ => rfl) (fun σ => rfl) (fun σ a w k _ _ _ hf => ex_move hf rfl), ⟨sS_pure rfl (fun σ => rfl) (fun σ => rfl) (fun σ a w k _ _ _ hf => ex_from_s (l := s34) Try.underlying9 hf rfl rfl hs39), ⟨sS_pure rfl (fun σ => rfl) (fun σ => rfl) (fun σ a w k _ _ _ hf => ex_field fa_27_7 hf rfl), ⟨sS_skip rfl (fun σ => rfl) (fun σ => rfl) rfl (fun σ w (hO : Own w0 [] w [.blk b3 [str s16, str s24, str r26.1, str s35, str [], .bool t25, .bool t36, .bool false] 27, .blk b1 [str [], str [], str [], str [], str [], .bool false, .bool false, .bool false] 27]) => by obtain ⟨w', hO', hr⟩ := ef_store1 (x := (.tmp 53)) (y := (.const (.bool true))) (E := [(53, ptr b3 7)]) (i := 0) (o := 7) (v := .bool true) sz_4 rfl rfl rfl rfl hO rfl rfl; exact ⟨(), w', hO', ⟨.inr rfl, ⟨.inr rfl, ⟨.inr rfl, ⟨.inr rfl, ⟨.inr rfl, ⟨.inr rfl, trivial⟩⟩⟩⟩⟩⟩, hr⟩), ⟨sS_pure rfl (fun σ => rfl) (fun σ => rfl) (fun σ a w k _ _ _ hf => ex_field fa_27_4 hf rfl), ⟨sS_skip rfl (fun σ => rfl) (fun σ => rfl) rfl (fun σ w (hO : Own w0 [] w [.blk b3 [str s16, str s24, str r26.1, str s35, str [], .bool t25, .bool t36, .bool true] 27, .blk b1 [str [], str [], str [], str [], str [], .bool false, .bool false, .bool false] 27]) => by obtain ⟨w', hO', hr⟩ := ef_store1 (x := (.tmp 54)) (y := (.tmp 52)) (E := [(52, str s39), (54, ptr b3 4)]) (i := 0) (o := 4) (v := str s39) sz_9 rfl rfl rfl rfl hO rfl rfl; exact ⟨(), w', hO', ⟨.inr rfl, ⟨.inr rfl, ⟨.inr rfl, ⟨.inr rfl, ⟨.inr rfl, ⟨.inr rfl, trivial⟩⟩⟩⟩⟩⟩, hr⟩), trivial⟩⟩⟩⟩⟩⟩ ?_
            rintro _ a w hf hO
            have hO : Own w0 [] w [.blk b3 [str s16, str s24, str r26.1, str s35, str s39, .bool t25, .bool t36, .bool true] 27, .blk b1 [str [], str [], str [], str [], str [], .bool false, .bool false, .bool false] 27] := hO
            have hf : Fits 56 [(2, ptr b1 0), (3, ptr b3 0)] a := (hf.cons rfl (hf.cons rfl hf.nil))
            refine nor_then ?_
            exact ⟨s39, true, (hf.cons rfl (hf.cons rfl hf.nil)), hO, hm⟩
          · have hm := ie hc38 hm
            refine wp_skip ?_
            refine nor_then ?_
            exact ⟨[], false, (hf.cons rfl (hf.cons rfl hf.nil)), hO, hm⟩
        · rintro a w ⟨s40, t41, hf, hO, hm⟩
          rw [uriref_parts_j5] at hm
          refine wp_seq_k fun _ hK42 => ?_
          refine wp_region_list ?_
          refine op_val (ex_loadN (o := 0) (vs := [str s16, str s24, str r26.1, str s35, str s40, .bool t25, .bool t36, .bool t41]) ag_27 sz_27 (hO.blkSees (i := 0) rfl) rfl rfl hf rfl) rfl hf rfl rfl fun a hf => ?_
          refine op_storeN (i := 1) (n := 8) sz_27 rfl rfl rfl (by simp [Value.oneCell']) hf rfl rfl hO fun w hO => ?_
          refine wpList_nil ?_
          refine nor_then (hK42 _ _ ?_)
          refine wp_ret ?_
          obtain rfl := Option.some.inj hm
          exact post_ret Try.results28 hf (.cell rfl (run_loadVarN (n := 8) (vs := [str s16, str s24, str r26.1, str s35, str s40, .bool t25, .bool t36, .bool t41]) ag_27 sz_27 rfl ((hO.blkSees (i := 1) rfl).cells (o := 0) (n := 8) rfl)) .nil) ⟨rfl, hO.below⟩

set_option maxHeartbeats 1000000 in
theorem w_octet_IsHex (x_b : UInt8) (R : Bool) (w0 : World) (hG : Glob w0) (hm : octet_IsHex x_b = some R) :
    Calls Try.prog 46 #[byte x_b] w0 fun e w' => e = .returned (.bool R) ∧ Below w0.heap.size w0 w' := by
  rw [octet_IsHex] at hm
  refine calls_enter (vs := [byte x_b]) Try.func46 rfl Try.ntmps46 rfl fun a hf => ?_
  have hO : Own w0 [] w0 [] := Own.refl w0
  refine wp_seq_k fun _ hK1 => ?_
  refine wp_region_list ?_
  refine op_val (ex_assign hf rfl) rfl hf rfl rfl fun a hf => ?_
  refine wpList_nil ?_
  refine nor_then (hK1 _ _ ?_)
  refine wp_seq_cut (fun a w => ∃ (t7 : Bool), Fits 15 [(2, .bool t7)] a ∧ Own w0 [] w [] ∧ octet_IsHex_j1 t7 = some R) ?_ ?_
  · refine wp_region_list ?_
    refine op_val (ex_move hf rfl) rfl hf rfl rfl fun a hf => ?_
    obtain ⟨r2, hr2, hm⟩ := ob hm
    refine op_enter (ex_call c_43 hf (vs := [byte x_b]) rfl) rfl hf rfl rfl (w_octet_IsDigit x_b r2 _ (hG.own hO) hr2) ?_
    rintro e w' ⟨he, hb⟩
    refine ⟨_, he, fun a hf => ?_⟩
    have hO := hO.grow hb
    refine op_val (ex_move hf rfl) rfl hf rfl rfl fun a hf => ?_
    rcases bcase (r2) with hc3 | hc3
    · have hm := it hc3 hm
      refine op_pass rfl hf rfl rfl (hc3) rfl rfl fun a hf => ?_
      refine op_pass rfl hf rfl rfl (hc3) rfl rfl fun a hf => ?_
      refine op_pass rfl hf rfl rfl (hc3) rfl rfl fun a hf => ?_
      refine op_pass rfl hf rfl rfl (hc3) rfl rfl fun a hf => ?_
      refine op_passu rfl hf rfl rfl rfl rfl fun a hf => ?_
      refine op_passu rfl hf rfl rfl rfl rfl fun a hf => ?_
      refine op_passu rfl hf rfl rfl rfl rfl fun a hf => ?_
      refine op_pass rfl hf rfl rfl (hc3) rfl rfl fun a hf => ?_
      refine op_val (ex_pick_t hf rfl hc3 rfl) rfl hf rfl rfl fun a hf => ?_
      refine op_val (ex_assign hf rfl) rfl hf rfl rfl fun a hf => ?_
      refine wpList_nil ?_
      refine nor_then ?_
      exact ⟨true, (hf.cons rfl hf.nil), hO, hm⟩
    · have hm := ie hc3 hm
      refine op_guard rfl hf rfl rfl (hc3) ?_
      refine op_val (ex_move hf rfl) rfl hf rfl rfl fun a hf => ?_
      refine op_guard rfl hf rfl rfl (hc3) ?_
      obtain ⟨r4, hr4, hm⟩ := ob hm
      refine op_enter (ex_call c_49 hf (vs := [byte x_b]) rfl) rfl hf rfl rfl (w_octet_Lower x_b r4 _ (hG.own hO) hr4) ?_
      rintro e w' ⟨he, hb⟩
      refine ⟨_, he, fun a hf => ?_⟩
      have hO := hO.grow hb
      refine op_guard rfl hf rfl rfl (hc3) ?_
      refine op_val (ex_geq_b (b := r4) (c := 97) hf rfl rfl) rfl hf rfl rfl fun a hf => ?_
      refine op_guard rfl hf rfl rfl (hc3) ?_
      refine op_val (ex_move hf rfl) rfl hf rfl rfl fun a hf => ?_
      rcases bcase (decide (97 ≤ r4)) with hc5 | hc5
      · have hm := it hc5 hm
        refine op_guard rfl hf rfl rfl (hc5) ?_
        refine op_val (ex_move hf rfl) rfl hf rfl rfl fun a hf => ?_
        refine op_guard rfl hf rfl rfl (hc5) ?_
        obtain ⟨r6, hr6, hm⟩ := ob hm
        refine op_enter (ex_call c_49 hf (vs := [byte x_b]) rfl) rfl hf rfl rfl (w_octet_Lower x_b r6 _ (hG.own hO) hr6) ?_
        rintro e w' ⟨he, hb⟩
        refine ⟨_, he, fun a hf => ?_⟩
        have hO := hO.grow hb
        refine op_guard rfl hf rfl rfl (hc5) ?_
        refine op_val (ex_leq_b (b := r6) (c := 102) hf rfl rfl) rfl hf rfl rfl fun a hf => ?_
        refine op_guard rfl hf rfl rfl (hc3) ?_
        refine op_val (ex_pick_t hf rfl hc5 rfl) rfl hf rfl rfl fun a hf => ?_
        refine op_val (ex_pick_f hf rfl hc3 rfl) rfl hf rfl rfl fun a hf => ?_
        refine op_val (ex_assign hf rfl) rfl hf rfl rfl fun a hf => ?_
        refine wpList_nil ?_
        refine nor_then ?_
        exact ⟨decide (r6 ≤ 102), (hf.cons rfl hf.nil), hO, hm⟩
      · have hm := ie hc5 hm
        refine op_pass rfl hf rfl rfl (hc5) rfl rfl fun a hf => ?_
        refine op_pass rfl hf rfl rfl (hc5) rfl rfl fun a hf => ?_
        refine op_pass rfl hf rfl rfl (hc5) rfl rfl fun a hf => ?_
        refine op_guard rfl hf rfl rfl (hc3) ?_
        refine op_val (ex_pick_f hf rfl hc5 rfl) rfl hf rfl rfl fun a hf => ?_
        refine op_val (ex_pick_f hf rfl hc3 rfl) rfl hf rfl rfl fun a hf => ?_
        refine op_val (ex_assign hf rfl) rfl hf rfl rfl fun a hf => ?_
        refine wpList_nil ?_
        refine nor_then ?_
        exact ⟨false, (hf.cons rfl hf.nil), hO, hm⟩
  · rintro a w ⟨t7, hf, hO, hm⟩
    rw [octet_IsHex_j1] at hm
    refine wp_ret ?_
    obtain rfl := Option.some.inj hm
    exact post_ret Try.results46 hf (.tmp rfl .nil) ⟨rfl, hO.below⟩

set_option maxHeartbeats 1000000 in
theorem w_octet_one (x_b : UInt8) (x_l : Str) (R : Bool) (w0 : World) (hG : Glob w0) (hm : octet_one x_b x_l = some R) :
    Calls Try.prog 56 #[byte x_b, str x_l] w0 fun e w' => e = .returned (.bool R) ∧ Below w0.heap.size w0 w' := by
  rw [octet_one] at hm
  refine calls_enter (vs := [byte x_b, str x_l]) Try.func56 rfl Try.ntmps56 rfl fun a hf => ?_
  have hO : Own w0 [] w0 [] := Own.refl w0
  refine wp_seq_k fun _ hK1 => ?_
  refine wp_region_list ?_
  refine op_val (ex_assign hf rfl) rfl hf rfl rfl fun a hf => ?_
  refine wpList_nil ?_
  refine nor_then (hK1 _ _ ?_)
  refine wp_seq_k fun _ hK3 => ?_
  refine wp_region_list ?_
  refine op_val (ex_move hf rfl) rfl hf rfl rfl fun a hf => ?_
  refine op_val (ex_move hf rfl) rfl hf rfl rfl fun a hf => ?_
  obtain ⟨r2, hr2, hm⟩ := ob hm
  refine op_enter (ex_call c_19 hf (vs := [str x_l, byte x_b]) rfl) rfl hf rfl rfl (w_strings_IndexByte x_l x_b r2 _ (hG.own hO) hr2) ?_
  rintro e w' ⟨he, hb⟩
  refine ⟨_, he, fun a hf => ?_⟩
  have hO := hO.grow hb
  refine op_val (ex_geq (m := r2) (n := 0) hf rfl rfl) rfl hf rfl rfl fun a hf => ?_
  refine op_val (ex_assign hf rfl) rfl hf rfl rfl fun a hf => ?_
  refine wpList_nil ?_
  refine nor_then (hK3 _ _ ?_)
  refine wp_ret ?_
  obtain rfl := Option.some.inj hm
  exact post_ret Try.results56 hf (.tmp rfl .nil) ⟨rfl, hO.below⟩

set_option maxHeartbeats 1000000 in
theorem w_octet_IsUnreserved (x_b : UInt8) (R : Bool) (w0 : World) (hG : Glob w0) (hm : octet_IsUnreserved x_b = some R) :
    Calls Try.prog 54 #[byte x_b] w0 fun e w' => e = .returned (.bool R) ∧ Below w0.heap.size w0 w' := by
  rw [octet_IsUnreserved] at hm
  refine calls_enter (vs := [byte x_b]) Try.func54 rfl Try.ntmps54 rfl fun a hf => ?_
  have hO : Own w0 [] w0 [] := Own.refl w0
  refine wp_seq_k fun _ hK1 => ?_
  refine wp_region_list ?_
  refine op_val (ex_assign hf rfl) rfl hf rfl rfl fun a hf => ?_
  refine wpList_nil ?_
  refine nor_then (hK1 _ _ ?_)
  refine wp_seq_cut (fun a w => ∃ (t7 : Bool), Fits 13 [(2, .bool t7)] a ∧ Own w0 [] w [] ∧ octet_IsUnreserved_j1 t7 = some R) ?_ ?_
  · refine wp_region_list ?_
    refine op_val (ex_move hf rfl) rfl hf rfl rfl fun a hf => ?_
    obtain ⟨r2, hr2, hm⟩ := ob hm
    refine op_enter (ex_call c_42 hf (vs := [byte x_b]) rfl) rfl hf rfl rfl (w_octet_IsAlpha x_b r2 _ (hG.own hO) hr2) ?_
    rintro e w' ⟨he, hb⟩
    refine ⟨_, he, fun a hf => ?_⟩
    have hO := hO.grow hb
    refine op_val (ex_move hf rfl) rfl hf rfl rfl fun a hf => ?_
    rcases bcase (r2) with hc3 | hc3
    · have hm := it hc3 hm
      refine op_pass rfl hf rfl rfl (hc3) rfl rfl fun a hf => ?_
      refine op_pass rfl hf rfl rfl (hc3) rfl rfl fun a hf => ?_
      refine op_val (ex_pick_t hf rfl hc3 rfl) rfl hf rfl rfl fun a hf => ?_
      refine op_val (ex_move hf rfl) rfl hf rfl rfl fun a hf => ?_
      refine op_pass rfl hf rfl rfl (rfl) rfl rfl fun a hf => ?_
      refine op_pass rfl hf rfl rfl (rfl) rfl rfl fun a hf => ?_
      refine op_val (ex_pick_t hf rfl rfl rfl) rfl hf rfl rfl fun a hf => ?_
      refine op_val (ex_assign hf rfl) rfl hf rfl rfl fun a hf => ?_
      refine wpList_nil ?_
      refine nor_then ?_
      exact ⟨true, (hf.cons rfl hf.nil), hO, hm⟩
    · have hm := ie hc3 hm
      refine op_guard rfl hf rfl rfl (hc3) ?_
      refine op_val (ex_move hf rfl) rfl hf rfl rfl fun a hf => ?_
      refine op_guard rfl hf rfl rfl (hc3) ?_
      obtain ⟨r4, hr4, hm⟩ := ob hm
      refine op_enter (ex_call c_43 hf (vs := [byte x_b]) rfl) rfl hf rfl rfl (w_octet_IsDigit x_b r4 _ (hG.own hO) hr4) ?_
      rintro e w' ⟨he, hb⟩
      refine ⟨_, he, fun a hf => ?_⟩
      have hO := hO.grow hb
      refine op_val (ex_pick_f hf rfl hc3 rfl) rfl hf rfl rfl fun a hf => ?_
      refine op_val (ex_move hf rfl) rfl hf rfl rfl fun a hf => ?_
      rcases bcase (r4) with hc5 | hc5
      · have hm := it hc5 hm
        refine op_pass rfl hf rfl rfl (hc5) rfl rfl fun a hf => ?_
        refine op_pass rfl hf rfl rfl (hc5) rfl rfl fun a hf => ?_
        refine op_val (ex_pick_t hf rfl hc5 rfl) rfl hf rfl rfl fun a hf => ?_
        refine op_val (ex_assign hf rfl) rfl hf rfl rfl fun a hf => ?_
        refine wpList_nil ?_
        refine nor_then ?_
        exact ⟨true, (hf.cons rfl hf.nil), hO, hm⟩
      · have hm := ie hc5 hm
        refine op_guard rfl hf rfl rfl (hc5) ?_
        refine op_val (ex_move hf rfl) rfl hf rfl rfl fun a hf => ?_
        refine op_guard rfl hf rfl rfl (hc5) ?_
        obtain ⟨r6, hr6, hm⟩ := ob hm
        refine op_enter (ex_call c_56 hf (vs := [byte x_b, str [45, 46, 95, 126]]) rfl) rfl hf rfl rfl (w_octet_one x_b [45, 46, 95, 126] r6 _ (hG.own hO) hr6) ?_
        rintro e w' ⟨he, hb⟩
        refine ⟨_, he, fun a hf => ?_⟩
        have hO := hO.grow hb
        refine op_val (ex_pick_f hf rfl hc5 rfl) rfl hf rfl rfl fun a hf => ?_
        refine op_val (ex_assign hf rfl) rfl hf rfl rfl fun a hf => ?_
        refine wpList_nil ?_
        refine nor_then ?_
        exact ⟨r6, (hf.cons rfl hf.nil), hO, hm⟩
  · rintro a w ⟨t7, hf, hO, hm⟩
    rw [octet_IsUnreserved_j1] at hm
    refine wp_ret ?_
    obtain rfl := Option.some.inj hm
    exact post_ret Try.results54 hf (.tmp rfl .nil) ⟨rfl, hO.below⟩

set_option maxHeartbeats 1000000 in
theorem w_octet_IsSub (x_b : UInt8) (R : Bool) (w0 : World) (hG : Glob w0) (hm : octet_IsSub x_b = some R) :
    Calls Try.prog 55 #[byte x_b] w0 fun e w' => e = .returned (.bool R) ∧ Below w0.heap.size w0 w' := by
  rw [octet_IsSub] at hm
  refine calls_enter (vs := [byte x_b]) Try.func55 rfl Try.ntmps55 rfl fun a hf => ?_
  have hO : Own w0 [] w0 [] := Own.refl w0
  refine wp_seq_k fun _ hK1 => ?_
  refine wp_region_list ?_
  refine op_val (ex_assign hf rfl) rfl hf rfl rfl fun a hf => ?_
  refine wpList_nil ?_
  refine nor_then (hK1 _ _ ?_)
  refine wp_seq_k fun _ hK3 => ?_
  refine wp_region_list ?_
  refine op_val (ex_move hf rfl) rfl hf rfl rfl fun a hf => ?_
  obtain ⟨r2, hr2, hm⟩ := ob hm
  refine op_enter (ex_call c_56 hf (vs := [byte x_b, str [33, 36, 38, 39, 40, 41, 42, 43, 44, 59, 61]]) rfl) rfl hf rfl rfl (w_octet_one x_b [33, 36, 38, 39, 40, 41, 42, 43, 44, 59, 61] r2 _ (hG.own hO) hr2) ?_
  rintro e w' ⟨he, hb⟩
  refine ⟨_, he, fun a hf => ?_⟩
  have hO := hO.grow hb
  refine op_val (ex_assign hf rfl) rfl hf rfl rfl fun a hf => ?_
  refine wpList_nil ?_
  refine nor_then (hK3 _ _ ?_)
  refine wp_ret ?_
  obtain rfl := Option.some.inj hm
  exact post_ret Try.results55 hf (.tmp rfl .nil) ⟨rfl, hO.below⟩

set_option maxHeartbeats 1000000 in
theorem w_octet_IsPath (x_b : UInt8) (R : Bool) (w0 : World) (hG : Glob w0) (hm : octet_IsPath x_b = some R) :
    Calls Try.prog 47 #[byte x_b] w0 fun e w' => e = .returned (.bool R) ∧ Below w0.heap.size w0 w' := by
  rw [octet_IsPath] at hm
  refine calls_enter (vs := [byte x_b]) Try.func47 rfl Try.ntmps47 rfl fun a hf => ?_
  have hO : Own w0 [] w0 [] := Own.refl w0
  refine wp_seq_k fun _ hK1 => ?_
  refine wp_region_list ?_
  refine op_val (ex_assign hf rfl) rfl hf rfl rfl fun a hf => ?_
  refine wpList_nil ?_
  refine nor_then (hK1 _ _ ?_)
  refine wp_seq_cut (fun a w => ∃ (t7 : Bool), Fits 13 [(2, .bool t7)] a ∧ Own w0 [] w [] ∧ octet_IsPath_j1 t7 = some R) ?_ ?_
  · refine wp_region_list ?_
    refine op_val (ex_move hf rfl) rfl hf rfl rfl fun a hf => ?_
    obtain ⟨r2, hr2, hm⟩ := ob hm
    refine op_enter (ex_call c_54 hf (vs := [byte x_b]) rfl) rfl hf rfl rfl (w_octet_IsUnreserved x_b r2 _ (hG.own hO) hr2) ?_
    rintro e w' ⟨he, hb⟩
    refine ⟨_, he, fun a hf => ?_⟩
    have hO := hO.grow hb
    refine op_val (ex_move hf rfl) rfl hf rfl rfl fun a hf => ?_
    rcases bcase (r2) with hc3 | hc3
    · have hm := it hc3 hm
      refine op_pass rfl hf rfl rfl (hc3) rfl rfl fun a hf => ?_
      refine op_pass rfl hf rfl rfl (hc3) rfl rfl fun a hf => ?_
      refine op_val (ex_pick_t hf rfl hc3 rfl) rfl hf rfl rfl fun a hf => ?_
      refine op_val (ex_move hf rfl) rfl hf rfl rfl fun a hf => ?_
      refine op_pass rfl hf rfl rfl (rfl) rfl rfl fun a hf => ?_
      refine op_pass rfl hf rfl rfl (rfl) rfl rfl fun a hf => ?_
      refine op_val (ex_pick_t hf rfl rfl rfl) rfl hf rfl rfl fun a hf => ?_
      refine op_val (ex_assign hf rfl) rfl hf rfl rfl fun a hf => ?_
      refine wpList_nil ?_
      refine nor_then ?_
      exact ⟨true, (hf.cons rfl hf.nil), hO, hm⟩
    · have hm := ie hc3 hm
      refine op_guard rfl hf rfl rfl (hc3) ?_
      refine op_val (ex_move hf rfl) rfl hf rfl rfl fun a hf => ?_
      refine op_guard rfl hf rfl rfl (hc3) ?_
      obtain ⟨r4, hr4, hm⟩ := ob hm
      refine op_enter (ex_call c_55 hf (vs := [byte x_b]) rfl) rfl hf rfl rfl (w_octet_IsSub x_b r4 _ (hG.own hO) hr4) ?_
      rintro e w' ⟨he, hb⟩
      refine ⟨_, he, fun a hf => ?_⟩
      have hO := hO.grow hb
      refine op_val (ex_pick_f hf rfl hc3 rfl) rfl hf rfl rfl fun a hf => ?_
      refine op_val (ex_move hf rfl) rfl hf rfl rfl fun a hf => ?_
      rcases bcase (r4) with hc5 | hc5
      · have hm := it hc5 hm
        refine op_pass rfl hf rfl rfl (hc5) rfl rfl fun a hf => ?_
        refine op_pass rfl hf rfl rfl (hc5) rfl rfl fun a hf => ?_
        refine op_val (ex_pick_t hf rfl hc5 rfl) rfl hf rfl rfl fun a hf => ?_
        refine op_val (ex_assign hf rfl) rfl hf rfl rfl fun a hf => ?_
        refine wpList_nil ?_
        refine nor_then ?_
        exact ⟨true, (hf.cons rfl hf.nil), hO, hm⟩
      · have hm := ie hc5 hm
        refine op_guard rfl hf rfl rfl (hc5) ?_
        refine op_val (ex_move hf rfl) rfl hf rfl rfl fun a hf => ?_
        refine op_guard rfl hf rfl rfl (hc5) ?_
        obtain ⟨r6, hr6, hm⟩ := ob hm
        refine op_enter (ex_call c_56 hf (vs := [byte x_b, str [58, 64]]) rfl) rfl hf rfl rfl (w_octet_one x_b [58, 64] r6 _ (hG.own hO) hr6) ?_
        rintro e w' ⟨he, hb⟩
        refine ⟨_, he, fun a hf => ?_⟩
        have hO := hO.grow hb
        refine op_val (ex_pick_f hf rfl hc5 rfl) rfl hf rfl rfl fun a hf => ?_
        refine op_val (ex_assign hf rfl) rfl hf rfl rfl fun a hf => ?_
        refine wpList_nil ?_
        refine nor_then ?_
        exact ⟨r6, (hf.cons rfl hf.nil), hO, hm⟩
  · rintro a w ⟨t7, hf, hO, hm⟩
    rw [octet_IsPath_j1] at hm
    refine wp_ret ?_
    obtain rfl := Option.some.inj hm
    exact post_ret Try.results47 hf (.tmp rfl .nil) ⟨rfl, hO.below⟩

end Go.Proofs
