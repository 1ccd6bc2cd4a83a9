/-
  Walks, written by a program (wip/gen): what its model says, the function returns; what was there before is as it was.
-/
import Derived.Test.YtgdhdeemlhllpabGreatDoorLib
import Derived.Test.YtgdhdeemlhllpabGreatDoorW6
import Derived.Test.YtgdhdeemlhllpabGreatDoorW7
import Derived.Test.YtgdhdeemlhllpabGreatDoorW8
import Derived.Test.YtgdhdeemlhllpabGreatDoorW2
import Derived.Test.YtgdhdeemlhllpabGreatDoorW3
set_option linter.unusedVariables false
set_option linter.unusedSimpArgs false
set_option maxRecDepth 100000
namespace Go.Proofs
open Go.Dk Go.Dm Go.RowKit

set_option maxHeartbeats 1000000 in
theorem w_ref12_Same (x_a : List api_Field) (x_b : List api_Field) (R : Bool) (w0 : World) (hG : Glob w0) {x_a_p0 : Option Addr} {x_a_c0 : Nat} (hs0 : Sees w0 x_a_p0 (cells enc_api_Field x_a)) (hc0 : x_a.length ≤ x_a_c0) {x_b_p1 : Option Addr} {x_b_c1 : Nat} (hs1 : Sees w0 x_b_p1 (cells enc_api_Field x_b)) (hc1 : x_b.length ≤ x_b_c1) (hm : ref12_Same x_a x_b = some R) :
    Calls Tryz.prog 19 #[.slice x_a_p0 x_a.length x_a_c0, .slice x_b_p1 x_b.length x_b_c1] w0 fun e w' => e = .returned (.bool R) ∧ Below w0.heap.size w0 w' := by
  rw [ref12_Same] at hm
  refine calls_enter (vs := [.slice x_a_p0 x_a.length x_a_c0, .slice x_b_p1 x_b.length x_b_c1]) Tryz.func19 rfl Tryz.ntmps19 rfl fun a hf => ?_
  have hF : Away [] := away_nil
  have hO : Dk.Own w0 [] w0 [] := Dk.Own.refl w0
  have hO := hO.addShr hs0 (by simp [Res.shared])
  have hO := hO.addShr hs1 (by simp [Res.shared])
  refine wp_seq_k fun _ hK1 => ?_
  refine wp_region_list ?_
  refine op_val (ex_assign hf rfl) rfl hf rfl rfl fun a hf => ?_
  refine wpList_nil ?_
  refine nor_then (hK1 _ _ ?_)
  refine wp_seq_k fun _ hK5 => ?_
  refine wp_seq_k fun _ hK2 => ?_
  refine wp_region_list ?_
  refine op_val (ex_move hf rfl) rfl hf rfl rfl fun a hf => ?_
  refine op_val (ex_len_l Tryz.underlying42 hf rfl) rfl hf rfl rfl fun a hf => ?_
  refine op_val (ex_move hf rfl) rfl hf rfl rfl fun a hf => ?_
  refine op_val (ex_len_l Tryz.underlying42 hf rfl) rfl hf rfl rfl fun a hf => ?_
  refine op_val (ex_neq (m := (x_a.length : Int)) (n := (x_b.length : Int)) hf rfl rfl) rfl hf rfl rfl fun a hf => ?_
  refine wpList_nil ?_
  refine nor_then (hK2 _ _ ?_)
  refine wp_cond_cut hf rfl (fun hc3 => ?_) (fun hc3 => ?_)
  · have hm := it hc3 hm
    refine wp_seq_k fun _ hK4 => ?_
    refine wp_region_list ?_
    refine op_val (ex_assign hf rfl) rfl hf rfl rfl fun a hf => ?_
    refine wpList_nil ?_
    refine nor_then (hK4 _ _ ?_)
    refine wp_ret ?_
    refine ret_then ?_
    obtain rfl := Option.some.inj hm
    exact post_ret Tryz.results19 hf (.tmp rfl .nil) ⟨rfl, hO.below⟩
  · have hm := ie hc3 hm
    refine wp_skip ?_
    refine nor_then (hK5 _ _ ?_)
    refine wp_seq_k fun _ hK22 => ?_
    refine wp_seq_k fun _ hK6 => ?_
    refine wp_region_list ?_
    refine op_val (ex_assign hf rfl) rfl hf rfl rfl fun a hf => ?_
    refine wpList_nil ?_
    refine nor_then (hK6 _ _ ?_)
    refine wp_block ?_
    refine wp_loop_n (fun k a w => ∃ (i7 : Int), Fits 26 [(0, .slice x_a_p0 x_a.length x_a_c0), (1, .slice x_b_p1 x_b.length x_b_c1), (5, int i7)] a ∧ Dk.Own w0 [] w [.shr x_b_p1 (cells enc_api_Field x_b), .shr x_a_p0 (cells enc_api_Field x_a)] ∧ ref12_Same_L1 x_a x_b k i7 = some R) ?_ fuel ?_
    · rintro n1 a w ⟨i7, hf, hO, hm⟩
      obtain _ | n1 := n1
      · rw [ref12_Same_L1] at hm
        cases hm
      · rw [ref12_Same_L1] at hm
        refine wp_seq_k fun _ hK10 => ?_
        refine wp_seq_k fun _ hK8 => ?_
        refine wp_region_list ?_
        refine op_val (ex_move hf rfl) rfl hf rfl rfl fun a hf => ?_
        refine op_val (ex_move hf rfl) rfl hf rfl rfl fun a hf => ?_
        refine op_val (ex_len_l Tryz.underlying42 hf rfl) rfl hf rfl rfl fun a hf => ?_
        refine op_val (ex_lss (m := i7) (n := (x_a.length : Int)) hf rfl rfl) rfl hf rfl rfl fun a hf => ?_
        refine wpList_nil ?_
        refine nor_then (hK8 _ _ ?_)
        refine wp_cond_cut hf rfl (fun hc9 => ?_) (fun hc9 => ?_)
        · have hm := it hc9 hm
          refine wp_skip ?_
          refine nor_then (hK10 _ _ ?_)
          refine wp_seq_k fun _ hK20 => ?_
          refine wp_block ?_
          refine wp_seq_k fun _ hK17 => ?_
          refine wp_quiet (by kernel_rfl) (by kernel_rfl) hO ?_
          refine q_val (fun w hO => ex_move hf rfl) rfl hf rfl rfl fun a hf => ?_
          refine q_val (fun w hO => ex_move hf rfl) rfl hf rfl rfl fun a hf => ?_
          obtain ⟨x11, hx11, hm⟩ := ob hm
          obtain ⟨b12, o13, hix11, hSx11⟩ := elemAt (enc := enc_api_Field) (sz := 2) (xs := x_a) 42 Tryz.underlying42 sz_53 (by decide) (fun _ => rfl) (hO.sees (i := 1) rfl) hx11
          refine q_val (fun w hO => ex_indexAddr hix11 hf rfl rfl) rfl hf rfl rfl fun a hf => ?_
          refine q_val (fun w hO => ex_loadN (o := 0) (vs := [str x11.Name, str x11.Value]) ag_53 sz_53 (hSx11 _ (hO.sees (i := 1) rfl)) rfl rfl hf rfl) rfl hf rfl rfl fun a hf => ?_
          refine q_val (fun w hO => ex_move hf rfl) rfl hf rfl rfl fun a hf => ?_
          refine q_val (fun w hO => ex_move hf rfl) rfl hf rfl rfl fun a hf => ?_
          obtain ⟨x14, hx14, hm⟩ := ob hm
          obtain ⟨b15, o16, hix14, hSx14⟩ := elemAt (enc := enc_api_Field) (sz := 2) (xs := x_b) 42 Tryz.underlying42 sz_53 (by decide) (fun _ => rfl) (hO.sees (i := 0) rfl) hx14
          refine q_val (fun w hO => ex_indexAddr hix14 hf rfl rfl) rfl hf rfl rfl fun a hf => ?_
          refine q_val (fun w hO => ex_loadN (o := 0) (vs := [str x14.Name, str x14.Value]) ag_53 sz_53 (hSx14 _ (hO.sees (i := 0) rfl)) rfl rfl hf rfl) rfl hf rfl rfl fun a hf => ?_
          refine q_val (fun w hO => ex_neq_t (by kernel_rfl) (eq_53 x11 x14) hf rfl rfl) rfl hf rfl rfl fun a hf => ?_
          refine wpQuiet_nil ?_
          intro w hO
          refine nor_then (hK17 _ _ ?_)
          refine wp_cond_cut hf rfl (fun hc18 => ?_) (fun hc18 => ?_)
          · have hm := it hc18 hm
            refine wp_seq_k fun _ hK19 => ?_
            refine wp_region_list ?_
            refine op_val (ex_assign hf rfl) rfl hf rfl rfl fun a hf => ?_
            refine wpList_nil ?_
            refine nor_then (hK19 _ _ ?_)
            refine wp_ret ?_
            refine ret_block ?_
            refine ret_then ?_
            refine ret_then ?_
            refine ret_block ?_
            refine ret_then ?_
            obtain rfl := Option.some.inj hm
            exact post_ret Tryz.results19 hf (.tmp rfl .nil) ⟨rfl, hO.below⟩
          · have hm := ie hc18 hm
            refine wp_skip ?_
            refine nor_block ?_
            refine nor_then (hK20 _ _ ?_)
            refine wp_region_list ?_
            refine op_val (ex_move hf rfl) rfl hf rfl rfl fun a hf => ?_
            obtain ⟨i21, hi21, hm⟩ := ob hm
            refine op_val (ex_add hf rfl rfl hi21) rfl hf rfl rfl fun a hf => ?_
            refine op_val (ex_assign hf rfl) rfl hf rfl rfl fun a hf => ?_
            refine wpList_nil ?_
            refine nor_then ?_
            exact ⟨_, Nat.lt_succ_self _, i21, (hf.cons rfl (hf.cons rfl (hf.cons rfl hf.nil))), hO, hm⟩
        · have hm := ie hc9 hm
          refine wp_exit ?_
          refine exit_then ?_
          refine exit_then ?_
          refine exit_here ?_
          refine nor_then (hK22 _ _ ?_)
          refine wp_seq_k fun _ hK23 => ?_
          refine wp_region_list ?_
          refine op_val (ex_assign hf rfl) rfl hf rfl rfl fun a hf => ?_
          refine wpList_nil ?_
          refine nor_then (hK23 _ _ ?_)
          refine wp_ret ?_
          obtain rfl := Option.some.inj hm
          exact post_ret Tryz.results19 hf (.tmp rfl .nil) ⟨rfl, hO.below⟩
    · exact ⟨0, (hf.cons rfl (hf.cons rfl (hf.cons rfl hf.nil))), hO, hm⟩

set_option maxHeartbeats 1000000 in
theorem w_law30_three (x_name : Str) (R : Bool) (w0 : World) (hG : Glob w0) (hm : law30_three x_name = some R) :
    Calls Tryz.prog 22 #[str x_name] w0 fun e w' => e = .returned (.bool R) ∧ Below w0.heap.size w0 w' := by
  rw [law30_three] at hm
  refine calls_enter (vs := [str x_name]) Tryz.func22 rfl Tryz.ntmps22 rfl fun a hf => ?_
  have hF : Away [] := away_nil
  have hO : Dk.Own w0 [] w0 [] := Dk.Own.refl w0
  refine wp_seq_k fun _ hK1 => ?_
  refine wp_region_list ?_
  refine op_val (ex_assign hf rfl) rfl hf rfl rfl fun a hf => ?_
  refine wpList_nil ?_
  refine nor_then (hK1 _ _ ?_)
  refine wp_seq_k fun _ hK2 => ?_
  refine wp_region_list ?_
  refine op_val (ex_move hf rfl) rfl hf rfl rfl fun a hf => ?_
  refine op_val (ex_len_s (l := x_name) Tryz.underlying9 hf rfl) rfl hf rfl rfl fun a hf => ?_
  refine op_val (ex_assign hf rfl) rfl hf rfl rfl fun a hf => ?_
  refine wpList_nil ?_
  refine nor_then (hK2 _ _ ?_)
  refine wp_seq_cut (fun a w => ∃ (t5 : Bool), Fits 16 [(2, .bool t5)] a ∧ Dk.Own w0 [] w [] ∧ law30_three_j1 t5 = some R) ?_ ?_
  · refine wp_region_list ?_
    refine op_val (ex_move hf rfl) rfl hf rfl rfl fun a hf => ?_
    refine op_val (ex_eql (m := (x_name.length : Int)) (n := 8) hf rfl rfl) rfl hf rfl rfl fun a hf => ?_
    refine op_val (ex_move hf rfl) rfl hf rfl rfl fun a hf => ?_
    rcases bcase ((x_name.length : Int) == 8) with hc3 | hc3
    · have hm := it hc3 hm
      refine op_pass rfl hf rfl rfl (hc3) rfl rfl fun a hf => ?_
      refine op_pass rfl hf rfl rfl (hc3) rfl rfl fun a hf => ?_
      refine op_val (ex_pick_t hf rfl hc3 rfl) rfl hf rfl rfl fun a hf => ?_
      refine op_val (ex_move hf rfl) rfl hf rfl rfl fun a hf => ?_
      refine op_pass rfl hf rfl rfl (rfl) rfl rfl fun a hf => ?_
      refine op_pass rfl hf rfl rfl (rfl) rfl rfl fun a hf => ?_
      refine op_val (ex_pick_t hf rfl rfl rfl) rfl hf rfl rfl fun a hf => ?_
      refine op_val (ex_assign hf rfl) rfl hf rfl rfl fun a hf => ?_
      refine wpList_nil ?_
      refine nor_then ?_
      exact ⟨true, (hf.cons rfl hf.nil), hO, hm⟩
    · have hm := ie hc3 hm
      refine op_guard rfl hf rfl rfl (hc3) ?_
      refine op_val (ex_move hf rfl) rfl hf rfl rfl fun a hf => ?_
      refine op_guard rfl hf rfl rfl (hc3) ?_
      refine op_val (ex_eql (m := (x_name.length : Int)) (n := 16) hf rfl rfl) rfl hf rfl rfl fun a hf => ?_
      refine op_val (ex_pick_f hf rfl hc3 rfl) rfl hf rfl rfl fun a hf => ?_
      refine op_val (ex_move hf rfl) rfl hf rfl rfl fun a hf => ?_
      rcases bcase ((x_name.length : Int) == 16) with hc4 | hc4
      · have hm := it hc4 hm
        refine op_pass rfl hf rfl rfl (hc4) rfl rfl fun a hf => ?_
        refine op_pass rfl hf rfl rfl (hc4) rfl rfl fun a hf => ?_
        refine op_val (ex_pick_t hf rfl hc4 rfl) rfl hf rfl rfl fun a hf => ?_
        refine op_val (ex_assign hf rfl) rfl hf rfl rfl fun a hf => ?_
        refine wpList_nil ?_
        refine nor_then ?_
        exact ⟨true, (hf.cons rfl hf.nil), hO, hm⟩
      · have hm := ie hc4 hm
        refine op_guard rfl hf rfl rfl (hc4) ?_
        refine op_val (ex_move hf rfl) rfl hf rfl rfl fun a hf => ?_
        refine op_guard rfl hf rfl rfl (hc4) ?_
        refine op_val (ex_eql (m := (x_name.length : Int)) (n := 10) hf rfl rfl) rfl hf rfl rfl fun a hf => ?_
        refine op_val (ex_pick_f hf rfl hc4 rfl) rfl hf rfl rfl fun a hf => ?_
        refine op_val (ex_assign hf rfl) rfl hf rfl rfl fun a hf => ?_
        refine wpList_nil ?_
        refine nor_then ?_
        exact ⟨(x_name.length : Int) == 10, (hf.cons rfl hf.nil), hO, hm⟩
  · rintro a w ⟨t5, hf, hO, hm⟩
    rw [law30_three_j1] at hm
    refine wp_ret ?_
    obtain rfl := Option.some.inj hm
    exact post_ret Tryz.results22 hf (.tmp rfl .nil) ⟨rfl, hO.below⟩

set_option maxHeartbeats 1000000 in
theorem w_law30_LocationOthers (x_a0 : api_Env) (x_a1 : List api_Field) (R : Bool) (w0 : World) (hG : GlobT w0) {x_a0_p0 : Option Addr} {x_a0_c0 : Nat} (hs0 : Sees w0 x_a0_p0 (cells enc_api_Swap x_a0.Domains)) (hc0 : x_a0.Domains.length ≤ x_a0_c0) {x_a0_p1 : Option Addr} {x_a0_c1 : Nat} (hs1 : Sees w0 x_a0_p1 (cells enc_api_Swap x_a0.Locations)) (hc1 : x_a0.Locations.length ≤ x_a0_c1) {x_a1_p2 : Option Addr} {x_a1_c2 : Nat} (hs2 : Sees w0 x_a1_p2 (cells enc_api_Field x_a1)) (hc2 : x_a1.length ≤ x_a1_c2) (hm : law30_LocationOthers x_a0 x_a1 = some R) :
    Calls Tryz.prog 5 #[.agg #[str x_a0.Client, str x_a0.Host, str x_a0.Scheme, str x_a0.By, .slice x_a0_p0 x_a0.Domains.length x_a0_c0, .slice x_a0_p1 x_a0.Locations.length x_a0_c1], .slice x_a1_p2 x_a1.length x_a1_c2] w0 fun e w' => e = .returned (.bool R) ∧ Below w0.heap.size w0 w' := by
  rw [law30_LocationOthers] at hm
  refine calls_enter (vs := [.agg #[str x_a0.Client, str x_a0.Host, str x_a0.Scheme, str x_a0.By, .slice x_a0_p0 x_a0.Domains.length x_a0_c0, .slice x_a0_p1 x_a0.Locations.length x_a0_c1], .slice x_a1_p2 x_a1.length x_a1_c2]) Tryz.func5 rfl Tryz.ntmps5 rfl fun a hf => ?_
  have hF : Away [] := away_nil
  have hO : Dk.Own w0 [] w0 [] := Dk.Own.refl w0
  have hO := hO.addShr hs0 (by simp [Res.shared])
  have hO := hO.addShr hs1 (by simp [Res.shared])
  have hO := hO.addShr hs2 (by simp [Res.shared])
  refine wp_seq_k fun _ hK2 => ?_
  refine wp_region_list ?_
  refine op_box (v := .agg #[str x_a0.Client, str x_a0.Host, str x_a0.Scheme, str x_a0.By, .slice x_a0_p0 x_a0.Domains.length x_a0_c0, .slice x_a0_p1 x_a0.Locations.length x_a0_c1]) (cs := [str x_a0.Client, str x_a0.Host, str x_a0.Scheme, str x_a0.By, .slice x_a0_p0 x_a0.Domains.length x_a0_c0, .slice x_a0_p1 x_a0.Locations.length x_a0_c1]) rfl hf rfl rfl hO fun a b1 w hf hO => ?_
  refine op_val (ex_assign hf rfl) rfl hf rfl rfl fun a hf => ?_
  refine wpList_nil ?_
  refine nor_then (hK2 _ _ ?_)
  refine wp_seq_k fun _ hK7 => ?_
  refine wp_seq_k fun _ hK4 => ?_
  refine wp_region_list ?_
  obtain ⟨r3, hr3, hm⟩ := ob hm
  refine op_enter (ex_call c_16 hf (vs := []) rfl) rfl hf rfl rfl (w_law30_awake r3 _ (hG.own hF hO).1 hr3) ?_
  rintro e w' ⟨he, hb⟩
  refine ⟨_, he, fun a hf => ?_⟩
  have hO := hO.grow hb
  refine op_val (ex_not hf rfl) rfl hf rfl rfl fun a hf => ?_
  refine wpList_nil ?_
  refine nor_then (hK4 _ _ ?_)
  refine wp_cond_cut hf rfl (fun hc5 => ?_) (fun hc5 => ?_)
  · have hm := it hc5 hm
    refine wp_seq_k fun _ hK6 => ?_
    refine wp_region_list ?_
    refine op_val (ex_assign hf rfl) rfl hf rfl rfl fun a hf => ?_
    refine wpList_nil ?_
    refine nor_then (hK6 _ _ ?_)
    refine wp_ret ?_
    refine ret_then ?_
    obtain rfl := Option.some.inj hm
    exact post_ret Tryz.results5 hf (.tmp rfl .nil) ⟨rfl, hO.below⟩
  · have hm := ie hc5 hm
    refine wp_skip ?_
    refine nor_then (hK7 _ _ ?_)
    refine wp_seq_k fun _ hK16 => ?_
    refine wp_region_list ?_
    refine op_val (ex_loadN (o := 0) (vs := [str x_a0.Client, str x_a0.Host, str x_a0.Scheme, str x_a0.By, .slice x_a0_p0 x_a0.Domains.length x_a0_c0, .slice x_a0_p1 x_a0.Locations.length x_a0_c1]) ag_41 sz_41 (hO.blkSees (i := 0) rfl) rfl rfl hf rfl) rfl hf rfl rfl fun a hf => ?_
    obtain ⟨r8, hr8, hm⟩ := ob hm
    refine op_enter (ex_call c_17 hf (vs := [.agg #[str x_a0.Client, str x_a0.Host, str x_a0.Scheme, str x_a0.By, .slice x_a0_p0 x_a0.Domains.length x_a0_c0, .slice x_a0_p1 x_a0.Locations.length x_a0_c1]]) rfl) rfl hf rfl rfl (w_law26_Few x_a0 r8 _ (hG.own hF hO).1 (hO.sees (i := 3) rfl) hc0 (hO.sees (i := 2) rfl) hc1 hr8) ?_
    rintro e w' ⟨p9, c10, p11, c12, he, hO'⟩
    refine ⟨_, he, fun a hf => ?_⟩
    have hO := hO.call hO' (by simp [Res.shared])
    refine op_val (ex_move hf rfl) rfl hf rfl rfl fun a hf => ?_
    refine op_val (ex_build (vs := [(6, .slice x_a1_p2 x_a1.length x_a1_c2)]) (v := .agg #[int 0, str [], str [], int 0, str [], int 0, .slice x_a1_p2 x_a1.length x_a1_c2]) hf rfl (by kernel_rfl)) rfl hf rfl rfl fun a hf => ?_
    obtain ⟨r13, hr13, hm⟩ := ob hm
    refine op_enter (ex_call c_18 hf (vs := [.agg #[int 0, str [], str [], int 0, str [], int 0, .slice x_a1_p2 x_a1.length x_a1_c2]]) rfl) rfl hf rfl rfl (w_law15_Few (⟨0, [], [], 0, [], 0, x_a1⟩ : api_Head) r13 _ (hG.own hF hO).1 (hO.sees (i := 3) rfl) hc2 hr13) ?_
    rintro e w' ⟨p14, c15, he, hO'⟩
    refine ⟨_, he, fun a hf => ?_⟩
    have hO := hO.call hO' (by simp [Res.shared])
    refine op_val (ex_fieldv (v := .slice p14 r13.Fields.length c15) hf rfl (by kernel_rfl)) rfl hf rfl rfl fun a hf => ?_
    refine op_storeN (i := 3) (n := 6) sz_41 rfl rfl rfl (by simp [Value.oneCell']) hf rfl rfl hO fun w hO => ?_
    refine op_val (ex_assign hf rfl) rfl hf rfl rfl fun a hf => ?_
    refine wpList_nil ?_
    refine nor_then (hK16 _ _ ?_)
    refine wp_seq_k fun _ hK21 => ?_
    refine wp_region_list ?_
    refine op_buildSlice (vs := []) (cs := []) (e := 53) (sz := 2) hf rfl rfl (fun w => by kernel_rfl) rfl rfl hO fun a b17 w hf hO => ?_
    refine op_val (ex_move hf rfl) rfl hf rfl rfl fun a hf => ?_
    obtain ⟨hg20, hm⟩ := og hm
    refine op_appendS el_42 (enc := enc_api_Field) (xs := []) (ys := r13.Fields) (i := 0) (fun _ => rfl) rfl (hO.rowSees (i := 1) rfl) (by simp [enc_api_Field, Value.oneCell']) hg20 hf rfl rfl rfl hO fun a p18 c19 w hf hO => ?_
    refine op_val (ex_assign hf rfl) rfl hf rfl rfl fun a hf => ?_
    refine wpList_nil ?_
    refine nor_then (hK21 _ _ ?_)
    refine wp_seq_k fun _ hK25 => ?_
    refine wp_region_list ?_
    refine op_val (ex_loadN (o := 0) (vs := [str r8.Client, str r8.Host, str r8.Scheme, str r8.By, .slice p9 r8.Domains.length c10, .slice p11 r8.Locations.length c12]) ag_41 sz_41 (hO.blkSees (i := 4) rfl) rfl rfl hf rfl) rfl hf rfl rfl fun a hf => ?_
    refine op_val (ex_move hf rfl) rfl hf rfl rfl fun a hf => ?_
    obtain ⟨r22, hr22, hm⟩ := ob hm
    refine op_enter (ex_call c_20 hf (vs := [.agg #[str r8.Client, str r8.Host, str r8.Scheme, str r8.By, .slice p9 r8.Domains.length c10, .slice p11 r8.Locations.length c12], .slice p18 r13.Fields.length c19]) rfl) rfl hf rfl rfl (w_location_Fields r8 r13.Fields r22 _ (hG.own hF hO) (hO.rowSees (i := 2) rfl) (hO.rowCap (i := 2) rfl) (hO.rowSees (i := 3) rfl) (hO.rowCap (i := 3) rfl) (hO.rowSees (i := 0) rfl) (hO.rowCap (i := 0) rfl) hr22) ?_
    rintro e w' ⟨p23, c24, he, hO'⟩
    refine ⟨_, he, fun a hf => ?_⟩
    have hO := hO.call hO' (by simp [Res.shared])
    refine op_val (ex_assign hf rfl) rfl hf rfl rfl fun a hf => ?_
    refine wpList_nil ?_
    refine nor_then (hK25 _ _ ?_)
    refine wp_seq_k fun _ hK36 => ?_
    refine wp_seq_cut (fun a w => ∃ (t33 : Bool), Fits 80 [(1, .slice p14 r13.Fields.length c15), (6, .slice p23 r22.length c24), (40, .bool t33)] a ∧ Dk.Own w0 [] w [.row (.slice p23 r22.length c24) 53 2 r22.length (cells enc_api_Field r22), .row (.slice p18 r13.Fields.length c19) 53 2 r13.Fields.length (cells enc_api_Field r13.Fields), .row (.slice p14 r13.Fields.length c15) 53 2 r13.Fields.length (cells enc_api_Field r13.Fields), .row (.slice p9 r8.Domains.length c10) 56 2 r8.Domains.length (cells enc_api_Swap r8.Domains), .row (.slice p11 r8.Locations.length c12) 56 2 r8.Locations.length (cells enc_api_Swap r8.Locations), .blk b1 [str r8.Client, str r8.Host, str r8.Scheme, str r8.By, .slice p9 r8.Domains.length c10, .slice p11 r8.Locations.length c12] 41, .shr x_a1_p2 (cells enc_api_Field x_a1), .shr x_a0_p1 (cells enc_api_Swap x_a0.Locations), .shr x_a0_p0 (cells enc_api_Swap x_a0.Domains)] ∧ law30_LocationOthers_j1 r13 r22 t33 = some R) ?_ ?_
    · refine wp_region_list ?_
      refine op_val (ex_move hf rfl) rfl hf rfl rfl fun a hf => ?_
      refine op_val (ex_len_l Tryz.underlying42 hf rfl) rfl hf rfl rfl fun a hf => ?_
      refine op_val (ex_move hf rfl) rfl hf rfl rfl fun a hf => ?_
      refine op_val (ex_len_l Tryz.underlying42 hf rfl) rfl hf rfl rfl fun a hf => ?_
      refine op_val (ex_neq (m := (r22.length : Int)) (n := (r13.Fields.length : Int)) hf rfl rfl) rfl hf rfl rfl fun a hf => ?_
      refine op_val (ex_move hf rfl) rfl hf rfl rfl fun a hf => ?_
      rcases bcase (!((r22.length : Int) == (r13.Fields.length : Int))) with hc26 | hc26
      · have hm := it hc26 hm
        refine op_pass rfl hf rfl rfl (hc26) rfl rfl fun a hf => ?_
        refine op_pass rfl hf rfl rfl (hc26) rfl rfl fun a hf => ?_
        refine op_pass rfl hf rfl rfl (hc26) rfl rfl fun a hf => ?_
        refine op_pass rfl hf rfl rfl (hc26) rfl rfl fun a hf => ?_
        refine op_val (ex_pick_t hf rfl hc26 rfl) rfl hf rfl rfl fun a hf => ?_
        refine op_val (ex_move hf rfl) rfl hf rfl rfl fun a hf => ?_
        refine op_pass rfl hf rfl rfl (rfl) rfl rfl fun a hf => ?_
        refine op_pass rfl hf rfl rfl (rfl) rfl rfl fun a hf => ?_
        refine op_pass rfl hf rfl rfl (rfl) rfl rfl fun a hf => ?_
        refine op_pass rfl hf rfl rfl (rfl) rfl rfl fun a hf => ?_
        refine op_pass rfl hf rfl rfl (rfl) rfl rfl fun a hf => ?_
        refine op_pass rfl hf rfl rfl (rfl) rfl rfl fun a hf => ?_
        refine op_val (ex_pick_t hf rfl rfl rfl) rfl hf rfl rfl fun a hf => ?_
        refine wpList_nil ?_
        refine nor_then ?_
        exact ⟨true, (hf.cons rfl (hf.cons rfl (hf.cons rfl hf.nil))), hO, hm⟩
      · have hm := ie hc26 hm
        refine op_guard rfl hf rfl rfl (hc26) ?_
        refine op_val (ex_move hf rfl) rfl hf rfl rfl fun a hf => ?_
        refine op_guard rfl hf rfl rfl (hc26) ?_
        refine op_val (ex_move hf rfl) rfl hf rfl rfl fun a hf => ?_
        refine op_guard rfl hf rfl rfl (hc26) ?_
        obtain ⟨r27, hr27, hm⟩ := ob hm
        refine op_enter (ex_call c_19 hf (vs := [.slice p18 r13.Fields.length c19, .slice p14 r13.Fields.length c15]) rfl) rfl hf rfl rfl (w_ref12_Same r13.Fields r13.Fields r27 _ (hG.own hF hO).1 (hO.rowSees (i := 1) rfl) (hO.rowCap (i := 1) rfl) (hO.rowSees (i := 2) rfl) (hO.rowCap (i := 2) rfl) hr27) ?_
        rintro e w' ⟨he, hb⟩
        refine ⟨_, he, fun a hf => ?_⟩
        have hO := hO.grow hb
        refine op_guard rfl hf rfl rfl (hc26) ?_
        refine op_val (ex_not hf rfl) rfl hf rfl rfl fun a hf => ?_
        refine op_val (ex_pick_f hf rfl hc26 rfl) rfl hf rfl rfl fun a hf => ?_
        refine op_val (ex_move hf rfl) rfl hf rfl rfl fun a hf => ?_
        rcases bcase (!r27) with hc28 | hc28
        · have hm := it hc28 hm
          refine op_pass rfl hf rfl rfl (hc28) rfl rfl fun a hf => ?_
          refine op_pass rfl hf rfl rfl (hc28) rfl rfl fun a hf => ?_
          refine op_pass rfl hf rfl rfl (hc28) rfl rfl fun a hf => ?_
          refine op_pass rfl hf rfl rfl (hc28) rfl rfl fun a hf => ?_
          refine op_pass rfl hf rfl rfl (hc28) rfl rfl fun a hf => ?_
          refine op_pass rfl hf rfl rfl (hc28) rfl rfl fun a hf => ?_
          refine op_val (ex_pick_t hf rfl hc28 rfl) rfl hf rfl rfl fun a hf => ?_
          refine wpList_nil ?_
          refine nor_then ?_
          exact ⟨true, (hf.cons rfl (hf.cons rfl (hf.cons rfl hf.nil))), hO, hm⟩
        · have hm := ie hc28 hm
          refine op_guard rfl hf rfl rfl (hc28) ?_
          refine op_val (ex_build (vs := []) (v := .agg #[str [], str [], str [], str [], .slice none 0 0, .slice none 0 0]) hf rfl (by kernel_rfl)) rfl hf rfl rfl fun a hf => ?_
          refine op_guard rfl hf rfl rfl (hc28) ?_
          refine op_val (ex_move hf rfl) rfl hf rfl rfl fun a hf => ?_
          refine op_guard rfl hf rfl rfl (hc28) ?_
          obtain ⟨r29, hr29, hm⟩ := ob hm
          refine op_enter (ex_call c_20 hf (vs := [.agg #[str [], str [], str [], str [], .slice none 0 0, .slice none 0 0], .slice p14 r13.Fields.length c15]) rfl) rfl hf rfl rfl (w_location_Fields (⟨[], [], [], [], [], []⟩ : api_Env) r13.Fields r29 _ (hG.own hF hO) (Sees.nil _) (Nat.zero_le _) (Sees.nil _) (Nat.zero_le _) (hO.rowSees (i := 2) rfl) (hO.rowCap (i := 2) rfl) hr29) ?_
          rintro e w' ⟨p30, c31, he, hO'⟩
          refine ⟨_, he, fun a hf => ?_⟩
          have hO := hO.call hO' (by simp [Res.shared])
          refine op_guard rfl hf rfl rfl (hc28) ?_
          refine op_val (ex_move hf rfl) rfl hf rfl rfl fun a hf => ?_
          refine op_guard rfl hf rfl rfl (hc28) ?_
          obtain ⟨r32, hr32, hm⟩ := ob hm
          refine op_enter (ex_call c_19 hf (vs := [.slice p30 r29.length c31, .slice p14 r13.Fields.length c15]) rfl) rfl hf rfl rfl (w_ref12_Same r29 r13.Fields r32 _ (hG.own hF hO).1 (hO.rowSees (i := 0) rfl) (hO.rowCap (i := 0) rfl) (hO.rowSees (i := 3) rfl) (hO.rowCap (i := 3) rfl) hr32) ?_
          rintro e w' ⟨he, hb⟩
          refine ⟨_, he, fun a hf => ?_⟩
          have hO := hO.grow hb
          refine op_guard rfl hf rfl rfl (hc28) ?_
          refine op_val (ex_not hf rfl) rfl hf rfl rfl fun a hf => ?_
          refine op_val (ex_pick_f hf rfl hc28 rfl) rfl hf rfl rfl fun a hf => ?_
          refine wpList_nil ?_
          refine nor_then ?_
          exact ⟨!r32, (hf.cons rfl (hf.cons rfl (hf.cons rfl hf.nil))), (hO.sub (.cons _ (.cons_cons _ (.cons_cons _ (.cons_cons _ (.cons_cons _ (.cons_cons _ (.cons_cons _ (.cons_cons _ (.cons_cons _ (.cons_cons _ .slnil))))))))))), hm⟩
    · rintro a w ⟨t33, hf, hO, hm⟩
      rw [law30_LocationOthers_j1] at hm
      refine wp_cond_cut hf rfl (fun hc34 => ?_) (fun hc34 => ?_)
      · have hm := it hc34 hm
        refine wp_seq_k fun _ hK35 => ?_
        refine wp_region_list ?_
        refine op_val (ex_assign hf rfl) rfl hf rfl rfl fun a hf => ?_
        refine wpList_nil ?_
        refine nor_then (hK35 _ _ ?_)
        refine wp_ret ?_
        refine ret_then ?_
        obtain rfl := Option.some.inj hm
        exact post_ret Tryz.results5 hf (.tmp rfl .nil) ⟨rfl, hO.below⟩
      · have hm := ie hc34 hm
        refine wp_skip ?_
        refine nor_then (hK36 _ _ ?_)
        refine wp_seq_k fun _ hK65 => ?_
        refine wp_seq_k fun _ hK37 => ?_
        refine wp_region_list ?_
        refine op_val (ex_assign hf rfl) rfl hf rfl rfl fun a hf => ?_
        refine wpList_nil ?_
        refine nor_then (hK37 _ _ ?_)
        refine wp_block ?_
        refine wp_loop_n (fun k a w => ∃ (i38 : Int), Fits 80 [(1, .slice p14 r13.Fields.length c15), (6, .slice p23 r22.length c24), (7, int i38)] a ∧ Dk.Own w0 [] w [.row (.slice p23 r22.length c24) 53 2 r22.length (cells enc_api_Field r22), .row (.slice p18 r13.Fields.length c19) 53 2 r13.Fields.length (cells enc_api_Field r13.Fields), .row (.slice p14 r13.Fields.length c15) 53 2 r13.Fields.length (cells enc_api_Field r13.Fields), .row (.slice p9 r8.Domains.length c10) 56 2 r8.Domains.length (cells enc_api_Swap r8.Domains), .row (.slice p11 r8.Locations.length c12) 56 2 r8.Locations.length (cells enc_api_Swap r8.Locations), .blk b1 [str r8.Client, str r8.Host, str r8.Scheme, str r8.By, .slice p9 r8.Domains.length c10, .slice p11 r8.Locations.length c12] 41, .shr x_a1_p2 (cells enc_api_Field x_a1), .shr x_a0_p1 (cells enc_api_Swap x_a0.Locations), .shr x_a0_p0 (cells enc_api_Swap x_a0.Domains)] ∧ law30_LocationOthers_L2 r13 r22 k i38 = some R) ?_ fuel ?_
        · rintro n2 a w ⟨i38, hf, hO, hm⟩
          obtain _ | n2 := n2
          · rw [law30_LocationOthers_L2] at hm
            cases hm
          · rw [law30_LocationOthers_L2] at hm
            refine wp_seq_k fun _ hK41 => ?_
            refine wp_seq_k fun _ hK39 => ?_
            refine wp_region_list ?_
            refine op_val (ex_move hf rfl) rfl hf rfl rfl fun a hf => ?_
            refine op_val (ex_move hf rfl) rfl hf rfl rfl fun a hf => ?_
            refine op_val (ex_len_l Tryz.underlying42 hf rfl) rfl hf rfl rfl fun a hf => ?_
            refine op_val (ex_lss (m := i38) (n := (r22.length : Int)) hf rfl rfl) rfl hf rfl rfl fun a hf => ?_
            refine wpList_nil ?_
            refine nor_then (hK39 _ _ ?_)
            refine wp_cond_cut hf rfl (fun hc40 => ?_) (fun hc40 => ?_)
            · have hm := it hc40 hm
              refine wp_skip ?_
              refine nor_then (hK41 _ _ ?_)
              refine wp_seq_k fun _ hK63 => ?_
              refine wp_block ?_
              refine wp_seq_cut (fun a w => ∃ (t60 : Bool), Fits 80 [(1, .slice p14 r13.Fields.length c15), (6, .slice p23 r22.length c24), (7, int i38), (79, .bool t60)] a ∧ Dk.Own w0 [] w [.row (.slice p23 r22.length c24) 53 2 r22.length (cells enc_api_Field r22), .row (.slice p18 r13.Fields.length c19) 53 2 r13.Fields.length (cells enc_api_Field r13.Fields), .row (.slice p14 r13.Fields.length c15) 53 2 r13.Fields.length (cells enc_api_Field r13.Fields), .row (.slice p9 r8.Domains.length c10) 56 2 r8.Domains.length (cells enc_api_Swap r8.Domains), .row (.slice p11 r8.Locations.length c12) 56 2 r8.Locations.length (cells enc_api_Swap r8.Locations), .blk b1 [str r8.Client, str r8.Host, str r8.Scheme, str r8.By, .slice p9 r8.Domains.length c10, .slice p11 r8.Locations.length c12] 41, .shr x_a1_p2 (cells enc_api_Field x_a1), .shr x_a0_p1 (cells enc_api_Swap x_a0.Locations), .shr x_a0_p0 (cells enc_api_Swap x_a0.Domains)] ∧ law30_LocationOthers_j3 (law30_LocationOthers_L2 r13 r22 n2) i38 t60 = some R) ?_ ?_
              · refine wp_quiet (by kernel_rfl) (by kernel_rfl) hO ?_
                refine q_val (fun w hO => ex_move hf rfl) rfl hf rfl rfl fun a hf => ?_
                refine q_val (fun w hO => ex_move hf rfl) rfl hf rfl rfl fun a hf => ?_
                obtain ⟨x42, hx42, hm⟩ := ob hm
                obtain ⟨b43, o44, hix42, hSx42⟩ := elemAt (enc := enc_api_Field) (sz := 2) (xs := r22) 42 Tryz.underlying42 sz_53 (by decide) (fun _ => rfl) (hO.rowSees (i := 0) rfl) hx42
                refine q_val (fun w hO => ex_indexAddr hix42 hf rfl rfl) rfl hf rfl rfl fun a hf => ?_
                refine q_val (fun w hO => ex_field fa_53_0 hf rfl) rfl hf rfl rfl fun a hf => ?_
                refine q_val (fun w hO => ex_load1 (o := 0) ag_9 (hSx42 _ (hO.rowSees (i := 0) rfl)) rfl hf rfl) rfl hf rfl rfl fun a hf => ?_
                refine q_val (fun w hO => ex_move hf rfl) rfl hf rfl rfl fun a hf => ?_
                refine q_val (fun w hO => ex_move hf rfl) rfl hf rfl rfl fun a hf => ?_
                obtain ⟨x45, hx45, hm⟩ := ob hm
                obtain ⟨b46, o47, hix45, hSx45⟩ := elemAt (enc := enc_api_Field) (sz := 2) (xs := r13.Fields) 42 Tryz.underlying42 sz_53 (by decide) (fun _ => rfl) (hO.rowSees (i := 2) rfl) hx45
                refine q_val (fun w hO => ex_indexAddr hix45 hf rfl rfl) rfl hf rfl rfl fun a hf => ?_
                refine q_val (fun w hO => ex_field fa_53_0 hf rfl) rfl hf rfl rfl fun a hf => ?_
                refine q_val (fun w hO => ex_load1 (o := 0) ag_9 (hSx45 _ (hO.rowSees (i := 2) rfl)) rfl hf rfl) rfl hf rfl rfl fun a hf => ?_
                refine q_val (fun w hO => ex_neq_s (l := x42.Name) (m := x45.Name) hf rfl rfl) rfl hf rfl rfl fun a hf => ?_
                refine q_val (fun w hO => ex_move hf rfl) rfl hf rfl rfl fun a hf => ?_
                rcases bcase (!(x42.Name == x45.Name)) with hc48 | hc48
                · have hm := it hc48 hm
                  refine q_pass rfl hf rfl rfl (hc48) rfl rfl fun a hf => ?_
                  refine q_pass rfl hf rfl rfl (hc48) rfl rfl fun a hf => ?_
                  refine q_pass rfl hf rfl rfl (hc48) rfl rfl fun a hf => ?_
                  refine q_pass rfl hf rfl rfl (hc48) rfl rfl fun a hf => ?_
                  refine q_pass rfl hf rfl rfl (hc48) rfl rfl fun a hf => ?_
                  refine q_pass rfl hf rfl rfl (hc48) rfl rfl fun a hf => ?_
                  refine q_pass rfl hf rfl rfl (hc48) rfl rfl fun a hf => ?_
                  refine q_pass rfl hf rfl rfl (hc48) rfl rfl fun a hf => ?_
                  refine q_pass rfl hf rfl rfl (hc48) rfl rfl fun a hf => ?_
                  refine q_pass rfl hf rfl rfl (hc48) rfl rfl fun a hf => ?_
                  refine q_pass rfl hf rfl rfl (hc48) rfl rfl fun a hf => ?_
                  refine q_pass rfl hf rfl rfl (hc48) rfl rfl fun a hf => ?_
                  refine q_passu rfl hf rfl rfl rfl rfl fun a hf => ?_
                  refine q_passu rfl hf rfl rfl rfl rfl fun a hf => ?_
                  refine q_passu rfl hf rfl rfl rfl rfl fun a hf => ?_
                  refine q_passu rfl hf rfl rfl rfl rfl fun a hf => ?_
                  refine q_passu rfl hf rfl rfl rfl rfl fun a hf => ?_
                  refine q_passu rfl hf rfl rfl rfl rfl fun a hf => ?_
                  refine q_passu rfl hf rfl rfl rfl rfl fun a hf => ?_
                  refine q_pass rfl hf rfl rfl (hc48) rfl rfl fun a hf => ?_
                  refine q_val (fun w hO => ex_pick_t hf rfl hc48 rfl) rfl hf rfl rfl fun a hf => ?_
                  refine wpQuiet_nil ?_
                  intro w hO
                  refine nor_then ?_
                  exact ⟨true, (hf.cons rfl (hf.cons rfl (hf.cons rfl (hf.cons rfl hf.nil)))), hO, hm⟩
                · have hm := ie hc48 hm
                  refine q_guard rfl hf rfl rfl (hc48) ?_
                  refine q_val (fun w hO => ex_move hf rfl) rfl hf rfl rfl fun a hf => ?_
                  refine q_guard rfl hf rfl rfl (hc48) ?_
                  refine q_val (fun w hO => ex_move hf rfl) rfl hf rfl rfl fun a hf => ?_
                  refine q_guard rfl hf rfl rfl (hc48) ?_
                  obtain ⟨x49, hx49, hm⟩ := ob hm
                  obtain ⟨b50, o51, hix49, hSx49⟩ := elemAt (enc := enc_api_Field) (sz := 2) (xs := r22) 42 Tryz.underlying42 sz_53 (by decide) (fun _ => rfl) (hO.rowSees (i := 0) rfl) hx49
                  refine q_val (fun w hO => ex_indexAddr hix49 hf rfl rfl) rfl hf rfl rfl fun a hf => ?_
                  refine q_guard rfl hf rfl rfl (hc48) ?_
                  refine q_val (fun w hO => ex_field fa_53_1 hf rfl) rfl hf rfl rfl fun a hf => ?_
                  refine q_guard rfl hf rfl rfl (hc48) ?_
                  refine q_val (fun w hO => ex_load1 (o := 1) ag_9 (hSx49 _ (hO.rowSees (i := 0) rfl)) rfl hf rfl) rfl hf rfl rfl fun a hf => ?_
                  refine q_guard rfl hf rfl rfl (hc48) ?_
                  refine q_val (fun w hO => ex_move hf rfl) rfl hf rfl rfl fun a hf => ?_
                  refine q_guard rfl hf rfl rfl (hc48) ?_
                  refine q_val (fun w hO => ex_move hf rfl) rfl hf rfl rfl fun a hf => ?_
                  refine q_guard rfl hf rfl rfl (hc48) ?_
                  obtain ⟨x52, hx52, hm⟩ := ob hm
                  obtain ⟨b53, o54, hix52, hSx52⟩ := elemAt (enc := enc_api_Field) (sz := 2) (xs := r13.Fields) 42 Tryz.underlying42 sz_53 (by decide) (fun _ => rfl) (hO.rowSees (i := 2) rfl) hx52
                  refine q_val (fun w hO => ex_indexAddr hix52 hf rfl rfl) rfl hf rfl rfl fun a hf => ?_
                  refine q_guard rfl hf rfl rfl (hc48) ?_
                  refine q_val (fun w hO => ex_field fa_53_1 hf rfl) rfl hf rfl rfl fun a hf => ?_
                  refine q_guard rfl hf rfl rfl (hc48) ?_
                  refine q_val (fun w hO => ex_load1 (o := 1) ag_9 (hSx52 _ (hO.rowSees (i := 2) rfl)) rfl hf rfl) rfl hf rfl rfl fun a hf => ?_
                  refine q_guard rfl hf rfl rfl (hc48) ?_
                  refine q_val (fun w hO => ex_neq_s (l := x49.Value) (m := x52.Value) hf rfl rfl) rfl hf rfl rfl fun a hf => ?_
                  refine q_guard rfl hf rfl rfl (hc48) ?_
                  refine q_val (fun w hO => ex_move hf rfl) rfl hf rfl rfl fun a hf => ?_
                  rcases bcase (!(x49.Value == x52.Value)) with hc55 | hc55
                  · have hm := it hc55 hm
                    refine q_guard rfl hf rfl rfl (hc55) ?_
                    refine q_val (fun w hO => ex_move hf rfl) rfl hf rfl rfl fun a hf => ?_
                    refine q_guard rfl hf rfl rfl (hc55) ?_
                    refine q_val (fun w hO => ex_move hf rfl) rfl hf rfl rfl fun a hf => ?_
                    refine q_guard rfl hf rfl rfl (hc55) ?_
                    obtain ⟨x56, hx56, hm⟩ := ob hm
                    obtain ⟨b57, o58, hix56, hSx56⟩ := elemAt (enc := enc_api_Field) (sz := 2) (xs := r22) 42 Tryz.underlying42 sz_53 (by decide) (fun _ => rfl) (hO.rowSees (i := 0) rfl) hx56
                    refine q_val (fun w hO => ex_indexAddr hix56 hf rfl rfl) rfl hf rfl rfl fun a hf => ?_
                    refine q_guard rfl hf rfl rfl (hc55) ?_
                    refine q_val (fun w hO => ex_field fa_53_0 hf rfl) rfl hf rfl rfl fun a hf => ?_
                    refine q_guard rfl hf rfl rfl (hc55) ?_
                    refine q_val (fun w hO => ex_load1 (o := 0) ag_9 (hSx56 _ (hO.rowSees (i := 0) rfl)) rfl hf rfl) rfl hf rfl rfl fun a hf => ?_
                    refine q_guard rfl hf rfl rfl (hc55) ?_
                    obtain ⟨r59, hr59, hm⟩ := ob hm
                    refine q_call (fun w hO => ex_call c_22 hf (vs := [str x56.Name]) rfl) rfl hf rfl rfl (fun w hO => (w_law30_three x56.Name r59 _ (hG.own hF hO).1 hr59).mono fun e w' ⟨he, hb⟩ => ⟨he, hO.grow hb⟩) fun a hf => ?_
                    refine q_guard rfl hf rfl rfl (hc55) ?_
                    refine q_val (fun w hO => ex_not hf rfl) rfl hf rfl rfl fun a hf => ?_
                    refine q_guard rfl hf rfl rfl (hc48) ?_
                    refine q_val (fun w hO => ex_pick_t hf rfl hc55 rfl) rfl hf rfl rfl fun a hf => ?_
                    refine q_val (fun w hO => ex_pick_f hf rfl hc48 rfl) rfl hf rfl rfl fun a hf => ?_
                    refine wpQuiet_nil ?_
                    intro w hO
                    refine nor_then ?_
                    exact ⟨!r59, (hf.cons rfl (hf.cons rfl (hf.cons rfl (hf.cons rfl hf.nil)))), hO, hm⟩
                  · have hm := ie hc55 hm
                    refine q_pass rfl hf rfl rfl (hc55) rfl rfl fun a hf => ?_
                    refine q_pass rfl hf rfl rfl (hc55) rfl rfl fun a hf => ?_
                    refine q_pass rfl hf rfl rfl (hc55) rfl rfl fun a hf => ?_
                    refine q_pass rfl hf rfl rfl (hc55) rfl rfl fun a hf => ?_
                    refine q_pass rfl hf rfl rfl (hc55) rfl rfl fun a hf => ?_
                    refine q_pass rfl hf rfl rfl (hc55) rfl rfl fun a hf => ?_
                    refine q_pass rfl hf rfl rfl (hc55) rfl rfl fun a hf => ?_
                    refine q_guard rfl hf rfl rfl (hc48) ?_
                    refine q_val (fun w hO => ex_pick_f hf rfl hc55 rfl) rfl hf rfl rfl fun a hf => ?_
                    refine q_val (fun w hO => ex_pick_f hf rfl hc48 rfl) rfl hf rfl rfl fun a hf => ?_
                    refine wpQuiet_nil ?_
                    intro w hO
                    refine nor_then ?_
                    exact ⟨false, (hf.cons rfl (hf.cons rfl (hf.cons rfl (hf.cons rfl hf.nil)))), hO, hm⟩
              · rintro a w ⟨t60, hf, hO, hm⟩
                rw [law30_LocationOthers_j3] at hm
                refine wp_cond_cut hf rfl (fun hc61 => ?_) (fun hc61 => ?_)
                · have hm := it hc61 hm
                  refine wp_seq_k fun _ hK62 => ?_
                  refine wp_region_list ?_
                  refine op_val (ex_assign hf rfl) rfl hf rfl rfl fun a hf => ?_
                  refine wpList_nil ?_
                  refine nor_then (hK62 _ _ ?_)
                  refine wp_ret ?_
                  refine ret_block ?_
                  refine ret_then ?_
                  refine ret_then ?_
                  refine ret_block ?_
                  refine ret_then ?_
                  obtain rfl := Option.some.inj hm
                  exact post_ret Tryz.results5 hf (.tmp rfl .nil) ⟨rfl, hO.below⟩
                · have hm := ie hc61 hm
                  refine wp_skip ?_
                  refine nor_block ?_
                  refine nor_then (hK63 _ _ ?_)
                  refine wp_region_list ?_
                  refine op_val (ex_move hf rfl) rfl hf rfl rfl fun a hf => ?_
                  obtain ⟨i64, hi64, hm⟩ := ob hm
                  refine op_val (ex_add hf rfl rfl hi64) rfl hf rfl rfl fun a hf => ?_
                  refine op_val (ex_assign hf rfl) rfl hf rfl rfl fun a hf => ?_
                  refine wpList_nil ?_
                  refine nor_then ?_
                  exact ⟨_, Nat.lt_succ_self _, i64, (hf.cons rfl (hf.cons rfl (hf.cons rfl hf.nil))), hO, hm⟩
            · have hm := ie hc40 hm
              refine wp_exit ?_
              refine exit_then ?_
              refine exit_then ?_
              refine exit_here ?_
              refine nor_then (hK65 _ _ ?_)
              refine wp_seq_k fun _ hK66 => ?_
              refine wp_region_list ?_
              refine op_val (ex_assign hf rfl) rfl hf rfl rfl fun a hf => ?_
              refine wpList_nil ?_
              refine nor_then (hK66 _ _ ?_)
              refine wp_ret ?_
              obtain rfl := Option.some.inj hm
              exact post_ret Tryz.results5 hf (.tmp rfl .nil) ⟨rfl, hO.below⟩
        · exact ⟨0, (hf.cons rfl (hf.cons rfl (hf.cons rfl hf.nil))), hO, hm⟩

end Go.Proofs
