/-
  Walks, written by a program (wip/gen): what its model says, the function returns; what was there before is as it was.
-/
import Derived.Test.YtnfkbhocbdheaaaGreatDoorLib
import Derived.Test.YtnfkbhocbdheaaaGreatDoorW9
import Derived.Test.YtnfkbhocbdheaaaGreatDoorW10
set_option linter.unusedVariables false
set_option linter.unusedSimpArgs false
set_option maxRecDepth 100000
namespace Go.Proofs
open Go.Dk Go.Dm Go.RowKit

set_option maxHeartbeats 1000000 in
theorem w_ref12_Same (x_a : List api_Field) (x_b : List api_Field) (R : Bool) (w0 : World) (hG : Glob w0) {x_a_p0 : Option Addr} {x_a_c0 : Nat} (hs0 : Sees w0 x_a_p0 (cells enc_api_Field x_a)) (hc0 : x_a.length ≤ x_a_c0) {x_b_p1 : Option Addr} {x_b_c1 : Nat} (hs1 : Sees w0 x_b_p1 (cells enc_api_Field x_b)) (hc1 : x_b.length ≤ x_b_c1) (hm : ref12_Same x_a x_b = some R) :
    Calls Tryz.prog 24 #[.slice x_a_p0 x_a.length x_a_c0, .slice x_b_p1 x_b.length x_b_c1] w0 fun e w' => e = .returned (.bool R) ∧ Below w0.heap.size w0 w' := by
  rw [ref12_Same] at hm
  refine calls_enter (vs := [.slice x_a_p0 x_a.length x_a_c0, .slice x_b_p1 x_b.length x_b_c1]) Tryz.func24 rfl Tryz.ntmps24 rfl fun a hf => ?_
  have hF : Away [] := away_nil
  have hO : Dk.Own w0 [] w0 [] := Dk.Own.refl w0
  have hO := hO.addShr hs0 (by simp [Res.shared])
  have hO := hO.addShr hs1 (by simp [Res.shared])
  refine wp_seq_k fun _ hK1 => ?_
  refine wp_region_list ?_
  refine op_val (ex_assign hf rfl) rfl hf rfl rfl fun a hf => ?_
  refine wpList_nil ?_
  refine nor_then (hK1 _ _ ?_)
  refine wp_seq_k fun _ hK5 => ?_
  refine wp_seq_k fun _ hK2 => ?_
  refine wp_region_list ?_
  refine op_val (ex_move hf rfl) rfl hf rfl rfl fun a hf => ?_
  refine op_val (ex_len_l Tryz.underlying43 hf rfl) rfl hf rfl rfl fun a hf => ?_
  refine op_val (ex_move hf rfl) rfl hf rfl rfl fun a hf => ?_
  refine op_val (ex_len_l Tryz.underlying43 hf rfl) rfl hf rfl rfl fun a hf => ?_
  refine op_val (ex_neq (m := (x_a.length : Int)) (n := (x_b.length : Int)) hf rfl rfl) rfl hf rfl rfl fun a hf => ?_
  refine wpList_nil ?_
  refine nor_then (hK2 _ _ ?_)
  refine wp_cond_cut hf rfl (fun hc3 => ?_) (fun hc3 => ?_)
  · have hm := it hc3 hm
    refine wp_seq_k fun _ hK4 => ?_
    refine wp_region_list ?_
    refine op_val (ex_assign hf rfl) rfl hf rfl rfl fun a hf => ?_
    refine wpList_nil ?_
    refine nor_then (hK4 _ _ ?_)
    refine wp_ret ?_
    refine ret_then ?_
    obtain rfl := Option.some.inj hm
    exact post_ret Tryz.results24 hf (.tmp rfl .nil) ⟨rfl, hO.below⟩
  · have hm := ie hc3 hm
    refine wp_skip ?_
    refine nor_then (hK5 _ _ ?_)
    refine wp_seq_k fun _ hK22 => ?_
    refine wp_seq_k fun _ hK6 => ?_
    refine wp_region_list ?_
    refine op_val (ex_assign hf rfl) rfl hf rfl rfl fun a hf => ?_
    refine wpList_nil ?_
    refine nor_then (hK6 _ _ ?_)
    refine wp_block ?_
    refine wp_loop_n (fun k a w => ∃ (i7 : Int), Fits 26 [(0, .slice x_a_p0 x_a.length x_a_c0), (1, .slice x_b_p1 x_b.length x_b_c1), (5, int i7)] a ∧ Dk.Own w0 [] w [.shr x_b_p1 (cells enc_api_Field x_b), .shr x_a_p0 (cells enc_api_Field x_a)] ∧ ref12_Same_L1 x_a x_b k i7 = some R) ?_ fuel ?_
    · rintro n1 a w ⟨i7, hf, hO, hm⟩
      obtain _ | n1 := n1
      · rw [ref12_Same_L1] at hm
        cases hm
      · rw [ref12_Same_L1] at hm
        refine wp_seq_k fun _ hK10 => ?_
        refine wp_seq_k fun _ hK8 => ?_
        refine wp_region_list ?_
        refine op_val (ex_move hf rfl) rfl hf rfl rfl fun a hf => ?_
        refine op_val (ex_move hf rfl) rfl hf rfl rfl fun a hf => ?_
        refine op_val (ex_len_l Tryz.underlying43 hf rfl) rfl hf rfl rfl fun a hf => ?_
        refine op_val (ex_lss (m := i7) (n := (x_a.length : Int)) hf rfl rfl) rfl hf rfl rfl fun a hf => ?_
        refine wpList_nil ?_
        refine nor_then (hK8 _ _ ?_)
        refine wp_cond_cut hf rfl (fun hc9 => ?_) (fun hc9 => ?_)
        · have hm := it hc9 hm
          refine wp_skip ?_
          refine nor_then (hK10 _ _ ?_)
          refine wp_seq_k fun _ hK20 => ?_
          refine wp_block ?_
          refine wp_seq_k fun _ hK17 => ?_
          refine wp_quiet (by kernel_rfl) (by kernel_rfl) hO ?_
          refine q_val (fun w hO => ex_move hf rfl) rfl hf rfl rfl fun a hf => ?_
          refine q_val (fun w hO => ex_move hf rfl) rfl hf rfl rfl fun a hf => ?_
          obtain ⟨x11, hx11, hm⟩ := ob hm
          obtain ⟨b12, o13, hix11, hSx11⟩ := elemAt (enc := enc_api_Field) (sz := 2) (xs := x_a) 43 Tryz.underlying43 sz_63 (by decide) (fun _ => rfl) (hO.sees (i := 1) rfl) hx11
          refine q_val (fun w hO => ex_indexAddr hix11 hf rfl rfl) rfl hf rfl rfl fun a hf => ?_
          refine q_val (fun w hO => ex_loadN (o := 0) (vs := [str x11.Name, str x11.Value]) ag_63 sz_63 (hSx11 _ (hO.sees (i := 1) rfl)) rfl rfl hf rfl) rfl hf rfl rfl fun a hf => ?_
          refine q_val (fun w hO => ex_move hf rfl) rfl hf rfl rfl fun a hf => ?_
          refine q_val (fun w hO => ex_move hf rfl) rfl hf rfl rfl fun a hf => ?_
          obtain ⟨x14, hx14, hm⟩ := ob hm
          obtain ⟨b15, o16, hix14, hSx14⟩ := elemAt (enc := enc_api_Field) (sz := 2) (xs := x_b) 43 Tryz.underlying43 sz_63 (by decide) (fun _ => rfl) (hO.sees (i := 0) rfl) hx14
          refine q_val (fun w hO => ex_indexAddr hix14 hf rfl rfl) rfl hf rfl rfl fun a hf => ?_
          refine q_val (fun w hO => ex_loadN (o := 0) (vs := [str x14.Name, str x14.Value]) ag_63 sz_63 (hSx14 _ (hO.sees (i := 0) rfl)) rfl rfl hf rfl) rfl hf rfl rfl fun a hf => ?_
          refine q_val (fun w hO => ex_neq_t (by kernel_rfl) (eq_63 x11 x14) hf rfl rfl) rfl hf rfl rfl fun a hf => ?_
          refine wpQuiet_nil ?_
          intro w hO
          refine nor_then (hK17 _ _ ?_)
          refine wp_cond_cut hf rfl (fun hc18 => ?_) (fun hc18 => ?_)
          · have hm := it hc18 hm
            refine wp_seq_k fun _ hK19 => ?_
            refine wp_region_list ?_
            refine op_val (ex_assign hf rfl) rfl hf rfl rfl fun a hf => ?_
            refine wpList_nil ?_
            refine nor_then (hK19 _ _ ?_)
            refine wp_ret ?_
            refine ret_block ?_
            refine ret_then ?_
            refine ret_then ?_
            refine ret_block ?_
            refine ret_then ?_
            obtain rfl := Option.some.inj hm
            exact post_ret Tryz.results24 hf (.tmp rfl .nil) ⟨rfl, hO.below⟩
          · have hm := ie hc18 hm
            refine wp_skip ?_
            refine nor_block ?_
            refine nor_then (hK20 _ _ ?_)
            refine wp_region_list ?_
            refine op_val (ex_move hf rfl) rfl hf rfl rfl fun a hf => ?_
            obtain ⟨i21, hi21, hm⟩ := ob hm
            refine op_val (ex_add hf rfl rfl hi21) rfl hf rfl rfl fun a hf => ?_
            refine op_val (ex_assign hf rfl) rfl hf rfl rfl fun a hf => ?_
            refine wpList_nil ?_
            refine nor_then ?_
            exact ⟨_, Nat.lt_succ_self _, i21, (hf.cons rfl (hf.cons rfl (hf.cons rfl hf.nil))), hO, hm⟩
        · have hm := ie hc9 hm
          refine wp_exit ?_
          refine exit_then ?_
          refine exit_then ?_
          refine exit_here ?_
          refine nor_then (hK22 _ _ ?_)
          refine wp_seq_k fun _ hK23 => ?_
          refine wp_region_list ?_
          refine op_val (ex_assign hf rfl) rfl hf rfl rfl fun a hf => ?_
          refine wpList_nil ?_
          refine nor_then (hK23 _ _ ?_)
          refine wp_ret ?_
          obtain rfl := Option.some.inj hm
          exact post_ret Tryz.results24 hf (.tmp rfl .nil) ⟨rfl, hO.below⟩
    · exact ⟨0, (hf.cons rfl (hf.cons rfl (hf.cons rfl hf.nil))), hO, hm⟩

set_option maxHeartbeats 1000000 in
theorem w_ref13_Without (x_l : List api_Field) (x_name : Str) (R : List api_Field) (w0 : World) (hG : Glob w0) {x_l_p0 : Option Addr} {x_l_c0 : Nat} (hs0 : Sees w0 x_l_p0 (cells enc_api_Field x_l)) (hc0 : x_l.length ≤ x_l_c0) (hm : ref13_Without x_l x_name = some R) :
    Calls Tryz.prog 29 #[.slice x_l_p0 x_l.length x_l_c0, str x_name] w0 fun e w' => ∃ (p0 : Option Addr) (c0 : Nat), e = .returned (.slice p0 R.length c0) ∧ Dk.Own w0 [] w' [.row (.slice p0 R.length c0) 63 2 R.length (cells enc_api_Field R)] := by
  rw [ref13_Without] at hm
  refine calls_enter (vs := [.slice x_l_p0 x_l.length x_l_c0, str x_name]) Tryz.func29 rfl Tryz.ntmps29 rfl fun a hf => ?_
  have hF : Away [] := away_nil
  have hO : Dk.Own w0 [] w0 [] := Dk.Own.refl w0
  have hO := hO.addShr hs0 (by simp [Res.shared])
  refine wp_seq_k fun _ hK1 => ?_
  refine wp_region_list ?_
  have hO := hO.nilRow 63 2
  refine op_val (ex_assign hf rfl) rfl hf rfl rfl fun a hf => ?_
  refine wpList_nil ?_
  refine nor_then (hK1 _ _ ?_)
  refine wp_seq_k fun _ hK2 => ?_
  refine wp_region_list ?_
  have hO := hO.nilRow 63 2
  refine op_val (ex_assign hf rfl) rfl hf rfl rfl fun a hf => ?_
  refine wpList_nil ?_
  refine nor_then (hK2 _ _ ?_)
  refine wp_seq_k fun _ hK28 => ?_
  refine wp_seq_k fun _ hK3 => ?_
  refine wp_region_list ?_
  refine op_val (ex_assign hf rfl) rfl hf rfl rfl fun a hf => ?_
  refine wpList_nil ?_
  refine nor_then (hK3 _ _ ?_)
  refine wp_block ?_
  refine wp_loop_n (fun k a w => ∃ (p4 : Option Addr) (c5 : Nat) (l6 : List api_Field) (i7 : Int), Fits 28 [(0, .slice x_l_p0 x_l.length x_l_c0), (1, str x_name), (5, .slice p4 l6.length c5), (6, int i7)] a ∧ Dk.Own w0 [] w [.row (.slice p4 l6.length c5) 63 2 l6.length (cells enc_api_Field l6), .row (.slice none 0 0) 63 2 0 (cells enc_api_Field []), .shr x_l_p0 (cells enc_api_Field x_l)] ∧ ref13_Without_L1 x_l x_name k l6 i7 = some R) ?_ fuel ?_
  · rintro n1 a w ⟨p4, c5, l6, i7, hf, hO, hm⟩
    obtain _ | n1 := n1
    · rw [ref13_Without_L1] at hm
      cases hm
    · rw [ref13_Without_L1] at hm
      refine wp_seq_k fun _ hK10 => ?_
      refine wp_seq_k fun _ hK8 => ?_
      refine wp_region_list ?_
      refine op_val (ex_move hf rfl) rfl hf rfl rfl fun a hf => ?_
      refine op_val (ex_move hf rfl) rfl hf rfl rfl fun a hf => ?_
      refine op_val (ex_len_l Tryz.underlying43 hf rfl) rfl hf rfl rfl fun a hf => ?_
      refine op_val (ex_lss (m := i7) (n := (x_l.length : Int)) hf rfl rfl) rfl hf rfl rfl fun a hf => ?_
      refine wpList_nil ?_
      refine nor_then (hK8 _ _ ?_)
      refine wp_cond_cut hf rfl (fun hc9 => ?_) (fun hc9 => ?_)
      · have hm := it hc9 hm
        refine wp_skip ?_
        refine nor_then (hK10 _ _ ?_)
        refine wp_seq_cut (fun a w => ∃ (p24 : Option Addr) (c25 : Nat) (l26 : List api_Field), Fits 28 [(0, .slice x_l_p0 x_l.length x_l_c0), (1, str x_name), (5, .slice p24 l26.length c25), (6, int i7)] a ∧ Dk.Own w0 [] w [.row (.slice p24 l26.length c25) 63 2 l26.length (cells enc_api_Field l26), .row (.slice none 0 0) 63 2 0 (cells enc_api_Field []), .shr x_l_p0 (cells enc_api_Field x_l)] ∧ ref13_Without_j2 (ref13_Without_L1 x_l x_name n1) i7 l26 = some R) ?_ ?_
        · refine wp_block ?_
          refine wp_seq_k fun _ hK15 => ?_
          refine wp_region_list ?_
          refine op_val (ex_move hf rfl) rfl hf rfl rfl fun a hf => ?_
          refine op_val (ex_move hf rfl) rfl hf rfl rfl fun a hf => ?_
          obtain ⟨x11, hx11, hm⟩ := ob hm
          obtain ⟨b12, o13, hix11, hSx11⟩ := elemAt (enc := enc_api_Field) (sz := 2) (xs := x_l) 43 Tryz.underlying43 sz_63 (by decide) (fun _ => rfl) (hO.sees (i := 2) rfl) hx11
          refine op_val (ex_indexAddr hix11 hf rfl rfl) rfl hf rfl rfl fun a hf => ?_
          refine op_val (ex_loadN (o := 0) (vs := [str x11.Name, str x11.Value]) ag_63 sz_63 (hSx11 _ (hO.sees (i := 2) rfl)) rfl rfl hf rfl) rfl hf rfl rfl fun a hf => ?_
          refine op_val (ex_move hf rfl) rfl hf rfl rfl fun a hf => ?_
          obtain ⟨r14, hr14, hm⟩ := ob hm
          refine op_enter (ex_call c_51 hf (vs := [.agg #[str x11.Name, str x11.Value], str x_name]) rfl) rfl hf rfl rfl (w_ref13_Of x11 x_name r14 _ (hG.own hF hO) hr14) ?_
          rintro e w' ⟨he, hb⟩
          refine ⟨_, he, fun a hf => ?_⟩
          have hO := hO.grow hb
          refine op_val (ex_not hf rfl) rfl hf rfl rfl fun a hf => ?_
          refine wpList_nil ?_
          refine nor_then (hK15 _ _ ?_)
          refine wp_cond_cut hf rfl (fun hc16 => ?_) (fun hc16 => ?_)
          · have hm := it hc16 hm
            refine wp_region_list ?_
            refine op_val (ex_move hf rfl) rfl hf rfl rfl fun a hf => ?_
            refine op_val (ex_move hf rfl) rfl hf rfl rfl fun a hf => ?_
            refine op_val (ex_move hf rfl) rfl hf rfl rfl fun a hf => ?_
            obtain ⟨x17, hx17, hm⟩ := ob hm
            obtain ⟨b18, o19, hix17, hSx17⟩ := elemAt (enc := enc_api_Field) (sz := 2) (xs := x_l) 43 Tryz.underlying43 sz_63 (by decide) (fun _ => rfl) (hO.sees (i := 2) rfl) hx17
            refine op_val (ex_indexAddr hix17 hf rfl rfl) rfl hf rfl rfl fun a hf => ?_
            refine op_val (ex_loadN (o := 0) (vs := [str x17.Name, str x17.Value]) ag_63 sz_63 (hSx17 _ (hO.sees (i := 2) rfl)) rfl rfl hf rfl) rfl hf rfl rfl fun a hf => ?_
            refine op_buildSlice (vs := [(0, .agg #[str x17.Name, str x17.Value])]) (cs := [str x17.Name, str x17.Value]) (e := 63) (sz := 2) hf rfl rfl (fun w => by kernel_rfl) rfl rfl hO fun a b20 w hf hO => ?_
            obtain ⟨hg23, hm⟩ := og hm
            refine op_appendT el_43 (enc := enc_api_Field) (xs := l6) (ys := [x17]) (i := 1) (fun _ => rfl) rfl (hO.rowSees (i := 0) rfl) (by simp [cells, enc_api_Field, Value.oneCell']) hg23 hf rfl rfl rfl hO fun a p21 c22 w hf hO => ?_
            refine op_val (ex_assign hf rfl) rfl hf rfl rfl fun a hf => ?_
            refine wpList_nil ?_
            refine nor_block ?_
            refine nor_then ?_
            exact ⟨p21, c22, l6 ++ [x17], (hf.cons rfl (hf.cons rfl (hf.cons rfl (hf.cons rfl hf.nil)))), (hO.sub (.cons _ (.cons_cons _ (.cons_cons _ (.cons_cons _ .slnil))))), hm⟩
          · have hm := ie hc16 hm
            refine wp_skip ?_
            refine nor_block ?_
            refine nor_then ?_
            exact ⟨p4, c5, l6, (hf.cons rfl (hf.cons rfl (hf.cons rfl (hf.cons rfl hf.nil)))), hO, hm⟩
        · rintro a w ⟨p24, c25, l26, hf, hO, hm⟩
          rw [ref13_Without_j2] at hm
          refine wp_region_list ?_
          refine op_val (ex_move hf rfl) rfl hf rfl rfl fun a hf => ?_
          obtain ⟨i27, hi27, hm⟩ := ob hm
          refine op_val (ex_add hf rfl rfl hi27) rfl hf rfl rfl fun a hf => ?_
          refine op_val (ex_assign hf rfl) rfl hf rfl rfl fun a hf => ?_
          refine wpList_nil ?_
          refine nor_then ?_
          exact ⟨_, Nat.lt_succ_self _, p24, c25, l26, i27, (hf.cons rfl (hf.cons rfl (hf.cons rfl (hf.cons rfl hf.nil)))), hO, hm⟩
      · have hm := ie hc9 hm
        refine wp_exit ?_
        refine exit_then ?_
        refine exit_then ?_
        refine exit_here ?_
        refine nor_then (hK28 _ _ ?_)
        refine wp_seq_k fun _ hK29 => ?_
        refine wp_region_list ?_
        refine op_val (ex_move hf rfl) rfl hf rfl rfl fun a hf => ?_
        refine op_val (ex_assign hf rfl) rfl hf rfl rfl fun a hf => ?_
        refine wpList_nil ?_
        refine nor_then (hK29 _ _ ?_)
        refine wp_ret ?_
        obtain rfl := Option.some.inj hm
        exact post_ret Tryz.results29 hf (.tmp rfl .nil) ⟨p4, c5, rfl, (hO.sub (.cons_cons _ (.cons _ (.cons _ .slnil))))⟩
  · exact ⟨none, 0, [], 0, (hf.cons rfl (hf.cons rfl (hf.cons rfl (hf.cons rfl hf.nil)))), hO, hm⟩

set_option maxHeartbeats 1000000 in
theorem w_law27_XffOthers (x_client : Str) (x_l : List api_Field) (R : Bool) (w0 : World) (hG : GlobT w0) {x_l_p0 : Option Addr} {x_l_c0 : Nat} (hs0 : Sees w0 x_l_p0 (cells enc_api_Field x_l)) (hc0 : x_l.length ≤ x_l_c0) (hm : law27_XffOthers x_client x_l = some R) :
    Calls Tryz.prog 7 #[str x_client, .slice x_l_p0 x_l.length x_l_c0] w0 fun e w' => e = .returned (.bool R) ∧ Below w0.heap.size w0 w' := by
  rw [law27_XffOthers] at hm
  refine calls_enter (vs := [str x_client, .slice x_l_p0 x_l.length x_l_c0]) Tryz.func7 rfl Tryz.ntmps7 rfl fun a hf => ?_
  have hF : Away [] := away_nil
  have hO : Dk.Own w0 [] w0 [] := Dk.Own.refl w0
  have hO := hO.addShr hs0 (by simp [Res.shared])
  refine wp_seq_k fun _ hK1 => ?_
  refine wp_region_list ?_
  refine op_val (ex_assign hf rfl) rfl hf rfl rfl fun a hf => ?_
  refine wpList_nil ?_
  refine nor_then (hK1 _ _ ?_)
  refine wp_seq_k fun _ hK6 => ?_
  refine wp_seq_k fun _ hK3 => ?_
  refine wp_region_list ?_
  obtain ⟨r2, hr2, hm⟩ := ob hm
  refine op_enter (ex_call c_20 hf (vs := []) rfl) rfl hf rfl rfl (w_law27_awake r2 _ (hG.own hF hO) hr2) ?_
  rintro e w' ⟨he, hb⟩
  refine ⟨_, he, fun a hf => ?_⟩
  have hO := hO.grow hb
  refine op_val (ex_not hf rfl) rfl hf rfl rfl fun a hf => ?_
  refine wpList_nil ?_
  refine nor_then (hK3 _ _ ?_)
  refine wp_cond_cut hf rfl (fun hc4 => ?_) (fun hc4 => ?_)
  · have hm := it hc4 hm
    refine wp_seq_k fun _ hK5 => ?_
    refine wp_region_list ?_
    refine op_val (ex_assign hf rfl) rfl hf rfl rfl fun a hf => ?_
    refine wpList_nil ?_
    refine nor_then (hK5 _ _ ?_)
    refine wp_ret ?_
    refine ret_then ?_
    obtain rfl := Option.some.inj hm
    exact post_ret Tryz.results7 hf (.tmp rfl .nil) ⟨rfl, hO.below⟩
  · have hm := ie hc4 hm
    refine wp_skip ?_
    refine nor_then (hK6 _ _ ?_)
    refine wp_seq_k fun _ hK10 => ?_
    refine wp_region_list ?_
    refine op_val (ex_move hf rfl) rfl hf rfl rfl fun a hf => ?_
    refine op_val (ex_build (vs := [(6, .slice x_l_p0 x_l.length x_l_c0)]) (v := .agg #[int 0, str [], str [], int 0, str [], int 0, .slice x_l_p0 x_l.length x_l_c0]) hf rfl (by kernel_rfl)) rfl hf rfl rfl fun a hf => ?_
    obtain ⟨r7, hr7, hm⟩ := ob hm
    refine op_enter (ex_call c_21 hf (vs := [.agg #[int 0, str [], str [], int 0, str [], int 0, .slice x_l_p0 x_l.length x_l_c0]]) rfl) rfl hf rfl rfl (w_law15_Few (⟨0, [], [], 0, [], 0, x_l⟩ : api_Head) r7 _ (hG.own hF hO).1 (hO.sees (i := 0) rfl) hc0 hr7) ?_
    rintro e w' ⟨p8, c9, he, hO'⟩
    refine ⟨_, he, fun a hf => ?_⟩
    have hO := hO.call hO' (by simp [Res.shared])
    refine op_val (ex_fieldv (v := .slice p8 r7.Fields.length c9) hf rfl (by kernel_rfl)) rfl hf rfl rfl fun a hf => ?_
    refine op_val (ex_assign hf rfl) rfl hf rfl rfl fun a hf => ?_
    refine wpList_nil ?_
    refine nor_then (hK10 _ _ ?_)
    refine wp_seq_k fun _ hK14 => ?_
    refine wp_region_list ?_
    refine op_val (ex_move hf rfl) rfl hf rfl rfl fun a hf => ?_
    refine op_val (ex_move hf rfl) rfl hf rfl rfl fun a hf => ?_
    obtain ⟨r11, hr11, hm⟩ := ob hm
    refine op_enter (ex_call c_22 hf (vs := [str x_client, .slice p8 r7.Fields.length c9]) rfl) rfl hf rfl rfl (w_xff_Append x_client r7.Fields r11 _ (hG.own hF hO) (hO.rowSees (i := 0) rfl) (hO.rowCap (i := 0) rfl) hr11) ?_
    rintro e w' ⟨p12, c13, he, hO'⟩
    refine ⟨_, he, fun a hf => ?_⟩
    have hO := hO.call hO' (by simp [Res.shared])
    refine op_val (ex_assign hf rfl) rfl hf rfl rfl fun a hf => ?_
    refine wpList_nil ?_
    refine nor_then (hK14 _ _ ?_)
    refine wp_seq_k fun _ hK25 => ?_
    refine wp_seq_k fun _ hK22 => ?_
    refine wp_region_list ?_
    refine op_val (ex_move hf rfl) rfl hf rfl rfl fun a hf => ?_
    obtain ⟨r15, hr15, hm⟩ := ob hm
    refine op_enter (ex_call c_29 hf (vs := [.slice p12 r11.length c13, str [120, 45, 102, 111, 114, 119, 97, 114, 100, 101, 100, 45, 102, 111, 114]]) rfl) rfl hf rfl rfl (w_ref13_Without r11 [120, 45, 102, 111, 114, 119, 97, 114, 100, 101, 100, 45, 102, 111, 114] r15 _ (hG.own hF hO).1 (hO.rowSees (i := 0) rfl) (hO.rowCap (i := 0) rfl) hr15) ?_
    rintro e w' ⟨p16, c17, he, hO'⟩
    refine ⟨_, he, fun a hf => ?_⟩
    have hO := hO.call hO' (by simp [Res.shared])
    refine op_val (ex_move hf rfl) rfl hf rfl rfl fun a hf => ?_
    obtain ⟨r18, hr18, hm⟩ := ob hm
    refine op_enter (ex_call c_29 hf (vs := [.slice p8 r7.Fields.length c9, str [120, 45, 102, 111, 114, 119, 97, 114, 100, 101, 100, 45, 102, 111, 114]]) rfl) rfl hf rfl rfl (w_ref13_Without r7.Fields [120, 45, 102, 111, 114, 119, 97, 114, 100, 101, 100, 45, 102, 111, 114] r18 _ (hG.own hF hO).1 (hO.rowSees (i := 2) rfl) (hO.rowCap (i := 2) rfl) hr18) ?_
    rintro e w' ⟨p19, c20, he, hO'⟩
    refine ⟨_, he, fun a hf => ?_⟩
    have hO := hO.call hO' (by simp [Res.shared])
    obtain ⟨r21, hr21, hm⟩ := ob hm
    refine op_enter (ex_call c_24 hf (vs := [.slice p16 r15.length c17, .slice p19 r18.length c20]) rfl) rfl hf rfl rfl (w_ref12_Same r15 r18 r21 _ (hG.own hF hO).1 (hO.rowSees (i := 1) rfl) (hO.rowCap (i := 1) rfl) (hO.rowSees (i := 0) rfl) (hO.rowCap (i := 0) rfl) hr21) ?_
    rintro e w' ⟨he, hb⟩
    refine ⟨_, he, fun a hf => ?_⟩
    have hO := hO.grow hb
    refine op_val (ex_not hf rfl) rfl hf rfl rfl fun a hf => ?_
    refine wpList_nil ?_
    refine nor_then (hK22 _ _ ?_)
    refine wp_cond_cut hf rfl (fun hc23 => ?_) (fun hc23 => ?_)
    · have hm := it hc23 hm
      refine wp_seq_k fun _ hK24 => ?_
      refine wp_region_list ?_
      refine op_val (ex_assign hf rfl) rfl hf rfl rfl fun a hf => ?_
      refine wpList_nil ?_
      refine nor_then (hK24 _ _ ?_)
      refine wp_ret ?_
      refine ret_then ?_
      obtain rfl := Option.some.inj hm
      exact post_ret Tryz.results7 hf (.tmp rfl .nil) ⟨rfl, hO.below⟩
    · have hm := ie hc23 hm
      refine wp_skip ?_
      refine nor_then (hK25 _ _ ?_)
      refine wp_seq_k fun _ hK29 => ?_
      refine wp_region_list ?_
      refine op_val (ex_move hf rfl) rfl hf rfl rfl fun a hf => ?_
      obtain ⟨r26, hr26, hm⟩ := ob hm
      refine op_enter (ex_call c_22 hf (vs := [str x_client, .slice none 0 0]) rfl) rfl hf rfl rfl (w_xff_Append x_client [] r26 _ (hG.own hF hO) (Sees.nil _) (Nat.zero_le _) hr26) ?_
      rintro e w' ⟨p27, c28, he, hO'⟩
      refine ⟨_, he, fun a hf => ?_⟩
      have hO := hO.call hO' (by simp [Res.shared])
      refine op_val (ex_assign hf rfl) rfl hf rfl rfl fun a hf => ?_
      refine wpList_nil ?_
      refine nor_then (hK29 _ _ ?_)
      refine wp_seq_cut (fun a w => ∃ (t43 : Bool), Fits 49 [(4, .bool t43)] a ∧ Dk.Own w0 [] w [.row (.slice p27 r26.length c28) 63 2 r26.length (cells enc_api_Field r26), .row (.slice p19 r18.length c20) 63 2 r18.length (cells enc_api_Field r18), .row (.slice p16 r15.length c17) 63 2 r15.length (cells enc_api_Field r15), .row (.slice p12 r11.length c13) 63 2 r11.length (cells enc_api_Field r11), .row (.slice p8 r7.Fields.length c9) 63 2 r7.Fields.length (cells enc_api_Field r7.Fields), .shr x_l_p0 (cells enc_api_Field x_l)] ∧ law27_XffOthers_j1 t43 = some R) ?_ ?_
      · refine wp_region_list ?_
        refine op_val (ex_move hf rfl) rfl hf rfl rfl fun a hf => ?_
        refine op_val (ex_len_l Tryz.underlying43 hf rfl) rfl hf rfl rfl fun a hf => ?_
        refine op_val (ex_eql (m := (r26.length : Int)) (n := 1) hf rfl rfl) rfl hf rfl rfl fun a hf => ?_
        refine op_val (ex_move hf rfl) rfl hf rfl rfl fun a hf => ?_
        rcases bcase ((r26.length : Int) == 1) with hc30 | hc30
        · have hm := it hc30 hm
          refine op_guard rfl hf rfl rfl (hc30) ?_
          refine op_val (ex_move hf rfl) rfl hf rfl rfl fun a hf => ?_
          refine op_guard rfl hf rfl rfl (hc30) ?_
          obtain ⟨x31, hx31, hm⟩ := ob hm
          obtain ⟨b32, o33, hix31, hSx31, hAx31⟩ := elemAtRow (enc := enc_api_Field) (sz := 2) (xs := r26) 43 Tryz.underlying43 sz_63 (by decide) (fun _ => rfl) hO (i := 0) rfl hx31
          refine op_val (ex_indexAddr hix31 hf rfl rfl) rfl hf rfl rfl fun a hf => ?_
          refine op_guard rfl hf rfl rfl (hc30) ?_
          refine op_val (ex_field fa_63_1 hf rfl) rfl hf rfl rfl fun a hf => ?_
          refine op_guard rfl hf rfl rfl (hc30) ?_
          refine op_val (ex_load1 (o := 1) ag_9 (hSx31 _ (hO.rowSees (i := 0) rfl)) rfl hf rfl) rfl hf rfl rfl fun a hf => ?_
          refine op_guard rfl hf rfl rfl (hc30) ?_
          obtain ⟨r34, hr34, hm⟩ := ob hm
          refine op_enter (ex_call c_30 hf (vs := [str x31.Value]) rfl) rfl hf rfl rfl (w_xff_Is x31.Value r34 _ (hG.own hF hO) hr34) ?_
          rintro e w' ⟨he, hb⟩
          refine ⟨_, he, fun a hf => ?_⟩
          have hO := hO.grow hb
          refine op_val (ex_pick_t hf rfl hc30 rfl) rfl hf rfl rfl fun a hf => ?_
          refine op_val (ex_move hf rfl) rfl hf rfl rfl fun a hf => ?_
          rcases bcase (r34) with hc35 | hc35
          · have hm := it hc35 hm
            refine op_guard rfl hf rfl rfl (hc35) ?_
            refine op_val (ex_move hf rfl) rfl hf rfl rfl fun a hf => ?_
            refine op_guard rfl hf rfl rfl (hc35) ?_
            obtain ⟨x36, hx36, hm⟩ := ob hm
            obtain ⟨b37, o38, hix36, hSx36, hAx36⟩ := elemAtRow (enc := enc_api_Field) (sz := 2) (xs := r26) 43 Tryz.underlying43 sz_63 (by decide) (fun _ => rfl) hO (i := 0) rfl hx36
            refine op_val (ex_indexAddr hix36 hf rfl rfl) rfl hf rfl rfl fun a hf => ?_
            refine op_guard rfl hf rfl rfl (hc35) ?_
            refine op_val (ex_field fa_63_1 hf rfl) rfl hf rfl rfl fun a hf => ?_
            refine op_guard rfl hf rfl rfl (hc35) ?_
            refine op_val (ex_load1 (o := 1) ag_9 (hSx36 _ (hO.rowSees (i := 0) rfl)) rfl hf rfl) rfl hf rfl rfl fun a hf => ?_
            refine op_guard rfl hf rfl rfl (hc35) ?_
            refine op_val (ex_move hf rfl) rfl hf rfl rfl fun a hf => ?_
            refine op_guard rfl hf rfl rfl (hc35) ?_
            refine op_val (ex_eql_s (l := x36.Value) (m := x_client) hf rfl rfl) rfl hf rfl rfl fun a hf => ?_
            refine op_guard rfl hf rfl rfl (hc35) ?_
            refine op_val (ex_move hf rfl) rfl hf rfl rfl fun a hf => ?_
            rcases bcase (x36.Value == x_client) with hc39 | hc39
            · have hm := it hc39 hm
              refine op_pass rfl hf rfl rfl (hc39) rfl rfl fun a hf => ?_
              refine op_pass rfl hf rfl rfl (hc39) rfl rfl fun a hf => ?_
              refine op_pass rfl hf rfl rfl (hc39) rfl rfl fun a hf => ?_
              refine op_pass rfl hf rfl rfl (hc39) rfl rfl fun a hf => ?_
              refine op_pass rfl hf rfl rfl (hc39) rfl rfl fun a hf => ?_
              refine op_guard rfl hf rfl rfl (hc35) ?_
              refine op_val (ex_pick_t hf rfl hc39 rfl) rfl hf rfl rfl fun a hf => ?_
              refine op_val (ex_pick_t hf rfl hc35 rfl) rfl hf rfl rfl fun a hf => ?_
              refine op_val (ex_assign hf rfl) rfl hf rfl rfl fun a hf => ?_
              refine wpList_nil ?_
              refine nor_then ?_
              exact ⟨true, (hf.cons rfl hf.nil), hO, hm⟩
            · have hm := ie hc39 hm
              refine op_guard rfl hf rfl rfl (hc39) ?_
              refine op_val (ex_move hf rfl) rfl hf rfl rfl fun a hf => ?_
              refine op_guard rfl hf rfl rfl (hc39) ?_
              obtain ⟨x40, hx40, hm⟩ := ob hm
              obtain ⟨b41, o42, hix40, hSx40, hAx40⟩ := elemAtRow (enc := enc_api_Field) (sz := 2) (xs := r26) 43 Tryz.underlying43 sz_63 (by decide) (fun _ => rfl) hO (i := 0) rfl hx40
              refine op_val (ex_indexAddr hix40 hf rfl rfl) rfl hf rfl rfl fun a hf => ?_
              refine op_guard rfl hf rfl rfl (hc39) ?_
              refine op_val (ex_field fa_63_1 hf rfl) rfl hf rfl rfl fun a hf => ?_
              refine op_guard rfl hf rfl rfl (hc39) ?_
              refine op_val (ex_load1 (o := 1) ag_9 (hSx40 _ (hO.rowSees (i := 0) rfl)) rfl hf rfl) rfl hf rfl rfl fun a hf => ?_
              refine op_guard rfl hf rfl rfl (hc39) ?_
              refine op_val (ex_eql_s (l := x40.Value) (m := [117, 110, 107, 110, 111, 119, 110]) hf rfl rfl) rfl hf rfl rfl fun a hf => ?_
              refine op_guard rfl hf rfl rfl (hc35) ?_
              refine op_val (ex_pick_f hf rfl hc39 rfl) rfl hf rfl rfl fun a hf => ?_
              refine op_val (ex_pick_t hf rfl hc35 rfl) rfl hf rfl rfl fun a hf => ?_
              refine op_val (ex_assign hf rfl) rfl hf rfl rfl fun a hf => ?_
              refine wpList_nil ?_
              refine nor_then ?_
              exact ⟨x40.Value == [117, 110, 107, 110, 111, 119, 110], (hf.cons rfl hf.nil), hO, hm⟩
          · have hm := ie hc35 hm
            refine op_pass rfl hf rfl rfl (hc35) rfl rfl fun a hf => ?_
            refine op_pass rfl hf rfl rfl (hc35) rfl rfl fun a hf => ?_
            refine op_pass rfl hf rfl rfl (hc35) rfl rfl fun a hf => ?_
            refine op_pass rfl hf rfl rfl (hc35) rfl rfl fun a hf => ?_
            refine op_pass rfl hf rfl rfl (hc35) rfl rfl fun a hf => ?_
            refine op_pass rfl hf rfl rfl (hc35) rfl rfl fun a hf => ?_
            refine op_pass rfl hf rfl rfl (hc35) rfl rfl fun a hf => ?_
            refine op_passu rfl hf rfl rfl rfl rfl fun a hf => ?_
            refine op_passu rfl hf rfl rfl rfl rfl fun a hf => ?_
            refine op_passu rfl hf rfl rfl rfl rfl fun a hf => ?_
            refine op_passu rfl hf rfl rfl rfl rfl fun a hf => ?_
            refine op_passu rfl hf rfl rfl rfl rfl fun a hf => ?_
            refine op_pass rfl hf rfl rfl (hc35) rfl rfl fun a hf => ?_
            refine op_val (ex_pick_f hf rfl hc35 rfl) rfl hf rfl rfl fun a hf => ?_
            refine op_val (ex_assign hf rfl) rfl hf rfl rfl fun a hf => ?_
            refine wpList_nil ?_
            refine nor_then ?_
            exact ⟨false, (hf.cons rfl hf.nil), hO, hm⟩
        · have hm := ie hc30 hm
          refine op_pass rfl hf rfl rfl (hc30) rfl rfl fun a hf => ?_
          refine op_pass rfl hf rfl rfl (hc30) rfl rfl fun a hf => ?_
          refine op_pass rfl hf rfl rfl (hc30) rfl rfl fun a hf => ?_
          refine op_pass rfl hf rfl rfl (hc30) rfl rfl fun a hf => ?_
          refine op_pass rfl hf rfl rfl (hc30) rfl rfl fun a hf => ?_
          refine op_val (ex_pick_f hf rfl hc30 rfl) rfl hf rfl rfl fun a hf => ?_
          refine op_val (ex_move hf rfl) rfl hf rfl rfl fun a hf => ?_
          refine op_pass rfl hf rfl rfl (rfl) rfl rfl fun a hf => ?_
          refine op_pass rfl hf rfl rfl (rfl) rfl rfl fun a hf => ?_
          refine op_pass rfl hf rfl rfl (rfl) rfl rfl fun a hf => ?_
          refine op_pass rfl hf rfl rfl (rfl) rfl rfl fun a hf => ?_
          refine op_pass rfl hf rfl rfl (rfl) rfl rfl fun a hf => ?_
          refine op_pass rfl hf rfl rfl (rfl) rfl rfl fun a hf => ?_
          refine op_pass rfl hf rfl rfl (rfl) rfl rfl fun a hf => ?_
          refine op_passu rfl hf rfl rfl rfl rfl fun a hf => ?_
          refine op_passu rfl hf rfl rfl rfl rfl fun a hf => ?_
          refine op_passu rfl hf rfl rfl rfl rfl fun a hf => ?_
          refine op_passu rfl hf rfl rfl rfl rfl fun a hf => ?_
          refine op_passu rfl hf rfl rfl rfl rfl fun a hf => ?_
          refine op_pass rfl hf rfl rfl (rfl) rfl rfl fun a hf => ?_
          refine op_val (ex_pick_f hf rfl rfl rfl) rfl hf rfl rfl fun a hf => ?_
          refine op_val (ex_assign hf rfl) rfl hf rfl rfl fun a hf => ?_
          refine wpList_nil ?_
          refine nor_then ?_
          exact ⟨false, (hf.cons rfl hf.nil), hO, hm⟩
      · rintro a w ⟨t43, hf, hO, hm⟩
        rw [law27_XffOthers_j1] at hm
        refine wp_ret ?_
        obtain rfl := Option.some.inj hm
        exact post_ret Tryz.results7 hf (.tmp rfl .nil) ⟨rfl, hO.below⟩

end Go.Proofs
