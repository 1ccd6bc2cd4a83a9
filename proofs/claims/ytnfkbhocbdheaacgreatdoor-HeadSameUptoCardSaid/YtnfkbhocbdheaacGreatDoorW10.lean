/-
  Walks, written by a program (wip/gen): what its model says, the function returns; what was there before is as it was.
-/
import Derived.Test.YtnfkbhocbdheaacGreatDoorLib
import Derived.Test.YtnfkbhocbdheaacGreatDoorW5
import Derived.Test.YtnfkbhocbdheaacGreatDoorW6
set_option linter.unusedVariables false
set_option linter.unusedSimpArgs false
set_option maxRecDepth 100000
namespace Go.Proofs
open Go.Dk Go.Dm Go.RowKit

set_option maxHeartbeats 1000000 in
theorem w_ref14_Same (x_a : api_Head) (x_b : api_Head) (R : Bool) (w0 : World) (hG : Glob w0) {x_a_p0 : Option Addr} {x_a_c0 : Nat} (hs0 : Sees w0 x_a_p0 (cells enc_api_Field x_a.Fields)) (hc0 : x_a.Fields.length ≤ x_a_c0) {x_b_p1 : Option Addr} {x_b_c1 : Nat} (hs1 : Sees w0 x_b_p1 (cells enc_api_Field x_b.Fields)) (hc1 : x_b.Fields.length ≤ x_b_c1) (hm : ref14_Same x_a x_b = some R) :
    Calls Tryz.prog 34 #[.agg #[int x_a.Kind, str x_a.Method, str x_a.Target, int x_a.Code, str x_a.Reason, int x_a.Minor, .slice x_a_p0 x_a.Fields.length x_a_c0], .agg #[int x_b.Kind, str x_b.Method, str x_b.Target, int x_b.Code, str x_b.Reason, int x_b.Minor, .slice x_b_p1 x_b.Fields.length x_b_c1]] w0 fun e w' => e = .returned (.bool R) ∧ Below w0.heap.size w0 w' := by
  rw [ref14_Same] at hm
  refine calls_enter (vs := [.agg #[int x_a.Kind, str x_a.Method, str x_a.Target, int x_a.Code, str x_a.Reason, int x_a.Minor, .slice x_a_p0 x_a.Fields.length x_a_c0], .agg #[int x_b.Kind, str x_b.Method, str x_b.Target, int x_b.Code, str x_b.Reason, int x_b.Minor, .slice x_b_p1 x_b.Fields.length x_b_c1]]) Tryz.func34 rfl Tryz.ntmps34 rfl fun a hf => ?_
  have hF : Away [] := away_nil
  have hO : Dk.Own w0 [] w0 [] := Dk.Own.refl w0
  have hO := hO.addShr hs0 (by simp [Res.shared])
  have hO := hO.addShr hs1 (by simp [Res.shared])
  refine wp_seq_k fun _ hK3 => ?_
  refine wp_region_list ?_
  refine op_box (v := .agg #[int x_a.Kind, str x_a.Method, str x_a.Target, int x_a.Code, str x_a.Reason, int x_a.Minor, .slice x_a_p0 x_a.Fields.length x_a_c0]) (cs := [int x_a.Kind, str x_a.Method, str x_a.Target, int x_a.Code, str x_a.Reason, int x_a.Minor, .slice x_a_p0 x_a.Fields.length x_a_c0]) rfl hf rfl rfl hO fun a b1 w hf hO => ?_
  refine op_box (v := .agg #[int x_b.Kind, str x_b.Method, str x_b.Target, int x_b.Code, str x_b.Reason, int x_b.Minor, .slice x_b_p1 x_b.Fields.length x_b_c1]) (cs := [int x_b.Kind, str x_b.Method, str x_b.Target, int x_b.Code, str x_b.Reason, int x_b.Minor, .slice x_b_p1 x_b.Fields.length x_b_c1]) rfl hf rfl rfl hO fun a b2 w hf hO => ?_
  refine op_val (ex_assign hf rfl) rfl hf rfl rfl fun a hf => ?_
  refine wpList_nil ?_
  refine nor_then (hK3 _ _ ?_)
  refine wp_seq_cut (fun a w => ∃ (t9 : Bool), Fits 45 [(4, .bool t9)] a ∧ Dk.Own w0 [] w [.blk b2 [int x_b.Kind, str x_b.Method, str x_b.Target, int x_b.Code, str x_b.Reason, int x_b.Minor, .slice x_b_p1 x_b.Fields.length x_b_c1] 25, .blk b1 [int x_a.Kind, str x_a.Method, str x_a.Target, int x_a.Code, str x_a.Reason, int x_a.Minor, .slice x_a_p0 x_a.Fields.length x_a_c0] 25, .shr x_b_p1 (cells enc_api_Field x_b.Fields), .shr x_a_p0 (cells enc_api_Field x_a.Fields)] ∧ ref14_Same_j1 t9 = some R) ?_ ?_
  · refine wp_region_list ?_
    refine op_val (ex_field fa_25_0 hf rfl) rfl hf rfl rfl fun a hf => ?_
    refine op_val (ex_load1 (o := 0) ag_22 (hO.blkSees (i := 1) rfl) rfl hf rfl) rfl hf rfl rfl fun a hf => ?_
    refine op_val (ex_field fa_25_0 hf rfl) rfl hf rfl rfl fun a hf => ?_
    refine op_val (ex_load1 (o := 0) ag_22 (hO.blkSees (i := 0) rfl) rfl hf rfl) rfl hf rfl rfl fun a hf => ?_
    refine op_val (ex_eql (m := x_a.Kind) (n := x_b.Kind) hf rfl rfl) rfl hf rfl rfl fun a hf => ?_
    refine op_val (ex_move hf rfl) rfl hf rfl rfl fun a hf => ?_
    rcases bcase (x_a.Kind == x_b.Kind) with hc4 | hc4
    · have hm := it hc4 hm
      refine op_guard rfl hf rfl rfl (hc4) ?_
      refine op_val (ex_field fa_25_1 hf rfl) rfl hf rfl rfl fun a hf => ?_
      refine op_guard rfl hf rfl rfl (hc4) ?_
      refine op_val (ex_load1 (o := 1) ag_9 (hO.blkSees (i := 1) rfl) rfl hf rfl) rfl hf rfl rfl fun a hf => ?_
      refine op_guard rfl hf rfl rfl (hc4) ?_
      refine op_val (ex_field fa_25_1 hf rfl) rfl hf rfl rfl fun a hf => ?_
      refine op_guard rfl hf rfl rfl (hc4) ?_
      refine op_val (ex_load1 (o := 1) ag_9 (hO.blkSees (i := 0) rfl) rfl hf rfl) rfl hf rfl rfl fun a hf => ?_
      refine op_guard rfl hf rfl rfl (hc4) ?_
      refine op_val (ex_eql_s (l := x_a.Method) (m := x_b.Method) hf rfl rfl) rfl hf rfl rfl fun a hf => ?_
      refine op_val (ex_pick_t hf rfl hc4 rfl) rfl hf rfl rfl fun a hf => ?_
      refine op_val (ex_move hf rfl) rfl hf rfl rfl fun a hf => ?_
      rcases bcase (x_a.Method == x_b.Method) with hc5 | hc5
      · have hm := it hc5 hm
        refine op_guard rfl hf rfl rfl (hc5) ?_
        refine op_val (ex_field fa_25_2 hf rfl) rfl hf rfl rfl fun a hf => ?_
        refine op_guard rfl hf rfl rfl (hc5) ?_
        refine op_val (ex_load1 (o := 2) ag_9 (hO.blkSees (i := 1) rfl) rfl hf rfl) rfl hf rfl rfl fun a hf => ?_
        refine op_guard rfl hf rfl rfl (hc5) ?_
        refine op_val (ex_field fa_25_2 hf rfl) rfl hf rfl rfl fun a hf => ?_
        refine op_guard rfl hf rfl rfl (hc5) ?_
        refine op_val (ex_load1 (o := 2) ag_9 (hO.blkSees (i := 0) rfl) rfl hf rfl) rfl hf rfl rfl fun a hf => ?_
        refine op_guard rfl hf rfl rfl (hc5) ?_
        refine op_val (ex_eql_s (l := x_a.Target) (m := x_b.Target) hf rfl rfl) rfl hf rfl rfl fun a hf => ?_
        refine op_val (ex_pick_t hf rfl hc5 rfl) rfl hf rfl rfl fun a hf => ?_
        refine op_val (ex_move hf rfl) rfl hf rfl rfl fun a hf => ?_
        rcases bcase (x_a.Target == x_b.Target) with hc6 | hc6
        · have hm := it hc6 hm
          refine op_guard rfl hf rfl rfl (hc6) ?_
          refine op_val (ex_field fa_25_5 hf rfl) rfl hf rfl rfl fun a hf => ?_
          refine op_guard rfl hf rfl rfl (hc6) ?_
          refine op_val (ex_load1 (o := 5) ag_3 (hO.blkSees (i := 1) rfl) rfl hf rfl) rfl hf rfl rfl fun a hf => ?_
          refine op_guard rfl hf rfl rfl (hc6) ?_
          refine op_val (ex_field fa_25_5 hf rfl) rfl hf rfl rfl fun a hf => ?_
          refine op_guard rfl hf rfl rfl (hc6) ?_
          refine op_val (ex_load1 (o := 5) ag_3 (hO.blkSees (i := 0) rfl) rfl hf rfl) rfl hf rfl rfl fun a hf => ?_
          refine op_guard rfl hf rfl rfl (hc6) ?_
          refine op_val (ex_eql (m := x_a.Minor) (n := x_b.Minor) hf rfl rfl) rfl hf rfl rfl fun a hf => ?_
          refine op_val (ex_pick_t hf rfl hc6 rfl) rfl hf rfl rfl fun a hf => ?_
          refine op_val (ex_move hf rfl) rfl hf rfl rfl fun a hf => ?_
          rcases bcase (x_a.Minor == x_b.Minor) with hc7 | hc7
          · have hm := it hc7 hm
            refine op_guard rfl hf rfl rfl (hc7) ?_
            refine op_val (ex_field fa_25_3 hf rfl) rfl hf rfl rfl fun a hf => ?_
            refine op_guard rfl hf rfl rfl (hc7) ?_
            refine op_val (ex_load1 (o := 3) ag_3 (hO.blkSees (i := 1) rfl) rfl hf rfl) rfl hf rfl rfl fun a hf => ?_
            refine op_guard rfl hf rfl rfl (hc7) ?_
            refine op_val (ex_field fa_25_3 hf rfl) rfl hf rfl rfl fun a hf => ?_
            refine op_guard rfl hf rfl rfl (hc7) ?_
            refine op_val (ex_load1 (o := 3) ag_3 (hO.blkSees (i := 0) rfl) rfl hf rfl) rfl hf rfl rfl fun a hf => ?_
            refine op_guard rfl hf rfl rfl (hc7) ?_
            refine op_val (ex_eql (m := x_a.Code) (n := x_b.Code) hf rfl rfl) rfl hf rfl rfl fun a hf => ?_
            refine op_val (ex_pick_t hf rfl hc7 rfl) rfl hf rfl rfl fun a hf => ?_
            refine op_val (ex_move hf rfl) rfl hf rfl rfl fun a hf => ?_
            rcases bcase (x_a.Code == x_b.Code) with hc8 | hc8
            · have hm := it hc8 hm
              refine op_guard rfl hf rfl rfl (hc8) ?_
              refine op_val (ex_field fa_25_4 hf rfl) rfl hf rfl rfl fun a hf => ?_
              refine op_guard rfl hf rfl rfl (hc8) ?_
              refine op_val (ex_load1 (o := 4) ag_9 (hO.blkSees (i := 1) rfl) rfl hf rfl) rfl hf rfl rfl fun a hf => ?_
              refine op_guard rfl hf rfl rfl (hc8) ?_
              refine op_val (ex_field fa_25_4 hf rfl) rfl hf rfl rfl fun a hf => ?_
              refine op_guard rfl hf rfl rfl (hc8) ?_
              refine op_val (ex_load1 (o := 4) ag_9 (hO.blkSees (i := 0) rfl) rfl hf rfl) rfl hf rfl rfl fun a hf => ?_
              refine op_guard rfl hf rfl rfl (hc8) ?_
              refine op_val (ex_eql_s (l := x_a.Reason) (m := x_b.Reason) hf rfl rfl) rfl hf rfl rfl fun a hf => ?_
              refine op_val (ex_pick_t hf rfl hc8 rfl) rfl hf rfl rfl fun a hf => ?_
              refine op_val (ex_assign hf rfl) rfl hf rfl rfl fun a hf => ?_
              refine wpList_nil ?_
              refine nor_then ?_
              exact ⟨x_a.Reason == x_b.Reason, (hf.cons rfl hf.nil), hO, hm⟩
            · have hm := ie hc8 hm
              refine op_pass rfl hf rfl rfl (hc8) rfl rfl fun a hf => ?_
              refine op_pass rfl hf rfl rfl (hc8) rfl rfl fun a hf => ?_
              refine op_pass rfl hf rfl rfl (hc8) rfl rfl fun a hf => ?_
              refine op_pass rfl hf rfl rfl (hc8) rfl rfl fun a hf => ?_
              refine op_pass rfl hf rfl rfl (hc8) rfl rfl fun a hf => ?_
              refine op_val (ex_pick_f hf rfl hc8 rfl) rfl hf rfl rfl fun a hf => ?_
              refine op_val (ex_assign hf rfl) rfl hf rfl rfl fun a hf => ?_
              refine wpList_nil ?_
              refine nor_then ?_
              exact ⟨false, (hf.cons rfl hf.nil), hO, hm⟩
          · have hm := ie hc7 hm
            refine op_pass rfl hf rfl rfl (hc7) rfl rfl fun a hf => ?_
            refine op_pass rfl hf rfl rfl (hc7) rfl rfl fun a hf => ?_
            refine op_pass rfl hf rfl rfl (hc7) rfl rfl fun a hf => ?_
            refine op_pass rfl hf rfl rfl (hc7) rfl rfl fun a hf => ?_
            refine op_pass rfl hf rfl rfl (hc7) rfl rfl fun a hf => ?_
            refine op_val (ex_pick_f hf rfl hc7 rfl) rfl hf rfl rfl fun a hf => ?_
            refine op_val (ex_move hf rfl) rfl hf rfl rfl fun a hf => ?_
            refine op_pass rfl hf rfl rfl (rfl) rfl rfl fun a hf => ?_
            refine op_pass rfl hf rfl rfl (rfl) rfl rfl fun a hf => ?_
            refine op_pass rfl hf rfl rfl (rfl) rfl rfl fun a hf => ?_
            refine op_pass rfl hf rfl rfl (rfl) rfl rfl fun a hf => ?_
            refine op_pass rfl hf rfl rfl (rfl) rfl rfl fun a hf => ?_
            refine op_val (ex_pick_f hf rfl rfl rfl) rfl hf rfl rfl fun a hf => ?_
            refine op_val (ex_assign hf rfl) rfl hf rfl rfl fun a hf => ?_
            refine wpList_nil ?_
            refine nor_then ?_
            exact ⟨false, (hf.cons rfl hf.nil), hO, hm⟩
        · have hm := ie hc6 hm
          refine op_pass rfl hf rfl rfl (hc6) rfl rfl fun a hf => ?_
          refine op_pass rfl hf rfl rfl (hc6) rfl rfl fun a hf => ?_
          refine op_pass rfl hf rfl rfl (hc6) rfl rfl fun a hf => ?_
          refine op_pass rfl hf rfl rfl (hc6) rfl rfl fun a hf => ?_
          refine op_pass rfl hf rfl rfl (hc6) rfl rfl fun a hf => ?_
          refine op_val (ex_pick_f hf rfl hc6 rfl) rfl hf rfl rfl fun a hf => ?_
          refine op_val (ex_move hf rfl) rfl hf rfl rfl fun a hf => ?_
          refine op_pass rfl hf rfl rfl (rfl) rfl rfl fun a hf => ?_
          refine op_pass rfl hf rfl rfl (rfl) rfl rfl fun a hf => ?_
          refine op_pass rfl hf rfl rfl (rfl) rfl rfl fun a hf => ?_
          refine op_pass rfl hf rfl rfl (rfl) rfl rfl fun a hf => ?_
          refine op_pass rfl hf rfl rfl (rfl) rfl rfl fun a hf => ?_
          refine op_val (ex_pick_f hf rfl rfl rfl) rfl hf rfl rfl fun a hf => ?_
          refine op_val (ex_move hf rfl) rfl hf rfl rfl fun a hf => ?_
          refine op_pass rfl hf rfl rfl (rfl) rfl rfl fun a hf => ?_
          refine op_pass rfl hf rfl rfl (rfl) rfl rfl fun a hf => ?_
          refine op_pass rfl hf rfl rfl (rfl) rfl rfl fun a hf => ?_
          refine op_pass rfl hf rfl rfl (rfl) rfl rfl fun a hf => ?_
          refine op_pass rfl hf rfl rfl (rfl) rfl rfl fun a hf => ?_
          refine op_val (ex_pick_f hf rfl rfl rfl) rfl hf rfl rfl fun a hf => ?_
          refine op_val (ex_assign hf rfl) rfl hf rfl rfl fun a hf => ?_
          refine wpList_nil ?_
          refine nor_then ?_
          exact ⟨false, (hf.cons rfl hf.nil), hO, hm⟩
      · have hm := ie hc5 hm
        refine op_pass rfl hf rfl rfl (hc5) rfl rfl fun a hf => ?_
        refine op_pass rfl hf rfl rfl (hc5) rfl rfl fun a hf => ?_
        refine op_pass rfl hf rfl rfl (hc5) rfl rfl fun a hf => ?_
        refine op_pass rfl hf rfl rfl (hc5) rfl rfl fun a hf => ?_
        refine op_pass rfl hf rfl rfl (hc5) rfl rfl fun a hf => ?_
        refine op_val (ex_pick_f hf rfl hc5 rfl) rfl hf rfl rfl fun a hf => ?_
        refine op_val (ex_move hf rfl) rfl hf rfl rfl fun a hf => ?_
        refine op_pass rfl hf rfl rfl (rfl) rfl rfl fun a hf => ?_
        refine op_pass rfl hf rfl rfl (rfl) rfl rfl fun a hf => ?_
        refine op_pass rfl hf rfl rfl (rfl) rfl rfl fun a hf => ?_
        refine op_pass rfl hf rfl rfl (rfl) rfl rfl fun a hf => ?_
        refine op_pass rfl hf rfl rfl (rfl) rfl rfl fun a hf => ?_
        refine op_val (ex_pick_f hf rfl rfl rfl) rfl hf rfl rfl fun a hf => ?_
        refine op_val (ex_move hf rfl) rfl hf rfl rfl fun a hf => ?_
        refine op_pass rfl hf rfl rfl (rfl) rfl rfl fun a hf => ?_
        refine op_pass rfl hf rfl rfl (rfl) rfl rfl fun a hf => ?_
        refine op_pass rfl hf rfl rfl (rfl) rfl rfl fun a hf => ?_
        refine op_pass rfl hf rfl rfl (rfl) rfl rfl fun a hf => ?_
        refine op_pass rfl hf rfl rfl (rfl) rfl rfl fun a hf => ?_
        refine op_val (ex_pick_f hf rfl rfl rfl) rfl hf rfl rfl fun a hf => ?_
        refine op_val (ex_move hf rfl) rfl hf rfl rfl fun a hf => ?_
        refine op_pass rfl hf rfl rfl (rfl) rfl rfl fun a hf => ?_
        refine op_pass rfl hf rfl rfl (rfl) rfl rfl fun a hf => ?_
        refine op_pass rfl hf rfl rfl (rfl) rfl rfl fun a hf => ?_
        refine op_pass rfl hf rfl rfl (rfl) rfl rfl fun a hf => ?_
        refine op_pass rfl hf rfl rfl (rfl) rfl rfl fun a hf => ?_
        refine op_val (ex_pick_f hf rfl rfl rfl) rfl hf rfl rfl fun a hf => ?_
        refine op_val (ex_assign hf rfl) rfl hf rfl rfl fun a hf => ?_
        refine wpList_nil ?_
        refine nor_then ?_
        exact ⟨false, (hf.cons rfl hf.nil), hO, hm⟩
    · have hm := ie hc4 hm
      refine op_pass rfl hf rfl rfl (hc4) rfl rfl fun a hf => ?_
      refine op_pass rfl hf rfl rfl (hc4) rfl rfl fun a hf => ?_
      refine op_pass rfl hf rfl rfl (hc4) rfl rfl fun a hf => ?_
      refine op_pass rfl hf rfl rfl (hc4) rfl rfl fun a hf => ?_
      refine op_pass rfl hf rfl rfl (hc4) rfl rfl fun a hf => ?_
      refine op_val (ex_pick_f hf rfl hc4 rfl) rfl hf rfl rfl fun a hf => ?_
      refine op_val (ex_move hf rfl) rfl hf rfl rfl fun a hf => ?_
      refine op_pass rfl hf rfl rfl (rfl) rfl rfl fun a hf => ?_
      refine op_pass rfl hf rfl rfl (rfl) rfl rfl fun a hf => ?_
      refine op_pass rfl hf rfl rfl (rfl) rfl rfl fun a hf => ?_
      refine op_pass rfl hf rfl rfl (rfl) rfl rfl fun a hf => ?_
      refine op_pass rfl hf rfl rfl (rfl) rfl rfl fun a hf => ?_
      refine op_val (ex_pick_f hf rfl rfl rfl) rfl hf rfl rfl fun a hf => ?_
      refine op_val (ex_move hf rfl) rfl hf rfl rfl fun a hf => ?_
      refine op_pass rfl hf rfl rfl (rfl) rfl rfl fun a hf => ?_
      refine op_pass rfl hf rfl rfl (rfl) rfl rfl fun a hf => ?_
      refine op_pass rfl hf rfl rfl (rfl) rfl rfl fun a hf => ?_
      refine op_pass rfl hf rfl rfl (rfl) rfl rfl fun a hf => ?_
      refine op_pass rfl hf rfl rfl (rfl) rfl rfl fun a hf => ?_
      refine op_val (ex_pick_f hf rfl rfl rfl) rfl hf rfl rfl fun a hf => ?_
      refine op_val (ex_move hf rfl) rfl hf rfl rfl fun a hf => ?_
      refine op_pass rfl hf rfl rfl (rfl) rfl rfl fun a hf => ?_
      refine op_pass rfl hf rfl rfl (rfl) rfl rfl fun a hf => ?_
      refine op_pass rfl hf rfl rfl (rfl) rfl rfl fun a hf => ?_
      refine op_pass rfl hf rfl rfl (rfl) rfl rfl fun a hf => ?_
      refine op_pass rfl hf rfl rfl (rfl) rfl rfl fun a hf => ?_
      refine op_val (ex_pick_f hf rfl rfl rfl) rfl hf rfl rfl fun a hf => ?_
      refine op_val (ex_move hf rfl) rfl hf rfl rfl fun a hf => ?_
      refine op_pass rfl hf rfl rfl (rfl) rfl rfl fun a hf => ?_
      refine op_pass rfl hf rfl rfl (rfl) rfl rfl fun a hf => ?_
      refine op_pass rfl hf rfl rfl (rfl) rfl rfl fun a hf => ?_
      refine op_pass rfl hf rfl rfl (rfl) rfl rfl fun a hf => ?_
      refine op_pass rfl hf rfl rfl (rfl) rfl rfl fun a hf => ?_
      refine op_val (ex_pick_f hf rfl rfl rfl) rfl hf rfl rfl fun a hf => ?_
      refine op_val (ex_assign hf rfl) rfl hf rfl rfl fun a hf => ?_
      refine wpList_nil ?_
      refine nor_then ?_
      exact ⟨false, (hf.cons rfl hf.nil), hO, hm⟩
  · rintro a w ⟨t9, hf, hO, hm⟩
    rw [ref14_Same_j1] at hm
    refine wp_ret ?_
    obtain rfl := Option.some.inj hm
    exact post_ret Tryz.results34 hf (.tmp rfl .nil) ⟨rfl, hO.below⟩

set_option maxHeartbeats 1000000 in
theorem w_ref12_Same (x_a : List api_Field) (x_b : List api_Field) (R : Bool) (w0 : World) (hG : Glob w0) {x_a_p0 : Option Addr} {x_a_c0 : Nat} (hs0 : Sees w0 x_a_p0 (cells enc_api_Field x_a)) (hc0 : x_a.length ≤ x_a_c0) {x_b_p1 : Option Addr} {x_b_c1 : Nat} (hs1 : Sees w0 x_b_p1 (cells enc_api_Field x_b)) (hc1 : x_b.length ≤ x_b_c1) (hm : ref12_Same x_a x_b = some R) :
    Calls Tryz.prog 35 #[.slice x_a_p0 x_a.length x_a_c0, .slice x_b_p1 x_b.length x_b_c1] w0 fun e w' => e = .returned (.bool R) ∧ Below w0.heap.size w0 w' := by
  rw [ref12_Same] at hm
  refine calls_enter (vs := [.slice x_a_p0 x_a.length x_a_c0, .slice x_b_p1 x_b.length x_b_c1]) Tryz.func35 rfl Tryz.ntmps35 rfl fun a hf => ?_
  have hF : Away [] := away_nil
  have hO : Dk.Own w0 [] w0 [] := Dk.Own.refl w0
  have hO := hO.addShr hs0 (by simp [Res.shared])
  have hO := hO.addShr hs1 (by simp [Res.shared])
  refine wp_seq_k fun _ hK1 => ?_
  refine wp_region_list ?_
  refine op_val (ex_assign hf rfl) rfl hf rfl rfl fun a hf => ?_
  refine wpList_nil ?_
  refine nor_then (hK1 _ _ ?_)
  refine wp_seq_k fun _ hK5 => ?_
  refine wp_seq_k fun _ hK2 => ?_
  refine wp_region_list ?_
  refine op_val (ex_move hf rfl) rfl hf rfl rfl fun a hf => ?_
  refine op_val (ex_len_l Tryz.underlying23 hf rfl) rfl hf rfl rfl fun a hf => ?_
  refine op_val (ex_move hf rfl) rfl hf rfl rfl fun a hf => ?_
  refine op_val (ex_len_l Tryz.underlying23 hf rfl) rfl hf rfl rfl fun a hf => ?_
  refine op_val (ex_neq (m := (x_a.length : Int)) (n := (x_b.length : Int)) hf rfl rfl) rfl hf rfl rfl fun a hf => ?_
  refine wpList_nil ?_
  refine nor_then (hK2 _ _ ?_)
  refine wp_cond_cut hf rfl (fun hc3 => ?_) (fun hc3 => ?_)
  · have hm := it hc3 hm
    refine wp_seq_k fun _ hK4 => ?_
    refine wp_region_list ?_
    refine op_val (ex_assign hf rfl) rfl hf rfl rfl fun a hf => ?_
    refine wpList_nil ?_
    refine nor_then (hK4 _ _ ?_)
    refine wp_ret ?_
    refine ret_then ?_
    obtain rfl := Option.some.inj hm
    exact post_ret Tryz.results35 hf (.tmp rfl .nil) ⟨rfl, hO.below⟩
  · have hm := ie hc3 hm
    refine wp_skip ?_
    refine nor_then (hK5 _ _ ?_)
    refine wp_seq_k fun _ hK22 => ?_
    refine wp_seq_k fun _ hK6 => ?_
    refine wp_region_list ?_
    refine op_val (ex_assign hf rfl) rfl hf rfl rfl fun a hf => ?_
    refine wpList_nil ?_
    refine nor_then (hK6 _ _ ?_)
    refine wp_block ?_
    refine wp_loop_n (fun k a w => ∃ (i7 : Int), Fits 26 [(0, .slice x_a_p0 x_a.length x_a_c0), (1, .slice x_b_p1 x_b.length x_b_c1), (5, int i7)] a ∧ Dk.Own w0 [] w [.shr x_b_p1 (cells enc_api_Field x_b), .shr x_a_p0 (cells enc_api_Field x_a)] ∧ ref12_Same_L1 x_a x_b k i7 = some R) ?_ fuel ?_
    · rintro n1 a w ⟨i7, hf, hO, hm⟩
      obtain _ | n1 := n1
      · rw [ref12_Same_L1] at hm
        cases hm
      · rw [ref12_Same_L1] at hm
        refine wp_seq_k fun _ hK10 => ?_
        refine wp_seq_k fun _ hK8 => ?_
        refine wp_region_list ?_
        refine op_val (ex_move hf rfl) rfl hf rfl rfl fun a hf => ?_
        refine op_val (ex_move hf rfl) rfl hf rfl rfl fun a hf => ?_
        refine op_val (ex_len_l Tryz.underlying23 hf rfl) rfl hf rfl rfl fun a hf => ?_
        refine op_val (ex_lss (m := i7) (n := (x_a.length : Int)) hf rfl rfl) rfl hf rfl rfl fun a hf => ?_
        refine wpList_nil ?_
        refine nor_then (hK8 _ _ ?_)
        refine wp_cond_cut hf rfl (fun hc9 => ?_) (fun hc9 => ?_)
        · have hm := it hc9 hm
          refine wp_skip ?_
          refine nor_then (hK10 _ _ ?_)
          refine wp_seq_k fun _ hK20 => ?_
          refine wp_block ?_
          refine wp_seq_k fun _ hK17 => ?_
          refine wp_quiet (by kernel_rfl) (by kernel_rfl) hO ?_
          refine q_val (fun w hO => ex_move hf rfl) rfl hf rfl rfl fun a hf => ?_
          refine q_val (fun w hO => ex_move hf rfl) rfl hf rfl rfl fun a hf => ?_
          obtain ⟨x11, hx11, hm⟩ := ob hm
          obtain ⟨b12, o13, hix11, hSx11⟩ := elemAt (enc := enc_api_Field) (sz := 2) (xs := x_a) 23 Tryz.underlying23 sz_44 (by decide) (fun _ => rfl) (hO.sees (i := 1) rfl) hx11
          refine q_val (fun w hO => ex_indexAddr hix11 hf rfl rfl) rfl hf rfl rfl fun a hf => ?_
          refine q_val (fun w hO => ex_loadN (o := 0) (vs := [str x11.Name, str x11.Value]) ag_44 sz_44 (hSx11 _ (hO.sees (i := 1) rfl)) rfl rfl hf rfl) rfl hf rfl rfl fun a hf => ?_
          refine q_val (fun w hO => ex_move hf rfl) rfl hf rfl rfl fun a hf => ?_
          refine q_val (fun w hO => ex_move hf rfl) rfl hf rfl rfl fun a hf => ?_
          obtain ⟨x14, hx14, hm⟩ := ob hm
          obtain ⟨b15, o16, hix14, hSx14⟩ := elemAt (enc := enc_api_Field) (sz := 2) (xs := x_b) 23 Tryz.underlying23 sz_44 (by decide) (fun _ => rfl) (hO.sees (i := 0) rfl) hx14
          refine q_val (fun w hO => ex_indexAddr hix14 hf rfl rfl) rfl hf rfl rfl fun a hf => ?_
          refine q_val (fun w hO => ex_loadN (o := 0) (vs := [str x14.Name, str x14.Value]) ag_44 sz_44 (hSx14 _ (hO.sees (i := 0) rfl)) rfl rfl hf rfl) rfl hf rfl rfl fun a hf => ?_
          refine q_val (fun w hO => ex_neq_t (by kernel_rfl) (eq_44 x11 x14) hf rfl rfl) rfl hf rfl rfl fun a hf => ?_
          refine wpQuiet_nil ?_
          intro w hO
          refine nor_then (hK17 _ _ ?_)
          refine wp_cond_cut hf rfl (fun hc18 => ?_) (fun hc18 => ?_)
          · have hm := it hc18 hm
            refine wp_seq_k fun _ hK19 => ?_
            refine wp_region_list ?_
            refine op_val (ex_assign hf rfl) rfl hf rfl rfl fun a hf => ?_
            refine wpList_nil ?_
            refine nor_then (hK19 _ _ ?_)
            refine wp_ret ?_
            refine ret_block ?_
            refine ret_then ?_
            refine ret_then ?_
            refine ret_block ?_
            refine ret_then ?_
            obtain rfl := Option.some.inj hm
            exact post_ret Tryz.results35 hf (.tmp rfl .nil) ⟨rfl, hO.below⟩
          · have hm := ie hc18 hm
            refine wp_skip ?_
            refine nor_block ?_
            refine nor_then (hK20 _ _ ?_)
            refine wp_region_list ?_
            refine op_val (ex_move hf rfl) rfl hf rfl rfl fun a hf => ?_
            obtain ⟨i21, hi21, hm⟩ := ob hm
            refine op_val (ex_add hf rfl rfl hi21) rfl hf rfl rfl fun a hf => ?_
            refine op_val (ex_assign hf rfl) rfl hf rfl rfl fun a hf => ?_
            refine wpList_nil ?_
            refine nor_then ?_
            exact ⟨_, Nat.lt_succ_self _, i21, (hf.cons rfl (hf.cons rfl (hf.cons rfl hf.nil))), hO, hm⟩
        · have hm := ie hc9 hm
          refine wp_exit ?_
          refine exit_then ?_
          refine exit_then ?_
          refine exit_here ?_
          refine nor_then (hK22 _ _ ?_)
          refine wp_seq_k fun _ hK23 => ?_
          refine wp_region_list ?_
          refine op_val (ex_assign hf rfl) rfl hf rfl rfl fun a hf => ?_
          refine wpList_nil ?_
          refine nor_then (hK23 _ _ ?_)
          refine wp_ret ?_
          obtain rfl := Option.some.inj hm
          exact post_ret Tryz.results35 hf (.tmp rfl .nil) ⟨rfl, hO.below⟩
    · exact ⟨0, (hf.cons rfl (hf.cons rfl (hf.cons rfl hf.nil))), hO, hm⟩

set_option maxHeartbeats 1000000 in
theorem w_ref15_Same (x_a : api_Head) (x_b : api_Head) (R : Bool) (w0 : World) (hG : Glob w0) {x_a_p0 : Option Addr} {x_a_c0 : Nat} (hs0 : Sees w0 x_a_p0 (cells enc_api_Field x_a.Fields)) (hc0 : x_a.Fields.length ≤ x_a_c0) {x_b_p1 : Option Addr} {x_b_c1 : Nat} (hs1 : Sees w0 x_b_p1 (cells enc_api_Field x_b.Fields)) (hc1 : x_b.Fields.length ≤ x_b_c1) (hm : ref15_Same x_a x_b = some R) :
    Calls Tryz.prog 14 #[.agg #[int x_a.Kind, str x_a.Method, str x_a.Target, int x_a.Code, str x_a.Reason, int x_a.Minor, .slice x_a_p0 x_a.Fields.length x_a_c0], .agg #[int x_b.Kind, str x_b.Method, str x_b.Target, int x_b.Code, str x_b.Reason, int x_b.Minor, .slice x_b_p1 x_b.Fields.length x_b_c1]] w0 fun e w' => e = .returned (.bool R) ∧ Below w0.heap.size w0 w' := by
  rw [ref15_Same] at hm
  refine calls_enter (vs := [.agg #[int x_a.Kind, str x_a.Method, str x_a.Target, int x_a.Code, str x_a.Reason, int x_a.Minor, .slice x_a_p0 x_a.Fields.length x_a_c0], .agg #[int x_b.Kind, str x_b.Method, str x_b.Target, int x_b.Code, str x_b.Reason, int x_b.Minor, .slice x_b_p1 x_b.Fields.length x_b_c1]]) Tryz.func14 rfl Tryz.ntmps14 rfl fun a hf => ?_
  have hF : Away [] := away_nil
  have hO : Dk.Own w0 [] w0 [] := Dk.Own.refl w0
  have hO := hO.addShr hs0 (by simp [Res.shared])
  have hO := hO.addShr hs1 (by simp [Res.shared])
  refine wp_seq_k fun _ hK3 => ?_
  refine wp_region_list ?_
  refine op_box (v := .agg #[int x_a.Kind, str x_a.Method, str x_a.Target, int x_a.Code, str x_a.Reason, int x_a.Minor, .slice x_a_p0 x_a.Fields.length x_a_c0]) (cs := [int x_a.Kind, str x_a.Method, str x_a.Target, int x_a.Code, str x_a.Reason, int x_a.Minor, .slice x_a_p0 x_a.Fields.length x_a_c0]) rfl hf rfl rfl hO fun a b1 w hf hO => ?_
  refine op_box (v := .agg #[int x_b.Kind, str x_b.Method, str x_b.Target, int x_b.Code, str x_b.Reason, int x_b.Minor, .slice x_b_p1 x_b.Fields.length x_b_c1]) (cs := [int x_b.Kind, str x_b.Method, str x_b.Target, int x_b.Code, str x_b.Reason, int x_b.Minor, .slice x_b_p1 x_b.Fields.length x_b_c1]) rfl hf rfl rfl hO fun a b2 w hf hO => ?_
  refine op_val (ex_assign hf rfl) rfl hf rfl rfl fun a hf => ?_
  refine wpList_nil ?_
  refine nor_then (hK3 _ _ ?_)
  refine wp_seq_cut (fun a w => ∃ (t7 : Bool), Fits 15 [(4, .bool t7)] a ∧ Dk.Own w0 [] w [.blk b2 [int x_b.Kind, str x_b.Method, str x_b.Target, int x_b.Code, str x_b.Reason, int x_b.Minor, .slice x_b_p1 x_b.Fields.length x_b_c1] 25, .blk b1 [int x_a.Kind, str x_a.Method, str x_a.Target, int x_a.Code, str x_a.Reason, int x_a.Minor, .slice x_a_p0 x_a.Fields.length x_a_c0] 25, .shr x_b_p1 (cells enc_api_Field x_b.Fields), .shr x_a_p0 (cells enc_api_Field x_a.Fields)] ∧ ref15_Same_j1 t7 = some R) ?_ ?_
  · refine wp_region_list ?_
    refine op_val (ex_loadN (o := 0) (vs := [int x_a.Kind, str x_a.Method, str x_a.Target, int x_a.Code, str x_a.Reason, int x_a.Minor, .slice x_a_p0 x_a.Fields.length x_a_c0]) ag_25 sz_25 (hO.blkSees (i := 1) rfl) rfl rfl hf rfl) rfl hf rfl rfl fun a hf => ?_
    refine op_val (ex_loadN (o := 0) (vs := [int x_b.Kind, str x_b.Method, str x_b.Target, int x_b.Code, str x_b.Reason, int x_b.Minor, .slice x_b_p1 x_b.Fields.length x_b_c1]) ag_25 sz_25 (hO.blkSees (i := 0) rfl) rfl rfl hf rfl) rfl hf rfl rfl fun a hf => ?_
    obtain ⟨r4, hr4, hm⟩ := ob hm
    refine op_enter (ex_call c_34 hf (vs := [.agg #[int x_a.Kind, str x_a.Method, str x_a.Target, int x_a.Code, str x_a.Reason, int x_a.Minor, .slice x_a_p0 x_a.Fields.length x_a_c0], .agg #[int x_b.Kind, str x_b.Method, str x_b.Target, int x_b.Code, str x_b.Reason, int x_b.Minor, .slice x_b_p1 x_b.Fields.length x_b_c1]]) rfl) rfl hf rfl rfl (w_ref14_Same x_a x_b r4 _ (hG.own hF hO) (hO.sees (i := 3) rfl) hc0 (hO.sees (i := 2) rfl) hc1 hr4) ?_
    rintro e w' ⟨he, hb⟩
    refine ⟨_, he, fun a hf => ?_⟩
    have hO := hO.grow hb
    refine op_val (ex_move hf rfl) rfl hf rfl rfl fun a hf => ?_
    rcases bcase (r4) with hc5 | hc5
    · have hm := it hc5 hm
      refine op_guard rfl hf rfl rfl (hc5) ?_
      refine op_val (ex_field fa_25_6 hf rfl) rfl hf rfl rfl fun a hf => ?_
      refine op_guard rfl hf rfl rfl (hc5) ?_
      refine op_val (ex_load1 (o := 6) ag_23 (hO.blkSees (i := 1) rfl) rfl hf rfl) rfl hf rfl rfl fun a hf => ?_
      refine op_guard rfl hf rfl rfl (hc5) ?_
      refine op_val (ex_field fa_25_6 hf rfl) rfl hf rfl rfl fun a hf => ?_
      refine op_guard rfl hf rfl rfl (hc5) ?_
      refine op_val (ex_load1 (o := 6) ag_23 (hO.blkSees (i := 0) rfl) rfl hf rfl) rfl hf rfl rfl fun a hf => ?_
      refine op_guard rfl hf rfl rfl (hc5) ?_
      obtain ⟨r6, hr6, hm⟩ := ob hm
      refine op_enter (ex_call c_35 hf (vs := [.slice x_a_p0 x_a.Fields.length x_a_c0, .slice x_b_p1 x_b.Fields.length x_b_c1]) rfl) rfl hf rfl rfl (w_ref12_Same x_a.Fields x_b.Fields r6 _ (hG.own hF hO) (hO.sees (i := 3) rfl) hc0 (hO.sees (i := 2) rfl) hc1 hr6) ?_
      rintro e w' ⟨he, hb⟩
      refine ⟨_, he, fun a hf => ?_⟩
      have hO := hO.grow hb
      refine op_val (ex_pick_t hf rfl hc5 rfl) rfl hf rfl rfl fun a hf => ?_
      refine op_val (ex_assign hf rfl) rfl hf rfl rfl fun a hf => ?_
      refine wpList_nil ?_
      refine nor_then ?_
      exact ⟨r6, (hf.cons rfl hf.nil), hO, hm⟩
    · have hm := ie hc5 hm
      refine op_pass rfl hf rfl rfl (hc5) rfl rfl fun a hf => ?_
      refine op_pass rfl hf rfl rfl (hc5) rfl rfl fun a hf => ?_
      refine op_pass rfl hf rfl rfl (hc5) rfl rfl fun a hf => ?_
      refine op_pass rfl hf rfl rfl (hc5) rfl rfl fun a hf => ?_
      refine op_pass rfl hf rfl rfl (hc5) rfl rfl fun a hf => ?_
      refine op_val (ex_pick_f hf rfl hc5 rfl) rfl hf rfl rfl fun a hf => ?_
      refine op_val (ex_assign hf rfl) rfl hf rfl rfl fun a hf => ?_
      refine wpList_nil ?_
      refine nor_then ?_
      exact ⟨false, (hf.cons rfl hf.nil), hO, hm⟩
  · rintro a w ⟨t7, hf, hO, hm⟩
    rw [ref15_Same_j1] at hm
    refine wp_ret ?_
    obtain rfl := Option.some.inj hm
    exact post_ret Tryz.results14 hf (.tmp rfl .nil) ⟨rfl, hO.below⟩

end Go.Proofs
