/-
  Walks, written by a program (wip/gen): what its model says, the function returns; what was there before is as it was.
-/
import Derived.Test.YtpingffipghifaaDoorLib
set_option linter.unusedVariables false
set_option linter.unusedSimpArgs false
set_option maxRecDepth 100000
namespace Go.Proofs
open Go.Dk Go.Dm Go.RowKit

set_option maxHeartbeats 1000000 in
theorem w_scan_New (x_s : Str) (R : scan_Scanner) (w0 : World) (hG : Glob w0) (hm : scan_New x_s = some R) :
    Calls Tryd.prog 46 #[str x_s] w0 fun e w' => ∃ (b0 : Nat), e = .returned (ptr b0 0) ∧ Dk.Own w0 [] w' [.blk b0 [str R.f_s, int R.f_at] 79] := by
  rw [scan_New] at hm
  refine calls_enter (vs := [str x_s]) Tryd.func46 rfl Tryd.ntmps46 rfl fun a hf => ?_
  have hF : Away [] := away_nil
  have hO : Dk.Own w0 [] w0 [] := Dk.Own.refl w0
  refine wp_seq_k fun _ hK1 => ?_
  refine wp_region_list ?_
  refine op_val (ex_assign hf rfl) rfl hf rfl rfl fun a hf => ?_
  refine wpList_nil ?_
  refine nor_then (hK1 _ _ ?_)
  refine wp_seq_k fun _ hK3 => ?_
  refine wp_region_list ?_
  refine op_val (ex_move hf rfl) rfl hf rfl rfl fun a hf => ?_
  refine op_val (ex_build (vs := [(0, str x_s)]) (v := .agg #[str x_s, int 0]) hf rfl (by kernel_rfl)) rfl hf rfl rfl fun a hf => ?_
  refine op_box (v := .agg #[str x_s, int 0]) (cs := [str x_s, int 0]) rfl hf rfl rfl hO fun a b2 w hf hO => ?_
  refine op_val (ex_assign hf rfl) rfl hf rfl rfl fun a hf => ?_
  refine wpList_nil ?_
  refine nor_then (hK3 _ _ ?_)
  refine wp_ret ?_
  obtain rfl := Option.some.inj hm
  exact post_ret Tryd.results46 hf (.tmp rfl .nil) ⟨b2, rfl, hO⟩

set_option maxHeartbeats 1000000 in
theorem w_scan_Scanner_At (x_c : scan_Scanner) (R : Int) (w0 : World) (hG : Glob w0) {x_c_b0 : Nat} (hs0 : Sees w0 (some ⟨x_c_b0, 0, none⟩) [str x_c.f_s, int x_c.f_at]) (hm : scan_Scanner_At x_c = some R) :
    Calls Tryd.prog 84 #[ptr x_c_b0 0] w0 fun e w' => e = .returned (int R) ∧ Below w0.heap.size w0 w' := by
  rw [scan_Scanner_At] at hm
  refine calls_enter (vs := [ptr x_c_b0 0]) Tryd.func84 rfl Tryd.ntmps84 rfl fun a hf => ?_
  have hF : Away [] := away_nil
  have hO : Dk.Own w0 [] w0 [] := Dk.Own.refl w0
  have hO := hO.addShr hs0 (by simp [Res.shared])
  refine wp_seq_k fun _ hK1 => ?_
  refine wp_region_list ?_
  refine op_val (ex_assign hf rfl) rfl hf rfl rfl fun a hf => ?_
  refine wpList_nil ?_
  refine nor_then (hK1 _ _ ?_)
  refine wp_seq_k fun _ hK3 => ?_
  refine wp_seq_k fun _ hK2 => ?_
  refine wp_region_list ?_
  refine op_val (ex_move hf rfl) rfl hf rfl rfl fun a hf => ?_
  refine op_val (ex_eql_pn Tryd.underlying65 hf rfl rfl) rfl hf rfl rfl fun a hf => ?_
  refine wpList_nil ?_
  refine nor_then (hK2 _ _ ?_)
  refine wp_cond_f hf rfl rfl ?_
  refine wp_skip ?_
  refine nor_then (hK3 _ _ ?_)
  refine wp_seq_k fun _ hK4 => ?_
  refine wp_region_list ?_
  refine op_val (ex_move hf rfl) rfl hf rfl rfl fun a hf => ?_
  refine op_val (ex_nilCheck hf rfl) rfl hf rfl rfl fun a hf => ?_
  refine op_val (ex_field fa_79_1 hf rfl) rfl hf rfl rfl fun a hf => ?_
  refine op_val (ex_load1 (o := 1) ag_3 (hO.sees (i := 0) rfl) rfl hf rfl) rfl hf rfl rfl fun a hf => ?_
  refine op_val (ex_assign hf rfl) rfl hf rfl rfl fun a hf => ?_
  refine wpList_nil ?_
  refine nor_then (hK4 _ _ ?_)
  refine wp_ret ?_
  obtain rfl := Option.some.inj hm
  exact post_ret Tryd.results84 hf (.tmp rfl .nil) ⟨rfl, hO.below⟩

set_option maxHeartbeats 1000000 in
theorem w_scan_Scanner_Rest (x_c : scan_Scanner) (R : Str) (w0 : World) (hG : Glob w0) {x_c_b0 : Nat} (hs0 : Sees w0 (some ⟨x_c_b0, 0, none⟩) [str x_c.f_s, int x_c.f_at]) (hm : scan_Scanner_Rest x_c = some R) :
    Calls Tryd.prog 85 #[ptr x_c_b0 0] w0 fun e w' => e = .returned (str R) ∧ Below w0.heap.size w0 w' := by
  rw [scan_Scanner_Rest] at hm
  refine calls_enter (vs := [ptr x_c_b0 0]) Tryd.func85 rfl Tryd.ntmps85 rfl fun a hf => ?_
  have hF : Away [] := away_nil
  have hO : Dk.Own w0 [] w0 [] := Dk.Own.refl w0
  have hO := hO.addShr hs0 (by simp [Res.shared])
  refine wp_seq_k fun _ hK1 => ?_
  refine wp_region_list ?_
  refine op_val (ex_assign hf rfl) rfl hf rfl rfl fun a hf => ?_
  refine wpList_nil ?_
  refine nor_then (hK1 _ _ ?_)
  refine wp_seq_k fun _ hK3 => ?_
  refine wp_seq_k fun _ hK2 => ?_
  refine wp_region_list ?_
  refine op_val (ex_move hf rfl) rfl hf rfl rfl fun a hf => ?_
  refine op_val (ex_eql_pn Tryd.underlying65 hf rfl rfl) rfl hf rfl rfl fun a hf => ?_
  refine wpList_nil ?_
  refine nor_then (hK2 _ _ ?_)
  refine wp_cond_f hf rfl rfl ?_
  refine wp_skip ?_
  refine nor_then (hK3 _ _ ?_)
  refine wp_seq_k fun _ hK5 => ?_
  refine wp_quiet (by kernel_rfl) (by kernel_rfl) hO ?_
  refine q_val (fun w hO => ex_move hf rfl) rfl hf rfl rfl fun a hf => ?_
  refine q_val (fun w hO => ex_nilCheck hf rfl) rfl hf rfl rfl fun a hf => ?_
  refine q_val (fun w hO => ex_field fa_79_0 hf rfl) rfl hf rfl rfl fun a hf => ?_
  refine q_val (fun w hO => ex_load1 (o := 0) ag_9 (hO.sees (i := 0) rfl) rfl hf rfl) rfl hf rfl rfl fun a hf => ?_
  refine q_val (fun w hO => ex_move hf rfl) rfl hf rfl rfl fun a hf => ?_
  refine q_val (fun w hO => ex_nilCheck hf rfl) rfl hf rfl rfl fun a hf => ?_
  refine q_val (fun w hO => ex_field fa_79_1 hf rfl) rfl hf rfl rfl fun a hf => ?_
  refine q_val (fun w hO => ex_load1 (o := 1) ag_3 (hO.sees (i := 0) rfl) rfl hf rfl) rfl hf rfl rfl fun a hf => ?_
  obtain ⟨s4, hs4, hm⟩ := ob hm
  refine q_val (fun w hO => ex_from_s (l := x_c.f_s) Tryd.underlying9 hf rfl rfl hs4) rfl hf rfl rfl fun a hf => ?_
  refine q_val (fun w hO => ex_assign hf rfl) rfl hf rfl rfl fun a hf => ?_
  refine wpQuiet_nil ?_
  intro w hO
  refine nor_then (hK5 _ _ ?_)
  refine wp_ret ?_
  obtain rfl := Option.some.inj hm
  exact post_ret Tryd.results85 hf (.tmp rfl .nil) ⟨rfl, hO.below⟩

set_option maxHeartbeats 1000000 in
theorem w_scan_Scanner_End (x_c : scan_Scanner) (R : Bool) (w0 : World) (hG : Glob w0) {x_c_b0 : Nat} (hs0 : Sees w0 (some ⟨x_c_b0, 0, none⟩) [str x_c.f_s, int x_c.f_at]) (hm : scan_Scanner_End x_c = some R) :
    Calls Tryd.prog 52 #[ptr x_c_b0 0] w0 fun e w' => e = .returned (.bool R) ∧ Below w0.heap.size w0 w' := by
  rw [scan_Scanner_End] at hm
  refine calls_enter (vs := [ptr x_c_b0 0]) Tryd.func52 rfl Tryd.ntmps52 rfl fun a hf => ?_
  have hF : Away [] := away_nil
  have hO : Dk.Own w0 [] w0 [] := Dk.Own.refl w0
  have hO := hO.addShr hs0 (by simp [Res.shared])
  refine wp_seq_k fun _ hK1 => ?_
  refine wp_region_list ?_
  refine op_val (ex_assign hf rfl) rfl hf rfl rfl fun a hf => ?_
  refine wpList_nil ?_
  refine nor_then (hK1 _ _ ?_)
  refine wp_seq_k fun _ hK3 => ?_
  refine wp_region_list ?_
  refine op_val (ex_move hf rfl) rfl hf rfl rfl fun a hf => ?_
  obtain ⟨r2, hr2, hm⟩ := ob hm
  refine op_enter (ex_call c_85 hf (vs := [ptr x_c_b0 0]) rfl) rfl hf rfl rfl (w_scan_Scanner_Rest x_c r2 _ (hG.own hF hO) (hO.sees (i := 0) rfl) hr2) ?_
  rintro e w' ⟨he, hb⟩
  refine ⟨_, he, fun a hf => ?_⟩
  have hO := hO.grow hb
  refine op_val (ex_eql_s (l := r2) (m := []) hf rfl rfl) rfl hf rfl rfl fun a hf => ?_
  refine op_val (ex_assign hf rfl) rfl hf rfl rfl fun a hf => ?_
  refine wpList_nil ?_
  refine nor_then (hK3 _ _ ?_)
  refine wp_ret ?_
  obtain rfl := Option.some.inj hm
  exact post_ret Tryd.results52 hf (.tmp rfl .nil) ⟨rfl, hO.below⟩

set_option maxHeartbeats 1000000 in
theorem w_scan_Scanner_Peek (x_c : scan_Scanner) (R : UInt8 × Bool) (w0 : World) (hG : Glob w0) {x_c_b0 : Nat} (hs0 : Sees w0 (some ⟨x_c_b0, 0, none⟩) [str x_c.f_s, int x_c.f_at]) (hm : scan_Scanner_Peek x_c = some R) :
    Calls Tryd.prog 83 #[ptr x_c_b0 0] w0 fun e w' => e = .returned (.tuple #[byte R.1, .bool R.2]) ∧ Below w0.heap.size w0 w' := by
  rw [scan_Scanner_Peek] at hm
  refine calls_enter (vs := [ptr x_c_b0 0]) Tryd.func83 rfl Tryd.ntmps83 rfl fun a hf => ?_
  have hF : Away [] := away_nil
  have hO : Dk.Own w0 [] w0 [] := Dk.Own.refl w0
  have hO := hO.addShr hs0 (by simp [Res.shared])
  refine wp_seq_k fun _ hK1 => ?_
  refine wp_region_list ?_
  refine op_val (ex_assign hf rfl) rfl hf rfl rfl fun a hf => ?_
  refine op_val (ex_assign hf rfl) rfl hf rfl rfl fun a hf => ?_
  refine wpList_nil ?_
  refine nor_then (hK1 _ _ ?_)
  refine wp_seq_k fun _ hK6 => ?_
  refine wp_seq_k fun _ hK3 => ?_
  refine wp_region_list ?_
  refine op_val (ex_move hf rfl) rfl hf rfl rfl fun a hf => ?_
  obtain ⟨r2, hr2, hm⟩ := ob hm
  refine op_enter (ex_call c_52 hf (vs := [ptr x_c_b0 0]) rfl) rfl hf rfl rfl (w_scan_Scanner_End x_c r2 _ (hG.own hF hO) (hO.sees (i := 0) rfl) hr2) ?_
  rintro e w' ⟨he, hb⟩
  refine ⟨_, he, fun a hf => ?_⟩
  have hO := hO.grow hb
  refine wpList_nil ?_
  refine nor_then (hK3 _ _ ?_)
  refine wp_cond_cut hf rfl (fun hc4 => ?_) (fun hc4 => ?_)
  · have hm := it hc4 hm
    refine wp_seq_k fun _ hK5 => ?_
    refine wp_region_list ?_
    refine op_val (ex_assign hf rfl) rfl hf rfl rfl fun a hf => ?_
    refine op_val (ex_assign hf rfl) rfl hf rfl rfl fun a hf => ?_
    refine wpList_nil ?_
    refine nor_then (hK5 _ _ ?_)
    refine wp_ret ?_
    refine ret_then ?_
    obtain rfl := Option.some.inj hm
    exact post_ret Tryd.results83 hf (.tmp rfl (.tmp rfl .nil)) ⟨rfl, hO.below⟩
  · have hm := ie hc4 hm
    refine wp_skip ?_
    refine nor_then (hK6 _ _ ?_)
    refine wp_seq_k fun _ hK8 => ?_
    refine wp_quiet (by kernel_rfl) (by kernel_rfl) hO ?_
    refine q_val (fun w hO => ex_move hf rfl) rfl hf rfl rfl fun a hf => ?_
    refine q_val (fun w hO => ex_nilCheck hf rfl) rfl hf rfl rfl fun a hf => ?_
    refine q_val (fun w hO => ex_field fa_79_0 hf rfl) rfl hf rfl rfl fun a hf => ?_
    refine q_val (fun w hO => ex_load1 (o := 0) ag_9 (hO.sees (i := 0) rfl) rfl hf rfl) rfl hf rfl rfl fun a hf => ?_
    refine q_val (fun w hO => ex_move hf rfl) rfl hf rfl rfl fun a hf => ?_
    refine q_val (fun w hO => ex_nilCheck hf rfl) rfl hf rfl rfl fun a hf => ?_
    refine q_val (fun w hO => ex_field fa_79_1 hf rfl) rfl hf rfl rfl fun a hf => ?_
    refine q_val (fun w hO => ex_load1 (o := 1) ag_3 (hO.sees (i := 0) rfl) rfl hf rfl) rfl hf rfl rfl fun a hf => ?_
    obtain ⟨b7, hb7, hm⟩ := ob hm
    refine q_val (fun w hO => ex_index (l := x_c.f_s) Tryd.underlying9 hf rfl rfl hb7) rfl hf rfl rfl fun a hf => ?_
    refine q_val (fun w hO => ex_assign hf rfl) rfl hf rfl rfl fun a hf => ?_
    refine q_val (fun w hO => ex_assign hf rfl) rfl hf rfl rfl fun a hf => ?_
    refine wpQuiet_nil ?_
    intro w hO
    refine nor_then (hK8 _ _ ?_)
    refine wp_ret ?_
    obtain rfl := Option.some.inj hm
    exact post_ret Tryd.results83 hf (.tmp rfl (.tmp rfl .nil)) ⟨rfl, hO.below⟩

set_option maxHeartbeats 1000000 in
theorem w_scan_Scanner_While (x_c : scan_Scanner) (x_is : UInt8 → Option Bool) (R : Str × scan_Scanner) (w0 : World) (hG : Glob w0) {x_c_b0 : Nat} {F : List Nat} (hF : Away F) (hO : Dk.Own w0 F w0 [.blk x_c_b0 [str x_c.f_s, int x_c.f_at] 79]) {x_is_f : Nat} {x_is_p x_is_c : Array Value} (x_is_k : Callable Tryd.prog x_is_f) (x_is_h : ∀ (y0 : UInt8) (r : Bool) (w : World), Glob w → x_is y0 = some r → Calls Tryd.prog x_is_f (x_is_p ++ [byte y0].toArray ++ x_is_c) w fun e w' => e = .returned (.bool r) ∧ Below w.heap.size w w') (hm : scan_Scanner_While x_c x_is = some R) :
    Calls Tryd.prog 50 #[ptr x_c_b0 0, .func (.func x_is_f) x_is_p x_is_c] w0 fun e w' => e = .returned (str R.1) ∧ Dk.Own w0 F w' [.blk x_c_b0 [str R.2.f_s, int R.2.f_at] 79] := by
  rw [scan_Scanner_While] at hm
  refine calls_enter (vs := [ptr x_c_b0 0, .func (.func x_is_f) x_is_p x_is_c]) Tryd.func50 rfl Tryd.ntmps50 rfl fun a hf => ?_
  refine wp_seq_k fun _ hK1 => ?_
  refine wp_region_list ?_
  refine op_val (ex_assign hf rfl) rfl hf rfl rfl fun a hf => ?_
  refine wpList_nil ?_
  refine nor_then (hK1 _ _ ?_)
  refine wp_seq_k fun _ hK3 => ?_
  refine wp_region_list ?_
  refine op_val (ex_move hf rfl) rfl hf rfl rfl fun a hf => ?_
  obtain ⟨r2, hr2, hm⟩ := ob hm
  refine op_enter (ex_call c_84 hf (vs := [ptr x_c_b0 0]) rfl) rfl hf rfl rfl (w_scan_Scanner_At x_c r2 _ (hG.own hF hO) (hO.blkSees (i := 0) rfl) hr2) ?_
  rintro e w' ⟨he, hb⟩
  refine ⟨_, he, fun a hf => ?_⟩
  have hO := hO.grow hb
  refine op_val (ex_assign hf rfl) rfl hf rfl rfl fun a hf => ?_
  refine wpList_nil ?_
  refine nor_then (hK3 _ _ ?_)
  refine wp_seq_cut (fun a w => ∃ (s14 : Str) (i15 : Int), Fits 42 [(0, ptr x_c_b0 0), (5, int r2)] a ∧ Dk.Own w0 F w [.blk x_c_b0 [str s14, int i15] 79] ∧ scan_Scanner_While_j3 r2 s14 i15 = some R) ?_ ?_
  · refine wp_block ?_
    refine wp_loop_n (fun k a w => ∃ (s4 : Str) (i5 : Int), Fits 42 [(0, ptr x_c_b0 0), (1, .func (.func x_is_f) x_is_p x_is_c), (5, int r2)] a ∧ Dk.Own w0 F w [.blk x_c_b0 [str s4, int i5] 79] ∧ scan_Scanner_While_L1 x_is r2 k s4 i5 = some R) ?_ fuel ?_
    · rintro n1 a w ⟨s4, i5, hf, hO, hm⟩
      obtain _ | n1 := n1
      · rw [scan_Scanner_While_L1] at hm
        cases hm
      · rw [scan_Scanner_While_L1] at hm
        refine wp_block ?_
        refine wp_seq_k fun _ hK7 => ?_
        refine wp_region_list ?_
        refine op_val (ex_move hf rfl) rfl hf rfl rfl fun a hf => ?_
        obtain ⟨r6, hr6, hm⟩ := ob hm
        refine op_enter (ex_call c_83 hf (vs := [ptr x_c_b0 0]) rfl) rfl hf rfl rfl (w_scan_Scanner_Peek (⟨s4, i5⟩ : scan_Scanner) r6 _ (hG.own hF hO) (hO.blkSees (i := 0) rfl) hr6) ?_
        rintro e w' ⟨he, hb⟩
        refine ⟨_, he, fun a hf => ?_⟩
        have hO := hO.grow hb
        refine op_val (ex_move hf rfl) rfl hf rfl rfl fun a hf => ?_
        refine op_val (ex_extract hf rfl rfl) rfl hf rfl rfl fun a hf => ?_
        refine op_val (ex_extract hf rfl rfl) rfl hf rfl rfl fun a hf => ?_
        refine op_val (ex_assign hf rfl) rfl hf rfl rfl fun a hf => ?_
        refine op_val (ex_assign hf rfl) rfl hf rfl rfl fun a hf => ?_
        refine wpList_nil ?_
        refine nor_then (hK7 _ _ ?_)
        refine wp_seq_k fun _ hK12 => ?_
        refine wp_seq_cut (fun a w => ∃ (t10 : Bool), Fits 42 [(0, ptr x_c_b0 0), (1, .func (.func x_is_f) x_is_p x_is_c), (5, int r2), (22, .bool t10)] a ∧ Dk.Own w0 F w [.blk x_c_b0 [str s4, int i5] 79] ∧ scan_Scanner_While_j2 (scan_Scanner_While_L1 x_is r2 n1) r2 s4 i5 t10 = some R) ?_ ?_
        · refine wp_region_list ?_
          refine op_val (ex_move hf rfl) rfl hf rfl rfl fun a hf => ?_
          refine op_val (ex_not hf rfl) rfl hf rfl rfl fun a hf => ?_
          refine op_val (ex_move hf rfl) rfl hf rfl rfl fun a hf => ?_
          rcases bcase (!r6.2) with hc8 | hc8
          · have hm := it hc8 hm
            refine op_pass rfl hf rfl rfl (hc8) rfl rfl fun a hf => ?_
            refine op_pass rfl hf rfl rfl (hc8) rfl rfl fun a hf => ?_
            refine op_pass rfl hf rfl rfl (hc8) rfl rfl fun a hf => ?_
            refine op_pass rfl hf rfl rfl (hc8) rfl rfl fun a hf => ?_
            refine op_val (ex_pick_t hf rfl hc8 rfl) rfl hf rfl rfl fun a hf => ?_
            refine wpList_nil ?_
            refine nor_then ?_
            exact ⟨true, (hf.cons rfl (hf.cons rfl (hf.cons rfl (hf.cons rfl hf.nil)))), hO, hm⟩
          · have hm := ie hc8 hm
            refine op_guard rfl hf rfl rfl (hc8) ?_
            refine op_val (ex_move hf rfl) rfl hf rfl rfl fun a hf => ?_
            refine op_guard rfl hf rfl rfl (hc8) ?_
            refine op_val (ex_move hf rfl) rfl hf rfl rfl fun a hf => ?_
            refine op_guard rfl hf rfl rfl (hc8) ?_
            obtain ⟨r9, hr9, hm⟩ := ob hm
            refine op_enter (ex_callv x_is_k hf rfl (vs := [byte r6.1]) rfl) rfl hf rfl rfl (x_is_h r6.1 r9 _ (hG.own hF hO) hr9) ?_
            rintro e w' ⟨he, hb⟩
            refine ⟨_, he, fun a hf => ?_⟩
            have hO := hO.grow hb
            refine op_guard rfl hf rfl rfl (hc8) ?_
            refine op_val (ex_not hf rfl) rfl hf rfl rfl fun a hf => ?_
            refine op_val (ex_pick_f hf rfl hc8 rfl) rfl hf rfl rfl fun a hf => ?_
            refine wpList_nil ?_
            refine nor_then ?_
            exact ⟨!r9, (hf.cons rfl (hf.cons rfl (hf.cons rfl (hf.cons rfl hf.nil)))), hO, hm⟩
        · rintro a w ⟨t10, hf, hO, hm⟩
          rw [scan_Scanner_While_j2] at hm
          refine wp_cond_cut hf rfl (fun hc11 => ?_) (fun hc11 => ?_)
          · have hm := it hc11 hm
            refine wp_exit ?_
            refine exit_then ?_
            refine exit_past rfl ?_
            refine exit_then ?_
            refine exit_here ?_
            refine nor_then ?_
            exact ⟨s4, i5, (hf.cons rfl (hf.cons rfl hf.nil)), hO, hm⟩
          · have hm := ie hc11 hm
            refine wp_skip ?_
            refine nor_then (hK12 _ _ ?_)
            refine wp_region_list ?_
            refine op_val (ex_move hf rfl) rfl hf rfl rfl fun a hf => ?_
            refine op_val (ex_nilCheck hf rfl) rfl hf rfl rfl fun a hf => ?_
            refine op_val (ex_field fa_79_1 hf rfl) rfl hf rfl rfl fun a hf => ?_
            refine op_val (ex_load1 (o := 1) ag_3 (hO.blkSees (i := 0) rfl) rfl hf rfl) rfl hf rfl rfl fun a hf => ?_
            obtain ⟨i13, hi13, hm⟩ := ob hm
            refine op_val (ex_add hf rfl rfl hi13) rfl hf rfl rfl fun a hf => ?_
            refine op_val (ex_nilCheck hf rfl) rfl hf rfl rfl fun a hf => ?_
            refine op_val (ex_field fa_79_1 hf rfl) rfl hf rfl rfl fun a hf => ?_
            refine op_store1 (i := 0) (o := 1) (v := int i13) sz_3 rfl rfl rfl rfl hf rfl rfl hO fun w hO => ?_
            refine wpList_nil ?_
            refine nor_block ?_
            refine nor_then ?_
            exact ⟨_, Nat.lt_succ_self _, s4, i13, (hf.cons rfl (hf.cons rfl (hf.cons rfl hf.nil))), hO, hm⟩
    · exact ⟨x_c.f_s, x_c.f_at, (hf.cons rfl (hf.cons rfl (hf.cons rfl hf.nil))), hO, hm⟩
  · rintro a w ⟨s14, i15, hf, hO, hm⟩
    rw [scan_Scanner_While_j3] at hm
    refine wp_seq_k fun _ hK17 => ?_
    refine wp_seq_k fun _ hK16 => ?_
    refine wp_region_list ?_
    refine op_val (ex_move hf rfl) rfl hf rfl rfl fun a hf => ?_
    refine op_val (ex_eql_pn Tryd.underlying65 hf rfl rfl) rfl hf rfl rfl fun a hf => ?_
    refine wpList_nil ?_
    refine nor_then (hK16 _ _ ?_)
    refine wp_cond_f hf rfl rfl ?_
    refine wp_skip ?_
    refine nor_then (hK17 _ _ ?_)
    refine wp_seq_k fun _ hK19 => ?_
    refine wp_quiet (by kernel_rfl) (by kernel_rfl) hO ?_
    refine q_val (fun w hO => ex_move hf rfl) rfl hf rfl rfl fun a hf => ?_
    refine q_val (fun w hO => ex_nilCheck hf rfl) rfl hf rfl rfl fun a hf => ?_
    refine q_val (fun w hO => ex_field fa_79_0 hf rfl) rfl hf rfl rfl fun a hf => ?_
    refine q_val (fun w hO => ex_load1 (o := 0) ag_9 (hO.blkSees (i := 0) rfl) rfl hf rfl) rfl hf rfl rfl fun a hf => ?_
    refine q_val (fun w hO => ex_move hf rfl) rfl hf rfl rfl fun a hf => ?_
    refine q_val (fun w hO => ex_move hf rfl) rfl hf rfl rfl fun a hf => ?_
    refine q_val (fun w hO => ex_nilCheck hf rfl) rfl hf rfl rfl fun a hf => ?_
    refine q_val (fun w hO => ex_field fa_79_1 hf rfl) rfl hf rfl rfl fun a hf => ?_
    refine q_val (fun w hO => ex_load1 (o := 1) ag_3 (hO.blkSees (i := 0) rfl) rfl hf rfl) rfl hf rfl rfl fun a hf => ?_
    obtain ⟨s18, hs18, hm⟩ := ob hm
    refine q_val (fun w hO => ex_sub_s (l := s14) Tryd.underlying9 hf rfl rfl rfl hs18) rfl hf rfl rfl fun a hf => ?_
    refine q_val (fun w hO => ex_assign hf rfl) rfl hf rfl rfl fun a hf => ?_
    refine wpQuiet_nil ?_
    intro w hO
    refine nor_then (hK19 _ _ ?_)
    refine wp_ret ?_
    obtain rfl := Option.some.inj hm
    exact post_ret Tryd.results50 hf (.tmp rfl .nil) ⟨rfl, hO⟩

set_option maxHeartbeats 1000000 in
theorem w_octet_Lower (x_b : UInt8) (R : UInt8) (w0 : World) (hG : Glob w0) (hm : octet_Lower x_b = some R) :
    Calls Tryd.prog 71 #[byte x_b] w0 fun e w' => e = .returned (byte R) ∧ Below w0.heap.size w0 w' := by
  rw [octet_Lower] at hm
  refine calls_enter (vs := [byte x_b]) Tryd.func71 rfl Tryd.ntmps71 rfl fun a hf => ?_
  have hF : Away [] := away_nil
  have hO : Dk.Own w0 [] w0 [] := Dk.Own.refl w0
  refine wp_seq_k fun _ hK1 => ?_
  refine wp_region_list ?_
  refine op_val (ex_assign hf rfl) rfl hf rfl rfl fun a hf => ?_
  refine wpList_nil ?_
  refine nor_then (hK1 _ _ ?_)
  refine wp_seq_k fun _ hK6 => ?_
  refine wp_seq_cut (fun a w => ∃ (t3 : Bool), Fits 12 [(0, byte x_b), (8, .bool t3)] a ∧ Dk.Own w0 [] w [] ∧ octet_Lower_j1 x_b t3 = some R) ?_ ?_
  · refine wp_region_list ?_
    refine op_val (ex_move hf rfl) rfl hf rfl rfl fun a hf => ?_
    refine op_val (ex_geq_b (b := x_b) (c := 65) hf rfl rfl) rfl hf rfl rfl fun a hf => ?_
    refine op_val (ex_move hf rfl) rfl hf rfl rfl fun a hf => ?_
    rcases bcase (decide (65 ≤ x_b)) with hc2 | hc2
    · have hm := it hc2 hm
      refine op_guard rfl hf rfl rfl (hc2) ?_
      refine op_val (ex_move hf rfl) rfl hf rfl rfl fun a hf => ?_
      refine op_guard rfl hf rfl rfl (hc2) ?_
      refine op_val (ex_leq_b (b := x_b) (c := 90) hf rfl rfl) rfl hf rfl rfl fun a hf => ?_
      refine op_val (ex_pick_t hf rfl hc2 rfl) rfl hf rfl rfl fun a hf => ?_
      refine wpList_nil ?_
      refine nor_then ?_
      exact ⟨decide (x_b ≤ 90), (hf.cons rfl (hf.cons rfl hf.nil)), hO, hm⟩
    · have hm := ie hc2 hm
      refine op_pass rfl hf rfl rfl (hc2) rfl rfl fun a hf => ?_
      refine op_pass rfl hf rfl rfl (hc2) rfl rfl fun a hf => ?_
      refine op_val (ex_pick_f hf rfl hc2 rfl) rfl hf rfl rfl fun a hf => ?_
      refine wpList_nil ?_
      refine nor_then ?_
      exact ⟨false, (hf.cons rfl (hf.cons rfl hf.nil)), hO, hm⟩
  · rintro a w ⟨t3, hf, hO, hm⟩
    rw [octet_Lower_j1] at hm
    refine wp_cond_cut hf rfl (fun hc4 => ?_) (fun hc4 => ?_)
    · have hm := it hc4 hm
      refine wp_seq_k fun _ hK5 => ?_
      refine wp_region_list ?_
      refine op_val (ex_move hf rfl) rfl hf rfl rfl fun a hf => ?_
      refine op_val (ex_add_b (b := x_b) (c := 32) hf rfl rfl) rfl hf rfl rfl fun a hf => ?_
      refine op_val (ex_assign hf rfl) rfl hf rfl rfl fun a hf => ?_
      refine wpList_nil ?_
      refine nor_then (hK5 _ _ ?_)
      refine wp_ret ?_
      refine ret_then ?_
      obtain rfl := Option.some.inj hm
      exact post_ret Tryd.results71 hf (.tmp rfl .nil) ⟨rfl, hO.below⟩
    · have hm := ie hc4 hm
      refine wp_skip ?_
      refine nor_then (hK6 _ _ ?_)
      refine wp_seq_k fun _ hK7 => ?_
      refine wp_region_list ?_
      refine op_val (ex_move hf rfl) rfl hf rfl rfl fun a hf => ?_
      refine op_val (ex_assign hf rfl) rfl hf rfl rfl fun a hf => ?_
      refine wpList_nil ?_
      refine nor_then (hK7 _ _ ?_)
      refine wp_ret ?_
      obtain rfl := Option.some.inj hm
      exact post_ret Tryd.results71 hf (.tmp rfl .nil) ⟨rfl, hO.below⟩

set_option maxHeartbeats 1000000 in
theorem w_octet_IsAlpha (x_b : UInt8) (R : Bool) (w0 : World) (hG : Glob w0) (hm : octet_IsAlpha x_b = some R) :
    Calls Tryd.prog 115 #[byte x_b] w0 fun e w' => e = .returned (.bool R) ∧ Below w0.heap.size w0 w' := by
  rw [octet_IsAlpha] at hm
  refine calls_enter (vs := [byte x_b]) Tryd.func115 rfl Tryd.ntmps115 rfl fun a hf => ?_
  have hF : Away [] := away_nil
  have hO : Dk.Own w0 [] w0 [] := Dk.Own.refl w0
  refine wp_seq_k fun _ hK1 => ?_
  refine wp_region_list ?_
  refine op_val (ex_assign hf rfl) rfl hf rfl rfl fun a hf => ?_
  refine wpList_nil ?_
  refine nor_then (hK1 _ _ ?_)
  refine wp_seq_cut (fun a w => ∃ (t5 : Bool), Fits 11 [(2, .bool t5)] a ∧ Dk.Own w0 [] w [] ∧ octet_IsAlpha_j1 t5 = some R) ?_ ?_
  · refine wp_region_list ?_
    refine op_val (ex_move hf rfl) rfl hf rfl rfl fun a hf => ?_
    obtain ⟨r2, hr2, hm⟩ := ob hm
    refine op_enter (ex_call c_71 hf (vs := [byte x_b]) rfl) rfl hf rfl rfl (w_octet_Lower x_b r2 _ (hG.own hF hO) hr2) ?_
    rintro e w' ⟨he, hb⟩
    refine ⟨_, he, fun a hf => ?_⟩
    have hO := hO.grow hb
    refine op_val (ex_geq_b (b := r2) (c := 97) hf rfl rfl) rfl hf rfl rfl fun a hf => ?_
    refine op_val (ex_move hf rfl) rfl hf rfl rfl fun a hf => ?_
    rcases bcase (decide (97 ≤ r2)) with hc3 | hc3
    · have hm := it hc3 hm
      refine op_guard rfl hf rfl rfl (hc3) ?_
      refine op_val (ex_move hf rfl) rfl hf rfl rfl fun a hf => ?_
      refine op_guard rfl hf rfl rfl (hc3) ?_
      obtain ⟨r4, hr4, hm⟩ := ob hm
      refine op_enter (ex_call c_71 hf (vs := [byte x_b]) rfl) rfl hf rfl rfl (w_octet_Lower x_b r4 _ (hG.own hF hO) hr4) ?_
      rintro e w' ⟨he, hb⟩
      refine ⟨_, he, fun a hf => ?_⟩
      have hO := hO.grow hb
      refine op_guard rfl hf rfl rfl (hc3) ?_
      refine op_val (ex_leq_b (b := r4) (c := 122) hf rfl rfl) rfl hf rfl rfl fun a hf => ?_
      refine op_val (ex_pick_t hf rfl hc3 rfl) rfl hf rfl rfl fun a hf => ?_
      refine op_val (ex_assign hf rfl) rfl hf rfl rfl fun a hf => ?_
      refine wpList_nil ?_
      refine nor_then ?_
      exact ⟨decide (r4 ≤ 122), (hf.cons rfl hf.nil), hO, hm⟩
    · have hm := ie hc3 hm
      refine op_pass rfl hf rfl rfl (hc3) rfl rfl fun a hf => ?_
      refine op_pass rfl hf rfl rfl (hc3) rfl rfl fun a hf => ?_
      refine op_pass rfl hf rfl rfl (hc3) rfl rfl fun a hf => ?_
      refine op_val (ex_pick_f hf rfl hc3 rfl) rfl hf rfl rfl fun a hf => ?_
      refine op_val (ex_assign hf rfl) rfl hf rfl rfl fun a hf => ?_
      refine wpList_nil ?_
      refine nor_then ?_
      exact ⟨false, (hf.cons rfl hf.nil), hO, hm⟩
  · rintro a w ⟨t5, hf, hO, hm⟩
    rw [octet_IsAlpha_j1] at hm
    refine wp_ret ?_
    obtain rfl := Option.some.inj hm
    exact post_ret Tryd.results115 hf (.tmp rfl .nil) ⟨rfl, hO.below⟩

set_option maxHeartbeats 1000000 in
theorem w_octet_IsDigit (x_b : UInt8) (R : Bool) (w0 : World) (hG : Glob w0) (hm : octet_IsDigit x_b = some R) :
    Calls Tryd.prog 116 #[byte x_b] w0 fun e w' => e = .returned (.bool R) ∧ Below w0.heap.size w0 w' := by
  rw [octet_IsDigit] at hm
  refine calls_enter (vs := [byte x_b]) Tryd.func116 rfl Tryd.ntmps116 rfl fun a hf => ?_
  have hF : Away [] := away_nil
  have hO : Dk.Own w0 [] w0 [] := Dk.Own.refl w0
  refine wp_seq_k fun _ hK1 => ?_
  refine wp_region_list ?_
  refine op_val (ex_assign hf rfl) rfl hf rfl rfl fun a hf => ?_
  refine wpList_nil ?_
  refine nor_then (hK1 _ _ ?_)
  refine wp_seq_cut (fun a w => ∃ (t3 : Bool), Fits 9 [(2, .bool t3)] a ∧ Dk.Own w0 [] w [] ∧ octet_IsDigit_j1 t3 = some R) ?_ ?_
  · refine wp_region_list ?_
    refine op_val (ex_move hf rfl) rfl hf rfl rfl fun a hf => ?_
    refine op_val (ex_geq_b (b := x_b) (c := 48) hf rfl rfl) rfl hf rfl rfl fun a hf => ?_
    refine op_val (ex_move hf rfl) rfl hf rfl rfl fun a hf => ?_
    rcases bcase (decide (48 ≤ x_b)) with hc2 | hc2
    · have hm := it hc2 hm
      refine op_guard rfl hf rfl rfl (hc2) ?_
      refine op_val (ex_move hf rfl) rfl hf rfl rfl fun a hf => ?_
      refine op_guard rfl hf rfl rfl (hc2) ?_
      refine op_val (ex_leq_b (b := x_b) (c := 57) hf rfl rfl) rfl hf rfl rfl fun a hf => ?_
      refine op_val (ex_pick_t hf rfl hc2 rfl) rfl hf rfl rfl fun a hf => ?_
      refine op_val (ex_assign hf rfl) rfl hf rfl rfl fun a hf => ?_
      refine wpList_nil ?_
      refine nor_then ?_
      exact ⟨decide (x_b ≤ 57), (hf.cons rfl hf.nil), hO, hm⟩
    · have hm := ie hc2 hm
      refine op_pass rfl hf rfl rfl (hc2) rfl rfl fun a hf => ?_
      refine op_pass rfl hf rfl rfl (hc2) rfl rfl fun a hf => ?_
      refine op_val (ex_pick_f hf rfl hc2 rfl) rfl hf rfl rfl fun a hf => ?_
      refine op_val (ex_assign hf rfl) rfl hf rfl rfl fun a hf => ?_
      refine wpList_nil ?_
      refine nor_then ?_
      exact ⟨false, (hf.cons rfl hf.nil), hO, hm⟩
  · rintro a w ⟨t3, hf, hO, hm⟩
    rw [octet_IsDigit_j1] at hm
    refine wp_ret ?_
    obtain rfl := Option.some.inj hm
    exact post_ret Tryd.results116 hf (.tmp rfl .nil) ⟨rfl, hO.below⟩

set_option maxHeartbeats 1000000 in
theorem w_octet_one (x_b : UInt8) (x_l : Str) (R : Bool) (w0 : World) (hG : Glob w0) (hm : octet_one x_b x_l = some R) :
    Calls Tryd.prog 117 #[byte x_b, str x_l] w0 fun e w' => e = .returned (.bool R) ∧ Below w0.heap.size w0 w' := by
  rw [octet_one] at hm
  refine calls_enter (vs := [byte x_b, str x_l]) Tryd.func117 rfl Tryd.ntmps117 rfl fun a hf => ?_
  have hF : Away [] := away_nil
  have hO : Dk.Own w0 [] w0 [] := Dk.Own.refl w0
  refine wp_seq_k fun _ hK1 => ?_
  refine wp_region_list ?_
  refine op_val (ex_assign hf rfl) rfl hf rfl rfl fun a hf => ?_
  refine wpList_nil ?_
  refine nor_then (hK1 _ _ ?_)
  refine wp_seq_k fun _ hK3 => ?_
  refine wp_region_list ?_
  refine op_val (ex_move hf rfl) rfl hf rfl rfl fun a hf => ?_
  refine op_val (ex_move hf rfl) rfl hf rfl rfl fun a hf => ?_
  obtain ⟨r2, hr2, hm⟩ := ob hm
  refine op_enter (ex_call c_90 hf (vs := [str x_l, byte x_b]) rfl) rfl hf rfl rfl (w_strings_IndexByte x_l x_b r2 _ (hG.own hF hO) hr2) ?_
  rintro e w' ⟨he, hb⟩
  refine ⟨_, he, fun a hf => ?_⟩
  have hO := hO.grow hb
  refine op_val (ex_geq (m := r2) (n := 0) hf rfl rfl) rfl hf rfl rfl fun a hf => ?_
  refine op_val (ex_assign hf rfl) rfl hf rfl rfl fun a hf => ?_
  refine wpList_nil ?_
  refine nor_then (hK3 _ _ ?_)
  refine wp_ret ?_
  obtain rfl := Option.some.inj hm
  exact post_ret Tryd.results117 hf (.tmp rfl .nil) ⟨rfl, hO.below⟩

end Go.Proofs
