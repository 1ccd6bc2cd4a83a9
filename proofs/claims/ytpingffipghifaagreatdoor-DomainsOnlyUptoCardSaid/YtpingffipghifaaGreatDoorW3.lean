/-
  Walks, written by a program (wip/gen): what its model says, the function returns; what was there before is as it was.
-/
import Derived.Test.YtpingffipghifaaGreatDoorLib
import Derived.Test.YtpingffipghifaaGreatDoorW0
set_option linter.unusedVariables false
set_option linter.unusedSimpArgs false
set_option maxRecDepth 100000
namespace Go.Proofs
open Go.Dk Go.Dm Go.RowKit

set_option maxHeartbeats 1000000 in
theorem w_scan_New (x_s : Str) (R : scan_Scanner) (w0 : World) (hG : Glob w0) (hm : scan_New x_s = some R) :
    Calls Tryz.prog 65 #[str x_s] w0 fun e w' => ∃ (b0 : Nat), e = .returned (ptr b0 0) ∧ Dk.Own w0 [] w' [.blk b0 [str R.f_s, int R.f_at] 115] := by
  rw [scan_New] at hm
  refine calls_enter (vs := [str x_s]) Tryz.func65 rfl Tryz.ntmps65 rfl fun a hf => ?_
  have hF : Away [] := away_nil
  have hO : Dk.Own w0 [] w0 [] := Dk.Own.refl w0
  refine wp_seq_k fun _ hK1 => ?_
  refine wp_region_list ?_
  refine op_val (ex_assign hf rfl) rfl hf rfl rfl fun a hf => ?_
  refine wpList_nil ?_
  refine nor_then (hK1 _ _ ?_)
  refine wp_seq_k fun _ hK3 => ?_
  refine wp_region_list ?_
  refine op_val (ex_move hf rfl) rfl hf rfl rfl fun a hf => ?_
  refine op_val (ex_build (vs := [(0, str x_s)]) (v := .agg #[str x_s, int 0]) hf rfl (by kernel_rfl)) rfl hf rfl rfl fun a hf => ?_
  refine op_box (v := .agg #[str x_s, int 0]) (cs := [str x_s, int 0]) rfl hf rfl rfl hO fun a b2 w hf hO => ?_
  refine op_val (ex_assign hf rfl) rfl hf rfl rfl fun a hf => ?_
  refine wpList_nil ?_
  refine nor_then (hK3 _ _ ?_)
  refine wp_ret ?_
  obtain rfl := Option.some.inj hm
  exact post_ret Tryz.results65 hf (.tmp rfl .nil) ⟨b2, rfl, hO⟩

set_option maxHeartbeats 1000000 in
theorem w_scan_Scanner_At (x_c : scan_Scanner) (R : Int) (w0 : World) (hG : Glob w0) {x_c_b0 : Nat} (hs0 : Sees w0 (some ⟨x_c_b0, 0, none⟩) [str x_c.f_s, int x_c.f_at]) (hm : scan_Scanner_At x_c = some R) :
    Calls Tryz.prog 112 #[ptr x_c_b0 0] w0 fun e w' => e = .returned (int R) ∧ Below w0.heap.size w0 w' := by
  rw [scan_Scanner_At] at hm
  refine calls_enter (vs := [ptr x_c_b0 0]) Tryz.func112 rfl Tryz.ntmps112 rfl fun a hf => ?_
  have hF : Away [] := away_nil
  have hO : Dk.Own w0 [] w0 [] := Dk.Own.refl w0
  have hO := hO.addShr hs0 (by simp [Res.shared])
  refine wp_seq_k fun _ hK1 => ?_
  refine wp_region_list ?_
  refine op_val (ex_assign hf rfl) rfl hf rfl rfl fun a hf => ?_
  refine wpList_nil ?_
  refine nor_then (hK1 _ _ ?_)
  refine wp_seq_k fun _ hK3 => ?_
  refine wp_seq_k fun _ hK2 => ?_
  refine wp_region_list ?_
  refine op_val (ex_move hf rfl) rfl hf rfl rfl fun a hf => ?_
  refine op_val (ex_eql_pn Tryz.underlying86 hf rfl rfl) rfl hf rfl rfl fun a hf => ?_
  refine wpList_nil ?_
  refine nor_then (hK2 _ _ ?_)
  refine wp_cond_f hf rfl rfl ?_
  refine wp_skip ?_
  refine nor_then (hK3 _ _ ?_)
  refine wp_seq_k fun _ hK4 => ?_
  refine wp_region_list ?_
  refine op_val (ex_move hf rfl) rfl hf rfl rfl fun a hf => ?_
  refine op_val (ex_nilCheck hf rfl) rfl hf rfl rfl fun a hf => ?_
  refine op_val (ex_field fa_115_1 hf rfl) rfl hf rfl rfl fun a hf => ?_
  refine op_val (ex_load1 (o := 1) ag_3 (hO.sees (i := 0) rfl) rfl hf rfl) rfl hf rfl rfl fun a hf => ?_
  refine op_val (ex_assign hf rfl) rfl hf rfl rfl fun a hf => ?_
  refine wpList_nil ?_
  refine nor_then (hK4 _ _ ?_)
  refine wp_ret ?_
  obtain rfl := Option.some.inj hm
  exact post_ret Tryz.results112 hf (.tmp rfl .nil) ⟨rfl, hO.below⟩

set_option maxHeartbeats 1000000 in
theorem w_scan_Scanner_Rest (x_c : scan_Scanner) (R : Str) (w0 : World) (hG : Glob w0) {x_c_b0 : Nat} (hs0 : Sees w0 (some ⟨x_c_b0, 0, none⟩) [str x_c.f_s, int x_c.f_at]) (hm : scan_Scanner_Rest x_c = some R) :
    Calls Tryz.prog 113 #[ptr x_c_b0 0] w0 fun e w' => e = .returned (str R) ∧ Below w0.heap.size w0 w' := by
  rw [scan_Scanner_Rest] at hm
  refine calls_enter (vs := [ptr x_c_b0 0]) Tryz.func113 rfl Tryz.ntmps113 rfl fun a hf => ?_
  have hF : Away [] := away_nil
  have hO : Dk.Own w0 [] w0 [] := Dk.Own.refl w0
  have hO := hO.addShr hs0 (by simp [Res.shared])
  refine wp_seq_k fun _ hK1 => ?_
  refine wp_region_list ?_
  refine op_val (ex_assign hf rfl) rfl hf rfl rfl fun a hf => ?_
  refine wpList_nil ?_
  refine nor_then (hK1 _ _ ?_)
  refine wp_seq_k fun _ hK3 => ?_
  refine wp_seq_k fun _ hK2 => ?_
  refine wp_region_list ?_
  refine op_val (ex_move hf rfl) rfl hf rfl rfl fun a hf => ?_
  refine op_val (ex_eql_pn Tryz.underlying86 hf rfl rfl) rfl hf rfl rfl fun a hf => ?_
  refine wpList_nil ?_
  refine nor_then (hK2 _ _ ?_)
  refine wp_cond_f hf rfl rfl ?_
  refine wp_skip ?_
  refine nor_then (hK3 _ _ ?_)
  refine wp_seq_k fun _ hK5 => ?_
  refine wp_quiet (by kernel_rfl) (by kernel_rfl) hO ?_
  refine q_val (fun w hO => ex_move hf rfl) rfl hf rfl rfl fun a hf => ?_
  refine q_val (fun w hO => ex_nilCheck hf rfl) rfl hf rfl rfl fun a hf => ?_
  refine q_val (fun w hO => ex_field fa_115_0 hf rfl) rfl hf rfl rfl fun a hf => ?_
  refine q_val (fun w hO => ex_load1 (o := 0) ag_9 (hO.sees (i := 0) rfl) rfl hf rfl) rfl hf rfl rfl fun a hf => ?_
  refine q_val (fun w hO => ex_move hf rfl) rfl hf rfl rfl fun a hf => ?_
  refine q_val (fun w hO => ex_nilCheck hf rfl) rfl hf rfl rfl fun a hf => ?_
  refine q_val (fun w hO => ex_field fa_115_1 hf rfl) rfl hf rfl rfl fun a hf => ?_
  refine q_val (fun w hO => ex_load1 (o := 1) ag_3 (hO.sees (i := 0) rfl) rfl hf rfl) rfl hf rfl rfl fun a hf => ?_
  obtain ⟨s4, hs4, hm⟩ := ob hm
  refine q_val (fun w hO => ex_from_s (l := x_c.f_s) Tryz.underlying9 hf rfl rfl hs4) rfl hf rfl rfl fun a hf => ?_
  refine q_val (fun w hO => ex_assign hf rfl) rfl hf rfl rfl fun a hf => ?_
  refine wpQuiet_nil ?_
  intro w hO
  refine nor_then (hK5 _ _ ?_)
  refine wp_ret ?_
  obtain rfl := Option.some.inj hm
  exact post_ret Tryz.results113 hf (.tmp rfl .nil) ⟨rfl, hO.below⟩

set_option maxHeartbeats 1000000 in
theorem w_scan_Scanner_End (x_c : scan_Scanner) (R : Bool) (w0 : World) (hG : Glob w0) {x_c_b0 : Nat} (hs0 : Sees w0 (some ⟨x_c_b0, 0, none⟩) [str x_c.f_s, int x_c.f_at]) (hm : scan_Scanner_End x_c = some R) :
    Calls Tryz.prog 71 #[ptr x_c_b0 0] w0 fun e w' => e = .returned (.bool R) ∧ Below w0.heap.size w0 w' := by
  rw [scan_Scanner_End] at hm
  refine calls_enter (vs := [ptr x_c_b0 0]) Tryz.func71 rfl Tryz.ntmps71 rfl fun a hf => ?_
  have hF : Away [] := away_nil
  have hO : Dk.Own w0 [] w0 [] := Dk.Own.refl w0
  have hO := hO.addShr hs0 (by simp [Res.shared])
  refine wp_seq_k fun _ hK1 => ?_
  refine wp_region_list ?_
  refine op_val (ex_assign hf rfl) rfl hf rfl rfl fun a hf => ?_
  refine wpList_nil ?_
  refine nor_then (hK1 _ _ ?_)
  refine wp_seq_k fun _ hK3 => ?_
  refine wp_region_list ?_
  refine op_val (ex_move hf rfl) rfl hf rfl rfl fun a hf => ?_
  obtain ⟨r2, hr2, hm⟩ := ob hm
  refine op_enter (ex_call c_113 hf (vs := [ptr x_c_b0 0]) rfl) rfl hf rfl rfl (w_scan_Scanner_Rest x_c r2 _ (hG.own hF hO) (hO.sees (i := 0) rfl) hr2) ?_
  rintro e w' ⟨he, hb⟩
  refine ⟨_, he, fun a hf => ?_⟩
  have hO := hO.grow hb
  refine op_val (ex_eql_s (l := r2) (m := []) hf rfl rfl) rfl hf rfl rfl fun a hf => ?_
  refine op_val (ex_assign hf rfl) rfl hf rfl rfl fun a hf => ?_
  refine wpList_nil ?_
  refine nor_then (hK3 _ _ ?_)
  refine wp_ret ?_
  obtain rfl := Option.some.inj hm
  exact post_ret Tryz.results71 hf (.tmp rfl .nil) ⟨rfl, hO.below⟩

set_option maxHeartbeats 1000000 in
theorem w_scan_Scanner_Peek (x_c : scan_Scanner) (R : UInt8 × Bool) (w0 : World) (hG : Glob w0) {x_c_b0 : Nat} (hs0 : Sees w0 (some ⟨x_c_b0, 0, none⟩) [str x_c.f_s, int x_c.f_at]) (hm : scan_Scanner_Peek x_c = some R) :
    Calls Tryz.prog 111 #[ptr x_c_b0 0] w0 fun e w' => e = .returned (.tuple #[byte R.1, .bool R.2]) ∧ Below w0.heap.size w0 w' := by
  rw [scan_Scanner_Peek] at hm
  refine calls_enter (vs := [ptr x_c_b0 0]) Tryz.func111 rfl Tryz.ntmps111 rfl fun a hf => ?_
  have hF : Away [] := away_nil
  have hO : Dk.Own w0 [] w0 [] := Dk.Own.refl w0
  have hO := hO.addShr hs0 (by simp [Res.shared])
  refine wp_seq_k fun _ hK1 => ?_
  refine wp_region_list ?_
  refine op_val (ex_assign hf rfl) rfl hf rfl rfl fun a hf => ?_
  refine op_val (ex_assign hf rfl) rfl hf rfl rfl fun a hf => ?_
  refine wpList_nil ?_
  refine nor_then (hK1 _ _ ?_)
  refine wp_seq_k fun _ hK6 => ?_
  refine wp_seq_k fun _ hK3 => ?_
  refine wp_region_list ?_
  refine op_val (ex_move hf rfl) rfl hf rfl rfl fun a hf => ?_
  obtain ⟨r2, hr2, hm⟩ := ob hm
  refine op_enter (ex_call c_71 hf (vs := [ptr x_c_b0 0]) rfl) rfl hf rfl rfl (w_scan_Scanner_End x_c r2 _ (hG.own hF hO) (hO.sees (i := 0) rfl) hr2) ?_
  rintro e w' ⟨he, hb⟩
  refine ⟨_, he, fun a hf => ?_⟩
  have hO := hO.grow hb
  refine wpList_nil ?_
  refine nor_then (hK3 _ _ ?_)
  refine wp_cond_cut hf rfl (fun hc4 => ?_) (fun hc4 => ?_)
  · have hm := it hc4 hm
    refine wp_seq_k fun _ hK5 => ?_
    refine wp_region_list ?_
    refine op_val (ex_assign hf rfl) rfl hf rfl rfl fun a hf => ?_
    refine op_val (ex_assign hf rfl) rfl hf rfl rfl fun a hf => ?_
    refine wpList_nil ?_
    refine nor_then (hK5 _ _ ?_)
    refine wp_ret ?_
    refine ret_then ?_
    obtain rfl := Option.some.inj hm
    exact post_ret Tryz.results111 hf (.tmp rfl (.tmp rfl .nil)) ⟨rfl, hO.below⟩
  · have hm := ie hc4 hm
    refine wp_skip ?_
    refine nor_then (hK6 _ _ ?_)
    refine wp_seq_k fun _ hK8 => ?_
    refine wp_quiet (by kernel_rfl) (by kernel_rfl) hO ?_
    refine q_val (fun w hO => ex_move hf rfl) rfl hf rfl rfl fun a hf => ?_
    refine q_val (fun w hO => ex_nilCheck hf rfl) rfl hf rfl rfl fun a hf => ?_
    refine q_val (fun w hO => ex_field fa_115_0 hf rfl) rfl hf rfl rfl fun a hf => ?_
    refine q_val (fun w hO => ex_load1 (o := 0) ag_9 (hO.sees (i := 0) rfl) rfl hf rfl) rfl hf rfl rfl fun a hf => ?_
    refine q_val (fun w hO => ex_move hf rfl) rfl hf rfl rfl fun a hf => ?_
    refine q_val (fun w hO => ex_nilCheck hf rfl) rfl hf rfl rfl fun a hf => ?_
    refine q_val (fun w hO => ex_field fa_115_1 hf rfl) rfl hf rfl rfl fun a hf => ?_
    refine q_val (fun w hO => ex_load1 (o := 1) ag_3 (hO.sees (i := 0) rfl) rfl hf rfl) rfl hf rfl rfl fun a hf => ?_
    obtain ⟨b7, hb7, hm⟩ := ob hm
    refine q_val (fun w hO => ex_index (l := x_c.f_s) Tryz.underlying9 hf rfl rfl hb7) rfl hf rfl rfl fun a hf => ?_
    refine q_val (fun w hO => ex_assign hf rfl) rfl hf rfl rfl fun a hf => ?_
    refine q_val (fun w hO => ex_assign hf rfl) rfl hf rfl rfl fun a hf => ?_
    refine wpQuiet_nil ?_
    intro w hO
    refine nor_then (hK8 _ _ ?_)
    refine wp_ret ?_
    obtain rfl := Option.some.inj hm
    exact post_ret Tryz.results111 hf (.tmp rfl (.tmp rfl .nil)) ⟨rfl, hO.below⟩

set_option maxHeartbeats 1000000 in
theorem w_scan_Scanner_While (x_c : scan_Scanner) (x_is : UInt8 → Option Bool) (R : Str × scan_Scanner) (w0 : World) (hG : Glob w0) {x_c_b0 : Nat} {F : List Nat} (hF : Away F) (hO : Dk.Own w0 F w0 [.blk x_c_b0 [str x_c.f_s, int x_c.f_at] 115]) {x_is_f : Nat} {x_is_p x_is_c : Array Value} (x_is_k : Callable Tryz.prog x_is_f) (x_is_h : ∀ (y0 : UInt8) (r : Bool) (w : World), Glob w → x_is y0 = some r → Calls Tryz.prog x_is_f (x_is_p ++ [byte y0].toArray ++ x_is_c) w fun e w' => e = .returned (.bool r) ∧ Below w.heap.size w w') (hm : scan_Scanner_While x_c x_is = some R) :
    Calls Tryz.prog 69 #[ptr x_c_b0 0, .func (.func x_is_f) x_is_p x_is_c] w0 fun e w' => e = .returned (str R.1) ∧ Dk.Own w0 F w' [.blk x_c_b0 [str R.2.f_s, int R.2.f_at] 115] := by
  rw [scan_Scanner_While] at hm
  refine calls_enter (vs := [ptr x_c_b0 0, .func (.func x_is_f) x_is_p x_is_c]) Tryz.func69 rfl Tryz.ntmps69 rfl fun a hf => ?_
  refine wp_seq_k fun _ hK1 => ?_
  refine wp_region_list ?_
  refine op_val (ex_assign hf rfl) rfl hf rfl rfl fun a hf => ?_
  refine wpList_nil ?_
  refine nor_then (hK1 _ _ ?_)
  refine wp_seq_k fun _ hK3 => ?_
  refine wp_region_list ?_
  refine op_val (ex_move hf rfl) rfl hf rfl rfl fun a hf => ?_
  obtain ⟨r2, hr2, hm⟩ := ob hm
  refine op_enter (ex_call c_112 hf (vs := [ptr x_c_b0 0]) rfl) rfl hf rfl rfl (w_scan_Scanner_At x_c r2 _ (hG.own hF hO) (hO.blkSees (i := 0) rfl) hr2) ?_
  rintro e w' ⟨he, hb⟩
  refine ⟨_, he, fun a hf => ?_⟩
  have hO := hO.grow hb
  refine op_val (ex_assign hf rfl) rfl hf rfl rfl fun a hf => ?_
  refine wpList_nil ?_
  refine nor_then (hK3 _ _ ?_)
  refine wp_seq_cut (fun a w => ∃ (s14 : Str) (i15 : Int), Fits 42 [(0, ptr x_c_b0 0), (5, int r2)] a ∧ Dk.Own w0 F w [.blk x_c_b0 [str s14, int i15] 115] ∧ scan_Scanner_While_j3 r2 s14 i15 = some R) ?_ ?_
  · refine wp_block ?_
    refine wp_loop_n (fun k a w => ∃ (s4 : Str) (i5 : Int), Fits 42 [(0, ptr x_c_b0 0), (1, .func (.func x_is_f) x_is_p x_is_c), (5, int r2)] a ∧ Dk.Own w0 F w [.blk x_c_b0 [str s4, int i5] 115] ∧ scan_Scanner_While_L1 x_is r2 k s4 i5 = some R) ?_ fuel ?_
    · rintro n1 a w ⟨s4, i5, hf, hO, hm⟩
      obtain _ | n1 := n1
      · rw [scan_Scanner_While_L1] at hm
        cases hm
      · rw [scan_Scanner_While_L1] at hm
        refine wp_block ?_
        refine wp_seq_k fun _ hK7 => ?_
        refine wp_region_list ?_
        refine op_val (ex_move hf rfl) rfl hf rfl rfl fun a hf => ?_
        obtain ⟨r6, hr6, hm⟩ := ob hm
        refine op_enter (ex_call c_111 hf (vs := [ptr x_c_b0 0]) rfl) rfl hf rfl rfl (w_scan_Scanner_Peek (⟨s4, i5⟩ : scan_Scanner) r6 _ (hG.own hF hO) (hO.blkSees (i := 0) rfl) hr6) ?_
        rintro e w' ⟨he, hb⟩
        refine ⟨_, he, fun a hf => ?_⟩
        have hO := hO.grow hb
        refine op_val (ex_move hf rfl) rfl hf rfl rfl fun a hf => ?_
        refine op_val (ex_extract hf rfl rfl) rfl hf rfl rfl fun a hf => ?_
        refine op_val (ex_extract hf rfl rfl) rfl hf rfl rfl fun a hf => ?_
        refine op_val (ex_assign hf rfl) rfl hf rfl rfl fun a hf => ?_
        refine op_val (ex_assign hf rfl) rfl hf rfl rfl fun a hf => ?_
        refine wpList_nil ?_
        refine nor_then (hK7 _ _ ?_)
        refine wp_seq_k fun _ hK12 => ?_
        refine wp_seq_cut (fun a w => ∃ (t10 : Bool), Fits 42 [(0, ptr x_c_b0 0), (1, .func (.func x_is_f) x_is_p x_is_c), (5, int r2), (22, .bool t10)] a ∧ Dk.Own w0 F w [.blk x_c_b0 [str s4, int i5] 115] ∧ scan_Scanner_While_j2 (scan_Scanner_While_L1 x_is r2 n1) r2 s4 i5 t10 = some R) ?_ ?_
        · refine wp_region_list ?_
          refine op_val (ex_move hf rfl) rfl hf rfl rfl fun a hf => ?_
          refine op_val (ex_not hf rfl) rfl hf rfl rfl fun a hf => ?_
          refine op_val (ex_move hf rfl) rfl hf rfl rfl fun a hf => ?_
          rcases bcase (!r6.2) with hc8 | hc8
          · have hm := it hc8 hm
            refine op_pass rfl hf rfl rfl (hc8) rfl rfl fun a hf => ?_
            refine op_pass rfl hf rfl rfl (hc8) rfl rfl fun a hf => ?_
            refine op_pass rfl hf rfl rfl (hc8) rfl rfl fun a hf => ?_
            refine op_pass rfl hf rfl rfl (hc8) rfl rfl fun a hf => ?_
            refine op_val (ex_pick_t hf rfl hc8 rfl) rfl hf rfl rfl fun a hf => ?_
            refine wpList_nil ?_
            refine nor_then ?_
            exact ⟨true, (hf.cons rfl (hf.cons rfl (hf.cons rfl (hf.cons rfl hf.nil)))), hO, hm⟩
          · have hm := ie hc8 hm
            refine op_guard rfl hf rfl rfl (hc8) ?_
            refine op_val (ex_move hf rfl) rfl hf rfl rfl fun a hf => ?_
            refine op_guard rfl hf rfl rfl (hc8) ?_
            refine op_val (ex_move hf rfl) rfl hf rfl rfl fun a hf => ?_
            refine op_guard rfl hf rfl rfl (hc8) ?_
            obtain ⟨r9, hr9, hm⟩ := ob hm
            refine op_enter (ex_callv x_is_k hf rfl (vs := [byte r6.1]) rfl) rfl hf rfl rfl (x_is_h r6.1 r9 _ (hG.own hF hO) hr9) ?_
            rintro e w' ⟨he, hb⟩
            refine ⟨_, he, fun a hf => ?_⟩
            have hO := hO.grow hb
            refine op_guard rfl hf rfl rfl (hc8) ?_
            refine op_val (ex_not hf rfl) rfl hf rfl rfl fun a hf => ?_
            refine op_val (ex_pick_f hf rfl hc8 rfl) rfl hf rfl rfl fun a hf => ?_
            refine wpList_nil ?_
            refine nor_then ?_
            exact ⟨!r9, (hf.cons rfl (hf.cons rfl (hf.cons rfl (hf.cons rfl hf.nil)))), hO, hm⟩
        · rintro a w ⟨t10, hf, hO, hm⟩
          rw [scan_Scanner_While_j2] at hm
          refine wp_cond_cut hf rfl (fun hc11 => ?_) (fun hc11 => ?_)
          · have hm := it hc11 hm
            refine wp_exit ?_
            refine exit_then ?_
            refine exit_past rfl ?_
            refine exit_then ?_
            refine exit_here ?_
            refine nor_then ?_
            exact ⟨s4, i5, (hf.cons rfl (hf.cons rfl hf.nil)), hO, hm⟩
          · have hm := ie hc11 hm
            refine wp_skip ?_
            refine nor_then (hK12 _ _ ?_)
            refine wp_region_list ?_
            refine op_val (ex_move hf rfl) rfl hf rfl rfl fun a hf => ?_
            refine op_val (ex_nilCheck hf rfl) rfl hf rfl rfl fun a hf => ?_
            refine op_val (ex_field fa_115_1 hf rfl) rfl hf rfl rfl fun a hf => ?_
            refine op_val (ex_load1 (o := 1) ag_3 (hO.blkSees (i := 0) rfl) rfl hf rfl) rfl hf rfl rfl fun a hf => ?_
            obtain ⟨i13, hi13, hm⟩ := ob hm
            refine op_val (ex_add hf rfl rfl hi13) rfl hf rfl rfl fun a hf => ?_
            refine op_val (ex_nilCheck hf rfl) rfl hf rfl rfl fun a hf => ?_
            refine op_val (ex_field fa_115_1 hf rfl) rfl hf rfl rfl fun a hf => ?_
            refine op_store1 (i := 0) (o := 1) (v := int i13) sz_3 rfl rfl rfl rfl hf rfl rfl hO fun w hO => ?_
            refine wpList_nil ?_
            refine nor_block ?_
            refine nor_then ?_
            exact ⟨_, Nat.lt_succ_self _, s4, i13, (hf.cons rfl (hf.cons rfl (hf.cons rfl hf.nil))), hO, hm⟩
    · exact ⟨x_c.f_s, x_c.f_at, (hf.cons rfl (hf.cons rfl (hf.cons rfl hf.nil))), hO, hm⟩
  · rintro a w ⟨s14, i15, hf, hO, hm⟩
    rw [scan_Scanner_While_j3] at hm
    refine wp_seq_k fun _ hK17 => ?_
    refine wp_seq_k fun _ hK16 => ?_
    refine wp_region_list ?_
    refine op_val (ex_move hf rfl) rfl hf rfl rfl fun a hf => ?_
    refine op_val (ex_eql_pn Tryz.underlying86 hf rfl rfl) rfl hf rfl rfl fun a hf => ?_
    refine wpList_nil ?_
    refine nor_then (hK16 _ _ ?_)
    refine wp_cond_f hf rfl rfl ?_
    refine wp_skip ?_
    refine nor_then (hK17 _ _ ?_)
    refine wp_seq_k fun _ hK19 => ?_
    refine wp_quiet (by kernel_rfl) (by kernel_rfl) hO ?_
    refine q_val (fun w hO => ex_move hf rfl) rfl hf rfl rfl fun a hf => ?_
    refine q_val (fun w hO => ex_nilCheck hf rfl) rfl hf rfl rfl fun a hf => ?_
    refine q_val (fun w hO => ex_field fa_115_0 hf rfl) rfl hf rfl rfl fun a hf => ?_
    refine q_val (fun w hO => ex_load1 (o := 0) ag_9 (hO.blkSees (i := 0) rfl) rfl hf rfl) rfl hf rfl rfl fun a hf => ?_
    refine q_val (fun w hO => ex_move hf rfl) rfl hf rfl rfl fun a hf => ?_
    refine q_val (fun w hO => ex_move hf rfl) rfl hf rfl rfl fun a hf => ?_
    refine q_val (fun w hO => ex_nilCheck hf rfl) rfl hf rfl rfl fun a hf => ?_
    refine q_val (fun w hO => ex_field fa_115_1 hf rfl) rfl hf rfl rfl fun a hf => ?_
    refine q_val (fun w hO => ex_load1 (o := 1) ag_3 (hO.blkSees (i := 0) rfl) rfl hf rfl) rfl hf rfl rfl fun a hf => ?_
    obtain ⟨s18, hs18, hm⟩ := ob hm
    refine q_val (fun w hO => ex_sub_s (l := s14) Tryz.underlying9 hf rfl rfl rfl hs18) rfl hf rfl rfl fun a hf => ?_
    refine q_val (fun w hO => ex_assign hf rfl) rfl hf rfl rfl fun a hf => ?_
    refine wpQuiet_nil ?_
    intro w hO
    refine nor_then (hK19 _ _ ?_)
    refine wp_ret ?_
    obtain rfl := Option.some.inj hm
    exact post_ret Tryz.results69 hf (.tmp rfl .nil) ⟨rfl, hO⟩

set_option maxHeartbeats 1000000 in
theorem w_octet_IsToken (x_b : UInt8) (R : Bool) (w0 : World) (hG : Glob w0) (hm : octet_IsToken x_b = some R) :
    Calls Tryz.prog 110 #[byte x_b] w0 fun e w' => e = .returned (.bool R) ∧ Below w0.heap.size w0 w' := by
  rw [octet_IsToken] at hm
  refine calls_enter (vs := [byte x_b]) Tryz.func110 rfl Tryz.ntmps110 rfl fun a hf => ?_
  have hF : Away [] := away_nil
  have hO : Dk.Own w0 [] w0 [] := Dk.Own.refl w0
  refine wp_seq_k fun _ hK1 => ?_
  refine wp_region_list ?_
  refine op_val (ex_assign hf rfl) rfl hf rfl rfl fun a hf => ?_
  refine wpList_nil ?_
  refine nor_then (hK1 _ _ ?_)
  refine wp_seq_cut (fun a w => ∃ (t7 : Bool), Fits 13 [(2, .bool t7)] a ∧ Dk.Own w0 [] w [] ∧ octet_IsToken_j1 t7 = some R) ?_ ?_
  · refine wp_region_list ?_
    refine op_val (ex_move hf rfl) rfl hf rfl rfl fun a hf => ?_
    obtain ⟨r2, hr2, hm⟩ := ob hm
    refine op_enter (ex_call c_131 hf (vs := [byte x_b]) rfl) rfl hf rfl rfl (w_octet_IsAlpha x_b r2 _ (hG.own hF hO) hr2) ?_
    rintro e w' ⟨he, hb⟩
    refine ⟨_, he, fun a hf => ?_⟩
    have hO := hO.grow hb
    refine op_val (ex_move hf rfl) rfl hf rfl rfl fun a hf => ?_
    rcases bcase (r2) with hc3 | hc3
    · have hm := it hc3 hm
      refine op_pass rfl hf rfl rfl (hc3) rfl rfl fun a hf => ?_
      refine op_pass rfl hf rfl rfl (hc3) rfl rfl fun a hf => ?_
      refine op_val (ex_pick_t hf rfl hc3 rfl) rfl hf rfl rfl fun a hf => ?_
      refine op_val (ex_move hf rfl) rfl hf rfl rfl fun a hf => ?_
      refine op_pass rfl hf rfl rfl (rfl) rfl rfl fun a hf => ?_
      refine op_pass rfl hf rfl rfl (rfl) rfl rfl fun a hf => ?_
      refine op_val (ex_pick_t hf rfl rfl rfl) rfl hf rfl rfl fun a hf => ?_
      refine op_val (ex_assign hf rfl) rfl hf rfl rfl fun a hf => ?_
      refine wpList_nil ?_
      refine nor_then ?_
      exact ⟨true, (hf.cons rfl hf.nil), hO, hm⟩
    · have hm := ie hc3 hm
      refine op_guard rfl hf rfl rfl (hc3) ?_
      refine op_val (ex_move hf rfl) rfl hf rfl rfl fun a hf => ?_
      refine op_guard rfl hf rfl rfl (hc3) ?_
      obtain ⟨r4, hr4, hm⟩ := ob hm
      refine op_enter (ex_call c_132 hf (vs := [byte x_b]) rfl) rfl hf rfl rfl (w_octet_IsDigit x_b r4 _ (hG.own hF hO) hr4) ?_
      rintro e w' ⟨he, hb⟩
      refine ⟨_, he, fun a hf => ?_⟩
      have hO := hO.grow hb
      refine op_val (ex_pick_f hf rfl hc3 rfl) rfl hf rfl rfl fun a hf => ?_
      refine op_val (ex_move hf rfl) rfl hf rfl rfl fun a hf => ?_
      rcases bcase (r4) with hc5 | hc5
      · have hm := it hc5 hm
        refine op_pass rfl hf rfl rfl (hc5) rfl rfl fun a hf => ?_
        refine op_pass rfl hf rfl rfl (hc5) rfl rfl fun a hf => ?_
        refine op_val (ex_pick_t hf rfl hc5 rfl) rfl hf rfl rfl fun a hf => ?_
        refine op_val (ex_assign hf rfl) rfl hf rfl rfl fun a hf => ?_
        refine wpList_nil ?_
        refine nor_then ?_
        exact ⟨true, (hf.cons rfl hf.nil), hO, hm⟩
      · have hm := ie hc5 hm
        refine op_guard rfl hf rfl rfl (hc5) ?_
        refine op_val (ex_move hf rfl) rfl hf rfl rfl fun a hf => ?_
        refine op_guard rfl hf rfl rfl (hc5) ?_
        obtain ⟨r6, hr6, hm⟩ := ob hm
        refine op_enter (ex_call c_133 hf (vs := [byte x_b, str [33, 35, 36, 37, 38, 39, 42, 43, 45, 46, 94, 95, 96, 124, 126]]) rfl) rfl hf rfl rfl (w_octet_one x_b [33, 35, 36, 37, 38, 39, 42, 43, 45, 46, 94, 95, 96, 124, 126] r6 _ (hG.own hF hO) hr6) ?_
        rintro e w' ⟨he, hb⟩
        refine ⟨_, he, fun a hf => ?_⟩
        have hO := hO.grow hb
        refine op_val (ex_pick_f hf rfl hc5 rfl) rfl hf rfl rfl fun a hf => ?_
        refine op_val (ex_assign hf rfl) rfl hf rfl rfl fun a hf => ?_
        refine wpList_nil ?_
        refine nor_then ?_
        exact ⟨r6, (hf.cons rfl hf.nil), hO, hm⟩
  · rintro a w ⟨t7, hf, hO, hm⟩
    rw [octet_IsToken_j1] at hm
    refine wp_ret ?_
    obtain rfl := Option.some.inj hm
    exact post_ret Tryz.results110 hf (.tmp rfl .nil) ⟨rfl, hO.below⟩

set_option maxHeartbeats 1000000 in
theorem w_scan_Scanner_Token (x_c : scan_Scanner) (R : Str × Bool × scan_Scanner) (w0 : World) (hG : Glob w0) {x_c_b0 : Nat} {F : List Nat} (hF : Away F) (hO : Dk.Own w0 F w0 [.blk x_c_b0 [str x_c.f_s, int x_c.f_at] 115]) (hm : scan_Scanner_Token x_c = some R) :
    Calls Tryz.prog 67 #[ptr x_c_b0 0] w0 fun e w' => e = .returned (.tuple #[str R.1, .bool R.2.1]) ∧ Dk.Own w0 F w' [.blk x_c_b0 [str R.2.2.f_s, int R.2.2.f_at] 115] := by
  rw [scan_Scanner_Token] at hm
  refine calls_enter (vs := [ptr x_c_b0 0]) Tryz.func67 rfl Tryz.ntmps67 rfl fun a hf => ?_
  refine wp_seq_k fun _ hK1 => ?_
  refine wp_region_list ?_
  refine op_val (ex_assign hf rfl) rfl hf rfl rfl fun a hf => ?_
  refine op_val (ex_assign hf rfl) rfl hf rfl rfl fun a hf => ?_
  refine wpList_nil ?_
  refine nor_then (hK1 _ _ ?_)
  refine wp_seq_k fun _ hK3 => ?_
  refine wp_region_list ?_
  refine op_val (ex_move hf rfl) rfl hf rfl rfl fun a hf => ?_
  obtain ⟨r2, hr2, hm⟩ := ob hm
  refine op_enter (ex_call c_69 hf (vs := [ptr x_c_b0 0, .func (.func 110) #[] #[]]) rfl) rfl hf rfl rfl (w_scan_Scanner_While x_c octet_IsToken r2 _ (hG.own hF hO) (Dk.Own.far (show Dk.Own w0 F _ ([.blk x_c_b0 [str x_c.f_s, int x_c.f_at] 115] ++ []) from hO) rfl hF hG.size) ((show Dk.Own w0 F _ ([.blk x_c_b0 [str x_c.f_s, int x_c.f_at] 115] ++ []) from hO).lend rfl trivial) c_110 (fun y0 r w hG h => callsE (w_octet_IsToken y0 r w hG h)) hr2) ?_
  rintro e w' ⟨he, hO'⟩
  refine ⟨_, he, fun a hf => ?_⟩
  have hO := (show Dk.Own w0 F _ ([.blk x_c_b0 [str x_c.f_s, int x_c.f_at] 115] ++ []) from hO).back rfl hO' rfl
  refine op_val (ex_assign hf rfl) rfl hf rfl rfl fun a hf => ?_
  refine wpList_nil ?_
  refine nor_then (hK3 _ _ ?_)
  refine wp_seq_k fun _ hK4 => ?_
  refine wp_region_list ?_
  refine op_val (ex_move hf rfl) rfl hf rfl rfl fun a hf => ?_
  refine op_val (ex_move hf rfl) rfl hf rfl rfl fun a hf => ?_
  refine op_val (ex_neq_s (l := r2.1) (m := []) hf rfl rfl) rfl hf rfl rfl fun a hf => ?_
  refine op_val (ex_assign hf rfl) rfl hf rfl rfl fun a hf => ?_
  refine op_val (ex_assign hf rfl) rfl hf rfl rfl fun a hf => ?_
  refine wpList_nil ?_
  refine nor_then (hK4 _ _ ?_)
  refine wp_ret ?_
  obtain rfl := Option.some.inj hm
  exact post_ret Tryz.results67 hf (.tmp rfl (.tmp rfl .nil)) ⟨rfl, hO⟩

set_option maxHeartbeats 1000000 in
theorem w_scan_Scanner_Byte (x_c : scan_Scanner) (x_b : UInt8) (R : Bool × scan_Scanner) (w0 : World) (hG : Glob w0) {x_c_b0 : Nat} {F : List Nat} (hF : Away F) (hO : Dk.Own w0 F w0 [.blk x_c_b0 [str x_c.f_s, int x_c.f_at] 115]) (hm : scan_Scanner_Byte x_c x_b = some R) :
    Calls Tryz.prog 68 #[ptr x_c_b0 0, byte x_b] w0 fun e w' => e = .returned (.bool R.1) ∧ Dk.Own w0 F w' [.blk x_c_b0 [str R.2.f_s, int R.2.f_at] 115] := by
  rw [scan_Scanner_Byte] at hm
  refine calls_enter (vs := [ptr x_c_b0 0, byte x_b]) Tryz.func68 rfl Tryz.ntmps68 rfl fun a hf => ?_
  refine wp_seq_k fun _ hK1 => ?_
  refine wp_region_list ?_
  refine op_val (ex_assign hf rfl) rfl hf rfl rfl fun a hf => ?_
  refine wpList_nil ?_
  refine nor_then (hK1 _ _ ?_)
  refine wp_seq_k fun _ hK3 => ?_
  refine wp_region_list ?_
  refine op_val (ex_move hf rfl) rfl hf rfl rfl fun a hf => ?_
  obtain ⟨r2, hr2, hm⟩ := ob hm
  refine op_enter (ex_call c_111 hf (vs := [ptr x_c_b0 0]) rfl) rfl hf rfl rfl (w_scan_Scanner_Peek x_c r2 _ (hG.own hF hO) (hO.blkSees (i := 0) rfl) hr2) ?_
  rintro e w' ⟨he, hb⟩
  refine ⟨_, he, fun a hf => ?_⟩
  have hO := hO.grow hb
  refine op_val (ex_move hf rfl) rfl hf rfl rfl fun a hf => ?_
  refine op_val (ex_extract hf rfl rfl) rfl hf rfl rfl fun a hf => ?_
  refine op_val (ex_extract hf rfl rfl) rfl hf rfl rfl fun a hf => ?_
  refine op_val (ex_assign hf rfl) rfl hf rfl rfl fun a hf => ?_
  refine op_val (ex_assign hf rfl) rfl hf rfl rfl fun a hf => ?_
  refine wpList_nil ?_
  refine nor_then (hK3 _ _ ?_)
  refine wp_seq_k fun _ hK8 => ?_
  refine wp_seq_cut (fun a w => ∃ (t5 : Bool), Fits 26 [(0, ptr x_c_b0 0), (18, .bool t5)] a ∧ Dk.Own w0 F w [.blk x_c_b0 [str x_c.f_s, int x_c.f_at] 115] ∧ scan_Scanner_Byte_j1 x_c t5 = some R) ?_ ?_
  · refine wp_region_list ?_
    refine op_val (ex_move hf rfl) rfl hf rfl rfl fun a hf => ?_
    refine op_val (ex_not hf rfl) rfl hf rfl rfl fun a hf => ?_
    refine op_val (ex_move hf rfl) rfl hf rfl rfl fun a hf => ?_
    rcases bcase (!r2.2) with hc4 | hc4
    · have hm := it hc4 hm
      refine op_pass rfl hf rfl rfl (hc4) rfl rfl fun a hf => ?_
      refine op_pass rfl hf rfl rfl (hc4) rfl rfl fun a hf => ?_
      refine op_pass rfl hf rfl rfl (hc4) rfl rfl fun a hf => ?_
      refine op_val (ex_pick_t hf rfl hc4 rfl) rfl hf rfl rfl fun a hf => ?_
      refine wpList_nil ?_
      refine nor_then ?_
      exact ⟨true, (hf.cons rfl (hf.cons rfl hf.nil)), hO, hm⟩
    · have hm := ie hc4 hm
      refine op_guard rfl hf rfl rfl (hc4) ?_
      refine op_val (ex_move hf rfl) rfl hf rfl rfl fun a hf => ?_
      refine op_guard rfl hf rfl rfl (hc4) ?_
      refine op_val (ex_move hf rfl) rfl hf rfl rfl fun a hf => ?_
      refine op_guard rfl hf rfl rfl (hc4) ?_
      refine op_val (ex_neq_b (b := r2.1) (c := x_b) hf rfl rfl) rfl hf rfl rfl fun a hf => ?_
      refine op_val (ex_pick_f hf rfl hc4 rfl) rfl hf rfl rfl fun a hf => ?_
      refine wpList_nil ?_
      refine nor_then ?_
      exact ⟨!(r2.1 == x_b), (hf.cons rfl (hf.cons rfl hf.nil)), hO, hm⟩
  · rintro a w ⟨t5, hf, hO, hm⟩
    rw [scan_Scanner_Byte_j1] at hm
    refine wp_cond_cut hf rfl (fun hc6 => ?_) (fun hc6 => ?_)
    · have hm := it hc6 hm
      refine wp_seq_k fun _ hK7 => ?_
      refine wp_region_list ?_
      refine op_val (ex_assign hf rfl) rfl hf rfl rfl fun a hf => ?_
      refine wpList_nil ?_
      refine nor_then (hK7 _ _ ?_)
      refine wp_ret ?_
      refine ret_then ?_
      obtain rfl := Option.some.inj hm
      exact post_ret Tryz.results68 hf (.tmp rfl .nil) ⟨rfl, hO⟩
    · have hm := ie hc6 hm
      refine wp_skip ?_
      refine nor_then (hK8 _ _ ?_)
      refine wp_seq_k fun _ hK10 => ?_
      refine wp_region_list ?_
      refine op_val (ex_move hf rfl) rfl hf rfl rfl fun a hf => ?_
      refine op_val (ex_nilCheck hf rfl) rfl hf rfl rfl fun a hf => ?_
      refine op_val (ex_field fa_115_1 hf rfl) rfl hf rfl rfl fun a hf => ?_
      refine op_val (ex_load1 (o := 1) ag_3 (hO.blkSees (i := 0) rfl) rfl hf rfl) rfl hf rfl rfl fun a hf => ?_
      obtain ⟨i9, hi9, hm⟩ := ob hm
      refine op_val (ex_add hf rfl rfl hi9) rfl hf rfl rfl fun a hf => ?_
      refine op_val (ex_nilCheck hf rfl) rfl hf rfl rfl fun a hf => ?_
      refine op_val (ex_field fa_115_1 hf rfl) rfl hf rfl rfl fun a hf => ?_
      refine op_store1 (i := 0) (o := 1) (v := int i9) sz_3 rfl rfl rfl rfl hf rfl rfl hO fun w hO => ?_
      refine wpList_nil ?_
      refine nor_then (hK10 _ _ ?_)
      refine wp_seq_k fun _ hK11 => ?_
      refine wp_region_list ?_
      refine op_val (ex_assign hf rfl) rfl hf rfl rfl fun a hf => ?_
      refine wpList_nil ?_
      refine nor_then (hK11 _ _ ?_)
      refine wp_ret ?_
      obtain rfl := Option.some.inj hm
      exact post_ret Tryz.results68 hf (.tmp rfl .nil) ⟨rfl, hO⟩

set_option maxHeartbeats 1000000 in
theorem w_cookie_part_1 (x_a0 : UInt8) (R : Bool) (w0 : World) (hG : Glob w0) (hm : cookie_part_1 x_a0 = some R) :
    Calls Tryz.prog 70 #[byte x_a0] w0 fun e w' => e = .returned (.bool R) ∧ Below w0.heap.size w0 w' := by
  rw [cookie_part_1] at hm
  refine calls_enter (vs := [byte x_a0]) Tryz.func70 rfl Tryz.ntmps70 rfl fun a hf => ?_
  have hF : Away [] := away_nil
  have hO : Dk.Own w0 [] w0 [] := Dk.Own.refl w0
  refine wp_seq_k fun _ hK1 => ?_
  refine wp_region_list ?_
  refine op_val (ex_assign hf rfl) rfl hf rfl rfl fun a hf => ?_
  refine wpList_nil ?_
  refine nor_then (hK1 _ _ ?_)
  refine wp_seq_k fun _ hK2 => ?_
  refine wp_region_list ?_
  refine op_val (ex_assign hf rfl) rfl hf rfl rfl fun a hf => ?_
  refine wpList_nil ?_
  refine nor_then (hK2 _ _ ?_)
  refine wp_ret ?_
  obtain rfl := Option.some.inj hm
  exact post_ret Tryz.results70 hf (.tmp rfl .nil) ⟨rfl, hO.below⟩

end Go.Proofs
