/-
  Walks, written by a program (wip/gen): what its model says, the function returns; what was there before is as it was.
-/
import Derived.Test.YtgdhdeemlhllpabGreatDoorLib
import Derived.Test.YtgdhdeemlhllpabGreatDoorW0
import Derived.Test.YtgdhdeemlhllpabGreatDoorW3
set_option linter.unusedVariables false
set_option linter.unusedSimpArgs false
set_option maxRecDepth 100000
namespace Go.Proofs
open Go.Dk Go.Dm Go.RowKit

set_option maxHeartbeats 1000000 in
theorem w_scan_Scanner_End (x_c : scan_Scanner) (R : Bool) (w0 : World) (hG : Glob w0) {x_c_b0 : Nat} (hs0 : Sees w0 (some ⟨x_c_b0, 0, none⟩) [str x_c.f_s, int x_c.f_at]) (hm : scan_Scanner_End x_c = some R) :
    Calls Tryz.prog 62 #[ptr x_c_b0 0] w0 fun e w' => e = .returned (.bool R) ∧ Below w0.heap.size w0 w' := by
 rw [scan_Scanner_End] at hm
 refine calls_enter (vs := [ptr x_c_b0 0]) Tryz.func62 rfl Tryz.ntmps62 rfl fun a hf => ?_
 have hF : Away [] := away_nil
 have hO : Dk.Own w0 [] w0 [] := Dk.Own.refl w0
 have hO := hO.addShr hs0 (by simp [Res.shared])
 refine wp_seq_k fun _ hK1 => ?_
 refine wp_region_list ?_
 refine op_as hf rfl rfl fun a hf => ?_
 refine wpList_nil ?_
 refine nor_then (hK1 _ _ ?_)
 refine wp_seq_k fun _ hK3 => ?_
 refine wp_region_list ?_
 refine op_mv hf rfl rfl fun a hf => ?_
 obtain ⟨r2, hr2, hm⟩ := ob hm
 refine op_enter (ex_call c_106 hf (vs := [ptr x_c_b0 0]) rfl) rfl hf rfl rfl (w_scan_Scanner_Rest x_c r2 _ (hG.own hF hO) (hO.sees (i := 0) rfl) hr2) ?_
 rintro e w' ⟨he, hb⟩
 refine ⟨_, he, fun a hf => ?_⟩
 have hO := hO.grow hb
 refine op_val (ex_eql_s (l := r2) (m := []) hf rfl rfl) rfl hf rfl rfl fun a hf => ?_
 refine op_as hf rfl rfl fun a hf => ?_
 refine wpList_nil ?_
 refine nor_then (hK3 _ _ ?_)
 refine wp_ret ?_
 obtain rfl := Option.some.inj hm
 exact post_ret Tryz.results62 hf (.tmp rfl .nil) ⟨rfl, hO.below⟩

set_option maxHeartbeats 1000000 in
theorem w_scan_Scanner_Peek (x_c : scan_Scanner) (R : UInt8 × Bool) (w0 : World) (hG : Glob w0) {x_c_b0 : Nat} (hs0 : Sees w0 (some ⟨x_c_b0, 0, none⟩) [str x_c.f_s, int x_c.f_at]) (hm : scan_Scanner_Peek x_c = some R) :
    Calls Tryz.prog 104 #[ptr x_c_b0 0] w0 fun e w' => e = .returned (.tuple #[byte R.1, .bool R.2]) ∧ Below w0.heap.size w0 w' := by
 rw [scan_Scanner_Peek] at hm
 refine calls_enter (vs := [ptr x_c_b0 0]) Tryz.func104 rfl Tryz.ntmps104 rfl fun a hf => ?_
 have hF : Away [] := away_nil
 have hO : Dk.Own w0 [] w0 [] := Dk.Own.refl w0
 have hO := hO.addShr hs0 (by simp [Res.shared])
 refine wp_seq_k fun _ hK1 => ?_
 refine wp_region_list ?_
 refine op_as hf rfl rfl fun a hf => ?_
 refine op_as hf rfl rfl fun a hf => ?_
 refine wpList_nil ?_
 refine nor_then (hK1 _ _ ?_)
 refine wp_seq_k fun _ hK6 => ?_
 refine wp_seq_k fun _ hK3 => ?_
 refine wp_region_list ?_
 refine op_mv hf rfl rfl fun a hf => ?_
 obtain ⟨r2, hr2, hm⟩ := ob hm
 refine op_enter (ex_call c_62 hf (vs := [ptr x_c_b0 0]) rfl) rfl hf rfl rfl (w_scan_Scanner_End x_c r2 _ (hG.own hF hO) (hO.sees (i := 0) rfl) hr2) ?_
 rintro e w' ⟨he, hb⟩
 refine ⟨_, he, fun a hf => ?_⟩
 have hO := hO.grow hb
 refine wpList_nil ?_
 refine nor_then (hK3 _ _ ?_)
 refine wp_cond_cut hf rfl (fun hc4 => ?_) (fun hc4 => ?_)
 have hm := it hc4 hm
 refine wp_seq_k fun _ hK5 => ?_
 refine wp_region_list ?_
 refine op_as hf rfl rfl fun a hf => ?_
 refine op_as hf rfl rfl fun a hf => ?_
 refine wpList_nil ?_
 refine nor_then (hK5 _ _ ?_)
 refine wp_ret ?_
 refine ret_then ?_
 obtain rfl := Option.some.inj hm
 exact post_ret Tryz.results104 hf (.tmp rfl (.tmp rfl .nil)) ⟨rfl, hO.below⟩
 have hm := ie hc4 hm
 refine wp_skip ?_
 refine nor_then (hK6 _ _ ?_)
 refine wp_seq_k fun _ hK8 => ?_
 refine wp_quiet (by kernel_rfl) (by kernel_rfl) hO ?_
 refine q_val (fun w hO => ex_move hf rfl) rfl hf rfl rfl fun a hf => ?_
 refine q_val (fun w hO => ex_nilCheck hf rfl) rfl hf rfl rfl fun a hf => ?_
 refine q_val (fun w hO => ex_field fa_115_0 hf rfl) rfl hf rfl rfl fun a hf => ?_
 refine q_val (fun w hO => ex_load1 (o := 0) ag_9 (hO.sees (i := 0) rfl) rfl hf rfl) rfl hf rfl rfl fun a hf => ?_
 refine q_val (fun w hO => ex_move hf rfl) rfl hf rfl rfl fun a hf => ?_
 refine q_val (fun w hO => ex_nilCheck hf rfl) rfl hf rfl rfl fun a hf => ?_
 refine q_val (fun w hO => ex_field fa_115_1 hf rfl) rfl hf rfl rfl fun a hf => ?_
 refine q_val (fun w hO => ex_load1 (o := 1) ag_3 (hO.sees (i := 0) rfl) rfl hf rfl) rfl hf rfl rfl fun a hf => ?_
 obtain ⟨b7, hb7, hm⟩ := ob hm
 refine q_val (fun w hO => ex_index (l := x_c.f_s) Tryz.underlying9 hf rfl rfl hb7) rfl hf rfl rfl fun a hf => ?_
 refine q_val (fun w hO => ex_assign hf rfl) rfl hf rfl rfl fun a hf => ?_
 refine q_val (fun w hO => ex_assign hf rfl) rfl hf rfl rfl fun a hf => ?_
 refine wpQuiet_nil ?_
 intro w hO
 refine nor_then (hK8 _ _ ?_)
 refine wp_ret ?_
 obtain rfl := Option.some.inj hm
 exact post_ret Tryz.results104 hf (.tmp rfl (.tmp rfl .nil)) ⟨rfl, hO.below⟩

set_option maxHeartbeats 1000000 in
theorem w_scan_Scanner_While (x_c : scan_Scanner) (x_is : UInt8 → Option Bool) (R : Str × scan_Scanner) (w0 : World) (hG : Glob w0) {x_c_b0 : Nat} {F : List Nat} (hF : Away F) (hO : Dk.Own w0 F w0 [.blk x_c_b0 [str x_c.f_s, int x_c.f_at] 115]) {x_is_f : Nat} {x_is_p x_is_c : Array Value} (x_is_k : Callable Tryz.prog x_is_f) (x_is_h : ∀ (y0 : UInt8) (r : Bool) (w : World), Glob w → x_is y0 = some r → Calls Tryz.prog x_is_f (x_is_p ++ [byte y0].toArray ++ x_is_c) w fun e w' => e = .returned (.bool r) ∧ Below w.heap.size w w') (hm : scan_Scanner_While x_c x_is = some R) :
    Calls Tryz.prog 60 #[ptr x_c_b0 0, .func (.func x_is_f) x_is_p x_is_c] w0 fun e w' => e = .returned (str R.1) ∧ Dk.Own w0 F w' [.blk x_c_b0 [str R.2.f_s, int R.2.f_at] 115] := by
 rw [scan_Scanner_While] at hm
 refine calls_enter (vs := [ptr x_c_b0 0, .func (.func x_is_f) x_is_p x_is_c]) Tryz.func60 rfl Tryz.ntmps60 rfl fun a hf => ?_
 refine wp_seq_k fun _ hK1 => ?_
 refine wp_region_list ?_
 refine op_as hf rfl rfl fun a hf => ?_
 refine wpList_nil ?_
 refine nor_then (hK1 _ _ ?_)
 refine wp_seq_k fun _ hK3 => ?_
 refine wp_region_list ?_
 refine op_mv hf rfl rfl fun a hf => ?_
 obtain ⟨r2, hr2, hm⟩ := ob hm
 refine op_enter (ex_call c_105 hf (vs := [ptr x_c_b0 0]) rfl) rfl hf rfl rfl (w_scan_Scanner_At x_c r2 _ (hG.own hF hO) (hO.blkSees (i := 0) rfl) hr2) ?_
 rintro e w' ⟨he, hb⟩
 refine ⟨_, he, fun a hf => ?_⟩
 have hO := hO.grow hb
 refine op_as hf rfl rfl fun a hf => ?_
 refine wpList_nil ?_
 refine nor_then (hK3 _ _ ?_)
 refine wp_seq_cut (fun a w => ∃ (s14 : Str) (i15 : Int), Fits 42 [(0, ptr x_c_b0 0), (5, int r2)] a ∧ Dk.Own w0 F w [.blk x_c_b0 [str s14, int i15] 115] ∧ scan_Scanner_While_j3 r2 s14 i15 = some R) ?_ ?_
 refine wp_block ?_
 refine wp_loop_n (fun k a w => ∃ (s4 : Str) (i5 : Int), Fits 42 [(0, ptr x_c_b0 0), (1, .func (.func x_is_f) x_is_p x_is_c), (5, int r2)] a ∧ Dk.Own w0 F w [.blk x_c_b0 [str s4, int i5] 115] ∧ scan_Scanner_While_L1 x_is r2 k s4 i5 = some R) ?_ fuel ?_
 rintro n1 a w ⟨s4, i5, hf, hO, hm⟩
 obtain _ | n1 := n1
 rw [scan_Scanner_While_L1] at hm
 cases hm
 rw [scan_Scanner_While_L1] at hm
 refine wp_block ?_
 refine wp_seq_k fun _ hK7 => ?_
 refine wp_region_list ?_
 refine op_mv hf rfl rfl fun a hf => ?_
 obtain ⟨r6, hr6, hm⟩ := ob hm
 refine op_enter (ex_call c_104 hf (vs := [ptr x_c_b0 0]) rfl) rfl hf rfl rfl (w_scan_Scanner_Peek (⟨s4, i5⟩ : scan_Scanner) r6 _ (hG.own hF hO) (hO.blkSees (i := 0) rfl) hr6) ?_
 rintro e w' ⟨he, hb⟩
 refine ⟨_, he, fun a hf => ?_⟩
 have hO := hO.grow hb
 refine op_mv hf rfl rfl fun a hf => ?_
 refine op_val (ex_extract hf rfl rfl) rfl hf rfl rfl fun a hf => ?_
 refine op_val (ex_extract hf rfl rfl) rfl hf rfl rfl fun a hf => ?_
 refine op_as hf rfl rfl fun a hf => ?_
 refine op_as hf rfl rfl fun a hf => ?_
 refine wpList_nil ?_
 refine nor_then (hK7 _ _ ?_)
 refine wp_seq_k fun _ hK12 => ?_
 refine wp_seq_cut (fun a w => ∃ (t10 : Bool), Fits 42 [(0, ptr x_c_b0 0), (1, .func (.func x_is_f) x_is_p x_is_c), (5, int r2), (22, .bool t10)] a ∧ Dk.Own w0 F w [.blk x_c_b0 [str s4, int i5] 115] ∧ scan_Scanner_While_j2 (scan_Scanner_While_L1 x_is r2 n1) r2 s4 i5 t10 = some R) ?_ ?_
 refine wp_region_list ?_
 refine op_mv hf rfl rfl fun a hf => ?_
 refine op_val (ex_not hf rfl) rfl hf rfl rfl fun a hf => ?_
 refine op_mv hf rfl rfl fun a hf => ?_
 rcases bcase (!r6.2) with hc8 | hc8
 have hm := it hc8 hm
 refine op_pass rfl hf rfl rfl (hc8) rfl rfl fun a hf => ?_
 refine op_pass rfl hf rfl rfl (hc8) rfl rfl fun a hf => ?_
 refine op_pass rfl hf rfl rfl (hc8) rfl rfl fun a hf => ?_
 refine op_pass rfl hf rfl rfl (hc8) rfl rfl fun a hf => ?_
 refine op_val (ex_pick_t hf rfl hc8 rfl) rfl hf rfl rfl fun a hf => ?_
 refine wpList_nil ?_
 refine nor_then ?_
 exact ⟨true, (hf.cons rfl (hf.cons rfl (hf.cons rfl (hf.cons rfl hf.nil)))), hO, hm⟩
 have hm := ie hc8 hm
 refine op_guard rfl hf rfl rfl (hc8) ?_
 refine op_mv hf rfl rfl fun a hf => ?_
 refine op_guard rfl hf rfl rfl (hc8) ?_
 refine op_mv hf rfl rfl fun a hf => ?_
 refine op_guard rfl hf rfl rfl (hc8) ?_
 obtain ⟨r9, hr9, hm⟩ := ob hm
 refine op_enter (ex_callv x_is_k hf rfl (vs := [byte r6.1]) rfl) rfl hf rfl rfl (x_is_h r6.1 r9 _ (hG.own hF hO) hr9) ?_
 rintro e w' ⟨he, hb⟩
 refine ⟨_, he, fun a hf => ?_⟩
 have hO := hO.grow hb
 refine op_guard rfl hf rfl rfl (hc8) ?_
 refine op_val (ex_not hf rfl) rfl hf rfl rfl fun a hf => ?_
 refine op_val (ex_pick_f hf rfl hc8 rfl) rfl hf rfl rfl fun a hf => ?_
 refine wpList_nil ?_
 refine nor_then ?_
 exact ⟨!r9, (hf.cons rfl (hf.cons rfl (hf.cons rfl (hf.cons rfl hf.nil)))), hO, hm⟩
 rintro a w ⟨t10, hf, hO, hm⟩
 rw [scan_Scanner_While_j2] at hm
 refine wp_cond_cut hf rfl (fun hc11 => ?_) (fun hc11 => ?_)
 have hm := it hc11 hm
 refine wp_exit ?_
 refine exit_then ?_
 refine exit_past rfl ?_
 refine exit_then ?_
 refine exit_here ?_
 refine nor_then ?_
 exact ⟨s4, i5, (hf.cons rfl (hf.cons rfl hf.nil)), hO, hm⟩
 have hm := ie hc11 hm
 refine wp_skip ?_
 refine nor_then (hK12 _ _ ?_)
 refine wp_region_list ?_
 refine op_mv hf rfl rfl fun a hf => ?_
 refine op_val (ex_nilCheck hf rfl) rfl hf rfl rfl fun a hf => ?_
 refine op_val (ex_field fa_115_1 hf rfl) rfl hf rfl rfl fun a hf => ?_
 refine op_val (ex_load1 (o := 1) ag_3 (hO.blkSees (i := 0) rfl) rfl hf rfl) rfl hf rfl rfl fun a hf => ?_
 obtain ⟨i13, hi13, hm⟩ := ob hm
 refine op_val (ex_add hf rfl rfl hi13) rfl hf rfl rfl fun a hf => ?_
 refine op_val (ex_nilCheck hf rfl) rfl hf rfl rfl fun a hf => ?_
 refine op_val (ex_field fa_115_1 hf rfl) rfl hf rfl rfl fun a hf => ?_
 refine op_store1 (i := 0) (o := 1) (v := int i13) sz_3 rfl rfl rfl rfl hf rfl rfl hO fun w hO => ?_
 refine wpList_nil ?_
 refine nor_block ?_
 refine nor_then ?_
 exact ⟨_, Nat.lt_succ_self _, s4, i13, (hf.cons rfl (hf.cons rfl (hf.cons rfl hf.nil))), hO, hm⟩
 exact ⟨x_c.f_s, x_c.f_at, (hf.cons rfl (hf.cons rfl (hf.cons rfl hf.nil))), hO, hm⟩
 rintro a w ⟨s14, i15, hf, hO, hm⟩
 rw [scan_Scanner_While_j3] at hm
 refine wp_seq_k fun _ hK17 => ?_
 refine wp_seq_k fun _ hK16 => ?_
 refine wp_region_list ?_
 refine op_mv hf rfl rfl fun a hf => ?_
 refine op_val (ex_eql_pn Tryz.underlying81 hf rfl rfl) rfl hf rfl rfl fun a hf => ?_
 refine wpList_nil ?_
 refine nor_then (hK16 _ _ ?_)
 refine wp_cond_f hf rfl rfl ?_
 refine wp_skip ?_
 refine nor_then (hK17 _ _ ?_)
 refine wp_seq_k fun _ hK19 => ?_
 refine wp_quiet (by kernel_rfl) (by kernel_rfl) hO ?_
 refine q_val (fun w hO => ex_move hf rfl) rfl hf rfl rfl fun a hf => ?_
 refine q_val (fun w hO => ex_nilCheck hf rfl) rfl hf rfl rfl fun a hf => ?_
 refine q_val (fun w hO => ex_field fa_115_0 hf rfl) rfl hf rfl rfl fun a hf => ?_
 refine q_val (fun w hO => ex_load1 (o := 0) ag_9 (hO.blkSees (i := 0) rfl) rfl hf rfl) rfl hf rfl rfl fun a hf => ?_
 refine q_val (fun w hO => ex_move hf rfl) rfl hf rfl rfl fun a hf => ?_
 refine q_val (fun w hO => ex_move hf rfl) rfl hf rfl rfl fun a hf => ?_
 refine q_val (fun w hO => ex_nilCheck hf rfl) rfl hf rfl rfl fun a hf => ?_
 refine q_val (fun w hO => ex_field fa_115_1 hf rfl) rfl hf rfl rfl fun a hf => ?_
 refine q_val (fun w hO => ex_load1 (o := 1) ag_3 (hO.blkSees (i := 0) rfl) rfl hf rfl) rfl hf rfl rfl fun a hf => ?_
 obtain ⟨s18, hs18, hm⟩ := ob hm
 refine q_val (fun w hO => ex_sub_s (l := s14) Tryz.underlying9 hf rfl rfl rfl hs18) rfl hf rfl rfl fun a hf => ?_
 refine q_val (fun w hO => ex_assign hf rfl) rfl hf rfl rfl fun a hf => ?_
 refine wpQuiet_nil ?_
 intro w hO
 refine nor_then (hK19 _ _ ?_)
 refine wp_ret ?_
 obtain rfl := Option.some.inj hm
 exact post_ret Tryz.results60 hf (.tmp rfl .nil) ⟨rfl, hO⟩

set_option maxHeartbeats 1000000 in
theorem w_octet_IsToken (x_b : UInt8) (R : Bool) (w0 : World) (hG : Glob w0) (hm : octet_IsToken x_b = some R) :
    Calls Tryz.prog 103 #[byte x_b] w0 fun e w' => e = .returned (.bool R) ∧ Below w0.heap.size w0 w' := by
 rw [octet_IsToken] at hm
 refine calls_enter (vs := [byte x_b]) Tryz.func103 rfl Tryz.ntmps103 rfl fun a hf => ?_
 have hF : Away [] := away_nil
 have hO : Dk.Own w0 [] w0 [] := Dk.Own.refl w0
 refine wp_seq_k fun _ hK1 => ?_
 refine wp_region_list ?_
 refine op_as hf rfl rfl fun a hf => ?_
 refine wpList_nil ?_
 refine nor_then (hK1 _ _ ?_)
 refine wp_seq_cut (fun a w => ∃ (t7 : Bool), Fits 13 [(2, .bool t7)] a ∧ Dk.Own w0 [] w [] ∧ octet_IsToken_j1 t7 = some R) ?_ ?_
 refine wp_region_list ?_
 refine op_mv hf rfl rfl fun a hf => ?_
 obtain ⟨r2, hr2, hm⟩ := ob hm
 refine op_enter (ex_call c_122 hf (vs := [byte x_b]) rfl) rfl hf rfl rfl (w_octet_IsAlpha x_b r2 _ (hG.own hF hO) hr2) ?_
 rintro e w' ⟨he, hb⟩
 refine ⟨_, he, fun a hf => ?_⟩
 have hO := hO.grow hb
 refine op_mv hf rfl rfl fun a hf => ?_
 rcases bcase (r2) with hc3 | hc3
 have hm := it hc3 hm
 refine op_pass rfl hf rfl rfl (hc3) rfl rfl fun a hf => ?_
 refine op_pass rfl hf rfl rfl (hc3) rfl rfl fun a hf => ?_
 refine op_val (ex_pick_t hf rfl hc3 rfl) rfl hf rfl rfl fun a hf => ?_
 refine op_mv hf rfl rfl fun a hf => ?_
 refine op_pass rfl hf rfl rfl (rfl) rfl rfl fun a hf => ?_
 refine op_pass rfl hf rfl rfl (rfl) rfl rfl fun a hf => ?_
 refine op_val (ex_pick_t hf rfl rfl rfl) rfl hf rfl rfl fun a hf => ?_
 refine op_as hf rfl rfl fun a hf => ?_
 refine wpList_nil ?_
 refine nor_then ?_
 exact ⟨true, (hf.cons rfl hf.nil), hO, hm⟩
 have hm := ie hc3 hm
 refine op_guard rfl hf rfl rfl (hc3) ?_
 refine op_mv hf rfl rfl fun a hf => ?_
 refine op_guard rfl hf rfl rfl (hc3) ?_
 obtain ⟨r4, hr4, hm⟩ := ob hm
 refine op_enter (ex_call c_123 hf (vs := [byte x_b]) rfl) rfl hf rfl rfl (w_octet_IsDigit x_b r4 _ (hG.own hF hO) hr4) ?_
 rintro e w' ⟨he, hb⟩
 refine ⟨_, he, fun a hf => ?_⟩
 have hO := hO.grow hb
 refine op_val (ex_pick_f hf rfl hc3 rfl) rfl hf rfl rfl fun a hf => ?_
 refine op_mv hf rfl rfl fun a hf => ?_
 rcases bcase (r4) with hc5 | hc5
 have hm := it hc5 hm
 refine op_pass rfl hf rfl rfl (hc5) rfl rfl fun a hf => ?_
 refine op_pass rfl hf rfl rfl (hc5) rfl rfl fun a hf => ?_
 refine op_val (ex_pick_t hf rfl hc5 rfl) rfl hf rfl rfl fun a hf => ?_
 refine op_as hf rfl rfl fun a hf => ?_
 refine wpList_nil ?_
 refine nor_then ?_
 exact ⟨true, (hf.cons rfl hf.nil), hO, hm⟩
 have hm := ie hc5 hm
 refine op_guard rfl hf rfl rfl (hc5) ?_
 refine op_mv hf rfl rfl fun a hf => ?_
 refine op_guard rfl hf rfl rfl (hc5) ?_
 obtain ⟨r6, hr6, hm⟩ := ob hm
 refine op_enter (ex_call c_124 hf (vs := [byte x_b, str [33, 35, 36, 37, 38, 39, 42, 43, 45, 46, 94, 95, 96, 124, 126]]) rfl) rfl hf rfl rfl (w_octet_one x_b [33, 35, 36, 37, 38, 39, 42, 43, 45, 46, 94, 95, 96, 124, 126] r6 _ (hG.own hF hO) hr6) ?_
 rintro e w' ⟨he, hb⟩
 refine ⟨_, he, fun a hf => ?_⟩
 have hO := hO.grow hb
 refine op_val (ex_pick_f hf rfl hc5 rfl) rfl hf rfl rfl fun a hf => ?_
 refine op_as hf rfl rfl fun a hf => ?_
 refine wpList_nil ?_
 refine nor_then ?_
 exact ⟨r6, (hf.cons rfl hf.nil), hO, hm⟩
 rintro a w ⟨t7, hf, hO, hm⟩
 rw [octet_IsToken_j1] at hm
 refine wp_ret ?_
 obtain rfl := Option.some.inj hm
 exact post_ret Tryz.results103 hf (.tmp rfl .nil) ⟨rfl, hO.below⟩

set_option maxHeartbeats 1000000 in
theorem w_scan_Scanner_Token (x_c : scan_Scanner) (R : Str × Bool × scan_Scanner) (w0 : World) (hG : Glob w0) {x_c_b0 : Nat} {F : List Nat} (hF : Away F) (hO : Dk.Own w0 F w0 [.blk x_c_b0 [str x_c.f_s, int x_c.f_at] 115]) (hm : scan_Scanner_Token x_c = some R) :
    Calls Tryz.prog 58 #[ptr x_c_b0 0] w0 fun e w' => e = .returned (.tuple #[str R.1, .bool R.2.1]) ∧ Dk.Own w0 F w' [.blk x_c_b0 [str R.2.2.f_s, int R.2.2.f_at] 115] := by
 rw [scan_Scanner_Token] at hm
 refine calls_enter (vs := [ptr x_c_b0 0]) Tryz.func58 rfl Tryz.ntmps58 rfl fun a hf => ?_
 refine wp_seq_k fun _ hK1 => ?_
 refine wp_region_list ?_
 refine op_as hf rfl rfl fun a hf => ?_
 refine op_as hf rfl rfl fun a hf => ?_
 refine wpList_nil ?_
 refine nor_then (hK1 _ _ ?_)
 refine wp_seq_k fun _ hK4 => ?_
 refine wp_region_list ?_
 refine op_mv hf rfl rfl fun a hf => ?_
 obtain ⟨r2, hr2, hm⟩ := ob hm
 have hch3 := (show Dk.Own w0 F _ ([.blk x_c_b0 [str x_c.f_s, int x_c.f_at] 115] ++ []) from hO)
 have hfar3 := Dk.Own.far hch3 rfl hF hG.size
 have hlend3 := hch3.lend (S := []) rfl trivial
 have hcl3 := w_scan_Scanner_While x_c octet_IsToken r2 _ (hG.own hF hO) hfar3 hlend3 c_103 (fun y0 r w hG h => callsE (w_octet_IsToken y0 r w hG h)) hr2
 refine op_enter (ex_call c_60 hf (vs := [ptr x_c_b0 0, .func (.func 103) #[] #[]]) rfl) rfl hf rfl rfl (hcl3) ?_
 rintro e w' ⟨he, hO'⟩
 refine ⟨_, he, fun a hf => ?_⟩
 have hO := hch3.back rfl hO' rfl
 refine op_as hf rfl rfl fun a hf => ?_
 refine wpList_nil ?_
 refine nor_then (hK4 _ _ ?_)
 refine wp_seq_k fun _ hK5 => ?_
 refine wp_region_list ?_
 refine op_mv hf rfl rfl fun a hf => ?_
 refine op_mv hf rfl rfl fun a hf => ?_
 refine op_val (ex_neq_s (l := r2.1) (m := []) hf rfl rfl) rfl hf rfl rfl fun a hf => ?_
 refine op_as hf rfl rfl fun a hf => ?_
 refine op_as hf rfl rfl fun a hf => ?_
 refine wpList_nil ?_
 refine nor_then (hK5 _ _ ?_)
 refine wp_ret ?_
 obtain rfl := Option.some.inj hm
 exact post_ret Tryz.results58 hf (.tmp rfl (.tmp rfl .nil)) ⟨rfl, hO⟩

set_option maxHeartbeats 1000000 in
theorem w_scan_Scanner_Byte (x_c : scan_Scanner) (x_b : UInt8) (R : Bool × scan_Scanner) (w0 : World) (hG : Glob w0) {x_c_b0 : Nat} {F : List Nat} (hF : Away F) (hO : Dk.Own w0 F w0 [.blk x_c_b0 [str x_c.f_s, int x_c.f_at] 115]) (hm : scan_Scanner_Byte x_c x_b = some R) :
    Calls Tryz.prog 59 #[ptr x_c_b0 0, byte x_b] w0 fun e w' => e = .returned (.bool R.1) ∧ Dk.Own w0 F w' [.blk x_c_b0 [str R.2.f_s, int R.2.f_at] 115] := by
 rw [scan_Scanner_Byte] at hm
 refine calls_enter (vs := [ptr x_c_b0 0, byte x_b]) Tryz.func59 rfl Tryz.ntmps59 rfl fun a hf => ?_
 refine wp_seq_k fun _ hK1 => ?_
 refine wp_region_list ?_
 refine op_as hf rfl rfl fun a hf => ?_
 refine wpList_nil ?_
 refine nor_then (hK1 _ _ ?_)
 refine wp_seq_k fun _ hK3 => ?_
 refine wp_region_list ?_
 refine op_mv hf rfl rfl fun a hf => ?_
 obtain ⟨r2, hr2, hm⟩ := ob hm
 refine op_enter (ex_call c_104 hf (vs := [ptr x_c_b0 0]) rfl) rfl hf rfl rfl (w_scan_Scanner_Peek x_c r2 _ (hG.own hF hO) (hO.blkSees (i := 0) rfl) hr2) ?_
 rintro e w' ⟨he, hb⟩
 refine ⟨_, he, fun a hf => ?_⟩
 have hO := hO.grow hb
 refine op_mv hf rfl rfl fun a hf => ?_
 refine op_val (ex_extract hf rfl rfl) rfl hf rfl rfl fun a hf => ?_
 refine op_val (ex_extract hf rfl rfl) rfl hf rfl rfl fun a hf => ?_
 refine op_as hf rfl rfl fun a hf => ?_
 refine op_as hf rfl rfl fun a hf => ?_
 refine wpList_nil ?_
 refine nor_then (hK3 _ _ ?_)
 refine wp_seq_k fun _ hK8 => ?_
 refine wp_seq_cut (fun a w => ∃ (t5 : Bool), Fits 26 [(0, ptr x_c_b0 0), (18, .bool t5)] a ∧ Dk.Own w0 F w [.blk x_c_b0 [str x_c.f_s, int x_c.f_at] 115] ∧ scan_Scanner_Byte_j1 x_c t5 = some R) ?_ ?_
 refine wp_region_list ?_
 refine op_mv hf rfl rfl fun a hf => ?_
 refine op_val (ex_not hf rfl) rfl hf rfl rfl fun a hf => ?_
 refine op_mv hf rfl rfl fun a hf => ?_
 rcases bcase (!r2.2) with hc4 | hc4
 have hm := it hc4 hm
 refine op_pass rfl hf rfl rfl (hc4) rfl rfl fun a hf => ?_
 refine op_pass rfl hf rfl rfl (hc4) rfl rfl fun a hf => ?_
 refine op_pass rfl hf rfl rfl (hc4) rfl rfl fun a hf => ?_
 refine op_val (ex_pick_t hf rfl hc4 rfl) rfl hf rfl rfl fun a hf => ?_
 refine wpList_nil ?_
 refine nor_then ?_
 exact ⟨true, (hf.cons rfl (hf.cons rfl hf.nil)), hO, hm⟩
 have hm := ie hc4 hm
 refine op_guard rfl hf rfl rfl (hc4) ?_
 refine op_mv hf rfl rfl fun a hf => ?_
 refine op_guard rfl hf rfl rfl (hc4) ?_
 refine op_mv hf rfl rfl fun a hf => ?_
 refine op_guard rfl hf rfl rfl (hc4) ?_
 refine op_val (ex_neq_b (b := r2.1) (c := x_b) hf rfl rfl) rfl hf rfl rfl fun a hf => ?_
 refine op_val (ex_pick_f hf rfl hc4 rfl) rfl hf rfl rfl fun a hf => ?_
 refine wpList_nil ?_
 refine nor_then ?_
 exact ⟨!(r2.1 == x_b), (hf.cons rfl (hf.cons rfl hf.nil)), hO, hm⟩
 rintro a w ⟨t5, hf, hO, hm⟩
 rw [scan_Scanner_Byte_j1] at hm
 refine wp_cond_cut hf rfl (fun hc6 => ?_) (fun hc6 => ?_)
 have hm := it hc6 hm
 refine wp_seq_k fun _ hK7 => ?_
 refine wp_region_list ?_
 refine op_as hf rfl rfl fun a hf => ?_
 refine wpList_nil ?_
 refine nor_then (hK7 _ _ ?_)
 refine wp_ret ?_
 refine ret_then ?_
 obtain rfl := Option.some.inj hm
 exact post_ret Tryz.results59 hf (.tmp rfl .nil) ⟨rfl, hO⟩
 have hm := ie hc6 hm
 refine wp_skip ?_
 refine nor_then (hK8 _ _ ?_)
 refine wp_seq_k fun _ hK10 => ?_
 refine wp_region_list ?_
 refine op_mv hf rfl rfl fun a hf => ?_
 refine op_val (ex_nilCheck hf rfl) rfl hf rfl rfl fun a hf => ?_
 refine op_val (ex_field fa_115_1 hf rfl) rfl hf rfl rfl fun a hf => ?_
 refine op_val (ex_load1 (o := 1) ag_3 (hO.blkSees (i := 0) rfl) rfl hf rfl) rfl hf rfl rfl fun a hf => ?_
 obtain ⟨i9, hi9, hm⟩ := ob hm
 refine op_val (ex_add hf rfl rfl hi9) rfl hf rfl rfl fun a hf => ?_
 refine op_val (ex_nilCheck hf rfl) rfl hf rfl rfl fun a hf => ?_
 refine op_val (ex_field fa_115_1 hf rfl) rfl hf rfl rfl fun a hf => ?_
 refine op_store1 (i := 0) (o := 1) (v := int i9) sz_3 rfl rfl rfl rfl hf rfl rfl hO fun w hO => ?_
 refine wpList_nil ?_
 refine nor_then (hK10 _ _ ?_)
 refine wp_seq_k fun _ hK11 => ?_
 refine wp_region_list ?_
 refine op_as hf rfl rfl fun a hf => ?_
 refine wpList_nil ?_
 refine nor_then (hK11 _ _ ?_)
 refine wp_ret ?_
 obtain rfl := Option.some.inj hm
 exact post_ret Tryz.results59 hf (.tmp rfl .nil) ⟨rfl, hO⟩

set_option maxHeartbeats 1000000 in
theorem w_cookie_part_1 (x_a0 : UInt8) (R : Bool) (w0 : World) (hG : Glob w0) (hm : cookie_part_1 x_a0 = some R) :
    Calls Tryz.prog 61 #[byte x_a0] w0 fun e w' => e = .returned (.bool R) ∧ Below w0.heap.size w0 w' := by
 rw [cookie_part_1] at hm
 refine calls_enter (vs := [byte x_a0]) Tryz.func61 rfl Tryz.ntmps61 rfl fun a hf => ?_
 have hF : Away [] := away_nil
 have hO : Dk.Own w0 [] w0 [] := Dk.Own.refl w0
 refine wp_seq_k fun _ hK1 => ?_
 refine wp_region_list ?_
 refine op_as hf rfl rfl fun a hf => ?_
 refine wpList_nil ?_
 refine nor_then (hK1 _ _ ?_)
 refine wp_seq_k fun _ hK2 => ?_
 refine wp_region_list ?_
 refine op_as hf rfl rfl fun a hf => ?_
 refine wpList_nil ?_
 refine nor_then (hK2 _ _ ?_)
 refine wp_ret ?_
 obtain rfl := Option.some.inj hm
 exact post_ret Tryz.results61 hf (.tmp rfl .nil) ⟨rfl, hO.below⟩

set_option maxHeartbeats 1000000 in
theorem w_octet_IsVisible (x_b : UInt8) (R : Bool) (w0 : World) (hG : Glob w0) (hm : octet_IsVisible x_b = some R) :
    Calls Tryz.prog 107 #[byte x_b] w0 fun e w' => e = .returned (.bool R) ∧ Below w0.heap.size w0 w' := by
 rw [octet_IsVisible] at hm
 refine calls_enter (vs := [byte x_b]) Tryz.func107 rfl Tryz.ntmps107 rfl fun a hf => ?_
 have hF : Away [] := away_nil
 have hO : Dk.Own w0 [] w0 [] := Dk.Own.refl w0
 refine wp_seq_k fun _ hK1 => ?_
 refine wp_region_list ?_
 refine op_as hf rfl rfl fun a hf => ?_
 refine wpList_nil ?_
 refine nor_then (hK1 _ _ ?_)
 refine wp_seq_cut (fun a w => ∃ (t3 : Bool), Fits 9 [(2, .bool t3)] a ∧ Dk.Own w0 [] w [] ∧ octet_IsVisible_j1 t3 = some R) ?_ ?_
 refine wp_region_list ?_
 refine op_mv hf rfl rfl fun a hf => ?_
 refine op_val (ex_gtr_b (b := x_b) (c := 32) hf rfl rfl) rfl hf rfl rfl fun a hf => ?_
 refine op_mv hf rfl rfl fun a hf => ?_
 rcases bcase (decide (32 < x_b)) with hc2 | hc2
 have hm := it hc2 hm
 refine op_guard rfl hf rfl rfl (hc2) ?_
 refine op_mv hf rfl rfl fun a hf => ?_
 refine op_guard rfl hf rfl rfl (hc2) ?_
 refine op_val (ex_lss_b (b := x_b) (c := 127) hf rfl rfl) rfl hf rfl rfl fun a hf => ?_
 refine op_val (ex_pick_t hf rfl hc2 rfl) rfl hf rfl rfl fun a hf => ?_
 refine op_as hf rfl rfl fun a hf => ?_
 refine wpList_nil ?_
 refine nor_then ?_
 exact ⟨decide (x_b < 127), (hf.cons rfl hf.nil), hO, hm⟩
 have hm := ie hc2 hm
 refine op_pass rfl hf rfl rfl (hc2) rfl rfl fun a hf => ?_
 refine op_pass rfl hf rfl rfl (hc2) rfl rfl fun a hf => ?_
 refine op_val (ex_pick_f hf rfl hc2 rfl) rfl hf rfl rfl fun a hf => ?_
 refine op_as hf rfl rfl fun a hf => ?_
 refine wpList_nil ?_
 refine nor_then ?_
 exact ⟨false, (hf.cons rfl hf.nil), hO, hm⟩
 rintro a w ⟨t3, hf, hO, hm⟩
 rw [octet_IsVisible_j1] at hm
 refine wp_ret ?_
 obtain rfl := Option.some.inj hm
 exact post_ret Tryz.results107 hf (.tmp rfl .nil) ⟨rfl, hO.below⟩

set_option maxHeartbeats 1000000 in
theorem w_octet_IsBlank (x_b : UInt8) (R : Bool) (w0 : World) (hG : Glob w0) (hm : octet_IsBlank x_b = some R) :
    Calls Tryz.prog 108 #[byte x_b] w0 fun e w' => e = .returned (.bool R) ∧ Below w0.heap.size w0 w' := by
 rw [octet_IsBlank] at hm
 refine calls_enter (vs := [byte x_b]) Tryz.func108 rfl Tryz.ntmps108 rfl fun a hf => ?_
 have hF : Away [] := away_nil
 have hO : Dk.Own w0 [] w0 [] := Dk.Own.refl w0
 refine wp_seq_k fun _ hK1 => ?_
 refine wp_region_list ?_
 refine op_as hf rfl rfl fun a hf => ?_
 refine wpList_nil ?_
 refine nor_then (hK1 _ _ ?_)
 refine wp_seq_cut (fun a w => ∃ (t3 : Bool), Fits 9 [(2, .bool t3)] a ∧ Dk.Own w0 [] w [] ∧ octet_IsBlank_j1 t3 = some R) ?_ ?_
 refine wp_region_list ?_
 refine op_mv hf rfl rfl fun a hf => ?_
 refine op_val (ex_eql_b (b := x_b) (c := 32) hf rfl rfl) rfl hf rfl rfl fun a hf => ?_
 refine op_mv hf rfl rfl fun a hf => ?_
 rcases bcase (x_b == 32) with hc2 | hc2
 have hm := it hc2 hm
 refine op_pass rfl hf rfl rfl (hc2) rfl rfl fun a hf => ?_
 refine op_pass rfl hf rfl rfl (hc2) rfl rfl fun a hf => ?_
 refine op_val (ex_pick_t hf rfl hc2 rfl) rfl hf rfl rfl fun a hf => ?_
 refine op_as hf rfl rfl fun a hf => ?_
 refine wpList_nil ?_
 refine nor_then ?_
 exact ⟨true, (hf.cons rfl hf.nil), hO, hm⟩
 have hm := ie hc2 hm
 refine op_guard rfl hf rfl rfl (hc2) ?_
 refine op_mv hf rfl rfl fun a hf => ?_
 refine op_guard rfl hf rfl rfl (hc2) ?_
 refine op_val (ex_eql_b (b := x_b) (c := 9) hf rfl rfl) rfl hf rfl rfl fun a hf => ?_
 refine op_val (ex_pick_f hf rfl hc2 rfl) rfl hf rfl rfl fun a hf => ?_
 refine op_as hf rfl rfl fun a hf => ?_
 refine wpList_nil ?_
 refine nor_then ?_
 exact ⟨x_b == 9, (hf.cons rfl hf.nil), hO, hm⟩
 rintro a w ⟨t3, hf, hO, hm⟩
 rw [octet_IsBlank_j1] at hm
 refine wp_ret ?_
 obtain rfl := Option.some.inj hm
 exact post_ret Tryz.results108 hf (.tmp rfl .nil) ⟨rfl, hO.below⟩

set_option maxHeartbeats 1000000 in
theorem w_octet_IsValue (x_b : UInt8) (R : Bool) (w0 : World) (hG : Glob w0) (hm : octet_IsValue x_b = some R) :
    Calls Tryz.prog 64 #[byte x_b] w0 fun e w' => e = .returned (.bool R) ∧ Below w0.heap.size w0 w' := by
 rw [octet_IsValue] at hm
 refine calls_enter (vs := [byte x_b]) Tryz.func64 rfl Tryz.ntmps64 rfl fun a hf => ?_
 have hF : Away [] := away_nil
 have hO : Dk.Own w0 [] w0 [] := Dk.Own.refl w0
 refine wp_seq_k fun _ hK1 => ?_
 refine wp_region_list ?_
 refine op_as hf rfl rfl fun a hf => ?_
 refine wpList_nil ?_
 refine nor_then (hK1 _ _ ?_)
 refine wp_seq_cut (fun a w => ∃ (t6 : Bool), Fits 13 [(2, .bool t6)] a ∧ Dk.Own w0 [] w [] ∧ octet_IsValue_j1 t6 = some R) ?_ ?_
 refine wp_region_list ?_
 refine op_mv hf rfl rfl fun a hf => ?_
 obtain ⟨r2, hr2, hm⟩ := ob hm
 refine op_enter (ex_call c_107 hf (vs := [byte x_b]) rfl) rfl hf rfl rfl (w_octet_IsVisible x_b r2 _ (hG.own hF hO) hr2) ?_
 rintro e w' ⟨he, hb⟩
 refine ⟨_, he, fun a hf => ?_⟩
 have hO := hO.grow hb
 refine op_mv hf rfl rfl fun a hf => ?_
 rcases bcase (r2) with hc3 | hc3
 have hm := it hc3 hm
 refine op_pass rfl hf rfl rfl (hc3) rfl rfl fun a hf => ?_
 refine op_pass rfl hf rfl rfl (hc3) rfl rfl fun a hf => ?_
 refine op_val (ex_pick_t hf rfl hc3 rfl) rfl hf rfl rfl fun a hf => ?_
 refine op_mv hf rfl rfl fun a hf => ?_
 refine op_pass rfl hf rfl rfl (rfl) rfl rfl fun a hf => ?_
 refine op_pass rfl hf rfl rfl (rfl) rfl rfl fun a hf => ?_
 refine op_val (ex_pick_t hf rfl rfl rfl) rfl hf rfl rfl fun a hf => ?_
 refine op_as hf rfl rfl fun a hf => ?_
 refine wpList_nil ?_
 refine nor_then ?_
 exact ⟨true, (hf.cons rfl hf.nil), hO, hm⟩
 have hm := ie hc3 hm
 refine op_guard rfl hf rfl rfl (hc3) ?_
 refine op_mv hf rfl rfl fun a hf => ?_
 refine op_guard rfl hf rfl rfl (hc3) ?_
 obtain ⟨r4, hr4, hm⟩ := ob hm
 refine op_enter (ex_call c_108 hf (vs := [byte x_b]) rfl) rfl hf rfl rfl (w_octet_IsBlank x_b r4 _ (hG.own hF hO) hr4) ?_
 rintro e w' ⟨he, hb⟩
 refine ⟨_, he, fun a hf => ?_⟩
 have hO := hO.grow hb
 refine op_val (ex_pick_f hf rfl hc3 rfl) rfl hf rfl rfl fun a hf => ?_
 refine op_mv hf rfl rfl fun a hf => ?_
 rcases bcase (r4) with hc5 | hc5
 have hm := it hc5 hm
 refine op_pass rfl hf rfl rfl (hc5) rfl rfl fun a hf => ?_
 refine op_pass rfl hf rfl rfl (hc5) rfl rfl fun a hf => ?_
 refine op_val (ex_pick_t hf rfl hc5 rfl) rfl hf rfl rfl fun a hf => ?_
 refine op_as hf rfl rfl fun a hf => ?_
 refine wpList_nil ?_
 refine nor_then ?_
 exact ⟨true, (hf.cons rfl hf.nil), hO, hm⟩
 have hm := ie hc5 hm
 refine op_guard rfl hf rfl rfl (hc5) ?_
 refine op_mv hf rfl rfl fun a hf => ?_
 refine op_guard rfl hf rfl rfl (hc5) ?_
 refine op_val (ex_gtr_b (b := x_b) (c := 127) hf rfl rfl) rfl hf rfl rfl fun a hf => ?_
 refine op_val (ex_pick_f hf rfl hc5 rfl) rfl hf rfl rfl fun a hf => ?_
 refine op_as hf rfl rfl fun a hf => ?_
 refine wpList_nil ?_
 refine nor_then ?_
 exact ⟨decide (127 < x_b), (hf.cons rfl hf.nil), hO, hm⟩
 rintro a w ⟨t6, hf, hO, hm⟩
 rw [octet_IsValue_j1] at hm
 refine wp_ret ?_
 obtain rfl := Option.some.inj hm
 exact post_ret Tryz.results64 hf (.tmp rfl .nil) ⟨rfl, hO.below⟩

set_option maxHeartbeats 1000000 in
theorem w_cookie_part (x_s : Str) (R : api_Attr × Bool) (w0 : World) (hG : Glob w0) (hm : cookie_part x_s = some R) :
    Calls Tryz.prog 30 #[str x_s] w0 fun e w' => e = .returned (.tuple #[.agg #[str R.1.Name, str R.1.Value, .bool R.1.Has], .bool R.2]) ∧ Below w0.heap.size w0 w' := by
 rw [cookie_part] at hm
 refine calls_enter (vs := [str x_s]) Tryz.func30 rfl Tryz.ntmps30 rfl fun a hf => ?_
 have hF : Away [] := away_nil
 have hO : Dk.Own w0 [] w0 [] := Dk.Own.refl w0
 refine wp_seq_k fun _ hK2 => ?_
 refine wp_region_list ?_
 refine op_alloc al_64 hf rfl hO fun a b1 w hf hO => ?_
 refine op_as hf rfl rfl fun a hf => ?_
 refine wpList_nil ?_
 refine nor_then (hK2 _ _ ?_)
 refine wp_seq_k fun _ hK6 => ?_
 refine wp_region_list ?_
 refine op_mv hf rfl rfl fun a hf => ?_
 obtain ⟨r3, hr3, hm⟩ := ob hm
 refine op_enter (ex_call c_57 hf (vs := [str x_s, str [32, 9]]) rfl) rfl hf rfl rfl (w_strings_Trim x_s [32, 9] r3 _ (hG.own hF hO) hr3) ?_
 rintro e w' ⟨he, hb⟩
 refine ⟨_, he, fun a hf => ?_⟩
 have hO := hO.grow hb
 obtain ⟨r4, hr4, hm⟩ := ob hm
 refine op_enter (ex_call c_56 hf (vs := [str r3]) rfl) rfl hf rfl rfl (w_scan_New r3 r4 _ (hG.own hF hO) hr4) ?_
 rintro e w' ⟨b5, he, hO'⟩
 refine ⟨_, he, fun a hf => ?_⟩
 have hO := hO.call hO' (by simp [Res.shared])
 refine op_as hf rfl rfl fun a hf => ?_
 refine wpList_nil ?_
 refine nor_then (hK6 _ _ ?_)
 refine wp_seq_k fun _ hK9 => ?_
 refine wp_region_list ?_
 refine op_mv hf rfl rfl fun a hf => ?_
 obtain ⟨r7, hr7, hm⟩ := ob hm
 have hch8 := (show Dk.Own w0 [] _ ([.blk b5 [str r4.f_s, int r4.f_at] 115] ++ [.blk b1 [str [], str [], .bool false] 64]) from hO)
 have hfar8 := Dk.Own.far hch8 rfl hF hG.size
 have hlend8 := hch8.lend (S := []) rfl trivial
 have hcl8 := w_scan_Scanner_Token r4 r7 _ (hG.own hF hO) hfar8 hlend8 hr7
 refine op_enter (ex_call c_58 hf (vs := [ptr b5 0]) rfl) rfl hf rfl rfl (hcl8) ?_
 rintro e w' ⟨he, hO'⟩
 refine ⟨_, he, fun a hf => ?_⟩
 have hO := hch8.back rfl hO' rfl
 refine op_mv hf rfl rfl fun a hf => ?_
 refine op_val (ex_extract hf rfl rfl) rfl hf rfl rfl fun a hf => ?_
 refine op_val (ex_extract hf rfl rfl) rfl hf rfl rfl fun a hf => ?_
 refine op_as hf rfl rfl fun a hf => ?_
 refine op_as hf rfl rfl fun a hf => ?_
 refine wpList_nil ?_
 refine nor_then (hK9 _ _ ?_)
 refine wp_seq_k fun _ hK13 => ?_
 refine wp_region_list ?_
 refine op_mv hf rfl rfl fun a hf => ?_
 refine op_mv hf rfl rfl fun a hf => ?_
 obtain ⟨r10, hr10, hm⟩ := ob hm
 have hch11 := (show Dk.Own w0 [] _ ([.blk b5 [str r7.2.2.f_s, int r7.2.2.f_at] 115] ++ [.blk b1 [str [], str [], .bool false] 64]) from hO)
 have hfar11 := Dk.Own.far hch11 rfl hF hG.size
 have hlend11 := hch11.lend (S := []) rfl trivial
 have hcl11 := w_scan_Scanner_Byte r7.2.2 61 r10 _ (hG.own hF hO) hfar11 hlend11 hr10
 refine op_enter (ex_call c_59 hf (vs := [ptr b5 0, byte 61]) rfl) rfl hf rfl rfl (hcl11) ?_
 rintro e w' ⟨he, hO'⟩
 refine ⟨_, he, fun a hf => ?_⟩
 have hO := hch11.back rfl hO' rfl
 refine op_val (ex_build (vs := [(0, str r7.1), (2, .bool r10.1)]) (v := .agg #[str r7.1, str [], .bool r10.1]) hf rfl (by kernel_rfl)) rfl hf rfl rfl fun a hf => ?_
 refine op_alloc al_64 hf rfl hO fun a b12 w hf hO => ?_
 refine op_storeN (i := 0) (n := 3) sz_64 rfl rfl rfl (by simp [Value.oneCell']) hf rfl rfl hO fun w hO => ?_
 refine wpList_nil ?_
 refine nor_then (hK13 _ _ ?_)
 refine wp_seq_cut (fun a w => ∃ (s18 : Str) (i19 : Int) (s20 : Str), Fits 45 [(2, ptr b1 0), (4, ptr b5 0), (6, .bool r7.2.1), (7, ptr b12 0)] a ∧ Dk.Own w0 [] w [.blk b5 [str s18, int i19] 115, .blk b12 [str r7.1, str s20, .bool r10.1] 64, .blk b1 [str [], str [], .bool false] 64] ∧ cookie_part_j1 r7 r10 s18 i19 s20 = some R) ?_ ?_
 refine wp_seq_k fun _ hK14 => ?_
 refine wp_region_list ?_
 refine op_val (ex_field fa_64_2 hf rfl) rfl hf rfl rfl fun a hf => ?_
 refine op_val (ex_load1 (o := 2) ag_4 (hO.blkSees (i := 0) rfl) rfl hf rfl) rfl hf rfl rfl fun a hf => ?_
 refine wpList_nil ?_
 refine nor_then (hK14 _ _ ?_)
 refine wp_cond_cut hf rfl (fun hc15 => ?_) (fun hc15 => ?_)
 have hm := it hc15 hm
 refine wp_region_list ?_
 refine op_mv hf rfl rfl fun a hf => ?_
 obtain ⟨r16, hr16, hm⟩ := ob hm
 have hch17 := (show Dk.Own w0 [] _ ([.blk b5 [str r10.2.f_s, int r10.2.f_at] 115] ++ [.blk b12 [str r7.1, str [], .bool r10.1] 64, .blk b1 [str [], str [], .bool false] 64]) from hO.choose [1, 0, 2] rfl)
 have hfar17 := Dk.Own.far hch17 rfl hF hG.size
 have hlend17 := hch17.lend (S := []) rfl trivial
 have hcl17 := w_scan_Scanner_While r10.2 cookie_part_1 r16 _ (hG.own hF hO) hfar17 hlend17 c_61 (fun y0 r w hG h => callsE (w_cookie_part_1 y0 r w hG h)) hr16
 refine op_enter (ex_call c_60 hf (vs := [ptr b5 0, .func (.func 61) #[] #[]]) rfl) rfl hf rfl rfl (hcl17) ?_
 rintro e w' ⟨he, hO'⟩
 refine ⟨_, he, fun a hf => ?_⟩
 have hO := hch17.back rfl hO' rfl
 refine op_val (ex_field fa_64_1 hf rfl) rfl hf rfl rfl fun a hf => ?_
 refine op_store1 (i := 1) (o := 1) (v := str r16.1) sz_9 rfl rfl rfl rfl hf rfl rfl hO fun w hO => ?_
 refine wpList_nil ?_
 refine nor_then ?_
 exact ⟨r16.2.f_s, r16.2.f_at, r16.1, (hf.cons rfl (hf.cons rfl (hf.cons rfl (hf.cons rfl hf.nil)))), hO, hm⟩
 have hm := ie hc15 hm
 refine wp_skip ?_
 refine nor_then ?_
 exact ⟨r10.2.f_s, r10.2.f_at, [], (hf.cons rfl (hf.cons rfl (hf.cons rfl (hf.cons rfl hf.nil)))), (hO.choose [1, 0, 2] rfl), hm⟩
 rintro a w ⟨s18, i19, s20, hf, hO, hm⟩
 rw [cookie_part_j1] at hm
 refine wp_seq_cut (fun a w => ∃ (t28 : Bool), Fits 45 [(2, ptr b1 0), (3, .bool t28)] a ∧ Dk.Own w0 [] w [.blk b5 [str s18, int i19] 115, .blk b12 [str r7.1, str s20, .bool r10.1] 64, .blk b1 [str r7.1, str s20, .bool r10.1] 64] ∧ cookie_part_j2 r7 r10 s20 t28 = some R) ?_ ?_
 rcases bcase (r7.2.1) with hc21 | hc21
 have hm := it hc21 hm
 obtain ⟨r22, hr22, hm⟩ := ob hm
 rcases bcase (r22) with hc23 | hc23
 have hm := it hc23 hm
 obtain ⟨r25, hr25, hm⟩ := ob hm
 rcases bcase (r25) with hc26 | hc26
 have hm := it hc26 hm
 obtain ⟨r27, hr27, hm⟩ := ob hm
 refine wp_drawG' (S := Nat) (E0 := [(2, ptr b1 0), (4, ptr b5 0), (6, .bool r7.2.1), (7, ptr b12 0)]) (by kernel_rfl) (fun k σ w => match k with | 0 => Dk.Own w0 [] w [.blk b5 [str s18, int i19] 115, .blk b12 [str r7.1, str s20, .bool r10.1] 64, .blk b1 [str [], str [], .bool false] 64] | 1 => Dk.Own w0 [] w [.blk b5 [str s18, int i19] 115, .blk b12 [str r7.1, str s20, .bool r10.1] 64, .blk b1 [str [], str [], .bool false] 64] | 2 => Dk.Own w0 [] w [.row (.slice (some ⟨σ, 0, none⟩) (([s20] : List Str).length) 1) 9 1 (([s20] : List Str).length) (cells enc_str ([s20] : List Str)), .blk b5 [str s18, int i19] 115, .blk b12 [str r7.1, str s20, .bool r10.1] 64, .blk b1 [str [], str [], .bool false] 64] | 3 => Dk.Own w0 [] w [.row (.slice (some ⟨σ, 0, none⟩) (([s20] : List Str).length) 1) 9 1 (([s20] : List Str).length) (cells enc_str ([s20] : List Str)), .blk b5 [str s18, int i19] 115, .blk b12 [str r7.1, str s20, .bool r10.1] 64, .blk b1 [str [], str [], .bool false] 64] | 4 => Dk.Own w0 [] w [.row (.slice (some ⟨σ, 0, none⟩) (([s20] : List Str).length) 1) 9 1 (([s20] : List Str).length) (cells enc_str ([s20] : List Str)), .blk b5 [str s18, int i19] 115, .blk b12 [str r7.1, str s20, .bool r10.1] 64, .blk b1 [str [], str [], .bool false] 64] | _ => Dk.Own w0 [] w [.row (.slice (some ⟨σ, 0, none⟩) (([s20] : List Str).length) 1) 9 1 (([s20] : List Str).length) (cells enc_str ([s20] : List Str)), .blk b5 [str s18, int i19] 115, .blk b12 [str r7.1, str s20, .bool r10.1] 64, .blk b1 [str r7.1, str s20, .bool r10.1] 64]) (fun σ => [⟨[(7, ptr b12 0)], some (25, .agg #[str r7.1, str s20, .bool r10.1])⟩, ⟨[(6, .bool r7.2.1)], some (26, .bool r7.2.1)⟩, ⟨[(26, .bool r7.2.1)], some (27, .bool r7.2.1)⟩, ⟨[(4, ptr b5 0), (27, .bool r7.2.1)], some (28, ptr b5 0)⟩, ⟨[(28, ptr b5 0), (27, .bool r7.2.1)], some (29, .bool r22)⟩, ⟨[(27, .bool r7.2.1), (29, .bool r22)], some (30, .bool r22)⟩, ⟨[(30, .bool r22)], some (31, .bool r22)⟩, ⟨[(7, ptr b12 0), (31, .bool r22)], some (32, ptr b12 1)⟩, ⟨[(32, ptr b12 1), (31, .bool r22)], some (33, str s20)⟩, ⟨[(33, str s20), (31, .bool r22)], some (34, .slice (some ⟨σ, 0, none⟩) (([s20] : List Str).length) 1)⟩, ⟨[(34, .slice (some ⟨σ, 0, none⟩) (([s20] : List Str).length) 1), (31, .bool r22)], some (35, .bool r25)⟩, ⟨[(31, .bool r22), (35, .bool r25)], some (36, .bool r25)⟩, ⟨[(36, .bool r25)], some (37, .bool r25)⟩, ⟨[(7, ptr b12 0), (37, .bool r25)], some (38, ptr b12 1)⟩, ⟨[(38, ptr b12 1), (37, .bool r25)], some (39, str s20)⟩, ⟨[(39, str s20), (37, .bool r25)], some (40, str r27)⟩, ⟨[(7, ptr b12 0), (37, .bool r25)], some (41, ptr b12 1)⟩, ⟨[(41, ptr b12 1), (37, .bool r25)], some (42, str s20)⟩, ⟨[(40, str r27), (42, str s20), (37, .bool r25)], some (43, .bool (r27 == s20))⟩, ⟨[(37, .bool r25), (43, .bool (r27 == s20))], some (44, .bool (r27 == s20))⟩, ⟨[(2, ptr b1 0), (25, .agg #[str r7.1, str s20, .bool r10.1])], none⟩, ⟨[(44, .bool (r27 == s20))], some (3, .bool (r27 == s20))⟩]) (0) [4, 9, 10, 15, 20] [] ⟨g_none rfl rfl, g_none rfl rfl, g_none rfl rfl, g_some (u := fun σ => r7.2.1) rfl (fun σ => rfl) rfl (fun σ => rfl) (fun σ => by rw [hc21] <;> rfl), g_some (u := fun σ => r7.2.1) rfl (fun σ => rfl) rfl (fun σ => rfl) (fun σ => by rw [hc21] <;> rfl), g_none rfl rfl, g_none rfl rfl, g_some (u := fun σ => r22) rfl (fun σ => rfl) rfl (fun σ => rfl) (fun σ => by rw [hc23] <;> rfl), g_some (u := fun σ => r22) rfl (fun σ => rfl) rfl (fun σ => rfl) (fun σ => by rw [hc23] <;> rfl), g_some (u := fun σ => r22) rfl (fun σ => rfl) rfl (fun σ => rfl) (fun σ => by rw [hc23] <;> rfl), g_some (u := fun σ => r22) rfl (fun σ => rfl) rfl (fun σ => rfl) (fun σ => by rw [hc23] <;> rfl), g_none rfl rfl, g_none rfl rfl, g_some (u := fun σ => r25) rfl (fun σ => rfl) rfl (fun σ => rfl) (fun σ => by rw [hc26] <;> rfl), g_some (u := fun σ => r25) rfl (fun σ => rfl) rfl (fun σ => rfl) (fun σ => by rw [hc26] <;> rfl), g_some (u := fun σ => r25) rfl (fun σ => rfl) rfl (fun σ => rfl) (fun σ => by rw [hc26] <;> rfl), g_some (u := fun σ => r25) rfl (fun σ => rfl) rfl (fun σ => rfl) (fun σ => by rw [hc26] <;> rfl), g_some (u := fun σ => r25) rfl (fun σ => rfl) rfl (fun σ => rfl) (fun σ => by rw [hc26] <;> rfl), g_some (u := fun σ => r25) rfl (fun σ => rfl) rfl (fun σ => rfl) (fun σ => by rw [hc26] <;> rfl), g_none rfl rfl, g_none rfl rfl, g_none rfl rfl, trivial⟩ (fun σ => ⟨.inl rfl, .inl rfl, .inl rfl, .inl rfl, .inl rfl, .inl rfl, .inl rfl, .inl rfl, .inl rfl, .inl rfl, .inl rfl, .inl rfl, .inl rfl, .inl rfl, .inl rfl, .inl rfl, .inl rfl, .inl rfl, .inl rfl, .inl rfl, .inl rfl, .inl rfl, trivial⟩) (fun _ => rfl) (fun _ => rfl) (fun _ => rfl) rfl rfl (by decide) rfl hO.drew (hf.cons rfl (hf.cons rfl (hf.cons rfl (hf.cons rfl hf.nil)))) (fun σ => ⟨⟨rfl, trivial⟩, ⟨rfl, trivial⟩, ⟨rfl, trivial⟩, ⟨rfl, rfl, trivial⟩, ⟨rfl, rfl, trivial⟩, ⟨rfl, rfl, trivial⟩, ⟨rfl, trivial⟩, ⟨rfl, rfl, trivial⟩, ⟨rfl, rfl, trivial⟩, ⟨rfl, rfl, trivial⟩, ⟨rfl, rfl, trivial⟩, ⟨rfl, rfl, trivial⟩, ⟨rfl, trivial⟩, ⟨rfl, rfl, trivial⟩, ⟨rfl, rfl, trivial⟩, ⟨rfl, rfl, trivial⟩, ⟨rfl, rfl, trivial⟩, ⟨rfl, rfl, trivial⟩, ⟨rfl, rfl, rfl, trivial⟩, ⟨rfl, rfl, trivial⟩, ⟨rfl, rfl, trivial⟩, ⟨rfl, trivial⟩, trivial⟩) ⟨.inr ⟨rfl, sS_pure rfl (fun σ => rfl) (fun σ => rfl) (fun σ a w k hk hlo hup hst hf => match k, hk, hlo, hup, hst, hf with | 0, _, _, _, hst, hf => have hO : Dk.Own w0 [] w _ := hst; ex_loadN (o := 0) (vs := [str r7.1, str s20, .bool r10.1]) ag_64 sz_64 (hO.blkSees (i := 1) rfl) rfl rfl hf rfl | 1, _, _, _, hst, hf => have hO : Dk.Own w0 [] w _ := hst; ex_loadN (o := 0) (vs := [str r7.1, str s20, .bool r10.1]) ag_64 sz_64 (hO.blkSees (i := 1) rfl) rfl rfl hf rfl | 2, _, _, _, hst, hf => have hO : Dk.Own w0 [] w _ := hst; ex_loadN (o := 0) (vs := [str r7.1, str s20, .bool r10.1]) ag_64 sz_64 (hO.blkSees (i := 2) rfl) rfl rfl hf rfl | 3, _, _, _, hst, hf => have hO : Dk.Own w0 [] w _ := hst; ex_loadN (o := 0) (vs := [str r7.1, str s20, .bool r10.1]) ag_64 sz_64 (hO.blkSees (i := 2) rfl) rfl rfl hf rfl | 4, _, _, _, hst, hf => have hO : Dk.Own w0 [] w _ := hst; ex_loadN (o := 0) (vs := [str r7.1, str s20, .bool r10.1]) ag_64 sz_64 (hO.blkSees (i := 2) rfl) rfl rfl hf rfl | 5, _, _, _, hst, hf => have hO : Dk.Own w0 [] w _ := hst; ex_loadN (o := 0) (vs := [str r7.1, str s20, .bool r10.1]) ag_64 sz_64 (hO.blkSees (i := 2) rfl) rfl rfl hf rfl | k + 6, hk, _, _, _, _ => absurd hk (by simp))⟩, .inr ⟨rfl, sS_pure rfl (fun σ => rfl) (fun σ => rfl) (fun σ a w k _ _ _ _ hf => ex_move hf rfl)⟩, .inr ⟨rfl, sS_pure rfl (fun σ => rfl) (fun σ => rfl) (fun σ a w k _ _ _ _ hf => ex_move hf rfl)⟩, .inr ⟨rfl, sS_pure rfl (fun σ => rfl) (fun σ => rfl) (fun σ a w k _ _ _ _ hf => ex_move hf rfl)⟩, .inr ⟨rfl, sS_call rfl (fun σ => rfl) (fun σ => rfl) rfl (fun σ a w (_ : _) hf => ex_call c_62 hf (vs := [ptr b5 0]) rfl) (fun σ w (hO : Dk.Own w0 [] w _) => (w_scan_Scanner_End (⟨s18, i19⟩ : scan_Scanner) r22 _ (hG.own hF hO) (hO.blkSees (i := 0) rfl) hr22).mono fun e w' h => by obtain ⟨he, hb⟩ := h; exact ⟨(σ), he, hO.grow hb, .inr rfl, .inr rfl, .inr rfl, .inr rfl, .inr rfl, .inr rfl, .inr rfl, .inr rfl, .inr rfl, .inr rfl, .inr rfl, .inr rfl, .inr rfl, .inr rfl, .inr rfl, .inr rfl, .inr rfl, .inr rfl, .inr rfl, .inr rfl, .inr rfl, .inr rfl, trivial⟩)⟩, .inr ⟨rfl, sS_pure rfl (fun σ => rfl) (fun σ => rfl) (fun σ a w k _ _ _ _ hf => ex_pick_t hf rfl hc21 rfl)⟩, .inr ⟨rfl, sS_pure rfl (fun σ => rfl) (fun σ => rfl) (fun σ a w k _ _ _ _ hf => ex_move hf rfl)⟩, .inr ⟨rfl, sS_pure rfl (fun σ => rfl) (fun σ => rfl) (fun σ a w k _ _ _ _ hf => ex_field fa_64_1 hf rfl)⟩, .inr ⟨rfl, sS_pure rfl (fun σ => rfl) (fun σ => rfl) (fun σ a w k hk hlo hup hst hf => match k, hk, hlo, hup, hst, hf with | 0, _, _, _, hst, hf => have hO : Dk.Own w0 [] w _ := hst; ex_load1 (o := 1) ag_9 (hO.blkSees (i := 1) rfl) rfl hf rfl | 1, _, _, _, hst, hf => have hO : Dk.Own w0 [] w _ := hst; ex_load1 (o := 1) ag_9 (hO.blkSees (i := 1) rfl) rfl hf rfl | 2, _, _, _, hst, hf => have hO : Dk.Own w0 [] w _ := hst; ex_load1 (o := 1) ag_9 (hO.blkSees (i := 2) rfl) rfl hf rfl | 3, _, _, _, hst, hf => have hO : Dk.Own w0 [] w _ := hst; ex_load1 (o := 1) ag_9 (hO.blkSees (i := 2) rfl) rfl hf rfl | 4, _, _, _, hst, hf => have hO : Dk.Own w0 [] w _ := hst; ex_load1 (o := 1) ag_9 (hO.blkSees (i := 2) rfl) rfl hf rfl | 5, _, _, _, hst, hf => have hO : Dk.Own w0 [] w _ := hst; ex_load1 (o := 1) ag_9 (hO.blkSees (i := 2) rfl) rfl hf rfl | k + 6, hk, _, _, _, _ => absurd hk (by simp))⟩, .inr ⟨rfl, sS_val rfl (fun σ => rfl) (fun σ => rfl) rfl (fun σ w (hO : Dk.Own w0 [] w _) => by obtain ⟨b24, w', hO', hr⟩ := ef_buildSlice (E := [(33, str s20), (31, .bool r22)]) (parts := #[(0, (.tmp 33))]) (t' := 61) (n := 1) (vs := [(0, str s20)]) (cs := [str s20]) (e := 9) (sz := 1) (fun w => by kernel_rfl) rfl rfl hO rfl; exact ⟨(b24), w', hO', ⟨.inr rfl, .inr rfl, .inr rfl, .inr rfl, .inr rfl, .inr rfl, .inr rfl, .inr rfl, .inr rfl, .inl rfl, .inl rfl, .inr rfl, .inr rfl, .inr rfl, .inr rfl, .inr rfl, .inr rfl, .inr rfl, .inr rfl, .inr rfl, .inr rfl, .inr rfl, trivial⟩, hr⟩)⟩, .inr ⟨rfl, sS_call rfl (fun σ => rfl) (fun σ => rfl) rfl (fun σ a w (_ : _) hf => ex_call c_63 hf (vs := [.func (.func 64) #[] #[], .slice (some ⟨σ, 0, none⟩) (([s20] : List Str).length) 1]) rfl) (fun σ w (hO : Dk.Own w0 [] w _) => (w_octet_All octet_IsValue ([s20] : List Str) r25 _ (hG.own hF hO) c_64 (fun y0 r w hG h => callsE (w_octet_IsValue y0 r w hG h)) (hO.rowSees (i := 0) rfl) (hO.rowCap (i := 0) rfl) hr25).mono fun e w' h => by obtain ⟨he, hb⟩ := h; exact ⟨(σ), he, hO.grow hb, .inr rfl, .inr rfl, .inr rfl, .inr rfl, .inr rfl, .inr rfl, .inr rfl, .inr rfl, .inr rfl, .inr rfl, .inr rfl, .inr rfl, .inr rfl, .inr rfl, .inr rfl, .inr rfl, .inr rfl, .inr rfl, .inr rfl, .inr rfl, .inr rfl, .inr rfl, trivial⟩)⟩, .inr ⟨rfl, sS_pure rfl (fun σ => rfl) (fun σ => rfl) (fun σ a w k _ _ _ _ hf => ex_pick_t hf rfl hc23 rfl)⟩, .inr ⟨rfl, sS_pure rfl (fun σ => rfl) (fun σ => rfl) (fun σ a w k _ _ _ _ hf => ex_move hf rfl)⟩, .inr ⟨rfl, sS_pure rfl (fun σ => rfl) (fun σ => rfl) (fun σ a w k _ _ _ _ hf => ex_field fa_64_1 hf rfl)⟩, .inr ⟨rfl, sS_pure rfl (fun σ => rfl) (fun σ => rfl) (fun σ a w k hk hlo hup hst hf => match k, hk, hlo, hup, hst, hf with | 0, _, _, _, hst, hf => have hO : Dk.Own w0 [] w _ := hst; ex_load1 (o := 1) ag_9 (hO.blkSees (i := 1) rfl) rfl hf rfl | 1, _, _, _, hst, hf => have hO : Dk.Own w0 [] w _ := hst; ex_load1 (o := 1) ag_9 (hO.blkSees (i := 1) rfl) rfl hf rfl | 2, _, _, _, hst, hf => have hO : Dk.Own w0 [] w _ := hst; ex_load1 (o := 1) ag_9 (hO.blkSees (i := 2) rfl) rfl hf rfl | 3, _, _, _, hst, hf => have hO : Dk.Own w0 [] w _ := hst; ex_load1 (o := 1) ag_9 (hO.blkSees (i := 2) rfl) rfl hf rfl | 4, _, _, _, hst, hf => have hO : Dk.Own w0 [] w _ := hst; ex_load1 (o := 1) ag_9 (hO.blkSees (i := 2) rfl) rfl hf rfl | 5, _, _, _, hst, hf => have hO : Dk.Own w0 [] w _ := hst; ex_load1 (o := 1) ag_9 (hO.blkSees (i := 2) rfl) rfl hf rfl | k + 6, hk, _, _, _, _ => absurd hk (by simp))⟩, .inr ⟨rfl, sS_call rfl (fun σ => rfl) (fun σ => rfl) rfl (fun σ a w (_ : _) hf => ex_call c_57 hf (vs := [str s20, str [32, 9]]) rfl) (fun σ w (hO : Dk.Own w0 [] w _) => (w_strings_Trim s20 [32, 9] r27 _ (hG.own hF hO) hr27).mono fun e w' h => by obtain ⟨he, hb⟩ := h; exact ⟨(σ), he, hO.grow hb, .inr rfl, .inr rfl, .inr rfl, .inr rfl, .inr rfl, .inr rfl, .inr rfl, .inr rfl, .inr rfl, .inr rfl, .inr rfl, .inr rfl, .inr rfl, .inr rfl, .inr rfl, .inr rfl, .inr rfl, .inr rfl, .inr rfl, .inr rfl, .inr rfl, .inr rfl, trivial⟩)⟩, .inr ⟨rfl, sS_pure rfl (fun σ => rfl) (fun σ => rfl) (fun σ a w k _ _ _ _ hf => ex_field fa_64_1 hf rfl)⟩, .inr ⟨rfl, sS_pure rfl (fun σ => rfl) (fun σ => rfl) (fun σ a w k hk hlo hup hst hf => match k, hk, hlo, hup, hst, hf with | 0, _, _, _, hst, hf => have hO : Dk.Own w0 [] w _ := hst; ex_load1 (o := 1) ag_9 (hO.blkSees (i := 1) rfl) rfl hf rfl | 1, _, _, _, hst, hf => have hO : Dk.Own w0 [] w _ := hst; ex_load1 (o := 1) ag_9 (hO.blkSees (i := 1) rfl) rfl hf rfl | 2, _, _, _, hst, hf => have hO : Dk.Own w0 [] w _ := hst; ex_load1 (o := 1) ag_9 (hO.blkSees (i := 2) rfl) rfl hf rfl | 3, _, _, _, hst, hf => have hO : Dk.Own w0 [] w _ := hst; ex_load1 (o := 1) ag_9 (hO.blkSees (i := 2) rfl) rfl hf rfl | 4, _, _, _, hst, hf => have hO : Dk.Own w0 [] w _ := hst; ex_load1 (o := 1) ag_9 (hO.blkSees (i := 2) rfl) rfl hf rfl | 5, _, _, _, hst, hf => have hO : Dk.Own w0 [] w _ := hst; ex_load1 (o := 1) ag_9 (hO.blkSees (i := 2) rfl) rfl hf rfl | k + 6, hk, _, _, _, _ => absurd hk (by simp))⟩, .inr ⟨rfl, sS_pure rfl (fun σ => rfl) (fun σ => rfl) (fun σ a w k _ _ _ _ hf => ex_eql_s (l := r27) (m := s20) hf rfl rfl)⟩, .inr ⟨rfl, sS_pure rfl (fun σ => rfl) (fun σ => rfl) (fun σ a w k _ _ _ _ hf => ex_pick_t hf rfl hc26 rfl)⟩, .inr ⟨rfl, sS_skip rfl (fun σ => rfl) (fun σ => rfl) rfl (fun σ w (hO : Dk.Own w0 [] w _) => by obtain ⟨w', hO', hr⟩ := ef_storeN (x := (.tmp 2)) (y := (.tmp 25)) (E := [(2, ptr b1 0), (25, .agg #[str r7.1, str s20, .bool r10.1])]) (i := 3) (n := 3) (vs := [str r7.1, str s20, .bool r10.1]) sz_64 rfl rfl rfl (by simp [Value.oneCell']) hO rfl rfl; exact ⟨(σ), w', hO', ⟨.inr rfl, .inr rfl, .inr rfl, .inr rfl, .inr rfl, .inr rfl, .inr rfl, .inr rfl, .inr rfl, .inr rfl, .inr rfl, .inr rfl, .inr rfl, .inr rfl, .inr rfl, .inr rfl, .inr rfl, .inr rfl, .inr rfl, .inr rfl, .inr rfl, .inr rfl, trivial⟩, hr⟩)⟩, .inr ⟨rfl, sS_pure rfl (fun σ => rfl) (fun σ => rfl) (fun σ a w k _ _ _ _ hf => ex_assign hf rfl)⟩, trivial⟩ ?_
 rintro b24 a w hf hO
 have hO : Dk.Own w0 [] w _ := hO
 have hf : Fits 45 [(2, ptr b1 0), (3, .bool (r27 == s20))] a := (hf.cons rfl (hf.cons rfl hf.nil))
 refine nor_then ?_
 exact ⟨r27 == s20, (hf.cons rfl (hf.cons rfl hf.nil)), (hO.sub (.cons _ (.cons_cons _ (.cons_cons _ (.cons_cons _ .slnil))))), hm⟩
 have hm := ie hc26 hm
 refine wp_drawG' (S := Nat) (E0 := [(2, ptr b1 0), (4, ptr b5 0), (6, .bool r7.2.1), (7, ptr b12 0)]) (by kernel_rfl) (fun k σ w => match k with | 0 => Dk.Own w0 [] w [.blk b5 [str s18, int i19] 115, .blk b12 [str r7.1, str s20, .bool r10.1] 64, .blk b1 [str [], str [], .bool false] 64] | 1 => Dk.Own w0 [] w [.blk b5 [str s18, int i19] 115, .blk b12 [str r7.1, str s20, .bool r10.1] 64, .blk b1 [str [], str [], .bool false] 64] | 2 => Dk.Own w0 [] w [.row (.slice (some ⟨σ, 0, none⟩) (([s20] : List Str).length) 1) 9 1 (([s20] : List Str).length) (cells enc_str ([s20] : List Str)), .blk b5 [str s18, int i19] 115, .blk b12 [str r7.1, str s20, .bool r10.1] 64, .blk b1 [str [], str [], .bool false] 64] | 3 => Dk.Own w0 [] w [.row (.slice (some ⟨σ, 0, none⟩) (([s20] : List Str).length) 1) 9 1 (([s20] : List Str).length) (cells enc_str ([s20] : List Str)), .blk b5 [str s18, int i19] 115, .blk b12 [str r7.1, str s20, .bool r10.1] 64, .blk b1 [str [], str [], .bool false] 64] | _ => Dk.Own w0 [] w [.row (.slice (some ⟨σ, 0, none⟩) (([s20] : List Str).length) 1) 9 1 (([s20] : List Str).length) (cells enc_str ([s20] : List Str)), .blk b5 [str s18, int i19] 115, .blk b12 [str r7.1, str s20, .bool r10.1] 64, .blk b1 [str r7.1, str s20, .bool r10.1] 64]) (fun σ => [⟨[(7, ptr b12 0)], some (25, .agg #[str r7.1, str s20, .bool r10.1])⟩, ⟨[(6, .bool r7.2.1)], some (26, .bool r7.2.1)⟩, ⟨[(26, .bool r7.2.1)], some (27, .bool r7.2.1)⟩, ⟨[(4, ptr b5 0), (27, .bool r7.2.1)], some (28, ptr b5 0)⟩, ⟨[(28, ptr b5 0), (27, .bool r7.2.1)], some (29, .bool r22)⟩, ⟨[(27, .bool r7.2.1), (29, .bool r22)], some (30, .bool r22)⟩, ⟨[(30, .bool r22)], some (31, .bool r22)⟩, ⟨[(7, ptr b12 0), (31, .bool r22)], some (32, ptr b12 1)⟩, ⟨[(32, ptr b12 1), (31, .bool r22)], some (33, str s20)⟩, ⟨[(33, str s20), (31, .bool r22)], some (34, .slice (some ⟨σ, 0, none⟩) (([s20] : List Str).length) 1)⟩, ⟨[(34, .slice (some ⟨σ, 0, none⟩) (([s20] : List Str).length) 1), (31, .bool r22)], some (35, .bool r25)⟩, ⟨[(31, .bool r22), (35, .bool r25)], some (36, .bool r25)⟩, ⟨[(36, .bool r25)], some (37, .bool r25)⟩, ⟨[(37, .bool r25)], some (38, undef)⟩, ⟨[(37, .bool r25)], some (39, undef)⟩, ⟨[(37, .bool r25)], some (40, undef)⟩, ⟨[(37, .bool r25)], some (41, undef)⟩, ⟨[(37, .bool r25)], some (42, undef)⟩, ⟨[(37, .bool r25)], some (43, undef)⟩, ⟨[(37, .bool r25), (43, undef)], some (44, .bool false)⟩, ⟨[(2, ptr b1 0), (25, .agg #[str r7.1, str s20, .bool r10.1])], none⟩, ⟨[(44, .bool false)], some (3, .bool false)⟩]) (0) [4, 9, 10, 20] [13, 14, 15, 16, 17, 18] ⟨g_none rfl rfl, g_none rfl rfl, g_none rfl rfl, g_some (u := fun σ => r7.2.1) rfl (fun σ => rfl) rfl (fun σ => rfl) (fun σ => by rw [hc21] <;> rfl), g_some (u := fun σ => r7.2.1) rfl (fun σ => rfl) rfl (fun σ => rfl) (fun σ => by rw [hc21] <;> rfl), g_none rfl rfl, g_none rfl rfl, g_some (u := fun σ => r22) rfl (fun σ => rfl) rfl (fun σ => rfl) (fun σ => by rw [hc23] <;> rfl), g_some (u := fun σ => r22) rfl (fun σ => rfl) rfl (fun σ => rfl) (fun σ => by rw [hc23] <;> rfl), g_some (u := fun σ => r22) rfl (fun σ => rfl) rfl (fun σ => rfl) (fun σ => by rw [hc23] <;> rfl), g_some (u := fun σ => r22) rfl (fun σ => rfl) rfl (fun σ => rfl) (fun σ => by rw [hc23] <;> rfl), g_none rfl rfl, g_none rfl rfl, g_some (u := fun σ => r25) rfl (fun σ => rfl) rfl (fun σ => rfl) (fun σ => by rw [hc26] <;> rfl), g_some (u := fun σ => r25) rfl (fun σ => rfl) rfl (fun σ => rfl) (fun σ => by rw [hc26] <;> rfl), g_some (u := fun σ => r25) rfl (fun σ => rfl) rfl (fun σ => rfl) (fun σ => by rw [hc26] <;> rfl), g_some (u := fun σ => r25) rfl (fun σ => rfl) rfl (fun σ => rfl) (fun σ => by rw [hc26] <;> rfl), g_some (u := fun σ => r25) rfl (fun σ => rfl) rfl (fun σ => rfl) (fun σ => by rw [hc26] <;> rfl), g_some (u := fun σ => r25) rfl (fun σ => rfl) rfl (fun σ => rfl) (fun σ => by rw [hc26] <;> rfl), g_none rfl rfl, g_none rfl rfl, g_none rfl rfl, trivial⟩ (fun σ => ⟨.inl rfl, .inl rfl, .inl rfl, .inl rfl, .inl rfl, .inl rfl, .inl rfl, .inl rfl, .inl rfl, .inl rfl, .inl rfl, .inl rfl, .inl rfl, .inr ⟨rfl, rfl⟩, .inr ⟨rfl, rfl⟩, .inr ⟨rfl, rfl⟩, .inr ⟨rfl, rfl⟩, .inr ⟨rfl, rfl⟩, .inr ⟨rfl, rfl⟩, .inl rfl, .inl rfl, .inl rfl, trivial⟩) (fun _ => rfl) (fun _ => rfl) (fun _ => rfl) rfl rfl (by decide) rfl hO.drew (hf.cons rfl (hf.cons rfl (hf.cons rfl (hf.cons rfl hf.nil)))) (fun σ => ⟨⟨rfl, trivial⟩, ⟨rfl, trivial⟩, ⟨rfl, trivial⟩, ⟨rfl, rfl, trivial⟩, ⟨rfl, rfl, trivial⟩, ⟨rfl, rfl, trivial⟩, ⟨rfl, trivial⟩, ⟨rfl, rfl, trivial⟩, ⟨rfl, rfl, trivial⟩, ⟨rfl, rfl, trivial⟩, ⟨rfl, rfl, trivial⟩, ⟨rfl, rfl, trivial⟩, ⟨rfl, trivial⟩, ⟨rfl, trivial⟩, ⟨rfl, trivial⟩, ⟨rfl, trivial⟩, ⟨rfl, trivial⟩, ⟨rfl, trivial⟩, ⟨rfl, trivial⟩, ⟨rfl, rfl, trivial⟩, ⟨rfl, rfl, trivial⟩, ⟨rfl, trivial⟩, trivial⟩) ⟨.inr ⟨rfl, sS_pure rfl (fun σ => rfl) (fun σ => rfl) (fun σ a w k hk hlo hup hst hf => match k, hk, hlo, hup, hst, hf with | 0, _, _, _, hst, hf => have hO : Dk.Own w0 [] w _ := hst; ex_loadN (o := 0) (vs := [str r7.1, str s20, .bool r10.1]) ag_64 sz_64 (hO.blkSees (i := 1) rfl) rfl rfl hf rfl | 1, _, _, _, hst, hf => have hO : Dk.Own w0 [] w _ := hst; ex_loadN (o := 0) (vs := [str r7.1, str s20, .bool r10.1]) ag_64 sz_64 (hO.blkSees (i := 1) rfl) rfl rfl hf rfl | 2, _, _, _, hst, hf => have hO : Dk.Own w0 [] w _ := hst; ex_loadN (o := 0) (vs := [str r7.1, str s20, .bool r10.1]) ag_64 sz_64 (hO.blkSees (i := 2) rfl) rfl rfl hf rfl | 3, _, _, _, hst, hf => have hO : Dk.Own w0 [] w _ := hst; ex_loadN (o := 0) (vs := [str r7.1, str s20, .bool r10.1]) ag_64 sz_64 (hO.blkSees (i := 2) rfl) rfl rfl hf rfl | 4, _, _, _, hst, hf => have hO : Dk.Own w0 [] w _ := hst; ex_loadN (o := 0) (vs := [str r7.1, str s20, .bool r10.1]) ag_64 sz_64 (hO.blkSees (i := 2) rfl) rfl rfl hf rfl | k + 5, hk, _, _, _, _ => absurd hk (by simp))⟩, .inr ⟨rfl, sS_pure rfl (fun σ => rfl) (fun σ => rfl) (fun σ a w k _ _ _ _ hf => ex_move hf rfl)⟩, .inr ⟨rfl, sS_pure rfl (fun σ => rfl) (fun σ => rfl) (fun σ a w k _ _ _ _ hf => ex_move hf rfl)⟩, .inr ⟨rfl, sS_pure rfl (fun σ => rfl) (fun σ => rfl) (fun σ a w k _ _ _ _ hf => ex_move hf rfl)⟩, .inr ⟨rfl, sS_call rfl (fun σ => rfl) (fun σ => rfl) rfl (fun σ a w (_ : _) hf => ex_call c_62 hf (vs := [ptr b5 0]) rfl) (fun σ w (hO : Dk.Own w0 [] w _) => (w_scan_Scanner_End (⟨s18, i19⟩ : scan_Scanner) r22 _ (hG.own hF hO) (hO.blkSees (i := 0) rfl) hr22).mono fun e w' h => by obtain ⟨he, hb⟩ := h; exact ⟨(σ), he, hO.grow hb, .inr rfl, .inr rfl, .inr rfl, .inr rfl, .inr rfl, .inr rfl, .inr rfl, .inr rfl, .inr rfl, .inr rfl, .inr rfl, .inr rfl, .inr rfl, .inr rfl, .inr rfl, .inr rfl, .inr rfl, .inr rfl, .inr rfl, .inr rfl, .inr rfl, .inr rfl, trivial⟩)⟩, .inr ⟨rfl, sS_pure rfl (fun σ => rfl) (fun σ => rfl) (fun σ a w k _ _ _ _ hf => ex_pick_t hf rfl hc21 rfl)⟩, .inr ⟨rfl, sS_pure rfl (fun σ => rfl) (fun σ => rfl) (fun σ a w k _ _ _ _ hf => ex_move hf rfl)⟩, .inr ⟨rfl, sS_pure rfl (fun σ => rfl) (fun σ => rfl) (fun σ a w k _ _ _ _ hf => ex_field fa_64_1 hf rfl)⟩, .inr ⟨rfl, sS_pure rfl (fun σ => rfl) (fun σ => rfl) (fun σ a w k hk hlo hup hst hf => match k, hk, hlo, hup, hst, hf with | 0, _, _, _, hst, hf => have hO : Dk.Own w0 [] w _ := hst; ex_load1 (o := 1) ag_9 (hO.blkSees (i := 1) rfl) rfl hf rfl | 1, _, _, _, hst, hf => have hO : Dk.Own w0 [] w _ := hst; ex_load1 (o := 1) ag_9 (hO.blkSees (i := 1) rfl) rfl hf rfl | 2, _, _, _, hst, hf => have hO : Dk.Own w0 [] w _ := hst; ex_load1 (o := 1) ag_9 (hO.blkSees (i := 2) rfl) rfl hf rfl | 3, _, _, _, hst, hf => have hO : Dk.Own w0 [] w _ := hst; ex_load1 (o := 1) ag_9 (hO.blkSees (i := 2) rfl) rfl hf rfl | 4, _, _, _, hst, hf => have hO : Dk.Own w0 [] w _ := hst; ex_load1 (o := 1) ag_9 (hO.blkSees (i := 2) rfl) rfl hf rfl | k + 5, hk, _, _, _, _ => absurd hk (by simp))⟩, .inr ⟨rfl, sS_val rfl (fun σ => rfl) (fun σ => rfl) rfl (fun σ w (hO : Dk.Own w0 [] w _) => by obtain ⟨b24, w', hO', hr⟩ := ef_buildSlice (E := [(33, str s20), (31, .bool r22)]) (parts := #[(0, (.tmp 33))]) (t' := 61) (n := 1) (vs := [(0, str s20)]) (cs := [str s20]) (e := 9) (sz := 1) (fun w => by kernel_rfl) rfl rfl hO rfl; exact ⟨(b24), w', hO', ⟨.inr rfl, .inr rfl, .inr rfl, .inr rfl, .inr rfl, .inr rfl, .inr rfl, .inr rfl, .inr rfl, .inl rfl, .inl rfl, .inr rfl, .inr rfl, .inr rfl, .inr rfl, .inr rfl, .inr rfl, .inr rfl, .inr rfl, .inr rfl, .inr rfl, .inr rfl, trivial⟩, hr⟩)⟩, .inr ⟨rfl, sS_call rfl (fun σ => rfl) (fun σ => rfl) rfl (fun σ a w (_ : _) hf => ex_call c_63 hf (vs := [.func (.func 64) #[] #[], .slice (some ⟨σ, 0, none⟩) (([s20] : List Str).length) 1]) rfl) (fun σ w (hO : Dk.Own w0 [] w _) => (w_octet_All octet_IsValue ([s20] : List Str) r25 _ (hG.own hF hO) c_64 (fun y0 r w hG h => callsE (w_octet_IsValue y0 r w hG h)) (hO.rowSees (i := 0) rfl) (hO.rowCap (i := 0) rfl) hr25).mono fun e w' h => by obtain ⟨he, hb⟩ := h; exact ⟨(σ), he, hO.grow hb, .inr rfl, .inr rfl, .inr rfl, .inr rfl, .inr rfl, .inr rfl, .inr rfl, .inr rfl, .inr rfl, .inr rfl, .inr rfl, .inr rfl, .inr rfl, .inr rfl, .inr rfl, .inr rfl, .inr rfl, .inr rfl, .inr rfl, .inr rfl, .inr rfl, .inr rfl, trivial⟩)⟩, .inr ⟨rfl, sS_pure rfl (fun σ => rfl) (fun σ => rfl) (fun σ a w k _ _ _ _ hf => ex_pick_t hf rfl hc23 rfl)⟩, .inr ⟨rfl, sS_pure rfl (fun σ => rfl) (fun σ => rfl) (fun σ a w k _ _ _ _ hf => ex_move hf rfl)⟩, .inl rfl, .inl rfl, .inl rfl, .inl rfl, .inl rfl, .inl rfl, .inr ⟨rfl, sS_pure rfl (fun σ => rfl) (fun σ => rfl) (fun σ a w k _ _ _ _ hf => ex_pick_f hf rfl hc26 rfl)⟩, .inr ⟨rfl, sS_skip rfl (fun σ => rfl) (fun σ => rfl) rfl (fun σ w (hO : Dk.Own w0 [] w _) => by obtain ⟨w', hO', hr⟩ := ef_storeN (x := (.tmp 2)) (y := (.tmp 25)) (E := [(2, ptr b1 0), (25, .agg #[str r7.1, str s20, .bool r10.1])]) (i := 3) (n := 3) (vs := [str r7.1, str s20, .bool r10.1]) sz_64 rfl rfl rfl (by simp [Value.oneCell']) hO rfl rfl; exact ⟨(σ), w', hO', ⟨.inr rfl, .inr rfl, .inr rfl, .inr rfl, .inr rfl, .inr rfl, .inr rfl, .inr rfl, .inr rfl, .inr rfl, .inr rfl, .inr rfl, .inr rfl, .inr rfl, .inr rfl, .inr rfl, .inr rfl, .inr rfl, .inr rfl, .inr rfl, .inr rfl, .inr rfl, trivial⟩, hr⟩)⟩, .inr ⟨rfl, sS_pure rfl (fun σ => rfl) (fun σ => rfl) (fun σ a w k _ _ _ _ hf => ex_assign hf rfl)⟩, trivial⟩ ?_
 rintro b24 a w hf hO
 have hO : Dk.Own w0 [] w _ := hO
 have hf : Fits 45 [(2, ptr b1 0), (3, .bool false)] a := (hf.cons rfl (hf.cons rfl hf.nil))
 refine nor_then ?_
 exact ⟨false, (hf.cons rfl (hf.cons rfl hf.nil)), (hO.sub (.cons _ (.cons_cons _ (.cons_cons _ (.cons_cons _ .slnil))))), hm⟩
 have hm := ie hc23 hm
 refine wp_drawG' (S := Unit) (E0 := [(2, ptr b1 0), (4, ptr b5 0), (6, .bool r7.2.1), (7, ptr b12 0)]) (by kernel_rfl) (fun k σ w => match k with | 0 => Dk.Own w0 [] w [.blk b5 [str s18, int i19] 115, .blk b12 [str r7.1, str s20, .bool r10.1] 64, .blk b1 [str [], str [], .bool false] 64] | 1 => Dk.Own w0 [] w [.blk b5 [str s18, int i19] 115, .blk b12 [str r7.1, str s20, .bool r10.1] 64, .blk b1 [str [], str [], .bool false] 64] | _ => Dk.Own w0 [] w [.blk b5 [str s18, int i19] 115, .blk b12 [str r7.1, str s20, .bool r10.1] 64, .blk b1 [str r7.1, str s20, .bool r10.1] 64]) (fun σ => [⟨[(7, ptr b12 0)], some (25, .agg #[str r7.1, str s20, .bool r10.1])⟩, ⟨[(6, .bool r7.2.1)], some (26, .bool r7.2.1)⟩, ⟨[(26, .bool r7.2.1)], some (27, .bool r7.2.1)⟩, ⟨[(4, ptr b5 0), (27, .bool r7.2.1)], some (28, ptr b5 0)⟩, ⟨[(28, ptr b5 0), (27, .bool r7.2.1)], some (29, .bool r22)⟩, ⟨[(27, .bool r7.2.1), (29, .bool r22)], some (30, .bool r22)⟩, ⟨[(30, .bool r22)], some (31, .bool r22)⟩, ⟨[(31, .bool r22)], some (32, undef)⟩, ⟨[(31, .bool r22)], some (33, undef)⟩, ⟨[(31, .bool r22)], some (34, undef)⟩, ⟨[(31, .bool r22)], some (35, undef)⟩, ⟨[(31, .bool r22), (35, undef)], some (36, .bool false)⟩, ⟨[(36, .bool false)], some (37, .bool false)⟩, ⟨[(37, .bool false)], some (38, undef)⟩, ⟨[(37, .bool false)], some (39, undef)⟩, ⟨[(37, .bool false)], some (40, undef)⟩, ⟨[(37, .bool false)], some (41, undef)⟩, ⟨[(37, .bool false)], some (42, undef)⟩, ⟨[(37, .bool false)], some (43, undef)⟩, ⟨[(37, .bool false), (43, undef)], some (44, .bool false)⟩, ⟨[(2, ptr b1 0), (25, .agg #[str r7.1, str s20, .bool r10.1])], none⟩, ⟨[(44, .bool false)], some (3, .bool false)⟩]) () [4, 20] [7, 8, 9, 10, 13, 14, 15, 16, 17, 18] ⟨g_none rfl rfl, g_none rfl rfl, g_none rfl rfl, g_some (u := fun σ => r7.2.1) rfl (fun σ => rfl) rfl (fun σ => rfl) (fun σ => by rw [hc21] <;> rfl), g_some (u := fun σ => r7.2.1) rfl (fun σ => rfl) rfl (fun σ => rfl) (fun σ => by rw [hc21] <;> rfl), g_none rfl rfl, g_none rfl rfl, g_some (u := fun σ => r22) rfl (fun σ => rfl) rfl (fun σ => rfl) (fun σ => by rw [hc23] <;> rfl), g_some (u := fun σ => r22) rfl (fun σ => rfl) rfl (fun σ => rfl) (fun σ => by rw [hc23] <;> rfl), g_some (u := fun σ => r22) rfl (fun σ => rfl) rfl (fun σ => rfl) (fun σ => by rw [hc23] <;> rfl), g_some (u := fun σ => r22) rfl (fun σ => rfl) rfl (fun σ => rfl) (fun σ => by rw [hc23] <;> rfl), g_none rfl rfl, g_none rfl rfl, g_some (u := fun σ => false) rfl (fun σ => rfl) rfl (fun σ => rfl) (fun σ => rfl), g_some (u := fun σ => false) rfl (fun σ => rfl) rfl (fun σ => rfl) (fun σ => rfl), g_some (u := fun σ => false) rfl (fun σ => rfl) rfl (fun σ => rfl) (fun σ => rfl), g_some (u := fun σ => false) rfl (fun σ => rfl) rfl (fun σ => rfl) (fun σ => rfl), g_some (u := fun σ => false) rfl (fun σ => rfl) rfl (fun σ => rfl) (fun σ => rfl), g_some (u := fun σ => false) rfl (fun σ => rfl) rfl (fun σ => rfl) (fun σ => rfl), g_none rfl rfl, g_none rfl rfl, g_none rfl rfl, trivial⟩ (fun σ => ⟨.inl rfl, .inl rfl, .inl rfl, .inl rfl, .inl rfl, .inl rfl, .inl rfl, .inr ⟨rfl, rfl⟩, .inr ⟨rfl, rfl⟩, .inr ⟨rfl, rfl⟩, .inr ⟨rfl, rfl⟩, .inl rfl, .inl rfl, .inr ⟨rfl, rfl⟩, .inr ⟨rfl, rfl⟩, .inr ⟨rfl, rfl⟩, .inr ⟨rfl, rfl⟩, .inr ⟨rfl, rfl⟩, .inr ⟨rfl, rfl⟩, .inl rfl, .inl rfl, .inl rfl, trivial⟩) (fun _ => rfl) (fun _ => rfl) (fun _ => rfl) rfl rfl (by decide) rfl hO.drew (hf.cons rfl (hf.cons rfl (hf.cons rfl (hf.cons rfl hf.nil)))) (fun σ => ⟨⟨rfl, trivial⟩, ⟨rfl, trivial⟩, ⟨rfl, trivial⟩, ⟨rfl, rfl, trivial⟩, ⟨rfl, rfl, trivial⟩, ⟨rfl, rfl, trivial⟩, ⟨rfl, trivial⟩, ⟨rfl, trivial⟩, ⟨rfl, trivial⟩, ⟨rfl, trivial⟩, ⟨rfl, trivial⟩, ⟨rfl, rfl, trivial⟩, ⟨rfl, trivial⟩, ⟨rfl, trivial⟩, ⟨rfl, trivial⟩, ⟨rfl, trivial⟩, ⟨rfl, trivial⟩, ⟨rfl, trivial⟩, ⟨rfl, trivial⟩, ⟨rfl, rfl, trivial⟩, ⟨rfl, rfl, trivial⟩, ⟨rfl, trivial⟩, trivial⟩) ⟨.inr ⟨rfl, sS_pure rfl (fun σ => rfl) (fun σ => rfl) (fun σ a w k hk hlo hup hst hf => match k, hk, hlo, hup, hst, hf with | 0, _, _, _, hst, hf => have hO : Dk.Own w0 [] w _ := hst; ex_loadN (o := 0) (vs := [str r7.1, str s20, .bool r10.1]) ag_64 sz_64 (hO.blkSees (i := 1) rfl) rfl rfl hf rfl | 1, _, _, _, hst, hf => have hO : Dk.Own w0 [] w _ := hst; ex_loadN (o := 0) (vs := [str r7.1, str s20, .bool r10.1]) ag_64 sz_64 (hO.blkSees (i := 1) rfl) rfl rfl hf rfl | 2, _, _, _, hst, hf => have hO : Dk.Own w0 [] w _ := hst; ex_loadN (o := 0) (vs := [str r7.1, str s20, .bool r10.1]) ag_64 sz_64 (hO.blkSees (i := 1) rfl) rfl rfl hf rfl | k + 3, hk, _, _, _, _ => absurd hk (by simp))⟩, .inr ⟨rfl, sS_pure rfl (fun σ => rfl) (fun σ => rfl) (fun σ a w k _ _ _ _ hf => ex_move hf rfl)⟩, .inr ⟨rfl, sS_pure rfl (fun σ => rfl) (fun σ => rfl) (fun σ a w k _ _ _ _ hf => ex_move hf rfl)⟩, .inr ⟨rfl, sS_pure rfl (fun σ => rfl) (fun σ => rfl) (fun σ a w k _ _ _ _ hf => ex_move hf rfl)⟩, .inr ⟨rfl, sS_call rfl (fun σ => rfl) (fun σ => rfl) rfl (fun σ a w (_ : _) hf => ex_call c_62 hf (vs := [ptr b5 0]) rfl) (fun σ w (hO : Dk.Own w0 [] w _) => (w_scan_Scanner_End (⟨s18, i19⟩ : scan_Scanner) r22 _ (hG.own hF hO) (hO.blkSees (i := 0) rfl) hr22).mono fun e w' h => by obtain ⟨he, hb⟩ := h; exact ⟨(), he, hO.grow hb, .inr rfl, .inr rfl, .inr rfl, .inr rfl, .inr rfl, .inr rfl, .inr rfl, .inr rfl, .inr rfl, .inr rfl, .inr rfl, .inr rfl, .inr rfl, .inr rfl, .inr rfl, .inr rfl, .inr rfl, .inr rfl, .inr rfl, .inr rfl, .inr rfl, .inr rfl, trivial⟩)⟩, .inr ⟨rfl, sS_pure rfl (fun σ => rfl) (fun σ => rfl) (fun σ a w k _ _ _ _ hf => ex_pick_t hf rfl hc21 rfl)⟩, .inr ⟨rfl, sS_pure rfl (fun σ => rfl) (fun σ => rfl) (fun σ a w k _ _ _ _ hf => ex_move hf rfl)⟩, .inl rfl, .inl rfl, .inl rfl, .inl rfl, .inr ⟨rfl, sS_pure rfl (fun σ => rfl) (fun σ => rfl) (fun σ a w k _ _ _ _ hf => ex_pick_f hf rfl hc23 rfl)⟩, .inr ⟨rfl, sS_pure rfl (fun σ => rfl) (fun σ => rfl) (fun σ a w k _ _ _ _ hf => ex_move hf rfl)⟩, .inl rfl, .inl rfl, .inl rfl, .inl rfl, .inl rfl, .inl rfl, .inr ⟨rfl, sS_pure rfl (fun σ => rfl) (fun σ => rfl) (fun σ a w k _ _ _ _ hf => ex_pick_f hf rfl rfl rfl)⟩, .inr ⟨rfl, sS_skip rfl (fun σ => rfl) (fun σ => rfl) rfl (fun σ w (hO : Dk.Own w0 [] w _) => by obtain ⟨w', hO', hr⟩ := ef_storeN (x := (.tmp 2)) (y := (.tmp 25)) (E := [(2, ptr b1 0), (25, .agg #[str r7.1, str s20, .bool r10.1])]) (i := 2) (n := 3) (vs := [str r7.1, str s20, .bool r10.1]) sz_64 rfl rfl rfl (by simp [Value.oneCell']) hO rfl rfl; exact ⟨(), w', hO', ⟨.inr rfl, .inr rfl, .inr rfl, .inr rfl, .inr rfl, .inr rfl, .inr rfl, .inr rfl, .inr rfl, .inr rfl, .inr rfl, .inr rfl, .inr rfl, .inr rfl, .inr rfl, .inr rfl, .inr rfl, .inr rfl, .inr rfl, .inr rfl, .inr rfl, .inr rfl, trivial⟩, hr⟩)⟩, .inr ⟨rfl, sS_pure rfl (fun σ => rfl) (fun σ => rfl) (fun σ a w k _ _ _ _ hf => ex_assign hf rfl)⟩, trivial⟩ ?_
 rintro _ a w hf hO
 have hO : Dk.Own w0 [] w _ := hO
 have hf : Fits 45 [(2, ptr b1 0), (3, .bool false)] a := (hf.cons rfl (hf.cons rfl hf.nil))
 refine nor_then ?_
 exact ⟨false, (hf.cons rfl (hf.cons rfl hf.nil)), hO, hm⟩
 have hm := ie hc21 hm
 refine wp_drawG' (S := Unit) (E0 := [(2, ptr b1 0), (4, ptr b5 0), (6, .bool r7.2.1), (7, ptr b12 0)]) (by kernel_rfl) (fun k σ w => match k with | 0 => Dk.Own w0 [] w [.blk b5 [str s18, int i19] 115, .blk b12 [str r7.1, str s20, .bool r10.1] 64, .blk b1 [str [], str [], .bool false] 64] | _ => Dk.Own w0 [] w [.blk b5 [str s18, int i19] 115, .blk b12 [str r7.1, str s20, .bool r10.1] 64, .blk b1 [str r7.1, str s20, .bool r10.1] 64]) (fun σ => [⟨[(7, ptr b12 0)], some (25, .agg #[str r7.1, str s20, .bool r10.1])⟩, ⟨[(6, .bool r7.2.1)], some (26, .bool r7.2.1)⟩, ⟨[(26, .bool r7.2.1)], some (27, .bool r7.2.1)⟩, ⟨[(27, .bool r7.2.1)], some (28, undef)⟩, ⟨[(27, .bool r7.2.1)], some (29, undef)⟩, ⟨[(27, .bool r7.2.1), (29, undef)], some (30, .bool false)⟩, ⟨[(30, .bool false)], some (31, .bool false)⟩, ⟨[(31, .bool false)], some (32, undef)⟩, ⟨[(31, .bool false)], some (33, undef)⟩, ⟨[(31, .bool false)], some (34, undef)⟩, ⟨[(31, .bool false)], some (35, undef)⟩, ⟨[(31, .bool false), (35, undef)], some (36, .bool false)⟩, ⟨[(36, .bool false)], some (37, .bool false)⟩, ⟨[(37, .bool false)], some (38, undef)⟩, ⟨[(37, .bool false)], some (39, undef)⟩, ⟨[(37, .bool false)], some (40, undef)⟩, ⟨[(37, .bool false)], some (41, undef)⟩, ⟨[(37, .bool false)], some (42, undef)⟩, ⟨[(37, .bool false)], some (43, undef)⟩, ⟨[(37, .bool false), (43, undef)], some (44, .bool false)⟩, ⟨[(2, ptr b1 0), (25, .agg #[str r7.1, str s20, .bool r10.1])], none⟩, ⟨[(44, .bool false)], some (3, .bool false)⟩]) () [20] [3, 4, 7, 8, 9, 10, 13, 14, 15, 16, 17, 18] ⟨g_none rfl rfl, g_none rfl rfl, g_none rfl rfl, g_some (u := fun σ => r7.2.1) rfl (fun σ => rfl) rfl (fun σ => rfl) (fun σ => by rw [hc21] <;> rfl), g_some (u := fun σ => r7.2.1) rfl (fun σ => rfl) rfl (fun σ => rfl) (fun σ => by rw [hc21] <;> rfl), g_none rfl rfl, g_none rfl rfl, g_some (u := fun σ => false) rfl (fun σ => rfl) rfl (fun σ => rfl) (fun σ => rfl), g_some (u := fun σ => false) rfl (fun σ => rfl) rfl (fun σ => rfl) (fun σ => rfl), g_some (u := fun σ => false) rfl (fun σ => rfl) rfl (fun σ => rfl) (fun σ => rfl), g_some (u := fun σ => false) rfl (fun σ => rfl) rfl (fun σ => rfl) (fun σ => rfl), g_none rfl rfl, g_none rfl rfl, g_some (u := fun σ => false) rfl (fun σ => rfl) rfl (fun σ => rfl) (fun σ => rfl), g_some (u := fun σ => false) rfl (fun σ => rfl) rfl (fun σ => rfl) (fun σ => rfl), g_some (u := fun σ => false) rfl (fun σ => rfl) rfl (fun σ => rfl) (fun σ => rfl), g_some (u := fun σ => false) rfl (fun σ => rfl) rfl (fun σ => rfl) (fun σ => rfl), g_some (u := fun σ => false) rfl (fun σ => rfl) rfl (fun σ => rfl) (fun σ => rfl), g_some (u := fun σ => false) rfl (fun σ => rfl) rfl (fun σ => rfl) (fun σ => rfl), g_none rfl rfl, g_none rfl rfl, g_none rfl rfl, trivial⟩ (fun σ => ⟨.inl rfl, .inl rfl, .inl rfl, .inr ⟨rfl, rfl⟩, .inr ⟨rfl, rfl⟩, .inl rfl, .inl rfl, .inr ⟨rfl, rfl⟩, .inr ⟨rfl, rfl⟩, .inr ⟨rfl, rfl⟩, .inr ⟨rfl, rfl⟩, .inl rfl, .inl rfl, .inr ⟨rfl, rfl⟩, .inr ⟨rfl, rfl⟩, .inr ⟨rfl, rfl⟩, .inr ⟨rfl, rfl⟩, .inr ⟨rfl, rfl⟩, .inr ⟨rfl, rfl⟩, .inl rfl, .inl rfl, .inl rfl, trivial⟩) (fun _ => rfl) (fun _ => rfl) (fun _ => rfl) rfl rfl (by decide) rfl hO.drew (hf.cons rfl (hf.cons rfl (hf.cons rfl (hf.cons rfl hf.nil)))) (fun σ => ⟨⟨rfl, trivial⟩, ⟨rfl, trivial⟩, ⟨rfl, trivial⟩, ⟨rfl, trivial⟩, ⟨rfl, trivial⟩, ⟨rfl, rfl, trivial⟩, ⟨rfl, trivial⟩, ⟨rfl, trivial⟩, ⟨rfl, trivial⟩, ⟨rfl, trivial⟩, ⟨rfl, trivial⟩, ⟨rfl, rfl, trivial⟩, ⟨rfl, trivial⟩, ⟨rfl, trivial⟩, ⟨rfl, trivial⟩, ⟨rfl, trivial⟩, ⟨rfl, trivial⟩, ⟨rfl, trivial⟩, ⟨rfl, trivial⟩, ⟨rfl, rfl, trivial⟩, ⟨rfl, rfl, trivial⟩, ⟨rfl, trivial⟩, trivial⟩) ⟨.inr ⟨rfl, sS_pure rfl (fun σ => rfl) (fun σ => rfl) (fun σ a w k hk hlo hup hst hf => match k, hk, hlo, hup, hst, hf with | 0, _, _, _, hst, hf => have hO : Dk.Own w0 [] w _ := hst; ex_loadN (o := 0) (vs := [str r7.1, str s20, .bool r10.1]) ag_64 sz_64 (hO.blkSees (i := 1) rfl) rfl rfl hf rfl | 1, _, _, _, hst, hf => have hO : Dk.Own w0 [] w _ := hst; ex_loadN (o := 0) (vs := [str r7.1, str s20, .bool r10.1]) ag_64 sz_64 (hO.blkSees (i := 1) rfl) rfl rfl hf rfl | k + 2, hk, _, _, _, _ => absurd hk (by simp))⟩, .inr ⟨rfl, sS_pure rfl (fun σ => rfl) (fun σ => rfl) (fun σ a w k _ _ _ _ hf => ex_move hf rfl)⟩, .inr ⟨rfl, sS_pure rfl (fun σ => rfl) (fun σ => rfl) (fun σ a w k _ _ _ _ hf => ex_move hf rfl)⟩, .inl rfl, .inl rfl, .inr ⟨rfl, sS_pure rfl (fun σ => rfl) (fun σ => rfl) (fun σ a w k _ _ _ _ hf => ex_pick_f hf rfl hc21 rfl)⟩, .inr ⟨rfl, sS_pure rfl (fun σ => rfl) (fun σ => rfl) (fun σ a w k _ _ _ _ hf => ex_move hf rfl)⟩, .inl rfl, .inl rfl, .inl rfl, .inl rfl, .inr ⟨rfl, sS_pure rfl (fun σ => rfl) (fun σ => rfl) (fun σ a w k _ _ _ _ hf => ex_pick_f hf rfl rfl rfl)⟩, .inr ⟨rfl, sS_pure rfl (fun σ => rfl) (fun σ => rfl) (fun σ a w k _ _ _ _ hf => ex_move hf rfl)⟩, .inl rfl, .inl rfl, .inl rfl, .inl rfl, .inl rfl, .inl rfl, .inr ⟨rfl, sS_pure rfl (fun σ => rfl) (fun σ => rfl) (fun σ a w k _ _ _ _ hf => ex_pick_f hf rfl rfl rfl)⟩, .inr ⟨rfl, sS_skip rfl (fun σ => rfl) (fun σ => rfl) rfl (fun σ w (hO : Dk.Own w0 [] w _) => by obtain ⟨w', hO', hr⟩ := ef_storeN (x := (.tmp 2)) (y := (.tmp 25)) (E := [(2, ptr b1 0), (25, .agg #[str r7.1, str s20, .bool r10.1])]) (i := 2) (n := 3) (vs := [str r7.1, str s20, .bool r10.1]) sz_64 rfl rfl rfl (by simp [Value.oneCell']) hO rfl rfl; exact ⟨(), w', hO', ⟨.inr rfl, .inr rfl, .inr rfl, .inr rfl, .inr rfl, .inr rfl, .inr rfl, .inr rfl, .inr rfl, .inr rfl, .inr rfl, .inr rfl, .inr rfl, .inr rfl, .inr rfl, .inr rfl, .inr rfl, .inr rfl, .inr rfl, .inr rfl, .inr rfl, .inr rfl, trivial⟩, hr⟩)⟩, .inr ⟨rfl, sS_pure rfl (fun σ => rfl) (fun σ => rfl) (fun σ a w k _ _ _ _ hf => ex_assign hf rfl)⟩, trivial⟩ ?_
 rintro _ a w hf hO
 have hO : Dk.Own w0 [] w _ := hO
 have hf : Fits 45 [(2, ptr b1 0), (3, .bool false)] a := (hf.cons rfl (hf.cons rfl hf.nil))
 refine nor_then ?_
 exact ⟨false, (hf.cons rfl (hf.cons rfl hf.nil)), hO, hm⟩
 rintro a w ⟨t28, hf, hO, hm⟩
 rw [cookie_part_j2] at hm
 refine wp_ret ?_
 obtain rfl := Option.some.inj hm
 exact post_ret Tryz.results30 hf (.cell rfl (run_loadVarN (n := 3) (vs := [str r7.1, str s20, .bool r10.1]) ag_64 sz_64 rfl ((hO.blkSees (i := 2) rfl).cells (o := 0) (n := 3) rfl)) (.tmp rfl .nil)) ⟨rfl, hO.below⟩

set_option maxHeartbeats 1000000 in
theorem w_stringslite_CutPrefix (x_s : Str) (x_prefix : Str) (R : Str × Bool) (w0 : World) (hG : Glob w0) (hm : stringslite_CutPrefix x_s x_prefix = some R) :
    Calls Tryz.prog 109 #[str x_s, str x_prefix] w0 fun e w' => e = .returned (.tuple #[str R.1, .bool R.2]) ∧ Below w0.heap.size w0 w' := by
 rw [stringslite_CutPrefix] at hm
 refine calls_enter (vs := [str x_s, str x_prefix]) Tryz.func109 rfl Tryz.ntmps109 rfl fun a hf => ?_
 have hF : Away [] := away_nil
 have hO : Dk.Own w0 [] w0 [] := Dk.Own.refl w0
 refine wp_seq_k fun _ hK1 => ?_
 refine wp_region_list ?_
 refine op_as hf rfl rfl fun a hf => ?_
 refine op_as hf rfl rfl fun a hf => ?_
 refine wpList_nil ?_
 refine nor_then (hK1 _ _ ?_)
 refine wp_seq_k fun _ hK6 => ?_
 refine wp_seq_k fun _ hK3 => ?_
 refine wp_region_list ?_
 refine op_mv hf rfl rfl fun a hf => ?_
 refine op_mv hf rfl rfl fun a hf => ?_
 obtain ⟨r2, hr2, hm⟩ := ob hm
 refine op_enter (ex_call c_112 hf (vs := [str x_s, str x_prefix]) rfl) rfl hf rfl rfl (w_stringslite_HasPrefix x_s x_prefix r2 _ (hG.own hF hO) hr2) ?_
 rintro e w' ⟨he, hb⟩
 refine ⟨_, he, fun a hf => ?_⟩
 have hO := hO.grow hb
 refine op_val (ex_not hf rfl) rfl hf rfl rfl fun a hf => ?_
 refine wpList_nil ?_
 refine nor_then (hK3 _ _ ?_)
 refine wp_cond_cut hf rfl (fun hc4 => ?_) (fun hc4 => ?_)
 have hm := it hc4 hm
 refine wp_seq_k fun _ hK5 => ?_
 refine wp_region_list ?_
 refine op_mv hf rfl rfl fun a hf => ?_
 refine op_as hf rfl rfl fun a hf => ?_
 refine op_as hf rfl rfl fun a hf => ?_
 refine wpList_nil ?_
 refine nor_then (hK5 _ _ ?_)
 refine wp_ret ?_
 refine ret_then ?_
 obtain rfl := Option.some.inj hm
 exact post_ret Tryz.results109 hf (.tmp rfl (.tmp rfl .nil)) ⟨rfl, hO.below⟩
 have hm := ie hc4 hm
 refine wp_skip ?_
 refine nor_then (hK6 _ _ ?_)
 refine wp_seq_k fun _ hK8 => ?_
 refine wp_region_list ?_
 refine op_mv hf rfl rfl fun a hf => ?_
 refine op_mv hf rfl rfl fun a hf => ?_
 refine op_val (ex_len_s (l := x_prefix) Tryz.underlying9 hf rfl) rfl hf rfl rfl fun a hf => ?_
 obtain ⟨s7, hs7, hm⟩ := ob hm
 refine op_val (ex_from_s (l := x_s) Tryz.underlying9 hf rfl rfl hs7) rfl hf rfl rfl fun a hf => ?_
 refine op_as hf rfl rfl fun a hf => ?_
 refine op_as hf rfl rfl fun a hf => ?_
 refine wpList_nil ?_
 refine nor_then (hK8 _ _ ?_)
 refine wp_ret ?_
 obtain rfl := Option.some.inj hm
 exact post_ret Tryz.results109 hf (.tmp rfl (.tmp rfl .nil)) ⟨rfl, hO.below⟩

end Go.Proofs
