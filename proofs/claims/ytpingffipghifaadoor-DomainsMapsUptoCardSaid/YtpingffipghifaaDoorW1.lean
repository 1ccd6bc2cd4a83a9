/-
  Walks, written by a program (wip/gen): what its model says, the function returns; what was there before is as it was.
-/
import Derived.Test.YtpingffipghifaaDoorLib
import Derived.Test.YtpingffipghifaaDoorW0
set_option linter.unusedVariables false
set_option linter.unusedSimpArgs false
set_option maxRecDepth 100000
namespace Go.Proofs
open Go.Dk Go.Dm Go.RowKit

set_option maxHeartbeats 1000000 in
theorem w_octet_IsToken (x_b : UInt8) (R : Bool) (w0 : World) (hG : Glob w0) (hm : octet_IsToken x_b = some R) :
    Calls Tryd.prog 82 #[byte x_b] w0 fun e w' => e = .returned (.bool R) ∧ Below w0.heap.size w0 w' := by
  rw [octet_IsToken] at hm
  refine calls_enter (vs := [byte x_b]) Tryd.func82 rfl Tryd.ntmps82 rfl fun a hf => ?_
  have hF : Away [] := away_nil
  have hO : Dk.Own w0 [] w0 [] := Dk.Own.refl w0
  refine wp_seq_k fun _ hK1 => ?_
  refine wp_region_list ?_
  refine op_val (ex_assign hf rfl) rfl hf rfl rfl fun a hf => ?_
  refine wpList_nil ?_
  refine nor_then (hK1 _ _ ?_)
  refine wp_seq_cut (fun a w => ∃ (t7 : Bool), Fits 13 [(2, .bool t7)] a ∧ Dk.Own w0 [] w [] ∧ octet_IsToken_j1 t7 = some R) ?_ ?_
  · refine wp_region_list ?_
    refine op_val (ex_move hf rfl) rfl hf rfl rfl fun a hf => ?_
    obtain ⟨r2, hr2, hm⟩ := ob hm
    refine op_enter (ex_call c_115 hf (vs := [byte x_b]) rfl) rfl hf rfl rfl (w_octet_IsAlpha x_b r2 _ (hG.own hF hO) hr2) ?_
    rintro e w' ⟨he, hb⟩
    refine ⟨_, he, fun a hf => ?_⟩
    have hO := hO.grow hb
    refine op_val (ex_move hf rfl) rfl hf rfl rfl fun a hf => ?_
    rcases bcase (r2) with hc3 | hc3
    · have hm := it hc3 hm
      refine op_pass rfl hf rfl rfl (hc3) rfl rfl fun a hf => ?_
      refine op_pass rfl hf rfl rfl (hc3) rfl rfl fun a hf => ?_
      refine op_val (ex_pick_t hf rfl hc3 rfl) rfl hf rfl rfl fun a hf => ?_
      refine op_val (ex_move hf rfl) rfl hf rfl rfl fun a hf => ?_
      refine op_pass rfl hf rfl rfl (rfl) rfl rfl fun a hf => ?_
      refine op_pass rfl hf rfl rfl (rfl) rfl rfl fun a hf => ?_
      refine op_val (ex_pick_t hf rfl rfl rfl) rfl hf rfl rfl fun a hf => ?_
      refine op_val (ex_assign hf rfl) rfl hf rfl rfl fun a hf => ?_
      refine wpList_nil ?_
      refine nor_then ?_
      exact ⟨true, (hf.cons rfl hf.nil), hO, hm⟩
    · have hm := ie hc3 hm
      refine op_guard rfl hf rfl rfl (hc3) ?_
      refine op_val (ex_move hf rfl) rfl hf rfl rfl fun a hf => ?_
      refine op_guard rfl hf rfl rfl (hc3) ?_
      obtain ⟨r4, hr4, hm⟩ := ob hm
      refine op_enter (ex_call c_116 hf (vs := [byte x_b]) rfl) rfl hf rfl rfl (w_octet_IsDigit x_b r4 _ (hG.own hF hO) hr4) ?_
      rintro e w' ⟨he, hb⟩
      refine ⟨_, he, fun a hf => ?_⟩
      have hO := hO.grow hb
      refine op_val (ex_pick_f hf rfl hc3 rfl) rfl hf rfl rfl fun a hf => ?_
      refine op_val (ex_move hf rfl) rfl hf rfl rfl fun a hf => ?_
      rcases bcase (r4) with hc5 | hc5
      · have hm := it hc5 hm
        refine op_pass rfl hf rfl rfl (hc5) rfl rfl fun a hf => ?_
        refine op_pass rfl hf rfl rfl (hc5) rfl rfl fun a hf => ?_
        refine op_val (ex_pick_t hf rfl hc5 rfl) rfl hf rfl rfl fun a hf => ?_
        refine op_val (ex_assign hf rfl) rfl hf rfl rfl fun a hf => ?_
        refine wpList_nil ?_
        refine nor_then ?_
        exact ⟨true, (hf.cons rfl hf.nil), hO, hm⟩
      · have hm := ie hc5 hm
        refine op_guard rfl hf rfl rfl (hc5) ?_
        refine op_val (ex_move hf rfl) rfl hf rfl rfl fun a hf => ?_
        refine op_guard rfl hf rfl rfl (hc5) ?_
        obtain ⟨r6, hr6, hm⟩ := ob hm
        refine op_enter (ex_call c_117 hf (vs := [byte x_b, str [33, 35, 36, 37, 38, 39, 42, 43, 45, 46, 94, 95, 96, 124, 126]]) rfl) rfl hf rfl rfl (w_octet_one x_b [33, 35, 36, 37, 38, 39, 42, 43, 45, 46, 94, 95, 96, 124, 126] r6 _ (hG.own hF hO) hr6) ?_
        rintro e w' ⟨he, hb⟩
        refine ⟨_, he, fun a hf => ?_⟩
        have hO := hO.grow hb
        refine op_val (ex_pick_f hf rfl hc5 rfl) rfl hf rfl rfl fun a hf => ?_
        refine op_val (ex_assign hf rfl) rfl hf rfl rfl fun a hf => ?_
        refine wpList_nil ?_
        refine nor_then ?_
        exact ⟨r6, (hf.cons rfl hf.nil), hO, hm⟩
  · rintro a w ⟨t7, hf, hO, hm⟩
    rw [octet_IsToken_j1] at hm
    refine wp_ret ?_
    obtain rfl := Option.some.inj hm
    exact post_ret Tryd.results82 hf (.tmp rfl .nil) ⟨rfl, hO.below⟩

set_option maxHeartbeats 1000000 in
theorem w_scan_Scanner_Token (x_c : scan_Scanner) (R : Str × Bool × scan_Scanner) (w0 : World) (hG : Glob w0) {x_c_b0 : Nat} {F : List Nat} (hF : Away F) (hO : Dk.Own w0 F w0 [.blk x_c_b0 [str x_c.f_s, int x_c.f_at] 79]) (hm : scan_Scanner_Token x_c = some R) :
    Calls Tryd.prog 48 #[ptr x_c_b0 0] w0 fun e w' => e = .returned (.tuple #[str R.1, .bool R.2.1]) ∧ Dk.Own w0 F w' [.blk x_c_b0 [str R.2.2.f_s, int R.2.2.f_at] 79] := by
  rw [scan_Scanner_Token] at hm
  refine calls_enter (vs := [ptr x_c_b0 0]) Tryd.func48 rfl Tryd.ntmps48 rfl fun a hf => ?_
  refine wp_seq_k fun _ hK1 => ?_
  refine wp_region_list ?_
  refine op_val (ex_assign hf rfl) rfl hf rfl rfl fun a hf => ?_
  refine op_val (ex_assign hf rfl) rfl hf rfl rfl fun a hf => ?_
  refine wpList_nil ?_
  refine nor_then (hK1 _ _ ?_)
  refine wp_seq_k fun _ hK3 => ?_
  refine wp_region_list ?_
  refine op_val (ex_move hf rfl) rfl hf rfl rfl fun a hf => ?_
  obtain ⟨r2, hr2, hm⟩ := ob hm
  refine op_enter (ex_call c_50 hf (vs := [ptr x_c_b0 0, .func (.func 82) #[] #[]]) rfl) rfl hf rfl rfl (w_scan_Scanner_While x_c octet_IsToken r2 _ (hG.own hF hO) (Dk.Own.far (show Dk.Own w0 F _ ([.blk x_c_b0 [str x_c.f_s, int x_c.f_at] 79] ++ []) from hO) rfl hF hG.size) ((show Dk.Own w0 F _ ([.blk x_c_b0 [str x_c.f_s, int x_c.f_at] 79] ++ []) from hO).lend rfl trivial) c_82 (fun y0 r w hG h => callsE (w_octet_IsToken y0 r w hG h)) hr2) ?_
  rintro e w' ⟨he, hO'⟩
  refine ⟨_, he, fun a hf => ?_⟩
  have hO := (show Dk.Own w0 F _ ([.blk x_c_b0 [str x_c.f_s, int x_c.f_at] 79] ++ []) from hO).back rfl hO' rfl
  refine op_val (ex_assign hf rfl) rfl hf rfl rfl fun a hf => ?_
  refine wpList_nil ?_
  refine nor_then (hK3 _ _ ?_)
  refine wp_seq_k fun _ hK4 => ?_
  refine wp_region_list ?_
  refine op_val (ex_move hf rfl) rfl hf rfl rfl fun a hf => ?_
  refine op_val (ex_move hf rfl) rfl hf rfl rfl fun a hf => ?_
  refine op_val (ex_neq_s (l := r2.1) (m := []) hf rfl rfl) rfl hf rfl rfl fun a hf => ?_
  refine op_val (ex_assign hf rfl) rfl hf rfl rfl fun a hf => ?_
  refine op_val (ex_assign hf rfl) rfl hf rfl rfl fun a hf => ?_
  refine wpList_nil ?_
  refine nor_then (hK4 _ _ ?_)
  refine wp_ret ?_
  obtain rfl := Option.some.inj hm
  exact post_ret Tryd.results48 hf (.tmp rfl (.tmp rfl .nil)) ⟨rfl, hO⟩

set_option maxHeartbeats 1000000 in
theorem w_scan_Scanner_Byte (x_c : scan_Scanner) (x_b : UInt8) (R : Bool × scan_Scanner) (w0 : World) (hG : Glob w0) {x_c_b0 : Nat} {F : List Nat} (hF : Away F) (hO : Dk.Own w0 F w0 [.blk x_c_b0 [str x_c.f_s, int x_c.f_at] 79]) (hm : scan_Scanner_Byte x_c x_b = some R) :
    Calls Tryd.prog 49 #[ptr x_c_b0 0, byte x_b] w0 fun e w' => e = .returned (.bool R.1) ∧ Dk.Own w0 F w' [.blk x_c_b0 [str R.2.f_s, int R.2.f_at] 79] := by
  rw [scan_Scanner_Byte] at hm
  refine calls_enter (vs := [ptr x_c_b0 0, byte x_b]) Tryd.func49 rfl Tryd.ntmps49 rfl fun a hf => ?_
  refine wp_seq_k fun _ hK1 => ?_
  refine wp_region_list ?_
  refine op_val (ex_assign hf rfl) rfl hf rfl rfl fun a hf => ?_
  refine wpList_nil ?_
  refine nor_then (hK1 _ _ ?_)
  refine wp_seq_k fun _ hK3 => ?_
  refine wp_region_list ?_
  refine op_val (ex_move hf rfl) rfl hf rfl rfl fun a hf => ?_
  obtain ⟨r2, hr2, hm⟩ := ob hm
  refine op_enter (ex_call c_83 hf (vs := [ptr x_c_b0 0]) rfl) rfl hf rfl rfl (w_scan_Scanner_Peek x_c r2 _ (hG.own hF hO) (hO.blkSees (i := 0) rfl) hr2) ?_
  rintro e w' ⟨he, hb⟩
  refine ⟨_, he, fun a hf => ?_⟩
  have hO := hO.grow hb
  refine op_val (ex_move hf rfl) rfl hf rfl rfl fun a hf => ?_
  refine op_val (ex_extract hf rfl rfl) rfl hf rfl rfl fun a hf => ?_
  refine op_val (ex_extract hf rfl rfl) rfl hf rfl rfl fun a hf => ?_
  refine op_val (ex_assign hf rfl) rfl hf rfl rfl fun a hf => ?_
  refine op_val (ex_assign hf rfl) rfl hf rfl rfl fun a hf => ?_
  refine wpList_nil ?_
  refine nor_then (hK3 _ _ ?_)
  refine wp_seq_k fun _ hK8 => ?_
  refine wp_seq_cut (fun a w => ∃ (t5 : Bool), Fits 26 [(0, ptr x_c_b0 0), (18, .bool t5)] a ∧ Dk.Own w0 F w [.blk x_c_b0 [str x_c.f_s, int x_c.f_at] 79] ∧ scan_Scanner_Byte_j1 x_c t5 = some R) ?_ ?_
  · refine wp_region_list ?_
    refine op_val (ex_move hf rfl) rfl hf rfl rfl fun a hf => ?_
    refine op_val (ex_not hf rfl) rfl hf rfl rfl fun a hf => ?_
    refine op_val (ex_move hf rfl) rfl hf rfl rfl fun a hf => ?_
    rcases bcase (!r2.2) with hc4 | hc4
    · have hm := it hc4 hm
      refine op_pass rfl hf rfl rfl (hc4) rfl rfl fun a hf => ?_
      refine op_pass rfl hf rfl rfl (hc4) rfl rfl fun a hf => ?_
      refine op_pass rfl hf rfl rfl (hc4) rfl rfl fun a hf => ?_
      refine op_val (ex_pick_t hf rfl hc4 rfl) rfl hf rfl rfl fun a hf => ?_
      refine wpList_nil ?_
      refine nor_then ?_
      exact ⟨true, (hf.cons rfl (hf.cons rfl hf.nil)), hO, hm⟩
    · have hm := ie hc4 hm
      refine op_guard rfl hf rfl rfl (hc4) ?_
      refine op_val (ex_move hf rfl) rfl hf rfl rfl fun a hf => ?_
      refine op_guard rfl hf rfl rfl (hc4) ?_
      refine op_val (ex_move hf rfl) rfl hf rfl rfl fun a hf => ?_
      refine op_guard rfl hf rfl rfl (hc4) ?_
      refine op_val (ex_neq_b (b := r2.1) (c := x_b) hf rfl rfl) rfl hf rfl rfl fun a hf => ?_
      refine op_val (ex_pick_f hf rfl hc4 rfl) rfl hf rfl rfl fun a hf => ?_
      refine wpList_nil ?_
      refine nor_then ?_
      exact ⟨!(r2.1 == x_b), (hf.cons rfl (hf.cons rfl hf.nil)), hO, hm⟩
  · rintro a w ⟨t5, hf, hO, hm⟩
    rw [scan_Scanner_Byte_j1] at hm
    refine wp_cond_cut hf rfl (fun hc6 => ?_) (fun hc6 => ?_)
    · have hm := it hc6 hm
      refine wp_seq_k fun _ hK7 => ?_
      refine wp_region_list ?_
      refine op_val (ex_assign hf rfl) rfl hf rfl rfl fun a hf => ?_
      refine wpList_nil ?_
      refine nor_then (hK7 _ _ ?_)
      refine wp_ret ?_
      refine ret_then ?_
      obtain rfl := Option.some.inj hm
      exact post_ret Tryd.results49 hf (.tmp rfl .nil) ⟨rfl, hO⟩
    · have hm := ie hc6 hm
      refine wp_skip ?_
      refine nor_then (hK8 _ _ ?_)
      refine wp_seq_k fun _ hK10 => ?_
      refine wp_region_list ?_
      refine op_val (ex_move hf rfl) rfl hf rfl rfl fun a hf => ?_
      refine op_val (ex_nilCheck hf rfl) rfl hf rfl rfl fun a hf => ?_
      refine op_val (ex_field fa_79_1 hf rfl) rfl hf rfl rfl fun a hf => ?_
      refine op_val (ex_load1 (o := 1) ag_3 (hO.blkSees (i := 0) rfl) rfl hf rfl) rfl hf rfl rfl fun a hf => ?_
      obtain ⟨i9, hi9, hm⟩ := ob hm
      refine op_val (ex_add hf rfl rfl hi9) rfl hf rfl rfl fun a hf => ?_
      refine op_val (ex_nilCheck hf rfl) rfl hf rfl rfl fun a hf => ?_
      refine op_val (ex_field fa_79_1 hf rfl) rfl hf rfl rfl fun a hf => ?_
      refine op_store1 (i := 0) (o := 1) (v := int i9) sz_3 rfl rfl rfl rfl hf rfl rfl hO fun w hO => ?_
      refine wpList_nil ?_
      refine nor_then (hK10 _ _ ?_)
      refine wp_seq_k fun _ hK11 => ?_
      refine wp_region_list ?_
      refine op_val (ex_assign hf rfl) rfl hf rfl rfl fun a hf => ?_
      refine wpList_nil ?_
      refine nor_then (hK11 _ _ ?_)
      refine wp_ret ?_
      obtain rfl := Option.some.inj hm
      exact post_ret Tryd.results49 hf (.tmp rfl .nil) ⟨rfl, hO⟩

set_option maxHeartbeats 1000000 in
theorem w_cookie_part_1 (x_a0 : UInt8) (R : Bool) (w0 : World) (hG : Glob w0) (hm : cookie_part_1 x_a0 = some R) :
    Calls Tryd.prog 51 #[byte x_a0] w0 fun e w' => e = .returned (.bool R) ∧ Below w0.heap.size w0 w' := by
  rw [cookie_part_1] at hm
  refine calls_enter (vs := [byte x_a0]) Tryd.func51 rfl Tryd.ntmps51 rfl fun a hf => ?_
  have hF : Away [] := away_nil
  have hO : Dk.Own w0 [] w0 [] := Dk.Own.refl w0
  refine wp_seq_k fun _ hK1 => ?_
  refine wp_region_list ?_
  refine op_val (ex_assign hf rfl) rfl hf rfl rfl fun a hf => ?_
  refine wpList_nil ?_
  refine nor_then (hK1 _ _ ?_)
  refine wp_seq_k fun _ hK2 => ?_
  refine wp_region_list ?_
  refine op_val (ex_assign hf rfl) rfl hf rfl rfl fun a hf => ?_
  refine wpList_nil ?_
  refine nor_then (hK2 _ _ ?_)
  refine wp_ret ?_
  obtain rfl := Option.some.inj hm
  exact post_ret Tryd.results51 hf (.tmp rfl .nil) ⟨rfl, hO.below⟩

set_option maxHeartbeats 1000000 in
theorem w_octet_All (x_is : UInt8 → Option Bool) (x_l : List Str) (R : Bool) (w0 : World) (hG : Glob w0) {x_is_f : Nat} {x_is_p x_is_c : Array Value} (x_is_k : Callable Tryd.prog x_is_f) (x_is_h : ∀ (y0 : UInt8) (r : Bool) (w : World), Glob w → x_is y0 = some r → Calls Tryd.prog x_is_f (x_is_p ++ [byte y0].toArray ++ x_is_c) w fun e w' => e = .returned (.bool r) ∧ Below w.heap.size w w') {x_l_p0 : Option Addr} {x_l_c0 : Nat} (hs0 : Sees w0 x_l_p0 (cells enc_str x_l)) (hc0 : x_l.length ≤ x_l_c0) (hm : octet_All x_is x_l = some R) :
    Calls Tryd.prog 53 #[.func (.func x_is_f) x_is_p x_is_c, .slice x_l_p0 x_l.length x_l_c0] w0 fun e w' => e = .returned (.bool R) ∧ Below w0.heap.size w0 w' := by
  rw [octet_All] at hm
  refine calls_enter (vs := [.func (.func x_is_f) x_is_p x_is_c, .slice x_l_p0 x_l.length x_l_c0]) Tryd.func53 rfl Tryd.ntmps53 rfl fun a hf => ?_
  have hF : Away [] := away_nil
  have hO : Dk.Own w0 [] w0 [] := Dk.Own.refl w0
  have hO := hO.addShr hs0 (by simp [Res.shared])
  refine wp_seq_k fun _ hK1 => ?_
  refine wp_region_list ?_
  refine op_val (ex_assign hf rfl) rfl hf rfl rfl fun a hf => ?_
  refine wpList_nil ?_
  refine nor_then (hK1 _ _ ?_)
  refine wp_seq_k fun _ hK26 => ?_
  refine wp_seq_k fun _ hK2 => ?_
  refine wp_region_list ?_
  refine op_val (ex_move hf rfl) rfl hf rfl rfl fun a hf => ?_
  refine op_val (ex_len_l Tryd.underlying55 hf rfl) rfl hf rfl rfl fun a hf => ?_
  refine op_val (ex_move hf rfl) rfl hf rfl rfl fun a hf => ?_
  refine wpList_nil ?_
  refine nor_then (hK2 _ _ ?_)
  refine wp_block ?_
  refine wp_loop_n (fun k a w => ∃ (i3 : Int), Fits 27 [(0, .func (.func x_is_f) x_is_p x_is_c), (8, .slice x_l_p0 x_l.length x_l_c0), (9, int (x_l.length : Int)), (10, int i3)] a ∧ Dk.Own w0 [] w [.shr x_l_p0 (cells enc_str x_l)] ∧ octet_All_L1 x_is x_l k i3 = some R) ?_ fuel ?_
  · rintro n1 a w ⟨i3, hf, hO, hm⟩
    obtain _ | n1 := n1
    · rw [octet_All_L1] at hm
      cases hm
    · rw [octet_All_L1] at hm
      refine wp_seq_k fun _ hK4 => ?_
      refine wp_region_list ?_
      refine op_val (ex_lss (m := i3) (n := (x_l.length : Int)) hf rfl rfl) rfl hf rfl rfl fun a hf => ?_
      refine wpList_nil ?_
      refine nor_then (hK4 _ _ ?_)
      refine wp_seq_k fun _ hK6 => ?_
      refine wp_cond_cut hf rfl (fun hc5 => ?_) (fun hc5 => ?_)
      · have hm := it hc5 hm
        refine wp_skip ?_
        refine nor_then (hK6 _ _ ?_)
        refine wp_seq_k fun _ hK24 => ?_
        refine wp_block ?_
        refine wp_seq_k fun _ hK10 => ?_
        refine wp_region_list ?_
        obtain ⟨x7, hx7, hm⟩ := ob hm
        obtain ⟨b8, o9, hix7, hSx7⟩ := elemAt (enc := enc_str) (sz := 1) (xs := x_l) 55 Tryd.underlying55 sz_9 (by decide) (fun _ => rfl) (hO.sees (i := 0) rfl) hx7
        refine op_val (ex_indexAddr hix7 hf rfl rfl) rfl hf rfl rfl fun a hf => ?_
        refine op_val (ex_load1 (o := 0) ag_9 (hSx7 _ (hO.sees (i := 0) rfl)) rfl hf rfl) rfl hf rfl rfl fun a hf => ?_
        refine op_val (ex_assign hf rfl) rfl hf rfl rfl fun a hf => ?_
        refine wpList_nil ?_
        refine nor_then (hK10 _ _ ?_)
        refine wp_seq_k fun _ hK11 => ?_
        refine wp_region_list ?_
        refine op_val (ex_move hf rfl) rfl hf rfl rfl fun a hf => ?_
        refine op_val (ex_len_s (l := x7) Tryd.underlying9 hf rfl) rfl hf rfl rfl fun a hf => ?_
        refine op_val (ex_move hf rfl) rfl hf rfl rfl fun a hf => ?_
        refine wpList_nil ?_
        refine nor_then (hK11 _ _ ?_)
        refine wp_block ?_
        refine wp_loop_n (fun k a w => ∃ (i12 : Int), Fits 27 [(0, .func (.func x_is_f) x_is_p x_is_c), (6, str x7), (8, .slice x_l_p0 x_l.length x_l_c0), (9, int (x_l.length : Int)), (10, int i3), (15, int (x7.length : Int)), (16, int i12)] a ∧ Dk.Own w0 [] w [.shr x_l_p0 (cells enc_str x_l)] ∧ octet_All_L2 (octet_All_L1 x_is x_l n1) x_is i3 x7 k i12 = some R) ?_ fuel ?_
        · rintro n2 a w ⟨i12, hf, hO, hm⟩
          obtain _ | n2 := n2
          · rw [octet_All_L2] at hm
            cases hm
          · rw [octet_All_L2] at hm
            refine wp_seq_k fun _ hK13 => ?_
            refine wp_region_list ?_
            refine op_val (ex_lss (m := i12) (n := (x7.length : Int)) hf rfl rfl) rfl hf rfl rfl fun a hf => ?_
            refine wpList_nil ?_
            refine nor_then (hK13 _ _ ?_)
            refine wp_seq_k fun _ hK15 => ?_
            refine wp_cond_cut hf rfl (fun hc14 => ?_) (fun hc14 => ?_)
            · have hm := it hc14 hm
              refine wp_skip ?_
              refine nor_then (hK15 _ _ ?_)
              refine wp_seq_k fun _ hK22 => ?_
              refine wp_block ?_
              refine wp_seq_k fun _ hK16 => ?_
              refine wp_region_list ?_
              refine op_val (ex_move hf rfl) rfl hf rfl rfl fun a hf => ?_
              refine op_val (ex_assign hf rfl) rfl hf rfl rfl fun a hf => ?_
              refine wpList_nil ?_
              refine nor_then (hK16 _ _ ?_)
              refine wp_seq_k fun _ hK19 => ?_
              refine wp_region_list ?_
              refine op_val (ex_move hf rfl) rfl hf rfl rfl fun a hf => ?_
              refine op_val (ex_move hf rfl) rfl hf rfl rfl fun a hf => ?_
              refine op_val (ex_move hf rfl) rfl hf rfl rfl fun a hf => ?_
              obtain ⟨b17, hb17, hm⟩ := ob hm
              refine op_val (ex_index (l := x7) Tryd.underlying9 hf rfl rfl hb17) rfl hf rfl rfl fun a hf => ?_
              obtain ⟨r18, hr18, hm⟩ := ob hm
              refine op_enter (ex_callv x_is_k hf rfl (vs := [byte b17]) rfl) rfl hf rfl rfl (x_is_h b17 r18 _ (hG.own hF hO) hr18) ?_
              rintro e w' ⟨he, hb⟩
              refine ⟨_, he, fun a hf => ?_⟩
              have hO := hO.grow hb
              refine op_val (ex_not hf rfl) rfl hf rfl rfl fun a hf => ?_
              refine wpList_nil ?_
              refine nor_then (hK19 _ _ ?_)
              refine wp_cond_cut hf rfl (fun hc20 => ?_) (fun hc20 => ?_)
              · have hm := it hc20 hm
                refine wp_seq_k fun _ hK21 => ?_
                refine wp_region_list ?_
                refine op_val (ex_assign hf rfl) rfl hf rfl rfl fun a hf => ?_
                refine wpList_nil ?_
                refine nor_then (hK21 _ _ ?_)
                refine wp_ret ?_
                refine ret_block ?_
                refine ret_then ?_
                refine ret_then ?_
                refine ret_block ?_
                refine ret_block ?_
                refine ret_then ?_
                refine ret_then ?_
                refine ret_block ?_
                refine ret_then ?_
                obtain rfl := Option.some.inj hm
                exact post_ret Tryd.results53 hf (.tmp rfl .nil) ⟨rfl, hO.below⟩
              · have hm := ie hc20 hm
                refine wp_skip ?_
                refine nor_block ?_
                refine nor_then (hK22 _ _ ?_)
                refine wp_region_list ?_
                obtain ⟨i23, hi23, hm⟩ := ob hm
                refine op_val (ex_add hf rfl rfl hi23) rfl hf rfl rfl fun a hf => ?_
                refine op_val (ex_move hf rfl) rfl hf rfl rfl fun a hf => ?_
                refine wpList_nil ?_
                refine nor_then ?_
                exact ⟨_, Nat.lt_succ_self _, i23, (hf.cons rfl (hf.cons rfl (hf.cons rfl (hf.cons rfl (hf.cons rfl (hf.cons rfl (hf.cons rfl hf.nil))))))), hO, hm⟩
            · have hm := ie hc14 hm
              refine wp_exit ?_
              refine exit_then ?_
              refine exit_then ?_
              refine exit_here ?_
              refine nor_block ?_
              refine nor_then (hK24 _ _ ?_)
              refine wp_region_list ?_
              obtain ⟨i25, hi25, hm⟩ := ob hm
              refine op_val (ex_add hf rfl rfl hi25) rfl hf rfl rfl fun a hf => ?_
              refine op_val (ex_move hf rfl) rfl hf rfl rfl fun a hf => ?_
              refine wpList_nil ?_
              refine nor_then ?_
              exact ⟨_, Nat.lt_succ_self _, i25, (hf.cons rfl (hf.cons rfl (hf.cons rfl (hf.cons rfl hf.nil)))), hO, hm⟩
        · exact ⟨0, (hf.cons rfl (hf.cons rfl (hf.cons rfl (hf.cons rfl (hf.cons rfl (hf.cons rfl (hf.cons rfl hf.nil))))))), hO, hm⟩
      · have hm := ie hc5 hm
        refine wp_exit ?_
        refine exit_then ?_
        refine exit_then ?_
        refine exit_here ?_
        refine nor_then (hK26 _ _ ?_)
        refine wp_seq_k fun _ hK27 => ?_
        refine wp_region_list ?_
        refine op_val (ex_assign hf rfl) rfl hf rfl rfl fun a hf => ?_
        refine wpList_nil ?_
        refine nor_then (hK27 _ _ ?_)
        refine wp_ret ?_
        obtain rfl := Option.some.inj hm
        exact post_ret Tryd.results53 hf (.tmp rfl .nil) ⟨rfl, hO.below⟩
  · exact ⟨0, (hf.cons rfl (hf.cons rfl (hf.cons rfl (hf.cons rfl hf.nil)))), hO, hm⟩

set_option maxHeartbeats 1000000 in
theorem w_octet_IsVisible (x_b : UInt8) (R : Bool) (w0 : World) (hG : Glob w0) (hm : octet_IsVisible x_b = some R) :
    Calls Tryd.prog 86 #[byte x_b] w0 fun e w' => e = .returned (.bool R) ∧ Below w0.heap.size w0 w' := by
  rw [octet_IsVisible] at hm
  refine calls_enter (vs := [byte x_b]) Tryd.func86 rfl Tryd.ntmps86 rfl fun a hf => ?_
  have hF : Away [] := away_nil
  have hO : Dk.Own w0 [] w0 [] := Dk.Own.refl w0
  refine wp_seq_k fun _ hK1 => ?_
  refine wp_region_list ?_
  refine op_val (ex_assign hf rfl) rfl hf rfl rfl fun a hf => ?_
  refine wpList_nil ?_
  refine nor_then (hK1 _ _ ?_)
  refine wp_seq_cut (fun a w => ∃ (t3 : Bool), Fits 9 [(2, .bool t3)] a ∧ Dk.Own w0 [] w [] ∧ octet_IsVisible_j1 t3 = some R) ?_ ?_
  · refine wp_region_list ?_
    refine op_val (ex_move hf rfl) rfl hf rfl rfl fun a hf => ?_
    refine op_val (ex_gtr_b (b := x_b) (c := 32) hf rfl rfl) rfl hf rfl rfl fun a hf => ?_
    refine op_val (ex_move hf rfl) rfl hf rfl rfl fun a hf => ?_
    rcases bcase (decide (32 < x_b)) with hc2 | hc2
    · have hm := it hc2 hm
      refine op_guard rfl hf rfl rfl (hc2) ?_
      refine op_val (ex_move hf rfl) rfl hf rfl rfl fun a hf => ?_
      refine op_guard rfl hf rfl rfl (hc2) ?_
      refine op_val (ex_lss_b (b := x_b) (c := 127) hf rfl rfl) rfl hf rfl rfl fun a hf => ?_
      refine op_val (ex_pick_t hf rfl hc2 rfl) rfl hf rfl rfl fun a hf => ?_
      refine op_val (ex_assign hf rfl) rfl hf rfl rfl fun a hf => ?_
      refine wpList_nil ?_
      refine nor_then ?_
      exact ⟨decide (x_b < 127), (hf.cons rfl hf.nil), hO, hm⟩
    · have hm := ie hc2 hm
      refine op_pass rfl hf rfl rfl (hc2) rfl rfl fun a hf => ?_
      refine op_pass rfl hf rfl rfl (hc2) rfl rfl fun a hf => ?_
      refine op_val (ex_pick_f hf rfl hc2 rfl) rfl hf rfl rfl fun a hf => ?_
      refine op_val (ex_assign hf rfl) rfl hf rfl rfl fun a hf => ?_
      refine wpList_nil ?_
      refine nor_then ?_
      exact ⟨false, (hf.cons rfl hf.nil), hO, hm⟩
  · rintro a w ⟨t3, hf, hO, hm⟩
    rw [octet_IsVisible_j1] at hm
    refine wp_ret ?_
    obtain rfl := Option.some.inj hm
    exact post_ret Tryd.results86 hf (.tmp rfl .nil) ⟨rfl, hO.below⟩

set_option maxHeartbeats 1000000 in
theorem w_octet_IsBlank (x_b : UInt8) (R : Bool) (w0 : World) (hG : Glob w0) (hm : octet_IsBlank x_b = some R) :
    Calls Tryd.prog 87 #[byte x_b] w0 fun e w' => e = .returned (.bool R) ∧ Below w0.heap.size w0 w' := by
  rw [octet_IsBlank] at hm
  refine calls_enter (vs := [byte x_b]) Tryd.func87 rfl Tryd.ntmps87 rfl fun a hf => ?_
  have hF : Away [] := away_nil
  have hO : Dk.Own w0 [] w0 [] := Dk.Own.refl w0
  refine wp_seq_k fun _ hK1 => ?_
  refine wp_region_list ?_
  refine op_val (ex_assign hf rfl) rfl hf rfl rfl fun a hf => ?_
  refine wpList_nil ?_
  refine nor_then (hK1 _ _ ?_)
  refine wp_seq_cut (fun a w => ∃ (t3 : Bool), Fits 9 [(2, .bool t3)] a ∧ Dk.Own w0 [] w [] ∧ octet_IsBlank_j1 t3 = some R) ?_ ?_
  · refine wp_region_list ?_
    refine op_val (ex_move hf rfl) rfl hf rfl rfl fun a hf => ?_
    refine op_val (ex_eql_b (b := x_b) (c := 32) hf rfl rfl) rfl hf rfl rfl fun a hf => ?_
    refine op_val (ex_move hf rfl) rfl hf rfl rfl fun a hf => ?_
    rcases bcase (x_b == 32) with hc2 | hc2
    · have hm := it hc2 hm
      refine op_pass rfl hf rfl rfl (hc2) rfl rfl fun a hf => ?_
      refine op_pass rfl hf rfl rfl (hc2) rfl rfl fun a hf => ?_
      refine op_val (ex_pick_t hf rfl hc2 rfl) rfl hf rfl rfl fun a hf => ?_
      refine op_val (ex_assign hf rfl) rfl hf rfl rfl fun a hf => ?_
      refine wpList_nil ?_
      refine nor_then ?_
      exact ⟨true, (hf.cons rfl hf.nil), hO, hm⟩
    · have hm := ie hc2 hm
      refine op_guard rfl hf rfl rfl (hc2) ?_
      refine op_val (ex_move hf rfl) rfl hf rfl rfl fun a hf => ?_
      refine op_guard rfl hf rfl rfl (hc2) ?_
      refine op_val (ex_eql_b (b := x_b) (c := 9) hf rfl rfl) rfl hf rfl rfl fun a hf => ?_
      refine op_val (ex_pick_f hf rfl hc2 rfl) rfl hf rfl rfl fun a hf => ?_
      refine op_val (ex_assign hf rfl) rfl hf rfl rfl fun a hf => ?_
      refine wpList_nil ?_
      refine nor_then ?_
      exact ⟨x_b == 9, (hf.cons rfl hf.nil), hO, hm⟩
  · rintro a w ⟨t3, hf, hO, hm⟩
    rw [octet_IsBlank_j1] at hm
    refine wp_ret ?_
    obtain rfl := Option.some.inj hm
    exact post_ret Tryd.results87 hf (.tmp rfl .nil) ⟨rfl, hO.below⟩

set_option maxHeartbeats 1000000 in
theorem w_octet_IsValue (x_b : UInt8) (R : Bool) (w0 : World) (hG : Glob w0) (hm : octet_IsValue x_b = some R) :
    Calls Tryd.prog 54 #[byte x_b] w0 fun e w' => e = .returned (.bool R) ∧ Below w0.heap.size w0 w' := by
  rw [octet_IsValue] at hm
  refine calls_enter (vs := [byte x_b]) Tryd.func54 rfl Tryd.ntmps54 rfl fun a hf => ?_
  have hF : Away [] := away_nil
  have hO : Dk.Own w0 [] w0 [] := Dk.Own.refl w0
  refine wp_seq_k fun _ hK1 => ?_
  refine wp_region_list ?_
  refine op_val (ex_assign hf rfl) rfl hf rfl rfl fun a hf => ?_
  refine wpList_nil ?_
  refine nor_then (hK1 _ _ ?_)
  refine wp_seq_cut (fun a w => ∃ (t6 : Bool), Fits 13 [(2, .bool t6)] a ∧ Dk.Own w0 [] w [] ∧ octet_IsValue_j1 t6 = some R) ?_ ?_
  · refine wp_region_list ?_
    refine op_val (ex_move hf rfl) rfl hf rfl rfl fun a hf => ?_
    obtain ⟨r2, hr2, hm⟩ := ob hm
    refine op_enter (ex_call c_86 hf (vs := [byte x_b]) rfl) rfl hf rfl rfl (w_octet_IsVisible x_b r2 _ (hG.own hF hO) hr2) ?_
    rintro e w' ⟨he, hb⟩
    refine ⟨_, he, fun a hf => ?_⟩
    have hO := hO.grow hb
    refine op_val (ex_move hf rfl) rfl hf rfl rfl fun a hf => ?_
    rcases bcase (r2) with hc3 | hc3
    · have hm := it hc3 hm
      refine op_pass rfl hf rfl rfl (hc3) rfl rfl fun a hf => ?_
      refine op_pass rfl hf rfl rfl (hc3) rfl rfl fun a hf => ?_
      refine op_val (ex_pick_t hf rfl hc3 rfl) rfl hf rfl rfl fun a hf => ?_
      refine op_val (ex_move hf rfl) rfl hf rfl rfl fun a hf => ?_
      refine op_pass rfl hf rfl rfl (rfl) rfl rfl fun a hf => ?_
      refine op_pass rfl hf rfl rfl (rfl) rfl rfl fun a hf => ?_
      refine op_val (ex_pick_t hf rfl rfl rfl) rfl hf rfl rfl fun a hf => ?_
      refine op_val (ex_assign hf rfl) rfl hf rfl rfl fun a hf => ?_
      refine wpList_nil ?_
      refine nor_then ?_
      exact ⟨true, (hf.cons rfl hf.nil), hO, hm⟩
    · have hm := ie hc3 hm
      refine op_guard rfl hf rfl rfl (hc3) ?_
      refine op_val (ex_move hf rfl) rfl hf rfl rfl fun a hf => ?_
      refine op_guard rfl hf rfl rfl (hc3) ?_
      obtain ⟨r4, hr4, hm⟩ := ob hm
      refine op_enter (ex_call c_87 hf (vs := [byte x_b]) rfl) rfl hf rfl rfl (w_octet_IsBlank x_b r4 _ (hG.own hF hO) hr4) ?_
      rintro e w' ⟨he, hb⟩
      refine ⟨_, he, fun a hf => ?_⟩
      have hO := hO.grow hb
      refine op_val (ex_pick_f hf rfl hc3 rfl) rfl hf rfl rfl fun a hf => ?_
      refine op_val (ex_move hf rfl) rfl hf rfl rfl fun a hf => ?_
      rcases bcase (r4) with hc5 | hc5
      · have hm := it hc5 hm
        refine op_pass rfl hf rfl rfl (hc5) rfl rfl fun a hf => ?_
        refine op_pass rfl hf rfl rfl (hc5) rfl rfl fun a hf => ?_
        refine op_val (ex_pick_t hf rfl hc5 rfl) rfl hf rfl rfl fun a hf => ?_
        refine op_val (ex_assign hf rfl) rfl hf rfl rfl fun a hf => ?_
        refine wpList_nil ?_
        refine nor_then ?_
        exact ⟨true, (hf.cons rfl hf.nil), hO, hm⟩
      · have hm := ie hc5 hm
        refine op_guard rfl hf rfl rfl (hc5) ?_
        refine op_val (ex_move hf rfl) rfl hf rfl rfl fun a hf => ?_
        refine op_guard rfl hf rfl rfl (hc5) ?_
        refine op_val (ex_gtr_b (b := x_b) (c := 127) hf rfl rfl) rfl hf rfl rfl fun a hf => ?_
        refine op_val (ex_pick_f hf rfl hc5 rfl) rfl hf rfl rfl fun a hf => ?_
        refine op_val (ex_assign hf rfl) rfl hf rfl rfl fun a hf => ?_
        refine wpList_nil ?_
        refine nor_then ?_
        exact ⟨decide (127 < x_b), (hf.cons rfl hf.nil), hO, hm⟩
  · rintro a w ⟨t6, hf, hO, hm⟩
    rw [octet_IsValue_j1] at hm
    refine wp_ret ?_
    obtain rfl := Option.some.inj hm
    exact post_ret Tryd.results54 hf (.tmp rfl .nil) ⟨rfl, hO.below⟩

set_option maxHeartbeats 1000000 in
theorem w_cookie_part (x_s : Str) (R : api_Attr × Bool) (w0 : World) (hG : Glob w0) (hm : cookie_part x_s = some R) :
    Calls Tryd.prog 30 #[str x_s] w0 fun e w' => e = .returned (.tuple #[.agg #[str R.1.Name, str R.1.Value, .bool R.1.Has], .bool R.2]) ∧ Below w0.heap.size w0 w' := by
  rw [cookie_part] at hm
  refine calls_enter (vs := [str x_s]) Tryd.func30 rfl Tryd.ntmps30 rfl fun a hf => ?_
  have hF : Away [] := away_nil
  have hO : Dk.Own w0 [] w0 [] := Dk.Own.refl w0
  refine wp_seq_k fun _ hK2 => ?_
  refine wp_region_list ?_
  refine op_alloc al_31 hf rfl hO fun a b1 w hf hO => ?_
  refine op_val (ex_assign hf rfl) rfl hf rfl rfl fun a hf => ?_
  refine wpList_nil ?_
  refine nor_then (hK2 _ _ ?_)
  refine wp_seq_k fun _ hK6 => ?_
  refine wp_region_list ?_
  refine op_val (ex_move hf rfl) rfl hf rfl rfl fun a hf => ?_
  obtain ⟨r3, hr3, hm⟩ := ob hm
  refine op_enter (ex_call c_47 hf (vs := [str x_s, str [32, 9]]) rfl) rfl hf rfl rfl (w_strings_Trim x_s [32, 9] r3 _ (hG.own hF hO) hr3) ?_
  rintro e w' ⟨he, hb⟩
  refine ⟨_, he, fun a hf => ?_⟩
  have hO := hO.grow hb
  obtain ⟨r4, hr4, hm⟩ := ob hm
  refine op_enter (ex_call c_46 hf (vs := [str r3]) rfl) rfl hf rfl rfl (w_scan_New r3 r4 _ (hG.own hF hO) hr4) ?_
  rintro e w' ⟨b5, he, hO'⟩
  refine ⟨_, he, fun a hf => ?_⟩
  have hO := hO.call hO' (by simp [Res.shared])
  refine op_val (ex_assign hf rfl) rfl hf rfl rfl fun a hf => ?_
  refine wpList_nil ?_
  refine nor_then (hK6 _ _ ?_)
  refine wp_seq_k fun _ hK8 => ?_
  refine wp_region_list ?_
  refine op_val (ex_move hf rfl) rfl hf rfl rfl fun a hf => ?_
  obtain ⟨r7, hr7, hm⟩ := ob hm
  refine op_enter (ex_call c_48 hf (vs := [ptr b5 0]) rfl) rfl hf rfl rfl (w_scan_Scanner_Token r4 r7 _ (hG.own hF hO) (Dk.Own.far (show Dk.Own w0 [] _ ([.blk b5 [str r4.f_s, int r4.f_at] 79] ++ [.blk b1 [str [], str [], .bool false] 31]) from hO) rfl hF hG.size) ((show Dk.Own w0 [] _ ([.blk b5 [str r4.f_s, int r4.f_at] 79] ++ [.blk b1 [str [], str [], .bool false] 31]) from hO).lend rfl trivial) hr7) ?_
  rintro e w' ⟨he, hO'⟩
  refine ⟨_, he, fun a hf => ?_⟩
  have hO := (show Dk.Own w0 [] _ ([.blk b5 [str r4.f_s, int r4.f_at] 79] ++ [.blk b1 [str [], str [], .bool false] 31]) from hO).back rfl hO' rfl
  refine op_val (ex_move hf rfl) rfl hf rfl rfl fun a hf => ?_
  refine op_val (ex_extract hf rfl rfl) rfl hf rfl rfl fun a hf => ?_
  refine op_val (ex_extract hf rfl rfl) rfl hf rfl rfl fun a hf => ?_
  refine op_val (ex_assign hf rfl) rfl hf rfl rfl fun a hf => ?_
  refine op_val (ex_assign hf rfl) rfl hf rfl rfl fun a hf => ?_
  refine wpList_nil ?_
  refine nor_then (hK8 _ _ ?_)
  refine wp_seq_k fun _ hK11 => ?_
  refine wp_region_list ?_
  refine op_val (ex_move hf rfl) rfl hf rfl rfl fun a hf => ?_
  refine op_val (ex_move hf rfl) rfl hf rfl rfl fun a hf => ?_
  obtain ⟨r9, hr9, hm⟩ := ob hm
  refine op_enter (ex_call c_49 hf (vs := [ptr b5 0, byte 61]) rfl) rfl hf rfl rfl (w_scan_Scanner_Byte r7.2.2 61 r9 _ (hG.own hF hO) (Dk.Own.far (show Dk.Own w0 [] _ ([.blk b5 [str r7.2.2.f_s, int r7.2.2.f_at] 79] ++ [.blk b1 [str [], str [], .bool false] 31]) from hO) rfl hF hG.size) ((show Dk.Own w0 [] _ ([.blk b5 [str r7.2.2.f_s, int r7.2.2.f_at] 79] ++ [.blk b1 [str [], str [], .bool false] 31]) from hO).lend rfl trivial) hr9) ?_
  rintro e w' ⟨he, hO'⟩
  refine ⟨_, he, fun a hf => ?_⟩
  have hO := (show Dk.Own w0 [] _ ([.blk b5 [str r7.2.2.f_s, int r7.2.2.f_at] 79] ++ [.blk b1 [str [], str [], .bool false] 31]) from hO).back rfl hO' rfl
  refine op_val (ex_build (vs := [(0, str r7.1), (2, .bool r9.1)]) (v := .agg #[str r7.1, str [], .bool r9.1]) hf rfl (by kernel_rfl)) rfl hf rfl rfl fun a hf => ?_
  refine op_alloc al_31 hf rfl hO fun a b10 w hf hO => ?_
  refine op_storeN (i := 0) (n := 3) sz_31 rfl rfl rfl (by simp [Value.oneCell']) hf rfl rfl hO fun w hO => ?_
  refine wpList_nil ?_
  refine nor_then (hK11 _ _ ?_)
  refine wp_seq_cut (fun a w => ∃ (s15 : Str) (i16 : Int) (s17 : Str), Fits 45 [(2, ptr b1 0), (4, ptr b5 0), (6, .bool r7.2.1), (7, ptr b10 0)] a ∧ Dk.Own w0 [] w [.blk b5 [str s15, int i16] 79, .blk b10 [str r7.1, str s17, .bool r9.1] 31, .blk b1 [str [], str [], .bool false] 31] ∧ cookie_part_j1 r7 r9 s15 i16 s17 = some R) ?_ ?_
  · refine wp_seq_k fun _ hK12 => ?_
    refine wp_region_list ?_
    refine op_val (ex_field fa_31_2 hf rfl) rfl hf rfl rfl fun a hf => ?_
    refine op_val (ex_load1 (o := 2) ag_4 (hO.blkSees (i := 0) rfl) rfl hf rfl) rfl hf rfl rfl fun a hf => ?_
    refine wpList_nil ?_
    refine nor_then (hK12 _ _ ?_)
    refine wp_cond_cut hf rfl (fun hc13 => ?_) (fun hc13 => ?_)
    · have hm := it hc13 hm
      refine wp_region_list ?_
      refine op_val (ex_move hf rfl) rfl hf rfl rfl fun a hf => ?_
      obtain ⟨r14, hr14, hm⟩ := ob hm
      refine op_enter (ex_call c_50 hf (vs := [ptr b5 0, .func (.func 51) #[] #[]]) rfl) rfl hf rfl rfl (w_scan_Scanner_While r9.2 cookie_part_1 r14 _ (hG.own hF hO) (Dk.Own.far (show Dk.Own w0 [] _ ([.blk b5 [str r9.2.f_s, int r9.2.f_at] 79] ++ [.blk b10 [str r7.1, str [], .bool r9.1] 31, .blk b1 [str [], str [], .bool false] 31]) from hO.choose [1, 0, 2] rfl) rfl hF hG.size) ((show Dk.Own w0 [] _ ([.blk b5 [str r9.2.f_s, int r9.2.f_at] 79] ++ [.blk b10 [str r7.1, str [], .bool r9.1] 31, .blk b1 [str [], str [], .bool false] 31]) from hO.choose [1, 0, 2] rfl).lend rfl trivial) c_51 (fun y0 r w hG h => callsE (w_cookie_part_1 y0 r w hG h)) hr14) ?_
      rintro e w' ⟨he, hO'⟩
      refine ⟨_, he, fun a hf => ?_⟩
      have hO := (show Dk.Own w0 [] _ ([.blk b5 [str r9.2.f_s, int r9.2.f_at] 79] ++ [.blk b10 [str r7.1, str [], .bool r9.1] 31, .blk b1 [str [], str [], .bool false] 31]) from hO.choose [1, 0, 2] rfl).back rfl hO' rfl
      refine op_val (ex_field fa_31_1 hf rfl) rfl hf rfl rfl fun a hf => ?_
      refine op_store1 (i := 1) (o := 1) (v := str r14.1) sz_9 rfl rfl rfl rfl hf rfl rfl hO fun w hO => ?_
      refine wpList_nil ?_
      refine nor_then ?_
      exact ⟨r14.2.f_s, r14.2.f_at, r14.1, (hf.cons rfl (hf.cons rfl (hf.cons rfl (hf.cons rfl hf.nil)))), hO, hm⟩
    · have hm := ie hc13 hm
      refine wp_skip ?_
      refine nor_then ?_
      exact ⟨r9.2.f_s, r9.2.f_at, [], (hf.cons rfl (hf.cons rfl (hf.cons rfl (hf.cons rfl hf.nil)))), (hO.choose [1, 0, 2] rfl), hm⟩
  · rintro a w ⟨s15, i16, s17, hf, hO, hm⟩
    rw [cookie_part_j1] at hm
    refine wp_seq_cut (fun a w => ∃ (t25 : Bool), Fits 45 [(2, ptr b1 0), (3, .bool t25)] a ∧ Dk.Own w0 [] w [.blk b5 [str s15, int i16] 79, .blk b10 [str r7.1, str s17, .bool r9.1] 31, .blk b1 [str r7.1, str s17, .bool r9.1] 31] ∧ cookie_part_j2 r7 r9 s17 t25 = some R) ?_ ?_
    · rcases bcase (r7.2.1) with hc18 | hc18
      · have hm := it hc18 hm
        obtain ⟨r19, hr19, hm⟩ := ob hm
        rcases bcase (r19) with hc20 | hc20
        · have hm := it hc20 hm
          obtain ⟨r22, hr22, hm⟩ := ob hm
          rcases bcase (r22) with hc23 | hc23
          · have hm := it hc23 hm
            obtain ⟨r24, hr24, hm⟩ := ob hm
            refine wp_drawG' (S := Nat) (E0 := [(2, ptr b1 0), (4, ptr b5 0), (6, .bool r7.2.1), (7, ptr b10 0)]) (by kernel_rfl) (fun k σ w => match k with | 0 => Dk.Own w0 [] w [.blk b5 [str s15, int i16] 79, .blk b10 [str r7.1, str s17, .bool r9.1] 31, .blk b1 [str [], str [], .bool false] 31] | 1 => Dk.Own w0 [] w [.blk b5 [str s15, int i16] 79, .blk b10 [str r7.1, str s17, .bool r9.1] 31, .blk b1 [str [], str [], .bool false] 31] | 2 => Dk.Own w0 [] w [.row (.slice (some ⟨σ, 0, none⟩) ([s17].length) 1) 9 1 ([s17].length) (cells enc_str [s17]), .blk b5 [str s15, int i16] 79, .blk b10 [str r7.1, str s17, .bool r9.1] 31, .blk b1 [str [], str [], .bool false] 31] | 3 => Dk.Own w0 [] w [.row (.slice (some ⟨σ, 0, none⟩) ([s17].length) 1) 9 1 ([s17].length) (cells enc_str [s17]), .blk b5 [str s15, int i16] 79, .blk b10 [str r7.1, str s17, .bool r9.1] 31, .blk b1 [str [], str [], .bool false] 31] | 4 => Dk.Own w0 [] w [.row (.slice (some ⟨σ, 0, none⟩) ([s17].length) 1) 9 1 ([s17].length) (cells enc_str [s17]), .blk b5 [str s15, int i16] 79, .blk b10 [str r7.1, str s17, .bool r9.1] 31, .blk b1 [str [], str [], .bool false] 31] | _ => Dk.Own w0 [] w [.row (.slice (some ⟨σ, 0, none⟩) ([s17].length) 1) 9 1 ([s17].length) (cells enc_str [s17]), .blk b5 [str s15, int i16] 79, .blk b10 [str r7.1, str s17, .bool r9.1] 31, .blk b1 [str r7.1, str s17, .bool r9.1] 31]) (fun σ => [⟨[(7, ptr b10 0)], some (25, .agg #[str r7.1, str s17, .bool r9.1])⟩, ⟨[(6, .bool r7.2.1)], some (26, .bool r7.2.1)⟩, ⟨[(26, .bool r7.2.1)], some (27, .bool r7.2.1)⟩, ⟨[(4, ptr b5 0), (27, .bool r7.2.1)], some (28, ptr b5 0)⟩, ⟨[(28, ptr b5 0), (27, .bool r7.2.1)], some (29, .bool r19)⟩, ⟨[(27, .bool r7.2.1), (29, .bool r19)], some (30, .bool r19)⟩, ⟨[(30, .bool r19)], some (31, .bool r19)⟩, ⟨[(7, ptr b10 0), (31, .bool r19)], some (32, ptr b10 1)⟩, ⟨[(32, ptr b10 1), (31, .bool r19)], some (33, str s17)⟩, ⟨[(33, str s17), (31, .bool r19)], some (34, .slice (some ⟨σ, 0, none⟩) ([s17].length) 1)⟩, ⟨[(34, .slice (some ⟨σ, 0, none⟩) ([s17].length) 1), (31, .bool r19)], some (35, .bool r22)⟩, ⟨[(31, .bool r19), (35, .bool r22)], some (36, .bool r22)⟩, ⟨[(36, .bool r22)], some (37, .bool r22)⟩, ⟨[(7, ptr b10 0), (37, .bool r22)], some (38, ptr b10 1)⟩, ⟨[(38, ptr b10 1), (37, .bool r22)], some (39, str s17)⟩, ⟨[(39, str s17), (37, .bool r22)], some (40, str r24)⟩, ⟨[(7, ptr b10 0), (37, .bool r22)], some (41, ptr b10 1)⟩, ⟨[(41, ptr b10 1), (37, .bool r22)], some (42, str s17)⟩, ⟨[(40, str r24), (42, str s17), (37, .bool r22)], some (43, .bool (r24 == s17))⟩, ⟨[(37, .bool r22), (43, .bool (r24 == s17))], some (44, .bool (r24 == s17))⟩, ⟨[(2, ptr b1 0), (25, .agg #[str r7.1, str s17, .bool r9.1])], none⟩, ⟨[(44, .bool (r24 == s17))], some (3, .bool (r24 == s17))⟩]) (0) [4, 9, 10, 15, 20] [] ⟨g_none rfl rfl, ⟨g_none rfl rfl, ⟨g_none rfl rfl, ⟨g_some (u := fun σ => r7.2.1) rfl (fun σ => rfl) rfl (fun σ => rfl) (fun σ => by rw [hc18] <;> rfl), ⟨g_some (u := fun σ => r7.2.1) rfl (fun σ => rfl) rfl (fun σ => rfl) (fun σ => by rw [hc18] <;> rfl), ⟨g_none rfl rfl, ⟨g_none rfl rfl, ⟨g_some (u := fun σ => r19) rfl (fun σ => rfl) rfl (fun σ => rfl) (fun σ => by rw [hc20] <;> rfl), ⟨g_some (u := fun σ => r19) rfl (fun σ => rfl) rfl (fun σ => rfl) (fun σ => by rw [hc20] <;> rfl), ⟨g_some (u := fun σ => r19) rfl (fun σ => rfl) rfl (fun σ => rfl) (fun σ => by rw [hc20] <;> rfl), ⟨g_some (u := fun σ => r19) rfl (fun σ => rfl) rfl (fun σ => rfl) (fun σ => by rw [hc20] <;> rfl), ⟨g_none rfl rfl, ⟨g_none rfl rfl, ⟨g_some (u := fun σ => r22) rfl (fun σ => rfl) rfl (fun σ => rfl) (fun σ => by rw [hc23] <;> rfl), ⟨g_some (u := fun σ => r22) rfl (fun σ => rfl) rfl (fun σ => rfl) (fun σ => by rw [hc23] <;> rfl), ⟨g_some (u := fun σ => r22) rfl (fun σ => rfl) rfl (fun σ => rfl) (fun σ => by rw [hc23] <;> rfl), ⟨g_some (u := fun σ => r22) rfl (fun σ => rfl) rfl (fun σ => rfl) (fun σ => by rw [hc23] <;> rfl), ⟨g_some (u := fun σ => r22) rfl (fun σ => rfl) rfl (fun σ => rfl) (fun σ => by rw [hc23] <;> rfl), ⟨g_some (u := fun σ => r22) rfl (fun σ => rfl) rfl (fun σ => rfl) (fun σ => by rw [hc23] <;> rfl), ⟨g_none rfl rfl, ⟨g_none rfl rfl, ⟨g_none rfl rfl, trivial⟩⟩⟩⟩⟩⟩⟩⟩⟩⟩⟩⟩⟩⟩⟩⟩⟩⟩⟩⟩⟩⟩ (fun σ => ⟨.inl rfl, ⟨.inl rfl, ⟨.inl rfl, ⟨.inl rfl, ⟨.inl rfl, ⟨.inl rfl, ⟨.inl rfl, ⟨.inl rfl, ⟨.inl rfl, ⟨.inl rfl, ⟨.inl rfl, ⟨.inl rfl, ⟨.inl rfl, ⟨.inl rfl, ⟨.inl rfl, ⟨.inl rfl, ⟨.inl rfl, ⟨.inl rfl, ⟨.inl rfl, ⟨.inl rfl, ⟨.inl rfl, ⟨.inl rfl, trivial⟩⟩⟩⟩⟩⟩⟩⟩⟩⟩⟩⟩⟩⟩⟩⟩⟩⟩⟩⟩⟩⟩) (fun _ => rfl) (fun _ => rfl) (fun _ => rfl) rfl rfl (by decide) rfl hO.drew (hf.cons rfl (hf.cons rfl (hf.cons rfl (hf.cons rfl hf.nil)))) (fun σ => ⟨⟨rfl, trivial⟩, ⟨⟨rfl, trivial⟩, ⟨⟨rfl, trivial⟩, ⟨⟨rfl, ⟨rfl, trivial⟩⟩, ⟨⟨rfl, ⟨rfl, trivial⟩⟩, ⟨⟨rfl, ⟨rfl, trivial⟩⟩, ⟨⟨rfl, trivial⟩, ⟨⟨rfl, ⟨rfl, trivial⟩⟩, ⟨⟨rfl, ⟨rfl, trivial⟩⟩, ⟨⟨rfl, ⟨rfl, trivial⟩⟩, ⟨⟨rfl, ⟨rfl, trivial⟩⟩, ⟨⟨rfl, ⟨rfl, trivial⟩⟩, ⟨⟨rfl, trivial⟩, ⟨⟨rfl, ⟨rfl, trivial⟩⟩, ⟨⟨rfl, ⟨rfl, trivial⟩⟩, ⟨⟨rfl, ⟨rfl, trivial⟩⟩, ⟨⟨rfl, ⟨rfl, trivial⟩⟩, ⟨⟨rfl, ⟨rfl, trivial⟩⟩, ⟨⟨rfl, ⟨rfl, ⟨rfl, trivial⟩⟩⟩, ⟨⟨rfl, ⟨rfl, trivial⟩⟩, ⟨⟨rfl, ⟨rfl, trivial⟩⟩, ⟨⟨rfl, trivial⟩, trivial⟩⟩⟩⟩⟩⟩⟩⟩⟩⟩⟩⟩⟩⟩⟩⟩⟩⟩⟩⟩⟩⟩) ⟨.inr ⟨rfl, sS_pure rfl (fun σ => rfl) (fun σ => rfl) (fun σ a w k hk hlo hup hst hf => match k, hk, hlo, hup, hst, hf with | 0, _, _, _, hst, hf => have hO : Dk.Own w0 [] w [.blk b5 [str s15, int i16] 79, .blk b10 [str r7.1, str s17, .bool r9.1] 31, .blk b1 [str [], str [], .bool false] 31] := hst; ex_loadN (o := 0) (vs := [str r7.1, str s17, .bool r9.1]) ag_31 sz_31 (hO.blkSees (i := 1) rfl) rfl rfl hf rfl | 1, _, _, _, hst, hf => have hO : Dk.Own w0 [] w [.blk b5 [str s15, int i16] 79, .blk b10 [str r7.1, str s17, .bool r9.1] 31, .blk b1 [str [], str [], .bool false] 31] := hst; ex_loadN (o := 0) (vs := [str r7.1, str s17, .bool r9.1]) ag_31 sz_31 (hO.blkSees (i := 1) rfl) rfl rfl hf rfl | 2, _, _, _, hst, hf => have hO : Dk.Own w0 [] w [.row (.slice (some ⟨σ, 0, none⟩) ([s17].length) 1) 9 1 ([s17].length) (cells enc_str [s17]), .blk b5 [str s15, int i16] 79, .blk b10 [str r7.1, str s17, .bool r9.1] 31, .blk b1 [str [], str [], .bool false] 31] := hst; ex_loadN (o := 0) (vs := [str r7.1, str s17, .bool r9.1]) ag_31 sz_31 (hO.blkSees (i := 2) rfl) rfl rfl hf rfl | 3, _, _, _, hst, hf => have hO : Dk.Own w0 [] w [.row (.slice (some ⟨σ, 0, none⟩) ([s17].length) 1) 9 1 ([s17].length) (cells enc_str [s17]), .blk b5 [str s15, int i16] 79, .blk b10 [str r7.1, str s17, .bool r9.1] 31, .blk b1 [str [], str [], .bool false] 31] := hst; ex_loadN (o := 0) (vs := [str r7.1, str s17, .bool r9.1]) ag_31 sz_31 (hO.blkSees (i := 2) rfl) rfl rfl hf rfl | 4, _, _, _, hst, hf => have hO : Dk.Own w0 [] w [.row (.slice (some ⟨σ, 0, none⟩) ([s17].length) 1) 9 1 ([s17].length) (cells enc_str [s17]), .blk b5 [str s15, int i16] 79, .blk b10 [str r7.1, str s17, .bool r9.1] 31, .blk b1 [str [], str [], .bool false] 31] := hst; ex_loadN (o := 0) (vs := [str r7.1, str s17, .bool r9.1]) ag_31 sz_31 (hO.blkSees (i := 2) rfl) rfl rfl hf rfl | 5, _, _, _, hst, hf => have hO : Dk.Own w0 [] w [.row (.slice (some ⟨σ, 0, none⟩) ([s17].length) 1) 9 1 ([s17].length) (cells enc_str [s17]), .blk b5 [str s15, int i16] 79, .blk b10 [str r7.1, str s17, .bool r9.1] 31, .blk b1 [str r7.1, str s17, .bool r9.1] 31] := hst; ex_loadN (o := 0) (vs := [str r7.1, str s17, .bool r9.1]) ag_31 sz_31 (hO.blkSees (i := 2) rfl) rfl rfl hf rfl | k + 6, hk, _, _, _, _ => absurd hk (by simp))⟩, ⟨.inr ⟨rfl, sS_pure rfl (fun σ => rfl) (fun σ => rfl) (fun σ a w k _ _ _ _ hf => ex_move hf rfl)⟩, ⟨.inr ⟨rfl, sS_pure rfl (fun σ => rfl) (fun σ => rfl) (fun σ a w k _ _ _ _ hf => ex_move hf rfl)⟩, ⟨.inr ⟨rfl, sS_pure rfl (fun σ => rfl) (fun σ => rfl) (fun σ a w k _ _ _ _ hf => ex_move hf rfl)⟩, ⟨.inr ⟨rfl, sS_call rfl (fun σ => rfl) (fun σ => rfl) rfl (fun σ a w (_ : _) hf => ex_call c_52 hf (vs := [ptr b5 0]) rfl) (fun σ w (hO : Dk.Own w0 [] w [.blk b5 [str s15, int i16] 79, .blk b10 [str r7.1, str s17, .bool r9.1] 31, .blk b1 [str [], str [], .bool false] 31]) => (w_scan_Scanner_End (⟨s15, i16⟩ : scan_Scanner) r19 _ (hG.own hF hO) (hO.blkSees (i := 0) rfl) hr19).mono fun e w' h => by obtain ⟨he, hb⟩ := h; exact ⟨(σ), he, hO.grow hb, ⟨.inr rfl, ⟨.inr rfl, ⟨.inr rfl, ⟨.inr rfl, ⟨.inr rfl, ⟨.inr rfl, ⟨.inr rfl, ⟨.inr rfl, ⟨.inr rfl, ⟨.inr rfl, ⟨.inr rfl, ⟨.inr rfl, ⟨.inr rfl, ⟨.inr rfl, ⟨.inr rfl, ⟨.inr rfl, ⟨.inr rfl, ⟨.inr rfl, ⟨.inr rfl, ⟨.inr rfl, ⟨.inr rfl, ⟨.inr rfl, trivial⟩⟩⟩⟩⟩⟩⟩⟩⟩⟩⟩⟩⟩⟩⟩⟩⟩⟩⟩⟩⟩⟩⟩)⟩, ⟨.inr ⟨rfl, sS_pure rfl (fun σ => rfl) (fun σ => rfl) (fun σ a w k _ _ _ _ hf => ex_pick_t hf rfl hc18 rfl)⟩, ⟨.inr ⟨rfl, sS_pure rfl (fun σ => rfl) (fun σ => rfl) (fun σ a w k _ _ _ _ hf => ex_move hf rfl)⟩, ⟨.inr ⟨rfl, sS_pure rfl (fun σ => rfl) (fun σ => rfl) (fun σ a w k _ _ _ _ hf => ex_field fa_31_1 hf rfl)⟩, ⟨.inr ⟨rfl, sS_pure rfl (fun σ => rfl) (fun σ => rfl) (fun σ a w k hk hlo hup hst hf => match k, hk, hlo, hup, hst, hf with | 0, _, _, _, hst, hf => have hO : Dk.Own w0 [] w [.blk b5 [str s15, int i16] 79, .blk b10 [str r7.1, str s17, .bool r9.1] 31, .blk b1 [str [], str [], .bool false] 31] := hst; ex_load1 (o := 1) ag_9 (hO.blkSees (i := 1) rfl) rfl hf rfl | 1, _, _, _, hst, hf => have hO : Dk.Own w0 [] w [.blk b5 [str s15, int i16] 79, .blk b10 [str r7.1, str s17, .bool r9.1] 31, .blk b1 [str [], str [], .bool false] 31] := hst; ex_load1 (o := 1) ag_9 (hO.blkSees (i := 1) rfl) rfl hf rfl | 2, _, _, _, hst, hf => have hO : Dk.Own w0 [] w [.row (.slice (some ⟨σ, 0, none⟩) ([s17].length) 1) 9 1 ([s17].length) (cells enc_str [s17]), .blk b5 [str s15, int i16] 79, .blk b10 [str r7.1, str s17, .bool r9.1] 31, .blk b1 [str [], str [], .bool false] 31] := hst; ex_load1 (o := 1) ag_9 (hO.blkSees (i := 2) rfl) rfl hf rfl | 3, _, _, _, hst, hf => have hO : Dk.Own w0 [] w [.row (.slice (some ⟨σ, 0, none⟩) ([s17].length) 1) 9 1 ([s17].length) (cells enc_str [s17]), .blk b5 [str s15, int i16] 79, .blk b10 [str r7.1, str s17, .bool r9.1] 31, .blk b1 [str [], str [], .bool false] 31] := hst; ex_load1 (o := 1) ag_9 (hO.blkSees (i := 2) rfl) rfl hf rfl | 4, _, _, _, hst, hf => have hO : Dk.Own w0 [] w [.row (.slice (some ⟨σ, 0, none⟩) ([s17].length) 1) 9 1 ([s17].length) (cells enc_str [s17]), .blk b5 [str s15, int i16] 79, .blk b10 [str r7.1, str s17, .bool r9.1] 31, .blk b1 [str [], str [], .bool false] 31] := hst; ex_load1 (o := 1) ag_9 (hO.blkSees (i := 2) rfl) rfl hf rfl | 5, _, _, _, hst, hf => have hO : Dk.Own w0 [] w [.row (.slice (some ⟨σ, 0, none⟩) ([s17].length) 1) 9 1 ([s17].length) (cells enc_str [s17]), .blk b5 [str s15, int i16] 79, .blk b10 [str r7.1, str s17, .bool r9.1] 31, .blk b1 [str r7.1, str s17, .bool r9.1] 31] := hst; ex_load1 (o := 1) ag_9 (hO.blkSees (i := 2) rfl) rfl hf rfl | k + 6, hk, _, _, _, _ => absurd hk (by simp))⟩, ⟨.inr ⟨rfl, sS_val rfl (fun σ => rfl) (fun σ => rfl) rfl (fun σ w (hO : Dk.Own w0 [] w [.blk b5 [str s15, int i16] 79, .blk b10 [str r7.1, str s17, .bool r9.1] 31, .blk b1 [str [], str [], .bool false] 31]) => by obtain ⟨b21, w', hO', hr⟩ := ef_buildSlice (E := [(33, str s17), (31, .bool r19)]) (parts := #[(0, (.tmp 33))]) (t' := 55) (n := 1) (vs := [(0, str s17)]) (cs := [str s17]) (e := 9) (sz := 1) (fun w => by kernel_rfl) rfl rfl hO rfl; exact ⟨(b21), w', hO', ⟨.inr rfl, ⟨.inr rfl, ⟨.inr rfl, ⟨.inr rfl, ⟨.inr rfl, ⟨.inr rfl, ⟨.inr rfl, ⟨.inr rfl, ⟨.inr rfl, ⟨.inl rfl, ⟨.inl rfl, ⟨.inr rfl, ⟨.inr rfl, ⟨.inr rfl, ⟨.inr rfl, ⟨.inr rfl, ⟨.inr rfl, ⟨.inr rfl, ⟨.inr rfl, ⟨.inr rfl, ⟨.inr rfl, ⟨.inr rfl, trivial⟩⟩⟩⟩⟩⟩⟩⟩⟩⟩⟩⟩⟩⟩⟩⟩⟩⟩⟩⟩⟩⟩, hr⟩)⟩, ⟨.inr ⟨rfl, sS_call rfl (fun σ => rfl) (fun σ => rfl) rfl (fun σ a w (_ : _) hf => ex_call c_53 hf (vs := [.func (.func 54) #[] #[], .slice (some ⟨σ, 0, none⟩) ([s17].length) 1]) rfl) (fun σ w (hO : Dk.Own w0 [] w [.row (.slice (some ⟨σ, 0, none⟩) ([s17].length) 1) 9 1 ([s17].length) (cells enc_str [s17]), .blk b5 [str s15, int i16] 79, .blk b10 [str r7.1, str s17, .bool r9.1] 31, .blk b1 [str [], str [], .bool false] 31]) => (w_octet_All octet_IsValue [s17] r22 _ (hG.own hF hO) c_54 (fun y0 r w hG h => callsE (w_octet_IsValue y0 r w hG h)) (hO.rowSees (i := 0) rfl) (hO.rowCap (i := 0) rfl) hr22).mono fun e w' h => by obtain ⟨he, hb⟩ := h; exact ⟨(σ), he, hO.grow hb, ⟨.inr rfl, ⟨.inr rfl, ⟨.inr rfl, ⟨.inr rfl, ⟨.inr rfl, ⟨.inr rfl, ⟨.inr rfl, ⟨.inr rfl, ⟨.inr rfl, ⟨.inr rfl, ⟨.inr rfl, ⟨.inr rfl, ⟨.inr rfl, ⟨.inr rfl, ⟨.inr rfl, ⟨.inr rfl, ⟨.inr rfl, ⟨.inr rfl, ⟨.inr rfl, ⟨.inr rfl, ⟨.inr rfl, ⟨.inr rfl, trivial⟩⟩⟩⟩⟩⟩⟩⟩⟩⟩⟩⟩⟩⟩⟩⟩⟩⟩⟩⟩⟩⟩⟩)⟩, ⟨.inr ⟨rfl, sS_pure rfl (fun σ => rfl) (fun σ => rfl) (fun σ a w k _ _ _ _ hf => ex_pick_t hf rfl hc20 rfl)⟩, ⟨.inr ⟨rfl, sS_pure rfl (fun σ => rfl) (fun σ => rfl) (fun σ a w k _ _ _ _ hf => ex_move hf rfl)⟩, ⟨.inr ⟨rfl, sS_pure rfl (fun σ => rfl) (fun σ => rfl) (fun σ a w k _ _ _ _ hf => ex_field fa_31_1 hf rfl)⟩, ⟨.inr ⟨rfl, sS_pure rfl (fun σ => rfl) (fun σ => rfl) (fun σ a w k hk hlo hup hst hf => match k, hk, hlo, hup, hst, hf with | 0, _, _, _, hst, hf => have hO : Dk.Own w0 [] w [.blk b5 [str s15, int i16] 79, .blk b10 [str r7.1, str s17, .bool r9.1] 31, .blk b1 [str [], str [], .bool false] 31] := hst; ex_load1 (o := 1) ag_9 (hO.blkSees (i := 1) rfl) rfl hf rfl | 1, _, _, _, hst, hf => have hO : Dk.Own w0 [] w [.blk b5 [str s15, int i16] 79, .blk b10 [str r7.1, str s17, .bool r9.1] 31, .blk b1 [str [], str [], .bool false] 31] := hst; ex_load1 (o := 1) ag_9 (hO.blkSees (i := 1) rfl) rfl hf rfl | 2, _, _, _, hst, hf => have hO : Dk.Own w0 [] w [.row (.slice (some ⟨σ, 0, none⟩) ([s17].length) 1) 9 1 ([s17].length) (cells enc_str [s17]), .blk b5 [str s15, int i16] 79, .blk b10 [str r7.1, str s17, .bool r9.1] 31, .blk b1 [str [], str [], .bool false] 31] := hst; ex_load1 (o := 1) ag_9 (hO.blkSees (i := 2) rfl) rfl hf rfl | 3, _, _, _, hst, hf => have hO : Dk.Own w0 [] w [.row (.slice (some ⟨σ, 0, none⟩) ([s17].length) 1) 9 1 ([s17].length) (cells enc_str [s17]), .blk b5 [str s15, int i16] 79, .blk b10 [str r7.1, str s17, .bool r9.1] 31, .blk b1 [str [], str [], .bool false] 31] := hst; ex_load1 (o := 1) ag_9 (hO.blkSees (i := 2) rfl) rfl hf rfl | 4, _, _, _, hst, hf => have hO : Dk.Own w0 [] w [.row (.slice (some ⟨σ, 0, none⟩) ([s17].length) 1) 9 1 ([s17].length) (cells enc_str [s17]), .blk b5 [str s15, int i16] 79, .blk b10 [str r7.1, str s17, .bool r9.1] 31, .blk b1 [str [], str [], .bool false] 31] := hst; ex_load1 (o := 1) ag_9 (hO.blkSees (i := 2) rfl) rfl hf rfl | 5, _, _, _, hst, hf => have hO : Dk.Own w0 [] w [.row (.slice (some ⟨σ, 0, none⟩) ([s17].length) 1) 9 1 ([s17].length) (cells enc_str [s17]), .blk b5 [str s15, int i16] 79, .blk b10 [str r7.1, str s17, .bool r9.1] 31, .blk b1 [str r7.1, str s17, .bool r9.1] 31] := hst; ex_load1 (o := 1) ag_9 (hO.blkSees (i := 2) rfl) rfl hf rfl | k + 6, hk, _, _, _, _ => absurd hk (by simp))⟩, ⟨.inr ⟨rfl, sS_call rfl (fun σ => rfl) (fun σ => rfl) rfl (fun σ a w (_ : _) hf => ex_call c_47 hf (vs := [str s17, str [32, 9]]) rfl) (fun σ w (hO : Dk.Own w0 [] w [.row (.slice (some ⟨σ, 0, none⟩) ([s17].length) 1) 9 1 ([s17].length) (cells enc_str [s17]), .blk b5 [str s15, int i16] 79, .blk b10 [str r7.1, str s17, .bool r9.1] 31, .blk b1 [str [], str [], .bool false] 31]) => (w_strings_Trim s17 [32, 9] r24 _ (hG.own hF hO) hr24).mono fun e w' h => by obtain ⟨he, hb⟩ := h; exact ⟨(σ), he, hO.grow hb, ⟨.inr rfl, ⟨.inr rfl, ⟨.inr rfl, ⟨.inr rfl, ⟨.inr rfl, ⟨.inr rfl, ⟨.inr rfl, ⟨.inr rfl, ⟨.inr rfl, ⟨.inr rfl, ⟨.inr rfl, ⟨.inr rfl, ⟨.inr rfl, ⟨.inr rfl, ⟨.inr rfl, ⟨.inr rfl, ⟨.inr rfl, ⟨.inr rfl, ⟨.inr rfl, ⟨.inr rfl, ⟨.inr rfl, ⟨.inr rfl, trivial⟩⟩⟩⟩⟩⟩⟩⟩⟩⟩⟩⟩⟩⟩⟩⟩⟩⟩⟩⟩⟩⟩⟩)⟩, ⟨.inr ⟨rfl, sS_pure rfl (fun σ => rfl) (fun σ => rfl) (fun σ a w k _ _ _ _ hf => ex_field fa_31_1 hf rfl)⟩, ⟨.inr ⟨rfl, sS_pure rfl (fun σ => rfl) (fun σ => rfl) (fun σ a w k hk hlo hup hst hf => match k, hk, hlo, hup, hst, hf with | 0, _, _, _, hst, hf => have hO : Dk.Own w0 [] w [.blk b5 [str s15, int i16] 79, .blk b10 [str r7.1, str s17, .bool r9.1] 31, .blk b1 [str [], str [], .bool false] 31] := hst; ex_load1 (o := 1) ag_9 (hO.blkSees (i := 1) rfl) rfl hf rfl | 1, _, _, _, hst, hf => have hO : Dk.Own w0 [] w [.blk b5 [str s15, int i16] 79, .blk b10 [str r7.1, str s17, .bool r9.1] 31, .blk b1 [str [], str [], .bool false] 31] := hst; ex_load1 (o := 1) ag_9 (hO.blkSees (i := 1) rfl) rfl hf rfl | 2, _, _, _, hst, hf => have hO : Dk.Own w0 [] w [.row (.slice (some ⟨σ, 0, none⟩) ([s17].length) 1) 9 1 ([s17].length) (cells enc_str [s17]), .blk b5 [str s15, int i16] 79, .blk b10 [str r7.1, str s17, .bool r9.1] 31, .blk b1 [str [], str [], .bool false] 31] := hst; ex_load1 (o := 1) ag_9 (hO.blkSees (i := 2) rfl) rfl hf rfl | 3, _, _, _, hst, hf => have hO : Dk.Own w0 [] w [.row (.slice (some ⟨σ, 0, none⟩) ([s17].length) 1) 9 1 ([s17].length) (cells enc_str [s17]), .blk b5 [str s15, int i16] 79, .blk b10 [str r7.1, str s17, .bool r9.1] 31, .blk b1 [str [], str [], .bool false] 31] := hst; ex_load1 (o := 1) ag_9 (hO.blkSees (i := 2) rfl) rfl hf rfl | 4, _, _, _, hst, hf => have hO : Dk.Own w0 [] w [.row (.slice (some ⟨σ, 0, none⟩) ([s17].length) 1) 9 1 ([s17].length) (cells enc_str [s17]), .blk b5 [str s15, int i16] 79, .blk b10 [str r7.1, str s17, .bool r9.1] 31, .blk b1 [str [], str [], .bool false] 31] := hst; ex_load1 (o := 1) ag_9 (hO.blkSees (i := 2) rfl) rfl hf rfl | 5, _, _, _, hst, hf => have hO : Dk.Own w0 [] w [.row (.slice (some ⟨σ, 0, none⟩) ([s17].length) 1) 9 1 ([s17].length) (cells enc_str [s17]), .blk b5 [str s15, int i16] 79, .blk b10 [str r7.1, str s17, .bool r9.1] 31, .blk b1 [str r7.1, str s17, .bool r9.1] 31] := hst; ex_load1 (o := 1) ag_9 (hO.blkSees (i := 2) rfl) rfl hf rfl | k + 6, hk, _, _, _, _ => absurd hk (by simp))⟩, ⟨.inr ⟨rfl, sS_pure rfl (fun σ => rfl) (fun σ => rfl) (fun σ a w k _ _ _ _ hf => ex_eql_s (l := r24) (m := s17) hf rfl rfl)⟩, ⟨.inr ⟨rfl, sS_pure rfl (fun σ => rfl) (fun σ => rfl) (fun σ a w k _ _ _ _ hf => ex_pick_t hf rfl hc23 rfl)⟩, ⟨.inr ⟨rfl, sS_skip rfl (fun σ => rfl) (fun σ => rfl) rfl (fun σ w (hO : Dk.Own w0 [] w [.row (.slice (some ⟨σ, 0, none⟩) ([s17].length) 1) 9 1 ([s17].length) (cells enc_str [s17]), .blk b5 [str s15, int i16] 79, .blk b10 [str r7.1, str s17, .bool r9.1] 31, .blk b1 [str [], str [], .bool false] 31]) => by obtain ⟨w', hO', hr⟩ := ef_storeN (x := (.tmp 2)) (y := (.tmp 25)) (E := [(2, ptr b1 0), (25, .agg #[str r7.1, str s17, .bool r9.1])]) (i := 3) (n := 3) (vs := [str r7.1, str s17, .bool r9.1]) sz_31 rfl rfl rfl (by simp [Value.oneCell']) hO rfl rfl; exact ⟨(σ), w', hO', ⟨.inr rfl, ⟨.inr rfl, ⟨.inr rfl, ⟨.inr rfl, ⟨.inr rfl, ⟨.inr rfl, ⟨.inr rfl, ⟨.inr rfl, ⟨.inr rfl, ⟨.inr rfl, ⟨.inr rfl, ⟨.inr rfl, ⟨.inr rfl, ⟨.inr rfl, ⟨.inr rfl, ⟨.inr rfl, ⟨.inr rfl, ⟨.inr rfl, ⟨.inr rfl, ⟨.inr rfl, ⟨.inr rfl, ⟨.inr rfl, trivial⟩⟩⟩⟩⟩⟩⟩⟩⟩⟩⟩⟩⟩⟩⟩⟩⟩⟩⟩⟩⟩⟩, hr⟩)⟩, ⟨.inr ⟨rfl, sS_pure rfl (fun σ => rfl) (fun σ => rfl) (fun σ a w k _ _ _ _ hf => ex_assign hf rfl)⟩, trivial⟩⟩⟩⟩⟩⟩⟩⟩⟩⟩⟩⟩⟩⟩⟩⟩⟩⟩⟩⟩⟩⟩ ?_
            rintro b21 a w hf hO
            have hO : Dk.Own w0 [] w [.row (.slice (some ⟨b21, 0, none⟩) ([s17].length) 1) 9 1 ([s17].length) (cells enc_str [s17]), .blk b5 [str s15, int i16] 79, .blk b10 [str r7.1, str s17, .bool r9.1] 31, .blk b1 [str r7.1, str s17, .bool r9.1] 31] := hO
            have hf : Fits 45 [(2, ptr b1 0), (3, .bool (r24 == s17))] a := (hf.cons rfl (hf.cons rfl hf.nil))
            refine nor_then ?_
            exact ⟨r24 == s17, (hf.cons rfl (hf.cons rfl hf.nil)), (hO.sub (.cons _ (.cons_cons _ (.cons_cons _ (.cons_cons _ .slnil))))), hm⟩
          · have hm := ie hc23 hm
            refine wp_drawG' (S := Nat) (E0 := [(2, ptr b1 0), (4, ptr b5 0), (6, .bool r7.2.1), (7, ptr b10 0)]) (by kernel_rfl) (fun k σ w => match k with | 0 => Dk.Own w0 [] w [.blk b5 [str s15, int i16] 79, .blk b10 [str r7.1, str s17, .bool r9.1] 31, .blk b1 [str [], str [], .bool false] 31] | 1 => Dk.Own w0 [] w [.blk b5 [str s15, int i16] 79, .blk b10 [str r7.1, str s17, .bool r9.1] 31, .blk b1 [str [], str [], .bool false] 31] | 2 => Dk.Own w0 [] w [.row (.slice (some ⟨σ, 0, none⟩) ([s17].length) 1) 9 1 ([s17].length) (cells enc_str [s17]), .blk b5 [str s15, int i16] 79, .blk b10 [str r7.1, str s17, .bool r9.1] 31, .blk b1 [str [], str [], .bool false] 31] | 3 => Dk.Own w0 [] w [.row (.slice (some ⟨σ, 0, none⟩) ([s17].length) 1) 9 1 ([s17].length) (cells enc_str [s17]), .blk b5 [str s15, int i16] 79, .blk b10 [str r7.1, str s17, .bool r9.1] 31, .blk b1 [str [], str [], .bool false] 31] | _ => Dk.Own w0 [] w [.row (.slice (some ⟨σ, 0, none⟩) ([s17].length) 1) 9 1 ([s17].length) (cells enc_str [s17]), .blk b5 [str s15, int i16] 79, .blk b10 [str r7.1, str s17, .bool r9.1] 31, .blk b1 [str r7.1, str s17, .bool r9.1] 31]) (fun σ => [⟨[(7, ptr b10 0)], some (25, .agg #[str r7.1, str s17, .bool r9.1])⟩, ⟨[(6, .bool r7.2.1)], some (26, .bool r7.2.1)⟩, ⟨[(26, .bool r7.2.1)], some (27, .bool r7.2.1)⟩, ⟨[(4, ptr b5 0), (27, .bool r7.2.1)], some (28, ptr b5 0)⟩, ⟨[(28, ptr b5 0), (27, .bool r7.2.1)], some (29, .bool r19)⟩, ⟨[(27, .bool r7.2.1), (29, .bool r19)], some (30, .bool r19)⟩, ⟨[(30, .bool r19)], some (31, .bool r19)⟩, ⟨[(7, ptr b10 0), (31, .bool r19)], some (32, ptr b10 1)⟩, ⟨[(32, ptr b10 1), (31, .bool r19)], some (33, str s17)⟩, ⟨[(33, str s17), (31, .bool r19)], some (34, .slice (some ⟨σ, 0, none⟩) ([s17].length) 1)⟩, ⟨[(34, .slice (some ⟨σ, 0, none⟩) ([s17].length) 1), (31, .bool r19)], some (35, .bool r22)⟩, ⟨[(31, .bool r19), (35, .bool r22)], some (36, .bool r22)⟩, ⟨[(36, .bool r22)], some (37, .bool r22)⟩, ⟨[(37, .bool r22)], some (38, undef)⟩, ⟨[(37, .bool r22)], some (39, undef)⟩, ⟨[(37, .bool r22)], some (40, undef)⟩, ⟨[(37, .bool r22)], some (41, undef)⟩, ⟨[(37, .bool r22)], some (42, undef)⟩, ⟨[(37, .bool r22)], some (43, undef)⟩, ⟨[(37, .bool r22), (43, undef)], some (44, .bool false)⟩, ⟨[(2, ptr b1 0), (25, .agg #[str r7.1, str s17, .bool r9.1])], none⟩, ⟨[(44, .bool false)], some (3, .bool false)⟩]) (0) [4, 9, 10, 20] [13, 14, 15, 16, 17, 18] ⟨g_none rfl rfl, ⟨g_none rfl rfl, ⟨g_none rfl rfl, ⟨g_some (u := fun σ => r7.2.1) rfl (fun σ => rfl) rfl (fun σ => rfl) (fun σ => by rw [hc18] <;> rfl), ⟨g_some (u := fun σ => r7.2.1) rfl (fun σ => rfl) rfl (fun σ => rfl) (fun σ => by rw [hc18] <;> rfl), ⟨g_none rfl rfl, ⟨g_none rfl rfl, ⟨g_some (u := fun σ => r19) rfl (fun σ => rfl) rfl (fun σ => rfl) (fun σ => by rw [hc20] <;> rfl), ⟨g_some (u := fun σ => r19) rfl (fun σ => rfl) rfl (fun σ => rfl) (fun σ => by rw [hc20] <;> rfl), ⟨g_some (u := fun σ => r19) rfl (fun σ => rfl) rfl (fun σ => rfl) (fun σ => by rw [hc20] <;> rfl), ⟨g_some (u := fun σ => r19) rfl (fun σ => rfl) rfl (fun σ => rfl) (fun σ => by rw [hc20] <;> rfl), ⟨g_none rfl rfl, ⟨g_none rfl rfl, ⟨g_some (u := fun σ => r22) rfl (fun σ => rfl) rfl (fun σ => rfl) (fun σ => by rw [hc23] <;> rfl), ⟨g_some (u := fun σ => r22) rfl (fun σ => rfl) rfl (fun σ => rfl) (fun σ => by rw [hc23] <;> rfl), ⟨g_some (u := fun σ => r22) rfl (fun σ => rfl) rfl (fun σ => rfl) (fun σ => by rw [hc23] <;> rfl), ⟨g_some (u := fun σ => r22) rfl (fun σ => rfl) rfl (fun σ => rfl) (fun σ => by rw [hc23] <;> rfl), ⟨g_some (u := fun σ => r22) rfl (fun σ => rfl) rfl (fun σ => rfl) (fun σ => by rw [hc23] <;> rfl), ⟨g_some (u := fun σ => r22) rfl (fun σ => rfl) rfl (fun σ => rfl) (fun σ => by rw [hc23] <;> rfl), ⟨g_none rfl rfl, ⟨g_none rfl rfl, ⟨g_none rfl rfl, trivial⟩⟩⟩⟩⟩⟩⟩⟩⟩⟩⟩⟩⟩⟩⟩⟩⟩⟩⟩⟩⟩⟩ (fun σ => ⟨.inl rfl, ⟨.inl rfl, ⟨.inl rfl, ⟨.inl rfl, ⟨.inl rfl, ⟨.inl rfl, ⟨.inl rfl, ⟨.inl rfl, ⟨.inl rfl, ⟨.inl rfl, ⟨.inl rfl, ⟨.inl rfl, ⟨.inl rfl, ⟨.inr ⟨rfl, rfl⟩, ⟨.inr ⟨rfl, rfl⟩, ⟨.inr ⟨rfl, rfl⟩, ⟨.inr ⟨rfl, rfl⟩, ⟨.inr ⟨rfl, rfl⟩, ⟨.inr ⟨rfl, rfl⟩, ⟨.inl rfl, ⟨.inl rfl, ⟨.inl rfl, trivial⟩⟩⟩⟩⟩⟩⟩⟩⟩⟩⟩⟩⟩⟩⟩⟩⟩⟩⟩⟩⟩⟩) (fun _ => rfl) (fun _ => rfl) (fun _ => rfl) rfl rfl (by decide) rfl hO.drew (hf.cons rfl (hf.cons rfl (hf.cons rfl (hf.cons rfl hf.nil)))) (fun σ => ⟨⟨rfl, trivial⟩, ⟨⟨rfl, trivial⟩, ⟨⟨rfl, trivial⟩, ⟨⟨rfl, ⟨rfl, trivial⟩⟩, ⟨⟨rfl, ⟨rfl, trivial⟩⟩, ⟨⟨rfl, ⟨rfl, trivial⟩⟩, ⟨⟨rfl, trivial⟩, ⟨⟨rfl, ⟨rfl, trivial⟩⟩, ⟨⟨rfl, ⟨rfl, trivial⟩⟩, ⟨⟨rfl, ⟨rfl, trivial⟩⟩, ⟨⟨rfl, ⟨rfl, trivial⟩⟩, ⟨⟨rfl, ⟨rfl, trivial⟩⟩, ⟨⟨rfl, trivial⟩, ⟨⟨rfl, trivial⟩, ⟨⟨rfl, trivial⟩, ⟨⟨rfl, trivial⟩, ⟨⟨rfl, trivial⟩, ⟨⟨rfl, trivial⟩, ⟨⟨rfl, trivial⟩, ⟨⟨rfl, ⟨rfl, trivial⟩⟩, ⟨⟨rfl, ⟨rfl, trivial⟩⟩, ⟨⟨rfl, trivial⟩, trivial⟩⟩⟩⟩⟩⟩⟩⟩⟩⟩⟩⟩⟩⟩⟩⟩⟩⟩⟩⟩⟩⟩) ⟨.inr ⟨rfl, sS_pure rfl (fun σ => rfl) (fun σ => rfl) (fun σ a w k hk hlo hup hst hf => match k, hk, hlo, hup, hst, hf with | 0, _, _, _, hst, hf => have hO : Dk.Own w0 [] w [.blk b5 [str s15, int i16] 79, .blk b10 [str r7.1, str s17, .bool r9.1] 31, .blk b1 [str [], str [], .bool false] 31] := hst; ex_loadN (o := 0) (vs := [str r7.1, str s17, .bool r9.1]) ag_31 sz_31 (hO.blkSees (i := 1) rfl) rfl rfl hf rfl | 1, _, _, _, hst, hf => have hO : Dk.Own w0 [] w [.blk b5 [str s15, int i16] 79, .blk b10 [str r7.1, str s17, .bool r9.1] 31, .blk b1 [str [], str [], .bool false] 31] := hst; ex_loadN (o := 0) (vs := [str r7.1, str s17, .bool r9.1]) ag_31 sz_31 (hO.blkSees (i := 1) rfl) rfl rfl hf rfl | 2, _, _, _, hst, hf => have hO : Dk.Own w0 [] w [.row (.slice (some ⟨σ, 0, none⟩) ([s17].length) 1) 9 1 ([s17].length) (cells enc_str [s17]), .blk b5 [str s15, int i16] 79, .blk b10 [str r7.1, str s17, .bool r9.1] 31, .blk b1 [str [], str [], .bool false] 31] := hst; ex_loadN (o := 0) (vs := [str r7.1, str s17, .bool r9.1]) ag_31 sz_31 (hO.blkSees (i := 2) rfl) rfl rfl hf rfl | 3, _, _, _, hst, hf => have hO : Dk.Own w0 [] w [.row (.slice (some ⟨σ, 0, none⟩) ([s17].length) 1) 9 1 ([s17].length) (cells enc_str [s17]), .blk b5 [str s15, int i16] 79, .blk b10 [str r7.1, str s17, .bool r9.1] 31, .blk b1 [str [], str [], .bool false] 31] := hst; ex_loadN (o := 0) (vs := [str r7.1, str s17, .bool r9.1]) ag_31 sz_31 (hO.blkSees (i := 2) rfl) rfl rfl hf rfl | 4, _, _, _, hst, hf => have hO : Dk.Own w0 [] w [.row (.slice (some ⟨σ, 0, none⟩) ([s17].length) 1) 9 1 ([s17].length) (cells enc_str [s17]), .blk b5 [str s15, int i16] 79, .blk b10 [str r7.1, str s17, .bool r9.1] 31, .blk b1 [str r7.1, str s17, .bool r9.1] 31] := hst; ex_loadN (o := 0) (vs := [str r7.1, str s17, .bool r9.1]) ag_31 sz_31 (hO.blkSees (i := 2) rfl) rfl rfl hf rfl | k + 5, hk, _, _, _, _ => absurd hk (by simp))⟩, ⟨.inr ⟨rfl, sS_pure rfl (fun σ => rfl) (fun σ => rfl) (fun σ a w k _ _ _ _ hf => ex_move hf rfl)⟩, ⟨.inr ⟨rfl, sS_pure rfl (fun σ => rfl) (fun σ => rfl) (fun σ a w k _ _ _ _ hf => ex_move hf rfl)⟩, ⟨.inr ⟨rfl, sS_pure rfl (fun σ => rfl) (fun σ => rfl) (fun σ a w k _ _ _ _ hf => ex_move hf rfl)⟩, ⟨.inr ⟨rfl, sS_call rfl (fun σ => rfl) (fun σ => rfl) rfl (fun σ a w (_ : _) hf => ex_call c_52 hf (vs := [ptr b5 0]) rfl) (fun σ w (hO : Dk.Own w0 [] w [.blk b5 [str s15, int i16] 79, .blk b10 [str r7.1, str s17, .bool r9.1] 31, .blk b1 [str [], str [], .bool false] 31]) => (w_scan_Scanner_End (⟨s15, i16⟩ : scan_Scanner) r19 _ (hG.own hF hO) (hO.blkSees (i := 0) rfl) hr19).mono fun e w' h => by obtain ⟨he, hb⟩ := h; exact ⟨(σ), he, hO.grow hb, ⟨.inr rfl, ⟨.inr rfl, ⟨.inr rfl, ⟨.inr rfl, ⟨.inr rfl, ⟨.inr rfl, ⟨.inr rfl, ⟨.inr rfl, ⟨.inr rfl, ⟨.inr rfl, ⟨.inr rfl, ⟨.inr rfl, ⟨.inr rfl, ⟨.inr rfl, ⟨.inr rfl, ⟨.inr rfl, ⟨.inr rfl, ⟨.inr rfl, ⟨.inr rfl, ⟨.inr rfl, ⟨.inr rfl, ⟨.inr rfl, trivial⟩⟩⟩⟩⟩⟩⟩⟩⟩⟩⟩⟩⟩⟩⟩⟩⟩⟩⟩⟩⟩⟩⟩)⟩, ⟨.inr ⟨rfl, sS_pure rfl (fun σ => rfl) (fun σ => rfl) (fun σ a w k _ _ _ _ hf => ex_pick_t hf rfl hc18 rfl)⟩, ⟨.inr ⟨rfl, sS_pure rfl (fun σ => rfl) (fun σ => rfl) (fun σ a w k _ _ _ _ hf => ex_move hf rfl)⟩, ⟨.inr ⟨rfl, sS_pure rfl (fun σ => rfl) (fun σ => rfl) (fun σ a w k _ _ _ _ hf => ex_field fa_31_1 hf rfl)⟩, ⟨.inr ⟨rfl, sS_pure rfl (fun σ => rfl) (fun σ => rfl) (fun σ a w k hk hlo hup hst hf => match k, hk, hlo, hup, hst, hf with | 0, _, _, _, hst, hf => have hO : Dk.Own w0 [] w [.blk b5 [str s15, int i16] 79, .blk b10 [str r7.1, str s17, .bool r9.1] 31, .blk b1 [str [], str [], .bool false] 31] := hst; ex_load1 (o := 1) ag_9 (hO.blkSees (i := 1) rfl) rfl hf rfl | 1, _, _, _, hst, hf => have hO : Dk.Own w0 [] w [.blk b5 [str s15, int i16] 79, .blk b10 [str r7.1, str s17, .bool r9.1] 31, .blk b1 [str [], str [], .bool false] 31] := hst; ex_load1 (o := 1) ag_9 (hO.blkSees (i := 1) rfl) rfl hf rfl | 2, _, _, _, hst, hf => have hO : Dk.Own w0 [] w [.row (.slice (some ⟨σ, 0, none⟩) ([s17].length) 1) 9 1 ([s17].length) (cells enc_str [s17]), .blk b5 [str s15, int i16] 79, .blk b10 [str r7.1, str s17, .bool r9.1] 31, .blk b1 [str [], str [], .bool false] 31] := hst; ex_load1 (o := 1) ag_9 (hO.blkSees (i := 2) rfl) rfl hf rfl | 3, _, _, _, hst, hf => have hO : Dk.Own w0 [] w [.row (.slice (some ⟨σ, 0, none⟩) ([s17].length) 1) 9 1 ([s17].length) (cells enc_str [s17]), .blk b5 [str s15, int i16] 79, .blk b10 [str r7.1, str s17, .bool r9.1] 31, .blk b1 [str [], str [], .bool false] 31] := hst; ex_load1 (o := 1) ag_9 (hO.blkSees (i := 2) rfl) rfl hf rfl | 4, _, _, _, hst, hf => have hO : Dk.Own w0 [] w [.row (.slice (some ⟨σ, 0, none⟩) ([s17].length) 1) 9 1 ([s17].length) (cells enc_str [s17]), .blk b5 [str s15, int i16] 79, .blk b10 [str r7.1, str s17, .bool r9.1] 31, .blk b1 [str r7.1, str s17, .bool r9.1] 31] := hst; ex_load1 (o := 1) ag_9 (hO.blkSees (i := 2) rfl) rfl hf rfl | k + 5, hk, _, _, _, _ => absurd hk (by simp))⟩, ⟨.inr ⟨rfl, sS_val rfl (fun σ => rfl) (fun σ => rfl) rfl (fun σ w (hO : Dk.Own w0 [] w [.blk b5 [str s15, int i16] 79, .blk b10 [str r7.1, str s17, .bool r9.1] 31, .blk b1 [str [], str [], .bool false] 31]) => by obtain ⟨b21, w', hO', hr⟩ := ef_buildSlice (E := [(33, str s17), (31, .bool r19)]) (parts := #[(0, (.tmp 33))]) (t' := 55) (n := 1) (vs := [(0, str s17)]) (cs := [str s17]) (e := 9) (sz := 1) (fun w => by kernel_rfl) rfl rfl hO rfl; exact ⟨(b21), w', hO', ⟨.inr rfl, ⟨.inr rfl, ⟨.inr rfl, ⟨.inr rfl, ⟨.inr rfl, ⟨.inr rfl, ⟨.inr rfl, ⟨.inr rfl, ⟨.inr rfl, ⟨.inl rfl, ⟨.inl rfl, ⟨.inr rfl, ⟨.inr rfl, ⟨.inr rfl, ⟨.inr rfl, ⟨.inr rfl, ⟨.inr rfl, ⟨.inr rfl, ⟨.inr rfl, ⟨.inr rfl, ⟨.inr rfl, ⟨.inr rfl, trivial⟩⟩⟩⟩⟩⟩⟩⟩⟩⟩⟩⟩⟩⟩⟩⟩⟩⟩⟩⟩⟩⟩, hr⟩)⟩, ⟨.inr ⟨rfl, sS_call rfl (fun σ => rfl) (fun σ => rfl) rfl (fun σ a w (_ : _) hf => ex_call c_53 hf (vs := [.func (.func 54) #[] #[], .slice (some ⟨σ, 0, none⟩) ([s17].length) 1]) rfl) (fun σ w (hO : Dk.Own w0 [] w [.row (.slice (some ⟨σ, 0, none⟩) ([s17].length) 1) 9 1 ([s17].length) (cells enc_str [s17]), .blk b5 [str s15, int i16] 79, .blk b10 [str r7.1, str s17, .bool r9.1] 31, .blk b1 [str [], str [], .bool false] 31]) => (w_octet_All octet_IsValue [s17] r22 _ (hG.own hF hO) c_54 (fun y0 r w hG h => callsE (w_octet_IsValue y0 r w hG h)) (hO.rowSees (i := 0) rfl) (hO.rowCap (i := 0) rfl) hr22).mono fun e w' h => by obtain ⟨he, hb⟩ := h; exact ⟨(σ), he, hO.grow hb, ⟨.inr rfl, ⟨.inr rfl, ⟨.inr rfl, ⟨.inr rfl, ⟨.inr rfl, ⟨.inr rfl, ⟨.inr rfl, ⟨.inr rfl, ⟨.inr rfl, ⟨.inr rfl, ⟨.inr rfl, ⟨.inr rfl, ⟨.inr rfl, ⟨.inr rfl, ⟨.inr rfl, ⟨.inr rfl, ⟨.inr rfl, ⟨.inr rfl, ⟨.inr rfl, ⟨.inr rfl, ⟨.inr rfl, ⟨.inr rfl, trivial⟩⟩⟩⟩⟩⟩⟩⟩⟩⟩⟩⟩⟩⟩⟩⟩⟩⟩⟩⟩⟩⟩⟩)⟩, ⟨.inr ⟨rfl, sS_pure rfl (fun σ => rfl) (fun σ => rfl) (fun σ a w k _ _ _ _ hf => ex_pick_t hf rfl hc20 rfl)⟩, ⟨.inr ⟨rfl, sS_pure rfl (fun σ => rfl) (fun σ => rfl) (fun σ a w k _ _ _ _ hf => ex_move hf rfl)⟩, ⟨.inl rfl, ⟨.inl rfl, ⟨.inl rfl, ⟨.inl rfl, ⟨.inl rfl, ⟨.inl rfl, ⟨.inr ⟨rfl, sS_pure rfl (fun σ => rfl) (fun σ => rfl) (fun σ a w k _ _ _ _ hf => ex_pick_f hf rfl hc23 rfl)⟩, ⟨.inr ⟨rfl, sS_skip rfl (fun σ => rfl) (fun σ => rfl) rfl (fun σ w (hO : Dk.Own w0 [] w [.row (.slice (some ⟨σ, 0, none⟩) ([s17].length) 1) 9 1 ([s17].length) (cells enc_str [s17]), .blk b5 [str s15, int i16] 79, .blk b10 [str r7.1, str s17, .bool r9.1] 31, .blk b1 [str [], str [], .bool false] 31]) => by obtain ⟨w', hO', hr⟩ := ef_storeN (x := (.tmp 2)) (y := (.tmp 25)) (E := [(2, ptr b1 0), (25, .agg #[str r7.1, str s17, .bool r9.1])]) (i := 3) (n := 3) (vs := [str r7.1, str s17, .bool r9.1]) sz_31 rfl rfl rfl (by simp [Value.oneCell']) hO rfl rfl; exact ⟨(σ), w', hO', ⟨.inr rfl, ⟨.inr rfl, ⟨.inr rfl, ⟨.inr rfl, ⟨.inr rfl, ⟨.inr rfl, ⟨.inr rfl, ⟨.inr rfl, ⟨.inr rfl, ⟨.inr rfl, ⟨.inr rfl, ⟨.inr rfl, ⟨.inr rfl, ⟨.inr rfl, ⟨.inr rfl, ⟨.inr rfl, ⟨.inr rfl, ⟨.inr rfl, ⟨.inr rfl, ⟨.inr rfl, ⟨.inr rfl, ⟨.inr rfl, trivial⟩⟩⟩⟩⟩⟩⟩⟩⟩⟩⟩⟩⟩⟩⟩⟩⟩⟩⟩⟩⟩⟩, hr⟩)⟩, ⟨.inr ⟨rfl, sS_pure rfl (fun σ => rfl) (fun σ => rfl) (fun σ a w k _ _ _ _ hf => ex_assign hf rfl)⟩, trivial⟩⟩⟩⟩⟩⟩⟩⟩⟩⟩⟩⟩⟩⟩⟩⟩⟩⟩⟩⟩⟩⟩ ?_
            rintro b21 a w hf hO
            have hO : Dk.Own w0 [] w [.row (.slice (some ⟨b21, 0, none⟩) ([s17].length) 1) 9 1 ([s17].length) (cells enc_str [s17]), .blk b5 [str s15, int i16] 79, .blk b10 [str r7.1, str s17, .bool r9.1] 31, .blk b1 [str r7.1, str s17, .bool r9.1] 31] := hO
            have hf : Fits 45 [(2, ptr b1 0), (3, .bool false)] a := (hf.cons rfl (hf.cons rfl hf.nil))
            refine nor_then ?_
            exact ⟨false, (hf.cons rfl (hf.cons rfl hf.nil)), (hO.sub (.cons _ (.cons_cons _ (.cons_cons _ (.cons_cons _ .slnil))))), hm⟩
        · have hm := ie hc20 hm
          refine wp_drawG' (S := Unit) (E0 := [(2, ptr b1 0), (4, ptr b5 0), (6, .bool r7.2.1), (7, ptr b10 0)]) (by kernel_rfl) (fun k σ w => match k with | 0 => Dk.Own w0 [] w [.blk b5 [str s15, int i16] 79, .blk b10 [str r7.1, str s17, .bool r9.1] 31, .blk b1 [str [], str [], .bool false] 31] | 1 => Dk.Own w0 [] w [.blk b5 [str s15, int i16] 79, .blk b10 [str r7.1, str s17, .bool r9.1] 31, .blk b1 [str [], str [], .bool false] 31] | _ => Dk.Own w0 [] w [.blk b5 [str s15, int i16] 79, .blk b10 [str r7.1, str s17, .bool r9.1] 31, .blk b1 [str r7.1, str s17, .bool r9.1] 31]) (fun σ => [⟨[(7, ptr b10 0)], some (25, .agg #[str r7.1, str s17, .bool r9.1])⟩, ⟨[(6, .bool r7.2.1)], some (26, .bool r7.2.1)⟩, ⟨[(26, .bool r7.2.1)], some (27, .bool r7.2.1)⟩, ⟨[(4, ptr b5 0), (27, .bool r7.2.1)], some (28, ptr b5 0)⟩, ⟨[(28, ptr b5 0), (27, .bool r7.2.1)], some (29, .bool r19)⟩, ⟨[(27, .bool r7.2.1), (29, .bool r19)], some (30, .bool r19)⟩, ⟨[(30, .bool r19)], some (31, .bool r19)⟩, ⟨[(31, .bool r19)], some (32, undef)⟩, ⟨[(31, .bool r19)], some (33, undef)⟩, ⟨[(31, .bool r19)], some (34, undef)⟩, ⟨[(31, .bool r19)], some (35, undef)⟩, ⟨[(31, .bool r19), (35, undef)], some (36, .bool false)⟩, ⟨[(36, .bool false)], some (37, .bool false)⟩, ⟨[(37, .bool false)], some (38, undef)⟩, ⟨[(37, .bool false)], some (39, undef)⟩, ⟨[(37, .bool false)], some (40, undef)⟩, ⟨[(37, .bool false)], some (41, undef)⟩, ⟨[(37, .bool false)], some (42, undef)⟩, ⟨[(37, .bool false)], some (43, undef)⟩, ⟨[(37, .bool false), (43, undef)], some (44, .bool false)⟩, ⟨[(2, ptr b1 0), (25, .agg #[str r7.1, str s17, .bool r9.1])], none⟩, ⟨[(44, .bool false)], some (3, .bool false)⟩]) () [4, 20] [7, 8, 9, 10, 13, 14, 15, 16, 17, 18] ⟨g_none rfl rfl, ⟨g_none rfl rfl, ⟨g_none rfl rfl, ⟨g_some (u := fun σ => r7.2.1) rfl (fun σ => rfl) rfl (fun σ => rfl) (fun σ => by rw [hc18] <;> rfl), ⟨g_some (u := fun σ => r7.2.1) rfl (fun σ => rfl) rfl (fun σ => rfl) (fun σ => by rw [hc18] <;> rfl), ⟨g_none rfl rfl, ⟨g_none rfl rfl, ⟨g_some (u := fun σ => r19) rfl (fun σ => rfl) rfl (fun σ => rfl) (fun σ => by rw [hc20] <;> rfl), ⟨g_some (u := fun σ => r19) rfl (fun σ => rfl) rfl (fun σ => rfl) (fun σ => by rw [hc20] <;> rfl), ⟨g_some (u := fun σ => r19) rfl (fun σ => rfl) rfl (fun σ => rfl) (fun σ => by rw [hc20] <;> rfl), ⟨g_some (u := fun σ => r19) rfl (fun σ => rfl) rfl (fun σ => rfl) (fun σ => by rw [hc20] <;> rfl), ⟨g_none rfl rfl, ⟨g_none rfl rfl, ⟨g_some (u := fun σ => false) rfl (fun σ => rfl) rfl (fun σ => rfl) (fun σ => rfl), ⟨g_some (u := fun σ => false) rfl (fun σ => rfl) rfl (fun σ => rfl) (fun σ => rfl), ⟨g_some (u := fun σ => false) rfl (fun σ => rfl) rfl (fun σ => rfl) (fun σ => rfl), ⟨g_some (u := fun σ => false) rfl (fun σ => rfl) rfl (fun σ => rfl) (fun σ => rfl), ⟨g_some (u := fun σ => false) rfl (fun σ => rfl) rfl (fun σ => rfl) (fun σ => rfl), ⟨g_some (u := fun σ => false) rfl (fun σ => rfl) rfl (fun σ => rfl) (fun σ => rfl), ⟨g_none rfl rfl, ⟨g_none rfl rfl, ⟨g_none rfl rfl, trivial⟩⟩⟩⟩⟩⟩⟩⟩⟩⟩⟩⟩⟩⟩⟩⟩⟩⟩⟩⟩⟩⟩ (fun σ => ⟨.inl rfl, ⟨.inl rfl, ⟨.inl rfl, ⟨.inl rfl, ⟨.inl rfl, ⟨.inl rfl, ⟨.inl rfl, ⟨.inr ⟨rfl, rfl⟩, ⟨.inr ⟨rfl, rfl⟩, ⟨.inr ⟨rfl, rfl⟩, ⟨.inr ⟨rfl, rfl⟩, ⟨.inl rfl, ⟨.inl rfl, ⟨.inr ⟨rfl, rfl⟩, ⟨.inr ⟨rfl, rfl⟩, ⟨.inr ⟨rfl, rfl⟩, ⟨.inr ⟨rfl, rfl⟩, ⟨.inr ⟨rfl, rfl⟩, ⟨.inr ⟨rfl, rfl⟩, ⟨.inl rfl, ⟨.inl rfl, ⟨.inl rfl, trivial⟩⟩⟩⟩⟩⟩⟩⟩⟩⟩⟩⟩⟩⟩⟩⟩⟩⟩⟩⟩⟩⟩) (fun _ => rfl) (fun _ => rfl) (fun _ => rfl) rfl rfl (by decide) rfl hO.drew (hf.cons rfl (hf.cons rfl (hf.cons rfl (hf.cons rfl hf.nil)))) (fun σ => ⟨⟨rfl, trivial⟩, ⟨⟨rfl, trivial⟩, ⟨⟨rfl, trivial⟩, ⟨⟨rfl, ⟨rfl, trivial⟩⟩, ⟨⟨rfl, ⟨rfl, trivial⟩⟩, ⟨⟨rfl, ⟨rfl, trivial⟩⟩, ⟨⟨rfl, trivial⟩, ⟨⟨rfl, trivial⟩, ⟨⟨rfl, trivial⟩, ⟨⟨rfl, trivial⟩, ⟨⟨rfl, trivial⟩, ⟨⟨rfl, ⟨rfl, trivial⟩⟩, ⟨⟨rfl, trivial⟩, ⟨⟨rfl, trivial⟩, ⟨⟨rfl, trivial⟩, ⟨⟨rfl, trivial⟩, ⟨⟨rfl, trivial⟩, ⟨⟨rfl, trivial⟩, ⟨⟨rfl, trivial⟩, ⟨⟨rfl, ⟨rfl, trivial⟩⟩, ⟨⟨rfl, ⟨rfl, trivial⟩⟩, ⟨⟨rfl, trivial⟩, trivial⟩⟩⟩⟩⟩⟩⟩⟩⟩⟩⟩⟩⟩⟩⟩⟩⟩⟩⟩⟩⟩⟩) ⟨.inr ⟨rfl, sS_pure rfl (fun σ => rfl) (fun σ => rfl) (fun σ a w k hk hlo hup hst hf => match k, hk, hlo, hup, hst, hf with | 0, _, _, _, hst, hf => have hO : Dk.Own w0 [] w [.blk b5 [str s15, int i16] 79, .blk b10 [str r7.1, str s17, .bool r9.1] 31, .blk b1 [str [], str [], .bool false] 31] := hst; ex_loadN (o := 0) (vs := [str r7.1, str s17, .bool r9.1]) ag_31 sz_31 (hO.blkSees (i := 1) rfl) rfl rfl hf rfl | 1, _, _, _, hst, hf => have hO : Dk.Own w0 [] w [.blk b5 [str s15, int i16] 79, .blk b10 [str r7.1, str s17, .bool r9.1] 31, .blk b1 [str [], str [], .bool false] 31] := hst; ex_loadN (o := 0) (vs := [str r7.1, str s17, .bool r9.1]) ag_31 sz_31 (hO.blkSees (i := 1) rfl) rfl rfl hf rfl | 2, _, _, _, hst, hf => have hO : Dk.Own w0 [] w [.blk b5 [str s15, int i16] 79, .blk b10 [str r7.1, str s17, .bool r9.1] 31, .blk b1 [str r7.1, str s17, .bool r9.1] 31] := hst; ex_loadN (o := 0) (vs := [str r7.1, str s17, .bool r9.1]) ag_31 sz_31 (hO.blkSees (i := 1) rfl) rfl rfl hf rfl | k + 3, hk, _, _, _, _ => absurd hk (by simp))⟩, ⟨.inr ⟨rfl, sS_pure rfl (fun σ => rfl) (fun σ => rfl) (fun σ a w k _ _ _ _ hf => ex_move hf rfl)⟩, ⟨.inr ⟨rfl, sS_pure rfl (fun σ => rfl) (fun σ => rfl) (fun σ a w k _ _ _ _ hf => ex_move hf rfl)⟩, ⟨.inr ⟨rfl, sS_pure rfl (fun σ => rfl) (fun σ => rfl) (fun σ a w k _ _ _ _ hf => ex_move hf rfl)⟩, ⟨.inr ⟨rfl, sS_call rfl (fun σ => rfl) (fun σ => rfl) rfl (fun σ a w (_ : _) hf => ex_call c_52 hf (vs := [ptr b5 0]) rfl) (fun σ w (hO : Dk.Own w0 [] w [.blk b5 [str s15, int i16] 79, .blk b10 [str r7.1, str s17, .bool r9.1] 31, .blk b1 [str [], str [], .bool false] 31]) => (w_scan_Scanner_End (⟨s15, i16⟩ : scan_Scanner) r19 _ (hG.own hF hO) (hO.blkSees (i := 0) rfl) hr19).mono fun e w' h => by obtain ⟨he, hb⟩ := h; exact ⟨(), he, hO.grow hb, ⟨.inr rfl, ⟨.inr rfl, ⟨.inr rfl, ⟨.inr rfl, ⟨.inr rfl, ⟨.inr rfl, ⟨.inr rfl, ⟨.inr rfl, ⟨.inr rfl, ⟨.inr rfl, ⟨.inr rfl, ⟨.inr rfl, ⟨.inr rfl, ⟨.inr rfl, ⟨.inr rfl, ⟨.inr rfl, ⟨.inr rfl, ⟨.inr rfl, ⟨.inr rfl, ⟨.inr rfl, ⟨.inr rfl, ⟨.inr rfl, trivial⟩⟩⟩⟩⟩⟩⟩⟩⟩⟩⟩⟩⟩⟩⟩⟩⟩⟩⟩⟩⟩⟩⟩)⟩, ⟨.inr ⟨rfl, sS_pure rfl (fun σ => rfl) (fun σ => rfl) (fun σ a w k _ _ _ _ hf => ex_pick_t hf rfl hc18 rfl)⟩, ⟨.inr ⟨rfl, sS_pure rfl (fun σ => rfl) (fun σ => rfl) (fun σ a w k _ _ _ _ hf => ex_move hf rfl)⟩, ⟨.inl rfl, ⟨.inl rfl, ⟨.inl rfl, ⟨.inl rfl, ⟨.inr ⟨rfl, sS_pure rfl (fun σ => rfl) (fun σ => rfl) (fun σ a w k _ _ _ _ hf => ex_pick_f hf rfl hc20 rfl)⟩, ⟨.inr ⟨rfl, sS_pure rfl (fun σ => rfl) (fun σ => rfl) (fun σ a w k _ _ _ _ hf => ex_move hf rfl)⟩, ⟨.inl rfl, ⟨.inl rfl, ⟨.inl rfl, ⟨.inl rfl, ⟨.inl rfl, ⟨.inl rfl, ⟨.inr ⟨rfl, sS_pure rfl (fun σ => rfl) (fun σ => rfl) (fun σ a w k _ _ _ _ hf => ex_pick_f hf rfl rfl rfl)⟩, ⟨.inr ⟨rfl, sS_skip rfl (fun σ => rfl) (fun σ => rfl) rfl (fun σ w (hO : Dk.Own w0 [] w [.blk b5 [str s15, int i16] 79, .blk b10 [str r7.1, str s17, .bool r9.1] 31, .blk b1 [str [], str [], .bool false] 31]) => by obtain ⟨w', hO', hr⟩ := ef_storeN (x := (.tmp 2)) (y := (.tmp 25)) (E := [(2, ptr b1 0), (25, .agg #[str r7.1, str s17, .bool r9.1])]) (i := 2) (n := 3) (vs := [str r7.1, str s17, .bool r9.1]) sz_31 rfl rfl rfl (by simp [Value.oneCell']) hO rfl rfl; exact ⟨(), w', hO', ⟨.inr rfl, ⟨.inr rfl, ⟨.inr rfl, ⟨.inr rfl, ⟨.inr rfl, ⟨.inr rfl, ⟨.inr rfl, ⟨.inr rfl, ⟨.inr rfl, ⟨.inr rfl, ⟨.inr rfl, ⟨.inr rfl, ⟨.inr rfl, ⟨.inr rfl, ⟨.inr rfl, ⟨.inr rfl, ⟨.inr rfl, ⟨.inr rfl, ⟨.inr rfl, ⟨.inr rfl, ⟨.inr rfl, ⟨.inr rfl, trivial⟩⟩⟩⟩⟩⟩⟩⟩⟩⟩⟩⟩⟩⟩⟩⟩⟩⟩⟩⟩⟩⟩, hr⟩)⟩, ⟨.inr ⟨rfl, sS_pure rfl (fun σ => rfl) (fun σ => rfl) (fun σ a w k _ _ _ _ hf => ex_assign hf rfl)⟩, trivial⟩⟩⟩⟩⟩⟩⟩⟩⟩⟩⟩⟩⟩⟩⟩⟩⟩⟩⟩⟩⟩⟩ ?_
          rintro _ a w hf hO
          have hO : Dk.Own w0 [] w [.blk b5 [str s15, int i16] 79, .blk b10 [str r7.1, str s17, .bool r9.1] 31, .blk b1 [str r7.1, str s17, .bool r9.1] 31] := hO
          have hf : Fits 45 [(2, ptr b1 0), (3, .bool false)] a := (hf.cons rfl (hf.cons rfl hf.nil))
          refine nor_then ?_
          exact ⟨false, (hf.cons rfl (hf.cons rfl hf.nil)), hO, hm⟩
      · have hm := ie hc18 hm
        refine wp_drawG' (S := Unit) (E0 := [(2, ptr b1 0), (4, ptr b5 0), (6, .bool r7.2.1), (7, ptr b10 0)]) (by kernel_rfl) (fun k σ w => match k with | 0 => Dk.Own w0 [] w [.blk b5 [str s15, int i16] 79, .blk b10 [str r7.1, str s17, .bool r9.1] 31, .blk b1 [str [], str [], .bool false] 31] | _ => Dk.Own w0 [] w [.blk b5 [str s15, int i16] 79, .blk b10 [str r7.1, str s17, .bool r9.1] 31, .blk b1 [str r7.1, str s17, .bool r9.1] 31]) (fun σ => [⟨[(7, ptr b10 0)], some (25, .agg #[str r7.1, str s17, .bool r9.1])⟩, ⟨[(6, .bool r7.2.1)], some (26, .bool r7.2.1)⟩, ⟨[(26, .bool r7.2.1)], some (27, .bool r7.2.1)⟩, ⟨[(27, .bool r7.2.1)], some (28, undef)⟩, ⟨[(27, .bool r7.2.1)], some (29, undef)⟩, ⟨[(27, .bool r7.2.1), (29, undef)], some (30, .bool false)⟩, ⟨[(30, .bool false)], some (31, .bool false)⟩, ⟨[(31, .bool false)], some (32, undef)⟩, ⟨[(31, .bool false)], some (33, undef)⟩, ⟨[(31, .bool false)], some (34, undef)⟩, ⟨[(31, .bool false)], some (35, undef)⟩, ⟨[(31, .bool false), (35, undef)], some (36, .bool false)⟩, ⟨[(36, .bool false)], some (37, .bool false)⟩, ⟨[(37, .bool false)], some (38, undef)⟩, ⟨[(37, .bool false)], some (39, undef)⟩, ⟨[(37, .bool false)], some (40, undef)⟩, ⟨[(37, .bool false)], some (41, undef)⟩, ⟨[(37, .bool false)], some (42, undef)⟩, ⟨[(37, .bool false)], some (43, undef)⟩, ⟨[(37, .bool false), (43, undef)], some (44, .bool false)⟩, ⟨[(2, ptr b1 0), (25, .agg #[str r7.1, str s17, .bool r9.1])], none⟩, ⟨[(44, .bool false)], some (3, .bool false)⟩]) () [20] [3, 4, 7, 8, 9, 10, 13, 14, 15, 16, 17, 18] ⟨g_none rfl rfl, ⟨g_none rfl rfl, ⟨g_none rfl rfl, ⟨g_some (u := fun σ => r7.2.1) rfl (fun σ => rfl) rfl (fun σ => rfl) (fun σ => by rw [hc18] <;> rfl), ⟨g_some (u := fun σ => r7.2.1) rfl (fun σ => rfl) rfl (fun σ => rfl) (fun σ => by rw [hc18] <;> rfl), ⟨g_none rfl rfl, ⟨g_none rfl rfl, ⟨g_some (u := fun σ => false) rfl (fun σ => rfl) rfl (fun σ => rfl) (fun σ => rfl), ⟨g_some (u := fun σ => false) rfl (fun σ => rfl) rfl (fun σ => rfl) (fun σ => rfl), ⟨g_some (u := fun σ => false) rfl (fun σ => rfl) rfl (fun σ => rfl) (fun σ => rfl), ⟨g_some (u := fun σ => false) rfl (fun σ => rfl) rfl (fun σ => rfl) (fun σ => rfl), ⟨g_none rfl rfl, ⟨g_none rfl rfl, ⟨g_some (u := fun σ => false) rfl (fun σ => rfl) rfl (fun σ => rfl) (fun σ => rfl), ⟨g_some (u := fun σ => false) rfl (fun σ => rfl) rfl (fun σ => rfl) (fun σ => rfl), ⟨g_some (u := fun σ => false) rfl (fun σ => rfl) rfl (fun σ => rfl) (fun σ => rfl), ⟨g_some (u := fun σ => false) rfl (fun σ => rfl) rfl (fun σ => rfl) (fun σ => rfl), ⟨g_some (u := fun σ => false) rfl (fun σ => rfl) rfl (fun σ => rfl) (fun σ => rfl), ⟨g_some (u := fun σ => false) rfl (fun σ => rfl) rfl (fun σ => rfl) (fun σ => rfl), ⟨g_none rfl rfl, ⟨g_none rfl rfl, ⟨g_none rfl rfl, trivial⟩⟩⟩⟩⟩⟩⟩⟩⟩⟩⟩⟩⟩⟩⟩⟩⟩⟩⟩⟩⟩⟩ (fun σ => ⟨.inl rfl, ⟨.inl rfl, ⟨.inl rfl, ⟨.inr ⟨rfl, rfl⟩, ⟨.inr ⟨rfl, rfl⟩, ⟨.inl rfl, ⟨.inl rfl, ⟨.inr ⟨rfl, rfl⟩, ⟨.inr ⟨rfl, rfl⟩, ⟨.inr ⟨rfl, rfl⟩, ⟨.inr ⟨rfl, rfl⟩, ⟨.inl rfl, ⟨.inl rfl, ⟨.inr ⟨rfl, rfl⟩, ⟨.inr ⟨rfl, rfl⟩, ⟨.inr ⟨rfl, rfl⟩, ⟨.inr ⟨rfl, rfl⟩, ⟨.inr ⟨rfl, rfl⟩, ⟨.inr ⟨rfl, rfl⟩, ⟨.inl rfl, ⟨.inl rfl, ⟨.inl rfl, trivial⟩⟩⟩⟩⟩⟩⟩⟩⟩⟩⟩⟩⟩⟩⟩⟩⟩⟩⟩⟩⟩⟩) (fun _ => rfl) (fun _ => rfl) (fun _ => rfl) rfl rfl (by decide) rfl hO.drew (hf.cons rfl (hf.cons rfl (hf.cons rfl (hf.cons rfl hf.nil)))) (fun σ => ⟨⟨rfl, trivial⟩, ⟨⟨rfl, trivial⟩, ⟨⟨rfl, trivial⟩, ⟨⟨rfl, trivial⟩, ⟨⟨rfl, trivial⟩, ⟨⟨rfl, ⟨rfl, trivial⟩⟩, ⟨⟨rfl, trivial⟩, ⟨⟨rfl, trivial⟩, ⟨⟨rfl, trivial⟩, ⟨⟨rfl, trivial⟩, ⟨⟨rfl, trivial⟩, ⟨⟨rfl, ⟨rfl, trivial⟩⟩, ⟨⟨rfl, trivial⟩, ⟨⟨rfl, trivial⟩, ⟨⟨rfl, trivial⟩, ⟨⟨rfl, trivial⟩, ⟨⟨rfl, trivial⟩, ⟨⟨rfl, trivial⟩, ⟨⟨rfl, trivial⟩, ⟨⟨rfl, ⟨rfl, trivial⟩⟩, ⟨⟨rfl, ⟨rfl, trivial⟩⟩, ⟨⟨rfl, trivial⟩, trivial⟩⟩⟩⟩⟩⟩⟩⟩⟩⟩⟩⟩⟩⟩⟩⟩⟩⟩⟩⟩⟩⟩) ⟨.inr ⟨rfl, sS_pure rfl (fun σ => rfl) (fun σ => rfl) (fun σ a w k hk hlo hup hst hf => match k, hk, hlo, hup, hst, hf with | 0, _, _, _, hst, hf => have hO : Dk.Own w0 [] w [.blk b5 [str s15, int i16] 79, .blk b10 [str r7.1, str s17, .bool r9.1] 31, .blk b1 [str [], str [], .bool false] 31] := hst; ex_loadN (o := 0) (vs := [str r7.1, str s17, .bool r9.1]) ag_31 sz_31 (hO.blkSees (i := 1) rfl) rfl rfl hf rfl | 1, _, _, _, hst, hf => have hO : Dk.Own w0 [] w [.blk b5 [str s15, int i16] 79, .blk b10 [str r7.1, str s17, .bool r9.1] 31, .blk b1 [str r7.1, str s17, .bool r9.1] 31] := hst; ex_loadN (o := 0) (vs := [str r7.1, str s17, .bool r9.1]) ag_31 sz_31 (hO.blkSees (i := 1) rfl) rfl rfl hf rfl | k + 2, hk, _, _, _, _ => absurd hk (by simp))⟩, ⟨.inr ⟨rfl, sS_pure rfl (fun σ => rfl) (fun σ => rfl) (fun σ a w k _ _ _ _ hf => ex_move hf rfl)⟩, ⟨.inr ⟨rfl, sS_pure rfl (fun σ => rfl) (fun σ => rfl) (fun σ a w k _ _ _ _ hf => ex_move hf rfl)⟩, ⟨.inl rfl, ⟨.inl rfl, ⟨.inr ⟨rfl, sS_pure rfl (fun σ => rfl) (fun σ => rfl) (fun σ a w k _ _ _ _ hf => ex_pick_f hf rfl hc18 rfl)⟩, ⟨.inr ⟨rfl, sS_pure rfl (fun σ => rfl) (fun σ => rfl) (fun σ a w k _ _ _ _ hf => ex_move hf rfl)⟩, ⟨.inl rfl, ⟨.inl rfl, ⟨.inl rfl, ⟨.inl rfl, ⟨.inr ⟨rfl, sS_pure rfl (fun σ => rfl) (fun σ => rfl) (fun σ a w k _ _ _ _ hf => ex_pick_f hf rfl rfl rfl)⟩, ⟨.inr ⟨rfl, sS_pure rfl (fun σ => rfl) (fun σ => rfl) (fun σ a w k _ _ _ _ hf => ex_move hf rfl)⟩, ⟨.inl rfl, ⟨.inl rfl, ⟨.inl rfl, ⟨.inl rfl, ⟨.inl rfl, ⟨.inl rfl, ⟨.inr ⟨rfl, sS_pure rfl (fun σ => rfl) (fun σ => rfl) (fun σ a w k _ _ _ _ hf => ex_pick_f hf rfl rfl rfl)⟩, ⟨.inr ⟨rfl, sS_skip rfl (fun σ => rfl) (fun σ => rfl) rfl (fun σ w (hO : Dk.Own w0 [] w [.blk b5 [str s15, int i16] 79, .blk b10 [str r7.1, str s17, .bool r9.1] 31, .blk b1 [str [], str [], .bool false] 31]) => by obtain ⟨w', hO', hr⟩ := ef_storeN (x := (.tmp 2)) (y := (.tmp 25)) (E := [(2, ptr b1 0), (25, .agg #[str r7.1, str s17, .bool r9.1])]) (i := 2) (n := 3) (vs := [str r7.1, str s17, .bool r9.1]) sz_31 rfl rfl rfl (by simp [Value.oneCell']) hO rfl rfl; exact ⟨(), w', hO', ⟨.inr rfl, ⟨.inr rfl, ⟨.inr rfl, ⟨.inr rfl, ⟨.inr rfl, ⟨.inr rfl, ⟨.inr rfl, ⟨.inr rfl, ⟨.inr rfl, ⟨.inr rfl, ⟨.inr rfl, ⟨.inr rfl, ⟨.inr rfl, ⟨.inr rfl, ⟨.inr rfl, ⟨.inr rfl, ⟨.inr rfl, ⟨.inr rfl, ⟨.inr rfl, ⟨.inr rfl, ⟨.inr rfl, ⟨.inr rfl, trivial⟩⟩⟩⟩⟩⟩⟩⟩⟩⟩⟩⟩⟩⟩⟩⟩⟩⟩⟩⟩⟩⟩, hr⟩)⟩, ⟨.inr ⟨rfl, sS_pure rfl (fun σ => rfl) (fun σ => rfl) (fun σ a w k _ _ _ _ hf => ex_assign hf rfl)⟩, trivial⟩⟩⟩⟩⟩⟩⟩⟩⟩⟩⟩⟩⟩⟩⟩⟩⟩⟩⟩⟩⟩⟩ ?_
        rintro _ a w hf hO
        have hO : Dk.Own w0 [] w [.blk b5 [str s15, int i16] 79, .blk b10 [str r7.1, str s17, .bool r9.1] 31, .blk b1 [str r7.1, str s17, .bool r9.1] 31] := hO
        have hf : Fits 45 [(2, ptr b1 0), (3, .bool false)] a := (hf.cons rfl (hf.cons rfl hf.nil))
        refine nor_then ?_
        exact ⟨false, (hf.cons rfl (hf.cons rfl hf.nil)), hO, hm⟩
    · rintro a w ⟨t25, hf, hO, hm⟩
      rw [cookie_part_j2] at hm
      refine wp_ret ?_
      obtain rfl := Option.some.inj hm
      exact post_ret Tryd.results30 hf (.cell rfl (run_loadVarN (n := 3) (vs := [str r7.1, str s17, .bool r9.1]) ag_31 sz_31 rfl ((hO.blkSees (i := 2) rfl).cells (o := 0) (n := 3) rfl)) (.tmp rfl .nil)) ⟨rfl, hO.below⟩

set_option maxHeartbeats 1000000 in
theorem w_stringslite_HasPrefix (x_s : Str) (x_prefix : Str) (R : Bool) (w0 : World) (hG : Glob w0) (hm : stringslite_HasPrefix x_s x_prefix = some R) :
    Calls Tryd.prog 96 #[str x_s, str x_prefix] w0 fun e w' => e = .returned (.bool R) ∧ Below w0.heap.size w0 w' := by
  rw [stringslite_HasPrefix] at hm
  refine calls_enter (vs := [str x_s, str x_prefix]) Tryd.func96 rfl Tryd.ntmps96 rfl fun a hf => ?_
  have hF : Away [] := away_nil
  have hO : Dk.Own w0 [] w0 [] := Dk.Own.refl w0
  refine wp_seq_k fun _ hK1 => ?_
  refine wp_region_list ?_
  refine op_val (ex_assign hf rfl) rfl hf rfl rfl fun a hf => ?_
  refine wpList_nil ?_
  refine nor_then (hK1 _ _ ?_)
  refine wp_seq_cut (fun a w => ∃ (t4 : Bool), Fits 18 [(4, .bool t4)] a ∧ Dk.Own w0 [] w [] ∧ stringslite_HasPrefix_j1 t4 = some R) ?_ ?_
  · refine wp_region_list ?_
    refine op_val (ex_move hf rfl) rfl hf rfl rfl fun a hf => ?_
    refine op_val (ex_len_s (l := x_s) Tryd.underlying9 hf rfl) rfl hf rfl rfl fun a hf => ?_
    refine op_val (ex_move hf rfl) rfl hf rfl rfl fun a hf => ?_
    refine op_val (ex_len_s (l := x_prefix) Tryd.underlying9 hf rfl) rfl hf rfl rfl fun a hf => ?_
    refine op_val (ex_geq (m := (x_s.length : Int)) (n := (x_prefix.length : Int)) hf rfl rfl) rfl hf rfl rfl fun a hf => ?_
    refine op_val (ex_move hf rfl) rfl hf rfl rfl fun a hf => ?_
    rcases bcase (decide ((x_prefix.length : Int) ≤ (x_s.length : Int))) with hc2 | hc2
    · have hm := it hc2 hm
      refine op_guard rfl hf rfl rfl (hc2) ?_
      refine op_val (ex_move hf rfl) rfl hf rfl rfl fun a hf => ?_
      refine op_guard rfl hf rfl rfl (hc2) ?_
      refine op_val (ex_move hf rfl) rfl hf rfl rfl fun a hf => ?_
      refine op_guard rfl hf rfl rfl (hc2) ?_
      refine op_val (ex_len_s (l := x_prefix) Tryd.underlying9 hf rfl) rfl hf rfl rfl fun a hf => ?_
      refine op_guard rfl hf rfl rfl (hc2) ?_
      obtain ⟨s3, hs3, hm⟩ := ob hm
      refine op_val (ex_to_s (l := x_s) Tryd.underlying9 hf rfl rfl hs3) rfl hf rfl rfl fun a hf => ?_
      refine op_guard rfl hf rfl rfl (hc2) ?_
      refine op_val (ex_move hf rfl) rfl hf rfl rfl fun a hf => ?_
      refine op_guard rfl hf rfl rfl (hc2) ?_
      refine op_val (ex_eql_s (l := s3) (m := x_prefix) hf rfl rfl) rfl hf rfl rfl fun a hf => ?_
      refine op_val (ex_pick_t hf rfl hc2 rfl) rfl hf rfl rfl fun a hf => ?_
      refine op_val (ex_assign hf rfl) rfl hf rfl rfl fun a hf => ?_
      refine wpList_nil ?_
      refine nor_then ?_
      exact ⟨s3 == x_prefix, (hf.cons rfl hf.nil), hO, hm⟩
    · have hm := ie hc2 hm
      refine op_pass rfl hf rfl rfl (hc2) rfl rfl fun a hf => ?_
      refine op_pass rfl hf rfl rfl (hc2) rfl rfl fun a hf => ?_
      refine op_pass rfl hf rfl rfl (hc2) rfl rfl fun a hf => ?_
      refine op_pass rfl hf rfl rfl (hc2) rfl rfl fun a hf => ?_
      refine op_pass rfl hf rfl rfl (hc2) rfl rfl fun a hf => ?_
      refine op_pass rfl hf rfl rfl (hc2) rfl rfl fun a hf => ?_
      refine op_val (ex_pick_f hf rfl hc2 rfl) rfl hf rfl rfl fun a hf => ?_
      refine op_val (ex_assign hf rfl) rfl hf rfl rfl fun a hf => ?_
      refine wpList_nil ?_
      refine nor_then ?_
      exact ⟨false, (hf.cons rfl hf.nil), hO, hm⟩
  · rintro a w ⟨t4, hf, hO, hm⟩
    rw [stringslite_HasPrefix_j1] at hm
    refine wp_ret ?_
    obtain rfl := Option.some.inj hm
    exact post_ret Tryd.results96 hf (.tmp rfl .nil) ⟨rfl, hO.below⟩

end Go.Proofs
