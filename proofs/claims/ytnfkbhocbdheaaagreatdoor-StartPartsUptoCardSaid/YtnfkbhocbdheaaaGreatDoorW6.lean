/-
  Walks, written by a program (wip/gen): what its model says, the function returns; what was there before is as it was.
-/
import Derived.Test.YtnfkbhocbdheaaaGreatDoorLib
import Derived.Test.YtnfkbhocbdheaaaGreatDoorW0
import Derived.Test.YtnfkbhocbdheaaaGreatDoorW2
import Derived.Test.YtnfkbhocbdheaaaGreatDoorW1
set_option linter.unusedVariables false
set_option linter.unusedSimpArgs false
set_option maxRecDepth 100000
namespace Go.Proofs
open Go.Dk Go.Dm Go.RowKit

set_option maxHeartbeats 1000000 in
theorem w_strings_ContainsAny (x_s : Str) (x_chars : Str) (R : Bool) (w0 : World) (hG : Glob w0) (hm : strings_ContainsAny x_s x_chars = some R) :
    Calls Tryz.prog 41 #[str x_s, str x_chars] w0 fun e w' => e = .returned (.bool R) ∧ Below w0.heap.size w0 w' := by
  rw [strings_ContainsAny] at hm
  refine calls_enter (vs := [str x_s, str x_chars]) Tryz.func41 rfl Tryz.ntmps41 rfl fun a hf => ?_
  have hF : Away [] := away_nil
  have hO : Dk.Own w0 [] w0 [] := Dk.Own.refl w0
  refine wp_seq_k fun _ hK1 => ?_
  refine wp_region_list ?_
  refine op_val (ex_assign hf rfl) rfl hf rfl rfl fun a hf => ?_
  refine wpList_nil ?_
  refine nor_then (hK1 _ _ ?_)
  refine wp_seq_k fun _ hK3 => ?_
  refine wp_region_list ?_
  refine op_val (ex_move hf rfl) rfl hf rfl rfl fun a hf => ?_
  refine op_val (ex_move hf rfl) rfl hf rfl rfl fun a hf => ?_
  obtain ⟨r2, hr2, hm⟩ := ob hm
  refine op_enter (ex_call c_73 hf (vs := [str x_s, str x_chars]) rfl) rfl hf rfl rfl (w_strings_IndexAny x_s x_chars r2 _ (hG.own hF hO) hr2) ?_
  rintro e w' ⟨he, hb⟩
  refine ⟨_, he, fun a hf => ?_⟩
  have hO := hO.grow hb
  refine op_val (ex_geq (m := r2) (n := 0) hf rfl rfl) rfl hf rfl rfl fun a hf => ?_
  refine op_val (ex_assign hf rfl) rfl hf rfl rfl fun a hf => ?_
  refine wpList_nil ?_
  refine nor_then (hK3 _ _ ?_)
  refine wp_ret ?_
  obtain rfl := Option.some.inj hm
  exact post_ret Tryz.results41 hf (.tmp rfl .nil) ⟨rfl, hO.below⟩

set_option maxHeartbeats 1000000 in
theorem w_scan_New (x_s : Str) (R : scan_Scanner) (w0 : World) (hG : Glob w0) (hm : scan_New x_s = some R) :
    Calls Tryz.prog 75 #[str x_s] w0 fun e w' => ∃ (b0 : Nat), e = .returned (ptr b0 0) ∧ Dk.Own w0 [] w' [.blk b0 [str R.f_s, int R.f_at] 145] := by
  rw [scan_New] at hm
  refine calls_enter (vs := [str x_s]) Tryz.func75 rfl Tryz.ntmps75 rfl fun a hf => ?_
  have hF : Away [] := away_nil
  have hO : Dk.Own w0 [] w0 [] := Dk.Own.refl w0
  refine wp_seq_k fun _ hK1 => ?_
  refine wp_region_list ?_
  refine op_val (ex_assign hf rfl) rfl hf rfl rfl fun a hf => ?_
  refine wpList_nil ?_
  refine nor_then (hK1 _ _ ?_)
  refine wp_seq_k fun _ hK3 => ?_
  refine wp_region_list ?_
  refine op_val (ex_move hf rfl) rfl hf rfl rfl fun a hf => ?_
  refine op_val (ex_build (vs := [(0, str x_s)]) (v := .agg #[str x_s, int 0]) hf rfl (by kernel_rfl)) rfl hf rfl rfl fun a hf => ?_
  refine op_box (v := .agg #[str x_s, int 0]) (cs := [str x_s, int 0]) rfl hf rfl rfl hO fun a b2 w hf hO => ?_
  refine op_val (ex_assign hf rfl) rfl hf rfl rfl fun a hf => ?_
  refine wpList_nil ?_
  refine nor_then (hK3 _ _ ?_)
  refine wp_ret ?_
  obtain rfl := Option.some.inj hm
  exact post_ret Tryz.results75 hf (.tmp rfl .nil) ⟨b2, rfl, hO⟩

set_option maxHeartbeats 1000000 in
theorem w_scan_Scanner_Rest (x_c : scan_Scanner) (R : Str) (w0 : World) (hG : Glob w0) {x_c_b0 : Nat} (hs0 : Sees w0 (some ⟨x_c_b0, 0, none⟩) [str x_c.f_s, int x_c.f_at]) (hm : scan_Scanner_Rest x_c = some R) :
    Calls Tryz.prog 86 #[ptr x_c_b0 0] w0 fun e w' => e = .returned (str R) ∧ Below w0.heap.size w0 w' := by
  rw [scan_Scanner_Rest] at hm
  refine calls_enter (vs := [ptr x_c_b0 0]) Tryz.func86 rfl Tryz.ntmps86 rfl fun a hf => ?_
  have hF : Away [] := away_nil
  have hO : Dk.Own w0 [] w0 [] := Dk.Own.refl w0
  have hO := hO.addShr hs0 (by simp [Res.shared])
  refine wp_seq_k fun _ hK1 => ?_
  refine wp_region_list ?_
  refine op_val (ex_assign hf rfl) rfl hf rfl rfl fun a hf => ?_
  refine wpList_nil ?_
  refine nor_then (hK1 _ _ ?_)
  refine wp_seq_k fun _ hK3 => ?_
  refine wp_seq_k fun _ hK2 => ?_
  refine wp_region_list ?_
  refine op_val (ex_move hf rfl) rfl hf rfl rfl fun a hf => ?_
  refine op_val (ex_eql_pn Tryz.underlying99 hf rfl rfl) rfl hf rfl rfl fun a hf => ?_
  refine wpList_nil ?_
  refine nor_then (hK2 _ _ ?_)
  refine wp_cond_f hf rfl rfl ?_
  refine wp_skip ?_
  refine nor_then (hK3 _ _ ?_)
  refine wp_seq_k fun _ hK5 => ?_
  refine wp_quiet (by kernel_rfl) (by kernel_rfl) hO ?_
  refine q_val (fun w hO => ex_move hf rfl) rfl hf rfl rfl fun a hf => ?_
  refine q_val (fun w hO => ex_nilCheck hf rfl) rfl hf rfl rfl fun a hf => ?_
  refine q_val (fun w hO => ex_field fa_145_0 hf rfl) rfl hf rfl rfl fun a hf => ?_
  refine q_val (fun w hO => ex_load1 (o := 0) ag_9 (hO.sees (i := 0) rfl) rfl hf rfl) rfl hf rfl rfl fun a hf => ?_
  refine q_val (fun w hO => ex_move hf rfl) rfl hf rfl rfl fun a hf => ?_
  refine q_val (fun w hO => ex_nilCheck hf rfl) rfl hf rfl rfl fun a hf => ?_
  refine q_val (fun w hO => ex_field fa_145_1 hf rfl) rfl hf rfl rfl fun a hf => ?_
  refine q_val (fun w hO => ex_load1 (o := 1) ag_3 (hO.sees (i := 0) rfl) rfl hf rfl) rfl hf rfl rfl fun a hf => ?_
  obtain ⟨s4, hs4, hm⟩ := ob hm
  refine q_val (fun w hO => ex_from_s (l := x_c.f_s) Tryz.underlying9 hf rfl rfl hs4) rfl hf rfl rfl fun a hf => ?_
  refine q_val (fun w hO => ex_assign hf rfl) rfl hf rfl rfl fun a hf => ?_
  refine wpQuiet_nil ?_
  intro w hO
  refine nor_then (hK5 _ _ ?_)
  refine wp_ret ?_
  obtain rfl := Option.some.inj hm
  exact post_ret Tryz.results86 hf (.tmp rfl .nil) ⟨rfl, hO.below⟩

set_option maxHeartbeats 1000000 in
theorem w_scan_Scanner_Text (x_c : scan_Scanner) (x_t : Str) (R : Bool × scan_Scanner) (w0 : World) (hG : Glob w0) {x_c_b0 : Nat} {F : List Nat} (hF : Away F) (hO : Dk.Own w0 F w0 [.blk x_c_b0 [str x_c.f_s, int x_c.f_at] 145]) (hm : scan_Scanner_Text x_c x_t = some R) :
    Calls Tryz.prog 155 #[ptr x_c_b0 0, str x_t] w0 fun e w' => e = .returned (.bool R.1) ∧ Dk.Own w0 F w' [.blk x_c_b0 [str R.2.f_s, int R.2.f_at] 145] := by
  rw [scan_Scanner_Text] at hm
  refine calls_enter (vs := [ptr x_c_b0 0, str x_t]) Tryz.func155 rfl Tryz.ntmps155 rfl fun a hf => ?_
  refine wp_seq_k fun _ hK1 => ?_
  refine wp_region_list ?_
  refine op_val (ex_assign hf rfl) rfl hf rfl rfl fun a hf => ?_
  refine wpList_nil ?_
  refine nor_then (hK1 _ _ ?_)
  refine wp_seq_k fun _ hK7 => ?_
  refine wp_seq_k fun _ hK4 => ?_
  refine wp_region_list ?_
  refine op_val (ex_move hf rfl) rfl hf rfl rfl fun a hf => ?_
  obtain ⟨r2, hr2, hm⟩ := ob hm
  refine op_enter (ex_call c_86 hf (vs := [ptr x_c_b0 0]) rfl) rfl hf rfl rfl (w_scan_Scanner_Rest x_c r2 _ (hG.own hF hO) (hO.blkSees (i := 0) rfl) hr2) ?_
  rintro e w' ⟨he, hb⟩
  refine ⟨_, he, fun a hf => ?_⟩
  have hO := hO.grow hb
  refine op_val (ex_move hf rfl) rfl hf rfl rfl fun a hf => ?_
  obtain ⟨r3, hr3, hm⟩ := ob hm
  refine op_enter (ex_call c_62 hf (vs := [str r2, str x_t]) rfl) rfl hf rfl rfl (w_strings_HasPrefix r2 x_t r3 _ (hG.own hF hO) hr3) ?_
  rintro e w' ⟨he, hb⟩
  refine ⟨_, he, fun a hf => ?_⟩
  have hO := hO.grow hb
  refine op_val (ex_not hf rfl) rfl hf rfl rfl fun a hf => ?_
  refine wpList_nil ?_
  refine nor_then (hK4 _ _ ?_)
  refine wp_cond_cut hf rfl (fun hc5 => ?_) (fun hc5 => ?_)
  · have hm := it hc5 hm
    refine wp_seq_k fun _ hK6 => ?_
    refine wp_region_list ?_
    refine op_val (ex_assign hf rfl) rfl hf rfl rfl fun a hf => ?_
    refine wpList_nil ?_
    refine nor_then (hK6 _ _ ?_)
    refine wp_ret ?_
    refine ret_then ?_
    obtain rfl := Option.some.inj hm
    exact post_ret Tryz.results155 hf (.tmp rfl .nil) ⟨rfl, hO⟩
  · have hm := ie hc5 hm
    refine wp_skip ?_
    refine nor_then (hK7 _ _ ?_)
    refine wp_seq_k fun _ hK10 => ?_
    refine wp_seq_k fun _ hK8 => ?_
    refine wp_region_list ?_
    refine op_val (ex_move hf rfl) rfl hf rfl rfl fun a hf => ?_
    refine op_val (ex_neq_pn Tryz.underlying99 hf rfl rfl) rfl hf rfl rfl fun a hf => ?_
    refine wpList_nil ?_
    refine nor_then (hK8 _ _ ?_)
    refine wp_cond_t hf rfl rfl ?_
    refine wp_region_list ?_
    refine op_val (ex_move hf rfl) rfl hf rfl rfl fun a hf => ?_
    refine op_val (ex_nilCheck hf rfl) rfl hf rfl rfl fun a hf => ?_
    refine op_val (ex_field fa_145_1 hf rfl) rfl hf rfl rfl fun a hf => ?_
    refine op_val (ex_load1 (o := 1) ag_3 (hO.blkSees (i := 0) rfl) rfl hf rfl) rfl hf rfl rfl fun a hf => ?_
    refine op_val (ex_move hf rfl) rfl hf rfl rfl fun a hf => ?_
    refine op_val (ex_len_s (l := x_t) Tryz.underlying9 hf rfl) rfl hf rfl rfl fun a hf => ?_
    obtain ⟨i9, hi9, hm⟩ := ob hm
    refine op_val (ex_add hf rfl rfl hi9) rfl hf rfl rfl fun a hf => ?_
    refine op_val (ex_nilCheck hf rfl) rfl hf rfl rfl fun a hf => ?_
    refine op_val (ex_field fa_145_1 hf rfl) rfl hf rfl rfl fun a hf => ?_
    refine op_store1 (i := 0) (o := 1) (v := int i9) sz_3 rfl rfl rfl rfl hf rfl rfl hO fun w hO => ?_
    refine wpList_nil ?_
    refine nor_then (hK10 _ _ ?_)
    refine wp_seq_k fun _ hK11 => ?_
    refine wp_region_list ?_
    refine op_val (ex_assign hf rfl) rfl hf rfl rfl fun a hf => ?_
    refine wpList_nil ?_
    refine nor_then (hK11 _ _ ?_)
    refine wp_ret ?_
    obtain rfl := Option.some.inj hm
    exact post_ret Tryz.results155 hf (.tmp rfl .nil) ⟨rfl, hO⟩

set_option maxHeartbeats 1000000 in
theorem w_scan_Scanner_End (x_c : scan_Scanner) (R : Bool) (w0 : World) (hG : Glob w0) {x_c_b0 : Nat} (hs0 : Sees w0 (some ⟨x_c_b0, 0, none⟩) [str x_c.f_s, int x_c.f_at]) (hm : scan_Scanner_End x_c = some R) :
    Calls Tryz.prog 81 #[ptr x_c_b0 0] w0 fun e w' => e = .returned (.bool R) ∧ Below w0.heap.size w0 w' := by
  rw [scan_Scanner_End] at hm
  refine calls_enter (vs := [ptr x_c_b0 0]) Tryz.func81 rfl Tryz.ntmps81 rfl fun a hf => ?_
  have hF : Away [] := away_nil
  have hO : Dk.Own w0 [] w0 [] := Dk.Own.refl w0
  have hO := hO.addShr hs0 (by simp [Res.shared])
  refine wp_seq_k fun _ hK1 => ?_
  refine wp_region_list ?_
  refine op_val (ex_assign hf rfl) rfl hf rfl rfl fun a hf => ?_
  refine wpList_nil ?_
  refine nor_then (hK1 _ _ ?_)
  refine wp_seq_k fun _ hK3 => ?_
  refine wp_region_list ?_
  refine op_val (ex_move hf rfl) rfl hf rfl rfl fun a hf => ?_
  obtain ⟨r2, hr2, hm⟩ := ob hm
  refine op_enter (ex_call c_86 hf (vs := [ptr x_c_b0 0]) rfl) rfl hf rfl rfl (w_scan_Scanner_Rest x_c r2 _ (hG.own hF hO) (hO.sees (i := 0) rfl) hr2) ?_
  rintro e w' ⟨he, hb⟩
  refine ⟨_, he, fun a hf => ?_⟩
  have hO := hO.grow hb
  refine op_val (ex_eql_s (l := r2) (m := []) hf rfl rfl) rfl hf rfl rfl fun a hf => ?_
  refine op_val (ex_assign hf rfl) rfl hf rfl rfl fun a hf => ?_
  refine wpList_nil ?_
  refine nor_then (hK3 _ _ ?_)
  refine wp_ret ?_
  obtain rfl := Option.some.inj hm
  exact post_ret Tryz.results81 hf (.tmp rfl .nil) ⟨rfl, hO.below⟩

set_option maxHeartbeats 1000000 in
theorem w_scan_Scanner_Peek (x_c : scan_Scanner) (R : UInt8 × Bool) (w0 : World) (hG : Glob w0) {x_c_b0 : Nat} (hs0 : Sees w0 (some ⟨x_c_b0, 0, none⟩) [str x_c.f_s, int x_c.f_at]) (hm : scan_Scanner_Peek x_c = some R) :
    Calls Tryz.prog 122 #[ptr x_c_b0 0] w0 fun e w' => e = .returned (.tuple #[byte R.1, .bool R.2]) ∧ Below w0.heap.size w0 w' := by
  rw [scan_Scanner_Peek] at hm
  refine calls_enter (vs := [ptr x_c_b0 0]) Tryz.func122 rfl Tryz.ntmps122 rfl fun a hf => ?_
  have hF : Away [] := away_nil
  have hO : Dk.Own w0 [] w0 [] := Dk.Own.refl w0
  have hO := hO.addShr hs0 (by simp [Res.shared])
  refine wp_seq_k fun _ hK1 => ?_
  refine wp_region_list ?_
  refine op_val (ex_assign hf rfl) rfl hf rfl rfl fun a hf => ?_
  refine op_val (ex_assign hf rfl) rfl hf rfl rfl fun a hf => ?_
  refine wpList_nil ?_
  refine nor_then (hK1 _ _ ?_)
  refine wp_seq_k fun _ hK6 => ?_
  refine wp_seq_k fun _ hK3 => ?_
  refine wp_region_list ?_
  refine op_val (ex_move hf rfl) rfl hf rfl rfl fun a hf => ?_
  obtain ⟨r2, hr2, hm⟩ := ob hm
  refine op_enter (ex_call c_81 hf (vs := [ptr x_c_b0 0]) rfl) rfl hf rfl rfl (w_scan_Scanner_End x_c r2 _ (hG.own hF hO) (hO.sees (i := 0) rfl) hr2) ?_
  rintro e w' ⟨he, hb⟩
  refine ⟨_, he, fun a hf => ?_⟩
  have hO := hO.grow hb
  refine wpList_nil ?_
  refine nor_then (hK3 _ _ ?_)
  refine wp_cond_cut hf rfl (fun hc4 => ?_) (fun hc4 => ?_)
  · have hm := it hc4 hm
    refine wp_seq_k fun _ hK5 => ?_
    refine wp_region_list ?_
    refine op_val (ex_assign hf rfl) rfl hf rfl rfl fun a hf => ?_
    refine op_val (ex_assign hf rfl) rfl hf rfl rfl fun a hf => ?_
    refine wpList_nil ?_
    refine nor_then (hK5 _ _ ?_)
    refine wp_ret ?_
    refine ret_then ?_
    obtain rfl := Option.some.inj hm
    exact post_ret Tryz.results122 hf (.tmp rfl (.tmp rfl .nil)) ⟨rfl, hO.below⟩
  · have hm := ie hc4 hm
    refine wp_skip ?_
    refine nor_then (hK6 _ _ ?_)
    refine wp_seq_k fun _ hK8 => ?_
    refine wp_quiet (by kernel_rfl) (by kernel_rfl) hO ?_
    refine q_val (fun w hO => ex_move hf rfl) rfl hf rfl rfl fun a hf => ?_
    refine q_val (fun w hO => ex_nilCheck hf rfl) rfl hf rfl rfl fun a hf => ?_
    refine q_val (fun w hO => ex_field fa_145_0 hf rfl) rfl hf rfl rfl fun a hf => ?_
    refine q_val (fun w hO => ex_load1 (o := 0) ag_9 (hO.sees (i := 0) rfl) rfl hf rfl) rfl hf rfl rfl fun a hf => ?_
    refine q_val (fun w hO => ex_move hf rfl) rfl hf rfl rfl fun a hf => ?_
    refine q_val (fun w hO => ex_nilCheck hf rfl) rfl hf rfl rfl fun a hf => ?_
    refine q_val (fun w hO => ex_field fa_145_1 hf rfl) rfl hf rfl rfl fun a hf => ?_
    refine q_val (fun w hO => ex_load1 (o := 1) ag_3 (hO.sees (i := 0) rfl) rfl hf rfl) rfl hf rfl rfl fun a hf => ?_
    obtain ⟨b7, hb7, hm⟩ := ob hm
    refine q_val (fun w hO => ex_index (l := x_c.f_s) Tryz.underlying9 hf rfl rfl hb7) rfl hf rfl rfl fun a hf => ?_
    refine q_val (fun w hO => ex_assign hf rfl) rfl hf rfl rfl fun a hf => ?_
    refine q_val (fun w hO => ex_assign hf rfl) rfl hf rfl rfl fun a hf => ?_
    refine wpQuiet_nil ?_
    intro w hO
    refine nor_then (hK8 _ _ ?_)
    refine wp_ret ?_
    obtain rfl := Option.some.inj hm
    exact post_ret Tryz.results122 hf (.tmp rfl (.tmp rfl .nil)) ⟨rfl, hO.below⟩

set_option maxHeartbeats 1000000 in
theorem w_scan_Scanner_Byte (x_c : scan_Scanner) (x_b : UInt8) (R : Bool × scan_Scanner) (w0 : World) (hG : Glob w0) {x_c_b0 : Nat} {F : List Nat} (hF : Away F) (hO : Dk.Own w0 F w0 [.blk x_c_b0 [str x_c.f_s, int x_c.f_at] 145]) (hm : scan_Scanner_Byte x_c x_b = some R) :
    Calls Tryz.prog 77 #[ptr x_c_b0 0, byte x_b] w0 fun e w' => e = .returned (.bool R.1) ∧ Dk.Own w0 F w' [.blk x_c_b0 [str R.2.f_s, int R.2.f_at] 145] := by
  rw [scan_Scanner_Byte] at hm
  refine calls_enter (vs := [ptr x_c_b0 0, byte x_b]) Tryz.func77 rfl Tryz.ntmps77 rfl fun a hf => ?_
  refine wp_seq_k fun _ hK1 => ?_
  refine wp_region_list ?_
  refine op_val (ex_assign hf rfl) rfl hf rfl rfl fun a hf => ?_
  refine wpList_nil ?_
  refine nor_then (hK1 _ _ ?_)
  refine wp_seq_k fun _ hK3 => ?_
  refine wp_region_list ?_
  refine op_val (ex_move hf rfl) rfl hf rfl rfl fun a hf => ?_
  obtain ⟨r2, hr2, hm⟩ := ob hm
  refine op_enter (ex_call c_122 hf (vs := [ptr x_c_b0 0]) rfl) rfl hf rfl rfl (w_scan_Scanner_Peek x_c r2 _ (hG.own hF hO) (hO.blkSees (i := 0) rfl) hr2) ?_
  rintro e w' ⟨he, hb⟩
  refine ⟨_, he, fun a hf => ?_⟩
  have hO := hO.grow hb
  refine op_val (ex_move hf rfl) rfl hf rfl rfl fun a hf => ?_
  refine op_val (ex_extract hf rfl rfl) rfl hf rfl rfl fun a hf => ?_
  refine op_val (ex_extract hf rfl rfl) rfl hf rfl rfl fun a hf => ?_
  refine op_val (ex_assign hf rfl) rfl hf rfl rfl fun a hf => ?_
  refine op_val (ex_assign hf rfl) rfl hf rfl rfl fun a hf => ?_
  refine wpList_nil ?_
  refine nor_then (hK3 _ _ ?_)
  refine wp_seq_k fun _ hK8 => ?_
  refine wp_seq_cut (fun a w => ∃ (t5 : Bool), Fits 26 [(0, ptr x_c_b0 0), (18, .bool t5)] a ∧ Dk.Own w0 F w [.blk x_c_b0 [str x_c.f_s, int x_c.f_at] 145] ∧ scan_Scanner_Byte_j1 x_c t5 = some R) ?_ ?_
  · refine wp_region_list ?_
    refine op_val (ex_move hf rfl) rfl hf rfl rfl fun a hf => ?_
    refine op_val (ex_not hf rfl) rfl hf rfl rfl fun a hf => ?_
    refine op_val (ex_move hf rfl) rfl hf rfl rfl fun a hf => ?_
    rcases bcase (!r2.2) with hc4 | hc4
    · have hm := it hc4 hm
      refine op_pass rfl hf rfl rfl (hc4) rfl rfl fun a hf => ?_
      refine op_pass rfl hf rfl rfl (hc4) rfl rfl fun a hf => ?_
      refine op_pass rfl hf rfl rfl (hc4) rfl rfl fun a hf => ?_
      refine op_val (ex_pick_t hf rfl hc4 rfl) rfl hf rfl rfl fun a hf => ?_
      refine wpList_nil ?_
      refine nor_then ?_
      exact ⟨true, (hf.cons rfl (hf.cons rfl hf.nil)), hO, hm⟩
    · have hm := ie hc4 hm
      refine op_guard rfl hf rfl rfl (hc4) ?_
      refine op_val (ex_move hf rfl) rfl hf rfl rfl fun a hf => ?_
      refine op_guard rfl hf rfl rfl (hc4) ?_
      refine op_val (ex_move hf rfl) rfl hf rfl rfl fun a hf => ?_
      refine op_guard rfl hf rfl rfl (hc4) ?_
      refine op_val (ex_neq_b (b := r2.1) (c := x_b) hf rfl rfl) rfl hf rfl rfl fun a hf => ?_
      refine op_val (ex_pick_f hf rfl hc4 rfl) rfl hf rfl rfl fun a hf => ?_
      refine wpList_nil ?_
      refine nor_then ?_
      exact ⟨!(r2.1 == x_b), (hf.cons rfl (hf.cons rfl hf.nil)), hO, hm⟩
  · rintro a w ⟨t5, hf, hO, hm⟩
    rw [scan_Scanner_Byte_j1] at hm
    refine wp_cond_cut hf rfl (fun hc6 => ?_) (fun hc6 => ?_)
    · have hm := it hc6 hm
      refine wp_seq_k fun _ hK7 => ?_
      refine wp_region_list ?_
      refine op_val (ex_assign hf rfl) rfl hf rfl rfl fun a hf => ?_
      refine wpList_nil ?_
      refine nor_then (hK7 _ _ ?_)
      refine wp_ret ?_
      refine ret_then ?_
      obtain rfl := Option.some.inj hm
      exact post_ret Tryz.results77 hf (.tmp rfl .nil) ⟨rfl, hO⟩
    · have hm := ie hc6 hm
      refine wp_skip ?_
      refine nor_then (hK8 _ _ ?_)
      refine wp_seq_k fun _ hK10 => ?_
      refine wp_region_list ?_
      refine op_val (ex_move hf rfl) rfl hf rfl rfl fun a hf => ?_
      refine op_val (ex_nilCheck hf rfl) rfl hf rfl rfl fun a hf => ?_
      refine op_val (ex_field fa_145_1 hf rfl) rfl hf rfl rfl fun a hf => ?_
      refine op_val (ex_load1 (o := 1) ag_3 (hO.blkSees (i := 0) rfl) rfl hf rfl) rfl hf rfl rfl fun a hf => ?_
      obtain ⟨i9, hi9, hm⟩ := ob hm
      refine op_val (ex_add hf rfl rfl hi9) rfl hf rfl rfl fun a hf => ?_
      refine op_val (ex_nilCheck hf rfl) rfl hf rfl rfl fun a hf => ?_
      refine op_val (ex_field fa_145_1 hf rfl) rfl hf rfl rfl fun a hf => ?_
      refine op_store1 (i := 0) (o := 1) (v := int i9) sz_3 rfl rfl rfl rfl hf rfl rfl hO fun w hO => ?_
      refine wpList_nil ?_
      refine nor_then (hK10 _ _ ?_)
      refine wp_seq_k fun _ hK11 => ?_
      refine wp_region_list ?_
      refine op_val (ex_assign hf rfl) rfl hf rfl rfl fun a hf => ?_
      refine wpList_nil ?_
      refine nor_then (hK11 _ _ ?_)
      refine wp_ret ?_
      obtain rfl := Option.some.inj hm
      exact post_ret Tryz.results77 hf (.tmp rfl .nil) ⟨rfl, hO⟩

set_option maxHeartbeats 1000000 in
theorem w_startline_line_digit (x_p : startline_line) (R : Int × Bool × scan_Scanner) (w0 : World) (hG : Glob w0) {x_p_b0 : Nat} {F : List Nat} (hF : Away F) (hO : Dk.Own w0 F w0 [.blk x_p_b0 [str x_p.Scanner.f_s, int x_p.Scanner.f_at] 145]) (hm : startline_line_digit x_p = some R) :
    Calls Tryz.prog 156 #[.agg #[ptr x_p_b0 0]] w0 fun e w' => e = .returned (.tuple #[int R.1, .bool R.2.1]) ∧ Dk.Own w0 F w' [.blk x_p_b0 [str R.2.2.f_s, int R.2.2.f_at] 145] := by
  rw [startline_line_digit] at hm
  refine calls_enter (vs := [.agg #[ptr x_p_b0 0]]) Tryz.func156 rfl Tryz.ntmps156 rfl fun a hf => ?_
  refine wp_seq_k fun _ hK2 => ?_
  refine wp_region_list ?_
  refine op_box (v := .agg #[ptr x_p_b0 0]) (cs := [ptr x_p_b0 0]) rfl hf rfl rfl hO fun a b1 w hf hO => ?_
  refine op_val (ex_assign hf rfl) rfl hf rfl rfl fun a hf => ?_
  refine op_val (ex_assign hf rfl) rfl hf rfl rfl fun a hf => ?_
  refine wpList_nil ?_
  refine nor_then (hK2 _ _ ?_)
  refine wp_seq_k fun _ hK4 => ?_
  refine wp_region_list ?_
  refine op_val (ex_field fa_102_0 hf rfl) rfl hf rfl rfl fun a hf => ?_
  refine op_val (ex_load1 (o := 0) ag_99 (hO.blkSees (i := 0) rfl) rfl hf rfl) rfl hf rfl rfl fun a hf => ?_
  obtain ⟨r3, hr3, hm⟩ := ob hm
  refine op_enter (ex_call c_122 hf (vs := [ptr x_p_b0 0]) rfl) rfl hf rfl rfl (w_scan_Scanner_Peek x_p.Scanner r3 _ (hG.own hF hO) (hO.blkSees (i := 1) rfl) hr3) ?_
  rintro e w' ⟨he, hb⟩
  refine ⟨_, he, fun a hf => ?_⟩
  have hO := hO.grow hb
  refine op_val (ex_move hf rfl) rfl hf rfl rfl fun a hf => ?_
  refine op_val (ex_extract hf rfl rfl) rfl hf rfl rfl fun a hf => ?_
  refine op_val (ex_extract hf rfl rfl) rfl hf rfl rfl fun a hf => ?_
  refine op_val (ex_assign hf rfl) rfl hf rfl rfl fun a hf => ?_
  refine op_val (ex_assign hf rfl) rfl hf rfl rfl fun a hf => ?_
  refine wpList_nil ?_
  refine nor_then (hK4 _ _ ?_)
  refine wp_seq_k fun _ hK10 => ?_
  refine wp_seq_cut (fun a w => ∃ (t7 : Bool), Fits 26 [(1, ptr b1 0), (4, byte r3.1), (18, .bool t7)] a ∧ Dk.Own w0 F w [.blk b1 [ptr x_p_b0 0] 102, .blk x_p_b0 [str x_p.Scanner.f_s, int x_p.Scanner.f_at] 145] ∧ startline_line_digit_j1 x_p r3 t7 = some R) ?_ ?_
  · refine wp_region_list ?_
    refine op_val (ex_move hf rfl) rfl hf rfl rfl fun a hf => ?_
    refine op_val (ex_not hf rfl) rfl hf rfl rfl fun a hf => ?_
    refine op_val (ex_move hf rfl) rfl hf rfl rfl fun a hf => ?_
    rcases bcase (!r3.2) with hc5 | hc5
    · have hm := it hc5 hm
      refine op_pass rfl hf rfl rfl (hc5) rfl rfl fun a hf => ?_
      refine op_pass rfl hf rfl rfl (hc5) rfl rfl fun a hf => ?_
      refine op_pass rfl hf rfl rfl (hc5) rfl rfl fun a hf => ?_
      refine op_val (ex_pick_t hf rfl hc5 rfl) rfl hf rfl rfl fun a hf => ?_
      refine wpList_nil ?_
      refine nor_then ?_
      exact ⟨true, (hf.cons rfl (hf.cons rfl (hf.cons rfl hf.nil))), hO, hm⟩
    · have hm := ie hc5 hm
      refine op_guard rfl hf rfl rfl (hc5) ?_
      refine op_val (ex_move hf rfl) rfl hf rfl rfl fun a hf => ?_
      refine op_guard rfl hf rfl rfl (hc5) ?_
      obtain ⟨r6, hr6, hm⟩ := ob hm
      refine op_enter (ex_call c_83 hf (vs := [byte r3.1]) rfl) rfl hf rfl rfl (w_octet_IsDigit r3.1 r6 _ (hG.own hF hO) hr6) ?_
      rintro e w' ⟨he, hb⟩
      refine ⟨_, he, fun a hf => ?_⟩
      have hO := hO.grow hb
      refine op_guard rfl hf rfl rfl (hc5) ?_
      refine op_val (ex_not hf rfl) rfl hf rfl rfl fun a hf => ?_
      refine op_val (ex_pick_f hf rfl hc5 rfl) rfl hf rfl rfl fun a hf => ?_
      refine wpList_nil ?_
      refine nor_then ?_
      exact ⟨!r6, (hf.cons rfl (hf.cons rfl (hf.cons rfl hf.nil))), hO, hm⟩
  · rintro a w ⟨t7, hf, hO, hm⟩
    rw [startline_line_digit_j1] at hm
    refine wp_cond_cut hf rfl (fun hc8 => ?_) (fun hc8 => ?_)
    · have hm := it hc8 hm
      refine wp_seq_k fun _ hK9 => ?_
      refine wp_region_list ?_
      refine op_val (ex_assign hf rfl) rfl hf rfl rfl fun a hf => ?_
      refine op_val (ex_assign hf rfl) rfl hf rfl rfl fun a hf => ?_
      refine wpList_nil ?_
      refine nor_then (hK9 _ _ ?_)
      refine wp_ret ?_
      refine ret_then ?_
      obtain rfl := Option.some.inj hm
      exact post_ret Tryz.results156 hf (.tmp rfl (.tmp rfl .nil)) ⟨rfl, (hO.sub (.cons _ (.cons_cons _ .slnil)))⟩
    · have hm := ie hc8 hm
      refine wp_skip ?_
      refine nor_then (hK10 _ _ ?_)
      refine wp_seq_k fun _ hK12 => ?_
      refine wp_region_list ?_
      refine op_val (ex_field fa_102_0 hf rfl) rfl hf rfl rfl fun a hf => ?_
      refine op_val (ex_load1 (o := 0) ag_99 (hO.blkSees (i := 0) rfl) rfl hf rfl) rfl hf rfl rfl fun a hf => ?_
      refine op_val (ex_move hf rfl) rfl hf rfl rfl fun a hf => ?_
      obtain ⟨r11, hr11, hm⟩ := ob hm
      refine op_enter (ex_call c_77 hf (vs := [ptr x_p_b0 0, byte r3.1]) rfl) rfl hf rfl rfl (w_scan_Scanner_Byte x_p.Scanner r3.1 r11 _ (hG.own hF hO) (Dk.Own.far (show Dk.Own w0 F _ ([.blk x_p_b0 [str x_p.Scanner.f_s, int x_p.Scanner.f_at] 145] ++ [.blk b1 [ptr x_p_b0 0] 102]) from hO.choose [1, 0] rfl) rfl hF hG.size) ((show Dk.Own w0 F _ ([.blk x_p_b0 [str x_p.Scanner.f_s, int x_p.Scanner.f_at] 145] ++ [.blk b1 [ptr x_p_b0 0] 102]) from hO.choose [1, 0] rfl).lend rfl trivial) hr11) ?_
      rintro e w' ⟨he, hO'⟩
      refine ⟨_, he, fun a hf => ?_⟩
      have hO := (show Dk.Own w0 F _ ([.blk x_p_b0 [str x_p.Scanner.f_s, int x_p.Scanner.f_at] 145] ++ [.blk b1 [ptr x_p_b0 0] 102]) from hO.choose [1, 0] rfl).back rfl hO' rfl
      refine wpList_nil ?_
      refine nor_then (hK12 _ _ ?_)
      refine wp_seq_k fun _ hK13 => ?_
      refine wp_region_list ?_
      refine op_val (ex_move hf rfl) rfl hf rfl rfl fun a hf => ?_
      refine op_val (ex_sub_b (b := r3.1) (c := 48) hf rfl rfl) rfl hf rfl rfl fun a hf => ?_
      refine op_val (ex_conv_i Tryz.underlying3 Tryz.underlying5 (byte_inI _) hf (kd := .u8) rfl) rfl hf rfl rfl fun a hf => ?_
      refine op_val (ex_assign hf rfl) rfl hf rfl rfl fun a hf => ?_
      refine op_val (ex_assign hf rfl) rfl hf rfl rfl fun a hf => ?_
      refine wpList_nil ?_
      refine nor_then (hK13 _ _ ?_)
      refine wp_ret ?_
      obtain rfl := Option.some.inj hm
      exact post_ret Tryz.results156 hf (.tmp rfl (.tmp rfl .nil)) ⟨rfl, (hO.sub (.cons_cons _ (.cons _ .slnil)))⟩

set_option maxHeartbeats 1000000 in
theorem w_startline_line_version (x_p : startline_line) (R : Int × Int × Bool × scan_Scanner) (w0 : World) (hG : Glob w0) {x_p_b0 : Nat} {F : List Nat} (hF : Away F) (hO : Dk.Own w0 F w0 [.blk x_p_b0 [str x_p.Scanner.f_s, int x_p.Scanner.f_at] 145]) (hm : startline_line_version x_p = some R) :
    Calls Tryz.prog 120 #[.agg #[ptr x_p_b0 0]] w0 fun e w' => e = .returned (.tuple #[int R.1, int R.2.1, .bool R.2.2.1]) ∧ Dk.Own w0 F w' [.blk x_p_b0 [str R.2.2.2.f_s, int R.2.2.2.f_at] 145] := by
  rw [startline_line_version] at hm
  refine calls_enter (vs := [.agg #[ptr x_p_b0 0]]) Tryz.func120 rfl Tryz.ntmps120 rfl fun a hf => ?_
  refine wp_seq_k fun _ hK2 => ?_
  refine wp_region_list ?_
  refine op_box (v := .agg #[ptr x_p_b0 0]) (cs := [ptr x_p_b0 0]) rfl hf rfl rfl hO fun a b1 w hf hO => ?_
  refine op_val (ex_assign hf rfl) rfl hf rfl rfl fun a hf => ?_
  refine op_val (ex_assign hf rfl) rfl hf rfl rfl fun a hf => ?_
  refine op_val (ex_assign hf rfl) rfl hf rfl rfl fun a hf => ?_
  refine wpList_nil ?_
  refine nor_then (hK2 _ _ ?_)
  refine wp_seq_k fun _ hK7 => ?_
  refine wp_seq_k fun _ hK4 => ?_
  refine wp_region_list ?_
  refine op_val (ex_field fa_102_0 hf rfl) rfl hf rfl rfl fun a hf => ?_
  refine op_val (ex_load1 (o := 0) ag_99 (hO.blkSees (i := 0) rfl) rfl hf rfl) rfl hf rfl rfl fun a hf => ?_
  obtain ⟨r3, hr3, hm⟩ := ob hm
  refine op_enter (ex_call c_155 hf (vs := [ptr x_p_b0 0, str [72, 84, 84, 80, 47]]) rfl) rfl hf rfl rfl (w_scan_Scanner_Text x_p.Scanner [72, 84, 84, 80, 47] r3 _ (hG.own hF hO) (Dk.Own.far (show Dk.Own w0 F _ ([.blk x_p_b0 [str x_p.Scanner.f_s, int x_p.Scanner.f_at] 145] ++ [.blk b1 [ptr x_p_b0 0] 102]) from hO.choose [1, 0] rfl) rfl hF hG.size) ((show Dk.Own w0 F _ ([.blk x_p_b0 [str x_p.Scanner.f_s, int x_p.Scanner.f_at] 145] ++ [.blk b1 [ptr x_p_b0 0] 102]) from hO.choose [1, 0] rfl).lend rfl trivial) hr3) ?_
  rintro e w' ⟨he, hO'⟩
  refine ⟨_, he, fun a hf => ?_⟩
  have hO := (show Dk.Own w0 F _ ([.blk x_p_b0 [str x_p.Scanner.f_s, int x_p.Scanner.f_at] 145] ++ [.blk b1 [ptr x_p_b0 0] 102]) from hO.choose [1, 0] rfl).back rfl hO' rfl
  refine op_val (ex_not hf rfl) rfl hf rfl rfl fun a hf => ?_
  refine wpList_nil ?_
  refine nor_then (hK4 _ _ ?_)
  refine wp_cond_cut hf rfl (fun hc5 => ?_) (fun hc5 => ?_)
  · have hm := it hc5 hm
    refine wp_seq_k fun _ hK6 => ?_
    refine wp_region_list ?_
    refine op_val (ex_assign hf rfl) rfl hf rfl rfl fun a hf => ?_
    refine op_val (ex_assign hf rfl) rfl hf rfl rfl fun a hf => ?_
    refine op_val (ex_assign hf rfl) rfl hf rfl rfl fun a hf => ?_
    refine wpList_nil ?_
    refine nor_then (hK6 _ _ ?_)
    refine wp_ret ?_
    refine ret_then ?_
    obtain rfl := Option.some.inj hm
    exact post_ret Tryz.results120 hf (.tmp rfl (.tmp rfl (.tmp rfl .nil))) ⟨rfl, (hO.sub (.cons_cons _ (.cons _ .slnil)))⟩
  · have hm := ie hc5 hm
    refine wp_skip ?_
    refine nor_then (hK7 _ _ ?_)
    refine wp_seq_k fun _ hK9 => ?_
    refine wp_region_list ?_
    refine op_val (ex_loadN (o := 0) (vs := [ptr x_p_b0 0]) ag_102 sz_102 (hO.blkSees (i := 1) rfl) rfl rfl hf rfl) rfl hf rfl rfl fun a hf => ?_
    obtain ⟨r8, hr8, hm⟩ := ob hm
    refine op_enter (ex_call c_156 hf (vs := [.agg #[ptr x_p_b0 0]]) rfl) rfl hf rfl rfl (w_startline_line_digit (⟨r3.2⟩ : startline_line) r8 _ (hG.own hF hO) (Dk.Own.far (show Dk.Own w0 F _ ([.blk x_p_b0 [str r3.2.f_s, int r3.2.f_at] 145] ++ [.blk b1 [ptr x_p_b0 0] 102]) from hO) rfl hF hG.size) ((show Dk.Own w0 F _ ([.blk x_p_b0 [str r3.2.f_s, int r3.2.f_at] 145] ++ [.blk b1 [ptr x_p_b0 0] 102]) from hO).lend rfl trivial) hr8) ?_
    rintro e w' ⟨he, hO'⟩
    refine ⟨_, he, fun a hf => ?_⟩
    have hO := (show Dk.Own w0 F _ ([.blk x_p_b0 [str r3.2.f_s, int r3.2.f_at] 145] ++ [.blk b1 [ptr x_p_b0 0] 102]) from hO).back rfl hO' rfl
    refine op_val (ex_move hf rfl) rfl hf rfl rfl fun a hf => ?_
    refine op_val (ex_extract hf rfl rfl) rfl hf rfl rfl fun a hf => ?_
    refine op_val (ex_extract hf rfl rfl) rfl hf rfl rfl fun a hf => ?_
    refine op_val (ex_assign hf rfl) rfl hf rfl rfl fun a hf => ?_
    refine op_val (ex_assign hf rfl) rfl hf rfl rfl fun a hf => ?_
    refine wpList_nil ?_
    refine nor_then (hK9 _ _ ?_)
    refine wp_seq_k fun _ hK11 => ?_
    refine wp_region_list ?_
    refine op_val (ex_field fa_102_0 hf rfl) rfl hf rfl rfl fun a hf => ?_
    refine op_val (ex_load1 (o := 0) ag_99 (hO.blkSees (i := 1) rfl) rfl hf rfl) rfl hf rfl rfl fun a hf => ?_
    obtain ⟨r10, hr10, hm⟩ := ob hm
    refine op_enter (ex_call c_77 hf (vs := [ptr x_p_b0 0, byte 46]) rfl) rfl hf rfl rfl (w_scan_Scanner_Byte r8.2.2 46 r10 _ (hG.own hF hO) (Dk.Own.far (show Dk.Own w0 F _ ([.blk x_p_b0 [str r8.2.2.f_s, int r8.2.2.f_at] 145] ++ [.blk b1 [ptr x_p_b0 0] 102]) from hO) rfl hF hG.size) ((show Dk.Own w0 F _ ([.blk x_p_b0 [str r8.2.2.f_s, int r8.2.2.f_at] 145] ++ [.blk b1 [ptr x_p_b0 0] 102]) from hO).lend rfl trivial) hr10) ?_
    rintro e w' ⟨he, hO'⟩
    refine ⟨_, he, fun a hf => ?_⟩
    have hO := (show Dk.Own w0 F _ ([.blk x_p_b0 [str r8.2.2.f_s, int r8.2.2.f_at] 145] ++ [.blk b1 [ptr x_p_b0 0] 102]) from hO).back rfl hO' rfl
    refine op_val (ex_assign hf rfl) rfl hf rfl rfl fun a hf => ?_
    refine wpList_nil ?_
    refine nor_then (hK11 _ _ ?_)
    refine wp_seq_k fun _ hK13 => ?_
    refine wp_region_list ?_
    refine op_val (ex_loadN (o := 0) (vs := [ptr x_p_b0 0]) ag_102 sz_102 (hO.blkSees (i := 1) rfl) rfl rfl hf rfl) rfl hf rfl rfl fun a hf => ?_
    obtain ⟨r12, hr12, hm⟩ := ob hm
    refine op_enter (ex_call c_156 hf (vs := [.agg #[ptr x_p_b0 0]]) rfl) rfl hf rfl rfl (w_startline_line_digit (⟨r10.2⟩ : startline_line) r12 _ (hG.own hF hO) (Dk.Own.far (show Dk.Own w0 F _ ([.blk x_p_b0 [str r10.2.f_s, int r10.2.f_at] 145] ++ [.blk b1 [ptr x_p_b0 0] 102]) from hO) rfl hF hG.size) ((show Dk.Own w0 F _ ([.blk x_p_b0 [str r10.2.f_s, int r10.2.f_at] 145] ++ [.blk b1 [ptr x_p_b0 0] 102]) from hO).lend rfl trivial) hr12) ?_
    rintro e w' ⟨he, hO'⟩
    refine ⟨_, he, fun a hf => ?_⟩
    have hO := (show Dk.Own w0 F _ ([.blk x_p_b0 [str r10.2.f_s, int r10.2.f_at] 145] ++ [.blk b1 [ptr x_p_b0 0] 102]) from hO).back rfl hO' rfl
    refine op_val (ex_move hf rfl) rfl hf rfl rfl fun a hf => ?_
    refine op_val (ex_extract hf rfl rfl) rfl hf rfl rfl fun a hf => ?_
    refine op_val (ex_extract hf rfl rfl) rfl hf rfl rfl fun a hf => ?_
    refine op_val (ex_assign hf rfl) rfl hf rfl rfl fun a hf => ?_
    refine op_val (ex_assign hf rfl) rfl hf rfl rfl fun a hf => ?_
    refine wpList_nil ?_
    refine nor_then (hK13 _ _ ?_)
    refine wp_seq_cut (fun a w => ∃ (t16 : Bool), Fits 36 [(2, int r8.1), (3, int r12.1), (4, .bool t16)] a ∧ Dk.Own w0 F w [.blk x_p_b0 [str r12.2.2.f_s, int r12.2.2.f_at] 145, .blk b1 [ptr x_p_b0 0] 102] ∧ startline_line_version_j1 r8 r12 t16 = some R) ?_ ?_
    · refine wp_region_list ?_
      refine op_val (ex_move hf rfl) rfl hf rfl rfl fun a hf => ?_
      refine op_val (ex_move hf rfl) rfl hf rfl rfl fun a hf => ?_
      refine op_val (ex_move hf rfl) rfl hf rfl rfl fun a hf => ?_
      refine op_val (ex_move hf rfl) rfl hf rfl rfl fun a hf => ?_
      rcases bcase (r8.2.1) with hc14 | hc14
      · have hm := it hc14 hm
        refine op_guard rfl hf rfl rfl (hc14) ?_
        refine op_val (ex_move hf rfl) rfl hf rfl rfl fun a hf => ?_
        refine op_val (ex_pick_t hf rfl hc14 rfl) rfl hf rfl rfl fun a hf => ?_
        refine op_val (ex_move hf rfl) rfl hf rfl rfl fun a hf => ?_
        rcases bcase (r10.1) with hc15 | hc15
        · have hm := it hc15 hm
          refine op_guard rfl hf rfl rfl (hc15) ?_
          refine op_val (ex_move hf rfl) rfl hf rfl rfl fun a hf => ?_
          refine op_val (ex_pick_t hf rfl hc15 rfl) rfl hf rfl rfl fun a hf => ?_
          refine op_val (ex_assign hf rfl) rfl hf rfl rfl fun a hf => ?_
          refine op_val (ex_assign hf rfl) rfl hf rfl rfl fun a hf => ?_
          refine op_val (ex_assign hf rfl) rfl hf rfl rfl fun a hf => ?_
          refine wpList_nil ?_
          refine nor_then ?_
          exact ⟨r12.2.1, (hf.cons rfl (hf.cons rfl (hf.cons rfl hf.nil))), hO, hm⟩
        · have hm := ie hc15 hm
          refine op_pass rfl hf rfl rfl (hc15) rfl rfl fun a hf => ?_
          refine op_val (ex_pick_f hf rfl hc15 rfl) rfl hf rfl rfl fun a hf => ?_
          refine op_val (ex_assign hf rfl) rfl hf rfl rfl fun a hf => ?_
          refine op_val (ex_assign hf rfl) rfl hf rfl rfl fun a hf => ?_
          refine op_val (ex_assign hf rfl) rfl hf rfl rfl fun a hf => ?_
          refine wpList_nil ?_
          refine nor_then ?_
          exact ⟨false, (hf.cons rfl (hf.cons rfl (hf.cons rfl hf.nil))), hO, hm⟩
      · have hm := ie hc14 hm
        refine op_pass rfl hf rfl rfl (hc14) rfl rfl fun a hf => ?_
        refine op_val (ex_pick_f hf rfl hc14 rfl) rfl hf rfl rfl fun a hf => ?_
        refine op_val (ex_move hf rfl) rfl hf rfl rfl fun a hf => ?_
        refine op_pass rfl hf rfl rfl (rfl) rfl rfl fun a hf => ?_
        refine op_val (ex_pick_f hf rfl rfl rfl) rfl hf rfl rfl fun a hf => ?_
        refine op_val (ex_assign hf rfl) rfl hf rfl rfl fun a hf => ?_
        refine op_val (ex_assign hf rfl) rfl hf rfl rfl fun a hf => ?_
        refine op_val (ex_assign hf rfl) rfl hf rfl rfl fun a hf => ?_
        refine wpList_nil ?_
        refine nor_then ?_
        exact ⟨false, (hf.cons rfl (hf.cons rfl (hf.cons rfl hf.nil))), hO, hm⟩
    · rintro a w ⟨t16, hf, hO, hm⟩
      rw [startline_line_version_j1] at hm
      refine wp_ret ?_
      obtain rfl := Option.some.inj hm
      exact post_ret Tryz.results120 hf (.tmp rfl (.tmp rfl (.tmp rfl .nil))) ⟨rfl, (hO.sub (.cons_cons _ (.cons _ .slnil)))⟩

set_option maxHeartbeats 1000000 in
theorem w_startline_other (x_s : Str) (R : Bool) (w0 : World) (hG : Glob w0) (hm : startline_other x_s = some R) :
    Calls Tryz.prog 74 #[str x_s] w0 fun e w' => e = .returned (.bool R) ∧ Below w0.heap.size w0 w' := by
  rw [startline_other] at hm
  refine calls_enter (vs := [str x_s]) Tryz.func74 rfl Tryz.ntmps74 rfl fun a hf => ?_
  have hF : Away [] := away_nil
  have hO : Dk.Own w0 [] w0 [] := Dk.Own.refl w0
  refine wp_seq_k fun _ hK1 => ?_
  refine wp_region_list ?_
  refine op_val (ex_assign hf rfl) rfl hf rfl rfl fun a hf => ?_
  refine wpList_nil ?_
  refine nor_then (hK1 _ _ ?_)
  refine wp_seq_k fun _ hK5 => ?_
  refine wp_region_list ?_
  refine op_val (ex_move hf rfl) rfl hf rfl rfl fun a hf => ?_
  obtain ⟨r2, hr2, hm⟩ := ob hm
  refine op_enter (ex_call c_75 hf (vs := [str x_s]) rfl) rfl hf rfl rfl (w_scan_New x_s r2 _ (hG.own hF hO) hr2) ?_
  rintro e w' ⟨b3, he, hO'⟩
  refine ⟨_, he, fun a hf => ?_⟩
  have hO := hO.call hO' (by simp [Res.shared])
  refine op_val (ex_build (vs := [(0, ptr b3 0)]) (v := .agg #[ptr b3 0]) hf rfl (by kernel_rfl)) rfl hf rfl rfl fun a hf => ?_
  refine op_alloc al_102 hf rfl hO fun a b4 w hf hO => ?_
  refine op_storeN (i := 0) (n := 1) sz_102 rfl rfl rfl (by simp [Value.oneCell']) hf rfl rfl hO fun w hO => ?_
  refine wpList_nil ?_
  refine nor_then (hK5 _ _ ?_)
  refine wp_seq_k fun _ hK7 => ?_
  refine wp_region_list ?_
  refine op_val (ex_loadN (o := 0) (vs := [ptr b3 0]) ag_102 sz_102 (hO.blkSees (i := 0) rfl) rfl rfl hf rfl) rfl hf rfl rfl fun a hf => ?_
  obtain ⟨r6, hr6, hm⟩ := ob hm
  refine op_enter (ex_call c_120 hf (vs := [.agg #[ptr b3 0]]) rfl) rfl hf rfl rfl (w_startline_line_version (⟨r2⟩ : startline_line) r6 _ (hG.own hF hO) (Dk.Own.far (show Dk.Own w0 [] _ ([.blk b3 [str r2.f_s, int r2.f_at] 145] ++ [.blk b4 [ptr b3 0] 102]) from hO.choose [1, 0] rfl) rfl hF hG.size) ((show Dk.Own w0 [] _ ([.blk b3 [str r2.f_s, int r2.f_at] 145] ++ [.blk b4 [ptr b3 0] 102]) from hO.choose [1, 0] rfl).lend rfl trivial) hr6) ?_
  rintro e w' ⟨he, hO'⟩
  refine ⟨_, he, fun a hf => ?_⟩
  have hO := (show Dk.Own w0 [] _ ([.blk b3 [str r2.f_s, int r2.f_at] 145] ++ [.blk b4 [ptr b3 0] 102]) from hO.choose [1, 0] rfl).back rfl hO' rfl
  refine op_val (ex_move hf rfl) rfl hf rfl rfl fun a hf => ?_
  refine op_val (ex_extract hf rfl rfl) rfl hf rfl rfl fun a hf => ?_
  refine op_val (ex_extract hf rfl rfl) rfl hf rfl rfl fun a hf => ?_
  refine op_val (ex_extract hf rfl rfl) rfl hf rfl rfl fun a hf => ?_
  refine op_val (ex_assign hf rfl) rfl hf rfl rfl fun a hf => ?_
  refine op_val (ex_assign hf rfl) rfl hf rfl rfl fun a hf => ?_
  refine op_val (ex_assign hf rfl) rfl hf rfl rfl fun a hf => ?_
  refine wpList_nil ?_
  refine nor_then (hK7 _ _ ?_)
  refine wp_seq_cut (fun a w => ∃ (t12 : Bool), Fits 30 [(2, .bool t12)] a ∧ Dk.Own w0 [] w [.blk b3 [str r6.2.2.2.f_s, int r6.2.2.2.f_at] 145, .blk b4 [ptr b3 0] 102] ∧ startline_other_j1 t12 = some R) ?_ ?_
  · refine wp_region_list ?_
    refine op_val (ex_move hf rfl) rfl hf rfl rfl fun a hf => ?_
    refine op_val (ex_move hf rfl) rfl hf rfl rfl fun a hf => ?_
    rcases bcase (r6.2.2.1) with hc8 | hc8
    · have hm := it hc8 hm
      refine op_guard rfl hf rfl rfl (hc8) ?_
      refine op_val (ex_field fa_102_0 hf rfl) rfl hf rfl rfl fun a hf => ?_
      refine op_guard rfl hf rfl rfl (hc8) ?_
      refine op_val (ex_load1 (o := 0) ag_99 (hO.blkSees (i := 1) rfl) rfl hf rfl) rfl hf rfl rfl fun a hf => ?_
      refine op_guard rfl hf rfl rfl (hc8) ?_
      obtain ⟨r9, hr9, hm⟩ := ob hm
      refine op_enter (ex_call c_81 hf (vs := [ptr b3 0]) rfl) rfl hf rfl rfl (w_scan_Scanner_End r6.2.2.2 r9 _ (hG.own hF hO) (hO.blkSees (i := 0) rfl) hr9) ?_
      rintro e w' ⟨he, hb⟩
      refine ⟨_, he, fun a hf => ?_⟩
      have hO := hO.grow hb
      refine op_val (ex_pick_t hf rfl hc8 rfl) rfl hf rfl rfl fun a hf => ?_
      refine op_val (ex_move hf rfl) rfl hf rfl rfl fun a hf => ?_
      rcases bcase (r9) with hc10 | hc10
      · have hm := it hc10 hm
        refine op_guard rfl hf rfl rfl (hc10) ?_
        refine op_val (ex_move hf rfl) rfl hf rfl rfl fun a hf => ?_
        refine op_guard rfl hf rfl rfl (hc10) ?_
        refine op_val (ex_neq (m := r6.1) (n := 1) hf rfl rfl) rfl hf rfl rfl fun a hf => ?_
        refine op_guard rfl hf rfl rfl (hc10) ?_
        refine op_val (ex_move hf rfl) rfl hf rfl rfl fun a hf => ?_
        rcases bcase (!(r6.1 == 1)) with hc11 | hc11
        · have hm := it hc11 hm
          refine op_pass rfl hf rfl rfl (hc11) rfl rfl fun a hf => ?_
          refine op_pass rfl hf rfl rfl (hc11) rfl rfl fun a hf => ?_
          refine op_guard rfl hf rfl rfl (hc10) ?_
          refine op_val (ex_pick_t hf rfl hc11 rfl) rfl hf rfl rfl fun a hf => ?_
          refine op_val (ex_pick_t hf rfl hc10 rfl) rfl hf rfl rfl fun a hf => ?_
          refine op_val (ex_assign hf rfl) rfl hf rfl rfl fun a hf => ?_
          refine wpList_nil ?_
          refine nor_then ?_
          exact ⟨true, (hf.cons rfl hf.nil), hO, hm⟩
        · have hm := ie hc11 hm
          refine op_guard rfl hf rfl rfl (hc11) ?_
          refine op_val (ex_move hf rfl) rfl hf rfl rfl fun a hf => ?_
          refine op_guard rfl hf rfl rfl (hc11) ?_
          refine op_val (ex_gtr (m := r6.2.1) (n := 1) hf rfl rfl) rfl hf rfl rfl fun a hf => ?_
          refine op_guard rfl hf rfl rfl (hc10) ?_
          refine op_val (ex_pick_f hf rfl hc11 rfl) rfl hf rfl rfl fun a hf => ?_
          refine op_val (ex_pick_t hf rfl hc10 rfl) rfl hf rfl rfl fun a hf => ?_
          refine op_val (ex_assign hf rfl) rfl hf rfl rfl fun a hf => ?_
          refine wpList_nil ?_
          refine nor_then ?_
          exact ⟨decide (1 < r6.2.1), (hf.cons rfl hf.nil), hO, hm⟩
      · have hm := ie hc10 hm
        refine op_pass rfl hf rfl rfl (hc10) rfl rfl fun a hf => ?_
        refine op_pass rfl hf rfl rfl (hc10) rfl rfl fun a hf => ?_
        refine op_pass rfl hf rfl rfl (hc10) rfl rfl fun a hf => ?_
        refine op_passu rfl hf rfl rfl rfl rfl fun a hf => ?_
        refine op_passu rfl hf rfl rfl rfl rfl fun a hf => ?_
        refine op_pass rfl hf rfl rfl (hc10) rfl rfl fun a hf => ?_
        refine op_val (ex_pick_f hf rfl hc10 rfl) rfl hf rfl rfl fun a hf => ?_
        refine op_val (ex_assign hf rfl) rfl hf rfl rfl fun a hf => ?_
        refine wpList_nil ?_
        refine nor_then ?_
        exact ⟨false, (hf.cons rfl hf.nil), hO, hm⟩
    · have hm := ie hc8 hm
      refine op_pass rfl hf rfl rfl (hc8) rfl rfl fun a hf => ?_
      refine op_pass rfl hf rfl rfl (hc8) rfl rfl fun a hf => ?_
      refine op_pass rfl hf rfl rfl (hc8) rfl rfl fun a hf => ?_
      refine op_val (ex_pick_f hf rfl hc8 rfl) rfl hf rfl rfl fun a hf => ?_
      refine op_val (ex_move hf rfl) rfl hf rfl rfl fun a hf => ?_
      refine op_pass rfl hf rfl rfl (rfl) rfl rfl fun a hf => ?_
      refine op_pass rfl hf rfl rfl (rfl) rfl rfl fun a hf => ?_
      refine op_pass rfl hf rfl rfl (rfl) rfl rfl fun a hf => ?_
      refine op_passu rfl hf rfl rfl rfl rfl fun a hf => ?_
      refine op_passu rfl hf rfl rfl rfl rfl fun a hf => ?_
      refine op_pass rfl hf rfl rfl (rfl) rfl rfl fun a hf => ?_
      refine op_val (ex_pick_f hf rfl rfl rfl) rfl hf rfl rfl fun a hf => ?_
      refine op_val (ex_assign hf rfl) rfl hf rfl rfl fun a hf => ?_
      refine wpList_nil ?_
      refine nor_then ?_
      exact ⟨false, (hf.cons rfl hf.nil), hO, hm⟩
  · rintro a w ⟨t12, hf, hO, hm⟩
    rw [startline_other_j1] at hm
    refine wp_ret ?_
    obtain rfl := Option.some.inj hm
    exact post_ret Tryz.results74 hf (.tmp rfl .nil) ⟨rfl, hO.below⟩

set_option maxHeartbeats 1000000 in
theorem w_scan_Scanner_At (x_c : scan_Scanner) (R : Int) (w0 : World) (hG : Glob w0) {x_c_b0 : Nat} (hs0 : Sees w0 (some ⟨x_c_b0, 0, none⟩) [str x_c.f_s, int x_c.f_at]) (hm : scan_Scanner_At x_c = some R) :
    Calls Tryz.prog 123 #[ptr x_c_b0 0] w0 fun e w' => e = .returned (int R) ∧ Below w0.heap.size w0 w' := by
  rw [scan_Scanner_At] at hm
  refine calls_enter (vs := [ptr x_c_b0 0]) Tryz.func123 rfl Tryz.ntmps123 rfl fun a hf => ?_
  have hF : Away [] := away_nil
  have hO : Dk.Own w0 [] w0 [] := Dk.Own.refl w0
  have hO := hO.addShr hs0 (by simp [Res.shared])
  refine wp_seq_k fun _ hK1 => ?_
  refine wp_region_list ?_
  refine op_val (ex_assign hf rfl) rfl hf rfl rfl fun a hf => ?_
  refine wpList_nil ?_
  refine nor_then (hK1 _ _ ?_)
  refine wp_seq_k fun _ hK3 => ?_
  refine wp_seq_k fun _ hK2 => ?_
  refine wp_region_list ?_
  refine op_val (ex_move hf rfl) rfl hf rfl rfl fun a hf => ?_
  refine op_val (ex_eql_pn Tryz.underlying99 hf rfl rfl) rfl hf rfl rfl fun a hf => ?_
  refine wpList_nil ?_
  refine nor_then (hK2 _ _ ?_)
  refine wp_cond_f hf rfl rfl ?_
  refine wp_skip ?_
  refine nor_then (hK3 _ _ ?_)
  refine wp_seq_k fun _ hK4 => ?_
  refine wp_region_list ?_
  refine op_val (ex_move hf rfl) rfl hf rfl rfl fun a hf => ?_
  refine op_val (ex_nilCheck hf rfl) rfl hf rfl rfl fun a hf => ?_
  refine op_val (ex_field fa_145_1 hf rfl) rfl hf rfl rfl fun a hf => ?_
  refine op_val (ex_load1 (o := 1) ag_3 (hO.sees (i := 0) rfl) rfl hf rfl) rfl hf rfl rfl fun a hf => ?_
  refine op_val (ex_assign hf rfl) rfl hf rfl rfl fun a hf => ?_
  refine wpList_nil ?_
  refine nor_then (hK4 _ _ ?_)
  refine wp_ret ?_
  obtain rfl := Option.some.inj hm
  exact post_ret Tryz.results123 hf (.tmp rfl .nil) ⟨rfl, hO.below⟩

end Go.Proofs
