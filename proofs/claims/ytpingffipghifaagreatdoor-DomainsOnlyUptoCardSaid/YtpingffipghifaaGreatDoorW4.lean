/-
  Walks, written by a program (wip/gen): what its model says, the function returns; what was there before is as it was.
-/
import Derived.Test.YtpingffipghifaaGreatDoorLib
import Derived.Test.YtpingffipghifaaGreatDoorW0
import Derived.Test.YtpingffipghifaaGreatDoorW2
import Derived.Test.YtpingffipghifaaGreatDoorW3
set_option linter.unusedVariables false
set_option linter.unusedSimpArgs false
set_option maxRecDepth 100000
namespace Go.Proofs
open Go.Dk Go.Dm Go.RowKit

set_option maxHeartbeats 1000000 in
theorem w_octet_IsVisible (x_b : UInt8) (R : Bool) (w0 : World) (hG : Glob w0) (hm : octet_IsVisible x_b = some R) :
    Calls Tryz.prog 114 #[byte x_b] w0 fun e w' => e = .returned (.bool R) ∧ Below w0.heap.size w0 w' := by
  rw [octet_IsVisible] at hm
  refine calls_enter (vs := [byte x_b]) Tryz.func114 rfl Tryz.ntmps114 rfl fun a hf => ?_
  have hF : Away [] := away_nil
  have hO : Dk.Own w0 [] w0 [] := Dk.Own.refl w0
  refine wp_seq_k fun _ hK1 => ?_
  refine wp_region_list ?_
  refine op_val (ex_assign hf rfl) rfl hf rfl rfl fun a hf => ?_
  refine wpList_nil ?_
  refine nor_then (hK1 _ _ ?_)
  refine wp_seq_cut (fun a w => ∃ (t3 : Bool), Fits 9 [(2, .bool t3)] a ∧ Dk.Own w0 [] w [] ∧ octet_IsVisible_j1 t3 = some R) ?_ ?_
  · refine wp_region_list ?_
    refine op_val (ex_move hf rfl) rfl hf rfl rfl fun a hf => ?_
    refine op_val (ex_gtr_b (b := x_b) (c := 32) hf rfl rfl) rfl hf rfl rfl fun a hf => ?_
    refine op_val (ex_move hf rfl) rfl hf rfl rfl fun a hf => ?_
    rcases bcase (decide (32 < x_b)) with hc2 | hc2
    · have hm := it hc2 hm
      refine op_guard rfl hf rfl rfl (hc2) ?_
      refine op_val (ex_move hf rfl) rfl hf rfl rfl fun a hf => ?_
      refine op_guard rfl hf rfl rfl (hc2) ?_
      refine op_val (ex_lss_b (b := x_b) (c := 127) hf rfl rfl) rfl hf rfl rfl fun a hf => ?_
      refine op_val (ex_pick_t hf rfl hc2 rfl) rfl hf rfl rfl fun a hf => ?_
      refine op_val (ex_assign hf rfl) rfl hf rfl rfl fun a hf => ?_
      refine wpList_nil ?_
      refine nor_then ?_
      exact ⟨decide (x_b < 127), (hf.cons rfl hf.nil), hO, hm⟩
    · have hm := ie hc2 hm
      refine op_pass rfl hf rfl rfl (hc2) rfl rfl fun a hf => ?_
      refine op_pass rfl hf rfl rfl (hc2) rfl rfl fun a hf => ?_
      refine op_val (ex_pick_f hf rfl hc2 rfl) rfl hf rfl rfl fun a hf => ?_
      refine op_val (ex_assign hf rfl) rfl hf rfl rfl fun a hf => ?_
      refine wpList_nil ?_
      refine nor_then ?_
      exact ⟨false, (hf.cons rfl hf.nil), hO, hm⟩
  · rintro a w ⟨t3, hf, hO, hm⟩
    rw [octet_IsVisible_j1] at hm
    refine wp_ret ?_
    obtain rfl := Option.some.inj hm
    exact post_ret Tryz.results114 hf (.tmp rfl .nil) ⟨rfl, hO.below⟩

set_option maxHeartbeats 1000000 in
theorem w_octet_IsBlank (x_b : UInt8) (R : Bool) (w0 : World) (hG : Glob w0) (hm : octet_IsBlank x_b = some R) :
    Calls Tryz.prog 115 #[byte x_b] w0 fun e w' => e = .returned (.bool R) ∧ Below w0.heap.size w0 w' := by
  rw [octet_IsBlank] at hm
  refine calls_enter (vs := [byte x_b]) Tryz.func115 rfl Tryz.ntmps115 rfl fun a hf => ?_
  have hF : Away [] := away_nil
  have hO : Dk.Own w0 [] w0 [] := Dk.Own.refl w0
  refine wp_seq_k fun _ hK1 => ?_
  refine wp_region_list ?_
  refine op_val (ex_assign hf rfl) rfl hf rfl rfl fun a hf => ?_
  refine wpList_nil ?_
  refine nor_then (hK1 _ _ ?_)
  refine wp_seq_cut (fun a w => ∃ (t3 : Bool), Fits 9 [(2, .bool t3)] a ∧ Dk.Own w0 [] w [] ∧ octet_IsBlank_j1 t3 = some R) ?_ ?_
  · refine wp_region_list ?_
    refine op_val (ex_move hf rfl) rfl hf rfl rfl fun a hf => ?_
    refine op_val (ex_eql_b (b := x_b) (c := 32) hf rfl rfl) rfl hf rfl rfl fun a hf => ?_
    refine op_val (ex_move hf rfl) rfl hf rfl rfl fun a hf => ?_
    rcases bcase (x_b == 32) with hc2 | hc2
    · have hm := it hc2 hm
      refine op_pass rfl hf rfl rfl (hc2) rfl rfl fun a hf => ?_
      refine op_pass rfl hf rfl rfl (hc2) rfl rfl fun a hf => ?_
      refine op_val (ex_pick_t hf rfl hc2 rfl) rfl hf rfl rfl fun a hf => ?_
      refine op_val (ex_assign hf rfl) rfl hf rfl rfl fun a hf => ?_
      refine wpList_nil ?_
      refine nor_then ?_
      exact ⟨true, (hf.cons rfl hf.nil), hO, hm⟩
    · have hm := ie hc2 hm
      refine op_guard rfl hf rfl rfl (hc2) ?_
      refine op_val (ex_move hf rfl) rfl hf rfl rfl fun a hf => ?_
      refine op_guard rfl hf rfl rfl (hc2) ?_
      refine op_val (ex_eql_b (b := x_b) (c := 9) hf rfl rfl) rfl hf rfl rfl fun a hf => ?_
      refine op_val (ex_pick_f hf rfl hc2 rfl) rfl hf rfl rfl fun a hf => ?_
      refine op_val (ex_assign hf rfl) rfl hf rfl rfl fun a hf => ?_
      refine wpList_nil ?_
      refine nor_then ?_
      exact ⟨x_b == 9, (hf.cons rfl hf.nil), hO, hm⟩
  · rintro a w ⟨t3, hf, hO, hm⟩
    rw [octet_IsBlank_j1] at hm
    refine wp_ret ?_
    obtain rfl := Option.some.inj hm
    exact post_ret Tryz.results115 hf (.tmp rfl .nil) ⟨rfl, hO.below⟩

set_option maxHeartbeats 1000000 in
theorem w_octet_IsValue (x_b : UInt8) (R : Bool) (w0 : World) (hG : Glob w0) (hm : octet_IsValue x_b = some R) :
    Calls Tryz.prog 73 #[byte x_b] w0 fun e w' => e = .returned (.bool R) ∧ Below w0.heap.size w0 w' := by
  rw [octet_IsValue] at hm
  refine calls_enter (vs := [byte x_b]) Tryz.func73 rfl Tryz.ntmps73 rfl fun a hf => ?_
  have hF : Away [] := away_nil
  have hO : Dk.Own w0 [] w0 [] := Dk.Own.refl w0
  refine wp_seq_k fun _ hK1 => ?_
  refine wp_region_list ?_
  refine op_val (ex_assign hf rfl) rfl hf rfl rfl fun a hf => ?_
  refine wpList_nil ?_
  refine nor_then (hK1 _ _ ?_)
  refine wp_seq_cut (fun a w => ∃ (t6 : Bool), Fits 13 [(2, .bool t6)] a ∧ Dk.Own w0 [] w [] ∧ octet_IsValue_j1 t6 = some R) ?_ ?_
  · refine wp_region_list ?_
    refine op_val (ex_move hf rfl) rfl hf rfl rfl fun a hf => ?_
    obtain ⟨r2, hr2, hm⟩ := ob hm
    refine op_enter (ex_call c_114 hf (vs := [byte x_b]) rfl) rfl hf rfl rfl (w_octet_IsVisible x_b r2 _ (hG.own hF hO) hr2) ?_
    rintro e w' ⟨he, hb⟩
    refine ⟨_, he, fun a hf => ?_⟩
    have hO := hO.grow hb
    refine op_val (ex_move hf rfl) rfl hf rfl rfl fun a hf => ?_
    rcases bcase (r2) with hc3 | hc3
    · have hm := it hc3 hm
      refine op_pass rfl hf rfl rfl (hc3) rfl rfl fun a hf => ?_
      refine op_pass rfl hf rfl rfl (hc3) rfl rfl fun a hf => ?_
      refine op_val (ex_pick_t hf rfl hc3 rfl) rfl hf rfl rfl fun a hf => ?_
      refine op_val (ex_move hf rfl) rfl hf rfl rfl fun a hf => ?_
      refine op_pass rfl hf rfl rfl (rfl) rfl rfl fun a hf => ?_
      refine op_pass rfl hf rfl rfl (rfl) rfl rfl fun a hf => ?_
      refine op_val (ex_pick_t hf rfl rfl rfl) rfl hf rfl rfl fun a hf => ?_
      refine op_val (ex_assign hf rfl) rfl hf rfl rfl fun a hf => ?_
      refine wpList_nil ?_
      refine nor_then ?_
      exact ⟨true, (hf.cons rfl hf.nil), hO, hm⟩
    · have hm := ie hc3 hm
      refine op_guard rfl hf rfl rfl (hc3) ?_
      refine op_val (ex_move hf rfl) rfl hf rfl rfl fun a hf => ?_
      refine op_guard rfl hf rfl rfl (hc3) ?_
      obtain ⟨r4, hr4, hm⟩ := ob hm
      refine op_enter (ex_call c_115 hf (vs := [byte x_b]) rfl) rfl hf rfl rfl (w_octet_IsBlank x_b r4 _ (hG.own hF hO) hr4) ?_
      rintro e w' ⟨he, hb⟩
      refine ⟨_, he, fun a hf => ?_⟩
      have hO := hO.grow hb
      refine op_val (ex_pick_f hf rfl hc3 rfl) rfl hf rfl rfl fun a hf => ?_
      refine op_val (ex_move hf rfl) rfl hf rfl rfl fun a hf => ?_
      rcases bcase (r4) with hc5 | hc5
      · have hm := it hc5 hm
        refine op_pass rfl hf rfl rfl (hc5) rfl rfl fun a hf => ?_
        refine op_pass rfl hf rfl rfl (hc5) rfl rfl fun a hf => ?_
        refine op_val (ex_pick_t hf rfl hc5 rfl) rfl hf rfl rfl fun a hf => ?_
        refine op_val (ex_assign hf rfl) rfl hf rfl rfl fun a hf => ?_
        refine wpList_nil ?_
        refine nor_then ?_
        exact ⟨true, (hf.cons rfl hf.nil), hO, hm⟩
      · have hm := ie hc5 hm
        refine op_guard rfl hf rfl rfl (hc5) ?_
        refine op_val (ex_move hf rfl) rfl hf rfl rfl fun a hf => ?_
        refine op_guard rfl hf rfl rfl (hc5) ?_
        refine op_val (ex_gtr_b (b := x_b) (c := 127) hf rfl rfl) rfl hf rfl rfl fun a hf => ?_
        refine op_val (ex_pick_f hf rfl hc5 rfl) rfl hf rfl rfl fun a hf => ?_
        refine op_val (ex_assign hf rfl) rfl hf rfl rfl fun a hf => ?_
        refine wpList_nil ?_
        refine nor_then ?_
        exact ⟨decide (127 < x_b), (hf.cons rfl hf.nil), hO, hm⟩
  · rintro a w ⟨t6, hf, hO, hm⟩
    rw [octet_IsValue_j1] at hm
    refine wp_ret ?_
    obtain rfl := Option.some.inj hm
    exact post_ret Tryz.results73 hf (.tmp rfl .nil) ⟨rfl, hO.below⟩

set_option maxHeartbeats 1000000 in
theorem w_cookie_part (x_s : Str) (R : api_Attr × Bool) (w0 : World) (hG : Glob w0) (hm : cookie_part x_s = some R) :
    Calls Tryz.prog 37 #[str x_s] w0 fun e w' => e = .returned (.tuple #[.agg #[str R.1.Name, str R.1.Value, .bool R.1.Has], .bool R.2]) ∧ Below w0.heap.size w0 w' := by
  rw [cookie_part] at hm
  refine calls_enter (vs := [str x_s]) Tryz.func37 rfl Tryz.ntmps37 rfl fun a hf => ?_
  have hF : Away [] := away_nil
  have hO : Dk.Own w0 [] w0 [] := Dk.Own.refl w0
  refine wp_seq_k fun _ hK2 => ?_
  refine wp_region_list ?_
  refine op_alloc al_66 hf rfl hO fun a b1 w hf hO => ?_
  refine op_val (ex_assign hf rfl) rfl hf rfl rfl fun a hf => ?_
  refine wpList_nil ?_
  refine nor_then (hK2 _ _ ?_)
  refine wp_seq_k fun _ hK6 => ?_
  refine wp_region_list ?_
  refine op_val (ex_move hf rfl) rfl hf rfl rfl fun a hf => ?_
  obtain ⟨r3, hr3, hm⟩ := ob hm
  refine op_enter (ex_call c_66 hf (vs := [str x_s, str [32, 9]]) rfl) rfl hf rfl rfl (w_strings_Trim x_s [32, 9] r3 _ (hG.own hF hO) hr3) ?_
  rintro e w' ⟨he, hb⟩
  refine ⟨_, he, fun a hf => ?_⟩
  have hO := hO.grow hb
  obtain ⟨r4, hr4, hm⟩ := ob hm
  refine op_enter (ex_call c_65 hf (vs := [str r3]) rfl) rfl hf rfl rfl (w_scan_New r3 r4 _ (hG.own hF hO) hr4) ?_
  rintro e w' ⟨b5, he, hO'⟩
  refine ⟨_, he, fun a hf => ?_⟩
  have hO := hO.call hO' (by simp [Res.shared])
  refine op_val (ex_assign hf rfl) rfl hf rfl rfl fun a hf => ?_
  refine wpList_nil ?_
  refine nor_then (hK6 _ _ ?_)
  refine wp_seq_k fun _ hK8 => ?_
  refine wp_region_list ?_
  refine op_val (ex_move hf rfl) rfl hf rfl rfl fun a hf => ?_
  obtain ⟨r7, hr7, hm⟩ := ob hm
  refine op_enter (ex_call c_67 hf (vs := [ptr b5 0]) rfl) rfl hf rfl rfl (w_scan_Scanner_Token r4 r7 _ (hG.own hF hO) (Dk.Own.far (show Dk.Own w0 [] _ ([.blk b5 [str r4.f_s, int r4.f_at] 115] ++ [.blk b1 [str [], str [], .bool false] 66]) from hO) rfl hF hG.size) ((show Dk.Own w0 [] _ ([.blk b5 [str r4.f_s, int r4.f_at] 115] ++ [.blk b1 [str [], str [], .bool false] 66]) from hO).lend rfl trivial) hr7) ?_
  rintro e w' ⟨he, hO'⟩
  refine ⟨_, he, fun a hf => ?_⟩
  have hO := (show Dk.Own w0 [] _ ([.blk b5 [str r4.f_s, int r4.f_at] 115] ++ [.blk b1 [str [], str [], .bool false] 66]) from hO).back rfl hO' rfl
  refine op_val (ex_move hf rfl) rfl hf rfl rfl fun a hf => ?_
  refine op_val (ex_extract hf rfl rfl) rfl hf rfl rfl fun a hf => ?_
  refine op_val (ex_extract hf rfl rfl) rfl hf rfl rfl fun a hf => ?_
  refine op_val (ex_assign hf rfl) rfl hf rfl rfl fun a hf => ?_
  refine op_val (ex_assign hf rfl) rfl hf rfl rfl fun a hf => ?_
  refine wpList_nil ?_
  refine nor_then (hK8 _ _ ?_)
  refine wp_seq_k fun _ hK11 => ?_
  refine wp_region_list ?_
  refine op_val (ex_move hf rfl) rfl hf rfl rfl fun a hf => ?_
  refine op_val (ex_move hf rfl) rfl hf rfl rfl fun a hf => ?_
  obtain ⟨r9, hr9, hm⟩ := ob hm
  refine op_enter (ex_call c_68 hf (vs := [ptr b5 0, byte 61]) rfl) rfl hf rfl rfl (w_scan_Scanner_Byte r7.2.2 61 r9 _ (hG.own hF hO) (Dk.Own.far (show Dk.Own w0 [] _ ([.blk b5 [str r7.2.2.f_s, int r7.2.2.f_at] 115] ++ [.blk b1 [str [], str [], .bool false] 66]) from hO) rfl hF hG.size) ((show Dk.Own w0 [] _ ([.blk b5 [str r7.2.2.f_s, int r7.2.2.f_at] 115] ++ [.blk b1 [str [], str [], .bool false] 66]) from hO).lend rfl trivial) hr9) ?_
  rintro e w' ⟨he, hO'⟩
  refine ⟨_, he, fun a hf => ?_⟩
  have hO := (show Dk.Own w0 [] _ ([.blk b5 [str r7.2.2.f_s, int r7.2.2.f_at] 115] ++ [.blk b1 [str [], str [], .bool false] 66]) from hO).back rfl hO' rfl
  refine op_val (ex_build (vs := [(0, str r7.1), (2, .bool r9.1)]) (v := .agg #[str r7.1, str [], .bool r9.1]) hf rfl (by kernel_rfl)) rfl hf rfl rfl fun a hf => ?_
  refine op_alloc al_66 hf rfl hO fun a b10 w hf hO => ?_
  refine op_storeN (i := 0) (n := 3) sz_66 rfl rfl rfl (by simp [Value.oneCell']) hf rfl rfl hO fun w hO => ?_
  refine wpList_nil ?_
  refine nor_then (hK11 _ _ ?_)
  refine wp_seq_cut (fun a w => ∃ (s15 : Str) (i16 : Int) (s17 : Str), Fits 45 [(2, ptr b1 0), (4, ptr b5 0), (6, .bool r7.2.1), (7, ptr b10 0)] a ∧ Dk.Own w0 [] w [.blk b5 [str s15, int i16] 115, .blk b10 [str r7.1, str s17, .bool r9.1] 66, .blk b1 [str [], str [], .bool false] 66] ∧ cookie_part_j1 r7 r9 s15 i16 s17 = some R) ?_ ?_
  · refine wp_seq_k fun _ hK12 => ?_
    refine wp_region_list ?_
    refine op_val (ex_field fa_66_2 hf rfl) rfl hf rfl rfl fun a hf => ?_
    refine op_val (ex_load1 (o := 2) ag_4 (hO.blkSees (i := 0) rfl) rfl hf rfl) rfl hf rfl rfl fun a hf => ?_
    refine wpList_nil ?_
    refine nor_then (hK12 _ _ ?_)
    refine wp_cond_cut hf rfl (fun hc13 => ?_) (fun hc13 => ?_)
    · have hm := it hc13 hm
      refine wp_region_list ?_
      refine op_val (ex_move hf rfl) rfl hf rfl rfl fun a hf => ?_
      obtain ⟨r14, hr14, hm⟩ := ob hm
      refine op_enter (ex_call c_69 hf (vs := [ptr b5 0, .func (.func 70) #[] #[]]) rfl) rfl hf rfl rfl (w_scan_Scanner_While r9.2 cookie_part_1 r14 _ (hG.own hF hO) (Dk.Own.far (show Dk.Own w0 [] _ ([.blk b5 [str r9.2.f_s, int r9.2.f_at] 115] ++ [.blk b10 [str r7.1, str [], .bool r9.1] 66, .blk b1 [str [], str [], .bool false] 66]) from hO.choose [1, 0, 2] rfl) rfl hF hG.size) ((show Dk.Own w0 [] _ ([.blk b5 [str r9.2.f_s, int r9.2.f_at] 115] ++ [.blk b10 [str r7.1, str [], .bool r9.1] 66, .blk b1 [str [], str [], .bool false] 66]) from hO.choose [1, 0, 2] rfl).lend rfl trivial) c_70 (fun y0 r w hG h => callsE (w_cookie_part_1 y0 r w hG h)) hr14) ?_
      rintro e w' ⟨he, hO'⟩
      refine ⟨_, he, fun a hf => ?_⟩
      have hO := (show Dk.Own w0 [] _ ([.blk b5 [str r9.2.f_s, int r9.2.f_at] 115] ++ [.blk b10 [str r7.1, str [], .bool r9.1] 66, .blk b1 [str [], str [], .bool false] 66]) from hO.choose [1, 0, 2] rfl).back rfl hO' rfl
      refine op_val (ex_field fa_66_1 hf rfl) rfl hf rfl rfl fun a hf => ?_
      refine op_store1 (i := 1) (o := 1) (v := str r14.1) sz_9 rfl rfl rfl rfl hf rfl rfl hO fun w hO => ?_
      refine wpList_nil ?_
      refine nor_then ?_
      exact ⟨r14.2.f_s, r14.2.f_at, r14.1, (hf.cons rfl (hf.cons rfl (hf.cons rfl (hf.cons rfl hf.nil)))), hO, hm⟩
    · have hm := ie hc13 hm
      refine wp_skip ?_
      refine nor_then ?_
      exact ⟨r9.2.f_s, r9.2.f_at, [], (hf.cons rfl (hf.cons rfl (hf.cons rfl (hf.cons rfl hf.nil)))), (hO.choose [1, 0, 2] rfl), hm⟩
  · rintro a w ⟨s15, i16, s17, hf, hO, hm⟩
    rw [cookie_part_j1] at hm
    refine wp_seq_cut (fun a w => ∃ (t25 : Bool), Fits 45 [(2, ptr b1 0), (3, .bool t25)] a ∧ Dk.Own w0 [] w [.blk b5 [str s15, int i16] 115, .blk b10 [str r7.1, str s17, .bool r9.1] 66, .blk b1 [str r7.1, str s17, .bool r9.1] 66] ∧ cookie_part_j2 r7 r9 s17 t25 = some R) ?_ ?_
    · rcases bcase (r7.2.1) with hc18 | hc18
      · have hm := it hc18 hm
        obtain ⟨r19, hr19, hm⟩ := ob hm
        rcases bcase (r19) with hc20 | hc20
        · have hm := it hc20 hm
          obtain ⟨r22, hr22, hm⟩ := ob hm
          rcases bcase (r22) with hc23 | hc23
          · have hm := it hc23 hm
            obtain ⟨r24, hr24, hm⟩ := ob hm
            refine wp_drawG' (S := Nat) (E0 := [(2, ptr b1 0), (4, ptr b5 0), (6, .bool r7.2.1), (7, ptr b10 0)]) (by kernel_rfl) (fun k σ w => match k with | 0 => Dk.Own w0 [] w [.blk b5 [str s15, int i16] 115, .blk b10 [str r7.1, str s17, .bool r9.1] 66, .blk b1 [str [], str [], .bool false] 66] | 1 => Dk.Own w0 [] w [.blk b5 [str s15, int i16] 115, .blk b10 [str r7.1, str s17, .bool r9.1] 66, .blk b1 [str [], str [], .bool false] 66] | 2 => Dk.Own w0 [] w [.row (.slice (some ⟨σ, 0, none⟩) ([s17].length) 1) 9 1 ([s17].length) (cells enc_str [s17]), .blk b5 [str s15, int i16] 115, .blk b10 [str r7.1, str s17, .bool r9.1] 66, .blk b1 [str [], str [], .bool false] 66] | 3 => Dk.Own w0 [] w [.row (.slice (some ⟨σ, 0, none⟩) ([s17].length) 1) 9 1 ([s17].length) (cells enc_str [s17]), .blk b5 [str s15, int i16] 115, .blk b10 [str r7.1, str s17, .bool r9.1] 66, .blk b1 [str [], str [], .bool false] 66] | 4 => Dk.Own w0 [] w [.row (.slice (some ⟨σ, 0, none⟩) ([s17].length) 1) 9 1 ([s17].length) (cells enc_str [s17]), .blk b5 [str s15, int i16] 115, .blk b10 [str r7.1, str s17, .bool r9.1] 66, .blk b1 [str [], str [], .bool false] 66] | _ => Dk.Own w0 [] w [.row (.slice (some ⟨σ, 0, none⟩) ([s17].length) 1) 9 1 ([s17].length) (cells enc_str [s17]), .blk b5 [str s15, int i16] 115, .blk b10 [str r7.1, str s17, .bool r9.1] 66, .blk b1 [str r7.1, str s17, .bool r9.1] 66]) (fun σ => [⟨[(7, ptr b10 0)], some (25, .agg #[str r7.1, str s17, .bool r9.1])⟩, ⟨[(6, .bool r7.2.1)], some (26, .bool r7.2.1)⟩, ⟨[(26, .bool r7.2.1)], some (27, .bool r7.2.1)⟩, ⟨[(4, ptr b5 0), (27, .bool r7.2.1)], some (28, ptr b5 0)⟩, ⟨[(28, ptr b5 0), (27, .bool r7.2.1)], some (29, .bool r19)⟩, ⟨[(27, .bool r7.2.1), (29, .bool r19)], some (30, .bool r19)⟩, ⟨[(30, .bool r19)], some (31, .bool r19)⟩, ⟨[(7, ptr b10 0), (31, .bool r19)], some (32, ptr b10 1)⟩, ⟨[(32, ptr b10 1), (31, .bool r19)], some (33, str s17)⟩, ⟨[(33, str s17), (31, .bool r19)], some (34, .slice (some ⟨σ, 0, none⟩) ([s17].length) 1)⟩, ⟨[(34, .slice (some ⟨σ, 0, none⟩) ([s17].length) 1), (31, .bool r19)], some (35, .bool r22)⟩, ⟨[(31, .bool r19), (35, .bool r22)], some (36, .bool r22)⟩, ⟨[(36, .bool r22)], some (37, .bool r22)⟩, ⟨[(7, ptr b10 0), (37, .bool r22)], some (38, ptr b10 1)⟩, ⟨[(38, ptr b10 1), (37, .bool r22)], some (39, str s17)⟩, ⟨[(39, str s17), (37, .bool r22)], some (40, str r24)⟩, ⟨[(7, ptr b10 0), (37, .bool r22)], some (41, ptr b10 1)⟩, ⟨[(41, ptr b10 1), (37, .bool r22)], some (42, str s17)⟩, ⟨[(40, str r24), (42, str s17), (37, .bool r22)], some (43, .bool (r24 == s17))⟩, ⟨[(37, .bool r22), (43, .bool (r24 == s17))], some (44, .bool (r24 == s17))⟩, ⟨[(2, ptr b1 0), (25, .agg #[str r7.1, str s17, .bool r9.1])], none⟩, ⟨[(44, .bool (r24 == s17))], some (3, .bool (r24 == s17))⟩]) (0) [4, 9, 10, 15, 20] [] ⟨g_none rfl rfl, ⟨g_none rfl rfl, ⟨g_none rfl rfl, ⟨g_some (u := fun σ => r7.2.1) rfl (fun σ => rfl) rfl (fun σ => rfl) (fun σ => by rw [hc18] <;> rfl), ⟨g_some (u := fun σ => r7.2.1) rfl (fun σ => rfl) rfl (fun σ => rfl) (fun σ => by rw [hc18] <;> rfl), ⟨g_none rfl rfl, ⟨g_none rfl rfl, ⟨g_some (u := fun σ => r19) rfl (fun σ => rfl) rfl (fun σ => rfl) (fun σ => by rw [hc20] <;> rfl), ⟨g_some (u := fun σ => r19) rfl (fun σ => rfl) rfl (fun σ => rfl) (fun σ => by rw [hc20] <;> rfl), ⟨g_some (u := fun σ => r19) rfl (fun σ => rfl) rfl (fun σ => rfl) (fun σ => by rw [hc20] <;> rfl), ⟨g_some (u := fun σ => r19) rfl (fun σ => rfl) rfl (fun σ => rfl) (fun σ => by rw [hc20] <;> rfl), ⟨g_none rfl rfl, ⟨g_none rfl rfl, ⟨g_some (u := fun σ => r22) rfl (fun σ => rfl) rfl (fun σ => rfl) (fun σ => by rw [hc23] <;> rfl), ⟨g_some (u := fun σ => r22) rfl (fun σ => rfl) rfl (fun σ => rfl) (fun σ => by rw [hc23] <;> rfl), ⟨g_some (u := fun σ => r22) rfl (fun σ => rfl) rfl (fun σ => rfl) (fun σ => by rw [hc23] <;> rfl), ⟨g_some (u := fun σ => r22) rfl (fun σ => rfl) rfl (fun σ => rfl) (fun σ => by rw [hc23] <;> rfl), ⟨g_some (u := fun σ => r22) rfl (fun σ => rfl) rfl (fun σ => rfl) (fun σ => by rw [hc23] <;> rfl), ⟨g_some (u := fun σ => r22) rfl (fun σ => rfl) rfl (fun σ => rfl) (fun σ => by rw [hc23] <;> rfl), ⟨g_none rfl rfl, ⟨g_none rfl rfl, ⟨g_none rfl rfl, trivial⟩⟩⟩⟩⟩⟩⟩⟩⟩⟩⟩⟩⟩⟩⟩⟩⟩⟩⟩⟩⟩⟩ (fun σ => ⟨.inl rfl, ⟨.inl rfl, ⟨.inl rfl, ⟨.inl rfl, ⟨.inl rfl, ⟨.inl rfl, ⟨.inl rfl, ⟨.inl rfl, ⟨.inl rfl, ⟨.inl rfl, ⟨.inl rfl, ⟨.inl rfl, ⟨.inl rfl, ⟨.inl rfl, ⟨.inl rfl, ⟨.inl rfl, ⟨.inl rfl, ⟨.inl rfl, ⟨.inl rfl, ⟨.inl rfl, ⟨.inl rfl, ⟨.inl rfl, trivial⟩⟩⟩⟩⟩⟩⟩⟩⟩⟩⟩⟩⟩⟩⟩⟩⟩⟩⟩⟩⟩⟩) (fun _ => rfl) (fun _ => rfl) (fun _ => rfl) rfl rfl (by decide) rfl hO.drew (hf.cons rfl (hf.cons rfl (hf.cons rfl (hf.cons rfl hf.nil)))) (fun σ => ⟨⟨rfl, trivial⟩, ⟨⟨rfl, trivial⟩, ⟨⟨rfl, trivial⟩, ⟨⟨rfl, ⟨rfl, trivial⟩⟩, ⟨⟨rfl, ⟨rfl, trivial⟩⟩, ⟨⟨rfl, ⟨rfl, trivial⟩⟩, ⟨⟨rfl, trivial⟩, ⟨⟨rfl, ⟨rfl, trivial⟩⟩, ⟨⟨rfl, ⟨rfl, trivial⟩⟩, ⟨⟨rfl, ⟨rfl, trivial⟩⟩, ⟨⟨rfl, ⟨rfl, trivial⟩⟩, ⟨⟨rfl, ⟨rfl, trivial⟩⟩, ⟨⟨rfl, trivial⟩, ⟨⟨rfl, ⟨rfl, trivial⟩⟩, ⟨⟨rfl, ⟨rfl, trivial⟩⟩, ⟨⟨rfl, ⟨rfl, trivial⟩⟩, ⟨⟨rfl, ⟨rfl, trivial⟩⟩, ⟨⟨rfl, ⟨rfl, trivial⟩⟩, ⟨⟨rfl, ⟨rfl, ⟨rfl, trivial⟩⟩⟩, ⟨⟨rfl, ⟨rfl, trivial⟩⟩, ⟨⟨rfl, ⟨rfl, trivial⟩⟩, ⟨⟨rfl, trivial⟩, trivial⟩⟩⟩⟩⟩⟩⟩⟩⟩⟩⟩⟩⟩⟩⟩⟩⟩⟩⟩⟩⟩⟩) ⟨.inr ⟨rfl, sS_pure rfl (fun σ => rfl) (fun σ => rfl) (fun σ a w k hk hlo hup hst hf => match k, hk, hlo, hup, hst, hf with | 0, _, _, _, hst, hf => have hO : Dk.Own w0 [] w [.blk b5 [str s15, int i16] 115, .blk b10 [str r7.1, str s17, .bool r9.1] 66, .blk b1 [str [], str [], .bool false] 66] := hst; ex_loadN (o := 0) (vs := [str r7.1, str s17, .bool r9.1]) ag_66 sz_66 (hO.blkSees (i := 1) rfl) rfl rfl hf rfl | 1, _, _, _, hst, hf => have hO : Dk.Own w0 [] w [.blk b5 [str s15, int i16] 115, .blk b10 [str r7.1, str s17, .bool r9.1] 66, .blk b1 [str [], str [], .bool false] 66] := hst; ex_loadN (o := 0) (vs := [str r7.1, str s17, .bool r9.1]) ag_66 sz_66 (hO.blkSees (i := 1) rfl) rfl rfl hf rfl | 2, _, _, _, hst, hf => have hO : Dk.Own w0 [] w [.row (.slice (some ⟨σ, 0, none⟩) ([s17].length) 1) 9 1 ([s17].length) (cells enc_str [s17]), .blk b5 [str s15, int i16] 115, .blk b10 [str r7.1, str s17, .bool r9.1] 66, .blk b1 [str [], str [], .bool false] 66] := hst; ex_loadN (o := 0) (vs := [str r7.1, str s17, .bool r9.1]) ag_66 sz_66 (hO.blkSees (i := 2) rfl) rfl rfl hf rfl | 3, _, _, _, hst, hf => have hO : Dk.Own w0 [] w [.row (.slice (some ⟨σ, 0, none⟩) ([s17].length) 1) 9 1 ([s17].length) (cells enc_str [s17]), .blk b5 [str s15, int i16] 115, .blk b10 [str r7.1, str s17, .bool r9.1] 66, .blk b1 [str [], str [], .bool false] 66] := hst; ex_loadN (o := 0) (vs := [str r7.1, str s17, .bool r9.1]) ag_66 sz_66 (hO.blkSees (i := 2) rfl) rfl rfl hf rfl | 4, _, _, _, hst, hf => have hO : Dk.Own w0 [] w [.row (.slice (some ⟨σ, 0, none⟩) ([s17].length) 1) 9 1 ([s17].length) (cells enc_str [s17]), .blk b5 [str s15, int i16] 115, .blk b10 [str r7.1, str s17, .bool r9.1] 66, .blk b1 [str [], str [], .bool false] 66] := hst; ex_loadN (o := 0) (vs := [str r7.1, str s17, .bool r9.1]) ag_66 sz_66 (hO.blkSees (i := 2) rfl) rfl rfl hf rfl | 5, _, _, _, hst, hf => have hO : Dk.Own w0 [] w [.row (.slice (some ⟨σ, 0, none⟩) ([s17].length) 1) 9 1 ([s17].length) (cells enc_str [s17]), .blk b5 [str s15, int i16] 115, .blk b10 [str r7.1, str s17, .bool r9.1] 66, .blk b1 [str r7.1, str s17, .bool r9.1] 66] := hst; ex_loadN (o := 0) (vs := [str r7.1, str s17, .bool r9.1]) ag_66 sz_66 (hO.blkSees (i := 2) rfl) rfl rfl hf rfl | k + 6, hk, _, _, _, _ => absurd hk (by simp))⟩, ⟨.inr ⟨rfl, sS_pure rfl (fun σ => rfl) (fun σ => rfl) (fun σ a w k _ _ _ _ hf => ex_move hf rfl)⟩, ⟨.inr ⟨rfl, sS_pure rfl (fun σ => rfl) (fun σ => rfl) (fun σ a w k _ _ _ _ hf => ex_move hf rfl)⟩, ⟨.inr ⟨rfl, sS_pure rfl (fun σ => rfl) (fun σ => rfl) (fun σ a w k _ _ _ _ hf => ex_move hf rfl)⟩, ⟨.inr ⟨rfl, sS_call rfl (fun σ => rfl) (fun σ => rfl) rfl (fun σ a w (_ : _) hf => ex_call c_71 hf (vs := [ptr b5 0]) rfl) (fun σ w (hO : Dk.Own w0 [] w [.blk b5 [str s15, int i16] 115, .blk b10 [str r7.1, str s17, .bool r9.1] 66, .blk b1 [str [], str [], .bool false] 66]) => (w_scan_Scanner_End (⟨s15, i16⟩ : scan_Scanner) r19 _ (hG.own hF hO) (hO.blkSees (i := 0) rfl) hr19).mono fun e w' h => by obtain ⟨he, hb⟩ := h; exact ⟨(σ), he, hO.grow hb, ⟨.inr rfl, ⟨.inr rfl, ⟨.inr rfl, ⟨.inr rfl, ⟨.inr rfl, ⟨.inr rfl, ⟨.inr rfl, ⟨.inr rfl, ⟨.inr rfl, ⟨.inr rfl, ⟨.inr rfl, ⟨.inr rfl, ⟨.inr rfl, ⟨.inr rfl, ⟨.inr rfl, ⟨.inr rfl, ⟨.inr rfl, ⟨.inr rfl, ⟨.inr rfl, ⟨.inr rfl, ⟨.inr rfl, ⟨.inr rfl, trivial⟩⟩⟩⟩⟩⟩⟩⟩⟩⟩⟩⟩⟩⟩⟩⟩⟩⟩⟩⟩⟩⟩⟩)⟩, ⟨.inr ⟨rfl, sS_pure rfl (fun σ => rfl) (fun σ => rfl) (fun σ a w k _ _ _ _ hf => ex_pick_t hf rfl hc18 rfl)⟩, ⟨.inr ⟨rfl, sS_pure rfl (fun σ => rfl) (fun σ => rfl) (fun σ a w k _ _ _ _ hf => ex_move hf rfl)⟩, ⟨.inr ⟨rfl, sS_pure rfl (fun σ => rfl) (fun σ => rfl) (fun σ a w k _ _ _ _ hf => ex_field fa_66_1 hf rfl)⟩, ⟨.inr ⟨rfl, sS_pure rfl (fun σ => rfl) (fun σ => rfl) (fun σ a w k hk hlo hup hst hf => match k, hk, hlo, hup, hst, hf with | 0, _, _, _, hst, hf => have hO : Dk.Own w0 [] w [.blk b5 [str s15, int i16] 115, .blk b10 [str r7.1, str s17, .bool r9.1] 66, .blk b1 [str [], str [], .bool false] 66] := hst; ex_load1 (o := 1) ag_9 (hO.blkSees (i := 1) rfl) rfl hf rfl | 1, _, _, _, hst, hf => have hO : Dk.Own w0 [] w [.blk b5 [str s15, int i16] 115, .blk b10 [str r7.1, str s17, .bool r9.1] 66, .blk b1 [str [], str [], .bool false] 66] := hst; ex_load1 (o := 1) ag_9 (hO.blkSees (i := 1) rfl) rfl hf rfl | 2, _, _, _, hst, hf => have hO : Dk.Own w0 [] w [.row (.slice (some ⟨σ, 0, none⟩) ([s17].length) 1) 9 1 ([s17].length) (cells enc_str [s17]), .blk b5 [str s15, int i16] 115, .blk b10 [str r7.1, str s17, .bool r9.1] 66, .blk b1 [str [], str [], .bool false] 66] := hst; ex_load1 (o := 1) ag_9 (hO.blkSees (i := 2) rfl) rfl hf rfl | 3, _, _, _, hst, hf => have hO : Dk.Own w0 [] w [.row (.slice (some ⟨σ, 0, none⟩) ([s17].length) 1) 9 1 ([s17].length) (cells enc_str [s17]), .blk b5 [str s15, int i16] 115, .blk b10 [str r7.1, str s17, .bool r9.1] 66, .blk b1 [str [], str [], .bool false] 66] := hst; ex_load1 (o := 1) ag_9 (hO.blkSees (i := 2) rfl) rfl hf rfl | 4, _, _, _, hst, hf => have hO : Dk.Own w0 [] w [.row (.slice (some ⟨σ, 0, none⟩) ([s17].length) 1) 9 1 ([s17].length) (cells enc_str [s17]), .blk b5 [str s15, int i16] 115, .blk b10 [str r7.1, str s17, .bool r9.1] 66, .blk b1 [str [], str [], .bool false] 66] := hst; ex_load1 (o := 1) ag_9 (hO.blkSees (i := 2) rfl) rfl hf rfl | 5, _, _, _, hst, hf => have hO : Dk.Own w0 [] w [.row (.slice (some ⟨σ, 0, none⟩) ([s17].length) 1) 9 1 ([s17].length) (cells enc_str [s17]), .blk b5 [str s15, int i16] 115, .blk b10 [str r7.1, str s17, .bool r9.1] 66, .blk b1 [str r7.1, str s17, .bool r9.1] 66] := hst; ex_load1 (o := 1) ag_9 (hO.blkSees (i := 2) rfl) rfl hf rfl | k + 6, hk, _, _, _, _ => absurd hk (by simp))⟩, ⟨.inr ⟨rfl, sS_val rfl (fun σ => rfl) (fun σ => rfl) rfl (fun σ w (hO : Dk.Own w0 [] w [.blk b5 [str s15, int i16] 115, .blk b10 [str r7.1, str s17, .bool r9.1] 66, .blk b1 [str [], str [], .bool false] 66]) => by obtain ⟨b21, w', hO', hr⟩ := ef_buildSlice (E := [(33, str s17), (31, .bool r19)]) (parts := #[(0, (.tmp 33))]) (t' := 70) (n := 1) (vs := [(0, str s17)]) (cs := [str s17]) (e := 9) (sz := 1) (fun w => by kernel_rfl) rfl rfl hO rfl; exact ⟨(b21), w', hO', ⟨.inr rfl, ⟨.inr rfl, ⟨.inr rfl, ⟨.inr rfl, ⟨.inr rfl, ⟨.inr rfl, ⟨.inr rfl, ⟨.inr rfl, ⟨.inr rfl, ⟨.inl rfl, ⟨.inl rfl, ⟨.inr rfl, ⟨.inr rfl, ⟨.inr rfl, ⟨.inr rfl, ⟨.inr rfl, ⟨.inr rfl, ⟨.inr rfl, ⟨.inr rfl, ⟨.inr rfl, ⟨.inr rfl, ⟨.inr rfl, trivial⟩⟩⟩⟩⟩⟩⟩⟩⟩⟩⟩⟩⟩⟩⟩⟩⟩⟩⟩⟩⟩⟩, hr⟩)⟩, ⟨.inr ⟨rfl, sS_call rfl (fun σ => rfl) (fun σ => rfl) rfl (fun σ a w (_ : _) hf => ex_call c_72 hf (vs := [.func (.func 73) #[] #[], .slice (some ⟨σ, 0, none⟩) ([s17].length) 1]) rfl) (fun σ w (hO : Dk.Own w0 [] w [.row (.slice (some ⟨σ, 0, none⟩) ([s17].length) 1) 9 1 ([s17].length) (cells enc_str [s17]), .blk b5 [str s15, int i16] 115, .blk b10 [str r7.1, str s17, .bool r9.1] 66, .blk b1 [str [], str [], .bool false] 66]) => (w_octet_All octet_IsValue [s17] r22 _ (hG.own hF hO) c_73 (fun y0 r w hG h => callsE (w_octet_IsValue y0 r w hG h)) (hO.rowSees (i := 0) rfl) (hO.rowCap (i := 0) rfl) hr22).mono fun e w' h => by obtain ⟨he, hb⟩ := h; exact ⟨(σ), he, hO.grow hb, ⟨.inr rfl, ⟨.inr rfl, ⟨.inr rfl, ⟨.inr rfl, ⟨.inr rfl, ⟨.inr rfl, ⟨.inr rfl, ⟨.inr rfl, ⟨.inr rfl, ⟨.inr rfl, ⟨.inr rfl, ⟨.inr rfl, ⟨.inr rfl, ⟨.inr rfl, ⟨.inr rfl, ⟨.inr rfl, ⟨.inr rfl, ⟨.inr rfl, ⟨.inr rfl, ⟨.inr rfl, ⟨.inr rfl, ⟨.inr rfl, trivial⟩⟩⟩⟩⟩⟩⟩⟩⟩⟩⟩⟩⟩⟩⟩⟩⟩⟩⟩⟩⟩⟩⟩)⟩, ⟨.inr ⟨rfl, sS_pure rfl (fun σ => rfl) (fun σ => rfl) (fun σ a w k _ _ _ _ hf => ex_pick_t hf rfl hc20 rfl)⟩, ⟨.inr ⟨rfl, sS_pure rfl (fun σ => rfl) (fun σ => rfl) (fun σ a w k _ _ _ _ hf => ex_move hf rfl)⟩, ⟨.inr ⟨rfl, sS_pure rfl (fun σ => rfl) (fun σ => rfl) (fun σ a w k _ _ _ _ hf => ex_field fa_66_1 hf rfl)⟩, ⟨.inr ⟨rfl, sS_pure rfl (fun σ => rfl) (fun σ => rfl) (fun σ a w k hk hlo hup hst hf => match k, hk, hlo, hup, hst, hf with | 0, _, _, _, hst, hf => have hO : Dk.Own w0 [] w [.blk b5 [str s15, int i16] 115, .blk b10 [str r7.1, str s17, .bool r9.1] 66, .blk b1 [str [], str [], .bool false] 66] := hst; ex_load1 (o := 1) ag_9 (hO.blkSees (i := 1) rfl) rfl hf rfl | 1, _, _, _, hst, hf => have hO : Dk.Own w0 [] w [.blk b5 [str s15, int i16] 115, .blk b10 [str r7.1, str s17, .bool r9.1] 66, .blk b1 [str [], str [], .bool false] 66] := hst; ex_load1 (o := 1) ag_9 (hO.blkSees (i := 1) rfl) rfl hf rfl | 2, _, _, _, hst, hf => have hO : Dk.Own w0 [] w [.row (.slice (some ⟨σ, 0, none⟩) ([s17].length) 1) 9 1 ([s17].length) (cells enc_str [s17]), .blk b5 [str s15, int i16] 115, .blk b10 [str r7.1, str s17, .bool r9.1] 66, .blk b1 [str [], str [], .bool false] 66] := hst; ex_load1 (o := 1) ag_9 (hO.blkSees (i := 2) rfl) rfl hf rfl | 3, _, _, _, hst, hf => have hO : Dk.Own w0 [] w [.row (.slice (some ⟨σ, 0, none⟩) ([s17].length) 1) 9 1 ([s17].length) (cells enc_str [s17]), .blk b5 [str s15, int i16] 115, .blk b10 [str r7.1, str s17, .bool r9.1] 66, .blk b1 [str [], str [], .bool false] 66] := hst; ex_load1 (o := 1) ag_9 (hO.blkSees (i := 2) rfl) rfl hf rfl | 4, _, _, _, hst, hf => have hO : Dk.Own w0 [] w [.row (.slice (some ⟨σ, 0, none⟩) ([s17].length) 1) 9 1 ([s17].length) (cells enc_str [s17]), .blk b5 [str s15, int i16] 115, .blk b10 [str r7.1, str s17, .bool r9.1] 66, .blk b1 [str [], str [], .bool false] 66] := hst; ex_load1 (o := 1) ag_9 (hO.blkSees (i := 2) rfl) rfl hf rfl | 5, _, _, _, hst, hf => have hO : Dk.Own w0 [] w [.row (.slice (some ⟨σ, 0, none⟩) ([s17].length) 1) 9 1 ([s17].length) (cells enc_str [s17]), .blk b5 [str s15, int i16] 115, .blk b10 [str r7.1, str s17, .bool r9.1] 66, .blk b1 [str r7.1, str s17, .bool r9.1] 66] := hst; ex_load1 (o := 1) ag_9 (hO.blkSees (i := 2) rfl) rfl hf rfl | k + 6, hk, _, _, _, _ => absurd hk (by simp))⟩, ⟨.inr ⟨rfl, sS_call rfl (fun σ => rfl) (fun σ => rfl) rfl (fun σ a w (_ : _) hf => ex_call c_66 hf (vs := [str s17, str [32, 9]]) rfl) (fun σ w (hO : Dk.Own w0 [] w [.row (.slice (some ⟨σ, 0, none⟩) ([s17].length) 1) 9 1 ([s17].length) (cells enc_str [s17]), .blk b5 [str s15, int i16] 115, .blk b10 [str r7.1, str s17, .bool r9.1] 66, .blk b1 [str [], str [], .bool false] 66]) => (w_strings_Trim s17 [32, 9] r24 _ (hG.own hF hO) hr24).mono fun e w' h => by obtain ⟨he, hb⟩ := h; exact ⟨(σ), he, hO.grow hb, ⟨.inr rfl, ⟨.inr rfl, ⟨.inr rfl, ⟨.inr rfl, ⟨.inr rfl, ⟨.inr rfl, ⟨.inr rfl, ⟨.inr rfl, ⟨.inr rfl, ⟨.inr rfl, ⟨.inr rfl, ⟨.inr rfl, ⟨.inr rfl, ⟨.inr rfl, ⟨.inr rfl, ⟨.inr rfl, ⟨.inr rfl, ⟨.inr rfl, ⟨.inr rfl, ⟨.inr rfl, ⟨.inr rfl, ⟨.inr rfl, trivial⟩⟩⟩⟩⟩⟩⟩⟩⟩⟩⟩⟩⟩⟩⟩⟩⟩⟩⟩⟩⟩⟩⟩)⟩, ⟨.inr ⟨rfl, sS_pure rfl (fun σ => rfl) (fun σ => rfl) (fun σ a w k _ _ _ _ hf => ex_field fa_66_1 hf rfl)⟩, ⟨.inr ⟨rfl, sS_pure rfl (fun σ => rfl) (fun σ => rfl) (fun σ a w k hk hlo hup hst hf => match k, hk, hlo, hup, hst, hf with | 0, _, _, _, hst, hf => have hO : Dk.Own w0 [] w [.blk b5 [str s15, int i16] 115, .blk b10 [str r7.1, str s17, .bool r9.1] 66, .blk b1 [str [], str [], .bool false] 66] := hst; ex_load1 (o := 1) ag_9 (hO.blkSees (i := 1) rfl) rfl hf rfl | 1, _, _, _, hst, hf => have hO : Dk.Own w0 [] w [.blk b5 [str s15, int i16] 115, .blk b10 [str r7.1, str s17, .bool r9.1] 66, .blk b1 [str [], str [], .bool false] 66] := hst; ex_load1 (o := 1) ag_9 (hO.blkSees (i := 1) rfl) rfl hf rfl | 2, _, _, _, hst, hf => have hO : Dk.Own w0 [] w [.row (.slice (some ⟨σ, 0, none⟩) ([s17].length) 1) 9 1 ([s17].length) (cells enc_str [s17]), .blk b5 [str s15, int i16] 115, .blk b10 [str r7.1, str s17, .bool r9.1] 66, .blk b1 [str [], str [], .bool false] 66] := hst; ex_load1 (o := 1) ag_9 (hO.blkSees (i := 2) rfl) rfl hf rfl | 3, _, _, _, hst, hf => have hO : Dk.Own w0 [] w [.row (.slice (some ⟨σ, 0, none⟩) ([s17].length) 1) 9 1 ([s17].length) (cells enc_str [s17]), .blk b5 [str s15, int i16] 115, .blk b10 [str r7.1, str s17, .bool r9.1] 66, .blk b1 [str [], str [], .bool false] 66] := hst; ex_load1 (o := 1) ag_9 (hO.blkSees (i := 2) rfl) rfl hf rfl | 4, _, _, _, hst, hf => have hO : Dk.Own w0 [] w [.row (.slice (some ⟨σ, 0, none⟩) ([s17].length) 1) 9 1 ([s17].length) (cells enc_str [s17]), .blk b5 [str s15, int i16] 115, .blk b10 [str r7.1, str s17, .bool r9.1] 66, .blk b1 [str [], str [], .bool false] 66] := hst; ex_load1 (o := 1) ag_9 (hO.blkSees (i := 2) rfl) rfl hf rfl | 5, _, _, _, hst, hf => have hO : Dk.Own w0 [] w [.row (.slice (some ⟨σ, 0, none⟩) ([s17].length) 1) 9 1 ([s17].length) (cells enc_str [s17]), .blk b5 [str s15, int i16] 115, .blk b10 [str r7.1, str s17, .bool r9.1] 66, .blk b1 [str r7.1, str s17, .bool r9.1] 66] := hst; ex_load1 (o := 1) ag_9 (hO.blkSees (i := 2) rfl) rfl hf rfl | k + 6, hk, _, _, _, _ => absurd hk (by simp))⟩, ⟨.inr ⟨rfl, sS_pure rfl (fun σ => rfl) (fun σ => rfl) (fun σ a w k _ _ _ _ hf => ex_eql_s (l := r24) (m := s17) hf rfl rfl)⟩, ⟨.inr ⟨rfl, sS_pure rfl (fun σ => rfl) (fun σ => rfl) (fun σ a w k _ _ _ _ hf => ex_pick_t hf rfl hc23 rfl)⟩, ⟨.inr ⟨rfl, sS_skip rfl (fun σ => rfl) (fun σ => rfl) rfl (fun σ w (hO : Dk.Own w0 [] w [.row (.slice (some ⟨σ, 0, none⟩) ([s17].length) 1) 9 1 ([s17].length) (cells enc_str [s17]), .blk b5 [str s15, int i16] 115, .blk b10 [str r7.1, str s17, .bool r9.1] 66, .blk b1 [str [], str [], .bool false] 66]) => by obtain ⟨w', hO', hr⟩ := ef_storeN (x := (.tmp 2)) (y := (.tmp 25)) (E := [(2, ptr b1 0), (25, .agg #[str r7.1, str s17, .bool r9.1])]) (i := 3) (n := 3) (vs := [str r7.1, str s17, .bool r9.1]) sz_66 rfl rfl rfl (by simp [Value.oneCell']) hO rfl rfl; exact ⟨(σ), w', hO', ⟨.inr rfl, ⟨.inr rfl, ⟨.inr rfl, ⟨.inr rfl, ⟨.inr rfl, ⟨.inr rfl, ⟨.inr rfl, ⟨.inr rfl, ⟨.inr rfl, ⟨.inr rfl, ⟨.inr rfl, ⟨.inr rfl, ⟨.inr rfl, ⟨.inr rfl, ⟨.inr rfl, ⟨.inr rfl, ⟨.inr rfl, ⟨.inr rfl, ⟨.inr rfl, ⟨.inr rfl, ⟨.inr rfl, ⟨.inr rfl, trivial⟩⟩⟩⟩⟩⟩⟩⟩⟩⟩⟩⟩⟩⟩⟩⟩⟩⟩⟩⟩⟩⟩, hr⟩)⟩, ⟨.inr ⟨rfl, sS_pure rfl (fun σ => rfl) (fun σ => rfl) (fun σ a w k _ _ _ _ hf => ex_assign hf rfl)⟩, trivial⟩⟩⟩⟩⟩⟩⟩⟩⟩⟩⟩⟩⟩⟩⟩⟩⟩⟩⟩⟩⟩⟩ ?_
            rintro b21 a w hf hO
            have hO : Dk.Own w0 [] w [.row (.slice (some ⟨b21, 0, none⟩) ([s17].length) 1) 9 1 ([s17].length) (cells enc_str [s17]), .blk b5 [str s15, int i16] 115, .blk b10 [str r7.1, str s17, .bool r9.1] 66, .blk b1 [str r7.1, str s17, .bool r9.1] 66] := hO
            have hf : Fits 45 [(2, ptr b1 0), (3, .bool (r24 == s17))] a := (hf.cons rfl (hf.cons rfl hf.nil))
            refine nor_then ?_
            exact ⟨r24 == s17, (hf.cons rfl (hf.cons rfl hf.nil)), (hO.sub (.cons _ (.cons_cons _ (.cons_cons _ (.cons_cons _ .slnil))))), hm⟩
          · have hm := ie hc23 hm
            refine wp_drawG' (S := Nat) (E0 := [(2, ptr b1 0), (4, ptr b5 0), (6, .bool r7.2.1), (7, ptr b10 0)]) (by kernel_rfl) (fun k σ w => match k with | 0 => Dk.Own w0 [] w [.blk b5 [str s15, int i16] 115, .blk b10 [str r7.1, str s17, .bool r9.1] 66, .blk b1 [str [], str [], .bool false] 66] | 1 => Dk.Own w0 [] w [.blk b5 [str s15, int i16] 115, .blk b10 [str r7.1, str s17, .bool r9.1] 66, .blk b1 [str [], str [], .bool false] 66] | 2 => Dk.Own w0 [] w [.row (.slice (some ⟨σ, 0, none⟩) ([s17].length) 1) 9 1 ([s17].length) (cells enc_str [s17]), .blk b5 [str s15, int i16] 115, .blk b10 [str r7.1, str s17, .bool r9.1] 66, .blk b1 [str [], str [], .bool false] 66] | 3 => Dk.Own w0 [] w [.row (.slice (some ⟨σ, 0, none⟩) ([s17].length) 1) 9 1 ([s17].length) (cells enc_str [s17]), .blk b5 [str s15, int i16] 115, .blk b10 [str r7.1, str s17, .bool r9.1] 66, .blk b1 [str [], str [], .bool false] 66] | _ => Dk.Own w0 [] w [.row (.slice (some ⟨σ, 0, none⟩) ([s17].length) 1) 9 1 ([s17].length) (cells enc_str [s17]), .blk b5 [str s15, int i16] 115, .blk b10 [str r7.1, str s17, .bool r9.1] 66, .blk b1 [str r7.1, str s17, .bool r9.1] 66]) (fun σ => [⟨[(7, ptr b10 0)], some (25, .agg #[str r7.1, str s17, .bool r9.1])⟩, ⟨[(6, .bool r7.2.1)], some (26, .bool r7.2.1)⟩, ⟨[(26, .bool r7.2.1)], some (27, .bool r7.2.1)⟩, ⟨[(4, ptr b5 0), (27, .bool r7.2.1)], some (28, ptr b5 0)⟩, ⟨[(28, ptr b5 0), (27, .bool r7.2.1)], some (29, .bool r19)⟩, ⟨[(27, .bool r7.2.1), (29, .bool r19)], some (30, .bool r19)⟩, ⟨[(30, .bool r19)], some (31, .bool r19)⟩, ⟨[(7, ptr b10 0), (31, .bool r19)], some (32, ptr b10 1)⟩, ⟨[(32, ptr b10 1), (31, .bool r19)], some (33, str s17)⟩, ⟨[(33, str s17), (31, .bool r19)], some (34, .slice (some ⟨σ, 0, none⟩) ([s17].length) 1)⟩, ⟨[(34, .slice (some ⟨σ, 0, none⟩) ([s17].length) 1), (31, .bool r19)], some (35, .bool r22)⟩, ⟨[(31, .bool r19), (35, .bool r22)], some (36, .bool r22)⟩, ⟨[(36, .bool r22)], some (37, .bool r22)⟩, ⟨[(37, .bool r22)], some (38, undef)⟩, ⟨[(37, .bool r22)], some (39, undef)⟩, ⟨[(37, .bool r22)], some (40, undef)⟩, ⟨[(37, .bool r22)], some (41, undef)⟩, ⟨[(37, .bool r22)], some (42, undef)⟩, ⟨[(37, .bool r22)], some (43, undef)⟩, ⟨[(37, .bool r22), (43, undef)], some (44, .bool false)⟩, ⟨[(2, ptr b1 0), (25, .agg #[str r7.1, str s17, .bool r9.1])], none⟩, ⟨[(44, .bool false)], some (3, .bool false)⟩]) (0) [4, 9, 10, 20] [13, 14, 15, 16, 17, 18] ⟨g_none rfl rfl, ⟨g_none rfl rfl, ⟨g_none rfl rfl, ⟨g_some (u := fun σ => r7.2.1) rfl (fun σ => rfl) rfl (fun σ => rfl) (fun σ => by rw [hc18] <;> rfl), ⟨g_some (u := fun σ => r7.2.1) rfl (fun σ => rfl) rfl (fun σ => rfl) (fun σ => by rw [hc18] <;> rfl), ⟨g_none rfl rfl, ⟨g_none rfl rfl, ⟨g_some (u := fun σ => r19) rfl (fun σ => rfl) rfl (fun σ => rfl) (fun σ => by rw [hc20] <;> rfl), ⟨g_some (u := fun σ => r19) rfl (fun σ => rfl) rfl (fun σ => rfl) (fun σ => by rw [hc20] <;> rfl), ⟨g_some (u := fun σ => r19) rfl (fun σ => rfl) rfl (fun σ => rfl) (fun σ => by rw [hc20] <;> rfl), ⟨g_some (u := fun σ => r19) rfl (fun σ => rfl) rfl (fun σ => rfl) (fun σ => by rw [hc20] <;> rfl), ⟨g_none rfl rfl, ⟨g_none rfl rfl, ⟨g_some (u := fun σ => r22) rfl (fun σ => rfl) rfl (fun σ => rfl) (fun σ => by rw [hc23] <;> rfl), ⟨g_some (u := fun σ => r22) rfl (fun σ => rfl) rfl (fun σ => rfl) (fun σ => by rw [hc23] <;> rfl), ⟨g_some (u := fun σ => r22) rfl (fun σ => rfl) rfl (fun σ => rfl) (fun σ => by rw [hc23] <;> rfl), ⟨g_some (u := fun σ => r22) rfl (fun σ => rfl) rfl (fun σ => rfl) (fun σ => by rw [hc23] <;> rfl), ⟨g_some (u := fun σ => r22) rfl (fun σ => rfl) rfl (fun σ => rfl) (fun σ => by rw [hc23] <;> rfl), ⟨g_some (u := fun σ => r22) rfl (fun σ => rfl) rfl (fun σ => rfl) (fun σ => by rw [hc23] <;> rfl), ⟨g_none rfl rfl, ⟨g_none rfl rfl, ⟨g_none rfl rfl, trivial⟩⟩⟩⟩⟩⟩⟩⟩⟩⟩⟩⟩⟩⟩⟩⟩⟩⟩⟩⟩⟩⟩ (fun σ => ⟨.inl rfl, ⟨.inl rfl, ⟨.inl rfl, ⟨.inl rfl, ⟨.inl rfl, ⟨.inl rfl, ⟨.inl rfl, ⟨.inl rfl, ⟨.inl rfl, ⟨.inl rfl, ⟨.inl rfl, ⟨.inl rfl, ⟨.inl rfl, ⟨.inr ⟨rfl, rfl⟩, ⟨.inr ⟨rfl, rfl⟩, ⟨.inr ⟨rfl, rfl⟩, ⟨.inr ⟨rfl, rfl⟩, ⟨.inr ⟨rfl, rfl⟩, ⟨.inr ⟨rfl, rfl⟩, ⟨.inl rfl, ⟨.inl rfl, ⟨.inl rfl, trivial⟩⟩⟩⟩⟩⟩⟩⟩⟩⟩⟩⟩⟩⟩⟩⟩⟩⟩⟩⟩⟩⟩) (fun _ => rfl) (fun _ => rfl) (fun _ => rfl) rfl rfl (by decide) rfl hO.drew (hf.cons rfl (hf.cons rfl (hf.cons rfl (hf.cons rfl hf.nil)))) (fun σ => ⟨⟨rfl, trivial⟩, ⟨⟨rfl, trivial⟩, ⟨⟨rfl, trivial⟩, ⟨⟨rfl, ⟨rfl, trivial⟩⟩, ⟨⟨rfl, ⟨rfl, trivial⟩⟩, ⟨⟨rfl, ⟨rfl, trivial⟩⟩, ⟨⟨rfl, trivial⟩, ⟨⟨rfl, ⟨rfl, trivial⟩⟩, ⟨⟨rfl, ⟨rfl, trivial⟩⟩, ⟨⟨rfl, ⟨rfl, trivial⟩⟩, ⟨⟨rfl, ⟨rfl, trivial⟩⟩, ⟨⟨rfl, ⟨rfl, trivial⟩⟩, ⟨⟨rfl, trivial⟩, ⟨⟨rfl, trivial⟩, ⟨⟨rfl, trivial⟩, ⟨⟨rfl, trivial⟩, ⟨⟨rfl, trivial⟩, ⟨⟨rfl, trivial⟩, ⟨⟨rfl, trivial⟩, ⟨⟨rfl, ⟨rfl, trivial⟩⟩, ⟨⟨rfl, ⟨rfl, trivial⟩⟩, ⟨⟨rfl, trivial⟩, trivial⟩⟩⟩⟩⟩⟩⟩⟩⟩⟩⟩⟩⟩⟩⟩⟩⟩⟩⟩⟩⟩⟩) ⟨.inr ⟨rfl, sS_pure rfl (fun σ => rfl) (fun σ => rfl) (fun σ a w k hk hlo hup hst hf => match k, hk, hlo, hup, hst, hf with | 0, _, _, _, hst, hf => have hO : Dk.Own w0 [] w [.blk b5 [str s15, int i16] 115, .blk b10 [str r7.1, str s17, .bool r9.1] 66, .blk b1 [str [], str [], .bool false] 66] := hst; ex_loadN (o := 0) (vs := [str r7.1, str s17, .bool r9.1]) ag_66 sz_66 (hO.blkSees (i := 1) rfl) rfl rfl hf rfl | 1, _, _, _, hst, hf => have hO : Dk.Own w0 [] w [.blk b5 [str s15, int i16] 115, .blk b10 [str r7.1, str s17, .bool r9.1] 66, .blk b1 [str [], str [], .bool false] 66] := hst; ex_loadN (o := 0) (vs := [str r7.1, str s17, .bool r9.1]) ag_66 sz_66 (hO.blkSees (i := 1) rfl) rfl rfl hf rfl | 2, _, _, _, hst, hf => have hO : Dk.Own w0 [] w [.row (.slice (some ⟨σ, 0, none⟩) ([s17].length) 1) 9 1 ([s17].length) (cells enc_str [s17]), .blk b5 [str s15, int i16] 115, .blk b10 [str r7.1, str s17, .bool r9.1] 66, .blk b1 [str [], str [], .bool false] 66] := hst; ex_loadN (o := 0) (vs := [str r7.1, str s17, .bool r9.1]) ag_66 sz_66 (hO.blkSees (i := 2) rfl) rfl rfl hf rfl | 3, _, _, _, hst, hf => have hO : Dk.Own w0 [] w [.row (.slice (some ⟨σ, 0, none⟩) ([s17].length) 1) 9 1 ([s17].length) (cells enc_str [s17]), .blk b5 [str s15, int i16] 115, .blk b10 [str r7.1, str s17, .bool r9.1] 66, .blk b1 [str [], str [], .bool false] 66] := hst; ex_loadN (o := 0) (vs := [str r7.1, str s17, .bool r9.1]) ag_66 sz_66 (hO.blkSees (i := 2) rfl) rfl rfl hf rfl | 4, _, _, _, hst, hf => have hO : Dk.Own w0 [] w [.row (.slice (some ⟨σ, 0, none⟩) ([s17].length) 1) 9 1 ([s17].length) (cells enc_str [s17]), .blk b5 [str s15, int i16] 115, .blk b10 [str r7.1, str s17, .bool r9.1] 66, .blk b1 [str r7.1, str s17, .bool r9.1] 66] := hst; ex_loadN (o := 0) (vs := [str r7.1, str s17, .bool r9.1]) ag_66 sz_66 (hO.blkSees (i := 2) rfl) rfl rfl hf rfl | k + 5, hk, _, _, _, _ => absurd hk (by simp))⟩, ⟨.inr ⟨rfl, sS_pure rfl (fun σ => rfl) (fun σ => rfl) (fun σ a w k _ _ _ _ hf => ex_move hf rfl)⟩, ⟨.inr ⟨rfl, sS_pure rfl (fun σ => rfl) (fun σ => rfl) (fun σ a w k _ _ _ _ hf => ex_move hf rfl)⟩, ⟨.inr ⟨rfl, sS_pure rfl (fun σ => rfl) (fun σ => rfl) (fun σ a w k _ _ _ _ hf => ex_move hf rfl)⟩, ⟨.inr ⟨rfl, sS_call rfl (fun σ => rfl) (fun σ => rfl) rfl (fun σ a w (_ : _) hf => ex_call c_71 hf (vs := [ptr b5 0]) rfl) (fun σ w (hO : Dk.Own w0 [] w [.blk b5 [str s15, int i16] 115, .blk b10 [str r7.1, str s17, .bool r9.1] 66, .blk b1 [str [], str [], .bool false] 66]) => (w_scan_Scanner_End (⟨s15, i16⟩ : scan_Scanner) r19 _ (hG.own hF hO) (hO.blkSees (i := 0) rfl) hr19).mono fun e w' h => by obtain ⟨he, hb⟩ := h; exact ⟨(σ), he, hO.grow hb, ⟨.inr rfl, ⟨.inr rfl, ⟨.inr rfl, ⟨.inr rfl, ⟨.inr rfl, ⟨.inr rfl, ⟨.inr rfl, ⟨.inr rfl, ⟨.inr rfl, ⟨.inr rfl, ⟨.inr rfl, ⟨.inr rfl, ⟨.inr rfl, ⟨.inr rfl, ⟨.inr rfl, ⟨.inr rfl, ⟨.inr rfl, ⟨.inr rfl, ⟨.inr rfl, ⟨.inr rfl, ⟨.inr rfl, ⟨.inr rfl, trivial⟩⟩⟩⟩⟩⟩⟩⟩⟩⟩⟩⟩⟩⟩⟩⟩⟩⟩⟩⟩⟩⟩⟩)⟩, ⟨.inr ⟨rfl, sS_pure rfl (fun σ => rfl) (fun σ => rfl) (fun σ a w k _ _ _ _ hf => ex_pick_t hf rfl hc18 rfl)⟩, ⟨.inr ⟨rfl, sS_pure rfl (fun σ => rfl) (fun σ => rfl) (fun σ a w k _ _ _ _ hf => ex_move hf rfl)⟩, ⟨.inr ⟨rfl, sS_pure rfl (fun σ => rfl) (fun σ => rfl) (fun σ a w k _ _ _ _ hf => ex_field fa_66_1 hf rfl)⟩, ⟨.inr ⟨rfl, sS_pure rfl (fun σ => rfl) (fun σ => rfl) (fun σ a w k hk hlo hup hst hf => match k, hk, hlo, hup, hst, hf with | 0, _, _, _, hst, hf => have hO : Dk.Own w0 [] w [.blk b5 [str s15, int i16] 115, .blk b10 [str r7.1, str s17, .bool r9.1] 66, .blk b1 [str [], str [], .bool false] 66] := hst; ex_load1 (o := 1) ag_9 (hO.blkSees (i := 1) rfl) rfl hf rfl | 1, _, _, _, hst, hf => have hO : Dk.Own w0 [] w [.blk b5 [str s15, int i16] 115, .blk b10 [str r7.1, str s17, .bool r9.1] 66, .blk b1 [str [], str [], .bool false] 66] := hst; ex_load1 (o := 1) ag_9 (hO.blkSees (i := 1) rfl) rfl hf rfl | 2, _, _, _, hst, hf => have hO : Dk.Own w0 [] w [.row (.slice (some ⟨σ, 0, none⟩) ([s17].length) 1) 9 1 ([s17].length) (cells enc_str [s17]), .blk b5 [str s15, int i16] 115, .blk b10 [str r7.1, str s17, .bool r9.1] 66, .blk b1 [str [], str [], .bool false] 66] := hst; ex_load1 (o := 1) ag_9 (hO.blkSees (i := 2) rfl) rfl hf rfl | 3, _, _, _, hst, hf => have hO : Dk.Own w0 [] w [.row (.slice (some ⟨σ, 0, none⟩) ([s17].length) 1) 9 1 ([s17].length) (cells enc_str [s17]), .blk b5 [str s15, int i16] 115, .blk b10 [str r7.1, str s17, .bool r9.1] 66, .blk b1 [str [], str [], .bool false] 66] := hst; ex_load1 (o := 1) ag_9 (hO.blkSees (i := 2) rfl) rfl hf rfl | 4, _, _, _, hst, hf => have hO : Dk.Own w0 [] w [.row (.slice (some ⟨σ, 0, none⟩) ([s17].length) 1) 9 1 ([s17].length) (cells enc_str [s17]), .blk b5 [str s15, int i16] 115, .blk b10 [str r7.1, str s17, .bool r9.1] 66, .blk b1 [str r7.1, str s17, .bool r9.1] 66] := hst; ex_load1 (o := 1) ag_9 (hO.blkSees (i := 2) rfl) rfl hf rfl | k + 5, hk, _, _, _, _ => absurd hk (by simp))⟩, ⟨.inr ⟨rfl, sS_val rfl (fun σ => rfl) (fun σ => rfl) rfl (fun σ w (hO : Dk.Own w0 [] w [.blk b5 [str s15, int i16] 115, .blk b10 [str r7.1, str s17, .bool r9.1] 66, .blk b1 [str [], str [], .bool false] 66]) => by obtain ⟨b21, w', hO', hr⟩ := ef_buildSlice (E := [(33, str s17), (31, .bool r19)]) (parts := #[(0, (.tmp 33))]) (t' := 70) (n := 1) (vs := [(0, str s17)]) (cs := [str s17]) (e := 9) (sz := 1) (fun w => by kernel_rfl) rfl rfl hO rfl; exact ⟨(b21), w', hO', ⟨.inr rfl, ⟨.inr rfl, ⟨.inr rfl, ⟨.inr rfl, ⟨.inr rfl, ⟨.inr rfl, ⟨.inr rfl, ⟨.inr rfl, ⟨.inr rfl, ⟨.inl rfl, ⟨.inl rfl, ⟨.inr rfl, ⟨.inr rfl, ⟨.inr rfl, ⟨.inr rfl, ⟨.inr rfl, ⟨.inr rfl, ⟨.inr rfl, ⟨.inr rfl, ⟨.inr rfl, ⟨.inr rfl, ⟨.inr rfl, trivial⟩⟩⟩⟩⟩⟩⟩⟩⟩⟩⟩⟩⟩⟩⟩⟩⟩⟩⟩⟩⟩⟩, hr⟩)⟩, ⟨.inr ⟨rfl, sS_call rfl (fun σ => rfl) (fun σ => rfl) rfl (fun σ a w (_ : _) hf => ex_call c_72 hf (vs := [.func (.func 73) #[] #[], .slice (some ⟨σ, 0, none⟩) ([s17].length) 1]) rfl) (fun σ w (hO : Dk.Own w0 [] w [.row (.slice (some ⟨σ, 0, none⟩) ([s17].length) 1) 9 1 ([s17].length) (cells enc_str [s17]), .blk b5 [str s15, int i16] 115, .blk b10 [str r7.1, str s17, .bool r9.1] 66, .blk b1 [str [], str [], .bool false] 66]) => (w_octet_All octet_IsValue [s17] r22 _ (hG.own hF hO) c_73 (fun y0 r w hG h => callsE (w_octet_IsValue y0 r w hG h)) (hO.rowSees (i := 0) rfl) (hO.rowCap (i := 0) rfl) hr22).mono fun e w' h => by obtain ⟨he, hb⟩ := h; exact ⟨(σ), he, hO.grow hb, ⟨.inr rfl, ⟨.inr rfl, ⟨.inr rfl, ⟨.inr rfl, ⟨.inr rfl, ⟨.inr rfl, ⟨.inr rfl, ⟨.inr rfl, ⟨.inr rfl, ⟨.inr rfl, ⟨.inr rfl, ⟨.inr rfl, ⟨.inr rfl, ⟨.inr rfl, ⟨.inr rfl, ⟨.inr rfl, ⟨.inr rfl, ⟨.inr rfl, ⟨.inr rfl, ⟨.inr rfl, ⟨.inr rfl, ⟨.inr rfl, trivial⟩⟩⟩⟩⟩⟩⟩⟩⟩⟩⟩⟩⟩⟩⟩⟩⟩⟩⟩⟩⟩⟩⟩)⟩, ⟨.inr ⟨rfl, sS_pure rfl (fun σ => rfl) (fun σ => rfl) (fun σ a w k _ _ _ _ hf => ex_pick_t hf rfl hc20 rfl)⟩, ⟨.inr ⟨rfl, sS_pure rfl (fun σ => rfl) (fun σ => rfl) (fun σ a w k _ _ _ _ hf => ex_move hf rfl)⟩, ⟨.inl rfl, ⟨.inl rfl, ⟨.inl rfl, ⟨.inl rfl, ⟨.inl rfl, ⟨.inl rfl, ⟨.inr ⟨rfl, sS_pure rfl (fun σ => rfl) (fun σ => rfl) (fun σ a w k _ _ _ _ hf => ex_pick_f hf rfl hc23 rfl)⟩, ⟨.inr ⟨rfl, sS_skip rfl (fun σ => rfl) (fun σ => rfl) rfl (fun σ w (hO : Dk.Own w0 [] w [.row (.slice (some ⟨σ, 0, none⟩) ([s17].length) 1) 9 1 ([s17].length) (cells enc_str [s17]), .blk b5 [str s15, int i16] 115, .blk b10 [str r7.1, str s17, .bool r9.1] 66, .blk b1 [str [], str [], .bool false] 66]) => by obtain ⟨w', hO', hr⟩ := ef_storeN (x := (.tmp 2)) (y := (.tmp 25)) (E := [(2, ptr b1 0), (25, .agg #[str r7.1, str s17, .bool r9.1])]) (i := 3) (n := 3) (vs := [str r7.1, str s17, .bool r9.1]) sz_66 rfl rfl rfl (by simp [Value.oneCell']) hO rfl rfl; exact ⟨(σ), w', hO', ⟨.inr rfl, ⟨.inr rfl, ⟨.inr rfl, ⟨.inr rfl, ⟨.inr rfl, ⟨.inr rfl, ⟨.inr rfl, ⟨.inr rfl, ⟨.inr rfl, ⟨.inr rfl, ⟨.inr rfl, ⟨.inr rfl, ⟨.inr rfl, ⟨.inr rfl, ⟨.inr rfl, ⟨.inr rfl, ⟨.inr rfl, ⟨.inr rfl, ⟨.inr rfl, ⟨.inr rfl, ⟨.inr rfl, ⟨.inr rfl, trivial⟩⟩⟩⟩⟩⟩⟩⟩⟩⟩⟩⟩⟩⟩⟩⟩⟩⟩⟩⟩⟩⟩, hr⟩)⟩, ⟨.inr ⟨rfl, sS_pure rfl (fun σ => rfl) (fun σ => rfl) (fun σ a w k _ _ _ _ hf => ex_assign hf rfl)⟩, trivial⟩⟩⟩⟩⟩⟩⟩⟩⟩⟩⟩⟩⟩⟩⟩⟩⟩⟩⟩⟩⟩⟩ ?_
            rintro b21 a w hf hO
            have hO : Dk.Own w0 [] w [.row (.slice (some ⟨b21, 0, none⟩) ([s17].length) 1) 9 1 ([s17].length) (cells enc_str [s17]), .blk b5 [str s15, int i16] 115, .blk b10 [str r7.1, str s17, .bool r9.1] 66, .blk b1 [str r7.1, str s17, .bool r9.1] 66] := hO
            have hf : Fits 45 [(2, ptr b1 0), (3, .bool false)] a := (hf.cons rfl (hf.cons rfl hf.nil))
            refine nor_then ?_
            exact ⟨false, (hf.cons rfl (hf.cons rfl hf.nil)), (hO.sub (.cons _ (.cons_cons _ (.cons_cons _ (.cons_cons _ .slnil))))), hm⟩
        · have hm := ie hc20 hm
          refine wp_drawG' (S := Unit) (E0 := [(2, ptr b1 0), (4, ptr b5 0), (6, .bool r7.2.1), (7, ptr b10 0)]) (by kernel_rfl) (fun k σ w => match k with | 0 => Dk.Own w0 [] w [.blk b5 [str s15, int i16] 115, .blk b10 [str r7.1, str s17, .bool r9.1] 66, .blk b1 [str [], str [], .bool false] 66] | 1 => Dk.Own w0 [] w [.blk b5 [str s15, int i16] 115, .blk b10 [str r7.1, str s17, .bool r9.1] 66, .blk b1 [str [], str [], .bool false] 66] | _ => Dk.Own w0 [] w [.blk b5 [str s15, int i16] 115, .blk b10 [str r7.1, str s17, .bool r9.1] 66, .blk b1 [str r7.1, str s17, .bool r9.1] 66]) (fun σ => [⟨[(7, ptr b10 0)], some (25, .agg #[str r7.1, str s17, .bool r9.1])⟩, ⟨[(6, .bool r7.2.1)], some (26, .bool r7.2.1)⟩, ⟨[(26, .bool r7.2.1)], some (27, .bool r7.2.1)⟩, ⟨[(4, ptr b5 0), (27, .bool r7.2.1)], some (28, ptr b5 0)⟩, ⟨[(28, ptr b5 0), (27, .bool r7.2.1)], some (29, .bool r19)⟩, ⟨[(27, .bool r7.2.1), (29, .bool r19)], some (30, .bool r19)⟩, ⟨[(30, .bool r19)], some (31, .bool r19)⟩, ⟨[(31, .bool r19)], some (32, undef)⟩, ⟨[(31, .bool r19)], some (33, undef)⟩, ⟨[(31, .bool r19)], some (34, undef)⟩, ⟨[(31, .bool r19)], some (35, undef)⟩, ⟨[(31, .bool r19), (35, undef)], some (36, .bool false)⟩, ⟨[(36, .bool false)], some (37, .bool false)⟩, ⟨[(37, .bool false)], some (38, undef)⟩, ⟨[(37, .bool false)], some (39, undef)⟩, ⟨[(37, .bool false)], some (40, undef)⟩, ⟨[(37, .bool false)], some (41, undef)⟩, ⟨[(37, .bool false)], some (42, undef)⟩, ⟨[(37, .bool false)], some (43, undef)⟩, ⟨[(37, .bool false), (43, undef)], some (44, .bool false)⟩, ⟨[(2, ptr b1 0), (25, .agg #[str r7.1, str s17, .bool r9.1])], none⟩, ⟨[(44, .bool false)], some (3, .bool false)⟩]) () [4, 20] [7, 8, 9, 10, 13, 14, 15, 16, 17, 18] ⟨g_none rfl rfl, ⟨g_none rfl rfl, ⟨g_none rfl rfl, ⟨g_some (u := fun σ => r7.2.1) rfl (fun σ => rfl) rfl (fun σ => rfl) (fun σ => by rw [hc18] <;> rfl), ⟨g_some (u := fun σ => r7.2.1) rfl (fun σ => rfl) rfl (fun σ => rfl) (fun σ => by rw [hc18] <;> rfl), ⟨g_none rfl rfl, ⟨g_none rfl rfl, ⟨g_some (u := fun σ => r19) rfl (fun σ => rfl) rfl (fun σ => rfl) (fun σ => by rw [hc20] <;> rfl), ⟨g_some (u := fun σ => r19) rfl (fun σ => rfl) rfl (fun σ => rfl) (fun σ => by rw [hc20] <;> rfl), ⟨g_some (u := fun σ => r19) rfl (fun σ => rfl) rfl (fun σ => rfl) (fun σ => by rw [hc20] <;> rfl), ⟨g_some (u := fun σ => r19) rfl (fun σ => rfl) rfl (fun σ => rfl) (fun σ => by rw [hc20] <;> rfl), ⟨g_none rfl rfl, ⟨g_none rfl rfl, ⟨g_some (u := fun σ => false) rfl (fun σ => rfl) rfl (fun σ => rfl) (fun σ => rfl), ⟨g_some (u := fun σ => false) rfl (fun σ => rfl) rfl (fun σ => rfl) (fun σ => rfl), ⟨g_some (u := fun σ => false) rfl (fun σ => rfl) rfl (fun σ => rfl) (fun σ => rfl), ⟨g_some (u := fun σ => false) rfl (fun σ => rfl) rfl (fun σ => rfl) (fun σ => rfl), ⟨g_some (u := fun σ => false) rfl (fun σ => rfl) rfl (fun σ => rfl) (fun σ => rfl), ⟨g_some (u := fun σ => false) rfl (fun σ => rfl) rfl (fun σ => rfl) (fun σ => rfl), ⟨g_none rfl rfl, ⟨g_none rfl rfl, ⟨g_none rfl rfl, trivial⟩⟩⟩⟩⟩⟩⟩⟩⟩⟩⟩⟩⟩⟩⟩⟩⟩⟩⟩⟩⟩⟩ (fun σ => ⟨.inl rfl, ⟨.inl rfl, ⟨.inl rfl, ⟨.inl rfl, ⟨.inl rfl, ⟨.inl rfl, ⟨.inl rfl, ⟨.inr ⟨rfl, rfl⟩, ⟨.inr ⟨rfl, rfl⟩, ⟨.inr ⟨rfl, rfl⟩, ⟨.inr ⟨rfl, rfl⟩, ⟨.inl rfl, ⟨.inl rfl, ⟨.inr ⟨rfl, rfl⟩, ⟨.inr ⟨rfl, rfl⟩, ⟨.inr ⟨rfl, rfl⟩, ⟨.inr ⟨rfl, rfl⟩, ⟨.inr ⟨rfl, rfl⟩, ⟨.inr ⟨rfl, rfl⟩, ⟨.inl rfl, ⟨.inl rfl, ⟨.inl rfl, trivial⟩⟩⟩⟩⟩⟩⟩⟩⟩⟩⟩⟩⟩⟩⟩⟩⟩⟩⟩⟩⟩⟩) (fun _ => rfl) (fun _ => rfl) (fun _ => rfl) rfl rfl (by decide) rfl hO.drew (hf.cons rfl (hf.cons rfl (hf.cons rfl (hf.cons rfl hf.nil)))) (fun σ => ⟨⟨rfl, trivial⟩, ⟨⟨rfl, trivial⟩, ⟨⟨rfl, trivial⟩, ⟨⟨rfl, ⟨rfl, trivial⟩⟩, ⟨⟨rfl, ⟨rfl, trivial⟩⟩, ⟨⟨rfl, ⟨rfl, trivial⟩⟩, ⟨⟨rfl, trivial⟩, ⟨⟨rfl, trivial⟩, ⟨⟨rfl, trivial⟩, ⟨⟨rfl, trivial⟩, ⟨⟨rfl, trivial⟩, ⟨⟨rfl, ⟨rfl, trivial⟩⟩, ⟨⟨rfl, trivial⟩, ⟨⟨rfl, trivial⟩, ⟨⟨rfl, trivial⟩, ⟨⟨rfl, trivial⟩, ⟨⟨rfl, trivial⟩, ⟨⟨rfl, trivial⟩, ⟨⟨rfl, trivial⟩, ⟨⟨rfl, ⟨rfl, trivial⟩⟩, ⟨⟨rfl, ⟨rfl, trivial⟩⟩, ⟨⟨rfl, trivial⟩, trivial⟩⟩⟩⟩⟩⟩⟩⟩⟩⟩⟩⟩⟩⟩⟩⟩⟩⟩⟩⟩⟩⟩) ⟨.inr ⟨rfl, sS_pure rfl (fun σ => rfl) (fun σ => rfl) (fun σ a w k hk hlo hup hst hf => match k, hk, hlo, hup, hst, hf with | 0, _, _, _, hst, hf => have hO : Dk.Own w0 [] w [.blk b5 [str s15, int i16] 115, .blk b10 [str r7.1, str s17, .bool r9.1] 66, .blk b1 [str [], str [], .bool false] 66] := hst; ex_loadN (o := 0) (vs := [str r7.1, str s17, .bool r9.1]) ag_66 sz_66 (hO.blkSees (i := 1) rfl) rfl rfl hf rfl | 1, _, _, _, hst, hf => have hO : Dk.Own w0 [] w [.blk b5 [str s15, int i16] 115, .blk b10 [str r7.1, str s17, .bool r9.1] 66, .blk b1 [str [], str [], .bool false] 66] := hst; ex_loadN (o := 0) (vs := [str r7.1, str s17, .bool r9.1]) ag_66 sz_66 (hO.blkSees (i := 1) rfl) rfl rfl hf rfl | 2, _, _, _, hst, hf => have hO : Dk.Own w0 [] w [.blk b5 [str s15, int i16] 115, .blk b10 [str r7.1, str s17, .bool r9.1] 66, .blk b1 [str r7.1, str s17, .bool r9.1] 66] := hst; ex_loadN (o := 0) (vs := [str r7.1, str s17, .bool r9.1]) ag_66 sz_66 (hO.blkSees (i := 1) rfl) rfl rfl hf rfl | k + 3, hk, _, _, _, _ => absurd hk (by simp))⟩, ⟨.inr ⟨rfl, sS_pure rfl (fun σ => rfl) (fun σ => rfl) (fun σ a w k _ _ _ _ hf => ex_move hf rfl)⟩, ⟨.inr ⟨rfl, sS_pure rfl (fun σ => rfl) (fun σ => rfl) (fun σ a w k _ _ _ _ hf => ex_move hf rfl)⟩, ⟨.inr ⟨rfl, sS_pure rfl (fun σ => rfl) (fun σ => rfl) (fun σ a w k _ _ _ _ hf => ex_move hf rfl)⟩, ⟨.inr ⟨rfl, sS_call rfl (fun σ => rfl) (fun σ => rfl) rfl (fun σ a w (_ : _) hf => ex_call c_71 hf (vs := [ptr b5 0]) rfl) (fun σ w (hO : Dk.Own w0 [] w [.blk b5 [str s15, int i16] 115, .blk b10 [str r7.1, str s17, .bool r9.1] 66, .blk b1 [str [], str [], .bool false] 66]) => (w_scan_Scanner_End (⟨s15, i16⟩ : scan_Scanner) r19 _ (hG.own hF hO) (hO.blkSees (i := 0) rfl) hr19).mono fun e w' h => by obtain ⟨he, hb⟩ := h; exact ⟨(), he, hO.grow hb, ⟨.inr rfl, ⟨.inr rfl, ⟨.inr rfl, ⟨.inr rfl, ⟨.inr rfl, ⟨.inr rfl, ⟨.inr rfl, ⟨.inr rfl, ⟨.inr rfl, ⟨.inr rfl, ⟨.inr rfl, ⟨.inr rfl, ⟨.inr rfl, ⟨.inr rfl, ⟨.inr rfl, ⟨.inr rfl, ⟨.inr rfl, ⟨.inr rfl, ⟨.inr rfl, ⟨.inr rfl, ⟨.inr rfl, ⟨.inr rfl, trivial⟩⟩⟩⟩⟩⟩⟩⟩⟩⟩⟩⟩⟩⟩⟩⟩⟩⟩⟩⟩⟩⟩⟩)⟩, ⟨.inr ⟨rfl, sS_pure rfl (fun σ => rfl) (fun σ => rfl) (fun σ a w k _ _ _ _ hf => ex_pick_t hf rfl hc18 rfl)⟩, ⟨.inr ⟨rfl, sS_pure rfl (fun σ => rfl) (fun σ => rfl) (fun σ a w k _ _ _ _ hf => ex_move hf rfl)⟩, ⟨.inl rfl, ⟨.inl rfl, ⟨.inl rfl, ⟨.inl rfl, ⟨.inr ⟨rfl, sS_pure rfl (fun σ => rfl) (fun σ => rfl) (fun σ a w k _ _ _ _ hf => ex_pick_f hf rfl hc20 rfl)⟩, ⟨.inr ⟨rfl, sS_pure rfl (fun σ => rfl) (fun σ => rfl) (fun σ a w k _ _ _ _ hf => ex_move hf rfl)⟩, ⟨.inl rfl, ⟨.inl rfl, ⟨.inl rfl, ⟨.inl rfl, ⟨.inl rfl, ⟨.inl rfl, ⟨.inr ⟨rfl, sS_pure rfl (fun σ => rfl) (fun σ => rfl) (fun σ a w k _ _ _ _ hf => ex_pick_f hf rfl rfl rfl)⟩, ⟨.inr ⟨rfl, sS_skip rfl (fun σ => rfl) (fun σ => rfl) rfl (fun σ w (hO : Dk.Own w0 [] w [.blk b5 [str s15, int i16] 115, .blk b10 [str r7.1, str s17, .bool r9.1] 66, .blk b1 [str [], str [], .bool false] 66]) => by obtain ⟨w', hO', hr⟩ := ef_storeN (x := (.tmp 2)) (y := (.tmp 25)) (E := [(2, ptr b1 0), (25, .agg #[str r7.1, str s17, .bool r9.1])]) (i := 2) (n := 3) (vs := [str r7.1, str s17, .bool r9.1]) sz_66 rfl rfl rfl (by simp [Value.oneCell']) hO rfl rfl; exact ⟨(), w', hO', ⟨.inr rfl, ⟨.inr rfl, ⟨.inr rfl, ⟨.inr rfl, ⟨.inr rfl, ⟨.inr rfl, ⟨.inr rfl, ⟨.inr rfl, ⟨.inr rfl, ⟨.inr rfl, ⟨.inr rfl, ⟨.inr rfl, ⟨.inr rfl, ⟨.inr rfl, ⟨.inr rfl, ⟨.inr rfl, ⟨.inr rfl, ⟨.inr rfl, ⟨.inr rfl, ⟨.inr rfl, ⟨.inr rfl, ⟨.inr rfl, trivial⟩⟩⟩⟩⟩⟩⟩⟩⟩⟩⟩⟩⟩⟩⟩⟩⟩⟩⟩⟩⟩⟩, hr⟩)⟩, ⟨.inr ⟨rfl, sS_pure rfl (fun σ => rfl) (fun σ => rfl) (fun σ a w k _ _ _ _ hf => ex_assign hf rfl)⟩, trivial⟩⟩⟩⟩⟩⟩⟩⟩⟩⟩⟩⟩⟩⟩⟩⟩⟩⟩⟩⟩⟩⟩ ?_
          rintro _ a w hf hO
          have hO : Dk.Own w0 [] w [.blk b5 [str s15, int i16] 115, .blk b10 [str r7.1, str s17, .bool r9.1] 66, .blk b1 [str r7.1, str s17, .bool r9.1] 66] := hO
          have hf : Fits 45 [(2, ptr b1 0), (3, .bool false)] a := (hf.cons rfl (hf.cons rfl hf.nil))
          refine nor_then ?_
          exact ⟨false, (hf.cons rfl (hf.cons rfl hf.nil)), hO, hm⟩
      · have hm := ie hc18 hm
        refine wp_drawG' (S := Unit) (E0 := [(2, ptr b1 0), (4, ptr b5 0), (6, .bool r7.2.1), (7, ptr b10 0)]) (by kernel_rfl) (fun k σ w => match k with | 0 => Dk.Own w0 [] w [.blk b5 [str s15, int i16] 115, .blk b10 [str r7.1, str s17, .bool r9.1] 66, .blk b1 [str [], str [], .bool false] 66] | _ => Dk.Own w0 [] w [.blk b5 [str s15, int i16] 115, .blk b10 [str r7.1, str s17, .bool r9.1] 66, .blk b1 [str r7.1, str s17, .bool r9.1] 66]) (fun σ => [⟨[(7, ptr b10 0)], some (25, .agg #[str r7.1, str s17, .bool r9.1])⟩, ⟨[(6, .bool r7.2.1)], some (26, .bool r7.2.1)⟩, ⟨[(26, .bool r7.2.1)], some (27, .bool r7.2.1)⟩, ⟨[(27, .bool r7.2.1)], some (28, undef)⟩, ⟨[(27, .bool r7.2.1)], some (29, undef)⟩, ⟨[(27, .bool r7.2.1), (29, undef)], some (30, .bool false)⟩, ⟨[(30, .bool false)], some (31, .bool false)⟩, ⟨[(31, .bool false)], some (32, undef)⟩, ⟨[(31, .bool false)], some (33, undef)⟩, ⟨[(31, .bool false)], some (34, undef)⟩, ⟨[(31, .bool false)], some (35, undef)⟩, ⟨[(31, .bool false), (35, undef)], some (36, .bool false)⟩, ⟨[(36, .bool false)], some (37, .bool false)⟩, ⟨[(37, .bool false)], some (38, undef)⟩, ⟨[(37, .bool false)], some (39, undef)⟩, ⟨[(37, .bool false)], some (40, undef)⟩, ⟨[(37, .bool false)], some (41, undef)⟩, ⟨[(37, .bool false)], some (42, undef)⟩, ⟨[(37, .bool false)], some (43, undef)⟩, ⟨[(37, .bool false), (43, undef)], some (44, .bool false)⟩, ⟨[(2, ptr b1 0), (25, .agg #[str r7.1, str s17, .bool r9.1])], none⟩, ⟨[(44, .bool false)], some (3, .bool false)⟩]) () [20] [3, 4, 7, 8, 9, 10, 13, 14, 15, 16, 17, 18] ⟨g_none rfl rfl, ⟨g_none rfl rfl, ⟨g_none rfl rfl, ⟨g_some (u := fun σ => r7.2.1) rfl (fun σ => rfl) rfl (fun σ => rfl) (fun σ => by rw [hc18] <;> rfl), ⟨g_some (u := fun σ => r7.2.1) rfl (fun σ => rfl) rfl (fun σ => rfl) (fun σ => by rw [hc18] <;> rfl), ⟨g_none rfl rfl, ⟨g_none rfl rfl, ⟨g_some (u := fun σ => false) rfl (fun σ => rfl) rfl (fun σ => rfl) (fun σ => rfl), ⟨g_some (u := fun σ => false) rfl (fun σ => rfl) rfl (fun σ => rfl) (fun σ => rfl), ⟨g_some (u := fun σ => false) rfl (fun σ => rfl) rfl (fun σ => rfl) (fun σ => rfl), ⟨g_some (u := fun σ => false) rfl (fun σ => rfl) rfl (fun σ => rfl) (fun σ => rfl), ⟨g_none rfl rfl, ⟨g_none rfl rfl, ⟨g_some (u := fun σ => false) rfl (fun σ => rfl) rfl (fun σ => rfl) (fun σ => rfl), ⟨g_some (u := fun σ => false) rfl (fun σ => rfl) rfl (fun σ => rfl) (fun σ => rfl), ⟨g_some (u := fun σ => false) rfl (fun σ => rfl) rfl (fun σ => rfl) (fun σ => rfl), ⟨g_some (u := fun σ => false) rfl (fun σ => rfl) rfl (fun σ => rfl) (fun σ => rfl), ⟨g_some (u := fun σ => false) rfl (fun σ => rfl) rfl (fun σ => rfl) (fun σ => rfl), ⟨g_some (u := fun σ => false) rfl (fun σ => rfl) rfl (fun σ => rfl) (fun σ => rfl), ⟨g_none rfl rfl, ⟨g_none rfl rfl, ⟨g_none rfl rfl, trivial⟩⟩⟩⟩⟩⟩⟩⟩⟩⟩⟩⟩⟩⟩⟩⟩⟩⟩⟩⟩⟩⟩ (fun σ => ⟨.inl rfl, ⟨.inl rfl, ⟨.inl rfl, ⟨.inr ⟨rfl, rfl⟩, ⟨.inr ⟨rfl, rfl⟩, ⟨.inl rfl, ⟨.inl rfl, ⟨.inr ⟨rfl, rfl⟩, ⟨.inr ⟨rfl, rfl⟩, ⟨.inr ⟨rfl, rfl⟩, ⟨.inr ⟨rfl, rfl⟩, ⟨.inl rfl, ⟨.inl rfl, ⟨.inr ⟨rfl, rfl⟩, ⟨.inr ⟨rfl, rfl⟩, ⟨.inr ⟨rfl, rfl⟩, ⟨.inr ⟨rfl, rfl⟩, ⟨.inr ⟨rfl, rfl⟩, ⟨.inr ⟨rfl, rfl⟩, ⟨.inl rfl, ⟨.inl rfl, ⟨.inl rfl, trivial⟩⟩⟩⟩⟩⟩⟩⟩⟩⟩⟩⟩⟩⟩⟩⟩⟩⟩⟩⟩⟩⟩) (fun _ => rfl) (fun _ => rfl) (fun _ => rfl) rfl rfl (by decide) rfl hO.drew (hf.cons rfl (hf.cons rfl (hf.cons rfl (hf.cons rfl hf.nil)))) (fun σ => ⟨⟨rfl, trivial⟩, ⟨⟨rfl, trivial⟩, ⟨⟨rfl, trivial⟩, ⟨⟨rfl, trivial⟩, ⟨⟨rfl, trivial⟩, ⟨⟨rfl, ⟨rfl, trivial⟩⟩, ⟨⟨rfl, trivial⟩, ⟨⟨rfl, trivial⟩, ⟨⟨rfl, trivial⟩, ⟨⟨rfl, trivial⟩, ⟨⟨rfl, trivial⟩, ⟨⟨rfl, ⟨rfl, trivial⟩⟩, ⟨⟨rfl, trivial⟩, ⟨⟨rfl, trivial⟩, ⟨⟨rfl, trivial⟩, ⟨⟨rfl, trivial⟩, ⟨⟨rfl, trivial⟩, ⟨⟨rfl, trivial⟩, ⟨⟨rfl, trivial⟩, ⟨⟨rfl, ⟨rfl, trivial⟩⟩, ⟨⟨rfl, ⟨rfl, trivial⟩⟩, ⟨⟨rfl, trivial⟩, trivial⟩⟩⟩⟩⟩⟩⟩⟩⟩⟩⟩⟩⟩⟩⟩⟩⟩⟩⟩⟩⟩⟩) ⟨.inr ⟨rfl, sS_pure rfl (fun σ => rfl) (fun σ => rfl) (fun σ a w k hk hlo hup hst hf => match k, hk, hlo, hup, hst, hf with | 0, _, _, _, hst, hf => have hO : Dk.Own w0 [] w [.blk b5 [str s15, int i16] 115, .blk b10 [str r7.1, str s17, .bool r9.1] 66, .blk b1 [str [], str [], .bool false] 66] := hst; ex_loadN (o := 0) (vs := [str r7.1, str s17, .bool r9.1]) ag_66 sz_66 (hO.blkSees (i := 1) rfl) rfl rfl hf rfl | 1, _, _, _, hst, hf => have hO : Dk.Own w0 [] w [.blk b5 [str s15, int i16] 115, .blk b10 [str r7.1, str s17, .bool r9.1] 66, .blk b1 [str r7.1, str s17, .bool r9.1] 66] := hst; ex_loadN (o := 0) (vs := [str r7.1, str s17, .bool r9.1]) ag_66 sz_66 (hO.blkSees (i := 1) rfl) rfl rfl hf rfl | k + 2, hk, _, _, _, _ => absurd hk (by simp))⟩, ⟨.inr ⟨rfl, sS_pure rfl (fun σ => rfl) (fun σ => rfl) (fun σ a w k _ _ _ _ hf => ex_move hf rfl)⟩, ⟨.inr ⟨rfl, sS_pure rfl (fun σ => rfl) (fun σ => rfl) (fun σ a w k _ _ _ _ hf => ex_move hf rfl)⟩, ⟨.inl rfl, ⟨.inl rfl, ⟨.inr ⟨rfl, sS_pure rfl (fun σ => rfl) (fun σ => rfl) (fun σ a w k _ _ _ _ hf => ex_pick_f hf rfl hc18 rfl)⟩, ⟨.inr ⟨rfl, sS_pure rfl (fun σ => rfl) (fun σ => rfl) (fun σ a w k _ _ _ _ hf => ex_move hf rfl)⟩, ⟨.inl rfl, ⟨.inl rfl, ⟨.inl rfl, ⟨.inl rfl, ⟨.inr ⟨rfl, sS_pure rfl (fun σ => rfl) (fun σ => rfl) (fun σ a w k _ _ _ _ hf => ex_pick_f hf rfl rfl rfl)⟩, ⟨.inr ⟨rfl, sS_pure rfl (fun σ => rfl) (fun σ => rfl) (fun σ a w k _ _ _ _ hf => ex_move hf rfl)⟩, ⟨.inl rfl, ⟨.inl rfl, ⟨.inl rfl, ⟨.inl rfl, ⟨.inl rfl, ⟨.inl rfl, ⟨.inr ⟨rfl, sS_pure rfl (fun σ => rfl) (fun σ => rfl) (fun σ a w k _ _ _ _ hf => ex_pick_f hf rfl rfl rfl)⟩, ⟨.inr ⟨rfl, sS_skip rfl (fun σ => rfl) (fun σ => rfl) rfl (fun σ w (hO : Dk.Own w0 [] w [.blk b5 [str s15, int i16] 115, .blk b10 [str r7.1, str s17, .bool r9.1] 66, .blk b1 [str [], str [], .bool false] 66]) => by obtain ⟨w', hO', hr⟩ := ef_storeN (x := (.tmp 2)) (y := (.tmp 25)) (E := [(2, ptr b1 0), (25, .agg #[str r7.1, str s17, .bool r9.1])]) (i := 2) (n := 3) (vs := [str r7.1, str s17, .bool r9.1]) sz_66 rfl rfl rfl (by simp [Value.oneCell']) hO rfl rfl; exact ⟨(), w', hO', ⟨.inr rfl, ⟨.inr rfl, ⟨.inr rfl, ⟨.inr rfl, ⟨.inr rfl, ⟨.inr rfl, ⟨.inr rfl, ⟨.inr rfl, ⟨.inr rfl, ⟨.inr rfl, ⟨.inr rfl, ⟨.inr rfl, ⟨.inr rfl, ⟨.inr rfl, ⟨.inr rfl, ⟨.inr rfl, ⟨.inr rfl, ⟨.inr rfl, ⟨.inr rfl, ⟨.inr rfl, ⟨.inr rfl, ⟨.inr rfl, trivial⟩⟩⟩⟩⟩⟩⟩⟩⟩⟩⟩⟩⟩⟩⟩⟩⟩⟩⟩⟩⟩⟩, hr⟩)⟩, ⟨.inr ⟨rfl, sS_pure rfl (fun σ => rfl) (fun σ => rfl) (fun σ a w k _ _ _ _ hf => ex_assign hf rfl)⟩, trivial⟩⟩⟩⟩⟩⟩⟩⟩⟩⟩⟩⟩⟩⟩⟩⟩⟩⟩⟩⟩⟩⟩ ?_
        rintro _ a w hf hO
        have hO : Dk.Own w0 [] w [.blk b5 [str s15, int i16] 115, .blk b10 [str r7.1, str s17, .bool r9.1] 66, .blk b1 [str r7.1, str s17, .bool r9.1] 66] := hO
        have hf : Fits 45 [(2, ptr b1 0), (3, .bool false)] a := (hf.cons rfl (hf.cons rfl hf.nil))
        refine nor_then ?_
        exact ⟨false, (hf.cons rfl (hf.cons rfl hf.nil)), hO, hm⟩
    · rintro a w ⟨t25, hf, hO, hm⟩
      rw [cookie_part_j2] at hm
      refine wp_ret ?_
      obtain rfl := Option.some.inj hm
      exact post_ret Tryz.results37 hf (.cell rfl (run_loadVarN (n := 3) (vs := [str r7.1, str s17, .bool r9.1]) ag_66 sz_66 rfl ((hO.blkSees (i := 2) rfl).cells (o := 0) (n := 3) rfl)) (.tmp rfl .nil)) ⟨rfl, hO.below⟩

set_option maxHeartbeats 1000000 in
theorem w_stringslite_CutPrefix (x_s : Str) (x_prefix : Str) (R : Str × Bool) (w0 : World) (hG : Glob w0) (hm : stringslite_CutPrefix x_s x_prefix = some R) :
    Calls Tryz.prog 116 #[str x_s, str x_prefix] w0 fun e w' => e = .returned (.tuple #[str R.1, .bool R.2]) ∧ Below w0.heap.size w0 w' := by
  rw [stringslite_CutPrefix] at hm
  refine calls_enter (vs := [str x_s, str x_prefix]) Tryz.func116 rfl Tryz.ntmps116 rfl fun a hf => ?_
  have hF : Away [] := away_nil
  have hO : Dk.Own w0 [] w0 [] := Dk.Own.refl w0
  refine wp_seq_k fun _ hK1 => ?_
  refine wp_region_list ?_
  refine op_val (ex_assign hf rfl) rfl hf rfl rfl fun a hf => ?_
  refine op_val (ex_assign hf rfl) rfl hf rfl rfl fun a hf => ?_
  refine wpList_nil ?_
  refine nor_then (hK1 _ _ ?_)
  refine wp_seq_k fun _ hK6 => ?_
  refine wp_seq_k fun _ hK3 => ?_
  refine wp_region_list ?_
  refine op_val (ex_move hf rfl) rfl hf rfl rfl fun a hf => ?_
  refine op_val (ex_move hf rfl) rfl hf rfl rfl fun a hf => ?_
  obtain ⟨r2, hr2, hm⟩ := ob hm
  refine op_enter (ex_call c_119 hf (vs := [str x_s, str x_prefix]) rfl) rfl hf rfl rfl (w_stringslite_HasPrefix x_s x_prefix r2 _ (hG.own hF hO) hr2) ?_
  rintro e w' ⟨he, hb⟩
  refine ⟨_, he, fun a hf => ?_⟩
  have hO := hO.grow hb
  refine op_val (ex_not hf rfl) rfl hf rfl rfl fun a hf => ?_
  refine wpList_nil ?_
  refine nor_then (hK3 _ _ ?_)
  refine wp_cond_cut hf rfl (fun hc4 => ?_) (fun hc4 => ?_)
  · have hm := it hc4 hm
    refine wp_seq_k fun _ hK5 => ?_
    refine wp_region_list ?_
    refine op_val (ex_move hf rfl) rfl hf rfl rfl fun a hf => ?_
    refine op_val (ex_assign hf rfl) rfl hf rfl rfl fun a hf => ?_
    refine op_val (ex_assign hf rfl) rfl hf rfl rfl fun a hf => ?_
    refine wpList_nil ?_
    refine nor_then (hK5 _ _ ?_)
    refine wp_ret ?_
    refine ret_then ?_
    obtain rfl := Option.some.inj hm
    exact post_ret Tryz.results116 hf (.tmp rfl (.tmp rfl .nil)) ⟨rfl, hO.below⟩
  · have hm := ie hc4 hm
    refine wp_skip ?_
    refine nor_then (hK6 _ _ ?_)
    refine wp_seq_k fun _ hK8 => ?_
    refine wp_region_list ?_
    refine op_val (ex_move hf rfl) rfl hf rfl rfl fun a hf => ?_
    refine op_val (ex_move hf rfl) rfl hf rfl rfl fun a hf => ?_
    refine op_val (ex_len_s (l := x_prefix) Tryz.underlying9 hf rfl) rfl hf rfl rfl fun a hf => ?_
    obtain ⟨s7, hs7, hm⟩ := ob hm
    refine op_val (ex_from_s (l := x_s) Tryz.underlying9 hf rfl rfl hs7) rfl hf rfl rfl fun a hf => ?_
    refine op_val (ex_assign hf rfl) rfl hf rfl rfl fun a hf => ?_
    refine op_val (ex_assign hf rfl) rfl hf rfl rfl fun a hf => ?_
    refine wpList_nil ?_
    refine nor_then (hK8 _ _ ?_)
    refine wp_ret ?_
    obtain rfl := Option.some.inj hm
    exact post_ret Tryz.results116 hf (.tmp rfl (.tmp rfl .nil)) ⟨rfl, hO.below⟩

set_option maxHeartbeats 1000000 in
theorem w_strings_CutPrefix (x_s : Str) (x_prefix : Str) (R : Str × Bool) (w0 : World) (hG : Glob w0) (hm : strings_CutPrefix x_s x_prefix = some R) :
    Calls Tryz.prog 74 #[str x_s, str x_prefix] w0 fun e w' => e = .returned (.tuple #[str R.1, .bool R.2]) ∧ Below w0.heap.size w0 w' := by
  rw [strings_CutPrefix] at hm
  refine calls_enter (vs := [str x_s, str x_prefix]) Tryz.func74 rfl Tryz.ntmps74 rfl fun a hf => ?_
  have hF : Away [] := away_nil
  have hO : Dk.Own w0 [] w0 [] := Dk.Own.refl w0
  refine wp_seq_k fun _ hK1 => ?_
  refine wp_region_list ?_
  refine op_val (ex_assign hf rfl) rfl hf rfl rfl fun a hf => ?_
  refine op_val (ex_assign hf rfl) rfl hf rfl rfl fun a hf => ?_
  refine wpList_nil ?_
  refine nor_then (hK1 _ _ ?_)
  refine wp_seq_k fun _ hK3 => ?_
  refine wp_region_list ?_
  refine op_val (ex_move hf rfl) rfl hf rfl rfl fun a hf => ?_
  refine op_val (ex_move hf rfl) rfl hf rfl rfl fun a hf => ?_
  obtain ⟨r2, hr2, hm⟩ := ob hm
  refine op_enter (ex_call c_116 hf (vs := [str x_s, str x_prefix]) rfl) rfl hf rfl rfl (w_stringslite_CutPrefix x_s x_prefix r2 _ (hG.own hF hO) hr2) ?_
  rintro e w' ⟨he, hb⟩
  refine ⟨_, he, fun a hf => ?_⟩
  have hO := hO.grow hb
  refine op_val (ex_extract hf rfl rfl) rfl hf rfl rfl fun a hf => ?_
  refine op_val (ex_extract hf rfl rfl) rfl hf rfl rfl fun a hf => ?_
  refine op_val (ex_assign hf rfl) rfl hf rfl rfl fun a hf => ?_
  refine op_val (ex_assign hf rfl) rfl hf rfl rfl fun a hf => ?_
  refine wpList_nil ?_
  refine nor_then (hK3 _ _ ?_)
  refine wp_ret ?_
  obtain rfl := Option.some.inj hm
  exact post_ret Tryz.results74 hf (.tmp rfl (.tmp rfl .nil)) ⟨rfl, hO.below⟩

set_option maxHeartbeats 1000000 in
theorem w_stringslite_CutSuffix (x_s : Str) (x_suffix : Str) (R : Str × Bool) (w0 : World) (hG : Glob w0) (hm : stringslite_CutSuffix x_s x_suffix = some R) :
    Calls Tryz.prog 117 #[str x_s, str x_suffix] w0 fun e w' => e = .returned (.tuple #[str R.1, .bool R.2]) ∧ Below w0.heap.size w0 w' := by
  rw [stringslite_CutSuffix] at hm
  refine calls_enter (vs := [str x_s, str x_suffix]) Tryz.func117 rfl Tryz.ntmps117 rfl fun a hf => ?_
  have hF : Away [] := away_nil
  have hO : Dk.Own w0 [] w0 [] := Dk.Own.refl w0
  refine wp_seq_k fun _ hK1 => ?_
  refine wp_region_list ?_
  refine op_val (ex_assign hf rfl) rfl hf rfl rfl fun a hf => ?_
  refine op_val (ex_assign hf rfl) rfl hf rfl rfl fun a hf => ?_
  refine wpList_nil ?_
  refine nor_then (hK1 _ _ ?_)
  refine wp_seq_k fun _ hK6 => ?_
  refine wp_seq_k fun _ hK3 => ?_
  refine wp_region_list ?_
  refine op_val (ex_move hf rfl) rfl hf rfl rfl fun a hf => ?_
  refine op_val (ex_move hf rfl) rfl hf rfl rfl fun a hf => ?_
  obtain ⟨r2, hr2, hm⟩ := ob hm
  refine op_enter (ex_call c_120 hf (vs := [str x_s, str x_suffix]) rfl) rfl hf rfl rfl (w_stringslite_HasSuffix x_s x_suffix r2 _ (hG.own hF hO) hr2) ?_
  rintro e w' ⟨he, hb⟩
  refine ⟨_, he, fun a hf => ?_⟩
  have hO := hO.grow hb
  refine op_val (ex_not hf rfl) rfl hf rfl rfl fun a hf => ?_
  refine wpList_nil ?_
  refine nor_then (hK3 _ _ ?_)
  refine wp_cond_cut hf rfl (fun hc4 => ?_) (fun hc4 => ?_)
  · have hm := it hc4 hm
    refine wp_seq_k fun _ hK5 => ?_
    refine wp_region_list ?_
    refine op_val (ex_move hf rfl) rfl hf rfl rfl fun a hf => ?_
    refine op_val (ex_assign hf rfl) rfl hf rfl rfl fun a hf => ?_
    refine op_val (ex_assign hf rfl) rfl hf rfl rfl fun a hf => ?_
    refine wpList_nil ?_
    refine nor_then (hK5 _ _ ?_)
    refine wp_ret ?_
    refine ret_then ?_
    obtain rfl := Option.some.inj hm
    exact post_ret Tryz.results117 hf (.tmp rfl (.tmp rfl .nil)) ⟨rfl, hO.below⟩
  · have hm := ie hc4 hm
    refine wp_skip ?_
    refine nor_then (hK6 _ _ ?_)
    refine wp_seq_k fun _ hK9 => ?_
    refine wp_region_list ?_
    refine op_val (ex_move hf rfl) rfl hf rfl rfl fun a hf => ?_
    refine op_val (ex_move hf rfl) rfl hf rfl rfl fun a hf => ?_
    refine op_val (ex_len_s (l := x_s) Tryz.underlying9 hf rfl) rfl hf rfl rfl fun a hf => ?_
    refine op_val (ex_move hf rfl) rfl hf rfl rfl fun a hf => ?_
    refine op_val (ex_len_s (l := x_suffix) Tryz.underlying9 hf rfl) rfl hf rfl rfl fun a hf => ?_
    obtain ⟨i7, hi7, hm⟩ := ob hm
    refine op_val (ex_sub hf rfl rfl hi7) rfl hf rfl rfl fun a hf => ?_
    obtain ⟨s8, hs8, hm⟩ := ob hm
    refine op_val (ex_to_s (l := x_s) Tryz.underlying9 hf rfl rfl hs8) rfl hf rfl rfl fun a hf => ?_
    refine op_val (ex_assign hf rfl) rfl hf rfl rfl fun a hf => ?_
    refine op_val (ex_assign hf rfl) rfl hf rfl rfl fun a hf => ?_
    refine wpList_nil ?_
    refine nor_then (hK9 _ _ ?_)
    refine wp_ret ?_
    obtain rfl := Option.some.inj hm
    exact post_ret Tryz.results117 hf (.tmp rfl (.tmp rfl .nil)) ⟨rfl, hO.below⟩

set_option maxHeartbeats 1000000 in
theorem w_strings_CutSuffix (x_s : Str) (x_suffix : Str) (R : Str × Bool) (w0 : World) (hG : Glob w0) (hm : strings_CutSuffix x_s x_suffix = some R) :
    Calls Tryz.prog 75 #[str x_s, str x_suffix] w0 fun e w' => e = .returned (.tuple #[str R.1, .bool R.2]) ∧ Below w0.heap.size w0 w' := by
  rw [strings_CutSuffix] at hm
  refine calls_enter (vs := [str x_s, str x_suffix]) Tryz.func75 rfl Tryz.ntmps75 rfl fun a hf => ?_
  have hF : Away [] := away_nil
  have hO : Dk.Own w0 [] w0 [] := Dk.Own.refl w0
  refine wp_seq_k fun _ hK1 => ?_
  refine wp_region_list ?_
  refine op_val (ex_assign hf rfl) rfl hf rfl rfl fun a hf => ?_
  refine op_val (ex_assign hf rfl) rfl hf rfl rfl fun a hf => ?_
  refine wpList_nil ?_
  refine nor_then (hK1 _ _ ?_)
  refine wp_seq_k fun _ hK3 => ?_
  refine wp_region_list ?_
  refine op_val (ex_move hf rfl) rfl hf rfl rfl fun a hf => ?_
  refine op_val (ex_move hf rfl) rfl hf rfl rfl fun a hf => ?_
  obtain ⟨r2, hr2, hm⟩ := ob hm
  refine op_enter (ex_call c_117 hf (vs := [str x_s, str x_suffix]) rfl) rfl hf rfl rfl (w_stringslite_CutSuffix x_s x_suffix r2 _ (hG.own hF hO) hr2) ?_
  rintro e w' ⟨he, hb⟩
  refine ⟨_, he, fun a hf => ?_⟩
  have hO := hO.grow hb
  refine op_val (ex_extract hf rfl rfl) rfl hf rfl rfl fun a hf => ?_
  refine op_val (ex_extract hf rfl rfl) rfl hf rfl rfl fun a hf => ?_
  refine op_val (ex_assign hf rfl) rfl hf rfl rfl fun a hf => ?_
  refine op_val (ex_assign hf rfl) rfl hf rfl rfl fun a hf => ?_
  refine wpList_nil ?_
  refine nor_then (hK3 _ _ ?_)
  refine wp_ret ?_
  obtain rfl := Option.some.inj hm
  exact post_ret Tryz.results75 hf (.tmp rfl (.tmp rfl .nil)) ⟨rfl, hO.below⟩

set_option maxHeartbeats 1000000 in
theorem w_cookie_plain (x_b : UInt8) (R : Bool) (w0 : World) (hG : Glob w0) (hm : cookie_plain x_b = some R) :
    Calls Tryz.prog 76 #[byte x_b] w0 fun e w' => e = .returned (.bool R) ∧ Below w0.heap.size w0 w' := by
  rw [cookie_plain] at hm
  refine calls_enter (vs := [byte x_b]) Tryz.func76 rfl Tryz.ntmps76 rfl fun a hf => ?_
  have hF : Away [] := away_nil
  have hO : Dk.Own w0 [] w0 [] := Dk.Own.refl w0
  refine wp_seq_k fun _ hK1 => ?_
  refine wp_region_list ?_
  refine op_val (ex_assign hf rfl) rfl hf rfl rfl fun a hf => ?_
  refine wpList_nil ?_
  refine nor_then (hK1 _ _ ?_)
  refine wp_seq_cut (fun a w => ∃ (t5 : Bool), Fits 10 [(2, .bool t5)] a ∧ Dk.Own w0 [] w [] ∧ cookie_plain_j1 t5 = some R) ?_ ?_
  · refine wp_region_list ?_
    refine op_val (ex_move hf rfl) rfl hf rfl rfl fun a hf => ?_
    obtain ⟨r2, hr2, hm⟩ := ob hm
    refine op_enter (ex_call c_114 hf (vs := [byte x_b]) rfl) rfl hf rfl rfl (w_octet_IsVisible x_b r2 _ (hG.own hF hO) hr2) ?_
    rintro e w' ⟨he, hb⟩
    refine ⟨_, he, fun a hf => ?_⟩
    have hO := hO.grow hb
    refine op_val (ex_move hf rfl) rfl hf rfl rfl fun a hf => ?_
    rcases bcase (r2) with hc3 | hc3
    · have hm := it hc3 hm
      refine op_guard rfl hf rfl rfl (hc3) ?_
      refine op_val (ex_move hf rfl) rfl hf rfl rfl fun a hf => ?_
      refine op_guard rfl hf rfl rfl (hc3) ?_
      obtain ⟨r4, hr4, hm⟩ := ob hm
      refine op_enter (ex_call c_118 hf (vs := [str [34, 44, 59, 92], byte x_b]) rfl) rfl hf rfl rfl (w_strings_IndexByte [34, 44, 59, 92] x_b r4 _ (hG.own hF hO) hr4) ?_
      rintro e w' ⟨he, hb⟩
      refine ⟨_, he, fun a hf => ?_⟩
      have hO := hO.grow hb
      refine op_guard rfl hf rfl rfl (hc3) ?_
      refine op_val (ex_lss (m := r4) (n := 0) hf rfl rfl) rfl hf rfl rfl fun a hf => ?_
      refine op_val (ex_pick_t hf rfl hc3 rfl) rfl hf rfl rfl fun a hf => ?_
      refine op_val (ex_assign hf rfl) rfl hf rfl rfl fun a hf => ?_
      refine wpList_nil ?_
      refine nor_then ?_
      exact ⟨decide (r4 < 0), (hf.cons rfl hf.nil), hO, hm⟩
    · have hm := ie hc3 hm
      refine op_pass rfl hf rfl rfl (hc3) rfl rfl fun a hf => ?_
      refine op_pass rfl hf rfl rfl (hc3) rfl rfl fun a hf => ?_
      refine op_pass rfl hf rfl rfl (hc3) rfl rfl fun a hf => ?_
      refine op_val (ex_pick_f hf rfl hc3 rfl) rfl hf rfl rfl fun a hf => ?_
      refine op_val (ex_assign hf rfl) rfl hf rfl rfl fun a hf => ?_
      refine wpList_nil ?_
      refine nor_then ?_
      exact ⟨false, (hf.cons rfl hf.nil), hO, hm⟩
  · rintro a w ⟨t5, hf, hO, hm⟩
    rw [cookie_plain_j1] at hm
    refine wp_ret ?_
    obtain rfl := Option.some.inj hm
    exact post_ret Tryz.results76 hf (.tmp rfl .nil) ⟨rfl, hO.below⟩

set_option maxHeartbeats 1000000 in
theorem w_cookie_value (x_s : Str) (R : Bool) (w0 : World) (hG : Glob w0) (hm : cookie_value x_s = some R) :
    Calls Tryz.prog 38 #[str x_s] w0 fun e w' => e = .returned (.bool R) ∧ Below w0.heap.size w0 w' := by
  rw [cookie_value] at hm
  refine calls_enter (vs := [str x_s]) Tryz.func38 rfl Tryz.ntmps38 rfl fun a hf => ?_
  have hF : Away [] := away_nil
  have hO : Dk.Own w0 [] w0 [] := Dk.Own.refl w0
  refine wp_seq_k fun _ hK1 => ?_
  refine wp_region_list ?_
  refine op_val (ex_assign hf rfl) rfl hf rfl rfl fun a hf => ?_
  refine wpList_nil ?_
  refine nor_then (hK1 _ _ ?_)
  refine wp_seq_k fun _ hK3 => ?_
  refine wp_region_list ?_
  refine op_val (ex_move hf rfl) rfl hf rfl rfl fun a hf => ?_
  obtain ⟨r2, hr2, hm⟩ := ob hm
  refine op_enter (ex_call c_74 hf (vs := [str x_s, str [34]]) rfl) rfl hf rfl rfl (w_strings_CutPrefix x_s [34] r2 _ (hG.own hF hO) hr2) ?_
  rintro e w' ⟨he, hb⟩
  refine ⟨_, he, fun a hf => ?_⟩
  have hO := hO.grow hb
  refine op_val (ex_move hf rfl) rfl hf rfl rfl fun a hf => ?_
  refine op_val (ex_extract hf rfl rfl) rfl hf rfl rfl fun a hf => ?_
  refine op_val (ex_extract hf rfl rfl) rfl hf rfl rfl fun a hf => ?_
  refine op_val (ex_assign hf rfl) rfl hf rfl rfl fun a hf => ?_
  refine op_val (ex_assign hf rfl) rfl hf rfl rfl fun a hf => ?_
  refine wpList_nil ?_
  refine nor_then (hK3 _ _ ?_)
  refine wp_seq_k fun _ hK5 => ?_
  refine wp_region_list ?_
  refine op_val (ex_move hf rfl) rfl hf rfl rfl fun a hf => ?_
  obtain ⟨r4, hr4, hm⟩ := ob hm
  refine op_enter (ex_call c_75 hf (vs := [str r2.1, str [34]]) rfl) rfl hf rfl rfl (w_strings_CutSuffix r2.1 [34] r4 _ (hG.own hF hO) hr4) ?_
  rintro e w' ⟨he, hb⟩
  refine ⟨_, he, fun a hf => ?_⟩
  have hO := hO.grow hb
  refine op_val (ex_move hf rfl) rfl hf rfl rfl fun a hf => ?_
  refine op_val (ex_extract hf rfl rfl) rfl hf rfl rfl fun a hf => ?_
  refine op_val (ex_extract hf rfl rfl) rfl hf rfl rfl fun a hf => ?_
  refine op_val (ex_assign hf rfl) rfl hf rfl rfl fun a hf => ?_
  refine op_val (ex_assign hf rfl) rfl hf rfl rfl fun a hf => ?_
  refine wpList_nil ?_
  refine nor_then (hK5 _ _ ?_)
  refine wp_seq_cut (fun a w => ∃ (t9 : Bool), Fits 24 [(2, .bool t9)] a ∧ Dk.Own w0 [] w [] ∧ cookie_value_j1 t9 = some R) ?_ ?_
  · refine wp_region_list ?_
    refine op_val (ex_move hf rfl) rfl hf rfl rfl fun a hf => ?_
    refine op_val (ex_move hf rfl) rfl hf rfl rfl fun a hf => ?_
    refine op_val (ex_eql_o Tryz.underlying4 hf rfl rfl) rfl hf rfl rfl fun a hf => ?_
    refine op_val (ex_move hf rfl) rfl hf rfl rfl fun a hf => ?_
    rcases bcase (r2.2 == r4.2) with hc6 | hc6
    · have hm := it hc6 hm
      refine op_guard rfl hf rfl rfl (hc6) ?_
      refine op_val (ex_move hf rfl) rfl hf rfl rfl fun a hf => ?_
      refine op_guard rfl hf rfl rfl (hc6) ?_
      refine op_buildSlice (vs := [(0, str r4.1)]) (cs := [str r4.1]) (e := 9) (sz := 1) hf rfl rfl (fun w => by kernel_rfl) rfl rfl hO fun a b7 w hf hO => ?_
      refine op_guard rfl hf rfl rfl (hc6) ?_
      obtain ⟨r8, hr8, hm⟩ := ob hm
      refine op_enter (ex_call c_72 hf (vs := [.func (.func 76) #[] #[], .slice (some ⟨b7, 0, none⟩) ([r4.1].length) 1]) rfl) rfl hf rfl rfl (w_octet_All cookie_plain [r4.1] r8 _ (hG.own hF hO) c_76 (fun y0 r w hG h => callsE (w_cookie_plain y0 r w hG h)) (hO.rowSees (i := 0) rfl) (hO.rowCap (i := 0) rfl) hr8) ?_
      rintro e w' ⟨he, hb⟩
      refine ⟨_, he, fun a hf => ?_⟩
      have hO := hO.grow hb
      refine op_val (ex_pick_t hf rfl hc6 rfl) rfl hf rfl rfl fun a hf => ?_
      refine op_val (ex_assign hf rfl) rfl hf rfl rfl fun a hf => ?_
      refine wpList_nil ?_
      refine nor_then ?_
      exact ⟨r8, (hf.cons rfl hf.nil), (hO.sub (.cons _ .slnil)), hm⟩
    · have hm := ie hc6 hm
      refine op_pass rfl hf rfl rfl (hc6) rfl rfl fun a hf => ?_
      refine op_pass rfl hf rfl rfl (hc6) rfl rfl fun a hf => ?_
      refine op_pass rfl hf rfl rfl (hc6) rfl rfl fun a hf => ?_
      refine op_val (ex_pick_f hf rfl hc6 rfl) rfl hf rfl rfl fun a hf => ?_
      refine op_val (ex_assign hf rfl) rfl hf rfl rfl fun a hf => ?_
      refine wpList_nil ?_
      refine nor_then ?_
      exact ⟨false, (hf.cons rfl hf.nil), hO, hm⟩
  · rintro a w ⟨t9, hf, hO, hm⟩
    rw [cookie_value_j1] at hm
    refine wp_ret ?_
    obtain rfl := Option.some.inj hm
    exact post_ret Tryz.results38 hf (.tmp rfl .nil) ⟨rfl, hO.below⟩

end Go.Proofs
