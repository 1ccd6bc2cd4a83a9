/-
  Walks, written by a program (wip/gen): what its model says, the function returns; what was there before is as it was.
-/
import Derived.Test.YtgdhdeemlhllpabGreatDoorLib
import Derived.Test.YtgdhdeemlhllpabGreatDoorW0
import Derived.Test.YtgdhdeemlhllpabGreatDoorW6
set_option linter.unusedVariables false
set_option linter.unusedSimpArgs false
set_option maxRecDepth 100000
namespace Go.Proofs
open Go.Dk Go.Dm Go.RowKit

set_option maxHeartbeats 1000000 in
theorem w_strings_HasPrefix (x_s : Str) (x_prefix : Str) (R : Bool) (w0 : World) (hG : Glob w0) (hm : strings_HasPrefix x_s x_prefix = some R) :
    Calls Tryz.prog 163 #[str x_s, str x_prefix] w0 fun e w' => e = .returned (.bool R) ∧ Below w0.heap.size w0 w' := by
 rw [strings_HasPrefix] at hm
 refine calls_enter (vs := [str x_s, str x_prefix]) Tryz.func163 rfl Tryz.ntmps163 rfl fun a hf => ?_
 have hF : Away [] := away_nil
 have hO : Dk.Own w0 [] w0 [] := Dk.Own.refl w0
 refine wp_seq_k fun _ hK1 => ?_
 refine wp_region_list ?_
 refine op_as hf rfl rfl fun a hf => ?_
 refine wpList_nil ?_
 refine nor_then (hK1 _ _ ?_)
 refine wp_seq_k fun _ hK3 => ?_
 refine wp_region_list ?_
 refine op_mv hf rfl rfl fun a hf => ?_
 refine op_mv hf rfl rfl fun a hf => ?_
 obtain ⟨r2, hr2, hm⟩ := ob hm
 refine op_enter (ex_call c_112 hf (vs := [str x_s, str x_prefix]) rfl) rfl hf rfl rfl (w_stringslite_HasPrefix x_s x_prefix r2 _ (hG.own hF hO) hr2) ?_
 rintro e w' ⟨he, hb⟩
 refine ⟨_, he, fun a hf => ?_⟩
 have hO := hO.grow hb
 refine op_as hf rfl rfl fun a hf => ?_
 refine wpList_nil ?_
 refine nor_then (hK3 _ _ ?_)
 refine wp_ret ?_
 obtain rfl := Option.some.inj hm
 exact post_ret Tryz.results163 hf (.tmp rfl .nil) ⟨rfl, hO.below⟩

set_option maxHeartbeats 1000000 in
theorem w_uriref_upto (x_s : Str) (x_l : Str) (R : Str × Str) (w0 : World) (hG : Glob w0) (hm : uriref_upto x_s x_l = some R) :
    Calls Tryz.prog 164 #[str x_s, str x_l] w0 fun e w' => e = .returned (.tuple #[str R.1, str R.2]) ∧ Below w0.heap.size w0 w' := by
 rw [uriref_upto] at hm
 refine calls_enter (vs := [str x_s, str x_l]) Tryz.func164 rfl Tryz.ntmps164 rfl fun a hf => ?_
 have hF : Away [] := away_nil
 have hO : Dk.Own w0 [] w0 [] := Dk.Own.refl w0
 refine wp_seq_k fun _ hK1 => ?_
 refine wp_region_list ?_
 refine op_as hf rfl rfl fun a hf => ?_
 refine op_as hf rfl rfl fun a hf => ?_
 refine wpList_nil ?_
 refine nor_then (hK1 _ _ ?_)
 refine wp_seq_k fun _ hK9 => ?_
 refine wp_seq_k fun _ hK3 => ?_
 refine wp_region_list ?_
 refine op_mv hf rfl rfl fun a hf => ?_
 refine op_mv hf rfl rfl fun a hf => ?_
 obtain ⟨r2, hr2, hm⟩ := ob hm
 refine op_enter (ex_call c_46 hf (vs := [str x_s, str x_l]) rfl) rfl hf rfl rfl (w_strings_IndexAny x_s x_l r2 _ (hG.own hF hO) hr2) ?_
 rintro e w' ⟨he, hb⟩
 refine ⟨_, he, fun a hf => ?_⟩
 have hO := hO.grow hb
 refine op_as hf rfl rfl fun a hf => ?_
 refine wpList_nil ?_
 refine nor_then (hK3 _ _ ?_)
 refine wp_seq_k fun _ hK4 => ?_
 refine wp_region_list ?_
 refine op_mv hf rfl rfl fun a hf => ?_
 refine op_val (ex_geq (m := r2) (n := 0) hf rfl rfl) rfl hf rfl rfl fun a hf => ?_
 refine wpList_nil ?_
 refine nor_then (hK4 _ _ ?_)
 refine wp_cond_cut hf rfl (fun hc5 => ?_) (fun hc5 => ?_)
 have hm := it hc5 hm
 refine wp_seq_k fun _ hK8 => ?_
 refine wp_quiet (by kernel_rfl) (by kernel_rfl) hO ?_
 refine q_val (fun w hO => ex_move hf rfl) rfl hf rfl rfl fun a hf => ?_
 refine q_val (fun w hO => ex_move hf rfl) rfl hf rfl rfl fun a hf => ?_
 obtain ⟨s6, hs6, hm⟩ := ob hm
 refine q_val (fun w hO => ex_to_s (l := x_s) Tryz.underlying9 hf rfl rfl hs6) rfl hf rfl rfl fun a hf => ?_
 refine q_val (fun w hO => ex_move hf rfl) rfl hf rfl rfl fun a hf => ?_
 refine q_val (fun w hO => ex_move hf rfl) rfl hf rfl rfl fun a hf => ?_
 obtain ⟨s7, hs7, hm⟩ := ob hm
 refine q_val (fun w hO => ex_from_s (l := x_s) Tryz.underlying9 hf rfl rfl hs7) rfl hf rfl rfl fun a hf => ?_
 refine q_val (fun w hO => ex_assign hf rfl) rfl hf rfl rfl fun a hf => ?_
 refine q_val (fun w hO => ex_assign hf rfl) rfl hf rfl rfl fun a hf => ?_
 refine wpQuiet_nil ?_
 intro w hO
 refine nor_then (hK8 _ _ ?_)
 refine wp_ret ?_
 refine ret_then ?_
 obtain rfl := Option.some.inj hm
 exact post_ret Tryz.results164 hf (.tmp rfl (.tmp rfl .nil)) ⟨rfl, hO.below⟩
 have hm := ie hc5 hm
 refine wp_skip ?_
 refine nor_then (hK9 _ _ ?_)
 refine wp_seq_k fun _ hK10 => ?_
 refine wp_region_list ?_
 refine op_mv hf rfl rfl fun a hf => ?_
 refine op_as hf rfl rfl fun a hf => ?_
 refine op_as hf rfl rfl fun a hf => ?_
 refine wpList_nil ?_
 refine nor_then (hK10 _ _ ?_)
 refine wp_ret ?_
 obtain rfl := Option.some.inj hm
 exact post_ret Tryz.results164 hf (.tmp rfl (.tmp rfl .nil)) ⟨rfl, hO.below⟩

set_option maxHeartbeats 1000000 in
theorem w_uriref_parts (x_s : Str) (R : api_Ref) (w0 : World) (hG : Glob w0) (hm : uriref_parts x_s = some R) :
    Calls Tryz.prog 145 #[str x_s] w0 fun e w' => e = .returned (.agg #[str R.Scheme, str R.Auth, str R.Path, str R.Query, str R.Frag, .bool R.HasAuth, .bool R.HasQuery, .bool R.HasFrag]) ∧ Below w0.heap.size w0 w' := by
 rw [uriref_parts] at hm
 refine calls_enter (vs := [str x_s]) Tryz.func145 rfl Tryz.ntmps145 rfl fun a hf => ?_
 have hF : Away [] := away_nil
 have hO : Dk.Own w0 [] w0 [] := Dk.Own.refl w0
 refine wp_seq_k fun _ hK2 => ?_
 refine wp_region_list ?_
 refine op_alloc al_90 hf rfl hO fun a b1 w hf hO => ?_
 refine wpList_nil ?_
 refine nor_then (hK2 _ _ ?_)
 refine wp_seq_k fun _ hK4 => ?_
 refine wp_region_list ?_
 refine op_alloc al_90 hf rfl hO fun a b3 w hf hO => ?_
 refine wpList_nil ?_
 refine nor_then (hK4 _ _ ?_)
 refine wp_seq_cut (fun a w => ∃ (s15 : Str) (s16 : Str), Fits 56 [(0, str s15), (2, ptr b1 0), (3, ptr b3 0)] a ∧ Dk.Own w0 [] w [.blk b3 [str s16, str [], str [], str [], str [], .bool false, .bool false, .bool false] 90, .blk b1 [str [], str [], str [], str [], str [], .bool false, .bool false, .bool false] 90] ∧ uriref_parts_j2 s15 s16 = some R) ?_ ?_
 refine wp_seq_k fun _ hK6 => ?_
 refine wp_region_list ?_
 refine op_mv hf rfl rfl fun a hf => ?_
 obtain ⟨r5, hr5, hm⟩ := ob hm
 refine op_enter (ex_call c_111 hf (vs := [str x_s, byte 58]) rfl) rfl hf rfl rfl (w_strings_IndexByte x_s 58 r5 _ (hG.own hF hO) hr5) ?_
 rintro e w' ⟨he, hb⟩
 refine ⟨_, he, fun a hf => ?_⟩
 have hO := hO.grow hb
 refine op_as hf rfl rfl fun a hf => ?_
 refine wpList_nil ?_
 refine nor_then (hK6 _ _ ?_)
 refine wp_seq_cut (fun a w => ∃ (t10 : Bool), Fits 56 [(0, str x_s), (2, ptr b1 0), (3, ptr b3 0), (4, int r5), (14, .bool t10)] a ∧ Dk.Own w0 [] w [.blk b3 [str [], str [], str [], str [], str [], .bool false, .bool false, .bool false] 90, .blk b1 [str [], str [], str [], str [], str [], .bool false, .bool false, .bool false] 90] ∧ uriref_parts_j1 x_s r5 t10 = some R) ?_ ?_
 refine wp_region_list ?_
 refine op_mv hf rfl rfl fun a hf => ?_
 refine op_val (ex_gtr (m := r5) (n := 0) hf rfl rfl) rfl hf rfl rfl fun a hf => ?_
 refine op_mv hf rfl rfl fun a hf => ?_
 rcases bcase (decide (0 < r5)) with hc7 | hc7
 have hm := it hc7 hm
 refine op_guard rfl hf rfl rfl (hc7) ?_
 refine op_mv hf rfl rfl fun a hf => ?_
 refine op_guard rfl hf rfl rfl (hc7) ?_
 refine op_mv hf rfl rfl fun a hf => ?_
 refine op_guard rfl hf rfl rfl (hc7) ?_
 obtain ⟨s8, hs8, hm⟩ := ob hm
 refine op_val (ex_to_s (l := x_s) Tryz.underlying9 hf rfl rfl hs8) rfl hf rfl rfl fun a hf => ?_
 refine op_guard rfl hf rfl rfl (hc7) ?_
 obtain ⟨r9, hr9, hm⟩ := ob hm
 refine op_enter (ex_call c_162 hf (vs := [str s8]) rfl) rfl hf rfl rfl (w_uriref_scheme s8 r9 _ (hG.own hF hO) hr9) ?_
 rintro e w' ⟨he, hb⟩
 refine ⟨_, he, fun a hf => ?_⟩
 have hO := hO.grow hb
 refine op_val (ex_pick_t hf rfl hc7 rfl) rfl hf rfl rfl fun a hf => ?_
 refine wpList_nil ?_
 refine nor_then ?_
 exact ⟨r9, (hf.cons rfl (hf.cons rfl (hf.cons rfl (hf.cons rfl (hf.cons rfl hf.nil))))), hO, hm⟩
 have hm := ie hc7 hm
 refine op_pass rfl hf rfl rfl (hc7) rfl rfl fun a hf => ?_
 refine op_pass rfl hf rfl rfl (hc7) rfl rfl fun a hf => ?_
 refine op_pass rfl hf rfl rfl (hc7) rfl rfl fun a hf => ?_
 refine op_pass rfl hf rfl rfl (hc7) rfl rfl fun a hf => ?_
 refine op_val (ex_pick_f hf rfl hc7 rfl) rfl hf rfl rfl fun a hf => ?_
 refine wpList_nil ?_
 refine nor_then ?_
 exact ⟨false, (hf.cons rfl (hf.cons rfl (hf.cons rfl (hf.cons rfl (hf.cons rfl hf.nil))))), hO, hm⟩
 rintro a w ⟨t10, hf, hO, hm⟩
 rw [uriref_parts_j1] at hm
 refine wp_cond_cut hf rfl (fun hc11 => ?_) (fun hc11 => ?_)
 have hm := it hc11 hm
 obtain ⟨s12, hs12, hm⟩ := ob hm
 obtain ⟨i13, hi13, hm⟩ := ob hm
 obtain ⟨s14, hs14, hm⟩ := ob hm
 refine wp_drawS' (S := Unit) (E0 := [(0, str x_s), (2, ptr b1 0), (3, ptr b3 0), (4, int r5)]) (by kernel_rfl) (fun k σ w => match k with | 0 => Dk.Own w0 [] w [.blk b3 [str [], str [], str [], str [], str [], .bool false, .bool false, .bool false] 90, .blk b1 [str [], str [], str [], str [], str [], .bool false, .bool false, .bool false] 90] | _ => Dk.Own w0 [] w [.blk b3 [str s12, str [], str [], str [], str [], .bool false, .bool false, .bool false] 90, .blk b1 [str [], str [], str [], str [], str [], .bool false, .bool false, .bool false] 90]) (fun σ => [⟨[(0, str x_s)], some (15, str x_s)⟩, ⟨[(4, int r5)], some (16, int r5)⟩, ⟨[(15, str x_s), (16, int r5)], some (17, str s12)⟩, ⟨[(0, str x_s)], some (18, str x_s)⟩, ⟨[(4, int r5)], some (19, int r5)⟩, ⟨[(19, int r5)], some (20, int i13)⟩, ⟨[(18, str x_s), (20, int i13)], some (21, str s14)⟩, ⟨[(3, ptr b3 0)], some (22, ptr b3 0)⟩, ⟨[(17, str s12), (22, ptr b3 0)], none⟩, ⟨[(21, str s14)], some (0, str s14)⟩]) () [8] rfl (fun _ => rfl) (fun _ => rfl) (fun _ => rfl) rfl rfl (by decide) rfl hO.drew (hf.cons rfl (hf.cons rfl (hf.cons rfl (hf.cons rfl hf.nil)))) (fun σ => ⟨⟨rfl, trivial⟩, ⟨rfl, trivial⟩, ⟨rfl, rfl, trivial⟩, ⟨rfl, trivial⟩, ⟨rfl, trivial⟩, ⟨rfl, trivial⟩, ⟨rfl, rfl, trivial⟩, ⟨rfl, trivial⟩, ⟨rfl, rfl, trivial⟩, ⟨rfl, trivial⟩, trivial⟩) ⟨sS_pure rfl (fun σ => rfl) (fun σ => rfl) (fun σ a w k _ _ _ _ hf => ex_move hf rfl), sS_pure rfl (fun σ => rfl) (fun σ => rfl) (fun σ a w k _ _ _ _ hf => ex_move hf rfl), sS_pure rfl (fun σ => rfl) (fun σ => rfl) (fun σ a w k _ _ _ _ hf => ex_to_s (l := x_s) Tryz.underlying9 hf rfl rfl hs12), sS_pure rfl (fun σ => rfl) (fun σ => rfl) (fun σ a w k _ _ _ _ hf => ex_move hf rfl), sS_pure rfl (fun σ => rfl) (fun σ => rfl) (fun σ a w k _ _ _ _ hf => ex_move hf rfl), sS_pure rfl (fun σ => rfl) (fun σ => rfl) (fun σ a w k _ _ _ _ hf => ex_add hf rfl rfl hi13), sS_pure rfl (fun σ => rfl) (fun σ => rfl) (fun σ a w k _ _ _ _ hf => ex_from_s (l := x_s) Tryz.underlying9 hf rfl rfl hs14), sS_pure rfl (fun σ => rfl) (fun σ => rfl) (fun σ a w k _ _ _ _ hf => ex_field fa_90_0 hf rfl), sS_skip rfl (fun σ => rfl) (fun σ => rfl) rfl (fun σ w (hO : Dk.Own w0 [] w _) => by obtain ⟨w', hO', hr⟩ := ef_store1 (x := (.tmp 22)) (y := (.tmp 17)) (E := [(17, str s12), (22, ptr b3 0)]) (i := 0) (o := 0) (v := str s12) sz_9 rfl rfl rfl rfl hO rfl rfl; exact ⟨(), w', hO', ⟨.inr rfl, .inr rfl, .inr rfl, .inr rfl, .inr rfl, .inr rfl, .inr rfl, .inr rfl, .inr rfl, .inr rfl, trivial⟩, hr⟩), sS_pure rfl (fun σ => rfl) (fun σ => rfl) (fun σ a w k _ _ _ _ hf => ex_assign hf rfl), trivial⟩ ?_
 rintro _ a w hf hO
 have hO : Dk.Own w0 [] w _ := hO
 have hf : Fits 56 [(0, str s14), (2, ptr b1 0), (3, ptr b3 0)] a := (hf.cons rfl (hf.cons rfl (hf.cons rfl hf.nil)))
 refine nor_then ?_
 exact ⟨s14, s12, (hf.cons rfl (hf.cons rfl (hf.cons rfl hf.nil))), hO, hm⟩
 have hm := ie hc11 hm
 refine wp_skip ?_
 refine nor_then ?_
 exact ⟨x_s, [], (hf.cons rfl (hf.cons rfl (hf.cons rfl hf.nil))), hO, hm⟩
 rintro a w ⟨s15, s16, hf, hO, hm⟩
 rw [uriref_parts_j2] at hm
 refine wp_seq_cut (fun a w => ∃ (s23 : Str) (s24 : Str) (t25 : Bool), Fits 56 [(0, str s23), (2, ptr b1 0), (3, ptr b3 0)] a ∧ Dk.Own w0 [] w [.blk b3 [str s16, str s24, str [], str [], str [], .bool t25, .bool false, .bool false] 90, .blk b1 [str [], str [], str [], str [], str [], .bool false, .bool false, .bool false] 90] ∧ uriref_parts_j3 s16 s23 s24 t25 = some R) ?_ ?_
 refine wp_seq_k fun _ hK18 => ?_
 refine wp_region_list ?_
 refine op_mv hf rfl rfl fun a hf => ?_
 obtain ⟨r17, hr17, hm⟩ := ob hm
 refine op_enter (ex_call c_163 hf (vs := [str s15, str [47, 47]]) rfl) rfl hf rfl rfl (w_strings_HasPrefix s15 [47, 47] r17 _ (hG.own hF hO) hr17) ?_
 rintro e w' ⟨he, hb⟩
 refine ⟨_, he, fun a hf => ?_⟩
 have hO := hO.grow hb
 refine wpList_nil ?_
 refine nor_then (hK18 _ _ ?_)
 refine wp_cond_cut hf rfl (fun hc19 => ?_) (fun hc19 => ?_)
 have hm := it hc19 hm
 refine wp_seq_k fun _ hK20 => ?_
 refine wp_region_list ?_
 refine op_val (ex_field fa_90_5 hf rfl) rfl hf rfl rfl fun a hf => ?_
 refine op_store1 (i := 0) (o := 5) (v := .bool true) sz_4 rfl rfl rfl rfl hf rfl rfl hO fun w hO => ?_
 refine wpList_nil ?_
 refine nor_then (hK20 _ _ ?_)
 refine wp_region_list ?_
 refine op_mv hf rfl rfl fun a hf => ?_
 obtain ⟨s21, hs21, hm⟩ := ob hm
 refine op_val (ex_from_s (l := s15) Tryz.underlying9 hf rfl rfl hs21) rfl hf rfl rfl fun a hf => ?_
 obtain ⟨r22, hr22, hm⟩ := ob hm
 refine op_enter (ex_call c_164 hf (vs := [str s21, str [47, 63, 35]]) rfl) rfl hf rfl rfl (w_uriref_upto s21 [47, 63, 35] r22 _ (hG.own hF hO) hr22) ?_
 rintro e w' ⟨he, hb⟩
 refine ⟨_, he, fun a hf => ?_⟩
 have hO := hO.grow hb
 refine op_mv hf rfl rfl fun a hf => ?_
 refine op_val (ex_extract hf rfl rfl) rfl hf rfl rfl fun a hf => ?_
 refine op_val (ex_extract hf rfl rfl) rfl hf rfl rfl fun a hf => ?_
 refine op_val (ex_field fa_90_1 hf rfl) rfl hf rfl rfl fun a hf => ?_
 refine op_store1 (i := 0) (o := 1) (v := str r22.1) sz_9 rfl rfl rfl rfl hf rfl rfl hO fun w hO => ?_
 refine op_as hf rfl rfl fun a hf => ?_
 refine wpList_nil ?_
 refine nor_then ?_
 exact ⟨r22.2, r22.1, true, (hf.cons rfl (hf.cons rfl (hf.cons rfl hf.nil))), hO, hm⟩
 have hm := ie hc19 hm
 refine wp_skip ?_
 refine nor_then ?_
 exact ⟨s15, [], false, (hf.cons rfl (hf.cons rfl (hf.cons rfl hf.nil))), hO, hm⟩
 rintro a w ⟨s23, s24, t25, hf, hO, hm⟩
 rw [uriref_parts_j3] at hm
 refine wp_seq_k fun _ hK27 => ?_
 refine wp_region_list ?_
 refine op_mv hf rfl rfl fun a hf => ?_
 obtain ⟨r26, hr26, hm⟩ := ob hm
 refine op_enter (ex_call c_164 hf (vs := [str s23, str [63, 35]]) rfl) rfl hf rfl rfl (w_uriref_upto s23 [63, 35] r26 _ (hG.own hF hO) hr26) ?_
 rintro e w' ⟨he, hb⟩
 refine ⟨_, he, fun a hf => ?_⟩
 have hO := hO.grow hb
 refine op_mv hf rfl rfl fun a hf => ?_
 refine op_val (ex_extract hf rfl rfl) rfl hf rfl rfl fun a hf => ?_
 refine op_val (ex_extract hf rfl rfl) rfl hf rfl rfl fun a hf => ?_
 refine op_val (ex_field fa_90_2 hf rfl) rfl hf rfl rfl fun a hf => ?_
 refine op_store1 (i := 0) (o := 2) (v := str r26.1) sz_9 rfl rfl rfl rfl hf rfl rfl hO fun w hO => ?_
 refine op_as hf rfl rfl fun a hf => ?_
 refine wpList_nil ?_
 refine nor_then (hK27 _ _ ?_)
 refine wp_seq_cut (fun a w => ∃ (s34 : Str) (s35 : Str) (t36 : Bool), Fits 56 [(0, str s34), (2, ptr b1 0), (3, ptr b3 0)] a ∧ Dk.Own w0 [] w [.blk b3 [str s16, str s24, str r26.1, str s35, str [], .bool t25, .bool t36, .bool false] 90, .blk b1 [str [], str [], str [], str [], str [], .bool false, .bool false, .bool false] 90] ∧ uriref_parts_j4 s16 s24 t25 r26 s34 s35 t36 = some R) ?_ ?_
 refine wp_seq_k fun _ hK29 => ?_
 refine wp_region_list ?_
 refine op_mv hf rfl rfl fun a hf => ?_
 obtain ⟨r28, hr28, hm⟩ := ob hm
 refine op_enter (ex_call c_163 hf (vs := [str r26.2, str [63]]) rfl) rfl hf rfl rfl (w_strings_HasPrefix r26.2 [63] r28 _ (hG.own hF hO) hr28) ?_
 rintro e w' ⟨he, hb⟩
 refine ⟨_, he, fun a hf => ?_⟩
 have hO := hO.grow hb
 refine wpList_nil ?_
 refine nor_then (hK29 _ _ ?_)
 refine wp_cond_cut hf rfl (fun hc30 => ?_) (fun hc30 => ?_)
 have hm := it hc30 hm
 refine wp_seq_k fun _ hK31 => ?_
 refine wp_region_list ?_
 refine op_val (ex_field fa_90_6 hf rfl) rfl hf rfl rfl fun a hf => ?_
 refine op_store1 (i := 0) (o := 6) (v := .bool true) sz_4 rfl rfl rfl rfl hf rfl rfl hO fun w hO => ?_
 refine wpList_nil ?_
 refine nor_then (hK31 _ _ ?_)
 refine wp_region_list ?_
 refine op_mv hf rfl rfl fun a hf => ?_
 obtain ⟨s32, hs32, hm⟩ := ob hm
 refine op_val (ex_from_s (l := r26.2) Tryz.underlying9 hf rfl rfl hs32) rfl hf rfl rfl fun a hf => ?_
 obtain ⟨r33, hr33, hm⟩ := ob hm
 refine op_enter (ex_call c_164 hf (vs := [str s32, str [35]]) rfl) rfl hf rfl rfl (w_uriref_upto s32 [35] r33 _ (hG.own hF hO) hr33) ?_
 rintro e w' ⟨he, hb⟩
 refine ⟨_, he, fun a hf => ?_⟩
 have hO := hO.grow hb
 refine op_mv hf rfl rfl fun a hf => ?_
 refine op_val (ex_extract hf rfl rfl) rfl hf rfl rfl fun a hf => ?_
 refine op_val (ex_extract hf rfl rfl) rfl hf rfl rfl fun a hf => ?_
 refine op_val (ex_field fa_90_3 hf rfl) rfl hf rfl rfl fun a hf => ?_
 refine op_store1 (i := 0) (o := 3) (v := str r33.1) sz_9 rfl rfl rfl rfl hf rfl rfl hO fun w hO => ?_
 refine op_as hf rfl rfl fun a hf => ?_
 refine wpList_nil ?_
 refine nor_then ?_
 exact ⟨r33.2, r33.1, true, (hf.cons rfl (hf.cons rfl (hf.cons rfl hf.nil))), hO, hm⟩
 have hm := ie hc30 hm
 refine wp_skip ?_
 refine nor_then ?_
 exact ⟨r26.2, [], false, (hf.cons rfl (hf.cons rfl (hf.cons rfl hf.nil))), hO, hm⟩
 rintro a w ⟨s34, s35, t36, hf, hO, hm⟩
 rw [uriref_parts_j4] at hm
 refine wp_seq_cut (fun a w => ∃ (s40 : Str) (t41 : Bool), Fits 56 [(2, ptr b1 0), (3, ptr b3 0)] a ∧ Dk.Own w0 [] w [.blk b3 [str s16, str s24, str r26.1, str s35, str s40, .bool t25, .bool t36, .bool t41] 90, .blk b1 [str [], str [], str [], str [], str [], .bool false, .bool false, .bool false] 90] ∧ uriref_parts_j5 s16 s24 t25 r26 s35 t36 s40 t41 = some R) ?_ ?_
 refine wp_seq_k fun _ hK37 => ?_
 refine wp_region_list ?_
 refine op_mv hf rfl rfl fun a hf => ?_
 refine op_val (ex_neq_s (l := s34) (m := []) hf rfl rfl) rfl hf rfl rfl fun a hf => ?_
 refine wpList_nil ?_
 refine nor_then (hK37 _ _ ?_)
 refine wp_cond_cut hf rfl (fun hc38 => ?_) (fun hc38 => ?_)
 have hm := it hc38 hm
 obtain ⟨s39, hs39, hm⟩ := ob hm
 refine wp_drawS' (S := Unit) (E0 := [(0, str s34), (2, ptr b1 0), (3, ptr b3 0)]) (by kernel_rfl) (fun k σ w => match k with | 0 => Dk.Own w0 [] w [.blk b3 [str s16, str s24, str r26.1, str s35, str [], .bool t25, .bool t36, .bool false] 90, .blk b1 [str [], str [], str [], str [], str [], .bool false, .bool false, .bool false] 90] | 1 => Dk.Own w0 [] w [.blk b3 [str s16, str s24, str r26.1, str s35, str [], .bool t25, .bool t36, .bool true] 90, .blk b1 [str [], str [], str [], str [], str [], .bool false, .bool false, .bool false] 90] | _ => Dk.Own w0 [] w [.blk b3 [str s16, str s24, str r26.1, str s35, str s39, .bool t25, .bool t36, .bool true] 90, .blk b1 [str [], str [], str [], str [], str [], .bool false, .bool false, .bool false] 90]) (fun σ => [⟨[(0, str s34)], some (51, str s34)⟩, ⟨[(51, str s34)], some (52, str s39)⟩, ⟨[(3, ptr b3 0)], some (53, ptr b3 7)⟩, ⟨[(53, ptr b3 7)], none⟩, ⟨[(3, ptr b3 0)], some (54, ptr b3 4)⟩, ⟨[(52, str s39), (54, ptr b3 4)], none⟩]) () [3, 5] rfl (fun _ => rfl) (fun _ => rfl) (fun _ => rfl) rfl rfl (by decide) rfl hO.drew (hf.cons rfl (hf.cons rfl (hf.cons rfl hf.nil))) (fun σ => ⟨⟨rfl, trivial⟩, ⟨rfl, trivial⟩, ⟨rfl, trivial⟩, ⟨rfl, trivial⟩, ⟨rfl, trivial⟩, ⟨rfl, rfl, trivial⟩, trivial⟩) ⟨sS_pure rfl (fun σ => rfl) (fun σ => rfl) (fun σ a w k _ _ _ _ hf => ex_move hf rfl), sS_pure rfl (fun σ => rfl) (fun σ => rfl) (fun σ a w k _ _ _ _ hf => ex_from_s (l := s34) Tryz.underlying9 hf rfl rfl hs39), sS_pure rfl (fun σ => rfl) (fun σ => rfl) (fun σ a w k _ _ _ _ hf => ex_field fa_90_7 hf rfl), sS_skip rfl (fun σ => rfl) (fun σ => rfl) rfl (fun σ w (hO : Dk.Own w0 [] w _) => by obtain ⟨w', hO', hr⟩ := ef_store1 (x := (.tmp 53)) (y := (.const (.bool true))) (E := [(53, ptr b3 7)]) (i := 0) (o := 7) (v := .bool true) sz_4 rfl rfl rfl rfl hO rfl rfl; exact ⟨(), w', hO', ⟨.inr rfl, .inr rfl, .inr rfl, .inr rfl, .inr rfl, .inr rfl, trivial⟩, hr⟩), sS_pure rfl (fun σ => rfl) (fun σ => rfl) (fun σ a w k _ _ _ _ hf => ex_field fa_90_4 hf rfl), sS_skip rfl (fun σ => rfl) (fun σ => rfl) rfl (fun σ w (hO : Dk.Own w0 [] w _) => by obtain ⟨w', hO', hr⟩ := ef_store1 (x := (.tmp 54)) (y := (.tmp 52)) (E := [(52, str s39), (54, ptr b3 4)]) (i := 0) (o := 4) (v := str s39) sz_9 rfl rfl rfl rfl hO rfl rfl; exact ⟨(), w', hO', ⟨.inr rfl, .inr rfl, .inr rfl, .inr rfl, .inr rfl, .inr rfl, trivial⟩, hr⟩), trivial⟩ ?_
 rintro _ a w hf hO
 have hO : Dk.Own w0 [] w _ := hO
 have hf : Fits 56 [(2, ptr b1 0), (3, ptr b3 0)] a := (hf.cons rfl (hf.cons rfl hf.nil))
 refine nor_then ?_
 exact ⟨s39, true, (hf.cons rfl (hf.cons rfl hf.nil)), hO, hm⟩
 have hm := ie hc38 hm
 refine wp_skip ?_
 refine nor_then ?_
 exact ⟨[], false, (hf.cons rfl (hf.cons rfl hf.nil)), hO, hm⟩
 rintro a w ⟨s40, t41, hf, hO, hm⟩
 rw [uriref_parts_j5] at hm
 refine wp_seq_k fun _ hK42 => ?_
 refine wp_region_list ?_
 refine op_val (ex_loadN (o := 0) (vs := [str s16, str s24, str r26.1, str s35, str s40, .bool t25, .bool t36, .bool t41]) ag_90 sz_90 (hO.blkSees (i := 0) rfl) rfl rfl hf rfl) rfl hf rfl rfl fun a hf => ?_
 refine op_storeN (i := 1) (n := 8) sz_90 rfl rfl rfl (by simp [Value.oneCell']) hf rfl rfl hO fun w hO => ?_
 refine wpList_nil ?_
 refine nor_then (hK42 _ _ ?_)
 refine wp_ret ?_
 obtain rfl := Option.some.inj hm
 exact post_ret Tryz.results145 hf (.cell rfl (run_loadVarN (n := 8) (vs := [str s16, str s24, str r26.1, str s35, str s40, .bool t25, .bool t36, .bool t41]) ag_90 sz_90 rfl ((hO.blkSees (i := 1) rfl).cells (o := 0) (n := 8) rfl)) .nil) ⟨rfl, hO.below⟩

set_option maxHeartbeats 1000000 in
theorem w_octet_IsPath (x_b : UInt8) (R : Bool) (w0 : World) (hG : Glob w0) (hm : octet_IsPath x_b = some R) :
    Calls Tryz.prog 176 #[byte x_b] w0 fun e w' => e = .returned (.bool R) ∧ Below w0.heap.size w0 w' := by
 rw [octet_IsPath] at hm
 refine calls_enter (vs := [byte x_b]) Tryz.func176 rfl Tryz.ntmps176 rfl fun a hf => ?_
 have hF : Away [] := away_nil
 have hO : Dk.Own w0 [] w0 [] := Dk.Own.refl w0
 refine wp_seq_k fun _ hK1 => ?_
 refine wp_region_list ?_
 refine op_as hf rfl rfl fun a hf => ?_
 refine wpList_nil ?_
 refine nor_then (hK1 _ _ ?_)
 refine wp_seq_cut (fun a w => ∃ (t7 : Bool), Fits 13 [(2, .bool t7)] a ∧ Dk.Own w0 [] w [] ∧ octet_IsPath_j1 t7 = some R) ?_ ?_
 refine wp_region_list ?_
 refine op_mv hf rfl rfl fun a hf => ?_
 obtain ⟨r2, hr2, hm⟩ := ob hm
 refine op_enter (ex_call c_81 hf (vs := [byte x_b]) rfl) rfl hf rfl rfl (w_octet_IsUnreserved x_b r2 _ (hG.own hF hO) hr2) ?_
 rintro e w' ⟨he, hb⟩
 refine ⟨_, he, fun a hf => ?_⟩
 have hO := hO.grow hb
 refine op_mv hf rfl rfl fun a hf => ?_
 rcases bcase (r2) with hc3 | hc3
 have hm := it hc3 hm
 refine op_pass rfl hf rfl rfl (hc3) rfl rfl fun a hf => ?_
 refine op_pass rfl hf rfl rfl (hc3) rfl rfl fun a hf => ?_
 refine op_val (ex_pick_t hf rfl hc3 rfl) rfl hf rfl rfl fun a hf => ?_
 refine op_mv hf rfl rfl fun a hf => ?_
 refine op_pass rfl hf rfl rfl (rfl) rfl rfl fun a hf => ?_
 refine op_pass rfl hf rfl rfl (rfl) rfl rfl fun a hf => ?_
 refine op_val (ex_pick_t hf rfl rfl rfl) rfl hf rfl rfl fun a hf => ?_
 refine op_as hf rfl rfl fun a hf => ?_
 refine wpList_nil ?_
 refine nor_then ?_
 exact ⟨true, (hf.cons rfl hf.nil), hO, hm⟩
 have hm := ie hc3 hm
 refine op_guard rfl hf rfl rfl (hc3) ?_
 refine op_mv hf rfl rfl fun a hf => ?_
 refine op_guard rfl hf rfl rfl (hc3) ?_
 obtain ⟨r4, hr4, hm⟩ := ob hm
 refine op_enter (ex_call c_82 hf (vs := [byte x_b]) rfl) rfl hf rfl rfl (w_octet_IsSub x_b r4 _ (hG.own hF hO) hr4) ?_
 rintro e w' ⟨he, hb⟩
 refine ⟨_, he, fun a hf => ?_⟩
 have hO := hO.grow hb
 refine op_val (ex_pick_f hf rfl hc3 rfl) rfl hf rfl rfl fun a hf => ?_
 refine op_mv hf rfl rfl fun a hf => ?_
 rcases bcase (r4) with hc5 | hc5
 have hm := it hc5 hm
 refine op_pass rfl hf rfl rfl (hc5) rfl rfl fun a hf => ?_
 refine op_pass rfl hf rfl rfl (hc5) rfl rfl fun a hf => ?_
 refine op_val (ex_pick_t hf rfl hc5 rfl) rfl hf rfl rfl fun a hf => ?_
 refine op_as hf rfl rfl fun a hf => ?_
 refine wpList_nil ?_
 refine nor_then ?_
 exact ⟨true, (hf.cons rfl hf.nil), hO, hm⟩
 have hm := ie hc5 hm
 refine op_guard rfl hf rfl rfl (hc5) ?_
 refine op_mv hf rfl rfl fun a hf => ?_
 refine op_guard rfl hf rfl rfl (hc5) ?_
 obtain ⟨r6, hr6, hm⟩ := ob hm
 refine op_enter (ex_call c_124 hf (vs := [byte x_b, str [58, 64]]) rfl) rfl hf rfl rfl (w_octet_one x_b [58, 64] r6 _ (hG.own hF hO) hr6) ?_
 rintro e w' ⟨he, hb⟩
 refine ⟨_, he, fun a hf => ?_⟩
 have hO := hO.grow hb
 refine op_val (ex_pick_f hf rfl hc5 rfl) rfl hf rfl rfl fun a hf => ?_
 refine op_as hf rfl rfl fun a hf => ?_
 refine wpList_nil ?_
 refine nor_then ?_
 exact ⟨r6, (hf.cons rfl hf.nil), hO, hm⟩
 rintro a w ⟨t7, hf, hO, hm⟩
 rw [octet_IsPath_j1] at hm
 refine wp_ret ?_
 obtain rfl := Option.some.inj hm
 exact post_ret Tryz.results176 hf (.tmp rfl .nil) ⟨rfl, hO.below⟩

set_option maxHeartbeats 1000000 in
theorem w_uriref_bytes (x_s : Str) (x_more : Str) (R : Bool) (w0 : World) (hG : Glob w0) (hm : uriref_bytes x_s x_more = some R) :
    Calls Tryz.prog 165 #[str x_s, str x_more] w0 fun e w' => e = .returned (.bool R) ∧ Below w0.heap.size w0 w' := by
 rw [uriref_bytes] at hm
 refine calls_enter (vs := [str x_s, str x_more]) Tryz.func165 rfl Tryz.ntmps165 rfl fun a hf => ?_
 have hF : Away [] := away_nil
 have hO : Dk.Own w0 [] w0 [] := Dk.Own.refl w0
 refine wp_seq_k fun _ hK1 => ?_
 refine wp_region_list ?_
 refine op_as hf rfl rfl fun a hf => ?_
 refine wpList_nil ?_
 refine nor_then (hK1 _ _ ?_)
 refine wp_seq_k fun _ hK32 => ?_
 refine wp_seq_k fun _ hK2 => ?_
 refine wp_region_list ?_
 refine op_as hf rfl rfl fun a hf => ?_
 refine wpList_nil ?_
 refine nor_then (hK2 _ _ ?_)
 refine wp_block ?_
 refine wp_loop_n (fun k a w => ∃ (i3 : Int), Fits 49 [(0, str x_s), (1, str x_more), (5, int i3)] a ∧ Dk.Own w0 [] w [] ∧ uriref_bytes_L1 x_s x_more k i3 = some R) ?_ fuel ?_
 rintro n1 a w ⟨i3, hf, hO, hm⟩
 obtain _ | n1 := n1
 rw [uriref_bytes_L1] at hm
 cases hm
 rw [uriref_bytes_L1] at hm
 refine wp_seq_k fun _ hK6 => ?_
 refine wp_seq_k fun _ hK4 => ?_
 refine wp_region_list ?_
 refine op_mv hf rfl rfl fun a hf => ?_
 refine op_mv hf rfl rfl fun a hf => ?_
 refine op_val (ex_len_s (l := x_s) Tryz.underlying9 hf rfl) rfl hf rfl rfl fun a hf => ?_
 refine op_val (ex_lss (m := i3) (n := (x_s.length : Int)) hf rfl rfl) rfl hf rfl rfl fun a hf => ?_
 refine wpList_nil ?_
 refine nor_then (hK4 _ _ ?_)
 refine wp_cond_cut hf rfl (fun hc5 => ?_) (fun hc5 => ?_)
 have hm := it hc5 hm
 refine wp_skip ?_
 refine nor_then (hK6 _ _ ?_)
 refine wp_seq_cut (fun a w => ∃ (i30 : Int), Fits 49 [(0, str x_s), (1, str x_more), (5, int i30)] a ∧ Dk.Own w0 [] w [] ∧ uriref_bytes_j4 (uriref_bytes_L1 x_s x_more n1) i30 = some R) ?_ ?_
 refine wp_block ?_
 refine wp_block ?_
 refine wp_seq_k fun _ hK8 => ?_
 refine wp_region_list ?_
 refine op_mv hf rfl rfl fun a hf => ?_
 refine op_mv hf rfl rfl fun a hf => ?_
 obtain ⟨b7, hb7, hm⟩ := ob hm
 refine op_val (ex_index (l := x_s) Tryz.underlying9 hf rfl rfl hb7) rfl hf rfl rfl fun a hf => ?_
 refine op_val (ex_eql_b (b := b7) (c := 37) hf rfl rfl) rfl hf rfl rfl fun a hf => ?_
 refine op_as hf rfl rfl fun a hf => ?_
 refine wpList_nil ?_
 refine nor_then (hK8 _ _ ?_)
 refine wp_cond_cut hf rfl (fun hc9 => ?_) (fun hc9 => ?_)
 have hm := it hc9 hm
 refine wp_seq_k fun _ hK20 => ?_
 refine wp_seq_cut (fun a w => ∃ (t17 : Bool), Fits 49 [(0, str x_s), (1, str x_more), (5, int i3), (32, .bool t17)] a ∧ Dk.Own w0 [] w [] ∧ uriref_bytes_j2 (uriref_bytes_L1 x_s x_more n1) i3 t17 = some R) ?_ ?_
 refine wp_region_list ?_
 refine op_mv hf rfl rfl fun a hf => ?_
 obtain ⟨i10, hi10, hm⟩ := ob hm
 refine op_val (ex_add hf rfl rfl hi10) rfl hf rfl rfl fun a hf => ?_
 refine op_mv hf rfl rfl fun a hf => ?_
 refine op_val (ex_len_s (l := x_s) Tryz.underlying9 hf rfl) rfl hf rfl rfl fun a hf => ?_
 refine op_val (ex_geq (m := i10) (n := (x_s.length : Int)) hf rfl rfl) rfl hf rfl rfl fun a hf => ?_
 refine op_mv hf rfl rfl fun a hf => ?_
 rcases bcase (decide ((x_s.length : Int) ≤ i10)) with hc11 | hc11
 have hm := it hc11 hm
 refine op_pass rfl hf rfl rfl (hc11) rfl rfl fun a hf => ?_
 refine op_pass rfl hf rfl rfl (hc11) rfl rfl fun a hf => ?_
 refine op_pass rfl hf rfl rfl (hc11) rfl rfl fun a hf => ?_
 refine op_pass rfl hf rfl rfl (hc11) rfl rfl fun a hf => ?_
 refine op_pass rfl hf rfl rfl (hc11) rfl rfl fun a hf => ?_
 refine op_pass rfl hf rfl rfl (hc11) rfl rfl fun a hf => ?_
 refine op_pass rfl hf rfl rfl (hc11) rfl rfl fun a hf => ?_
 refine op_pass rfl hf rfl rfl (hc11) rfl rfl fun a hf => ?_
 refine op_pass rfl hf rfl rfl (hc11) rfl rfl fun a hf => ?_
 refine op_val (ex_pick_t hf rfl hc11 rfl) rfl hf rfl rfl fun a hf => ?_
 refine wpList_nil ?_
 refine nor_then ?_
 exact ⟨true, (hf.cons rfl (hf.cons rfl (hf.cons rfl (hf.cons rfl hf.nil)))), hO, hm⟩
 have hm := ie hc11 hm
 refine op_guard rfl hf rfl rfl (hc11) ?_
 refine op_mv hf rfl rfl fun a hf => ?_
 refine op_guard rfl hf rfl rfl (hc11) ?_
 refine op_mv hf rfl rfl fun a hf => ?_
 refine op_guard rfl hf rfl rfl (hc11) ?_
 obtain ⟨i12, hi12, hm⟩ := ob hm
 refine op_val (ex_add hf rfl rfl hi12) rfl hf rfl rfl fun a hf => ?_
 refine op_guard rfl hf rfl rfl (hc11) ?_
 refine op_mv hf rfl rfl fun a hf => ?_
 refine op_guard rfl hf rfl rfl (hc11) ?_
 obtain ⟨i13, hi13, hm⟩ := ob hm
 refine op_val (ex_add hf rfl rfl hi13) rfl hf rfl rfl fun a hf => ?_
 refine op_guard rfl hf rfl rfl (hc11) ?_
 obtain ⟨s14, hs14, hm⟩ := ob hm
 refine op_val (ex_sub_s (l := x_s) Tryz.underlying9 hf rfl rfl rfl hs14) rfl hf rfl rfl fun a hf => ?_
 refine op_guard rfl hf rfl rfl (hc11) ?_
 refine op_buildSlice (vs := [(0, str s14)]) (cs := [str s14]) (e := 9) (sz := 1) hf rfl rfl (fun w => by kernel_rfl) rfl rfl hO fun a b15 w hf hO => ?_
 refine op_guard rfl hf rfl rfl (hc11) ?_
 obtain ⟨r16, hr16, hm⟩ := ob hm
 refine op_enter (ex_call c_63 hf (vs := [.func (.func 121) #[] #[], .slice (some ⟨b15, 0, none⟩) (([s14] : List Str).length) 1]) rfl) rfl hf rfl rfl (w_octet_All octet_IsHex ([s14] : List Str) r16 _ (hG.own hF hO) c_121 (fun y0 r w hG h => callsE (w_octet_IsHex y0 r w hG h)) (hO.rowSees (i := 0) rfl) (hO.rowCap (i := 0) rfl) hr16) ?_
 rintro e w' ⟨he, hb⟩
 refine ⟨_, he, fun a hf => ?_⟩
 have hO := hO.grow hb
 refine op_guard rfl hf rfl rfl (hc11) ?_
 refine op_val (ex_not hf rfl) rfl hf rfl rfl fun a hf => ?_
 refine op_val (ex_pick_f hf rfl hc11 rfl) rfl hf rfl rfl fun a hf => ?_
 refine wpList_nil ?_
 refine nor_then ?_
 exact ⟨!r16, (hf.cons rfl (hf.cons rfl (hf.cons rfl (hf.cons rfl hf.nil)))), (hO.sub (.cons _ .slnil)), hm⟩
 rintro a w ⟨t17, hf, hO, hm⟩
 rw [uriref_bytes_j2] at hm
 refine wp_cond_cut hf rfl (fun hc18 => ?_) (fun hc18 => ?_)
 have hm := it hc18 hm
 refine wp_seq_k fun _ hK19 => ?_
 refine wp_region_list ?_
 refine op_as hf rfl rfl fun a hf => ?_
 refine wpList_nil ?_
 refine nor_then (hK19 _ _ ?_)
 refine wp_ret ?_
 refine ret_then ?_
 refine ret_block ?_
 refine ret_block ?_
 refine ret_then ?_
 refine ret_then ?_
 refine ret_block ?_
 refine ret_then ?_
 obtain rfl := Option.some.inj hm
 exact post_ret Tryz.results165 hf (.tmp rfl .nil) ⟨rfl, hO.below⟩
 have hm := ie hc18 hm
 refine wp_skip ?_
 refine nor_then (hK20 _ _ ?_)
 refine wp_region_list ?_
 refine op_mv hf rfl rfl fun a hf => ?_
 obtain ⟨i21, hi21, hm⟩ := ob hm
 refine op_val (ex_add hf rfl rfl hi21) rfl hf rfl rfl fun a hf => ?_
 refine op_as hf rfl rfl fun a hf => ?_
 refine wpList_nil ?_
 refine nor_block ?_
 refine nor_block ?_
 refine nor_then ?_
 exact ⟨i21, (hf.cons rfl (hf.cons rfl (hf.cons rfl hf.nil))), hO, hm⟩
 have hm := ie hc9 hm
 refine wp_seq_cut (fun a w => ∃ (t27 : Bool), Fits 49 [(0, str x_s), (1, str x_more), (5, int i3), (35, .bool t27)] a ∧ Dk.Own w0 [] w [] ∧ uriref_bytes_j3 (uriref_bytes_L1 x_s x_more n1) i3 t27 = some R) ?_ ?_
 refine wp_region_list ?_
 refine op_mv hf rfl rfl fun a hf => ?_
 refine op_mv hf rfl rfl fun a hf => ?_
 obtain ⟨b22, hb22, hm⟩ := ob hm
 refine op_val (ex_index (l := x_s) Tryz.underlying9 hf rfl rfl hb22) rfl hf rfl rfl fun a hf => ?_
 obtain ⟨r23, hr23, hm⟩ := ob hm
 refine op_enter (ex_call c_176 hf (vs := [byte b22]) rfl) rfl hf rfl rfl (w_octet_IsPath b22 r23 _ (hG.own hF hO) hr23) ?_
 rintro e w' ⟨he, hb⟩
 refine ⟨_, he, fun a hf => ?_⟩
 have hO := hO.grow hb
 refine op_val (ex_not hf rfl) rfl hf rfl rfl fun a hf => ?_
 refine op_mv hf rfl rfl fun a hf => ?_
 rcases bcase (!r23) with hc24 | hc24
 have hm := it hc24 hm
 refine op_guard rfl hf rfl rfl (hc24) ?_
 refine op_mv hf rfl rfl fun a hf => ?_
 refine op_guard rfl hf rfl rfl (hc24) ?_
 refine op_mv hf rfl rfl fun a hf => ?_
 refine op_guard rfl hf rfl rfl (hc24) ?_
 refine op_mv hf rfl rfl fun a hf => ?_
 refine op_guard rfl hf rfl rfl (hc24) ?_
 obtain ⟨b25, hb25, hm⟩ := ob hm
 refine op_val (ex_index (l := x_s) Tryz.underlying9 hf rfl rfl hb25) rfl hf rfl rfl fun a hf => ?_
 refine op_guard rfl hf rfl rfl (hc24) ?_
 obtain ⟨r26, hr26, hm⟩ := ob hm
 refine op_enter (ex_call c_111 hf (vs := [str x_more, byte b25]) rfl) rfl hf rfl rfl (w_strings_IndexByte x_more b25 r26 _ (hG.own hF hO) hr26) ?_
 rintro e w' ⟨he, hb⟩
 refine ⟨_, he, fun a hf => ?_⟩
 have hO := hO.grow hb
 refine op_guard rfl hf rfl rfl (hc24) ?_
 refine op_val (ex_lss (m := r26) (n := 0) hf rfl rfl) rfl hf rfl rfl fun a hf => ?_
 refine op_val (ex_pick_t hf rfl hc24 rfl) rfl hf rfl rfl fun a hf => ?_
 refine op_as hf rfl rfl fun a hf => ?_
 refine wpList_nil ?_
 refine nor_then ?_
 exact ⟨decide (r26 < 0), (hf.cons rfl (hf.cons rfl (hf.cons rfl (hf.cons rfl hf.nil)))), hO, hm⟩
 have hm := ie hc24 hm
 refine op_pass rfl hf rfl rfl (hc24) rfl rfl fun a hf => ?_
 refine op_pass rfl hf rfl rfl (hc24) rfl rfl fun a hf => ?_
 refine op_pass rfl hf rfl rfl (hc24) rfl rfl fun a hf => ?_
 refine op_pass rfl hf rfl rfl (hc24) rfl rfl fun a hf => ?_
 refine op_pass rfl hf rfl rfl (hc24) rfl rfl fun a hf => ?_
 refine op_pass rfl hf rfl rfl (hc24) rfl rfl fun a hf => ?_
 refine op_val (ex_pick_f hf rfl hc24 rfl) rfl hf rfl rfl fun a hf => ?_
 refine op_as hf rfl rfl fun a hf => ?_
 refine wpList_nil ?_
 refine nor_then ?_
 exact ⟨false, (hf.cons rfl (hf.cons rfl (hf.cons rfl (hf.cons rfl hf.nil)))), hO, hm⟩
 rintro a w ⟨t27, hf, hO, hm⟩
 rw [uriref_bytes_j3] at hm
 refine wp_cond_cut hf rfl (fun hc28 => ?_) (fun hc28 => ?_)
 have hm := it hc28 hm
 refine wp_seq_k fun _ hK29 => ?_
 refine wp_region_list ?_
 refine op_as hf rfl rfl fun a hf => ?_
 refine wpList_nil ?_
 refine nor_then (hK29 _ _ ?_)
 refine wp_ret ?_
 refine ret_block ?_
 refine ret_block ?_
 refine ret_then ?_
 refine ret_then ?_
 refine ret_block ?_
 refine ret_then ?_
 obtain rfl := Option.some.inj hm
 exact post_ret Tryz.results165 hf (.tmp rfl .nil) ⟨rfl, hO.below⟩
 have hm := ie hc28 hm
 refine wp_skip ?_
 refine nor_block ?_
 refine nor_block ?_
 refine nor_then ?_
 exact ⟨i3, (hf.cons rfl (hf.cons rfl (hf.cons rfl hf.nil))), hO, hm⟩
 rintro a w ⟨i30, hf, hO, hm⟩
 rw [uriref_bytes_j4] at hm
 refine wp_region_list ?_
 refine op_mv hf rfl rfl fun a hf => ?_
 obtain ⟨i31, hi31, hm⟩ := ob hm
 refine op_val (ex_add hf rfl rfl hi31) rfl hf rfl rfl fun a hf => ?_
 refine op_as hf rfl rfl fun a hf => ?_
 refine wpList_nil ?_
 refine nor_then ?_
 exact ⟨_, Nat.lt_succ_self _, i31, (hf.cons rfl (hf.cons rfl (hf.cons rfl hf.nil))), hO, hm⟩
 have hm := ie hc5 hm
 refine wp_exit ?_
 refine exit_then ?_
 refine exit_then ?_
 refine exit_here ?_
 refine nor_then (hK32 _ _ ?_)
 refine wp_seq_k fun _ hK33 => ?_
 refine wp_region_list ?_
 refine op_as hf rfl rfl fun a hf => ?_
 refine wpList_nil ?_
 refine nor_then (hK33 _ _ ?_)
 refine wp_ret ?_
 obtain rfl := Option.some.inj hm
 exact post_ret Tryz.results165 hf (.tmp rfl .nil) ⟨rfl, hO.below⟩
 exact ⟨0, (hf.cons rfl (hf.cons rfl (hf.cons rfl hf.nil))), hO, hm⟩

set_option maxHeartbeats 1000000 in
theorem w_uriref_well (x_r : api_Ref) (R : Bool) (w0 : World) (hG : Glob w0) (hm : uriref_well x_r = some R) :
    Calls Tryz.prog 146 #[.agg #[str x_r.Scheme, str x_r.Auth, str x_r.Path, str x_r.Query, str x_r.Frag, .bool x_r.HasAuth, .bool x_r.HasQuery, .bool x_r.HasFrag]] w0 fun e w' => e = .returned (.bool R) ∧ Below w0.heap.size w0 w' := by
 rw [uriref_well] at hm
 refine calls_enter (vs := [.agg #[str x_r.Scheme, str x_r.Auth, str x_r.Path, str x_r.Query, str x_r.Frag, .bool x_r.HasAuth, .bool x_r.HasQuery, .bool x_r.HasFrag]]) Tryz.func146 rfl Tryz.ntmps146 rfl fun a hf => ?_
 have hF : Away [] := away_nil
 have hO : Dk.Own w0 [] w0 [] := Dk.Own.refl w0
 refine wp_seq_k fun _ hK2 => ?_
 refine wp_region_list ?_
 refine op_box (v := .agg #[str x_r.Scheme, str x_r.Auth, str x_r.Path, str x_r.Query, str x_r.Frag, .bool x_r.HasAuth, .bool x_r.HasQuery, .bool x_r.HasFrag]) (cs := [str x_r.Scheme, str x_r.Auth, str x_r.Path, str x_r.Query, str x_r.Frag, .bool x_r.HasAuth, .bool x_r.HasQuery, .bool x_r.HasFrag]) rfl hf rfl rfl hO fun a b1 w hf hO => ?_
 refine op_as hf rfl rfl fun a hf => ?_
 refine wpList_nil ?_
 refine nor_then (hK2 _ _ ?_)
 refine wp_seq_k fun _ hK4 => ?_
 refine wp_region_list ?_
 refine op_val (ex_field fa_90_2 hf rfl) rfl hf rfl rfl fun a hf => ?_
 refine op_val (ex_load1 (o := 2) ag_9 (hO.blkSees (i := 0) rfl) rfl hf rfl) rfl hf rfl rfl fun a hf => ?_
 obtain ⟨r3, hr3, hm⟩ := ob hm
 refine op_enter (ex_call c_164 hf (vs := [str x_r.Path, str [47]]) rfl) rfl hf rfl rfl (w_uriref_upto x_r.Path [47] r3 _ (hG.own hF hO) hr3) ?_
 rintro e w' ⟨he, hb⟩
 refine ⟨_, he, fun a hf => ?_⟩
 have hO := hO.grow hb
 refine op_mv hf rfl rfl fun a hf => ?_
 refine op_val (ex_extract hf rfl rfl) rfl hf rfl rfl fun a hf => ?_
 refine op_val (ex_extract hf rfl rfl) rfl hf rfl rfl fun a hf => ?_
 refine op_as hf rfl rfl fun a hf => ?_
 refine op_as hf rfl rfl fun a hf => ?_
 refine wpList_nil ?_
 refine nor_then (hK4 _ _ ?_)
 refine wp_seq_k fun _ hK26 => ?_
 refine wp_block ?_
 refine wp_seq_cut (fun a w => ∃ (t14 : Bool), Fits 63 [(1, ptr b1 0), (3, str r3.1), (11, .bool t14)] a ∧ Dk.Own w0 [] w [.blk b1 [str x_r.Scheme, str x_r.Auth, str x_r.Path, str x_r.Query, str x_r.Frag, .bool x_r.HasAuth, .bool x_r.HasQuery, .bool x_r.HasFrag] 90] ∧ uriref_well_j1 x_r r3 t14 = some R) ?_ ?_
 refine wp_region_list ?_
 refine op_val (ex_field fa_90_1 hf rfl) rfl hf rfl rfl fun a hf => ?_
 refine op_val (ex_load1 (o := 1) ag_9 (hO.blkSees (i := 0) rfl) rfl hf rfl) rfl hf rfl rfl fun a hf => ?_
 obtain ⟨r5, hr5, hm⟩ := ob hm
 refine op_enter (ex_call c_165 hf (vs := [str x_r.Auth, str [91, 93]]) rfl) rfl hf rfl rfl (w_uriref_bytes x_r.Auth [91, 93] r5 _ (hG.own hF hO) hr5) ?_
 rintro e w' ⟨he, hb⟩
 refine ⟨_, he, fun a hf => ?_⟩
 have hO := hO.grow hb
 refine op_val (ex_not hf rfl) rfl hf rfl rfl fun a hf => ?_
 refine op_mv hf rfl rfl fun a hf => ?_
 rcases bcase (!r5) with hc6 | hc6
 have hm := it hc6 hm
 refine op_pass rfl hf rfl rfl (hc6) rfl rfl fun a hf => ?_
 refine op_pass rfl hf rfl rfl (hc6) rfl rfl fun a hf => ?_
 refine op_pass rfl hf rfl rfl (hc6) rfl rfl fun a hf => ?_
 refine op_val (ex_pick_t hf rfl hc6 rfl) rfl hf rfl rfl fun a hf => ?_
 refine op_mv hf rfl rfl fun a hf => ?_
 refine op_pass rfl hf rfl rfl (rfl) rfl rfl fun a hf => ?_
 refine op_pass rfl hf rfl rfl (rfl) rfl rfl fun a hf => ?_
 refine op_pass rfl hf rfl rfl (rfl) rfl rfl fun a hf => ?_
 refine op_pass rfl hf rfl rfl (rfl) rfl rfl fun a hf => ?_
 refine op_val (ex_pick_t hf rfl rfl rfl) rfl hf rfl rfl fun a hf => ?_
 refine op_mv hf rfl rfl fun a hf => ?_
 refine op_pass rfl hf rfl rfl (rfl) rfl rfl fun a hf => ?_
 refine op_pass rfl hf rfl rfl (rfl) rfl rfl fun a hf => ?_
 refine op_pass rfl hf rfl rfl (rfl) rfl rfl fun a hf => ?_
 refine op_pass rfl hf rfl rfl (rfl) rfl rfl fun a hf => ?_
 refine op_val (ex_pick_t hf rfl rfl rfl) rfl hf rfl rfl fun a hf => ?_
 refine op_mv hf rfl rfl fun a hf => ?_
 refine op_pass rfl hf rfl rfl (rfl) rfl rfl fun a hf => ?_
 refine op_pass rfl hf rfl rfl (rfl) rfl rfl fun a hf => ?_
 refine op_pass rfl hf rfl rfl (rfl) rfl rfl fun a hf => ?_
 refine op_pass rfl hf rfl rfl (rfl) rfl rfl fun a hf => ?_
 refine op_val (ex_pick_t hf rfl rfl rfl) rfl hf rfl rfl fun a hf => ?_
 refine op_as hf rfl rfl fun a hf => ?_
 refine wpList_nil ?_
 refine nor_then ?_
 exact ⟨true, (hf.cons rfl (hf.cons rfl (hf.cons rfl hf.nil))), hO, hm⟩
 have hm := ie hc6 hm
 refine op_guard rfl hf rfl rfl (hc6) ?_
 refine op_val (ex_field fa_90_1 hf rfl) rfl hf rfl rfl fun a hf => ?_
 refine op_guard rfl hf rfl rfl (hc6) ?_
 refine op_val (ex_load1 (o := 1) ag_9 (hO.blkSees (i := 0) rfl) rfl hf rfl) rfl hf rfl rfl fun a hf => ?_
 refine op_guard rfl hf rfl rfl (hc6) ?_
 obtain ⟨r7, hr7, hm⟩ := ob hm
 refine op_enter (ex_call c_166 hf (vs := [str x_r.Auth, str [64]]) rfl) rfl hf rfl rfl (w_strings_Contains x_r.Auth [64] r7 _ (hG.own hF hO) hr7) ?_
 rintro e w' ⟨he, hb⟩
 refine ⟨_, he, fun a hf => ?_⟩
 have hO := hO.grow hb
 refine op_val (ex_pick_f hf rfl hc6 rfl) rfl hf rfl rfl fun a hf => ?_
 refine op_mv hf rfl rfl fun a hf => ?_
 rcases bcase (r7) with hc8 | hc8
 have hm := it hc8 hm
 refine op_pass rfl hf rfl rfl (hc8) rfl rfl fun a hf => ?_
 refine op_pass rfl hf rfl rfl (hc8) rfl rfl fun a hf => ?_
 refine op_pass rfl hf rfl rfl (hc8) rfl rfl fun a hf => ?_
 refine op_pass rfl hf rfl rfl (hc8) rfl rfl fun a hf => ?_
 refine op_val (ex_pick_t hf rfl hc8 rfl) rfl hf rfl rfl fun a hf => ?_
 refine op_mv hf rfl rfl fun a hf => ?_
 refine op_pass rfl hf rfl rfl (rfl) rfl rfl fun a hf => ?_
 refine op_pass rfl hf rfl rfl (rfl) rfl rfl fun a hf => ?_
 refine op_pass rfl hf rfl rfl (rfl) rfl rfl fun a hf => ?_
 refine op_pass rfl hf rfl rfl (rfl) rfl rfl fun a hf => ?_
 refine op_val (ex_pick_t hf rfl rfl rfl) rfl hf rfl rfl fun a hf => ?_
 refine op_mv hf rfl rfl fun a hf => ?_
 refine op_pass rfl hf rfl rfl (rfl) rfl rfl fun a hf => ?_
 refine op_pass rfl hf rfl rfl (rfl) rfl rfl fun a hf => ?_
 refine op_pass rfl hf rfl rfl (rfl) rfl rfl fun a hf => ?_
 refine op_pass rfl hf rfl rfl (rfl) rfl rfl fun a hf => ?_
 refine op_val (ex_pick_t hf rfl rfl rfl) rfl hf rfl rfl fun a hf => ?_
 refine op_as hf rfl rfl fun a hf => ?_
 refine wpList_nil ?_
 refine nor_then ?_
 exact ⟨true, (hf.cons rfl (hf.cons rfl (hf.cons rfl hf.nil))), hO, hm⟩
 have hm := ie hc8 hm
 refine op_guard rfl hf rfl rfl (hc8) ?_
 refine op_val (ex_field fa_90_2 hf rfl) rfl hf rfl rfl fun a hf => ?_
 refine op_guard rfl hf rfl rfl (hc8) ?_
 refine op_val (ex_load1 (o := 2) ag_9 (hO.blkSees (i := 0) rfl) rfl hf rfl) rfl hf rfl rfl fun a hf => ?_
 refine op_guard rfl hf rfl rfl (hc8) ?_
 obtain ⟨r9, hr9, hm⟩ := ob hm
 refine op_enter (ex_call c_165 hf (vs := [str x_r.Path, str [47]]) rfl) rfl hf rfl rfl (w_uriref_bytes x_r.Path [47] r9 _ (hG.own hF hO) hr9) ?_
 rintro e w' ⟨he, hb⟩
 refine ⟨_, he, fun a hf => ?_⟩
 have hO := hO.grow hb
 refine op_guard rfl hf rfl rfl (hc8) ?_
 refine op_val (ex_not hf rfl) rfl hf rfl rfl fun a hf => ?_
 refine op_val (ex_pick_f hf rfl hc8 rfl) rfl hf rfl rfl fun a hf => ?_
 refine op_mv hf rfl rfl fun a hf => ?_
 rcases bcase (!r9) with hc10 | hc10
 have hm := it hc10 hm
 refine op_pass rfl hf rfl rfl (hc10) rfl rfl fun a hf => ?_
 refine op_pass rfl hf rfl rfl (hc10) rfl rfl fun a hf => ?_
 refine op_pass rfl hf rfl rfl (hc10) rfl rfl fun a hf => ?_
 refine op_pass rfl hf rfl rfl (hc10) rfl rfl fun a hf => ?_
 refine op_val (ex_pick_t hf rfl hc10 rfl) rfl hf rfl rfl fun a hf => ?_
 refine op_mv hf rfl rfl fun a hf => ?_
 refine op_pass rfl hf rfl rfl (rfl) rfl rfl fun a hf => ?_
 refine op_pass rfl hf rfl rfl (rfl) rfl rfl fun a hf => ?_
 refine op_pass rfl hf rfl rfl (rfl) rfl rfl fun a hf => ?_
 refine op_pass rfl hf rfl rfl (rfl) rfl rfl fun a hf => ?_
 refine op_val (ex_pick_t hf rfl rfl rfl) rfl hf rfl rfl fun a hf => ?_
 refine op_as hf rfl rfl fun a hf => ?_
 refine wpList_nil ?_
 refine nor_then ?_
 exact ⟨true, (hf.cons rfl (hf.cons rfl (hf.cons rfl hf.nil))), hO, hm⟩
 have hm := ie hc10 hm
 refine op_guard rfl hf rfl rfl (hc10) ?_
 refine op_val (ex_field fa_90_3 hf rfl) rfl hf rfl rfl fun a hf => ?_
 refine op_guard rfl hf rfl rfl (hc10) ?_
 refine op_val (ex_load1 (o := 3) ag_9 (hO.blkSees (i := 0) rfl) rfl hf rfl) rfl hf rfl rfl fun a hf => ?_
 refine op_guard rfl hf rfl rfl (hc10) ?_
 obtain ⟨r11, hr11, hm⟩ := ob hm
 refine op_enter (ex_call c_165 hf (vs := [str x_r.Query, str [47, 63]]) rfl) rfl hf rfl rfl (w_uriref_bytes x_r.Query [47, 63] r11 _ (hG.own hF hO) hr11) ?_
 rintro e w' ⟨he, hb⟩
 refine ⟨_, he, fun a hf => ?_⟩
 have hO := hO.grow hb
 refine op_guard rfl hf rfl rfl (hc10) ?_
 refine op_val (ex_not hf rfl) rfl hf rfl rfl fun a hf => ?_
 refine op_val (ex_pick_f hf rfl hc10 rfl) rfl hf rfl rfl fun a hf => ?_
 refine op_mv hf rfl rfl fun a hf => ?_
 rcases bcase (!r11) with hc12 | hc12
 have hm := it hc12 hm
 refine op_pass rfl hf rfl rfl (hc12) rfl rfl fun a hf => ?_
 refine op_pass rfl hf rfl rfl (hc12) rfl rfl fun a hf => ?_
 refine op_pass rfl hf rfl rfl (hc12) rfl rfl fun a hf => ?_
 refine op_pass rfl hf rfl rfl (hc12) rfl rfl fun a hf => ?_
 refine op_val (ex_pick_t hf rfl hc12 rfl) rfl hf rfl rfl fun a hf => ?_
 refine op_as hf rfl rfl fun a hf => ?_
 refine wpList_nil ?_
 refine nor_then ?_
 exact ⟨true, (hf.cons rfl (hf.cons rfl (hf.cons rfl hf.nil))), hO, hm⟩
 have hm := ie hc12 hm
 refine op_guard rfl hf rfl rfl (hc12) ?_
 refine op_val (ex_field fa_90_4 hf rfl) rfl hf rfl rfl fun a hf => ?_
 refine op_guard rfl hf rfl rfl (hc12) ?_
 refine op_val (ex_load1 (o := 4) ag_9 (hO.blkSees (i := 0) rfl) rfl hf rfl) rfl hf rfl rfl fun a hf => ?_
 refine op_guard rfl hf rfl rfl (hc12) ?_
 obtain ⟨r13, hr13, hm⟩ := ob hm
 refine op_enter (ex_call c_165 hf (vs := [str x_r.Frag, str [47, 63]]) rfl) rfl hf rfl rfl (w_uriref_bytes x_r.Frag [47, 63] r13 _ (hG.own hF hO) hr13) ?_
 rintro e w' ⟨he, hb⟩
 refine ⟨_, he, fun a hf => ?_⟩
 have hO := hO.grow hb
 refine op_guard rfl hf rfl rfl (hc12) ?_
 refine op_val (ex_not hf rfl) rfl hf rfl rfl fun a hf => ?_
 refine op_val (ex_pick_f hf rfl hc12 rfl) rfl hf rfl rfl fun a hf => ?_
 refine op_as hf rfl rfl fun a hf => ?_
 refine wpList_nil ?_
 refine nor_then ?_
 exact ⟨!r13, (hf.cons rfl (hf.cons rfl (hf.cons rfl hf.nil))), hO, hm⟩
 rintro a w ⟨t14, hf, hO, hm⟩
 rw [uriref_well_j1] at hm
 refine wp_cond_cut hf rfl (fun hc15 => ?_) (fun hc15 => ?_)
 have hm := it hc15 hm
 refine wp_seq_k fun _ hK16 => ?_
 refine wp_region_list ?_
 refine op_as hf rfl rfl fun a hf => ?_
 refine wpList_nil ?_
 refine nor_then (hK16 _ _ ?_)
 refine wp_ret ?_
 refine ret_block ?_
 refine ret_then ?_
 obtain rfl := Option.some.inj hm
 exact post_ret Tryz.results146 hf (.tmp rfl .nil) ⟨rfl, hO.below⟩
 have hm := ie hc15 hm
 refine wp_seq_k fun _ hK17 => ?_
 refine wp_region_list ?_
 refine op_val (ex_field fa_90_5 hf rfl) rfl hf rfl rfl fun a hf => ?_
 refine op_val (ex_load1 (o := 5) ag_4 (hO.blkSees (i := 0) rfl) rfl hf rfl) rfl hf rfl rfl fun a hf => ?_
 refine op_as hf rfl rfl fun a hf => ?_
 refine wpList_nil ?_
 refine nor_then (hK17 _ _ ?_)
 refine wp_cond_cut hf rfl (fun hc18 => ?_) (fun hc18 => ?_)
 have hm := it hc18 hm
 refine wp_seq_cut (fun a w => ∃ (t21 : Bool), Fits 63 [(2, .bool t21)] a ∧ Dk.Own w0 [] w [.blk b1 [str x_r.Scheme, str x_r.Auth, str x_r.Path, str x_r.Query, str x_r.Frag, .bool x_r.HasAuth, .bool x_r.HasQuery, .bool x_r.HasFrag] 90] ∧ uriref_well_j2 t21 = some R) ?_ ?_
 refine wp_region_list ?_
 refine op_val (ex_field fa_90_2 hf rfl) rfl hf rfl rfl fun a hf => ?_
 refine op_val (ex_load1 (o := 2) ag_9 (hO.blkSees (i := 0) rfl) rfl hf rfl) rfl hf rfl rfl fun a hf => ?_
 refine op_val (ex_eql_s (l := x_r.Path) (m := []) hf rfl rfl) rfl hf rfl rfl fun a hf => ?_
 refine op_mv hf rfl rfl fun a hf => ?_
 rcases bcase (x_r.Path == []) with hc19 | hc19
 have hm := it hc19 hm
 refine op_pass rfl hf rfl rfl (hc19) rfl rfl fun a hf => ?_
 refine op_pass rfl hf rfl rfl (hc19) rfl rfl fun a hf => ?_
 refine op_pass rfl hf rfl rfl (hc19) rfl rfl fun a hf => ?_
 refine op_pass rfl hf rfl rfl (hc19) rfl rfl fun a hf => ?_
 refine op_val (ex_pick_t hf rfl hc19 rfl) rfl hf rfl rfl fun a hf => ?_
 refine op_as hf rfl rfl fun a hf => ?_
 refine wpList_nil ?_
 refine nor_then ?_
 exact ⟨true, (hf.cons rfl hf.nil), hO, hm⟩
 have hm := ie hc19 hm
 refine op_guard rfl hf rfl rfl (hc19) ?_
 refine op_val (ex_field fa_90_2 hf rfl) rfl hf rfl rfl fun a hf => ?_
 refine op_guard rfl hf rfl rfl (hc19) ?_
 refine op_val (ex_load1 (o := 2) ag_9 (hO.blkSees (i := 0) rfl) rfl hf rfl) rfl hf rfl rfl fun a hf => ?_
 refine op_guard rfl hf rfl rfl (hc19) ?_
 obtain ⟨b20, hb20, hm⟩ := ob hm
 refine op_val (ex_index (l := x_r.Path) Tryz.underlying9 hf rfl rfl hb20) rfl hf rfl rfl fun a hf => ?_
 refine op_guard rfl hf rfl rfl (hc19) ?_
 refine op_val (ex_eql_b (b := b20) (c := 47) hf rfl rfl) rfl hf rfl rfl fun a hf => ?_
 refine op_val (ex_pick_f hf rfl hc19 rfl) rfl hf rfl rfl fun a hf => ?_
 refine op_as hf rfl rfl fun a hf => ?_
 refine wpList_nil ?_
 refine nor_then ?_
 exact ⟨b20 == 47, (hf.cons rfl hf.nil), hO, hm⟩
 rintro a w ⟨t21, hf, hO, hm⟩
 rw [uriref_well_j2] at hm
 refine wp_ret ?_
 refine ret_block ?_
 refine ret_then ?_
 obtain rfl := Option.some.inj hm
 exact post_ret Tryz.results146 hf (.tmp rfl .nil) ⟨rfl, hO.below⟩
 have hm := ie hc18 hm
 refine wp_seq_k fun _ hK23 => ?_
 refine wp_region_list ?_
 refine op_val (ex_field fa_90_2 hf rfl) rfl hf rfl rfl fun a hf => ?_
 refine op_val (ex_load1 (o := 2) ag_9 (hO.blkSees (i := 0) rfl) rfl hf rfl) rfl hf rfl rfl fun a hf => ?_
 obtain ⟨r22, hr22, hm⟩ := ob hm
 refine op_enter (ex_call c_163 hf (vs := [str x_r.Path, str [47, 47]]) rfl) rfl hf rfl rfl (w_strings_HasPrefix x_r.Path [47, 47] r22 _ (hG.own hF hO) hr22) ?_
 rintro e w' ⟨he, hb⟩
 refine ⟨_, he, fun a hf => ?_⟩
 have hO := hO.grow hb
 refine op_as hf rfl rfl fun a hf => ?_
 refine wpList_nil ?_
 refine nor_then (hK23 _ _ ?_)
 refine wp_cond_cut hf rfl (fun hc24 => ?_) (fun hc24 => ?_)
 have hm := it hc24 hm
 refine wp_seq_k fun _ hK25 => ?_
 refine wp_region_list ?_
 refine op_as hf rfl rfl fun a hf => ?_
 refine wpList_nil ?_
 refine nor_then (hK25 _ _ ?_)
 refine wp_ret ?_
 refine ret_block ?_
 refine ret_then ?_
 obtain rfl := Option.some.inj hm
 exact post_ret Tryz.results146 hf (.tmp rfl .nil) ⟨rfl, hO.below⟩
 have hm := ie hc24 hm
 refine wp_skip ?_
 refine nor_block ?_
 refine nor_then (hK26 _ _ ?_)
 refine wp_seq_cut (fun a w => ∃ (t29 : Bool), Fits 63 [(2, .bool t29)] a ∧ Dk.Own w0 [] w [.blk b1 [str x_r.Scheme, str x_r.Auth, str x_r.Path, str x_r.Query, str x_r.Frag, .bool x_r.HasAuth, .bool x_r.HasQuery, .bool x_r.HasFrag] 90] ∧ uriref_well_j3 t29 = some R) ?_ ?_
 refine wp_region_list ?_
 refine op_val (ex_field fa_90_0 hf rfl) rfl hf rfl rfl fun a hf => ?_
 refine op_val (ex_load1 (o := 0) ag_9 (hO.blkSees (i := 0) rfl) rfl hf rfl) rfl hf rfl rfl fun a hf => ?_
 refine op_val (ex_neq_s (l := x_r.Scheme) (m := []) hf rfl rfl) rfl hf rfl rfl fun a hf => ?_
 refine op_mv hf rfl rfl fun a hf => ?_
 rcases bcase (!(x_r.Scheme == [])) with hc27 | hc27
 have hm := it hc27 hm
 refine op_pass rfl hf rfl rfl (hc27) rfl rfl fun a hf => ?_
 refine op_pass rfl hf rfl rfl (hc27) rfl rfl fun a hf => ?_
 refine op_pass rfl hf rfl rfl (hc27) rfl rfl fun a hf => ?_
 refine op_val (ex_pick_t hf rfl hc27 rfl) rfl hf rfl rfl fun a hf => ?_
 refine op_as hf rfl rfl fun a hf => ?_
 refine wpList_nil ?_
 refine nor_then ?_
 exact ⟨true, (hf.cons rfl hf.nil), hO, hm⟩
 have hm := ie hc27 hm
 refine op_guard rfl hf rfl rfl (hc27) ?_
 refine op_mv hf rfl rfl fun a hf => ?_
 refine op_guard rfl hf rfl rfl (hc27) ?_
 obtain ⟨r28, hr28, hm⟩ := ob hm
 refine op_enter (ex_call c_166 hf (vs := [str r3.1, str [58]]) rfl) rfl hf rfl rfl (w_strings_Contains r3.1 [58] r28 _ (hG.own hF hO) hr28) ?_
 rintro e w' ⟨he, hb⟩
 refine ⟨_, he, fun a hf => ?_⟩
 have hO := hO.grow hb
 refine op_guard rfl hf rfl rfl (hc27) ?_
 refine op_val (ex_not hf rfl) rfl hf rfl rfl fun a hf => ?_
 refine op_val (ex_pick_f hf rfl hc27 rfl) rfl hf rfl rfl fun a hf => ?_
 refine op_as hf rfl rfl fun a hf => ?_
 refine wpList_nil ?_
 refine nor_then ?_
 exact ⟨!r28, (hf.cons rfl hf.nil), hO, hm⟩
 rintro a w ⟨t29, hf, hO, hm⟩
 rw [uriref_well_j3] at hm
 refine wp_ret ?_
 obtain rfl := Option.some.inj hm
 exact post_ret Tryz.results146 hf (.tmp rfl .nil) ⟨rfl, hO.below⟩

set_option maxHeartbeats 1000000 in
theorem w_uriref_Parse (x_s : Str) (R : api_Ref × Int) (w0 : World) (hG : Glob w0) (hm : uriref_Parse x_s = some R) :
    Calls Tryz.prog 114 #[str x_s] w0 fun e w' => e = .returned (.tuple #[.agg #[str R.1.Scheme, str R.1.Auth, str R.1.Path, str R.1.Query, str R.1.Frag, .bool R.1.HasAuth, .bool R.1.HasQuery, .bool R.1.HasFrag], int R.2]) ∧ Below w0.heap.size w0 w' := by
 rw [uriref_Parse] at hm
 refine calls_enter (vs := [str x_s]) Tryz.func114 rfl Tryz.ntmps114 rfl fun a hf => ?_
 have hF : Away [] := away_nil
 have hO : Dk.Own w0 [] w0 [] := Dk.Own.refl w0
 refine wp_seq_k fun _ hK2 => ?_
 refine wp_region_list ?_
 refine op_alloc al_90 hf rfl hO fun a b1 w hf hO => ?_
 refine op_as hf rfl rfl fun a hf => ?_
 refine wpList_nil ?_
 refine nor_then (hK2 _ _ ?_)
 refine wp_seq_k fun _ hK5 => ?_
 refine wp_region_list ?_
 refine op_mv hf rfl rfl fun a hf => ?_
 obtain ⟨r3, hr3, hm⟩ := ob hm
 refine op_enter (ex_call c_145 hf (vs := [str x_s]) rfl) rfl hf rfl rfl (w_uriref_parts x_s r3 _ (hG.own hF hO) hr3) ?_
 rintro e w' ⟨he, hb⟩
 refine ⟨_, he, fun a hf => ?_⟩
 have hO := hO.grow hb
 refine op_alloc al_90 hf rfl hO fun a b4 w hf hO => ?_
 refine op_storeN (i := 0) (n := 8) sz_90 rfl rfl rfl (by simp [Value.oneCell']) hf rfl rfl hO fun w hO => ?_
 refine wpList_nil ?_
 refine nor_then (hK5 _ _ ?_)
 refine wp_seq_k fun _ hK10 => ?_
 refine wp_seq_k fun _ hK7 => ?_
 refine wp_region_list ?_
 refine op_val (ex_loadN (o := 0) (vs := [str r3.Scheme, str r3.Auth, str r3.Path, str r3.Query, str r3.Frag, .bool r3.HasAuth, .bool r3.HasQuery, .bool r3.HasFrag]) ag_90 sz_90 (hO.blkSees (i := 0) rfl) rfl rfl hf rfl) rfl hf rfl rfl fun a hf => ?_
 obtain ⟨r6, hr6, hm⟩ := ob hm
 refine op_enter (ex_call c_146 hf (vs := [.agg #[str r3.Scheme, str r3.Auth, str r3.Path, str r3.Query, str r3.Frag, .bool r3.HasAuth, .bool r3.HasQuery, .bool r3.HasFrag]]) rfl) rfl hf rfl rfl (w_uriref_well r3 r6 _ (hG.own hF hO) hr6) ?_
 rintro e w' ⟨he, hb⟩
 refine ⟨_, he, fun a hf => ?_⟩
 have hO := hO.grow hb
 refine op_val (ex_not hf rfl) rfl hf rfl rfl fun a hf => ?_
 refine wpList_nil ?_
 refine nor_then (hK7 _ _ ?_)
 refine wp_cond_cut hf rfl (fun hc8 => ?_) (fun hc8 => ?_)
 have hm := it hc8 hm
 refine wp_seq_k fun _ hK9 => ?_
 refine wp_region_list ?_
 refine op_val (ex_build (vs := []) (v := .agg #[str [], str [], str [], str [], str [], .bool false, .bool false, .bool false]) hf rfl (by kernel_rfl)) rfl hf rfl rfl fun a hf => ?_
 refine op_storeN (i := 1) (n := 8) sz_90 rfl rfl rfl (by simp [Value.oneCell']) hf rfl rfl hO fun w hO => ?_
 refine op_as hf rfl rfl fun a hf => ?_
 refine wpList_nil ?_
 refine nor_then (hK9 _ _ ?_)
 refine wp_ret ?_
 refine ret_then ?_
 obtain rfl := Option.some.inj hm
 exact post_ret Tryz.results114 hf (.cell rfl (run_loadVarN (n := 8) (vs := [str [], str [], str [], str [], str [], .bool false, .bool false, .bool false]) ag_90 sz_90 rfl ((hO.blkSees (i := 1) rfl).cells (o := 0) (n := 8) rfl)) (.tmp rfl .nil)) ⟨rfl, hO.below⟩
 have hm := ie hc8 hm
 refine wp_skip ?_
 refine nor_then (hK10 _ _ ?_)
 refine wp_seq_k fun _ hK11 => ?_
 refine wp_region_list ?_
 refine op_val (ex_loadN (o := 0) (vs := [str r3.Scheme, str r3.Auth, str r3.Path, str r3.Query, str r3.Frag, .bool r3.HasAuth, .bool r3.HasQuery, .bool r3.HasFrag]) ag_90 sz_90 (hO.blkSees (i := 0) rfl) rfl rfl hf rfl) rfl hf rfl rfl fun a hf => ?_
 refine op_storeN (i := 1) (n := 8) sz_90 rfl rfl rfl (by simp [Value.oneCell']) hf rfl rfl hO fun w hO => ?_
 refine op_as hf rfl rfl fun a hf => ?_
 refine wpList_nil ?_
 refine nor_then (hK11 _ _ ?_)
 refine wp_ret ?_
 obtain rfl := Option.some.inj hm
 exact post_ret Tryz.results114 hf (.cell rfl (run_loadVarN (n := 8) (vs := [str r3.Scheme, str r3.Auth, str r3.Path, str r3.Query, str r3.Frag, .bool r3.HasAuth, .bool r3.HasQuery, .bool r3.HasFrag]) ag_90 sz_90 rfl ((hO.blkSees (i := 1) rfl).cells (o := 0) (n := 8) rfl)) (.tmp rfl .nil)) ⟨rfl, hO.below⟩

set_option maxHeartbeats 1000000 in
theorem w_location_is (x_s : Str) (R : Bool) (w0 : World) (hG : Glob w0) (hm : location_is x_s = some R) :
    Calls Tryz.prog 72 #[str x_s] w0 fun e w' => e = .returned (.bool R) ∧ Below w0.heap.size w0 w' := by
 rw [location_is] at hm
 refine calls_enter (vs := [str x_s]) Tryz.func72 rfl Tryz.ntmps72 rfl fun a hf => ?_
 have hF : Away [] := away_nil
 have hO : Dk.Own w0 [] w0 [] := Dk.Own.refl w0
 refine wp_seq_k fun _ hK1 => ?_
 refine wp_region_list ?_
 refine op_as hf rfl rfl fun a hf => ?_
 refine wpList_nil ?_
 refine nor_then (hK1 _ _ ?_)
 refine wp_seq_k fun _ hK4 => ?_
 refine wp_region_list ?_
 refine op_mv hf rfl rfl fun a hf => ?_
 obtain ⟨r2, hr2, hm⟩ := ob hm
 refine op_enter (ex_call c_114 hf (vs := [str x_s]) rfl) rfl hf rfl rfl (w_uriref_Parse x_s r2 _ (hG.own hF hO) hr2) ?_
 rintro e w' ⟨he, hb⟩
 refine ⟨_, he, fun a hf => ?_⟩
 have hO := hO.grow hb
 refine op_mv hf rfl rfl fun a hf => ?_
 refine op_val (ex_extract hf rfl rfl) rfl hf rfl rfl fun a hf => ?_
 refine op_val (ex_extract hf rfl rfl) rfl hf rfl rfl fun a hf => ?_
 refine op_alloc al_90 hf rfl hO fun a b3 w hf hO => ?_
 refine op_storeN (i := 0) (n := 8) sz_90 rfl rfl rfl (by simp [Value.oneCell']) hf rfl rfl hO fun w hO => ?_
 refine op_as hf rfl rfl fun a hf => ?_
 refine wpList_nil ?_
 refine nor_then (hK4 _ _ ?_)
 refine wp_seq_k fun _ hK5 => ?_
 refine wp_region_list ?_
 refine op_mv hf rfl rfl fun a hf => ?_
 refine op_val (ex_eql (m := r2.2) (n := 0) hf rfl rfl) rfl hf rfl rfl fun a hf => ?_
 refine op_as hf rfl rfl fun a hf => ?_
 refine wpList_nil ?_
 refine nor_then (hK5 _ _ ?_)
 refine wp_ret ?_
 obtain rfl := Option.some.inj hm
 exact post_ret Tryz.results72 hf (.tmp rfl .nil) ⟨rfl, hO.below⟩

set_option maxHeartbeats 1000000 in
theorem w_location_Rewrite (x_s : Str) (x_l : List api_Swap) (R : Str) (w0 : World) (hG : Glob w0) {x_l_p0 : Option Addr} {x_l_c0 : Nat} (hs0 : Sees w0 x_l_p0 (cells enc_api_Swap x_l)) (hc0 : x_l.length ≤ x_l_c0) (hm : location_Rewrite x_s x_l = some R) :
    Calls Tryz.prog 37 #[str x_s, .slice x_l_p0 x_l.length x_l_c0] w0 fun e w' => e = .returned (str R) ∧ Below w0.heap.size w0 w' := by
 rw [location_Rewrite] at hm
 refine calls_enter (vs := [str x_s, .slice x_l_p0 x_l.length x_l_c0]) Tryz.func37 rfl Tryz.ntmps37 rfl fun a hf => ?_
 have hF : Away [] := away_nil
 have hO : Dk.Own w0 [] w0 [] := Dk.Own.refl w0
 have hO := hO.addShr hs0 (by simp [Res.shared])
 refine wp_seq_k fun _ hK1 => ?_
 refine wp_region_list ?_
 refine op_as hf rfl rfl fun a hf => ?_
 refine wpList_nil ?_
 refine nor_then (hK1 _ _ ?_)
 refine wp_seq_k fun _ hK3 => ?_
 refine wp_region_list ?_
 refine op_mv hf rfl rfl fun a hf => ?_
 refine op_mv hf rfl rfl fun a hf => ?_
 obtain ⟨r2, hr2, hm⟩ := ob hm
 refine op_enter (ex_call c_71 hf (vs := [str x_s, .slice x_l_p0 x_l.length x_l_c0]) rfl) rfl hf rfl rfl (w_uriref_Swap x_s x_l r2 _ (hG.own hF hO) (hO.sees (i := 0) rfl) hc0 hr2) ?_
 rintro e w' ⟨he, hb⟩
 refine ⟨_, he, fun a hf => ?_⟩
 have hO := hO.grow hb
 refine op_mv hf rfl rfl fun a hf => ?_
 refine op_val (ex_extract hf rfl rfl) rfl hf rfl rfl fun a hf => ?_
 refine op_val (ex_extract hf rfl rfl) rfl hf rfl rfl fun a hf => ?_
 refine op_as hf rfl rfl fun a hf => ?_
 refine op_as hf rfl rfl fun a hf => ?_
 refine wpList_nil ?_
 refine nor_then (hK3 _ _ ?_)
 refine wp_seq_k fun _ hK11 => ?_
 refine wp_seq_cut (fun a w => ∃ (t8 : Bool), Fits 27 [(0, str x_s), (5, str r2.1), (24, .bool t8)] a ∧ Dk.Own w0 [] w [.shr x_l_p0 (cells enc_api_Swap x_l)] ∧ location_Rewrite_j1 x_s r2 t8 = some R) ?_ ?_
 refine wp_region_list ?_
 refine op_mv hf rfl rfl fun a hf => ?_
 refine op_val (ex_not hf rfl) rfl hf rfl rfl fun a hf => ?_
 refine op_mv hf rfl rfl fun a hf => ?_
 rcases bcase (!r2.2) with hc4 | hc4
 have hm := it hc4 hm
 refine op_pass rfl hf rfl rfl (hc4) rfl rfl fun a hf => ?_
 refine op_pass rfl hf rfl rfl (hc4) rfl rfl fun a hf => ?_
 refine op_pass rfl hf rfl rfl (hc4) rfl rfl fun a hf => ?_
 refine op_val (ex_pick_t hf rfl hc4 rfl) rfl hf rfl rfl fun a hf => ?_
 refine op_mv hf rfl rfl fun a hf => ?_
 refine op_pass rfl hf rfl rfl (rfl) rfl rfl fun a hf => ?_
 refine op_pass rfl hf rfl rfl (rfl) rfl rfl fun a hf => ?_
 refine op_pass rfl hf rfl rfl (rfl) rfl rfl fun a hf => ?_
 refine op_val (ex_pick_t hf rfl rfl rfl) rfl hf rfl rfl fun a hf => ?_
 refine wpList_nil ?_
 refine nor_then ?_
 exact ⟨true, (hf.cons rfl (hf.cons rfl (hf.cons rfl hf.nil))), hO, hm⟩
 have hm := ie hc4 hm
 refine op_guard rfl hf rfl rfl (hc4) ?_
 refine op_mv hf rfl rfl fun a hf => ?_
 refine op_guard rfl hf rfl rfl (hc4) ?_
 obtain ⟨r5, hr5, hm⟩ := ob hm
 refine op_enter (ex_call c_72 hf (vs := [str x_s]) rfl) rfl hf rfl rfl (w_location_is x_s r5 _ (hG.own hF hO) hr5) ?_
 rintro e w' ⟨he, hb⟩
 refine ⟨_, he, fun a hf => ?_⟩
 have hO := hO.grow hb
 refine op_guard rfl hf rfl rfl (hc4) ?_
 refine op_val (ex_not hf rfl) rfl hf rfl rfl fun a hf => ?_
 refine op_val (ex_pick_f hf rfl hc4 rfl) rfl hf rfl rfl fun a hf => ?_
 refine op_mv hf rfl rfl fun a hf => ?_
 rcases bcase (!r5) with hc6 | hc6
 have hm := it hc6 hm
 refine op_pass rfl hf rfl rfl (hc6) rfl rfl fun a hf => ?_
 refine op_pass rfl hf rfl rfl (hc6) rfl rfl fun a hf => ?_
 refine op_pass rfl hf rfl rfl (hc6) rfl rfl fun a hf => ?_
 refine op_val (ex_pick_t hf rfl hc6 rfl) rfl hf rfl rfl fun a hf => ?_
 refine wpList_nil ?_
 refine nor_then ?_
 exact ⟨true, (hf.cons rfl (hf.cons rfl (hf.cons rfl hf.nil))), hO, hm⟩
 have hm := ie hc6 hm
 refine op_guard rfl hf rfl rfl (hc6) ?_
 refine op_mv hf rfl rfl fun a hf => ?_
 refine op_guard rfl hf rfl rfl (hc6) ?_
 obtain ⟨r7, hr7, hm⟩ := ob hm
 refine op_enter (ex_call c_72 hf (vs := [str r2.1]) rfl) rfl hf rfl rfl (w_location_is r2.1 r7 _ (hG.own hF hO) hr7) ?_
 rintro e w' ⟨he, hb⟩
 refine ⟨_, he, fun a hf => ?_⟩
 have hO := hO.grow hb
 refine op_guard rfl hf rfl rfl (hc6) ?_
 refine op_val (ex_not hf rfl) rfl hf rfl rfl fun a hf => ?_
 refine op_val (ex_pick_f hf rfl hc6 rfl) rfl hf rfl rfl fun a hf => ?_
 refine wpList_nil ?_
 refine nor_then ?_
 exact ⟨!r7, (hf.cons rfl (hf.cons rfl (hf.cons rfl hf.nil))), hO, hm⟩
 rintro a w ⟨t8, hf, hO, hm⟩
 rw [location_Rewrite_j1] at hm
 refine wp_cond_cut hf rfl (fun hc9 => ?_) (fun hc9 => ?_)
 have hm := it hc9 hm
 refine wp_seq_k fun _ hK10 => ?_
 refine wp_region_list ?_
 refine op_mv hf rfl rfl fun a hf => ?_
 refine op_as hf rfl rfl fun a hf => ?_
 refine wpList_nil ?_
 refine nor_then (hK10 _ _ ?_)
 refine wp_ret ?_
 refine ret_then ?_
 obtain rfl := Option.some.inj hm
 exact post_ret Tryz.results37 hf (.tmp rfl .nil) ⟨rfl, hO.below⟩
 have hm := ie hc9 hm
 refine wp_skip ?_
 refine nor_then (hK11 _ _ ?_)
 refine wp_seq_k fun _ hK12 => ?_
 refine wp_region_list ?_
 refine op_mv hf rfl rfl fun a hf => ?_
 refine op_as hf rfl rfl fun a hf => ?_
 refine wpList_nil ?_
 refine nor_then (hK12 _ _ ?_)
 refine wp_ret ?_
 obtain rfl := Option.some.inj hm
 exact post_ret Tryz.results37 hf (.tmp rfl .nil) ⟨rfl, hO.below⟩

set_option maxHeartbeats 1000000 in
theorem w_law30_awake (R : Bool) (w0 : World) (hG : Glob w0) (hm : law30_awake = some R) :
    Calls Tryz.prog 16 #[] w0 fun e w' => e = .returned (.bool R) ∧ Below w0.heap.size w0 w' := by
 rw [law30_awake] at hm
 refine calls_enter (vs := []) Tryz.func16 rfl Tryz.ntmps16 rfl fun a hf => ?_
 have hF : Away [] := away_nil
 have hO : Dk.Own w0 [] w0 [] := Dk.Own.refl w0
 refine wp_seq_k fun _ hK1 => ?_
 refine wp_region_list ?_
 refine op_as hf rfl rfl fun a hf => ?_
 refine wpList_nil ?_
 refine nor_then (hK1 _ _ ?_)
 refine wp_seq_k fun _ hK4 => ?_
 refine wp_region_list ?_
 refine op_val (ex_build (vs := [(0, str [104, 116, 116, 112, 58, 47, 47, 117, 112]), (1, str [47, 120])]) (v := .agg #[str [104, 116, 116, 112, 58, 47, 47, 117, 112], str [47, 120]]) hf rfl (by kernel_rfl)) rfl hf rfl rfl fun a hf => ?_
 refine op_buildSlice (vs := [(0, .agg #[str [104, 116, 116, 112, 58, 47, 47, 117, 112], str [47, 120]])]) (cs := [str [104, 116, 116, 112, 58, 47, 47, 117, 112], str [47, 120]]) (e := 56) (sz := 2) hf rfl rfl (fun w => by kernel_rfl) rfl rfl hO fun a b2 w hf hO => ?_
 obtain ⟨r3, hr3, hm⟩ := ob hm
 refine op_enter (ex_call c_37 hf (vs := [str [104, 116, 116, 112, 58, 47, 47, 117, 112, 47, 97, 63, 98], .slice (some ⟨b2, 0, none⟩) (([(⟨[104, 116, 116, 112, 58, 47, 47, 117, 112], [47, 120]⟩ : api_Swap)]).length) 1]) rfl) rfl hf rfl rfl (w_location_Rewrite [104, 116, 116, 112, 58, 47, 47, 117, 112, 47, 97, 63, 98] ([(⟨[104, 116, 116, 112, 58, 47, 47, 117, 112], [47, 120]⟩ : api_Swap)]) r3 _ (hG.own hF hO) (hO.rowSees (i := 0) rfl) (hO.rowCap (i := 0) rfl) hr3) ?_
 rintro e w' ⟨he, hb⟩
 refine ⟨_, he, fun a hf => ?_⟩
 have hO := hO.grow hb
 refine op_val (ex_eql_s (l := r3) (m := [47, 120, 47, 97, 63, 98]) hf rfl rfl) rfl hf rfl rfl fun a hf => ?_
 refine op_as hf rfl rfl fun a hf => ?_
 refine wpList_nil ?_
 refine nor_then (hK4 _ _ ?_)
 refine wp_ret ?_
 obtain rfl := Option.some.inj hm
 exact post_ret Tryz.results16 hf (.tmp rfl .nil) ⟨rfl, hO.below⟩

set_option maxHeartbeats 1000000 in
theorem w_law26_swap (x_x : api_Swap) (R : api_Swap) (w0 : World) (hG : Glob w0) (hm : law26_swap x_x = some R) :
    Calls Tryz.prog 38 #[.agg #[str x_x.From, str x_x.To]] w0 fun e w' => e = .returned (.agg #[str R.From, str R.To]) ∧ Below w0.heap.size w0 w' := by
 rw [law26_swap] at hm
 refine calls_enter (vs := [.agg #[str x_x.From, str x_x.To]]) Tryz.func38 rfl Tryz.ntmps38 rfl fun a hf => ?_
 have hF : Away [] := away_nil
 have hO : Dk.Own w0 [] w0 [] := Dk.Own.refl w0
 refine wp_seq_k fun _ hK3 => ?_
 refine wp_region_list ?_
 refine op_box (v := .agg #[str x_x.From, str x_x.To]) (cs := [str x_x.From, str x_x.To]) rfl hf rfl rfl hO fun a b1 w hf hO => ?_
 refine op_alloc al_56 hf rfl hO fun a b2 w hf hO => ?_
 refine wpList_nil ?_
 refine nor_then (hK3 _ _ ?_)
 refine wp_seq_k fun _ hK6 => ?_
 obtain ⟨s4, hs4, hm⟩ := ob hm
 obtain ⟨s5, hs5, hm⟩ := ob hm
 refine wp_drawS' (S := Unit) (E0 := [(1, ptr b1 0), (2, ptr b2 0)]) (by kernel_rfl) (fun k σ w => match k with | 0 => Dk.Own w0 [] w [.blk b2 [str [], str []] 56, .blk b1 [str x_x.From, str x_x.To] 56] | _ => Dk.Own w0 [] w [.blk b2 [str s4, str s5] 56, .blk b1 [str x_x.From, str x_x.To] 56]) (fun σ => [⟨[(1, ptr b1 0)], some (3, ptr b1 0)⟩, ⟨[(3, ptr b1 0)], some (4, str x_x.From)⟩, ⟨[(1, ptr b1 0)], some (5, ptr b1 0)⟩, ⟨[(5, ptr b1 0)], some (6, str x_x.From)⟩, ⟨[(6, str x_x.From)], some (7, int (x_x.From.length : Int))⟩, ⟨[(7, int (x_x.From.length : Int))], some (8, int (min (x_x.From.length : Int) 60))⟩, ⟨[(4, str x_x.From), (8, int (min (x_x.From.length : Int) 60))], some (9, str s4)⟩, ⟨[(1, ptr b1 0)], some (10, ptr b1 1)⟩, ⟨[(10, ptr b1 1)], some (11, str x_x.To)⟩, ⟨[(1, ptr b1 0)], some (12, ptr b1 1)⟩, ⟨[(12, ptr b1 1)], some (13, str x_x.To)⟩, ⟨[(13, str x_x.To)], some (14, int (x_x.To.length : Int))⟩, ⟨[(14, int (x_x.To.length : Int))], some (15, int (min (x_x.To.length : Int) 60))⟩, ⟨[(11, str x_x.To), (15, int (min (x_x.To.length : Int) 60))], some (16, str s5)⟩, ⟨[(9, str s4), (16, str s5)], some (17, .agg #[str s4, str s5])⟩, ⟨[(2, ptr b2 0), (17, .agg #[str s4, str s5])], none⟩]) () [15] rfl (fun _ => rfl) (fun _ => rfl) (fun _ => rfl) rfl rfl (by decide) rfl hO.drew (hf.cons rfl (hf.cons rfl hf.nil)) (fun σ => ⟨⟨rfl, trivial⟩, ⟨rfl, trivial⟩, ⟨rfl, trivial⟩, ⟨rfl, trivial⟩, ⟨rfl, trivial⟩, ⟨rfl, trivial⟩, ⟨rfl, rfl, trivial⟩, ⟨rfl, trivial⟩, ⟨rfl, trivial⟩, ⟨rfl, trivial⟩, ⟨rfl, trivial⟩, ⟨rfl, trivial⟩, ⟨rfl, trivial⟩, ⟨rfl, rfl, trivial⟩, ⟨rfl, rfl, trivial⟩, ⟨rfl, rfl, trivial⟩, trivial⟩) ⟨sS_pure rfl (fun σ => rfl) (fun σ => rfl) (fun σ a w k _ _ _ _ hf => ex_field fa_56_0 hf rfl), sS_pure rfl (fun σ => rfl) (fun σ => rfl) (fun σ a w k hk hlo hup hst hf => match k, hk, hlo, hup, hst, hf with | 0, _, _, _, hst, hf => have hO : Dk.Own w0 [] w _ := hst; ex_load1 (o := 0) ag_9 (hO.blkSees (i := 1) rfl) rfl hf rfl | 1, _, _, _, hst, hf => have hO : Dk.Own w0 [] w _ := hst; ex_load1 (o := 0) ag_9 (hO.blkSees (i := 1) rfl) rfl hf rfl | k + 2, hk, _, _, _, _ => absurd hk (by simp)), sS_pure rfl (fun σ => rfl) (fun σ => rfl) (fun σ a w k _ _ _ _ hf => ex_field fa_56_0 hf rfl), sS_pure rfl (fun σ => rfl) (fun σ => rfl) (fun σ a w k hk hlo hup hst hf => match k, hk, hlo, hup, hst, hf with | 0, _, _, _, hst, hf => have hO : Dk.Own w0 [] w _ := hst; ex_load1 (o := 0) ag_9 (hO.blkSees (i := 1) rfl) rfl hf rfl | 1, _, _, _, hst, hf => have hO : Dk.Own w0 [] w _ := hst; ex_load1 (o := 0) ag_9 (hO.blkSees (i := 1) rfl) rfl hf rfl | k + 2, hk, _, _, _, _ => absurd hk (by simp)), sS_pure rfl (fun σ => rfl) (fun σ => rfl) (fun σ a w k _ _ _ _ hf => ex_len_s (l := x_x.From) Tryz.underlying9 hf rfl), sS_pure rfl (fun σ => rfl) (fun σ => rfl) (fun σ a w k _ _ _ _ hf => ex_min (m := (x_x.From.length : Int)) (n := 60) hf rfl rfl), sS_pure rfl (fun σ => rfl) (fun σ => rfl) (fun σ a w k _ _ _ _ hf => ex_to_s (l := x_x.From) Tryz.underlying9 hf rfl rfl hs4), sS_pure rfl (fun σ => rfl) (fun σ => rfl) (fun σ a w k _ _ _ _ hf => ex_field fa_56_1 hf rfl), sS_pure rfl (fun σ => rfl) (fun σ => rfl) (fun σ a w k hk hlo hup hst hf => match k, hk, hlo, hup, hst, hf with | 0, _, _, _, hst, hf => have hO : Dk.Own w0 [] w _ := hst; ex_load1 (o := 1) ag_9 (hO.blkSees (i := 1) rfl) rfl hf rfl | 1, _, _, _, hst, hf => have hO : Dk.Own w0 [] w _ := hst; ex_load1 (o := 1) ag_9 (hO.blkSees (i := 1) rfl) rfl hf rfl | k + 2, hk, _, _, _, _ => absurd hk (by simp)), sS_pure rfl (fun σ => rfl) (fun σ => rfl) (fun σ a w k _ _ _ _ hf => ex_field fa_56_1 hf rfl), sS_pure rfl (fun σ => rfl) (fun σ => rfl) (fun σ a w k hk hlo hup hst hf => match k, hk, hlo, hup, hst, hf with | 0, _, _, _, hst, hf => have hO : Dk.Own w0 [] w _ := hst; ex_load1 (o := 1) ag_9 (hO.blkSees (i := 1) rfl) rfl hf rfl | 1, _, _, _, hst, hf => have hO : Dk.Own w0 [] w _ := hst; ex_load1 (o := 1) ag_9 (hO.blkSees (i := 1) rfl) rfl hf rfl | k + 2, hk, _, _, _, _ => absurd hk (by simp)), sS_pure rfl (fun σ => rfl) (fun σ => rfl) (fun σ a w k _ _ _ _ hf => ex_len_s (l := x_x.To) Tryz.underlying9 hf rfl), sS_pure rfl (fun σ => rfl) (fun σ => rfl) (fun σ a w k _ _ _ _ hf => ex_min (m := (x_x.To.length : Int)) (n := 60) hf rfl rfl), sS_pure rfl (fun σ => rfl) (fun σ => rfl) (fun σ a w k _ _ _ _ hf => ex_to_s (l := x_x.To) Tryz.underlying9 hf rfl rfl hs5), sS_pure rfl (fun σ => rfl) (fun σ => rfl) (fun σ a w k _ _ _ _ hf => ex_build (vs := [(0, str s4), (1, str s5)]) (v := .agg #[str s4, str s5]) hf rfl (by kernel_rfl)), sS_skip rfl (fun σ => rfl) (fun σ => rfl) rfl (fun σ w (hO : Dk.Own w0 [] w _) => by obtain ⟨w', hO', hr⟩ := ef_storeN (x := (.tmp 2)) (y := (.tmp 17)) (E := [(2, ptr b2 0), (17, .agg #[str s4, str s5])]) (i := 0) (n := 2) (vs := [str s4, str s5]) sz_56 rfl rfl rfl (by simp [Value.oneCell']) hO rfl rfl; exact ⟨(), w', hO', ⟨.inr rfl, .inr rfl, .inr rfl, .inr rfl, .inr rfl, .inr rfl, .inr rfl, .inr rfl, .inr rfl, .inr rfl, .inr rfl, .inr rfl, .inr rfl, .inr rfl, .inr rfl, .inr rfl, trivial⟩, hr⟩), trivial⟩ ?_
 rintro _ a w hf hO
 have hO : Dk.Own w0 [] w _ := hO
 have hf : Fits 18 [(2, ptr b2 0)] a := (hf.cons rfl hf.nil)
 refine nor_then (hK6 _ _ ?_)
 refine wp_ret ?_
 obtain rfl := Option.some.inj hm
 exact post_ret Tryz.results38 hf (.cell rfl (run_loadVarN (n := 2) (vs := [str s4, str s5]) ag_56 sz_56 rfl ((hO.blkSees (i := 0) rfl).cells (o := 0) (n := 2) rfl)) .nil) ⟨rfl, hO.below⟩

set_option maxHeartbeats 1000000 in
theorem w_law26_Few (x_a0 : api_Env) (R : api_Env) (w0 : World) (hG : Glob w0) {x_a0_p0 : Option Addr} {x_a0_c0 : Nat} (hs0 : Sees w0 x_a0_p0 (cells enc_api_Swap x_a0.Domains)) (hc0 : x_a0.Domains.length ≤ x_a0_c0) {x_a0_p1 : Option Addr} {x_a0_c1 : Nat} (hs1 : Sees w0 x_a0_p1 (cells enc_api_Swap x_a0.Locations)) (hc1 : x_a0.Locations.length ≤ x_a0_c1) (hm : law26_Few x_a0 = some R) :
    Calls Tryz.prog 17 #[.agg #[str x_a0.Client, str x_a0.Host, str x_a0.Scheme, str x_a0.By, .slice x_a0_p0 x_a0.Domains.length x_a0_c0, .slice x_a0_p1 x_a0.Locations.length x_a0_c1]] w0 fun e w' => ∃ (p0 : Option Addr) (c0 : Nat) (p1 : Option Addr) (c1 : Nat), e = .returned (.agg #[str R.Client, str R.Host, str R.Scheme, str R.By, .slice p0 R.Domains.length c0, .slice p1 R.Locations.length c1]) ∧ Dk.Own w0 [] w' [.row (.slice p0 R.Domains.length c0) 56 2 R.Domains.length (cells enc_api_Swap R.Domains), .row (.slice p1 R.Locations.length c1) 56 2 R.Locations.length (cells enc_api_Swap R.Locations)] := by
 rw [law26_Few] at hm
 refine calls_enter (vs := [.agg #[str x_a0.Client, str x_a0.Host, str x_a0.Scheme, str x_a0.By, .slice x_a0_p0 x_a0.Domains.length x_a0_c0, .slice x_a0_p1 x_a0.Locations.length x_a0_c1]]) Tryz.func17 rfl Tryz.ntmps17 rfl fun a hf => ?_
 have hF : Away [] := away_nil
 have hO : Dk.Own w0 [] w0 [] := Dk.Own.refl w0
 have hO := hO.addShr hs0 (by simp [Res.shared])
 have hO := hO.addShr hs1 (by simp [Res.shared])
 refine wp_seq_k fun _ hK3 => ?_
 refine wp_region_list ?_
 refine op_box (v := .agg #[str x_a0.Client, str x_a0.Host, str x_a0.Scheme, str x_a0.By, .slice x_a0_p0 x_a0.Domains.length x_a0_c0, .slice x_a0_p1 x_a0.Locations.length x_a0_c1]) (cs := [str x_a0.Client, str x_a0.Host, str x_a0.Scheme, str x_a0.By, .slice x_a0_p0 x_a0.Domains.length x_a0_c0, .slice x_a0_p1 x_a0.Locations.length x_a0_c1]) rfl hf rfl rfl hO fun a b1 w hf hO => ?_
 refine op_alloc al_41 hf rfl hO fun a b2 w hf hO => ?_
 have hO := hO.nilRow 56 2
 have hO := hO.nilRow 56 2
 refine wpList_nil ?_
 refine nor_then (hK3 _ _ ?_)
 refine wp_seq_k fun _ hK5 => ?_
 refine wp_region_list ?_
 refine op_val (ex_field fa_41_0 hf rfl) rfl hf rfl rfl fun a hf => ?_
 refine op_val (ex_load1 (o := 0) ag_9 (hO.blkSees (i := 3) rfl) rfl hf rfl) rfl hf rfl rfl fun a hf => ?_
 refine op_val (ex_field fa_41_1 hf rfl) rfl hf rfl rfl fun a hf => ?_
 refine op_val (ex_load1 (o := 1) ag_9 (hO.blkSees (i := 3) rfl) rfl hf rfl) rfl hf rfl rfl fun a hf => ?_
 refine op_val (ex_field fa_41_2 hf rfl) rfl hf rfl rfl fun a hf => ?_
 refine op_val (ex_load1 (o := 2) ag_9 (hO.blkSees (i := 3) rfl) rfl hf rfl) rfl hf rfl rfl fun a hf => ?_
 refine op_val (ex_field fa_41_3 hf rfl) rfl hf rfl rfl fun a hf => ?_
 refine op_val (ex_load1 (o := 3) ag_9 (hO.blkSees (i := 3) rfl) rfl hf rfl) rfl hf rfl rfl fun a hf => ?_
 refine op_val (ex_build (vs := [(0, str x_a0.Client), (1, str x_a0.Host), (2, str x_a0.Scheme), (3, str x_a0.By)]) (v := .agg #[str x_a0.Client, str x_a0.Host, str x_a0.Scheme, str x_a0.By]) hf rfl (by kernel_rfl)) rfl hf rfl rfl fun a hf => ?_
 refine op_alloc al_70 hf rfl hO fun a b4 w hf hO => ?_
 refine op_storeN (i := 0) (n := 4) sz_70 rfl rfl rfl (by simp [Value.oneCell']) hf rfl rfl hO fun w hO => ?_
 refine wpList_nil ?_
 refine nor_then (hK5 _ _ ?_)
 refine wp_seq_cut (fun a w => ∃ (s22 : Str) (s23 : Str) (s24 : Str) (s25 : Str), Fits 86 [(1, ptr b1 0), (2, ptr b2 0), (3, ptr b4 0)] a ∧ Dk.Own w0 [] w [.blk b4 [str s22, str s23, str s24, str s25] 70, .row (.slice none 0 0) 56 2 0 (cells enc_api_Swap []), .row (.slice none 0 0) 56 2 0 (cells enc_api_Swap []), .blk b2 [str [], str [], str [], str [], .slice none 0 0, .slice none 0 0] 41, .blk b1 [str x_a0.Client, str x_a0.Host, str x_a0.Scheme, str x_a0.By, .slice x_a0_p0 x_a0.Domains.length x_a0_c0, .slice x_a0_p1 x_a0.Locations.length x_a0_c1] 41, .shr x_a0_p1 (cells enc_api_Swap x_a0.Locations), .shr x_a0_p0 (cells enc_api_Swap x_a0.Domains)] ∧ law26_Few_j2 x_a0 s22 s23 s24 s25 = some R) ?_ ?_
 refine wp_seq_k fun _ hK6 => ?_
 refine wp_region_list ?_
 refine op_as hf rfl rfl fun a hf => ?_
 refine wpList_nil ?_
 refine nor_then (hK6 _ _ ?_)
 refine wp_block ?_
 refine wp_loop_n (fun k a w => ∃ (s7 : Str) (s8 : Str) (s9 : Str) (s10 : Str) (i11 : Int), Fits 86 [(1, ptr b1 0), (2, ptr b2 0), (3, ptr b4 0), (4, int i11)] a ∧ Dk.Own w0 [] w [.blk b4 [str s7, str s8, str s9, str s10] 70, .row (.slice none 0 0) 56 2 0 (cells enc_api_Swap []), .row (.slice none 0 0) 56 2 0 (cells enc_api_Swap []), .blk b2 [str [], str [], str [], str [], .slice none 0 0, .slice none 0 0] 41, .blk b1 [str x_a0.Client, str x_a0.Host, str x_a0.Scheme, str x_a0.By, .slice x_a0_p0 x_a0.Domains.length x_a0_c0, .slice x_a0_p1 x_a0.Locations.length x_a0_c1] 41, .shr x_a0_p1 (cells enc_api_Swap x_a0.Locations), .shr x_a0_p0 (cells enc_api_Swap x_a0.Domains)] ∧ law26_Few_L1 x_a0 k s7 s8 s9 s10 i11 = some R) ?_ fuel ?_
 rintro n1 a w ⟨s7, s8, s9, s10, i11, hf, hO, hm⟩
 obtain _ | n1 := n1
 rw [law26_Few_L1] at hm
 cases hm
 rw [law26_Few_L1] at hm
 refine wp_seq_k fun _ hK14 => ?_
 refine wp_seq_k fun _ hK12 => ?_
 refine wp_region_list ?_
 refine op_mv hf rfl rfl fun a hf => ?_
 refine op_val (ex_lss (m := i11) (n := 4) hf rfl rfl) rfl hf rfl rfl fun a hf => ?_
 refine wpList_nil ?_
 refine nor_then (hK12 _ _ ?_)
 refine wp_cond_cut hf rfl (fun hc13 => ?_) (fun hc13 => ?_)
 have hm := it hc13 hm
 refine wp_skip ?_
 refine nor_then (hK14 _ _ ?_)
 refine wp_seq_k fun _ hK20 => ?_
 refine wp_block ?_
 obtain ⟨x15, hx15, hm⟩ := ob hm
 have hAx15 := elemArr (n := 4) (b := b4) (xs := [s7, s8, s9, s10]) (m := i11) 70 Tryz.underlying70 sz_9 rfl hx15
 obtain ⟨x16, hx16, hm⟩ := ob hm
 have hAx16 := elemArr (n := 4) (b := b4) (xs := [s7, s8, s9, s10]) (m := i11) 70 Tryz.underlying70 sz_9 rfl hx16
 obtain ⟨s17, hs17, hm⟩ := ob hm
 obtain ⟨x18, hx18, hm⟩ := ob hm
 have hAx18 := elemArr (n := 4) (b := b4) (xs := [s7, s8, s9, s10]) (m := i11) 70 Tryz.underlying70 sz_9 rfl hx18
 obtain ⟨r19, hr19, hm⟩ := ob hm
 refine wp_drawS' (S := Unit) (E0 := [(1, ptr b1 0), (2, ptr b2 0), (3, ptr b4 0), (4, int i11)]) (by kernel_rfl) (fun k σ w => match k with | 0 => Dk.Own w0 [] w [.blk b4 [str s7, str s8, str s9, str s10] 70, .row (.slice none 0 0) 56 2 0 (cells enc_api_Swap []), .row (.slice none 0 0) 56 2 0 (cells enc_api_Swap []), .blk b2 [str [], str [], str [], str [], .slice none 0 0, .slice none 0 0] 41, .blk b1 [str x_a0.Client, str x_a0.Host, str x_a0.Scheme, str x_a0.By, .slice x_a0_p0 x_a0.Domains.length x_a0_c0, .slice x_a0_p1 x_a0.Locations.length x_a0_c1] 41, .shr x_a0_p1 (cells enc_api_Swap x_a0.Locations), .shr x_a0_p0 (cells enc_api_Swap x_a0.Domains)] | _ => Dk.Own w0 [] w [.blk b4 [str r19.1, str r19.2.1, str r19.2.2.1, str r19.2.2.2] 70, .row (.slice none 0 0) 56 2 0 (cells enc_api_Swap []), .row (.slice none 0 0) 56 2 0 (cells enc_api_Swap []), .blk b2 [str [], str [], str [], str [], .slice none 0 0, .slice none 0 0] 41, .blk b1 [str x_a0.Client, str x_a0.Host, str x_a0.Scheme, str x_a0.By, .slice x_a0_p0 x_a0.Domains.length x_a0_c0, .slice x_a0_p1 x_a0.Locations.length x_a0_c1] 41, .shr x_a0_p1 (cells enc_api_Swap x_a0.Locations), .shr x_a0_p0 (cells enc_api_Swap x_a0.Domains)]) (fun σ => [⟨[(4, int i11)], some (21, int i11)⟩, ⟨[(4, int i11)], some (22, int i11)⟩, ⟨[(3, ptr b4 0), (22, int i11)], some (23, ptr b4 i11.toNat)⟩, ⟨[(23, ptr b4 i11.toNat)], some (24, str x15)⟩, ⟨[(4, int i11)], some (25, int i11)⟩, ⟨[(3, ptr b4 0), (25, int i11)], some (26, ptr b4 i11.toNat)⟩, ⟨[(26, ptr b4 i11.toNat)], some (27, str x16)⟩, ⟨[(27, str x16)], some (28, int (x16.length : Int))⟩, ⟨[(28, int (x16.length : Int))], some (29, int (min (x16.length : Int) 60))⟩, ⟨[(24, str x15), (29, int (min (x16.length : Int) 60))], some (30, str s17)⟩, ⟨[(3, ptr b4 0), (21, int i11)], some (31, ptr b4 i11.toNat)⟩, ⟨[(30, str s17), (31, ptr b4 i11.toNat)], none⟩]) () [11] rfl (fun _ => rfl) (fun _ => rfl) (fun _ => rfl) rfl rfl (by decide) rfl hO.drew (hf.cons rfl (hf.cons rfl (hf.cons rfl (hf.cons rfl hf.nil)))) (fun σ => ⟨⟨rfl, trivial⟩, ⟨rfl, trivial⟩, ⟨rfl, rfl, trivial⟩, ⟨rfl, trivial⟩, ⟨rfl, trivial⟩, ⟨rfl, rfl, trivial⟩, ⟨rfl, trivial⟩, ⟨rfl, trivial⟩, ⟨rfl, trivial⟩, ⟨rfl, rfl, trivial⟩, ⟨rfl, rfl, trivial⟩, ⟨rfl, rfl, trivial⟩, trivial⟩) ⟨sS_pure rfl (fun σ => rfl) (fun σ => rfl) (fun σ a w k _ _ _ _ hf => ex_move hf rfl), sS_pure rfl (fun σ => rfl) (fun σ => rfl) (fun σ a w k _ _ _ _ hf => ex_move hf rfl), sS_pure rfl (fun σ => rfl) (fun σ => rfl) (fun σ a w k _ _ _ _ hf => ex_indexAddrA hAx15.1 hf rfl rfl), sS_pure rfl (fun σ => rfl) (fun σ => rfl) (fun σ a w k hk hlo hup hst hf => match k, hk, hlo, hup, hst, hf with | 0, _, _, _, hst, hf => have hO : Dk.Own w0 [] w _ := hst; ex_load1 (o := 0) ag_9 ((fun w h => hAx15.2 w h) _ (hO.blkSees (i := 0) rfl)) rfl hf rfl | 1, _, _, hup, _, _ => absurd (hup 0 (by decide) (by kernel_rfl)) (by decide) | k + 2, hk, _, _, _, _ => absurd hk (by simp)), sS_pure rfl (fun σ => rfl) (fun σ => rfl) (fun σ a w k _ _ _ _ hf => ex_move hf rfl), sS_pure rfl (fun σ => rfl) (fun σ => rfl) (fun σ a w k _ _ _ _ hf => ex_indexAddrA hAx16.1 hf rfl rfl), sS_pure rfl (fun σ => rfl) (fun σ => rfl) (fun σ a w k hk hlo hup hst hf => match k, hk, hlo, hup, hst, hf with | 0, _, _, _, hst, hf => have hO : Dk.Own w0 [] w _ := hst; ex_load1 (o := 0) ag_9 ((fun w h => hAx16.2 w h) _ (hO.blkSees (i := 0) rfl)) rfl hf rfl | 1, _, _, hup, _, _ => absurd (hup 0 (by decide) (by kernel_rfl)) (by decide) | k + 2, hk, _, _, _, _ => absurd hk (by simp)), sS_pure rfl (fun σ => rfl) (fun σ => rfl) (fun σ a w k _ _ _ _ hf => ex_len_s (l := x16) Tryz.underlying9 hf rfl), sS_pure rfl (fun σ => rfl) (fun σ => rfl) (fun σ a w k _ _ _ _ hf => ex_min (m := (x16.length : Int)) (n := 60) hf rfl rfl), sS_pure rfl (fun σ => rfl) (fun σ => rfl) (fun σ a w k _ _ _ _ hf => ex_to_s (l := x15) Tryz.underlying9 hf rfl rfl hs17), sS_pure rfl (fun σ => rfl) (fun σ => rfl) (fun σ a w k _ _ _ _ hf => ex_indexAddrA hAx18.1 hf rfl rfl), sS_skip rfl (fun σ => rfl) (fun σ => rfl) rfl (fun σ w (hO : Dk.Own w0 [] w _) => by obtain ⟨w', hO', hr⟩ := ef_storeArr (x := (.tmp 31)) (y := (.tmp 30)) (E := [(30, str s17), (31, ptr b4 i11.toNat)]) (i := 0) (xs := [s7, s8, s9, s10]) (ys := [r19.1, r19.2.1, r19.2.2.1, r19.2.2.2]) (m := i11) (v := s17) sz_9 rfl (tup4_some hr19) hO rfl rfl; exact ⟨(), w', hO', ⟨.inr rfl, .inr rfl, .inr rfl, .inr rfl, .inr rfl, .inr rfl, .inr rfl, .inr rfl, .inr rfl, .inr rfl, .inr rfl, .inr rfl, trivial⟩, hr⟩), trivial⟩ ?_
 rintro _ a w hf hO
 have hO : Dk.Own w0 [] w _ := hO
 have hf : Fits 86 [(1, ptr b1 0), (2, ptr b2 0), (3, ptr b4 0), (4, int i11)] a := (hf.cons rfl (hf.cons rfl (hf.cons rfl (hf.cons rfl hf.nil))))
 refine nor_block ?_
 refine nor_then (hK20 _ _ ?_)
 refine wp_region_list ?_
 refine op_mv hf rfl rfl fun a hf => ?_
 obtain ⟨i21, hi21, hm⟩ := ob hm
 refine op_val (ex_add hf rfl rfl hi21) rfl hf rfl rfl fun a hf => ?_
 refine op_as hf rfl rfl fun a hf => ?_
 refine wpList_nil ?_
 refine nor_then ?_
 exact ⟨_, Nat.lt_succ_self _, r19.1, r19.2.1, r19.2.2.1, r19.2.2.2, i21, (hf.cons rfl (hf.cons rfl (hf.cons rfl (hf.cons rfl hf.nil)))), hO, hm⟩
 have hm := ie hc13 hm
 refine wp_exit ?_
 refine exit_then ?_
 refine exit_then ?_
 refine exit_here ?_
 refine nor_then ?_
 exact ⟨s7, s8, s9, s10, (hf.cons rfl (hf.cons rfl (hf.cons rfl hf.nil))), hO, hm⟩
 exact ⟨x_a0.Client, x_a0.Host, x_a0.Scheme, x_a0.By, 0, (hf.cons rfl (hf.cons rfl (hf.cons rfl (hf.cons rfl hf.nil)))), hO, hm⟩
 rintro a w ⟨s22, s23, s24, s25, hf, hO, hm⟩
 rw [law26_Few_j2] at hm
 refine wp_seq_k fun _ hK27 => ?_
 refine wp_region_list ?_
 refine op_val (ex_indexAddrA (ia_70_0 _) hf rfl rfl) rfl hf rfl rfl fun a hf => ?_
 refine op_val (ex_load1 (o := 0) ag_9 (hO.blkSees (i := 0) rfl) rfl hf rfl) rfl hf rfl rfl fun a hf => ?_
 refine op_val (ex_indexAddrA (ia_70_1 _) hf rfl rfl) rfl hf rfl rfl fun a hf => ?_
 refine op_val (ex_load1 (o := 1) ag_9 (hO.blkSees (i := 0) rfl) rfl hf rfl) rfl hf rfl rfl fun a hf => ?_
 refine op_val (ex_indexAddrA (ia_70_2 _) hf rfl rfl) rfl hf rfl rfl fun a hf => ?_
 refine op_val (ex_load1 (o := 2) ag_9 (hO.blkSees (i := 0) rfl) rfl hf rfl) rfl hf rfl rfl fun a hf => ?_
 refine op_val (ex_indexAddrA (ia_70_3 _) hf rfl rfl) rfl hf rfl rfl fun a hf => ?_
 refine op_val (ex_load1 (o := 3) ag_9 (hO.blkSees (i := 0) rfl) rfl hf rfl) rfl hf rfl rfl fun a hf => ?_
 refine op_val (ex_build (vs := [(0, str s22), (1, str s23), (2, str s24), (3, str s25)]) (v := .agg #[str s22, str s23, str s24, str s25, .slice none 0 0, .slice none 0 0]) hf rfl (by kernel_rfl)) rfl hf rfl rfl fun a hf => ?_
 refine op_alloc al_41 hf rfl hO fun a b26 w hf hO => ?_
 have hO := hO.nilRow 56 2
 have hO := hO.nilRow 56 2
 refine op_storeN (i := 2) (n := 6) sz_41 rfl rfl rfl (by simp [Value.oneCell']) hf rfl rfl hO fun w hO => ?_
 have hO := hO.nilRow 56 2
 have hO := hO.nilRow 56 2
 refine wpList_nil ?_
 refine nor_then (hK27 _ _ ?_)
 refine wp_seq_cut (fun a w => ∃ (s54 : Str) (s55 : Str) (s56 : Str) (s57 : Str) (p58 : Option Addr) (c59 : Nat) (l60 : List api_Swap) (p61 : Option Addr) (c62 : Nat) (l63 : List api_Swap), Fits 86 [(1, ptr b1 0), (2, ptr b2 0), (5, ptr b26 0)] a ∧ Dk.Own w0 [] w [.row (.slice p61 l63.length c62) 56 2 l63.length (cells enc_api_Swap l63), .row (.slice p58 l60.length c59) 56 2 l60.length (cells enc_api_Swap l60), .row (.slice none 0 0) 56 2 0 (cells enc_api_Swap []), .row (.slice none 0 0) 56 2 0 (cells enc_api_Swap []), .blk b26 [str s54, str s55, str s56, str s57, .slice p58 l60.length c59, .slice p61 l63.length c62] 41, .blk b4 [str s22, str s23, str s24, str s25] 70, .row (.slice none 0 0) 56 2 0 (cells enc_api_Swap []), .row (.slice none 0 0) 56 2 0 (cells enc_api_Swap []), .blk b2 [str [], str [], str [], str [], .slice none 0 0, .slice none 0 0] 41, .blk b1 [str x_a0.Client, str x_a0.Host, str x_a0.Scheme, str x_a0.By, .slice x_a0_p0 x_a0.Domains.length x_a0_c0, .slice x_a0_p1 x_a0.Locations.length x_a0_c1] 41, .shr x_a0_p1 (cells enc_api_Swap x_a0.Locations), .shr x_a0_p0 (cells enc_api_Swap x_a0.Domains)] ∧ law26_Few_j5 x_a0 s54 s55 s56 s57 l60 l63 = some R) ?_ ?_
 refine wp_seq_k fun _ hK28 => ?_
 refine wp_region_list ?_
 refine op_as hf rfl rfl fun a hf => ?_
 refine wpList_nil ?_
 refine nor_then (hK28 _ _ ?_)
 refine wp_block ?_
 refine wp_loop_n (fun k a w => ∃ (p29 : Option Addr) (c30 : Nat) (l31 : List api_Swap) (s32 : Str) (s33 : Str) (s34 : Str) (s35 : Str) (p36 : Option Addr) (c37 : Nat) (l38 : List api_Swap) (i39 : Int), Fits 86 [(1, ptr b1 0), (2, ptr b2 0), (5, ptr b26 0), (6, int i39)] a ∧ Dk.Own w0 [] w [.row (.slice p36 l38.length c37) 56 2 l38.length (cells enc_api_Swap l38), .row (.slice p29 l31.length c30) 56 2 l31.length (cells enc_api_Swap l31), .row (.slice none 0 0) 56 2 0 (cells enc_api_Swap []), .row (.slice none 0 0) 56 2 0 (cells enc_api_Swap []), .blk b26 [str s32, str s33, str s34, str s35, .slice p29 l31.length c30, .slice p36 l38.length c37] 41, .blk b4 [str s22, str s23, str s24, str s25] 70, .row (.slice none 0 0) 56 2 0 (cells enc_api_Swap []), .row (.slice none 0 0) 56 2 0 (cells enc_api_Swap []), .blk b2 [str [], str [], str [], str [], .slice none 0 0, .slice none 0 0] 41, .blk b1 [str x_a0.Client, str x_a0.Host, str x_a0.Scheme, str x_a0.By, .slice x_a0_p0 x_a0.Domains.length x_a0_c0, .slice x_a0_p1 x_a0.Locations.length x_a0_c1] 41, .shr x_a0_p1 (cells enc_api_Swap x_a0.Locations), .shr x_a0_p0 (cells enc_api_Swap x_a0.Domains)] ∧ law26_Few_L3 x_a0 k l31 s32 s33 s34 s35 l38 i39 = some R) ?_ fuel ?_
 rintro n3 a w ⟨p29, c30, l31, s32, s33, s34, s35, p36, c37, l38, i39, hf, hO, hm⟩
 obtain _ | n3 := n3
 rw [law26_Few_L3] at hm
 cases hm
 rw [law26_Few_L3] at hm
 refine wp_seq_k fun _ hK43 => ?_
 refine wp_seq_cut (fun a w => ∃ (t41 : Bool), Fits 86 [(1, ptr b1 0), (2, ptr b2 0), (5, ptr b26 0), (6, int i39), (49, .bool t41)] a ∧ Dk.Own w0 [] w [.row (.slice p36 l38.length c37) 56 2 l38.length (cells enc_api_Swap l38), .row (.slice p29 l31.length c30) 56 2 l31.length (cells enc_api_Swap l31), .row (.slice none 0 0) 56 2 0 (cells enc_api_Swap []), .row (.slice none 0 0) 56 2 0 (cells enc_api_Swap []), .blk b26 [str s32, str s33, str s34, str s35, .slice p29 l31.length c30, .slice p36 l38.length c37] 41, .blk b4 [str s22, str s23, str s24, str s25] 70, .row (.slice none 0 0) 56 2 0 (cells enc_api_Swap []), .row (.slice none 0 0) 56 2 0 (cells enc_api_Swap []), .blk b2 [str [], str [], str [], str [], .slice none 0 0, .slice none 0 0] 41, .blk b1 [str x_a0.Client, str x_a0.Host, str x_a0.Scheme, str x_a0.By, .slice x_a0_p0 x_a0.Domains.length x_a0_c0, .slice x_a0_p1 x_a0.Locations.length x_a0_c1] 41, .shr x_a0_p1 (cells enc_api_Swap x_a0.Locations), .shr x_a0_p0 (cells enc_api_Swap x_a0.Domains)] ∧ law26_Few_j4 (law26_Few_L3 x_a0 n3) x_a0 l31 s32 s33 s34 s35 l38 i39 t41 = some R) ?_ ?_
 refine wp_region_list ?_
 refine op_mv hf rfl rfl fun a hf => ?_
 refine op_val (ex_field fa_41_4 hf rfl) rfl hf rfl rfl fun a hf => ?_
 refine op_val (ex_load1 (o := 4) ag_22 (hO.blkSees (i := 9) rfl) rfl hf rfl) rfl hf rfl rfl fun a hf => ?_
 refine op_val (ex_len_l Tryz.underlying22 hf rfl) rfl hf rfl rfl fun a hf => ?_
 refine op_val (ex_lss (m := i39) (n := (x_a0.Domains.length : Int)) hf rfl rfl) rfl hf rfl rfl fun a hf => ?_
 refine op_mv hf rfl rfl fun a hf => ?_
 rcases bcase (decide (i39 < (x_a0.Domains.length : Int))) with hc40 | hc40
 have hm := it hc40 hm
 refine op_guard rfl hf rfl rfl (hc40) ?_
 refine op_mv hf rfl rfl fun a hf => ?_
 refine op_guard rfl hf rfl rfl (hc40) ?_
 refine op_val (ex_lss (m := i39) (n := 6) hf rfl rfl) rfl hf rfl rfl fun a hf => ?_
 refine op_val (ex_pick_t hf rfl hc40 rfl) rfl hf rfl rfl fun a hf => ?_
 refine wpList_nil ?_
 refine nor_then ?_
 exact ⟨decide (i39 < 6), (hf.cons rfl (hf.cons rfl (hf.cons rfl (hf.cons rfl (hf.cons rfl hf.nil))))), hO, hm⟩
 have hm := ie hc40 hm
 refine op_pass rfl hf rfl rfl (hc40) rfl rfl fun a hf => ?_
 refine op_pass rfl hf rfl rfl (hc40) rfl rfl fun a hf => ?_
 refine op_val (ex_pick_f hf rfl hc40 rfl) rfl hf rfl rfl fun a hf => ?_
 refine wpList_nil ?_
 refine nor_then ?_
 exact ⟨false, (hf.cons rfl (hf.cons rfl (hf.cons rfl (hf.cons rfl (hf.cons rfl hf.nil))))), hO, hm⟩
 rintro a w ⟨t41, hf, hO, hm⟩
 rw [law26_Few_j4] at hm
 refine wp_cond_cut hf rfl (fun hc42 => ?_) (fun hc42 => ?_)
 have hm := it hc42 hm
 refine wp_skip ?_
 refine nor_then (hK43 _ _ ?_)
 refine wp_seq_k fun _ hK52 => ?_
 refine wp_block ?_
 obtain ⟨x44, hx44, hm⟩ := ob hm
 obtain ⟨b45, o46, hix44, hSx44⟩ := elemAt (enc := enc_api_Swap) (sz := 2) (xs := x_a0.Domains) 22 Tryz.underlying22 sz_56 (by decide) (fun _ => rfl) (hO.sees (i := 11) rfl) hx44
 obtain ⟨r47, hr47, hm⟩ := ob hm
 obtain ⟨hg51, hm⟩ := og hm
 refine wp_drawS' (S := Nat × Option Addr × Nat) (E0 := [(1, ptr b1 0), (2, ptr b2 0), (5, ptr b26 0), (6, int i39)]) (by kernel_rfl) (fun k σ w => match k with | 0 => Dk.Own w0 [] w [.row (.slice p36 l38.length c37) 56 2 l38.length (cells enc_api_Swap l38), .row (.slice p29 l31.length c30) 56 2 l31.length (cells enc_api_Swap l31), .row (.slice none 0 0) 56 2 0 (cells enc_api_Swap []), .row (.slice none 0 0) 56 2 0 (cells enc_api_Swap []), .blk b26 [str s32, str s33, str s34, str s35, .slice p29 l31.length c30, .slice p36 l38.length c37] 41, .blk b4 [str s22, str s23, str s24, str s25] 70, .row (.slice none 0 0) 56 2 0 (cells enc_api_Swap []), .row (.slice none 0 0) 56 2 0 (cells enc_api_Swap []), .blk b2 [str [], str [], str [], str [], .slice none 0 0, .slice none 0 0] 41, .blk b1 [str x_a0.Client, str x_a0.Host, str x_a0.Scheme, str x_a0.By, .slice x_a0_p0 x_a0.Domains.length x_a0_c0, .slice x_a0_p1 x_a0.Locations.length x_a0_c1] 41, .shr x_a0_p1 (cells enc_api_Swap x_a0.Locations), .shr x_a0_p0 (cells enc_api_Swap x_a0.Domains)] | 1 => Dk.Own w0 [] w [.row (.slice p36 l38.length c37) 56 2 l38.length (cells enc_api_Swap l38), .row (.slice p29 l31.length c30) 56 2 l31.length (cells enc_api_Swap l31), .row (.slice none 0 0) 56 2 0 (cells enc_api_Swap []), .row (.slice none 0 0) 56 2 0 (cells enc_api_Swap []), .blk b26 [str s32, str s33, str s34, str s35, .slice p29 l31.length c30, .slice p36 l38.length c37] 41, .blk b4 [str s22, str s23, str s24, str s25] 70, .row (.slice none 0 0) 56 2 0 (cells enc_api_Swap []), .row (.slice none 0 0) 56 2 0 (cells enc_api_Swap []), .blk b2 [str [], str [], str [], str [], .slice none 0 0, .slice none 0 0] 41, .blk b1 [str x_a0.Client, str x_a0.Host, str x_a0.Scheme, str x_a0.By, .slice x_a0_p0 x_a0.Domains.length x_a0_c0, .slice x_a0_p1 x_a0.Locations.length x_a0_c1] 41, .shr x_a0_p1 (cells enc_api_Swap x_a0.Locations), .shr x_a0_p0 (cells enc_api_Swap x_a0.Domains)] | 2 => Dk.Own w0 [] w [.row (.slice (some ⟨(σ.1), 0, none⟩) ([r47].length) 1) 56 2 ([r47].length) (cells enc_api_Swap [r47]), .row (.slice p36 l38.length c37) 56 2 l38.length (cells enc_api_Swap l38), .row (.slice p29 l31.length c30) 56 2 l31.length (cells enc_api_Swap l31), .row (.slice none 0 0) 56 2 0 (cells enc_api_Swap []), .row (.slice none 0 0) 56 2 0 (cells enc_api_Swap []), .blk b26 [str s32, str s33, str s34, str s35, .slice p29 l31.length c30, .slice p36 l38.length c37] 41, .blk b4 [str s22, str s23, str s24, str s25] 70, .row (.slice none 0 0) 56 2 0 (cells enc_api_Swap []), .row (.slice none 0 0) 56 2 0 (cells enc_api_Swap []), .blk b2 [str [], str [], str [], str [], .slice none 0 0, .slice none 0 0] 41, .blk b1 [str x_a0.Client, str x_a0.Host, str x_a0.Scheme, str x_a0.By, .slice x_a0_p0 x_a0.Domains.length x_a0_c0, .slice x_a0_p1 x_a0.Locations.length x_a0_c1] 41, .shr x_a0_p1 (cells enc_api_Swap x_a0.Locations), .shr x_a0_p0 (cells enc_api_Swap x_a0.Domains)] | 3 => Dk.Own w0 [] w [.row (.slice (some ⟨(σ.1), 0, none⟩) ([r47].length) 1) 56 2 ([r47].length) (cells enc_api_Swap [r47]), .row (.slice p36 l38.length c37) 56 2 l38.length (cells enc_api_Swap l38), .row (.slice (σ.2.1) ((l31 ++ [r47]).length) (σ.2.2)) 56 2 ((l31 ++ [r47]).length) (cells enc_api_Swap (l31 ++ [r47])), .row (.slice none 0 0) 56 2 0 (cells enc_api_Swap []), .row (.slice none 0 0) 56 2 0 (cells enc_api_Swap []), .blk b26 [str s32, str s33, str s34, str s35, .slice p29 l31.length c30, .slice p36 l38.length c37] 41, .blk b4 [str s22, str s23, str s24, str s25] 70, .row (.slice none 0 0) 56 2 0 (cells enc_api_Swap []), .row (.slice none 0 0) 56 2 0 (cells enc_api_Swap []), .blk b2 [str [], str [], str [], str [], .slice none 0 0, .slice none 0 0] 41, .blk b1 [str x_a0.Client, str x_a0.Host, str x_a0.Scheme, str x_a0.By, .slice x_a0_p0 x_a0.Domains.length x_a0_c0, .slice x_a0_p1 x_a0.Locations.length x_a0_c1] 41, .shr x_a0_p1 (cells enc_api_Swap x_a0.Locations), .shr x_a0_p0 (cells enc_api_Swap x_a0.Domains)] | _ => Dk.Own w0 [] w [.row (.slice (some ⟨(σ.1), 0, none⟩) ([r47].length) 1) 56 2 ([r47].length) (cells enc_api_Swap [r47]), .row (.slice p36 l38.length c37) 56 2 l38.length (cells enc_api_Swap l38), .row (.slice (σ.2.1) ((l31 ++ [r47]).length) (σ.2.2)) 56 2 ((l31 ++ [r47]).length) (cells enc_api_Swap (l31 ++ [r47])), .row (.slice none 0 0) 56 2 0 (cells enc_api_Swap []), .row (.slice none 0 0) 56 2 0 (cells enc_api_Swap []), .blk b26 [str s32, str s33, str s34, str s35, .slice (σ.2.1) ((l31 ++ [r47]).length) (σ.2.2), .slice p36 l38.length c37] 41, .blk b4 [str s22, str s23, str s24, str s25] 70, .row (.slice none 0 0) 56 2 0 (cells enc_api_Swap []), .row (.slice none 0 0) 56 2 0 (cells enc_api_Swap []), .blk b2 [str [], str [], str [], str [], .slice none 0 0, .slice none 0 0] 41, .blk b1 [str x_a0.Client, str x_a0.Host, str x_a0.Scheme, str x_a0.By, .slice x_a0_p0 x_a0.Domains.length x_a0_c0, .slice x_a0_p1 x_a0.Locations.length x_a0_c1] 41, .shr x_a0_p1 (cells enc_api_Swap x_a0.Locations), .shr x_a0_p0 (cells enc_api_Swap x_a0.Domains)]) (fun σ => [⟨[(5, ptr b26 0)], some (52, ptr b26 4)⟩, ⟨[(52, ptr b26 4)], some (53, .slice p29 l31.length c30)⟩, ⟨[(1, ptr b1 0)], some (54, ptr b1 4)⟩, ⟨[(54, ptr b1 4)], some (55, .slice x_a0_p0 x_a0.Domains.length x_a0_c0)⟩, ⟨[(6, int i39)], some (56, int i39)⟩, ⟨[(55, .slice x_a0_p0 x_a0.Domains.length x_a0_c0), (56, int i39)], some (57, ptr b45 o46)⟩, ⟨[(57, ptr b45 o46)], some (58, .agg #[str x44.From, str x44.To])⟩, ⟨[(58, .agg #[str x44.From, str x44.To])], some (59, .agg #[str r47.From, str r47.To])⟩, ⟨[(59, .agg #[str r47.From, str r47.To])], some (60, .slice (some ⟨(σ.1), 0, none⟩) ([r47].length) 1)⟩, ⟨[(53, .slice p29 l31.length c30), (60, .slice (some ⟨(σ.1), 0, none⟩) ([r47].length) 1)], some (61, .slice (σ.2.1) ((l31 ++ [r47]).length) (σ.2.2))⟩, ⟨[(5, ptr b26 0)], some (62, ptr b26 4)⟩, ⟨[(61, .slice (σ.2.1) ((l31 ++ [r47]).length) (σ.2.2)), (62, ptr b26 4)], none⟩]) (0, none, 0) [7, 8, 9, 11] rfl (fun _ => rfl) (fun _ => rfl) (fun _ => rfl) rfl rfl (by decide) rfl hO.drew (hf.cons rfl (hf.cons rfl (hf.cons rfl (hf.cons rfl hf.nil)))) (fun σ => ⟨⟨rfl, trivial⟩, ⟨rfl, trivial⟩, ⟨rfl, trivial⟩, ⟨rfl, trivial⟩, ⟨rfl, trivial⟩, ⟨rfl, rfl, trivial⟩, ⟨rfl, trivial⟩, ⟨rfl, trivial⟩, ⟨rfl, trivial⟩, ⟨rfl, rfl, trivial⟩, ⟨rfl, trivial⟩, ⟨rfl, rfl, trivial⟩, trivial⟩) ⟨sS_pure rfl (fun σ => rfl) (fun σ => rfl) (fun σ a w k _ _ _ _ hf => ex_field fa_41_4 hf rfl), sS_pure rfl (fun σ => rfl) (fun σ => rfl) (fun σ a w k hk hlo hup hst hf => match k, hk, hlo, hup, hst, hf with | 0, _, _, _, hst, hf => have hO : Dk.Own w0 [] w _ := hst; ex_load1 (o := 4) ag_22 (hO.blkSees (i := 4) rfl) rfl hf rfl | 1, _, _, _, hst, hf => have hO : Dk.Own w0 [] w _ := hst; ex_load1 (o := 4) ag_22 (hO.blkSees (i := 4) rfl) rfl hf rfl | 2, _, _, _, hst, hf => have hO : Dk.Own w0 [] w _ := hst; ex_load1 (o := 4) ag_22 (hO.blkSees (i := 5) rfl) rfl hf rfl | 3, _, _, _, hst, hf => have hO : Dk.Own w0 [] w _ := hst; ex_load1 (o := 4) ag_22 (hO.blkSees (i := 5) rfl) rfl hf rfl | 4, _, _, hup, _, _ => absurd (hup 2 (by decide) (by kernel_rfl)) (by decide) | k + 5, hk, _, _, _, _ => absurd hk (by simp)), sS_pure rfl (fun σ => rfl) (fun σ => rfl) (fun σ a w k _ _ _ _ hf => ex_field fa_41_4 hf rfl), sS_pure rfl (fun σ => rfl) (fun σ => rfl) (fun σ a w k hk hlo hup hst hf => match k, hk, hlo, hup, hst, hf with | 0, _, _, _, hst, hf => have hO : Dk.Own w0 [] w _ := hst; ex_load1 (o := 4) ag_22 (hO.blkSees (i := 9) rfl) rfl hf rfl | 1, _, _, _, hst, hf => have hO : Dk.Own w0 [] w _ := hst; ex_load1 (o := 4) ag_22 (hO.blkSees (i := 9) rfl) rfl hf rfl | 2, _, _, _, hst, hf => have hO : Dk.Own w0 [] w _ := hst; ex_load1 (o := 4) ag_22 (hO.blkSees (i := 10) rfl) rfl hf rfl | 3, _, _, _, hst, hf => have hO : Dk.Own w0 [] w _ := hst; ex_load1 (o := 4) ag_22 (hO.blkSees (i := 10) rfl) rfl hf rfl | 4, _, _, _, hst, hf => have hO : Dk.Own w0 [] w _ := hst; ex_load1 (o := 4) ag_22 (hO.blkSees (i := 10) rfl) rfl hf rfl | k + 5, hk, _, _, _, _ => absurd hk (by simp)), sS_pure rfl (fun σ => rfl) (fun σ => rfl) (fun σ a w k _ _ _ _ hf => ex_move hf rfl), sS_pure rfl (fun σ => rfl) (fun σ => rfl) (fun σ a w k _ _ _ _ hf => ex_indexAddr hix44 hf rfl rfl), sS_pure rfl (fun σ => rfl) (fun σ => rfl) (fun σ a w k hk hlo hup hst hf => match k, hk, hlo, hup, hst, hf with | 0, _, _, _, hst, hf => have hO : Dk.Own w0 [] w _ := hst; ex_loadN (o := 0) (vs := [str x44.From, str x44.To]) ag_56 sz_56 (hSx44 _ (hO.sees (i := 11) rfl)) rfl rfl hf rfl | 1, _, _, _, hst, hf => have hO : Dk.Own w0 [] w _ := hst; ex_loadN (o := 0) (vs := [str x44.From, str x44.To]) ag_56 sz_56 (hSx44 _ (hO.sees (i := 11) rfl)) rfl rfl hf rfl | 2, _, _, _, hst, hf => have hO : Dk.Own w0 [] w _ := hst; ex_loadN (o := 0) (vs := [str x44.From, str x44.To]) ag_56 sz_56 (hSx44 _ (hO.sees (i := 12) rfl)) rfl rfl hf rfl | 3, _, _, _, hst, hf => have hO : Dk.Own w0 [] w _ := hst; ex_loadN (o := 0) (vs := [str x44.From, str x44.To]) ag_56 sz_56 (hSx44 _ (hO.sees (i := 12) rfl)) rfl rfl hf rfl | 4, _, _, _, hst, hf => have hO : Dk.Own w0 [] w _ := hst; ex_loadN (o := 0) (vs := [str x44.From, str x44.To]) ag_56 sz_56 (hSx44 _ (hO.sees (i := 12) rfl)) rfl rfl hf rfl | k + 5, hk, _, _, _, _ => absurd hk (by simp)), sS_call rfl (fun σ => rfl) (fun σ => rfl) rfl (fun σ a w (_ : _) hf => ex_call c_38 hf (vs := [.agg #[str x44.From, str x44.To]]) rfl) (fun σ w (hO : Dk.Own w0 [] w _) => (w_law26_swap x44 r47 _ (hG.own hF hO) hr47).mono fun e w' h => by obtain ⟨he, hb⟩ := h; exact ⟨((σ.1), (σ.2.1), (σ.2.2)), he, hO.grow hb, .inr rfl, .inr rfl, .inr rfl, .inr rfl, .inr rfl, .inr rfl, .inr rfl, .inr rfl, .inr rfl, .inr rfl, .inr rfl, .inr rfl, trivial⟩), sS_val rfl (fun σ => rfl) (fun σ => rfl) rfl (fun σ w (hO : Dk.Own w0 [] w _) => by obtain ⟨b48, w', hO', hr⟩ := ef_buildSlice (E := [(59, .agg #[str r47.From, str r47.To])]) (parts := #[(0, (.tmp 59))]) (t' := 22) (n := 1) (vs := [(0, .agg #[str r47.From, str r47.To])]) (cs := [str r47.From, str r47.To]) (e := 56) (sz := 2) (fun w => by kernel_rfl) rfl rfl hO rfl; exact ⟨(b48, (σ.2.1), (σ.2.2)), w', hO', ⟨.inr rfl, .inr rfl, .inr rfl, .inr rfl, .inr rfl, .inr rfl, .inr rfl, .inr rfl, .inl rfl, .inl rfl, .inr rfl, .inr rfl, trivial⟩, hr⟩), sS_val rfl (fun σ => rfl) (fun σ => rfl) rfl (fun σ w (hO : Dk.Own w0 [] w _) => by obtain ⟨p49, c50, w', hO', hr⟩ := ef_append (E := [(53, .slice p29 l31.length c30), (60, .slice (some ⟨(σ.1), 0, none⟩) ([r47].length) 1)]) (x := (.tmp 53)) (y := (.tmp 60)) el_22 (enc := enc_api_Swap) (xs := l31) (ys := [r47]) (i := 2) (fun _ => rfl) rfl (hO.rowSees (i := 0) rfl) (by simp [cells, enc_api_Swap, Value.oneCell']) hg51 hO rfl rfl; exact ⟨((σ.1), p49, c50), w', hO', ⟨.inr rfl, .inr rfl, .inr rfl, .inr rfl, .inr rfl, .inr rfl, .inr rfl, .inr rfl, .inr rfl, .inl rfl, .inr rfl, .inl rfl, trivial⟩, hr⟩), sS_pure rfl (fun σ => rfl) (fun σ => rfl) (fun σ a w k _ _ _ _ hf => ex_field fa_41_4 hf rfl), sS_skip rfl (fun σ => rfl) (fun σ => rfl) rfl (fun σ w (hO : Dk.Own w0 [] w _) => by obtain ⟨w', hO', hr⟩ := ef_store1 (x := (.tmp 62)) (y := (.tmp 61)) (E := [(61, .slice (σ.2.1) ((l31 ++ [r47]).length) (σ.2.2)), (62, ptr b26 4)]) (i := 5) (o := 4) (v := .slice (σ.2.1) ((l31 ++ [r47]).length) (σ.2.2)) sz_22 rfl rfl rfl rfl hO rfl rfl; exact ⟨((σ.1), (σ.2.1), (σ.2.2)), w', hO', ⟨.inr rfl, .inr rfl, .inr rfl, .inr rfl, .inr rfl, .inr rfl, .inr rfl, .inr rfl, .inr rfl, .inr rfl, .inr rfl, .inr rfl, trivial⟩, hr⟩), trivial⟩ ?_
 rintro ⟨b48, p49, c50⟩ a w hf hO
 have hO : Dk.Own w0 [] w _ := hO
 have hf : Fits 86 [(1, ptr b1 0), (2, ptr b2 0), (5, ptr b26 0), (6, int i39)] a := (hf.cons rfl (hf.cons rfl (hf.cons rfl (hf.cons rfl hf.nil))))
 refine nor_block ?_
 refine nor_then (hK52 _ _ ?_)
 refine wp_region_list ?_
 refine op_mv hf rfl rfl fun a hf => ?_
 obtain ⟨i53, hi53, hm⟩ := ob hm
 refine op_val (ex_add hf rfl rfl hi53) rfl hf rfl rfl fun a hf => ?_
 refine op_as hf rfl rfl fun a hf => ?_
 refine wpList_nil ?_
 refine nor_then ?_
 exact ⟨_, Nat.lt_succ_self _, p49, c50, l31 ++ [r47], s32, s33, s34, s35, p36, c37, l38, i53, (hf.cons rfl (hf.cons rfl (hf.cons rfl (hf.cons rfl hf.nil)))), (hO.sub (.cons _ (.cons_cons _ (.cons_cons _ (.cons_cons _ (.cons_cons _ (.cons_cons _ (.cons_cons _ (.cons_cons _ (.cons_cons _ (.cons_cons _ (.cons_cons _ (.cons_cons _ (.cons_cons _ .slnil)))))))))))))), hm⟩
 have hm := ie hc42 hm
 refine wp_exit ?_
 refine exit_then ?_
 refine exit_then ?_
 refine exit_here ?_
 refine nor_then ?_
 exact ⟨s32, s33, s34, s35, p29, c30, l31, p36, c37, l38, (hf.cons rfl (hf.cons rfl (hf.cons rfl hf.nil))), hO, hm⟩
 exact ⟨none, 0, [], s22, s23, s24, s25, none, 0, [], 0, (hf.cons rfl (hf.cons rfl (hf.cons rfl (hf.cons rfl hf.nil)))), hO, hm⟩
 rintro a w ⟨s54, s55, s56, s57, p58, c59, l60, p61, c62, l63, hf, hO, hm⟩
 rw [law26_Few_j5] at hm
 refine wp_seq_cut (fun a w => ∃ (s90 : Str) (s91 : Str) (s92 : Str) (s93 : Str) (p94 : Option Addr) (c95 : Nat) (l96 : List api_Swap) (p97 : Option Addr) (c98 : Nat) (l99 : List api_Swap), Fits 86 [(2, ptr b2 0), (5, ptr b26 0)] a ∧ Dk.Own w0 [] w [.row (.slice p97 l99.length c98) 56 2 l99.length (cells enc_api_Swap l99), .row (.slice p94 l96.length c95) 56 2 l96.length (cells enc_api_Swap l96), .row (.slice none 0 0) 56 2 0 (cells enc_api_Swap []), .row (.slice none 0 0) 56 2 0 (cells enc_api_Swap []), .blk b26 [str s90, str s91, str s92, str s93, .slice p94 l96.length c95, .slice p97 l99.length c98] 41, .blk b4 [str s22, str s23, str s24, str s25] 70, .row (.slice none 0 0) 56 2 0 (cells enc_api_Swap []), .row (.slice none 0 0) 56 2 0 (cells enc_api_Swap []), .blk b2 [str [], str [], str [], str [], .slice none 0 0, .slice none 0 0] 41, .blk b1 [str x_a0.Client, str x_a0.Host, str x_a0.Scheme, str x_a0.By, .slice x_a0_p0 x_a0.Domains.length x_a0_c0, .slice x_a0_p1 x_a0.Locations.length x_a0_c1] 41, .shr x_a0_p1 (cells enc_api_Swap x_a0.Locations), .shr x_a0_p0 (cells enc_api_Swap x_a0.Domains)] ∧ law26_Few_j8 s90 s91 s92 s93 l96 l99 = some R) ?_ ?_
 refine wp_seq_k fun _ hK64 => ?_
 refine wp_region_list ?_
 refine op_as hf rfl rfl fun a hf => ?_
 refine wpList_nil ?_
 refine nor_then (hK64 _ _ ?_)
 refine wp_block ?_
 refine wp_loop_n (fun k a w => ∃ (p65 : Option Addr) (c66 : Nat) (l67 : List api_Swap) (s68 : Str) (s69 : Str) (s70 : Str) (s71 : Str) (p72 : Option Addr) (c73 : Nat) (l74 : List api_Swap) (i75 : Int), Fits 86 [(1, ptr b1 0), (2, ptr b2 0), (5, ptr b26 0), (7, int i75)] a ∧ Dk.Own w0 [] w [.row (.slice p65 l67.length c66) 56 2 l67.length (cells enc_api_Swap l67), .row (.slice p72 l74.length c73) 56 2 l74.length (cells enc_api_Swap l74), .row (.slice none 0 0) 56 2 0 (cells enc_api_Swap []), .row (.slice none 0 0) 56 2 0 (cells enc_api_Swap []), .blk b26 [str s68, str s69, str s70, str s71, .slice p72 l74.length c73, .slice p65 l67.length c66] 41, .blk b4 [str s22, str s23, str s24, str s25] 70, .row (.slice none 0 0) 56 2 0 (cells enc_api_Swap []), .row (.slice none 0 0) 56 2 0 (cells enc_api_Swap []), .blk b2 [str [], str [], str [], str [], .slice none 0 0, .slice none 0 0] 41, .blk b1 [str x_a0.Client, str x_a0.Host, str x_a0.Scheme, str x_a0.By, .slice x_a0_p0 x_a0.Domains.length x_a0_c0, .slice x_a0_p1 x_a0.Locations.length x_a0_c1] 41, .shr x_a0_p1 (cells enc_api_Swap x_a0.Locations), .shr x_a0_p0 (cells enc_api_Swap x_a0.Domains)] ∧ law26_Few_L6 x_a0 k l67 s68 s69 s70 s71 l74 i75 = some R) ?_ fuel ?_
 rintro n6 a w ⟨p65, c66, l67, s68, s69, s70, s71, p72, c73, l74, i75, hf, hO, hm⟩
 obtain _ | n6 := n6
 rw [law26_Few_L6] at hm
 cases hm
 rw [law26_Few_L6] at hm
 refine wp_seq_k fun _ hK79 => ?_
 refine wp_seq_cut (fun a w => ∃ (t77 : Bool), Fits 86 [(1, ptr b1 0), (2, ptr b2 0), (5, ptr b26 0), (7, int i75), (71, .bool t77)] a ∧ Dk.Own w0 [] w [.row (.slice p65 l67.length c66) 56 2 l67.length (cells enc_api_Swap l67), .row (.slice p72 l74.length c73) 56 2 l74.length (cells enc_api_Swap l74), .row (.slice none 0 0) 56 2 0 (cells enc_api_Swap []), .row (.slice none 0 0) 56 2 0 (cells enc_api_Swap []), .blk b26 [str s68, str s69, str s70, str s71, .slice p72 l74.length c73, .slice p65 l67.length c66] 41, .blk b4 [str s22, str s23, str s24, str s25] 70, .row (.slice none 0 0) 56 2 0 (cells enc_api_Swap []), .row (.slice none 0 0) 56 2 0 (cells enc_api_Swap []), .blk b2 [str [], str [], str [], str [], .slice none 0 0, .slice none 0 0] 41, .blk b1 [str x_a0.Client, str x_a0.Host, str x_a0.Scheme, str x_a0.By, .slice x_a0_p0 x_a0.Domains.length x_a0_c0, .slice x_a0_p1 x_a0.Locations.length x_a0_c1] 41, .shr x_a0_p1 (cells enc_api_Swap x_a0.Locations), .shr x_a0_p0 (cells enc_api_Swap x_a0.Domains)] ∧ law26_Few_j7 (law26_Few_L6 x_a0 n6) x_a0 l67 s68 s69 s70 s71 l74 i75 t77 = some R) ?_ ?_
 refine wp_region_list ?_
 refine op_mv hf rfl rfl fun a hf => ?_
 refine op_val (ex_field fa_41_5 hf rfl) rfl hf rfl rfl fun a hf => ?_
 refine op_val (ex_load1 (o := 5) ag_22 (hO.blkSees (i := 9) rfl) rfl hf rfl) rfl hf rfl rfl fun a hf => ?_
 refine op_val (ex_len_l Tryz.underlying22 hf rfl) rfl hf rfl rfl fun a hf => ?_
 refine op_val (ex_lss (m := i75) (n := (x_a0.Locations.length : Int)) hf rfl rfl) rfl hf rfl rfl fun a hf => ?_
 refine op_mv hf rfl rfl fun a hf => ?_
 rcases bcase (decide (i75 < (x_a0.Locations.length : Int))) with hc76 | hc76
 have hm := it hc76 hm
 refine op_guard rfl hf rfl rfl (hc76) ?_
 refine op_mv hf rfl rfl fun a hf => ?_
 refine op_guard rfl hf rfl rfl (hc76) ?_
 refine op_val (ex_lss (m := i75) (n := 6) hf rfl rfl) rfl hf rfl rfl fun a hf => ?_
 refine op_val (ex_pick_t hf rfl hc76 rfl) rfl hf rfl rfl fun a hf => ?_
 refine wpList_nil ?_
 refine nor_then ?_
 exact ⟨decide (i75 < 6), (hf.cons rfl (hf.cons rfl (hf.cons rfl (hf.cons rfl (hf.cons rfl hf.nil))))), hO, hm⟩
 have hm := ie hc76 hm
 refine op_pass rfl hf rfl rfl (hc76) rfl rfl fun a hf => ?_
 refine op_pass rfl hf rfl rfl (hc76) rfl rfl fun a hf => ?_
 refine op_val (ex_pick_f hf rfl hc76 rfl) rfl hf rfl rfl fun a hf => ?_
 refine wpList_nil ?_
 refine nor_then ?_
 exact ⟨false, (hf.cons rfl (hf.cons rfl (hf.cons rfl (hf.cons rfl (hf.cons rfl hf.nil))))), hO, hm⟩
 rintro a w ⟨t77, hf, hO, hm⟩
 rw [law26_Few_j7] at hm
 refine wp_cond_cut hf rfl (fun hc78 => ?_) (fun hc78 => ?_)
 have hm := it hc78 hm
 refine wp_skip ?_
 refine nor_then (hK79 _ _ ?_)
 refine wp_seq_k fun _ hK88 => ?_
 refine wp_block ?_
 obtain ⟨x80, hx80, hm⟩ := ob hm
 obtain ⟨b81, o82, hix80, hSx80⟩ := elemAt (enc := enc_api_Swap) (sz := 2) (xs := x_a0.Locations) 22 Tryz.underlying22 sz_56 (by decide) (fun _ => rfl) (hO.sees (i := 10) rfl) hx80
 obtain ⟨r83, hr83, hm⟩ := ob hm
 obtain ⟨hg87, hm⟩ := og hm
 refine wp_drawS' (S := Nat × Option Addr × Nat) (E0 := [(1, ptr b1 0), (2, ptr b2 0), (5, ptr b26 0), (7, int i75)]) (by kernel_rfl) (fun k σ w => match k with | 0 => Dk.Own w0 [] w [.row (.slice p65 l67.length c66) 56 2 l67.length (cells enc_api_Swap l67), .row (.slice p72 l74.length c73) 56 2 l74.length (cells enc_api_Swap l74), .row (.slice none 0 0) 56 2 0 (cells enc_api_Swap []), .row (.slice none 0 0) 56 2 0 (cells enc_api_Swap []), .blk b26 [str s68, str s69, str s70, str s71, .slice p72 l74.length c73, .slice p65 l67.length c66] 41, .blk b4 [str s22, str s23, str s24, str s25] 70, .row (.slice none 0 0) 56 2 0 (cells enc_api_Swap []), .row (.slice none 0 0) 56 2 0 (cells enc_api_Swap []), .blk b2 [str [], str [], str [], str [], .slice none 0 0, .slice none 0 0] 41, .blk b1 [str x_a0.Client, str x_a0.Host, str x_a0.Scheme, str x_a0.By, .slice x_a0_p0 x_a0.Domains.length x_a0_c0, .slice x_a0_p1 x_a0.Locations.length x_a0_c1] 41, .shr x_a0_p1 (cells enc_api_Swap x_a0.Locations), .shr x_a0_p0 (cells enc_api_Swap x_a0.Domains)] | 1 => Dk.Own w0 [] w [.row (.slice p65 l67.length c66) 56 2 l67.length (cells enc_api_Swap l67), .row (.slice p72 l74.length c73) 56 2 l74.length (cells enc_api_Swap l74), .row (.slice none 0 0) 56 2 0 (cells enc_api_Swap []), .row (.slice none 0 0) 56 2 0 (cells enc_api_Swap []), .blk b26 [str s68, str s69, str s70, str s71, .slice p72 l74.length c73, .slice p65 l67.length c66] 41, .blk b4 [str s22, str s23, str s24, str s25] 70, .row (.slice none 0 0) 56 2 0 (cells enc_api_Swap []), .row (.slice none 0 0) 56 2 0 (cells enc_api_Swap []), .blk b2 [str [], str [], str [], str [], .slice none 0 0, .slice none 0 0] 41, .blk b1 [str x_a0.Client, str x_a0.Host, str x_a0.Scheme, str x_a0.By, .slice x_a0_p0 x_a0.Domains.length x_a0_c0, .slice x_a0_p1 x_a0.Locations.length x_a0_c1] 41, .shr x_a0_p1 (cells enc_api_Swap x_a0.Locations), .shr x_a0_p0 (cells enc_api_Swap x_a0.Domains)] | 2 => Dk.Own w0 [] w [.row (.slice (some ⟨(σ.1), 0, none⟩) ([r83].length) 1) 56 2 ([r83].length) (cells enc_api_Swap [r83]), .row (.slice p65 l67.length c66) 56 2 l67.length (cells enc_api_Swap l67), .row (.slice p72 l74.length c73) 56 2 l74.length (cells enc_api_Swap l74), .row (.slice none 0 0) 56 2 0 (cells enc_api_Swap []), .row (.slice none 0 0) 56 2 0 (cells enc_api_Swap []), .blk b26 [str s68, str s69, str s70, str s71, .slice p72 l74.length c73, .slice p65 l67.length c66] 41, .blk b4 [str s22, str s23, str s24, str s25] 70, .row (.slice none 0 0) 56 2 0 (cells enc_api_Swap []), .row (.slice none 0 0) 56 2 0 (cells enc_api_Swap []), .blk b2 [str [], str [], str [], str [], .slice none 0 0, .slice none 0 0] 41, .blk b1 [str x_a0.Client, str x_a0.Host, str x_a0.Scheme, str x_a0.By, .slice x_a0_p0 x_a0.Domains.length x_a0_c0, .slice x_a0_p1 x_a0.Locations.length x_a0_c1] 41, .shr x_a0_p1 (cells enc_api_Swap x_a0.Locations), .shr x_a0_p0 (cells enc_api_Swap x_a0.Domains)] | 3 => Dk.Own w0 [] w [.row (.slice (some ⟨(σ.1), 0, none⟩) ([r83].length) 1) 56 2 ([r83].length) (cells enc_api_Swap [r83]), .row (.slice (σ.2.1) ((l67 ++ [r83]).length) (σ.2.2)) 56 2 ((l67 ++ [r83]).length) (cells enc_api_Swap (l67 ++ [r83])), .row (.slice p72 l74.length c73) 56 2 l74.length (cells enc_api_Swap l74), .row (.slice none 0 0) 56 2 0 (cells enc_api_Swap []), .row (.slice none 0 0) 56 2 0 (cells enc_api_Swap []), .blk b26 [str s68, str s69, str s70, str s71, .slice p72 l74.length c73, .slice p65 l67.length c66] 41, .blk b4 [str s22, str s23, str s24, str s25] 70, .row (.slice none 0 0) 56 2 0 (cells enc_api_Swap []), .row (.slice none 0 0) 56 2 0 (cells enc_api_Swap []), .blk b2 [str [], str [], str [], str [], .slice none 0 0, .slice none 0 0] 41, .blk b1 [str x_a0.Client, str x_a0.Host, str x_a0.Scheme, str x_a0.By, .slice x_a0_p0 x_a0.Domains.length x_a0_c0, .slice x_a0_p1 x_a0.Locations.length x_a0_c1] 41, .shr x_a0_p1 (cells enc_api_Swap x_a0.Locations), .shr x_a0_p0 (cells enc_api_Swap x_a0.Domains)] | _ => Dk.Own w0 [] w [.row (.slice (some ⟨(σ.1), 0, none⟩) ([r83].length) 1) 56 2 ([r83].length) (cells enc_api_Swap [r83]), .row (.slice (σ.2.1) ((l67 ++ [r83]).length) (σ.2.2)) 56 2 ((l67 ++ [r83]).length) (cells enc_api_Swap (l67 ++ [r83])), .row (.slice p72 l74.length c73) 56 2 l74.length (cells enc_api_Swap l74), .row (.slice none 0 0) 56 2 0 (cells enc_api_Swap []), .row (.slice none 0 0) 56 2 0 (cells enc_api_Swap []), .blk b26 [str s68, str s69, str s70, str s71, .slice p72 l74.length c73, .slice (σ.2.1) ((l67 ++ [r83]).length) (σ.2.2)] 41, .blk b4 [str s22, str s23, str s24, str s25] 70, .row (.slice none 0 0) 56 2 0 (cells enc_api_Swap []), .row (.slice none 0 0) 56 2 0 (cells enc_api_Swap []), .blk b2 [str [], str [], str [], str [], .slice none 0 0, .slice none 0 0] 41, .blk b1 [str x_a0.Client, str x_a0.Host, str x_a0.Scheme, str x_a0.By, .slice x_a0_p0 x_a0.Domains.length x_a0_c0, .slice x_a0_p1 x_a0.Locations.length x_a0_c1] 41, .shr x_a0_p1 (cells enc_api_Swap x_a0.Locations), .shr x_a0_p0 (cells enc_api_Swap x_a0.Domains)]) (fun σ => [⟨[(5, ptr b26 0)], some (74, ptr b26 5)⟩, ⟨[(74, ptr b26 5)], some (75, .slice p65 l67.length c66)⟩, ⟨[(1, ptr b1 0)], some (76, ptr b1 5)⟩, ⟨[(76, ptr b1 5)], some (77, .slice x_a0_p1 x_a0.Locations.length x_a0_c1)⟩, ⟨[(7, int i75)], some (78, int i75)⟩, ⟨[(77, .slice x_a0_p1 x_a0.Locations.length x_a0_c1), (78, int i75)], some (79, ptr b81 o82)⟩, ⟨[(79, ptr b81 o82)], some (80, .agg #[str x80.From, str x80.To])⟩, ⟨[(80, .agg #[str x80.From, str x80.To])], some (81, .agg #[str r83.From, str r83.To])⟩, ⟨[(81, .agg #[str r83.From, str r83.To])], some (82, .slice (some ⟨(σ.1), 0, none⟩) ([r83].length) 1)⟩, ⟨[(75, .slice p65 l67.length c66), (82, .slice (some ⟨(σ.1), 0, none⟩) ([r83].length) 1)], some (83, .slice (σ.2.1) ((l67 ++ [r83]).length) (σ.2.2))⟩, ⟨[(5, ptr b26 0)], some (84, ptr b26 5)⟩, ⟨[(83, .slice (σ.2.1) ((l67 ++ [r83]).length) (σ.2.2)), (84, ptr b26 5)], none⟩]) (0, none, 0) [7, 8, 9, 11] rfl (fun _ => rfl) (fun _ => rfl) (fun _ => rfl) rfl rfl (by decide) rfl hO.drew (hf.cons rfl (hf.cons rfl (hf.cons rfl (hf.cons rfl hf.nil)))) (fun σ => ⟨⟨rfl, trivial⟩, ⟨rfl, trivial⟩, ⟨rfl, trivial⟩, ⟨rfl, trivial⟩, ⟨rfl, trivial⟩, ⟨rfl, rfl, trivial⟩, ⟨rfl, trivial⟩, ⟨rfl, trivial⟩, ⟨rfl, trivial⟩, ⟨rfl, rfl, trivial⟩, ⟨rfl, trivial⟩, ⟨rfl, rfl, trivial⟩, trivial⟩) ⟨sS_pure rfl (fun σ => rfl) (fun σ => rfl) (fun σ a w k _ _ _ _ hf => ex_field fa_41_5 hf rfl), sS_pure rfl (fun σ => rfl) (fun σ => rfl) (fun σ a w k hk hlo hup hst hf => match k, hk, hlo, hup, hst, hf with | 0, _, _, _, hst, hf => have hO : Dk.Own w0 [] w _ := hst; ex_load1 (o := 5) ag_22 (hO.blkSees (i := 4) rfl) rfl hf rfl | 1, _, _, _, hst, hf => have hO : Dk.Own w0 [] w _ := hst; ex_load1 (o := 5) ag_22 (hO.blkSees (i := 4) rfl) rfl hf rfl | 2, _, _, _, hst, hf => have hO : Dk.Own w0 [] w _ := hst; ex_load1 (o := 5) ag_22 (hO.blkSees (i := 5) rfl) rfl hf rfl | 3, _, _, _, hst, hf => have hO : Dk.Own w0 [] w _ := hst; ex_load1 (o := 5) ag_22 (hO.blkSees (i := 5) rfl) rfl hf rfl | 4, _, _, hup, _, _ => absurd (hup 2 (by decide) (by kernel_rfl)) (by decide) | k + 5, hk, _, _, _, _ => absurd hk (by simp)), sS_pure rfl (fun σ => rfl) (fun σ => rfl) (fun σ a w k _ _ _ _ hf => ex_field fa_41_5 hf rfl), sS_pure rfl (fun σ => rfl) (fun σ => rfl) (fun σ a w k hk hlo hup hst hf => match k, hk, hlo, hup, hst, hf with | 0, _, _, _, hst, hf => have hO : Dk.Own w0 [] w _ := hst; ex_load1 (o := 5) ag_22 (hO.blkSees (i := 9) rfl) rfl hf rfl | 1, _, _, _, hst, hf => have hO : Dk.Own w0 [] w _ := hst; ex_load1 (o := 5) ag_22 (hO.blkSees (i := 9) rfl) rfl hf rfl | 2, _, _, _, hst, hf => have hO : Dk.Own w0 [] w _ := hst; ex_load1 (o := 5) ag_22 (hO.blkSees (i := 10) rfl) rfl hf rfl | 3, _, _, _, hst, hf => have hO : Dk.Own w0 [] w _ := hst; ex_load1 (o := 5) ag_22 (hO.blkSees (i := 10) rfl) rfl hf rfl | 4, _, _, _, hst, hf => have hO : Dk.Own w0 [] w _ := hst; ex_load1 (o := 5) ag_22 (hO.blkSees (i := 10) rfl) rfl hf rfl | k + 5, hk, _, _, _, _ => absurd hk (by simp)), sS_pure rfl (fun σ => rfl) (fun σ => rfl) (fun σ a w k _ _ _ _ hf => ex_move hf rfl), sS_pure rfl (fun σ => rfl) (fun σ => rfl) (fun σ a w k _ _ _ _ hf => ex_indexAddr hix80 hf rfl rfl), sS_pure rfl (fun σ => rfl) (fun σ => rfl) (fun σ a w k hk hlo hup hst hf => match k, hk, hlo, hup, hst, hf with | 0, _, _, _, hst, hf => have hO : Dk.Own w0 [] w _ := hst; ex_loadN (o := 0) (vs := [str x80.From, str x80.To]) ag_56 sz_56 (hSx80 _ (hO.sees (i := 10) rfl)) rfl rfl hf rfl | 1, _, _, _, hst, hf => have hO : Dk.Own w0 [] w _ := hst; ex_loadN (o := 0) (vs := [str x80.From, str x80.To]) ag_56 sz_56 (hSx80 _ (hO.sees (i := 10) rfl)) rfl rfl hf rfl | 2, _, _, _, hst, hf => have hO : Dk.Own w0 [] w _ := hst; ex_loadN (o := 0) (vs := [str x80.From, str x80.To]) ag_56 sz_56 (hSx80 _ (hO.sees (i := 11) rfl)) rfl rfl hf rfl | 3, _, _, _, hst, hf => have hO : Dk.Own w0 [] w _ := hst; ex_loadN (o := 0) (vs := [str x80.From, str x80.To]) ag_56 sz_56 (hSx80 _ (hO.sees (i := 11) rfl)) rfl rfl hf rfl | 4, _, _, _, hst, hf => have hO : Dk.Own w0 [] w _ := hst; ex_loadN (o := 0) (vs := [str x80.From, str x80.To]) ag_56 sz_56 (hSx80 _ (hO.sees (i := 11) rfl)) rfl rfl hf rfl | k + 5, hk, _, _, _, _ => absurd hk (by simp)), sS_call rfl (fun σ => rfl) (fun σ => rfl) rfl (fun σ a w (_ : _) hf => ex_call c_38 hf (vs := [.agg #[str x80.From, str x80.To]]) rfl) (fun σ w (hO : Dk.Own w0 [] w _) => (w_law26_swap x80 r83 _ (hG.own hF hO) hr83).mono fun e w' h => by obtain ⟨he, hb⟩ := h; exact ⟨((σ.1), (σ.2.1), (σ.2.2)), he, hO.grow hb, .inr rfl, .inr rfl, .inr rfl, .inr rfl, .inr rfl, .inr rfl, .inr rfl, .inr rfl, .inr rfl, .inr rfl, .inr rfl, .inr rfl, trivial⟩), sS_val rfl (fun σ => rfl) (fun σ => rfl) rfl (fun σ w (hO : Dk.Own w0 [] w _) => by obtain ⟨b84, w', hO', hr⟩ := ef_buildSlice (E := [(81, .agg #[str r83.From, str r83.To])]) (parts := #[(0, (.tmp 81))]) (t' := 22) (n := 1) (vs := [(0, .agg #[str r83.From, str r83.To])]) (cs := [str r83.From, str r83.To]) (e := 56) (sz := 2) (fun w => by kernel_rfl) rfl rfl hO rfl; exact ⟨(b84, (σ.2.1), (σ.2.2)), w', hO', ⟨.inr rfl, .inr rfl, .inr rfl, .inr rfl, .inr rfl, .inr rfl, .inr rfl, .inr rfl, .inl rfl, .inl rfl, .inr rfl, .inr rfl, trivial⟩, hr⟩), sS_val rfl (fun σ => rfl) (fun σ => rfl) rfl (fun σ w (hO : Dk.Own w0 [] w _) => by obtain ⟨p85, c86, w', hO', hr⟩ := ef_append (E := [(75, .slice p65 l67.length c66), (82, .slice (some ⟨(σ.1), 0, none⟩) ([r83].length) 1)]) (x := (.tmp 75)) (y := (.tmp 82)) el_22 (enc := enc_api_Swap) (xs := l67) (ys := [r83]) (i := 1) (fun _ => rfl) rfl (hO.rowSees (i := 0) rfl) (by simp [cells, enc_api_Swap, Value.oneCell']) hg87 hO rfl rfl; exact ⟨((σ.1), p85, c86), w', hO', ⟨.inr rfl, .inr rfl, .inr rfl, .inr rfl, .inr rfl, .inr rfl, .inr rfl, .inr rfl, .inr rfl, .inl rfl, .inr rfl, .inl rfl, trivial⟩, hr⟩), sS_pure rfl (fun σ => rfl) (fun σ => rfl) (fun σ a w k _ _ _ _ hf => ex_field fa_41_5 hf rfl), sS_skip rfl (fun σ => rfl) (fun σ => rfl) rfl (fun σ w (hO : Dk.Own w0 [] w _) => by obtain ⟨w', hO', hr⟩ := ef_store1 (x := (.tmp 84)) (y := (.tmp 83)) (E := [(83, .slice (σ.2.1) ((l67 ++ [r83]).length) (σ.2.2)), (84, ptr b26 5)]) (i := 5) (o := 5) (v := .slice (σ.2.1) ((l67 ++ [r83]).length) (σ.2.2)) sz_22 rfl rfl rfl rfl hO rfl rfl; exact ⟨((σ.1), (σ.2.1), (σ.2.2)), w', hO', ⟨.inr rfl, .inr rfl, .inr rfl, .inr rfl, .inr rfl, .inr rfl, .inr rfl, .inr rfl, .inr rfl, .inr rfl, .inr rfl, .inr rfl, trivial⟩, hr⟩), trivial⟩ ?_
 rintro ⟨b84, p85, c86⟩ a w hf hO
 have hO : Dk.Own w0 [] w _ := hO
 have hf : Fits 86 [(1, ptr b1 0), (2, ptr b2 0), (5, ptr b26 0), (7, int i75)] a := (hf.cons rfl (hf.cons rfl (hf.cons rfl (hf.cons rfl hf.nil))))
 refine nor_block ?_
 refine nor_then (hK88 _ _ ?_)
 refine wp_region_list ?_
 refine op_mv hf rfl rfl fun a hf => ?_
 obtain ⟨i89, hi89, hm⟩ := ob hm
 refine op_val (ex_add hf rfl rfl hi89) rfl hf rfl rfl fun a hf => ?_
 refine op_as hf rfl rfl fun a hf => ?_
 refine wpList_nil ?_
 refine nor_then ?_
 exact ⟨_, Nat.lt_succ_self _, p85, c86, l67 ++ [r83], s68, s69, s70, s71, p72, c73, l74, i89, (hf.cons rfl (hf.cons rfl (hf.cons rfl (hf.cons rfl hf.nil)))), (hO.sub (.cons _ (.cons_cons _ (.cons_cons _ (.cons_cons _ (.cons_cons _ (.cons_cons _ (.cons_cons _ (.cons_cons _ (.cons_cons _ (.cons_cons _ (.cons_cons _ (.cons_cons _ (.cons_cons _ .slnil)))))))))))))), hm⟩
 have hm := ie hc78 hm
 refine wp_exit ?_
 refine exit_then ?_
 refine exit_then ?_
 refine exit_here ?_
 refine nor_then ?_
 exact ⟨s68, s69, s70, s71, p72, c73, l74, p65, c66, l67, (hf.cons rfl (hf.cons rfl hf.nil)), hO, hm⟩
 exact ⟨p61, c62, l63, s54, s55, s56, s57, p58, c59, l60, 0, (hf.cons rfl (hf.cons rfl (hf.cons rfl (hf.cons rfl hf.nil)))), hO, hm⟩
 rintro a w ⟨s90, s91, s92, s93, p94, c95, l96, p97, c98, l99, hf, hO, hm⟩
 rw [law26_Few_j8] at hm
 refine wp_seq_k fun _ hK100 => ?_
 refine wp_region_list ?_
 refine op_val (ex_loadN (o := 0) (vs := [str s90, str s91, str s92, str s93, .slice p94 l96.length c95, .slice p97 l99.length c98]) ag_41 sz_41 (hO.blkSees (i := 4) rfl) rfl rfl hf rfl) rfl hf rfl rfl fun a hf => ?_
 refine op_storeN (i := 8) (n := 6) sz_41 rfl rfl rfl (by simp [Value.oneCell']) hf rfl rfl hO fun w hO => ?_
 refine wpList_nil ?_
 refine nor_then (hK100 _ _ ?_)
 refine wp_ret ?_
 obtain rfl := Option.some.inj hm
 exact post_ret Tryz.results17 hf (.cell rfl (run_loadVarN (n := 6) (vs := [str s90, str s91, str s92, str s93, .slice p94 l96.length c95, .slice p97 l99.length c98]) ag_41 sz_41 rfl ((hO.blkSees (i := 8) rfl).cells (o := 0) (n := 6) rfl)) .nil) ⟨p94, c95, p97, c98, rfl, (hO.choose [1, 0] rfl)⟩

end Go.Proofs
