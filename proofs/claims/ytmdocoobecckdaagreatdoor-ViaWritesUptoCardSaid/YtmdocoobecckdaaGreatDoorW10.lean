/-
  Walks, written by a program (wip/gen): what its model says, the function returns; what was there before is as it was.
-/
import Derived.Test.YtmdocoobecckdaaGreatDoorLib
import Derived.Test.YtmdocoobecckdaaGreatDoorW2
import Derived.Test.YtmdocoobecckdaaGreatDoorW3
import Derived.Test.YtmdocoobecckdaaGreatDoorW8
import Derived.Test.YtmdocoobecckdaaGreatDoorW9
set_option linter.unusedVariables false
set_option linter.unusedSimpArgs false
set_option maxRecDepth 100000
namespace Go.Proofs
open Go.Dk Go.Dm Go.RowKit

set_option maxHeartbeats 1000000 in
theorem w_via_Text (x_v : api_Via) (R : Str × Int) (w0 : World) (hG : GlobT w0) (hm : via_Text x_v = some R) :
    Calls Tryz.prog 23 #[.agg #[str x_v.Proto, str x_v.Version, str x_v.By, str x_v.Comment]] w0 fun e w' => e = .returned (.tuple #[str R.1, int R.2]) ∧ Below w0.heap.size w0 w' := by
 rw [via_Text] at hm
 refine calls_enter (vs := [.agg #[str x_v.Proto, str x_v.Version, str x_v.By, str x_v.Comment]]) Tryz.func23 rfl Tryz.ntmps23 rfl fun a hf => ?_
 have hF : Away [] := away_nil
 have hO : Dk.Own w0 [] w0 [] := Dk.Own.refl w0
 refine wp_seq_k fun _ hK2 => ?_
 refine wp_region_list ?_
 refine op_box (v := .agg #[str x_v.Proto, str x_v.Version, str x_v.By, str x_v.Comment]) (cs := [str x_v.Proto, str x_v.Version, str x_v.By, str x_v.Comment]) rfl hf rfl rfl hO fun a b1 w hf hO => ?_
 refine op_as hf rfl rfl fun a hf => ?_
 refine op_as hf rfl rfl fun a hf => ?_
 refine wpList_nil ?_
 refine nor_then (hK2 _ _ ?_)
 refine wp_seq_k fun _ hK4 => ?_
 refine wp_region_list ?_
 refine op_val (ex_field fa_40_1 hf rfl) rfl hf rfl rfl fun a hf => ?_
 refine op_val (ex_load1 (o := 1) ag_9 (hO.blkSees (i := 0) rfl) rfl hf rfl) rfl hf rfl rfl fun a hf => ?_
 refine op_val (ex_field fa_40_2 hf rfl) rfl hf rfl rfl fun a hf => ?_
 refine op_val (ex_load1 (o := 2) ag_9 (hO.blkSees (i := 0) rfl) rfl hf rfl) rfl hf rfl rfl fun a hf => ?_
 refine op_buildSlice (vs := [(0, str x_v.Version), (1, str [32]), (2, str x_v.By)]) (cs := [str x_v.Version, str [32], str x_v.By]) (e := 9) (sz := 1) hf rfl rfl (fun w => by kernel_rfl) rfl rfl hO fun a b3 w hf hO => ?_
 refine op_as hf rfl rfl fun a hf => ?_
 refine wpList_nil ?_
 refine nor_then (hK4 _ _ ?_)
 refine wp_seq_cut (fun a w => ∃ (p11 : Option Addr) (c12 : Nat) (l13 : List Str), Fits 44 [(1, ptr b1 0), (4, .slice p11 l13.length c12)] a ∧ Dk.Own w0 [] w [.blk b1 [str x_v.Proto, str x_v.Version, str x_v.By, str x_v.Comment] 40, .row (.slice p11 l13.length c12) 9 1 l13.length (cells enc_str l13)] ∧ via_Text_j1 x_v l13 = some R) ?_ ?_
 refine wp_seq_k fun _ hK5 => ?_
 refine wp_region_list ?_
 refine op_val (ex_field fa_40_0 hf rfl) rfl hf rfl rfl fun a hf => ?_
 refine op_val (ex_load1 (o := 0) ag_9 (hO.blkSees (i := 1) rfl) rfl hf rfl) rfl hf rfl rfl fun a hf => ?_
 refine op_val (ex_neq_s (l := x_v.Proto) (m := []) hf rfl rfl) rfl hf rfl rfl fun a hf => ?_
 refine wpList_nil ?_
 refine nor_then (hK5 _ _ ?_)
 refine wp_cond_cut hf rfl (fun hc6 => ?_) (fun hc6 => ?_)
 have hm := it hc6 hm
 refine wp_region_list ?_
 refine op_val (ex_field fa_40_0 hf rfl) rfl hf rfl rfl fun a hf => ?_
 refine op_val (ex_load1 (o := 0) ag_9 (hO.blkSees (i := 1) rfl) rfl hf rfl) rfl hf rfl rfl fun a hf => ?_
 refine op_buildSlice (vs := [(0, str x_v.Proto), (1, str [47])]) (cs := [str x_v.Proto, str [47]]) (e := 9) (sz := 1) hf rfl rfl (fun w => by kernel_rfl) rfl rfl hO fun a b7 w hf hO => ?_
 refine op_mv hf rfl rfl fun a hf => ?_
 obtain ⟨hg10, hm⟩ := og hm
 refine op_appendT el_50 (enc := enc_str) (xs := ([x_v.Proto, [47]] : List Str)) (ys := ([x_v.Version, [32], x_v.By] : List Str)) (i := 0) (fun _ => rfl) rfl (hO.rowSees (i := 1) rfl) (by simp [cells, enc_str, Value.oneCell']) hg10 hf rfl rfl rfl hO fun a p8 c9 w hf hO => ?_
 refine op_as hf rfl rfl fun a hf => ?_
 refine wpList_nil ?_
 refine nor_then ?_
 exact ⟨p8, c9, ([x_v.Proto, [47]] : List Str) ++ ([x_v.Version, [32], x_v.By] : List Str), (hf.cons rfl (hf.cons rfl hf.nil)), (hO.choose [2, 0] rfl), hm⟩
 have hm := ie hc6 hm
 refine wp_skip ?_
 refine nor_then ?_
 exact ⟨some ⟨b3, 0, none⟩, 3, ([x_v.Version, [32], x_v.By] : List Str), (hf.cons rfl (hf.cons rfl hf.nil)), (hO.choose [1, 0] rfl), hm⟩
 rintro a w ⟨p11, c12, l13, hf, hO, hm⟩
 rw [via_Text_j1] at hm
 refine wp_seq_cut (fun a w => ∃ (p20 : Option Addr) (c21 : Nat) (l22 : List Str), Fits 44 [(1, ptr b1 0), (4, .slice p20 l22.length c21)] a ∧ Dk.Own w0 [] w [.blk b1 [str x_v.Proto, str x_v.Version, str x_v.By, str x_v.Comment] 40, .row (.slice p20 l22.length c21) 9 1 l22.length (cells enc_str l22)] ∧ via_Text_j2 x_v l22 = some R) ?_ ?_
 refine wp_seq_k fun _ hK14 => ?_
 refine wp_region_list ?_
 refine op_val (ex_field fa_40_3 hf rfl) rfl hf rfl rfl fun a hf => ?_
 refine op_val (ex_load1 (o := 3) ag_9 (hO.blkSees (i := 0) rfl) rfl hf rfl) rfl hf rfl rfl fun a hf => ?_
 refine op_val (ex_neq_s (l := x_v.Comment) (m := []) hf rfl rfl) rfl hf rfl rfl fun a hf => ?_
 refine wpList_nil ?_
 refine nor_then (hK14 _ _ ?_)
 refine wp_cond_cut hf rfl (fun hc15 => ?_) (fun hc15 => ?_)
 have hm := it hc15 hm
 refine wp_region_list ?_
 refine op_mv hf rfl rfl fun a hf => ?_
 refine op_val (ex_field fa_40_3 hf rfl) rfl hf rfl rfl fun a hf => ?_
 refine op_val (ex_load1 (o := 3) ag_9 (hO.blkSees (i := 0) rfl) rfl hf rfl) rfl hf rfl rfl fun a hf => ?_
 refine op_buildSlice (vs := [(0, str [32, 40]), (1, str x_v.Comment), (2, str [41])]) (cs := [str [32, 40], str x_v.Comment, str [41]]) (e := 9) (sz := 1) hf rfl rfl (fun w => by kernel_rfl) rfl rfl hO fun a b16 w hf hO => ?_
 obtain ⟨hg19, hm⟩ := og hm
 refine op_appendT el_50 (enc := enc_str) (xs := l13) (ys := ([[32, 40], x_v.Comment, [41]] : List Str)) (i := 2) (fun _ => rfl) rfl (hO.rowSees (i := 0) rfl) (by simp [cells, enc_str, Value.oneCell']) hg19 hf rfl rfl rfl hO fun a p17 c18 w hf hO => ?_
 refine op_as hf rfl rfl fun a hf => ?_
 refine wpList_nil ?_
 refine nor_then ?_
 exact ⟨p17, c18, l13 ++ ([[32, 40], x_v.Comment, [41]] : List Str), (hf.cons rfl (hf.cons rfl hf.nil)), (hO.sub (.cons _ (.cons_cons _ (.cons_cons _ .slnil)))), hm⟩
 have hm := ie hc15 hm
 refine wp_skip ?_
 refine nor_then ?_
 exact ⟨p11, c12, l13, (hf.cons rfl (hf.cons rfl hf.nil)), hO, hm⟩
 rintro a w ⟨p20, c21, l22, hf, hO, hm⟩
 rw [via_Text_j2] at hm
 refine wp_seq_k fun _ hK24 => ?_
 refine wp_region_list ?_
 refine op_mv hf rfl rfl fun a hf => ?_
 obtain ⟨r23, hr23, hm⟩ := ob hm
 refine op_enter (ex_call c_56 hf (vs := [str [], .slice p20 l22.length c21]) rfl) rfl hf rfl rfl (w_quill_Join [] l22 r23 _ (hG.own hF hO).1 (hO.rowSees (i := 1) rfl) (hO.rowCap (i := 1) rfl) hr23) ?_
 rintro e w' ⟨he, hb⟩
 refine ⟨_, he, fun a hf => ?_⟩
 have hO := hO.grow hb
 refine op_as hf rfl rfl fun a hf => ?_
 refine wpList_nil ?_
 refine nor_then (hK24 _ _ ?_)
 refine wp_seq_k fun _ hK32 => ?_
 refine wp_seq_k fun _ hK27 => ?_
 refine wp_region_list ?_
 refine op_mv hf rfl rfl fun a hf => ?_
 obtain ⟨r25, hr25, hm⟩ := ob hm
 refine op_enter (ex_call c_18 hf (vs := [str r23]) rfl) rfl hf rfl rfl (w_via_Parse r23 r25 _ (hG.own hF hO) hr25) ?_
 rintro e w' ⟨he, hb⟩
 refine ⟨_, he, fun a hf => ?_⟩
 have hO := hO.grow hb
 refine op_mv hf rfl rfl fun a hf => ?_
 refine op_val (ex_extract hf rfl rfl) rfl hf rfl rfl fun a hf => ?_
 refine op_val (ex_extract hf rfl rfl) rfl hf rfl rfl fun a hf => ?_
 refine op_alloc al_40 hf rfl hO fun a b26 w hf hO => ?_
 refine op_storeN (i := 0) (n := 4) sz_40 rfl rfl rfl (by simp [Value.oneCell']) hf rfl rfl hO fun w hO => ?_
 refine op_as hf rfl rfl fun a hf => ?_
 refine wpList_nil ?_
 refine nor_then (hK27 _ _ ?_)
 refine wp_seq_cut (fun a w => ∃ (t29 : Bool), Fits 44 [(5, str r23), (42, .bool t29)] a ∧ Dk.Own w0 [] w [.blk b26 [str r25.1.Proto, str r25.1.Version, str r25.1.By, str r25.1.Comment] 40, .blk b1 [str x_v.Proto, str x_v.Version, str x_v.By, str x_v.Comment] 40, .row (.slice p20 l22.length c21) 9 1 l22.length (cells enc_str l22)] ∧ via_Text_j3 r23 t29 = some R) ?_ ?_
 refine wp_region_list ?_
 refine op_mv hf rfl rfl fun a hf => ?_
 refine op_val (ex_neq (m := r25.2) (n := 0) hf rfl rfl) rfl hf rfl rfl fun a hf => ?_
 refine op_mv hf rfl rfl fun a hf => ?_
 rcases bcase (!(r25.2 == 0)) with hc28 | hc28
 have hm := it hc28 hm
 refine op_pass rfl hf rfl rfl (hc28) rfl rfl fun a hf => ?_
 refine op_pass rfl hf rfl rfl (hc28) rfl rfl fun a hf => ?_
 refine op_pass rfl hf rfl rfl (hc28) rfl rfl fun a hf => ?_
 refine op_val (ex_pick_t hf rfl hc28 rfl) rfl hf rfl rfl fun a hf => ?_
 refine wpList_nil ?_
 refine nor_then ?_
 exact ⟨true, (hf.cons rfl (hf.cons rfl hf.nil)), hO, hm⟩
 have hm := ie hc28 hm
 refine op_guard rfl hf rfl rfl (hc28) ?_
 refine op_val (ex_loadN (o := 0) (vs := [str r25.1.Proto, str r25.1.Version, str r25.1.By, str r25.1.Comment]) ag_40 sz_40 (hO.blkSees (i := 0) rfl) rfl rfl hf rfl) rfl hf rfl rfl fun a hf => ?_
 refine op_guard rfl hf rfl rfl (hc28) ?_
 refine op_val (ex_loadN (o := 0) (vs := [str x_v.Proto, str x_v.Version, str x_v.By, str x_v.Comment]) ag_40 sz_40 (hO.blkSees (i := 1) rfl) rfl rfl hf rfl) rfl hf rfl rfl fun a hf => ?_
 refine op_guard rfl hf rfl rfl (hc28) ?_
 refine op_val (ex_neq_t (by kernel_rfl) (eq_40 r25.1 x_v) hf rfl rfl) rfl hf rfl rfl fun a hf => ?_
 refine op_val (ex_pick_f hf rfl hc28 rfl) rfl hf rfl rfl fun a hf => ?_
 refine wpList_nil ?_
 refine nor_then ?_
 exact ⟨!(r25.1 == x_v), (hf.cons rfl (hf.cons rfl hf.nil)), hO, hm⟩
 rintro a w ⟨t29, hf, hO, hm⟩
 rw [via_Text_j3] at hm
 refine wp_cond_cut hf rfl (fun hc30 => ?_) (fun hc30 => ?_)
 have hm := it hc30 hm
 refine wp_seq_k fun _ hK31 => ?_
 refine wp_region_list ?_
 refine op_as hf rfl rfl fun a hf => ?_
 refine op_as hf rfl rfl fun a hf => ?_
 refine wpList_nil ?_
 refine nor_then (hK31 _ _ ?_)
 refine wp_ret ?_
 refine ret_then ?_
 obtain rfl := Option.some.inj hm
 exact post_ret Tryz.results23 hf (.tmp rfl (.tmp rfl .nil)) ⟨rfl, hO.below⟩
 have hm := ie hc30 hm
 refine wp_skip ?_
 refine nor_then (hK32 _ _ ?_)
 refine wp_seq_k fun _ hK33 => ?_
 refine wp_region_list ?_
 refine op_mv hf rfl rfl fun a hf => ?_
 refine op_as hf rfl rfl fun a hf => ?_
 refine op_as hf rfl rfl fun a hf => ?_
 refine wpList_nil ?_
 refine nor_then (hK33 _ _ ?_)
 refine wp_ret ?_
 obtain rfl := Option.some.inj hm
 exact post_ret Tryz.results23 hf (.tmp rfl (.tmp rfl .nil)) ⟨rfl, hO.below⟩

set_option maxHeartbeats 1000000 in
theorem w_law25_few (x_v : api_Via) (R : api_Via) (w0 : World) (hG : Glob w0) (hm : law25_few x_v = some R) :
    Calls Tryz.prog 24 #[.agg #[str x_v.Proto, str x_v.Version, str x_v.By, str x_v.Comment]] w0 fun e w' => e = .returned (.agg #[str R.Proto, str R.Version, str R.By, str R.Comment]) ∧ Below w0.heap.size w0 w' := by
 rw [law25_few] at hm
 refine calls_enter (vs := [.agg #[str x_v.Proto, str x_v.Version, str x_v.By, str x_v.Comment]]) Tryz.func24 rfl Tryz.ntmps24 rfl fun a hf => ?_
 have hF : Away [] := away_nil
 have hO : Dk.Own w0 [] w0 [] := Dk.Own.refl w0
 refine wp_seq_k fun _ hK3 => ?_
 refine wp_region_list ?_
 refine op_box (v := .agg #[str x_v.Proto, str x_v.Version, str x_v.By, str x_v.Comment]) (cs := [str x_v.Proto, str x_v.Version, str x_v.By, str x_v.Comment]) rfl hf rfl rfl hO fun a b1 w hf hO => ?_
 refine op_alloc al_40 hf rfl hO fun a b2 w hf hO => ?_
 refine wpList_nil ?_
 refine nor_then (hK3 _ _ ?_)
 refine wp_seq_k fun _ hK5 => ?_
 refine wp_region_list ?_
 refine op_val (ex_field fa_40_0 hf rfl) rfl hf rfl rfl fun a hf => ?_
 refine op_val (ex_load1 (o := 0) ag_9 (hO.blkSees (i := 1) rfl) rfl hf rfl) rfl hf rfl rfl fun a hf => ?_
 refine op_val (ex_field fa_40_1 hf rfl) rfl hf rfl rfl fun a hf => ?_
 refine op_val (ex_load1 (o := 1) ag_9 (hO.blkSees (i := 1) rfl) rfl hf rfl) rfl hf rfl rfl fun a hf => ?_
 refine op_val (ex_field fa_40_2 hf rfl) rfl hf rfl rfl fun a hf => ?_
 refine op_val (ex_load1 (o := 2) ag_9 (hO.blkSees (i := 1) rfl) rfl hf rfl) rfl hf rfl rfl fun a hf => ?_
 refine op_val (ex_field fa_40_3 hf rfl) rfl hf rfl rfl fun a hf => ?_
 refine op_val (ex_load1 (o := 3) ag_9 (hO.blkSees (i := 1) rfl) rfl hf rfl) rfl hf rfl rfl fun a hf => ?_
 refine op_val (ex_build (vs := [(0, str x_v.Proto), (1, str x_v.Version), (2, str x_v.By), (3, str x_v.Comment)]) (v := .agg #[str x_v.Proto, str x_v.Version, str x_v.By, str x_v.Comment]) hf rfl (by kernel_rfl)) rfl hf rfl rfl fun a hf => ?_
 refine op_alloc al_81 hf rfl hO fun a b4 w hf hO => ?_
 refine op_storeN (i := 0) (n := 4) sz_81 rfl rfl rfl (by simp [Value.oneCell']) hf rfl rfl hO fun w hO => ?_
 refine wpList_nil ?_
 refine nor_then (hK5 _ _ ?_)
 refine wp_seq_cut (fun a w => ∃ (s22 : Str) (s23 : Str) (s24 : Str) (s25 : Str), Fits 38 [(2, ptr b2 0), (3, ptr b4 0)] a ∧ Dk.Own w0 [] w [.blk b4 [str s22, str s23, str s24, str s25] 81, .blk b2 [str [], str [], str [], str []] 40, .blk b1 [str x_v.Proto, str x_v.Version, str x_v.By, str x_v.Comment] 40] ∧ law25_few_j2 s22 s23 s24 s25 = some R) ?_ ?_
 refine wp_seq_k fun _ hK6 => ?_
 refine wp_region_list ?_
 refine op_as hf rfl rfl fun a hf => ?_
 refine wpList_nil ?_
 refine nor_then (hK6 _ _ ?_)
 refine wp_block ?_
 refine wp_loop_n (fun k a w => ∃ (s7 : Str) (s8 : Str) (s9 : Str) (s10 : Str) (i11 : Int), Fits 38 [(2, ptr b2 0), (3, ptr b4 0), (4, int i11)] a ∧ Dk.Own w0 [] w [.blk b4 [str s7, str s8, str s9, str s10] 81, .blk b2 [str [], str [], str [], str []] 40, .blk b1 [str x_v.Proto, str x_v.Version, str x_v.By, str x_v.Comment] 40] ∧ law25_few_L1 k s7 s8 s9 s10 i11 = some R) ?_ fuel ?_
 rintro n1 a w ⟨s7, s8, s9, s10, i11, hf, hO, hm⟩
 obtain _ | n1 := n1
 rw [law25_few_L1] at hm
 cases hm
 rw [law25_few_L1] at hm
 refine wp_seq_k fun _ hK14 => ?_
 refine wp_seq_k fun _ hK12 => ?_
 refine wp_region_list ?_
 refine op_mv hf rfl rfl fun a hf => ?_
 refine op_val (ex_lss (m := i11) (n := 4) hf rfl rfl) rfl hf rfl rfl fun a hf => ?_
 refine wpList_nil ?_
 refine nor_then (hK12 _ _ ?_)
 refine wp_cond_cut hf rfl (fun hc13 => ?_) (fun hc13 => ?_)
 have hm := it hc13 hm
 refine wp_skip ?_
 refine nor_then (hK14 _ _ ?_)
 refine wp_seq_k fun _ hK20 => ?_
 refine wp_block ?_
 obtain ⟨x15, hx15, hm⟩ := ob hm
 have hAx15 := elemArr (n := 4) (b := b4) (xs := [s7, s8, s9, s10]) (m := i11) 81 Tryz.underlying81 sz_9 rfl hx15
 obtain ⟨x16, hx16, hm⟩ := ob hm
 have hAx16 := elemArr (n := 4) (b := b4) (xs := [s7, s8, s9, s10]) (m := i11) 81 Tryz.underlying81 sz_9 rfl hx16
 obtain ⟨s17, hs17, hm⟩ := ob hm
 obtain ⟨x18, hx18, hm⟩ := ob hm
 have hAx18 := elemArr (n := 4) (b := b4) (xs := [s7, s8, s9, s10]) (m := i11) 81 Tryz.underlying81 sz_9 rfl hx18
 obtain ⟨r19, hr19, hm⟩ := ob hm
 refine wp_drawS' (S := Unit) (E0 := [(2, ptr b2 0), (3, ptr b4 0), (4, int i11)]) (by kernel_rfl) (fun k σ w => match k with | 0 => Dk.Own w0 [] w [.blk b4 [str s7, str s8, str s9, str s10] 81, .blk b2 [str [], str [], str [], str []] 40, .blk b1 [str x_v.Proto, str x_v.Version, str x_v.By, str x_v.Comment] 40] | _ => Dk.Own w0 [] w [.blk b4 [str r19.1, str r19.2.1, str r19.2.2.1, str r19.2.2.2] 81, .blk b2 [str [], str [], str [], str []] 40, .blk b1 [str x_v.Proto, str x_v.Version, str x_v.By, str x_v.Comment] 40]) (fun σ => [⟨[(4, int i11)], some (18, int i11)⟩, ⟨[(4, int i11)], some (19, int i11)⟩, ⟨[(3, ptr b4 0), (19, int i11)], some (20, ptr b4 i11.toNat)⟩, ⟨[(20, ptr b4 i11.toNat)], some (21, str x15)⟩, ⟨[(4, int i11)], some (22, int i11)⟩, ⟨[(3, ptr b4 0), (22, int i11)], some (23, ptr b4 i11.toNat)⟩, ⟨[(23, ptr b4 i11.toNat)], some (24, str x16)⟩, ⟨[(24, str x16)], some (25, int (x16.length : Int))⟩, ⟨[(25, int (x16.length : Int))], some (26, int (min (x16.length : Int) 60))⟩, ⟨[(21, str x15), (26, int (min (x16.length : Int) 60))], some (27, str s17)⟩, ⟨[(3, ptr b4 0), (18, int i11)], some (28, ptr b4 i11.toNat)⟩, ⟨[(27, str s17), (28, ptr b4 i11.toNat)], none⟩]) () [11] rfl (fun _ => rfl) (fun _ => rfl) (fun _ => rfl) rfl rfl (by decide) rfl hO.drew (hf.cons rfl (hf.cons rfl (hf.cons rfl hf.nil))) (fun σ => ⟨⟨rfl, trivial⟩, ⟨rfl, trivial⟩, ⟨rfl, rfl, trivial⟩, ⟨rfl, trivial⟩, ⟨rfl, trivial⟩, ⟨rfl, rfl, trivial⟩, ⟨rfl, trivial⟩, ⟨rfl, trivial⟩, ⟨rfl, trivial⟩, ⟨rfl, rfl, trivial⟩, ⟨rfl, rfl, trivial⟩, ⟨rfl, rfl, trivial⟩, trivial⟩) ⟨sS_pure rfl (fun σ => rfl) (fun σ => rfl) (fun σ a w k _ _ _ _ hf => ex_move hf rfl), sS_pure rfl (fun σ => rfl) (fun σ => rfl) (fun σ a w k _ _ _ _ hf => ex_move hf rfl), sS_pure rfl (fun σ => rfl) (fun σ => rfl) (fun σ a w k _ _ _ _ hf => ex_indexAddrA hAx15.1 hf rfl rfl), sS_pure rfl (fun σ => rfl) (fun σ => rfl) (fun σ a w k hk hlo hup hst hf => match k, hk, hlo, hup, hst, hf with | 0, _, _, _, hst, hf => have hO : Dk.Own w0 [] w _ := hst; ex_load1 (o := 0) ag_9 ((fun w h => hAx15.2 w h) _ (hO.blkSees (i := 0) rfl)) rfl hf rfl | 1, _, _, hup, _, _ => absurd (hup 0 (by decide) (by kernel_rfl)) (by decide) | k + 2, hk, _, _, _, _ => absurd hk (by simp)), sS_pure rfl (fun σ => rfl) (fun σ => rfl) (fun σ a w k _ _ _ _ hf => ex_move hf rfl), sS_pure rfl (fun σ => rfl) (fun σ => rfl) (fun σ a w k _ _ _ _ hf => ex_indexAddrA hAx16.1 hf rfl rfl), sS_pure rfl (fun σ => rfl) (fun σ => rfl) (fun σ a w k hk hlo hup hst hf => match k, hk, hlo, hup, hst, hf with | 0, _, _, _, hst, hf => have hO : Dk.Own w0 [] w _ := hst; ex_load1 (o := 0) ag_9 ((fun w h => hAx16.2 w h) _ (hO.blkSees (i := 0) rfl)) rfl hf rfl | 1, _, _, hup, _, _ => absurd (hup 0 (by decide) (by kernel_rfl)) (by decide) | k + 2, hk, _, _, _, _ => absurd hk (by simp)), sS_pure rfl (fun σ => rfl) (fun σ => rfl) (fun σ a w k _ _ _ _ hf => ex_len_s (l := x16) Tryz.underlying9 hf rfl), sS_pure rfl (fun σ => rfl) (fun σ => rfl) (fun σ a w k _ _ _ _ hf => ex_min (m := (x16.length : Int)) (n := 60) hf rfl rfl), sS_pure rfl (fun σ => rfl) (fun σ => rfl) (fun σ a w k _ _ _ _ hf => ex_to_s (l := x15) Tryz.underlying9 hf rfl rfl hs17), sS_pure rfl (fun σ => rfl) (fun σ => rfl) (fun σ a w k _ _ _ _ hf => ex_indexAddrA hAx18.1 hf rfl rfl), sS_skip rfl (fun σ => rfl) (fun σ => rfl) rfl (fun σ w (hO : Dk.Own w0 [] w _) => by obtain ⟨w', hO', hr⟩ := ef_storeArr (x := (.tmp 28)) (y := (.tmp 27)) (E := [(27, str s17), (28, ptr b4 i11.toNat)]) (i := 0) (xs := [s7, s8, s9, s10]) (ys := [r19.1, r19.2.1, r19.2.2.1, r19.2.2.2]) (m := i11) (v := s17) sz_9 rfl (tup4_some hr19) hO rfl rfl; exact ⟨(), w', hO', ⟨.inr rfl, .inr rfl, .inr rfl, .inr rfl, .inr rfl, .inr rfl, .inr rfl, .inr rfl, .inr rfl, .inr rfl, .inr rfl, .inr rfl, trivial⟩, hr⟩), trivial⟩ ?_
 rintro _ a w hf hO
 have hO : Dk.Own w0 [] w _ := hO
 have hf : Fits 38 [(2, ptr b2 0), (3, ptr b4 0), (4, int i11)] a := (hf.cons rfl (hf.cons rfl (hf.cons rfl hf.nil)))
 refine nor_block ?_
 refine nor_then (hK20 _ _ ?_)
 refine wp_region_list ?_
 refine op_mv hf rfl rfl fun a hf => ?_
 obtain ⟨i21, hi21, hm⟩ := ob hm
 refine op_val (ex_add hf rfl rfl hi21) rfl hf rfl rfl fun a hf => ?_
 refine op_as hf rfl rfl fun a hf => ?_
 refine wpList_nil ?_
 refine nor_then ?_
 exact ⟨_, Nat.lt_succ_self _, r19.1, r19.2.1, r19.2.2.1, r19.2.2.2, i21, (hf.cons rfl (hf.cons rfl (hf.cons rfl hf.nil))), hO, hm⟩
 have hm := ie hc13 hm
 refine wp_exit ?_
 refine exit_then ?_
 refine exit_then ?_
 refine exit_here ?_
 refine nor_then ?_
 exact ⟨s7, s8, s9, s10, (hf.cons rfl (hf.cons rfl hf.nil)), hO, hm⟩
 exact ⟨x_v.Proto, x_v.Version, x_v.By, x_v.Comment, 0, (hf.cons rfl (hf.cons rfl (hf.cons rfl hf.nil))), hO, hm⟩
 rintro a w ⟨s22, s23, s24, s25, hf, hO, hm⟩
 rw [law25_few_j2] at hm
 refine wp_seq_k fun _ hK26 => ?_
 refine wp_region_list ?_
 refine op_val (ex_indexAddrA (ia_81_0 _) hf rfl rfl) rfl hf rfl rfl fun a hf => ?_
 refine op_val (ex_load1 (o := 0) ag_9 (hO.blkSees (i := 0) rfl) rfl hf rfl) rfl hf rfl rfl fun a hf => ?_
 refine op_val (ex_indexAddrA (ia_81_1 _) hf rfl rfl) rfl hf rfl rfl fun a hf => ?_
 refine op_val (ex_load1 (o := 1) ag_9 (hO.blkSees (i := 0) rfl) rfl hf rfl) rfl hf rfl rfl fun a hf => ?_
 refine op_val (ex_indexAddrA (ia_81_2 _) hf rfl rfl) rfl hf rfl rfl fun a hf => ?_
 refine op_val (ex_load1 (o := 2) ag_9 (hO.blkSees (i := 0) rfl) rfl hf rfl) rfl hf rfl rfl fun a hf => ?_
 refine op_val (ex_indexAddrA (ia_81_3 _) hf rfl rfl) rfl hf rfl rfl fun a hf => ?_
 refine op_val (ex_load1 (o := 3) ag_9 (hO.blkSees (i := 0) rfl) rfl hf rfl) rfl hf rfl rfl fun a hf => ?_
 refine op_val (ex_build (vs := [(0, str s22), (1, str s23), (2, str s24), (3, str s25)]) (v := .agg #[str s22, str s23, str s24, str s25]) hf rfl (by kernel_rfl)) rfl hf rfl rfl fun a hf => ?_
 refine op_storeN (i := 1) (n := 4) sz_40 rfl rfl rfl (by simp [Value.oneCell']) hf rfl rfl hO fun w hO => ?_
 refine wpList_nil ?_
 refine nor_then (hK26 _ _ ?_)
 refine wp_ret ?_
 obtain rfl := Option.some.inj hm
 exact post_ret Tryz.results24 hf (.cell rfl (run_loadVarN (n := 4) (vs := [str s22, str s23, str s24, str s25]) ag_40 sz_40 rfl ((hO.blkSees (i := 1) rfl).cells (o := 0) (n := 4) rfl)) .nil) ⟨rfl, hO.below⟩

set_option maxHeartbeats 1000000 in
theorem w_ref25_Text (x_v : api_Via) (R : Str × Int) (w0 : World) (hG : Glob w0) (hm : ref25_Text x_v = some R) :
    Calls Tryz.prog 25 #[.agg #[str x_v.Proto, str x_v.Version, str x_v.By, str x_v.Comment]] w0 fun e w' => e = .returned (.tuple #[str R.1, int R.2]) ∧ Below w0.heap.size w0 w' := by
 rw [ref25_Text] at hm
 refine calls_enter (vs := [.agg #[str x_v.Proto, str x_v.Version, str x_v.By, str x_v.Comment]]) Tryz.func25 rfl Tryz.ntmps25 rfl fun a hf => ?_
 have hF : Away [] := away_nil
 have hO : Dk.Own w0 [] w0 [] := Dk.Own.refl w0
 refine wp_seq_k fun _ hK2 => ?_
 refine wp_region_list ?_
 refine op_box (v := .agg #[str x_v.Proto, str x_v.Version, str x_v.By, str x_v.Comment]) (cs := [str x_v.Proto, str x_v.Version, str x_v.By, str x_v.Comment]) rfl hf rfl rfl hO fun a b1 w hf hO => ?_
 refine op_as hf rfl rfl fun a hf => ?_
 refine op_as hf rfl rfl fun a hf => ?_
 refine wpList_nil ?_
 refine nor_then (hK2 _ _ ?_)
 refine wp_seq_k fun _ hK5 => ?_
 refine wp_region_list ?_
 refine op_val (ex_field fa_40_1 hf rfl) rfl hf rfl rfl fun a hf => ?_
 refine op_val (ex_load1 (o := 1) ag_9 (hO.blkSees (i := 0) rfl) rfl hf rfl) rfl hf rfl rfl fun a hf => ?_
 obtain ⟨s3, hs3, hm⟩ := ob hm
 refine op_val (ex_cat (l := x_v.Version) (m := [32]) hf rfl rfl hs3) rfl hf rfl rfl fun a hf => ?_
 refine op_val (ex_field fa_40_2 hf rfl) rfl hf rfl rfl fun a hf => ?_
 refine op_val (ex_load1 (o := 2) ag_9 (hO.blkSees (i := 0) rfl) rfl hf rfl) rfl hf rfl rfl fun a hf => ?_
 obtain ⟨s4, hs4, hm⟩ := ob hm
 refine op_val (ex_cat (l := s3) (m := x_v.By) hf rfl rfl hs4) rfl hf rfl rfl fun a hf => ?_
 refine op_as hf rfl rfl fun a hf => ?_
 refine wpList_nil ?_
 refine nor_then (hK5 _ _ ?_)
 refine wp_seq_cut (fun a w => ∃ (s10 : Str), Fits 43 [(1, ptr b1 0), (4, str s10)] a ∧ Dk.Own w0 [] w [.blk b1 [str x_v.Proto, str x_v.Version, str x_v.By, str x_v.Comment] 40] ∧ ref25_Text_j1 x_v s10 = some R) ?_ ?_
 refine wp_seq_k fun _ hK6 => ?_
 refine wp_region_list ?_
 refine op_val (ex_field fa_40_0 hf rfl) rfl hf rfl rfl fun a hf => ?_
 refine op_val (ex_load1 (o := 0) ag_9 (hO.blkSees (i := 0) rfl) rfl hf rfl) rfl hf rfl rfl fun a hf => ?_
 refine op_val (ex_neq_s (l := x_v.Proto) (m := []) hf rfl rfl) rfl hf rfl rfl fun a hf => ?_
 refine wpList_nil ?_
 refine nor_then (hK6 _ _ ?_)
 refine wp_cond_cut hf rfl (fun hc7 => ?_) (fun hc7 => ?_)
 have hm := it hc7 hm
 refine wp_region_list ?_
 refine op_val (ex_field fa_40_0 hf rfl) rfl hf rfl rfl fun a hf => ?_
 refine op_val (ex_load1 (o := 0) ag_9 (hO.blkSees (i := 0) rfl) rfl hf rfl) rfl hf rfl rfl fun a hf => ?_
 obtain ⟨s8, hs8, hm⟩ := ob hm
 refine op_val (ex_cat (l := x_v.Proto) (m := [47]) hf rfl rfl hs8) rfl hf rfl rfl fun a hf => ?_
 refine op_mv hf rfl rfl fun a hf => ?_
 obtain ⟨s9, hs9, hm⟩ := ob hm
 refine op_val (ex_cat (l := s8) (m := s4) hf rfl rfl hs9) rfl hf rfl rfl fun a hf => ?_
 refine op_as hf rfl rfl fun a hf => ?_
 refine wpList_nil ?_
 refine nor_then ?_
 exact ⟨s9, (hf.cons rfl (hf.cons rfl hf.nil)), hO, hm⟩
 have hm := ie hc7 hm
 refine wp_skip ?_
 refine nor_then ?_
 exact ⟨s4, (hf.cons rfl (hf.cons rfl hf.nil)), hO, hm⟩
 rintro a w ⟨s10, hf, hO, hm⟩
 rw [ref25_Text_j1] at hm
 refine wp_seq_cut (fun a w => ∃ (s16 : Str), Fits 43 [(1, ptr b1 0), (4, str s16)] a ∧ Dk.Own w0 [] w [.blk b1 [str x_v.Proto, str x_v.Version, str x_v.By, str x_v.Comment] 40] ∧ ref25_Text_j2 x_v s16 = some R) ?_ ?_
 refine wp_seq_k fun _ hK11 => ?_
 refine wp_region_list ?_
 refine op_val (ex_field fa_40_3 hf rfl) rfl hf rfl rfl fun a hf => ?_
 refine op_val (ex_load1 (o := 3) ag_9 (hO.blkSees (i := 0) rfl) rfl hf rfl) rfl hf rfl rfl fun a hf => ?_
 refine op_val (ex_neq_s (l := x_v.Comment) (m := []) hf rfl rfl) rfl hf rfl rfl fun a hf => ?_
 refine wpList_nil ?_
 refine nor_then (hK11 _ _ ?_)
 refine wp_cond_cut hf rfl (fun hc12 => ?_) (fun hc12 => ?_)
 have hm := it hc12 hm
 refine wp_region_list ?_
 refine op_mv hf rfl rfl fun a hf => ?_
 obtain ⟨s13, hs13, hm⟩ := ob hm
 refine op_val (ex_cat (l := s10) (m := [32, 40]) hf rfl rfl hs13) rfl hf rfl rfl fun a hf => ?_
 refine op_val (ex_field fa_40_3 hf rfl) rfl hf rfl rfl fun a hf => ?_
 refine op_val (ex_load1 (o := 3) ag_9 (hO.blkSees (i := 0) rfl) rfl hf rfl) rfl hf rfl rfl fun a hf => ?_
 obtain ⟨s14, hs14, hm⟩ := ob hm
 refine op_val (ex_cat (l := s13) (m := x_v.Comment) hf rfl rfl hs14) rfl hf rfl rfl fun a hf => ?_
 obtain ⟨s15, hs15, hm⟩ := ob hm
 refine op_val (ex_cat (l := s14) (m := [41]) hf rfl rfl hs15) rfl hf rfl rfl fun a hf => ?_
 refine op_as hf rfl rfl fun a hf => ?_
 refine wpList_nil ?_
 refine nor_then ?_
 exact ⟨s15, (hf.cons rfl (hf.cons rfl hf.nil)), hO, hm⟩
 have hm := ie hc12 hm
 refine wp_skip ?_
 refine nor_then ?_
 exact ⟨s10, (hf.cons rfl (hf.cons rfl hf.nil)), hO, hm⟩
 rintro a w ⟨s16, hf, hO, hm⟩
 rw [ref25_Text_j2] at hm
 refine wp_seq_k fun _ hK19 => ?_
 refine wp_region_list ?_
 refine op_mv hf rfl rfl fun a hf => ?_
 obtain ⟨r17, hr17, hm⟩ := ob hm
 refine op_enter (ex_call c_19 hf (vs := [str s16]) rfl) rfl hf rfl rfl (w_ref25_Parse s16 r17 _ (hG.own hF hO) hr17) ?_
 rintro e w' ⟨he, hb⟩
 refine ⟨_, he, fun a hf => ?_⟩
 have hO := hO.grow hb
 refine op_mv hf rfl rfl fun a hf => ?_
 refine op_val (ex_extract hf rfl rfl) rfl hf rfl rfl fun a hf => ?_
 refine op_val (ex_extract hf rfl rfl) rfl hf rfl rfl fun a hf => ?_
 refine op_alloc al_40 hf rfl hO fun a b18 w hf hO => ?_
 refine op_storeN (i := 0) (n := 4) sz_40 rfl rfl rfl (by simp [Value.oneCell']) hf rfl rfl hO fun w hO => ?_
 refine op_as hf rfl rfl fun a hf => ?_
 refine wpList_nil ?_
 refine nor_then (hK19 _ _ ?_)
 refine wp_seq_k fun _ hK24 => ?_
 refine wp_seq_cut (fun a w => ∃ (t21 : Bool), Fits 43 [(4, str s16), (41, .bool t21)] a ∧ Dk.Own w0 [] w [.blk b18 [str r17.1.Proto, str r17.1.Version, str r17.1.By, str r17.1.Comment] 40, .blk b1 [str x_v.Proto, str x_v.Version, str x_v.By, str x_v.Comment] 40] ∧ ref25_Text_j3 s16 t21 = some R) ?_ ?_
 refine wp_region_list ?_
 refine op_mv hf rfl rfl fun a hf => ?_
 refine op_val (ex_neq (m := r17.2) (n := 0) hf rfl rfl) rfl hf rfl rfl fun a hf => ?_
 refine op_mv hf rfl rfl fun a hf => ?_
 rcases bcase (!(r17.2 == 0)) with hc20 | hc20
 have hm := it hc20 hm
 refine op_pass rfl hf rfl rfl (hc20) rfl rfl fun a hf => ?_
 refine op_pass rfl hf rfl rfl (hc20) rfl rfl fun a hf => ?_
 refine op_pass rfl hf rfl rfl (hc20) rfl rfl fun a hf => ?_
 refine op_val (ex_pick_t hf rfl hc20 rfl) rfl hf rfl rfl fun a hf => ?_
 refine wpList_nil ?_
 refine nor_then ?_
 exact ⟨true, (hf.cons rfl (hf.cons rfl hf.nil)), hO, hm⟩
 have hm := ie hc20 hm
 refine op_guard rfl hf rfl rfl (hc20) ?_
 refine op_val (ex_loadN (o := 0) (vs := [str r17.1.Proto, str r17.1.Version, str r17.1.By, str r17.1.Comment]) ag_40 sz_40 (hO.blkSees (i := 0) rfl) rfl rfl hf rfl) rfl hf rfl rfl fun a hf => ?_
 refine op_guard rfl hf rfl rfl (hc20) ?_
 refine op_val (ex_loadN (o := 0) (vs := [str x_v.Proto, str x_v.Version, str x_v.By, str x_v.Comment]) ag_40 sz_40 (hO.blkSees (i := 1) rfl) rfl rfl hf rfl) rfl hf rfl rfl fun a hf => ?_
 refine op_guard rfl hf rfl rfl (hc20) ?_
 refine op_val (ex_neq_t (by kernel_rfl) (eq_40 r17.1 x_v) hf rfl rfl) rfl hf rfl rfl fun a hf => ?_
 refine op_val (ex_pick_f hf rfl hc20 rfl) rfl hf rfl rfl fun a hf => ?_
 refine wpList_nil ?_
 refine nor_then ?_
 exact ⟨!(r17.1 == x_v), (hf.cons rfl (hf.cons rfl hf.nil)), hO, hm⟩
 rintro a w ⟨t21, hf, hO, hm⟩
 rw [ref25_Text_j3] at hm
 refine wp_cond_cut hf rfl (fun hc22 => ?_) (fun hc22 => ?_)
 have hm := it hc22 hm
 refine wp_seq_k fun _ hK23 => ?_
 refine wp_region_list ?_
 refine op_as hf rfl rfl fun a hf => ?_
 refine op_as hf rfl rfl fun a hf => ?_
 refine wpList_nil ?_
 refine nor_then (hK23 _ _ ?_)
 refine wp_ret ?_
 refine ret_then ?_
 obtain rfl := Option.some.inj hm
 exact post_ret Tryz.results25 hf (.tmp rfl (.tmp rfl .nil)) ⟨rfl, hO.below⟩
 have hm := ie hc22 hm
 refine wp_skip ?_
 refine nor_then (hK24 _ _ ?_)
 refine wp_seq_k fun _ hK25 => ?_
 refine wp_region_list ?_
 refine op_mv hf rfl rfl fun a hf => ?_
 refine op_as hf rfl rfl fun a hf => ?_
 refine op_as hf rfl rfl fun a hf => ?_
 refine wpList_nil ?_
 refine nor_then (hK25 _ _ ?_)
 refine wp_ret ?_
 obtain rfl := Option.some.inj hm
 exact post_ret Tryz.results25 hf (.tmp rfl (.tmp rfl .nil)) ⟨rfl, hO.below⟩

set_option maxHeartbeats 1000000 in
theorem w_law25_ViaWrites (x_v : api_Via) (R : Bool) (w0 : World) (hG : GlobT w0) (hm : law25_ViaWrites x_v = some R) :
    Calls Tryz.prog 5 #[.agg #[str x_v.Proto, str x_v.Version, str x_v.By, str x_v.Comment]] w0 fun e w' => e = .returned (.bool R) ∧ Below w0.heap.size w0 w' := by
 rw [law25_ViaWrites] at hm
 refine calls_enter (vs := [.agg #[str x_v.Proto, str x_v.Version, str x_v.By, str x_v.Comment]]) Tryz.func5 rfl Tryz.ntmps5 rfl fun a hf => ?_
 have hF : Away [] := away_nil
 have hO : Dk.Own w0 [] w0 [] := Dk.Own.refl w0
 refine wp_seq_k fun _ hK2 => ?_
 refine wp_region_list ?_
 refine op_box (v := .agg #[str x_v.Proto, str x_v.Version, str x_v.By, str x_v.Comment]) (cs := [str x_v.Proto, str x_v.Version, str x_v.By, str x_v.Comment]) rfl hf rfl rfl hO fun a b1 w hf hO => ?_
 refine op_as hf rfl rfl fun a hf => ?_
 refine wpList_nil ?_
 refine nor_then (hK2 _ _ ?_)
 refine wp_seq_k fun _ hK7 => ?_
 refine wp_seq_k fun _ hK4 => ?_
 refine wp_region_list ?_
 obtain ⟨r3, hr3, hm⟩ := ob hm
 refine op_enter (ex_call c_17 hf (vs := []) rfl) rfl hf rfl rfl (w_law25_awake r3 _ (hG.own hF hO) hr3) ?_
 rintro e w' ⟨he, hb⟩
 refine ⟨_, he, fun a hf => ?_⟩
 have hO := hO.grow hb
 refine op_val (ex_not hf rfl) rfl hf rfl rfl fun a hf => ?_
 refine wpList_nil ?_
 refine nor_then (hK4 _ _ ?_)
 refine wp_cond_cut hf rfl (fun hc5 => ?_) (fun hc5 => ?_)
 have hm := it hc5 hm
 refine wp_seq_k fun _ hK6 => ?_
 refine wp_region_list ?_
 refine op_as hf rfl rfl fun a hf => ?_
 refine wpList_nil ?_
 refine nor_then (hK6 _ _ ?_)
 refine wp_ret ?_
 refine ret_then ?_
 obtain rfl := Option.some.inj hm
 exact post_ret Tryz.results5 hf (.tmp rfl .nil) ⟨rfl, hO.below⟩
 have hm := ie hc5 hm
 refine wp_skip ?_
 refine nor_then (hK7 _ _ ?_)
 refine wp_seq_k fun _ hK9 => ?_
 refine wp_region_list ?_
 refine op_val (ex_loadN (o := 0) (vs := [str x_v.Proto, str x_v.Version, str x_v.By, str x_v.Comment]) ag_40 sz_40 (hO.blkSees (i := 0) rfl) rfl rfl hf rfl) rfl hf rfl rfl fun a hf => ?_
 obtain ⟨r8, hr8, hm⟩ := ob hm
 refine op_enter (ex_call c_24 hf (vs := [.agg #[str x_v.Proto, str x_v.Version, str x_v.By, str x_v.Comment]]) rfl) rfl hf rfl rfl (w_law25_few x_v r8 _ (hG.own hF hO).1 hr8) ?_
 rintro e w' ⟨he, hb⟩
 refine ⟨_, he, fun a hf => ?_⟩
 have hO := hO.grow hb
 refine op_storeN (i := 0) (n := 4) sz_40 rfl rfl rfl (by simp [Value.oneCell']) hf rfl rfl hO fun w hO => ?_
 refine wpList_nil ?_
 refine nor_then (hK9 _ _ ?_)
 refine wp_seq_k fun _ hK11 => ?_
 refine wp_region_list ?_
 refine op_val (ex_loadN (o := 0) (vs := [str r8.Proto, str r8.Version, str r8.By, str r8.Comment]) ag_40 sz_40 (hO.blkSees (i := 0) rfl) rfl rfl hf rfl) rfl hf rfl rfl fun a hf => ?_
 obtain ⟨r10, hr10, hm⟩ := ob hm
 refine op_enter (ex_call c_23 hf (vs := [.agg #[str r8.Proto, str r8.Version, str r8.By, str r8.Comment]]) rfl) rfl hf rfl rfl (w_via_Text r8 r10 _ (hG.own hF hO) hr10) ?_
 rintro e w' ⟨he, hb⟩
 refine ⟨_, he, fun a hf => ?_⟩
 have hO := hO.grow hb
 refine op_mv hf rfl rfl fun a hf => ?_
 refine op_val (ex_extract hf rfl rfl) rfl hf rfl rfl fun a hf => ?_
 refine op_val (ex_extract hf rfl rfl) rfl hf rfl rfl fun a hf => ?_
 refine op_as hf rfl rfl fun a hf => ?_
 refine op_as hf rfl rfl fun a hf => ?_
 refine wpList_nil ?_
 refine nor_then (hK11 _ _ ?_)
 refine wp_seq_k fun _ hK13 => ?_
 refine wp_region_list ?_
 refine op_val (ex_loadN (o := 0) (vs := [str r8.Proto, str r8.Version, str r8.By, str r8.Comment]) ag_40 sz_40 (hO.blkSees (i := 0) rfl) rfl rfl hf rfl) rfl hf rfl rfl fun a hf => ?_
 obtain ⟨r12, hr12, hm⟩ := ob hm
 refine op_enter (ex_call c_25 hf (vs := [.agg #[str r8.Proto, str r8.Version, str r8.By, str r8.Comment]]) rfl) rfl hf rfl rfl (w_ref25_Text r8 r12 _ (hG.own hF hO).1 hr12) ?_
 rintro e w' ⟨he, hb⟩
 refine ⟨_, he, fun a hf => ?_⟩
 have hO := hO.grow hb
 refine op_mv hf rfl rfl fun a hf => ?_
 refine op_val (ex_extract hf rfl rfl) rfl hf rfl rfl fun a hf => ?_
 refine op_val (ex_extract hf rfl rfl) rfl hf rfl rfl fun a hf => ?_
 refine op_as hf rfl rfl fun a hf => ?_
 refine op_as hf rfl rfl fun a hf => ?_
 refine wpList_nil ?_
 refine nor_then (hK13 _ _ ?_)
 refine wp_seq_k fun _ hK16 => ?_
 refine wp_region_list ?_
 refine op_mv hf rfl rfl fun a hf => ?_
 obtain ⟨r14, hr14, hm⟩ := ob hm
 refine op_enter (ex_call c_18 hf (vs := [str r10.1]) rfl) rfl hf rfl rfl (w_via_Parse r10.1 r14 _ (hG.own hF hO) hr14) ?_
 rintro e w' ⟨he, hb⟩
 refine ⟨_, he, fun a hf => ?_⟩
 have hO := hO.grow hb
 refine op_mv hf rfl rfl fun a hf => ?_
 refine op_val (ex_extract hf rfl rfl) rfl hf rfl rfl fun a hf => ?_
 refine op_val (ex_extract hf rfl rfl) rfl hf rfl rfl fun a hf => ?_
 refine op_alloc al_40 hf rfl hO fun a b15 w hf hO => ?_
 refine op_storeN (i := 0) (n := 4) sz_40 rfl rfl rfl (by simp [Value.oneCell']) hf rfl rfl hO fun w hO => ?_
 refine op_as hf rfl rfl fun a hf => ?_
 refine wpList_nil ?_
 refine nor_then (hK16 _ _ ?_)
 refine wp_seq_cut (fun a w => ∃ (t21 : Bool), Fits 49 [(2, .bool t21)] a ∧ Dk.Own w0 [] w [.blk b15 [str r14.1.Proto, str r14.1.Version, str r14.1.By, str r14.1.Comment] 40, .blk b1 [str r8.Proto, str r8.Version, str r8.By, str r8.Comment] 40] ∧ law25_ViaWrites_j1 t21 = some R) ?_ ?_
 refine wp_region_list ?_
 refine op_mv hf rfl rfl fun a hf => ?_
 refine op_mv hf rfl rfl fun a hf => ?_
 refine op_val (ex_eql_s (l := r10.1) (m := r12.1) hf rfl rfl) rfl hf rfl rfl fun a hf => ?_
 refine op_mv hf rfl rfl fun a hf => ?_
 rcases bcase (r10.1 == r12.1) with hc17 | hc17
 have hm := it hc17 hm
 refine op_guard rfl hf rfl rfl (hc17) ?_
 refine op_mv hf rfl rfl fun a hf => ?_
 refine op_guard rfl hf rfl rfl (hc17) ?_
 refine op_mv hf rfl rfl fun a hf => ?_
 refine op_guard rfl hf rfl rfl (hc17) ?_
 refine op_val (ex_eql (m := r10.2) (n := r12.2) hf rfl rfl) rfl hf rfl rfl fun a hf => ?_
 refine op_val (ex_pick_t hf rfl hc17 rfl) rfl hf rfl rfl fun a hf => ?_
 refine op_mv hf rfl rfl fun a hf => ?_
 rcases bcase (r10.2 == r12.2) with hc18 | hc18
 have hm := it hc18 hm
 refine op_guard rfl hf rfl rfl (hc18) ?_
 refine op_mv hf rfl rfl fun a hf => ?_
 refine op_guard rfl hf rfl rfl (hc18) ?_
 refine op_val (ex_neq (m := r10.2) (n := 0) hf rfl rfl) rfl hf rfl rfl fun a hf => ?_
 refine op_guard rfl hf rfl rfl (hc18) ?_
 refine op_mv hf rfl rfl fun a hf => ?_
 rcases bcase (!(r10.2 == 0)) with hc19 | hc19
 have hm := it hc19 hm
 refine op_pass rfl hf rfl rfl (hc19) rfl rfl fun a hf => ?_
 refine op_pass rfl hf rfl rfl (hc19) rfl rfl fun a hf => ?_
 refine op_pass rfl hf rfl rfl (hc19) rfl rfl fun a hf => ?_
 refine op_passu rfl hf rfl rfl rfl rfl fun a hf => ?_
 refine op_passu rfl hf rfl rfl rfl rfl fun a hf => ?_
 refine op_passu rfl hf rfl rfl rfl rfl fun a hf => ?_
 refine op_pass rfl hf rfl rfl (hc19) rfl rfl fun a hf => ?_
 refine op_guard rfl hf rfl rfl (hc18) ?_
 refine op_val (ex_pick_t hf rfl hc19 rfl) rfl hf rfl rfl fun a hf => ?_
 refine op_val (ex_pick_t hf rfl hc18 rfl) rfl hf rfl rfl fun a hf => ?_
 refine op_as hf rfl rfl fun a hf => ?_
 refine wpList_nil ?_
 refine nor_then ?_
 exact ⟨true, (hf.cons rfl hf.nil), hO, hm⟩
 have hm := ie hc19 hm
 refine op_guard rfl hf rfl rfl (hc19) ?_
 refine op_mv hf rfl rfl fun a hf => ?_
 refine op_guard rfl hf rfl rfl (hc19) ?_
 refine op_val (ex_eql (m := r14.2) (n := 0) hf rfl rfl) rfl hf rfl rfl fun a hf => ?_
 refine op_guard rfl hf rfl rfl (hc19) ?_
 refine op_mv hf rfl rfl fun a hf => ?_
 rcases bcase (r14.2 == 0) with hc20 | hc20
 have hm := it hc20 hm
 refine op_guard rfl hf rfl rfl (hc20) ?_
 refine op_val (ex_loadN (o := 0) (vs := [str r14.1.Proto, str r14.1.Version, str r14.1.By, str r14.1.Comment]) ag_40 sz_40 (hO.blkSees (i := 0) rfl) rfl rfl hf rfl) rfl hf rfl rfl fun a hf => ?_
 refine op_guard rfl hf rfl rfl (hc20) ?_
 refine op_val (ex_loadN (o := 0) (vs := [str r8.Proto, str r8.Version, str r8.By, str r8.Comment]) ag_40 sz_40 (hO.blkSees (i := 1) rfl) rfl rfl hf rfl) rfl hf rfl rfl fun a hf => ?_
 refine op_guard rfl hf rfl rfl (hc20) ?_
 refine op_val (ex_eql_t (by kernel_rfl) (eq_40 r14.1 r8) hf rfl rfl) rfl hf rfl rfl fun a hf => ?_
 refine op_guard rfl hf rfl rfl (hc19) ?_
 refine op_val (ex_pick_t hf rfl hc20 rfl) rfl hf rfl rfl fun a hf => ?_
 refine op_guard rfl hf rfl rfl (hc18) ?_
 refine op_val (ex_pick_f hf rfl hc19 rfl) rfl hf rfl rfl fun a hf => ?_
 refine op_val (ex_pick_t hf rfl hc18 rfl) rfl hf rfl rfl fun a hf => ?_
 refine op_as hf rfl rfl fun a hf => ?_
 refine wpList_nil ?_
 refine nor_then ?_
 exact ⟨r14.1 == r8, (hf.cons rfl hf.nil), hO, hm⟩
 have hm := ie hc20 hm
 refine op_pass rfl hf rfl rfl (hc20) rfl rfl fun a hf => ?_
 refine op_pass rfl hf rfl rfl (hc20) rfl rfl fun a hf => ?_
 refine op_pass rfl hf rfl rfl (hc20) rfl rfl fun a hf => ?_
 refine op_guard rfl hf rfl rfl (hc19) ?_
 refine op_val (ex_pick_f hf rfl hc20 rfl) rfl hf rfl rfl fun a hf => ?_
 refine op_guard rfl hf rfl rfl (hc18) ?_
 refine op_val (ex_pick_f hf rfl hc19 rfl) rfl hf rfl rfl fun a hf => ?_
 refine op_val (ex_pick_t hf rfl hc18 rfl) rfl hf rfl rfl fun a hf => ?_
 refine op_as hf rfl rfl fun a hf => ?_
 refine wpList_nil ?_
 refine nor_then ?_
 exact ⟨false, (hf.cons rfl hf.nil), hO, hm⟩
 have hm := ie hc18 hm
 refine op_pass rfl hf rfl rfl (hc18) rfl rfl fun a hf => ?_
 refine op_pass rfl hf rfl rfl (hc18) rfl rfl fun a hf => ?_
 refine op_pass rfl hf rfl rfl (hc18) rfl rfl fun a hf => ?_
 refine op_passu rfl hf rfl rfl rfl rfl fun a hf => ?_
 refine op_passu rfl hf rfl rfl rfl rfl fun a hf => ?_
 refine op_passu rfl hf rfl rfl rfl rfl fun a hf => ?_
 refine op_passu rfl hf rfl rfl rfl rfl fun a hf => ?_
 refine op_passu rfl hf rfl rfl rfl rfl fun a hf => ?_
 refine op_passu rfl hf rfl rfl rfl rfl fun a hf => ?_
 refine op_passu rfl hf rfl rfl rfl rfl fun a hf => ?_
 refine op_pass rfl hf rfl rfl (hc18) rfl rfl fun a hf => ?_
 refine op_val (ex_pick_f hf rfl hc18 rfl) rfl hf rfl rfl fun a hf => ?_
 refine op_as hf rfl rfl fun a hf => ?_
 refine wpList_nil ?_
 refine nor_then ?_
 exact ⟨false, (hf.cons rfl hf.nil), hO, hm⟩
 have hm := ie hc17 hm
 refine op_pass rfl hf rfl rfl (hc17) rfl rfl fun a hf => ?_
 refine op_pass rfl hf rfl rfl (hc17) rfl rfl fun a hf => ?_
 refine op_pass rfl hf rfl rfl (hc17) rfl rfl fun a hf => ?_
 refine op_val (ex_pick_f hf rfl hc17 rfl) rfl hf rfl rfl fun a hf => ?_
 refine op_mv hf rfl rfl fun a hf => ?_
 refine op_pass rfl hf rfl rfl (rfl) rfl rfl fun a hf => ?_
 refine op_pass rfl hf rfl rfl (rfl) rfl rfl fun a hf => ?_
 refine op_pass rfl hf rfl rfl (rfl) rfl rfl fun a hf => ?_
 refine op_passu rfl hf rfl rfl rfl rfl fun a hf => ?_
 refine op_passu rfl hf rfl rfl rfl rfl fun a hf => ?_
 refine op_passu rfl hf rfl rfl rfl rfl fun a hf => ?_
 refine op_passu rfl hf rfl rfl rfl rfl fun a hf => ?_
 refine op_passu rfl hf rfl rfl rfl rfl fun a hf => ?_
 refine op_passu rfl hf rfl rfl rfl rfl fun a hf => ?_
 refine op_passu rfl hf rfl rfl rfl rfl fun a hf => ?_
 refine op_pass rfl hf rfl rfl (rfl) rfl rfl fun a hf => ?_
 refine op_val (ex_pick_f hf rfl rfl rfl) rfl hf rfl rfl fun a hf => ?_
 refine op_as hf rfl rfl fun a hf => ?_
 refine wpList_nil ?_
 refine nor_then ?_
 exact ⟨false, (hf.cons rfl hf.nil), hO, hm⟩
 rintro a w ⟨t21, hf, hO, hm⟩
 rw [law25_ViaWrites_j1] at hm
 refine wp_ret ?_
 obtain rfl := Option.some.inj hm
 exact post_ret Tryz.results5 hf (.tmp rfl .nil) ⟨rfl, hO.below⟩

end Go.Proofs
