/-
  Walks, written by a program (wip/gen): what its model says, the function returns; what was there before is as it was.
-/
import Derived.Test.YtmdocoobecckdaaGreatDoorLib
import Derived.Test.YtmdocoobecckdaaGreatDoorW2
import Derived.Test.YtmdocoobecckdaaGreatDoorW3
import Derived.Test.YtmdocoobecckdaaGreatDoorW8
import Derived.Test.YtmdocoobecckdaaGreatDoorW9
set_option linter.unusedVariables false
set_option linter.unusedSimpArgs false
set_option maxRecDepth 100000
namespace Go.Proofs
open Go.Dk Go.Dm Go.RowKit

set_option maxHeartbeats 1000000 in
theorem w_via_Text (x_v : api_Via) (R : Str × Int) (w0 : World) (hG : GlobT w0) (hm : via_Text x_v = some R) :
    Calls Tryz.prog 23 #[.agg #[str x_v.Proto, str x_v.Version, str x_v.By, str x_v.Comment]] w0 fun e w' => e = .returned (.tuple #[str R.1, int R.2]) ∧ Below w0.heap.size w0 w' := by
 rw [via_Text] at hm
 refine calls_enter (vs := [.agg #[str x_v.Proto, str x_v.Version, str x_v.By, str x_v.Comment]]) Tryz.func23 rfl Tryz.ntmps23 rfl fun a hf => ?_
 have hF : Away [] := away_nil
 have hO : Dk.Own w0 [] w0 [] := Dk.Own.refl w0
 refine wp_seq_k fun _ hK2 => ?_
 refine wp_region_list ?_
 refine op_box (v := .agg #[str x_v.Proto, str x_v.Version, str x_v.By, str x_v.Comment]) (cs := [str x_v.Proto, str x_v.Version, str x_v.By, str x_v.Comment]) rfl hf rfl rfl hO fun a b1 w hf hO => ?_
 refine op_as hf rfl rfl fun a hf => ?_
 refine op_as hf rfl rfl fun a hf => ?_
 refine wpList_nil ?_
 refine nor_then (hK2 _ _ ?_)
 refine wp_seq_k fun _ hK4 => ?_
 refine wp_region_list ?_
 refine op_val (ex_field fa_40_1 hf rfl) rfl hf rfl rfl fun a hf => ?_
 refine op_val (ex_load1 (o := 1) ag_9 (hO.blkSees (i := 0) rfl) rfl hf rfl) rfl hf rfl rfl fun a hf => ?_
 refine op_val (ex_field fa_40_2 hf rfl) rfl hf rfl rfl fun a hf => ?_
 refine op_val (ex_load1 (o := 2) ag_9 (hO.blkSees (i := 0) rfl) rfl hf rfl) rfl hf rfl rfl fun a hf => ?_
 refine op_buildSlice (vs := [(0, str x_v.Version), (1, str [32]), (2, str x_v.By)]) (cs := [str x_v.Version, str [32], str x_v.By]) (e := 9) (sz := 1) hf rfl rfl (fun w => by kernel_rfl) rfl rfl hO fun a b3 w hf hO => ?_
 refine op_as hf rfl rfl fun a hf => ?_
 refine wpList_nil ?_
 refine nor_then (hK4 _ _ ?_)
 refine wp_seq_cut (fun a w => ∃ (p11 : Option Addr) (c12 : Nat) (l13 : List Str), Fits 44 [(1, ptr b1 0), (4, .slice p11 l13.length c12)] a ∧ Dk.Own w0 [] w [.blk b1 [str x_v.Proto, str x_v.Version, str x_v.By, str x_v.Comment] 40, .row (.slice p11 l13.length c12) 9 1 l13.length (cells enc_str l13)] ∧ via_Text_j1 x_v l13 = some R) ?_ ?_
 refine wp_seq_k fun _ hK5 => ?_
 refine wp_region_list ?_
 refine op_val (ex_field fa_40_0 hf rfl) rfl hf rfl rfl fun a hf => ?_
 refine op_val (ex_load1 (o := 0) ag_9 (hO.blkSees (i := 1) rfl) rfl hf rfl) rfl hf rfl rfl fun a hf => ?_
 refine op_val (ex_neq_s (l := x_v.Proto) (m := []) hf rfl rfl) rfl hf rfl rfl fun a hf => ?_
 refine wpList_nil ?_
 refine nor_then (hK5 _ _ ?_)
 refine wp_cond_cut hf rfl (fun hc6 => ?_) (fun hc6 => ?_)
 have hm := it hc6 hm
 refine wp_region_list ?_
 refine op_val (ex_field fa_40_0 hf rfl) rfl hf rfl rfl fun a hf => ?_
 refine op_val (ex_load1 (o := 0) ag_9 (hO.blkSees (i := 1) rfl) rfl hf rfl) rfl hf rfl rfl fun a hf => ?_
 refine op_buildSlice (vs := [(0, str x_v.Proto), (1, str [47])]) (cs := [str x_v.Proto, str [47]]) (e := 9) (sz := 1) hf rfl rfl (fun w => by kernel_rfl) rfl rfl hO fun a b7 w hf hO => ?_
 refine op_mv hf rfl rfl fun a hf => ?_
 obtain ⟨hg10, hm⟩ := og hm
 refine op_appendT el_50 (enc := enc_str) (xs := ([x_v.Proto, [47]] : List Str)) (ys := ([x_v.Version, [32], x_v.By] : List Str)) (i := 0) (fun _ => rfl) rfl (hO.rowSees (i := 1) rfl) (by simp [cells, enc_str, Value.oneCell']) hg10 hf rfl rfl rfl hO fun a p8 c9 w hf hO => ?_
 refine op_as hf rfl rfl fun a hf => ?_
 refine wpList_nil ?_
 refine nor_then ?_
 exact ⟨p8, c9, ([x_v.Proto, [47]] : List Str) ++ ([x_v.Version, [32], x_v.By] : List Str), (hf.cons rfl (hf.cons rfl hf.nil)), (hO.choose [2, 0] rfl), hm⟩
 have hm := ie hc6 hm
 refine wp_skip ?_
 refine nor_then ?_
 exact ⟨some ⟨b3, 0, none⟩, 3, ([x_v.Version, [32], x_v.By] : List Str), (hf.cons rfl (hf.cons rfl hf.nil)), (hO.choose [1, 0] rfl), hm⟩
 rintro a w ⟨p11, c12, l13, hf, hO, hm⟩
 rw [via_Text_j1] at hm
 refine wp_seq_cut (fun a w => ∃ (p20 : Option Addr) (c21 : Nat) (l22 : List Str), Fits 44 [(1, ptr b1 0), (4, .slice p20 l22.length c21)] a ∧ Dk.Own w0 [] w [.blk b1 [str x_v.Proto, str x_v.Version, str x_v.By, str x_v.Comment] 40, .row (.slice p20 l22.length c21) 9 1 l22.length (cells enc_str l22)] ∧ via_Text_j2 x_v l22 = some R) ?_ ?_
 refine wp_seq_k fun _ hK14 => ?_
 refine wp_region_list ?_
 refine op_val (ex_field fa_40_3 hf rfl) rfl hf rfl rfl fun a hf => ?_
 refine op_val (ex_load1 (o := 3) ag_9 (hO.blkSees (i := 0) rfl) rfl hf rfl) rfl hf rfl rfl fun a hf => ?_
 refine op_val (ex_neq_s (l := x_v.Comment) (m := []) hf rfl rfl) rfl hf rfl rfl fun a hf => ?_
 refine wpList_nil ?_
 refine nor_then (hK14 _ _ ?_)
 refine wp_cond_cut hf rfl (fun hc15 => ?_) (fun hc15 => ?_)
 have hm := it hc15 hm
 refine wp_region_list ?_
 refine op_mv hf rfl rfl fun a hf => ?_
 refine op_val (ex_field fa_40_3 hf rfl) rfl hf rfl rfl fun a hf => ?_
 refine op_val (ex_load1 (o := 3) ag_9 (hO.blkSees (i := 0) rfl) rfl hf rfl) rfl hf rfl rfl fun a hf => ?_
 refine op_buildSlice (vs := [(0, str [32, 40]), (1, str x_v.Comment), (2, str [41])]) (cs := [str [32, 40], str x_v.Comment, str [41]]) (e := 9) (sz := 1) hf rfl rfl (fun w => by kernel_rfl) rfl rfl hO fun a b16 w hf hO => ?_
 obtain ⟨hg19, hm⟩ := og hm
 refine op_appendT el_50 (enc := enc_str) (xs := l13) (ys := ([[32, 40], x_v.Comment, [41]] : List Str)) (i := 2) (fun _ => rfl) rfl (hO.rowSees (i := 0) rfl) (by simp [cells, enc_str, Value.oneCell']) hg19 hf rfl rfl rfl hO fun a p17 c18 w hf hO => ?_
 refine op_as hf rfl rfl fun a hf => ?_
 refine wpList_nil ?_
 refine nor_then ?_
 exact ⟨p17, c18, l13 ++ ([[32, 40], x_v.Comment, [41]] : List Str), (hf.cons rfl (hf.cons rfl hf.nil)), (hO.sub (.cons _ (.cons_cons _ (.cons_cons _ .slnil)))), hm⟩
 have hm := ie hc15 hm
 refine wp_skip ?_
 refine nor_then ?_
 exact ⟨p11, c12, l13, (hf.cons rfl (hf.cons rfl hf.nil)), hO, hm⟩
 rintro a w ⟨p20, c21, l22, hf, hO, hm⟩
 rw [via_Text_j2] at hm
 refine wp_seq_k fun _ hK24 => ?_
 refine wp_region_list ?_
 refine op_mv hf rfl rfl fun a hf => ?_
 obtain ⟨r23, hr23, hm⟩ := ob hm
 refine op_enter (ex_call c_56 hf (vs := [str [], .slice p20 l22.length c21]) rfl) rfl hf rfl rfl (w_quill_Join [] l22 r23 _ (hG.own hF hO).1 (hO.rowSees (i := 1) rfl) (hO.rowCap (i := 1) rfl) hr23) ?_
 rintro e w' ⟨he, hb⟩
 refine ⟨_, he, fun a hf => ?_⟩
 have hO := hO.grow hb
 refine op_as hf rfl rfl fun a hf => ?_
 refine wpList_nil ?_
 refine nor_then (hK24 _ _ ?_)
 refine wp_seq_k fun _ hK32 => ?_
 refine wp_seq_k fun _ hK27 => ?_
 refine wp_region_list ?_
 refine op_mv hf rfl rfl fun a hf => ?_
 obtain ⟨r25, hr25, hm⟩ := ob hm
 refine op_enter (ex_call c_18 hf (vs := [str r23]) rfl) rfl hf rfl rfl (w_via_Parse r23 r25 _ (hG.own hF hO) hr25) ?_
 rintro e w' ⟨he, hb⟩
 refine ⟨_, he, fun a hf => ?_⟩
 have hO := hO.grow hb
 refine op_mv hf rfl rfl fun a hf => ?_
 refine op_val (ex_extract hf rfl rfl) rfl hf rfl rfl fun a hf => ?_
 refine op_val (ex_extract hf rfl rfl) rfl hf rfl rfl fun a hf => ?_
 refine op_alloc al_40 hf rfl hO fun a b26 w hf hO => ?_
 refine op_storeN (i := 0) (n := 4) sz_40 rfl rfl rfl (by simp [Value.oneCell']) hf rfl rfl hO fun w hO => ?_
 refine op_as hf rfl rfl fun a hf => ?_
 refine wpList_nil ?_
 refine nor_then (hK27 _ _ ?_)
 refine wp_seq_cut (fun a w => ∃ (t29 : Bool), Fits 44 [(5, str r23), (42, .bool t29)] a ∧ Dk.Own w0 [] w [.blk b26 [str r25.1.Proto, str r25.1.Version, str r25.1.By, str r25.1.Comment] 40, .blk b1 [str x_v.Proto, str x_v.Version, str x_v.By, str x_v.Comment] 40, .row (.slice p20 l22.length c21) 9 1 l22.length (cells enc_str l22)] ∧ via_Text_j3 r23 t29 = some R) ?_ ?_
 refine wp_region_list ?_
 refine op_mv hf rfl rfl fun a hf => ?_
 refine op_val (ex_neq (m := r25.2) (n := 0) hf rfl rfl) rfl hf rfl rfl fun a hf => ?_
 refine op_mv hf rfl rfl fun a hf => ?_
 rcases bcase (!(r25.2 == 0)) with hc28 | hc28
 have hm := it hc28 hm
 refine op_pass rfl hf rfl rfl (hc28) rfl rfl fun a hf => ?_
 refine op_pass rfl hf rfl rfl (hc28) rfl rfl fun a hf => ?_
 refine op_pass rfl hf rfl rfl (hc28) rfl rfl fun a hf => ?_
 refine op_val (ex_pick_t hf rfl hc28 rfl) rfl hf rfl rfl fun a hf => ?_
 refine wpList_nil ?_
 refine nor_then ?_
 exact ⟨true, (hf.cons rfl (hf.cons rfl hf.nil)), hO, hm⟩
 have hm := ie hc28 hm
 refine op_guard rfl hf rfl rfl (hc28) ?_
 refine op_val (ex_loadN (o := 0) (vs := [str r25.1.Proto, str r25.1.Version, str r25.1.By, str r25.1.Comment]) ag_40 sz_40 (hO.blkSees (i := 0) rfl) rfl rfl hf rfl) rfl hf rfl rfl fun a hf => ?_
 refine op_guard rfl hf rfl rfl (hc28) ?_
 refine op_val (ex_loadN (o := 0) (vs := [str x_v.Proto, str x_v.Version, str x_v.By, str x_v.Comment]) ag_40 sz_40 (hO.blkSees (i := 1) rfl) rfl rfl hf rfl) rfl hf rfl rfl fun a hf => ?_
 refine op_guard rfl hf rfl rfl (hc28) ?_
 refine op_val (ex_neq_t (by kernel_rfl) (eq_40 r25.1 x_v) hf rfl rfl) rfl hf rfl rfl fun a hf => ?_
 refine op_val (ex_pick_f hf rfl hc28 rfl) rfl hf rfl rfl fun a hf => ?_
 refine wpList_nil ?_
 refine nor_then ?_
 exact ⟨!(r25.1 == x_v), (hf.cons rfl (hf.cons rfl hf.nil)), hO, hm⟩
 rintro a w ⟨t29, hf, hO, hm⟩
 rw [via_Text_j3] at hm
 refine wp_cond_cut hf rfl (fun hc30 => ?_) (fun hc30 => ?_)
 have hm := it hc30 hm
 refine wp_seq_k fun _ hK31 => ?_
 refine wp_region_list ?_
 refine op_as hf rfl rfl fun a hf => ?_
 refine op_as hf rfl rfl fun a hf => ?_
 refine wpList_nil ?_
 refine nor_then (hK31 _ _ ?_)
 refine wp_ret ?_
 refine ret_then ?_
 obtain rfl := Option.some.inj hm
 exact post_ret Tryz.results23 hf (.tmp rfl (.tmp rfl .nil)) ⟨rfl, hO.below⟩
 have hm := ie hc30 hm
 refine wp_skip ?_
 refine nor_then (hK32 _ _ ?_)
 refine wp_seq_k fun _ hK33 => ?_
 refine wp_region_list ?_
 refine op_mv hf rfl rfl fun a hf => ?_
 refine op_as hf rfl rfl fun a hf => ?_
 refine op_as hf rfl rfl fun a hf => ?_
 refine wpList_nil ?_
 refine nor_then (hK33 _ _ ?_)
 refine wp_ret ?_
 obtain rfl := Option.some.inj hm
 exact post_ret Tryz.results23 hf (.tmp rfl (.tmp rfl .nil)) ⟨rfl, hO.below⟩

set_option maxHeartbeats 1000000 in
theorem w_law25_ViaReads (x_a0 : Str) (R : Bool) (w0 : World) (hG : GlobT w0) (hm : law25_ViaReads x_a0 = some R) :
    Calls Tryz.prog 4 #[str x_a0] w0 fun e w' => e = .returned (.bool R) ∧ Below w0.heap.size w0 w' := by
 rw [law25_ViaReads] at hm
 refine calls_enter (vs := [str x_a0]) Tryz.func4 rfl Tryz.ntmps4 rfl fun a hf => ?_
 have hF : Away [] := away_nil
 have hO : Dk.Own w0 [] w0 [] := Dk.Own.refl w0
 refine wp_seq_k fun _ hK1 => ?_
 refine wp_region_list ?_
 refine op_as hf rfl rfl fun a hf => ?_
 refine wpList_nil ?_
 refine nor_then (hK1 _ _ ?_)
 refine wp_seq_k fun _ hK6 => ?_
 refine wp_seq_k fun _ hK3 => ?_
 refine wp_region_list ?_
 obtain ⟨r2, hr2, hm⟩ := ob hm
 refine op_enter (ex_call c_17 hf (vs := []) rfl) rfl hf rfl rfl (w_law25_awake r2 _ (hG.own hF hO) hr2) ?_
 rintro e w' ⟨he, hb⟩
 refine ⟨_, he, fun a hf => ?_⟩
 have hO := hO.grow hb
 refine op_val (ex_not hf rfl) rfl hf rfl rfl fun a hf => ?_
 refine wpList_nil ?_
 refine nor_then (hK3 _ _ ?_)
 refine wp_cond_cut hf rfl (fun hc4 => ?_) (fun hc4 => ?_)
 have hm := it hc4 hm
 refine wp_seq_k fun _ hK5 => ?_
 refine wp_region_list ?_
 refine op_as hf rfl rfl fun a hf => ?_
 refine wpList_nil ?_
 refine nor_then (hK5 _ _ ?_)
 refine wp_ret ?_
 refine ret_then ?_
 obtain rfl := Option.some.inj hm
 exact post_ret Tryz.results4 hf (.tmp rfl .nil) ⟨rfl, hO.below⟩
 have hm := ie hc4 hm
 refine wp_skip ?_
 refine nor_then (hK6 _ _ ?_)
 refine wp_seq_k fun _ hK8 => ?_
 refine wp_region_list ?_
 refine op_mv hf rfl rfl fun a hf => ?_
 refine op_mv hf rfl rfl fun a hf => ?_
 refine op_val (ex_len_s (l := x_a0) Tryz.underlying9 hf rfl) rfl hf rfl rfl fun a hf => ?_
 refine op_val (ex_min (m := (x_a0.length : Int)) (n := 200) hf rfl rfl) rfl hf rfl rfl fun a hf => ?_
 obtain ⟨s7, hs7, hm⟩ := ob hm
 refine op_val (ex_to_s (l := x_a0) Tryz.underlying9 hf rfl rfl hs7) rfl hf rfl rfl fun a hf => ?_
 refine op_as hf rfl rfl fun a hf => ?_
 refine wpList_nil ?_
 refine nor_then (hK8 _ _ ?_)
 refine wp_seq_k fun _ hK11 => ?_
 refine wp_region_list ?_
 refine op_mv hf rfl rfl fun a hf => ?_
 obtain ⟨r9, hr9, hm⟩ := ob hm
 refine op_enter (ex_call c_18 hf (vs := [str s7]) rfl) rfl hf rfl rfl (w_via_Parse s7 r9 _ (hG.own hF hO) hr9) ?_
 rintro e w' ⟨he, hb⟩
 refine ⟨_, he, fun a hf => ?_⟩
 have hO := hO.grow hb
 refine op_mv hf rfl rfl fun a hf => ?_
 refine op_val (ex_extract hf rfl rfl) rfl hf rfl rfl fun a hf => ?_
 refine op_val (ex_extract hf rfl rfl) rfl hf rfl rfl fun a hf => ?_
 refine op_alloc al_40 hf rfl hO fun a b10 w hf hO => ?_
 refine op_storeN (i := 0) (n := 4) sz_40 rfl rfl rfl (by simp [Value.oneCell']) hf rfl rfl hO fun w hO => ?_
 refine op_as hf rfl rfl fun a hf => ?_
 refine wpList_nil ?_
 refine nor_then (hK11 _ _ ?_)
 refine wp_seq_k fun _ hK14 => ?_
 refine wp_region_list ?_
 refine op_mv hf rfl rfl fun a hf => ?_
 obtain ⟨r12, hr12, hm⟩ := ob hm
 refine op_enter (ex_call c_19 hf (vs := [str s7]) rfl) rfl hf rfl rfl (w_ref25_Parse s7 r12 _ (hG.own hF hO).1 hr12) ?_
 rintro e w' ⟨he, hb⟩
 refine ⟨_, he, fun a hf => ?_⟩
 have hO := hO.grow hb
 refine op_mv hf rfl rfl fun a hf => ?_
 refine op_val (ex_extract hf rfl rfl) rfl hf rfl rfl fun a hf => ?_
 refine op_val (ex_extract hf rfl rfl) rfl hf rfl rfl fun a hf => ?_
 refine op_alloc al_40 hf rfl hO fun a b13 w hf hO => ?_
 refine op_storeN (i := 0) (n := 4) sz_40 rfl rfl rfl (by simp [Value.oneCell']) hf rfl rfl hO fun w hO => ?_
 refine op_as hf rfl rfl fun a hf => ?_
 refine wpList_nil ?_
 refine nor_then (hK14 _ _ ?_)
 refine wp_seq_k fun _ hK19 => ?_
 refine wp_region_list ?_
 refine op_mv hf rfl rfl fun a hf => ?_
 refine op_mv hf rfl rfl fun a hf => ?_
 refine op_buildSlice (vs := [(0, str s7), (1, str s7)]) (cs := [str s7, str s7]) (e := 9) (sz := 1) hf rfl rfl (fun w => by kernel_rfl) rfl rfl hO fun a b15 w hf hO => ?_
 obtain ⟨r16, hr16, hm⟩ := ob hm
 refine op_enter (ex_call c_20 hf (vs := [.slice (some ⟨b15, 0, none⟩) (([s7, s7] : List Str).length) 2]) rfl) rfl hf rfl rfl (w_via_List ([s7, s7] : List Str) r16 _ (hG.own hF hO) (hO.rowSees (i := 0) rfl) (hO.rowCap (i := 0) rfl) hr16) ?_
 rintro e w' ⟨p17, c18, he, hO'⟩
 refine ⟨_, he, fun a hf => ?_⟩
 have hO := hO.call hO' (by simp [Res.shared])
 refine op_mv hf rfl rfl fun a hf => ?_
 refine op_val (ex_extract hf rfl rfl) rfl hf rfl rfl fun a hf => ?_
 refine op_val (ex_extract hf rfl rfl) rfl hf rfl rfl fun a hf => ?_
 refine op_as hf rfl rfl fun a hf => ?_
 refine op_as hf rfl rfl fun a hf => ?_
 refine wpList_nil ?_
 refine nor_then (hK19 _ _ ?_)
 refine wp_seq_k fun _ hK24 => ?_
 refine wp_region_list ?_
 refine op_mv hf rfl rfl fun a hf => ?_
 refine op_mv hf rfl rfl fun a hf => ?_
 refine op_buildSlice (vs := [(0, str s7), (1, str s7)]) (cs := [str s7, str s7]) (e := 9) (sz := 1) hf rfl rfl (fun w => by kernel_rfl) rfl rfl hO fun a b20 w hf hO => ?_
 obtain ⟨r21, hr21, hm⟩ := ob hm
 refine op_enter (ex_call c_21 hf (vs := [.slice (some ⟨b20, 0, none⟩) (([s7, s7] : List Str).length) 2]) rfl) rfl hf rfl rfl (w_ref25_List ([s7, s7] : List Str) r21 _ (hG.own hF hO).1 (hO.rowSees (i := 0) rfl) (hO.rowCap (i := 0) rfl) hr21) ?_
 rintro e w' ⟨p22, c23, he, hO'⟩
 refine ⟨_, he, fun a hf => ?_⟩
 have hO := hO.call hO' (by simp [Res.shared])
 refine op_mv hf rfl rfl fun a hf => ?_
 refine op_val (ex_extract hf rfl rfl) rfl hf rfl rfl fun a hf => ?_
 refine op_val (ex_extract hf rfl rfl) rfl hf rfl rfl fun a hf => ?_
 refine op_as hf rfl rfl fun a hf => ?_
 refine op_as hf rfl rfl fun a hf => ?_
 refine wpList_nil ?_
 refine nor_then (hK24 _ _ ?_)
 refine wp_seq_k fun _ hK32 => ?_
 refine wp_seq_cut (fun a w => ∃ (t29 : Bool), Fits 79 [(0, str s7), (3, ptr b10 0), (4, int r9.2), (62, .bool t29)] a ∧ Dk.Own w0 [] w [.row (.slice p22 r21.1.length c23) 40 4 r21.1.length (cells enc_api_Via r21.1), .row (.slice (some ⟨b20, 0, none⟩) (([s7, s7] : List Str).length) 2) 9 1 (([s7, s7] : List Str).length) (cells enc_str ([s7, s7] : List Str)), .row (.slice p17 r16.1.length c18) 40 4 r16.1.length (cells enc_api_Via r16.1), .row (.slice (some ⟨b15, 0, none⟩) (([s7, s7] : List Str).length) 2) 9 1 (([s7, s7] : List Str).length) (cells enc_str ([s7, s7] : List Str)), .blk b13 [str r12.1.Proto, str r12.1.Version, str r12.1.By, str r12.1.Comment] 40, .blk b10 [str r9.1.Proto, str r9.1.Version, str r9.1.By, str r9.1.Comment] 40] ∧ law25_ViaReads_j1 s7 r9 t29 = some R) ?_ ?_
 refine wp_region_list ?_
 refine op_val (ex_loadN (o := 0) (vs := [str r9.1.Proto, str r9.1.Version, str r9.1.By, str r9.1.Comment]) ag_40 sz_40 (hO.blkSees (i := 5) rfl) rfl rfl hf rfl) rfl hf rfl rfl fun a hf => ?_
 refine op_val (ex_loadN (o := 0) (vs := [str r12.1.Proto, str r12.1.Version, str r12.1.By, str r12.1.Comment]) ag_40 sz_40 (hO.blkSees (i := 4) rfl) rfl rfl hf rfl) rfl hf rfl rfl fun a hf => ?_
 refine op_val (ex_neq_t (by kernel_rfl) (eq_40 r9.1 r12.1) hf rfl rfl) rfl hf rfl rfl fun a hf => ?_
 refine op_mv hf rfl rfl fun a hf => ?_
 rcases bcase (!(r9.1 == r12.1)) with hc25 | hc25
 have hm := it hc25 hm
 refine op_pass rfl hf rfl rfl (hc25) rfl rfl fun a hf => ?_
 refine op_pass rfl hf rfl rfl (hc25) rfl rfl fun a hf => ?_
 refine op_pass rfl hf rfl rfl (hc25) rfl rfl fun a hf => ?_
 refine op_val (ex_pick_t hf rfl hc25 rfl) rfl hf rfl rfl fun a hf => ?_
 refine op_mv hf rfl rfl fun a hf => ?_
 refine op_pass rfl hf rfl rfl (rfl) rfl rfl fun a hf => ?_
 refine op_pass rfl hf rfl rfl (rfl) rfl rfl fun a hf => ?_
 refine op_pass rfl hf rfl rfl (rfl) rfl rfl fun a hf => ?_
 refine op_pass rfl hf rfl rfl (rfl) rfl rfl fun a hf => ?_
 refine op_val (ex_pick_t hf rfl rfl rfl) rfl hf rfl rfl fun a hf => ?_
 refine op_mv hf rfl rfl fun a hf => ?_
 refine op_pass rfl hf rfl rfl (rfl) rfl rfl fun a hf => ?_
 refine op_pass rfl hf rfl rfl (rfl) rfl rfl fun a hf => ?_
 refine op_pass rfl hf rfl rfl (rfl) rfl rfl fun a hf => ?_
 refine op_val (ex_pick_t hf rfl rfl rfl) rfl hf rfl rfl fun a hf => ?_
 refine wpList_nil ?_
 refine nor_then ?_
 exact ⟨true, (hf.cons rfl (hf.cons rfl (hf.cons rfl (hf.cons rfl hf.nil)))), hO, hm⟩
 have hm := ie hc25 hm
 refine op_guard rfl hf rfl rfl (hc25) ?_
 refine op_mv hf rfl rfl fun a hf => ?_
 refine op_guard rfl hf rfl rfl (hc25) ?_
 refine op_mv hf rfl rfl fun a hf => ?_
 refine op_guard rfl hf rfl rfl (hc25) ?_
 refine op_val (ex_neq (m := r9.2) (n := r12.2) hf rfl rfl) rfl hf rfl rfl fun a hf => ?_
 refine op_val (ex_pick_f hf rfl hc25 rfl) rfl hf rfl rfl fun a hf => ?_
 refine op_mv hf rfl rfl fun a hf => ?_
 rcases bcase (!(r9.2 == r12.2)) with hc26 | hc26
 have hm := it hc26 hm
 refine op_pass rfl hf rfl rfl (hc26) rfl rfl fun a hf => ?_
 refine op_pass rfl hf rfl rfl (hc26) rfl rfl fun a hf => ?_
 refine op_pass rfl hf rfl rfl (hc26) rfl rfl fun a hf => ?_
 refine op_pass rfl hf rfl rfl (hc26) rfl rfl fun a hf => ?_
 refine op_val (ex_pick_t hf rfl hc26 rfl) rfl hf rfl rfl fun a hf => ?_
 refine op_mv hf rfl rfl fun a hf => ?_
 refine op_pass rfl hf rfl rfl (rfl) rfl rfl fun a hf => ?_
 refine op_pass rfl hf rfl rfl (rfl) rfl rfl fun a hf => ?_
 refine op_pass rfl hf rfl rfl (rfl) rfl rfl fun a hf => ?_
 refine op_val (ex_pick_t hf rfl rfl rfl) rfl hf rfl rfl fun a hf => ?_
 refine wpList_nil ?_
 refine nor_then ?_
 exact ⟨true, (hf.cons rfl (hf.cons rfl (hf.cons rfl (hf.cons rfl hf.nil)))), hO, hm⟩
 have hm := ie hc26 hm
 refine op_guard rfl hf rfl rfl (hc26) ?_
 refine op_mv hf rfl rfl fun a hf => ?_
 refine op_guard rfl hf rfl rfl (hc26) ?_
 refine op_mv hf rfl rfl fun a hf => ?_
 refine op_guard rfl hf rfl rfl (hc26) ?_
 obtain ⟨r27, hr27, hm⟩ := ob hm
 refine op_enter (ex_call c_22 hf (vs := [.slice p17 r16.1.length c18, .slice p22 r21.1.length c23]) rfl) rfl hf rfl rfl (w_ref25_Same r16.1 r21.1 r27 _ (hG.own hF hO).1 (hO.rowSees (i := 2) rfl) (hO.rowCap (i := 2) rfl) (hO.rowSees (i := 0) rfl) (hO.rowCap (i := 0) rfl) hr27) ?_
 rintro e w' ⟨he, hb⟩
 refine ⟨_, he, fun a hf => ?_⟩
 have hO := hO.grow hb
 refine op_guard rfl hf rfl rfl (hc26) ?_
 refine op_val (ex_not hf rfl) rfl hf rfl rfl fun a hf => ?_
 refine op_val (ex_pick_f hf rfl hc26 rfl) rfl hf rfl rfl fun a hf => ?_
 refine op_mv hf rfl rfl fun a hf => ?_
 rcases bcase (!r27) with hc28 | hc28
 have hm := it hc28 hm
 refine op_pass rfl hf rfl rfl (hc28) rfl rfl fun a hf => ?_
 refine op_pass rfl hf rfl rfl (hc28) rfl rfl fun a hf => ?_
 refine op_pass rfl hf rfl rfl (hc28) rfl rfl fun a hf => ?_
 refine op_val (ex_pick_t hf rfl hc28 rfl) rfl hf rfl rfl fun a hf => ?_
 refine wpList_nil ?_
 refine nor_then ?_
 exact ⟨true, (hf.cons rfl (hf.cons rfl (hf.cons rfl (hf.cons rfl hf.nil)))), hO, hm⟩
 have hm := ie hc28 hm
 refine op_guard rfl hf rfl rfl (hc28) ?_
 refine op_mv hf rfl rfl fun a hf => ?_
 refine op_guard rfl hf rfl rfl (hc28) ?_
 refine op_mv hf rfl rfl fun a hf => ?_
 refine op_guard rfl hf rfl rfl (hc28) ?_
 refine op_val (ex_neq (m := r16.2) (n := r21.2) hf rfl rfl) rfl hf rfl rfl fun a hf => ?_
 refine op_val (ex_pick_f hf rfl hc28 rfl) rfl hf rfl rfl fun a hf => ?_
 refine wpList_nil ?_
 refine nor_then ?_
 exact ⟨!(r16.2 == r21.2), (hf.cons rfl (hf.cons rfl (hf.cons rfl (hf.cons rfl hf.nil)))), hO, hm⟩
 rintro a w ⟨t29, hf, hO, hm⟩
 rw [law25_ViaReads_j1] at hm
 refine wp_cond_cut hf rfl (fun hc30 => ?_) (fun hc30 => ?_)
 have hm := it hc30 hm
 refine wp_seq_k fun _ hK31 => ?_
 refine wp_region_list ?_
 refine op_as hf rfl rfl fun a hf => ?_
 refine wpList_nil ?_
 refine nor_then (hK31 _ _ ?_)
 refine wp_ret ?_
 refine ret_then ?_
 obtain rfl := Option.some.inj hm
 exact post_ret Tryz.results4 hf (.tmp rfl .nil) ⟨rfl, hO.below⟩
 have hm := ie hc30 hm
 refine wp_skip ?_
 refine nor_then (hK32 _ _ ?_)
 refine wp_seq_k fun _ hK34 => ?_
 refine wp_region_list ?_
 refine op_val (ex_loadN (o := 0) (vs := [str r9.1.Proto, str r9.1.Version, str r9.1.By, str r9.1.Comment]) ag_40 sz_40 (hO.blkSees (i := 5) rfl) rfl rfl hf rfl) rfl hf rfl rfl fun a hf => ?_
 obtain ⟨r33, hr33, hm⟩ := ob hm
 refine op_enter (ex_call c_23 hf (vs := [.agg #[str r9.1.Proto, str r9.1.Version, str r9.1.By, str r9.1.Comment]]) rfl) rfl hf rfl rfl (w_via_Text r9.1 r33 _ (hG.own hF hO) hr33) ?_
 rintro e w' ⟨he, hb⟩
 refine ⟨_, he, fun a hf => ?_⟩
 have hO := hO.grow hb
 refine op_mv hf rfl rfl fun a hf => ?_
 refine op_val (ex_extract hf rfl rfl) rfl hf rfl rfl fun a hf => ?_
 refine op_val (ex_extract hf rfl rfl) rfl hf rfl rfl fun a hf => ?_
 refine op_as hf rfl rfl fun a hf => ?_
 refine op_as hf rfl rfl fun a hf => ?_
 refine wpList_nil ?_
 refine nor_then (hK34 _ _ ?_)
 refine wp_seq_cut (fun a w => ∃ (t37 : Bool), Fits 79 [(2, .bool t37)] a ∧ Dk.Own w0 [] w [.row (.slice p22 r21.1.length c23) 40 4 r21.1.length (cells enc_api_Via r21.1), .row (.slice (some ⟨b20, 0, none⟩) (([s7, s7] : List Str).length) 2) 9 1 (([s7, s7] : List Str).length) (cells enc_str ([s7, s7] : List Str)), .row (.slice p17 r16.1.length c18) 40 4 r16.1.length (cells enc_api_Via r16.1), .row (.slice (some ⟨b15, 0, none⟩) (([s7, s7] : List Str).length) 2) 9 1 (([s7, s7] : List Str).length) (cells enc_str ([s7, s7] : List Str)), .blk b13 [str r12.1.Proto, str r12.1.Version, str r12.1.By, str r12.1.Comment] 40, .blk b10 [str r9.1.Proto, str r9.1.Version, str r9.1.By, str r9.1.Comment] 40] ∧ law25_ViaReads_j2 t37 = some R) ?_ ?_
 refine wp_region_list ?_
 refine op_mv hf rfl rfl fun a hf => ?_
 refine op_val (ex_neq (m := r9.2) (n := 0) hf rfl rfl) rfl hf rfl rfl fun a hf => ?_
 refine op_mv hf rfl rfl fun a hf => ?_
 rcases bcase (!(r9.2 == 0)) with hc35 | hc35
 have hm := it hc35 hm
 refine op_pass rfl hf rfl rfl (hc35) rfl rfl fun a hf => ?_
 refine op_pass rfl hf rfl rfl (hc35) rfl rfl fun a hf => ?_
 refine op_pass rfl hf rfl rfl (hc35) rfl rfl fun a hf => ?_
 refine op_passu rfl hf rfl rfl rfl rfl fun a hf => ?_
 refine op_passu rfl hf rfl rfl rfl rfl fun a hf => ?_
 refine op_passu rfl hf rfl rfl rfl rfl fun a hf => ?_
 refine op_pass rfl hf rfl rfl (hc35) rfl rfl fun a hf => ?_
 refine op_val (ex_pick_t hf rfl hc35 rfl) rfl hf rfl rfl fun a hf => ?_
 refine op_as hf rfl rfl fun a hf => ?_
 refine wpList_nil ?_
 refine nor_then ?_
 exact ⟨true, (hf.cons rfl hf.nil), hO, hm⟩
 have hm := ie hc35 hm
 refine op_guard rfl hf rfl rfl (hc35) ?_
 refine op_mv hf rfl rfl fun a hf => ?_
 refine op_guard rfl hf rfl rfl (hc35) ?_
 refine op_val (ex_eql (m := r33.2) (n := 0) hf rfl rfl) rfl hf rfl rfl fun a hf => ?_
 refine op_guard rfl hf rfl rfl (hc35) ?_
 refine op_mv hf rfl rfl fun a hf => ?_
 rcases bcase (r33.2 == 0) with hc36 | hc36
 have hm := it hc36 hm
 refine op_guard rfl hf rfl rfl (hc36) ?_
 refine op_mv hf rfl rfl fun a hf => ?_
 refine op_guard rfl hf rfl rfl (hc36) ?_
 refine op_mv hf rfl rfl fun a hf => ?_
 refine op_guard rfl hf rfl rfl (hc36) ?_
 refine op_val (ex_eql_s (l := r33.1) (m := s7) hf rfl rfl) rfl hf rfl rfl fun a hf => ?_
 refine op_guard rfl hf rfl rfl (hc35) ?_
 refine op_val (ex_pick_t hf rfl hc36 rfl) rfl hf rfl rfl fun a hf => ?_
 refine op_val (ex_pick_f hf rfl hc35 rfl) rfl hf rfl rfl fun a hf => ?_
 refine op_as hf rfl rfl fun a hf => ?_
 refine wpList_nil ?_
 refine nor_then ?_
 exact ⟨r33.1 == s7, (hf.cons rfl hf.nil), hO, hm⟩
 have hm := ie hc36 hm
 refine op_pass rfl hf rfl rfl (hc36) rfl rfl fun a hf => ?_
 refine op_pass rfl hf rfl rfl (hc36) rfl rfl fun a hf => ?_
 refine op_pass rfl hf rfl rfl (hc36) rfl rfl fun a hf => ?_
 refine op_guard rfl hf rfl rfl (hc35) ?_
 refine op_val (ex_pick_f hf rfl hc36 rfl) rfl hf rfl rfl fun a hf => ?_
 refine op_val (ex_pick_f hf rfl hc35 rfl) rfl hf rfl rfl fun a hf => ?_
 refine op_as hf rfl rfl fun a hf => ?_
 refine wpList_nil ?_
 refine nor_then ?_
 exact ⟨false, (hf.cons rfl hf.nil), hO, hm⟩
 rintro a w ⟨t37, hf, hO, hm⟩
 rw [law25_ViaReads_j2] at hm
 refine wp_ret ?_
 obtain rfl := Option.some.inj hm
 exact post_ret Tryz.results4 hf (.tmp rfl .nil) ⟨rfl, hO.below⟩

end Go.Proofs
