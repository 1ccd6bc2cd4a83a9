/-
  Walks, written by a program (wip/gen): what its model says, the function returns; what was there before is as it was.
-/
import Derived.Test.YtpingffipghifaaGreatDoorLib
import Derived.Test.YtpingffipghifaaGreatDoorW2
import Derived.Test.YtpingffipghifaaGreatDoorW4
set_option linter.unusedVariables false
set_option linter.unusedSimpArgs false
set_option maxRecDepth 100000
namespace Go.Proofs
open Go.Dk Go.Dm Go.RowKit

set_option maxHeartbeats 1000000 in
theorem w_cookie_Parse (x_s : Str) (R : api_Cookie × Int) (w0 : World) (hG : Glob w0) (hm : cookie_Parse x_s = some R) :
    Calls Tryz.prog 13 #[str x_s] w0 fun e w' => ∃ (p0 : Option Addr) (c0 : Nat), e = .returned (.tuple #[.agg #[str R.1.Name, str R.1.Value, .slice p0 R.1.Attrs.length c0], int R.2]) ∧ Dk.Own w0 [] w' [.row (.slice p0 R.1.Attrs.length c0) 66 3 R.1.Attrs.length (cells enc_api_Attr R.1.Attrs)] := by
  rw [cookie_Parse] at hm
  refine calls_enter (vs := [str x_s]) Tryz.func13 rfl Tryz.ntmps13 rfl fun a hf => ?_
  have hF : Away [] := away_nil
  have hO : Dk.Own w0 [] w0 [] := Dk.Own.refl w0
  refine wp_seq_k fun _ hK2 => ?_
  refine wp_region_list ?_
  refine op_alloc al_33 hf rfl hO fun a b1 w hf hO => ?_
  have hO := hO.nilRow 66 3
  refine op_val (ex_assign hf rfl) rfl hf rfl rfl fun a hf => ?_
  refine wpList_nil ?_
  refine nor_then (hK2 _ _ ?_)
  refine wp_seq_k fun _ hK6 => ?_
  refine wp_region_list ?_
  refine op_val (ex_move hf rfl) rfl hf rfl rfl fun a hf => ?_
  obtain ⟨r3, hr3, hm⟩ := ob hm
  refine op_enter (ex_call c_36 hf (vs := [str x_s, str [59]]) rfl) rfl hf rfl rfl (w_strings_Split x_s [59] r3 _ (hG.own hF hO) hr3) ?_
  rintro e w' ⟨p4, c5, he, hO'⟩
  refine ⟨_, he, fun a hf => ?_⟩
  have hO := hO.call hO' (by simp [Res.shared])
  refine op_val (ex_assign hf rfl) rfl hf rfl rfl fun a hf => ?_
  refine wpList_nil ?_
  refine nor_then (hK6 _ _ ?_)
  refine wp_seq_k fun _ hK12 => ?_
  refine wp_region_list ?_
  refine op_val (ex_move hf rfl) rfl hf rfl rfl fun a hf => ?_
  obtain ⟨x7, hx7, hm⟩ := ob hm
  obtain ⟨b8, o9, hix7, hSx7, hAx7⟩ := elemAtRow (enc := enc_str) (sz := 1) (xs := r3) 70 Tryz.underlying70 sz_9 (by decide) (fun _ => rfl) hO (i := 0) rfl hx7
  refine op_val (ex_indexAddr hix7 hf rfl rfl) rfl hf rfl rfl fun a hf => ?_
  refine op_val (ex_load1 (o := 0) ag_9 (hSx7 _ (hO.rowSees (i := 0) rfl)) rfl hf rfl) rfl hf rfl rfl fun a hf => ?_
  obtain ⟨r10, hr10, hm⟩ := ob hm
  refine op_enter (ex_call c_37 hf (vs := [str x7]) rfl) rfl hf rfl rfl (w_cookie_part x7 r10 _ (hG.own hF hO) hr10) ?_
  rintro e w' ⟨he, hb⟩
  refine ⟨_, he, fun a hf => ?_⟩
  have hO := hO.grow hb
  refine op_val (ex_move hf rfl) rfl hf rfl rfl fun a hf => ?_
  refine op_val (ex_extract hf rfl rfl) rfl hf rfl rfl fun a hf => ?_
  refine op_val (ex_extract hf rfl rfl) rfl hf rfl rfl fun a hf => ?_
  refine op_alloc al_66 hf rfl hO fun a b11 w hf hO => ?_
  refine op_storeN (i := 0) (n := 3) sz_66 rfl rfl rfl (by simp [Value.oneCell']) hf rfl rfl hO fun w hO => ?_
  refine op_val (ex_assign hf rfl) rfl hf rfl rfl fun a hf => ?_
  refine wpList_nil ?_
  refine nor_then (hK12 _ _ ?_)
  refine wp_seq_k fun _ hK19 => ?_
  refine wp_seq_cut (fun a w => ∃ (t16 : Bool), Fits 63 [(2, ptr b1 0), (4, .slice p4 r3.length c5), (5, ptr b11 0), (33, .bool t16)] a ∧ Dk.Own w0 [] w [.blk b11 [str r10.1.Name, str r10.1.Value, .bool r10.1.Has] 66, .row (.slice p4 r3.length c5) 9 1 r3.length (cells enc_str r3), .row (.slice none 0 0) 66 3 0 (cells enc_api_Attr []), .blk b1 [str [], str [], .slice none 0 0] 33] ∧ cookie_Parse_j1 r3 r10 t16 = some R) ?_ ?_
  · refine wp_region_list ?_
    refine op_val (ex_move hf rfl) rfl hf rfl rfl fun a hf => ?_
    refine op_val (ex_not hf rfl) rfl hf rfl rfl fun a hf => ?_
    refine op_val (ex_move hf rfl) rfl hf rfl rfl fun a hf => ?_
    rcases bcase (!r10.2) with hc13 | hc13
    · have hm := it hc13 hm
      refine op_pass rfl hf rfl rfl (hc13) rfl rfl fun a hf => ?_
      refine op_pass rfl hf rfl rfl (hc13) rfl rfl fun a hf => ?_
      refine op_pass rfl hf rfl rfl (hc13) rfl rfl fun a hf => ?_
      refine op_val (ex_pick_t hf rfl hc13 rfl) rfl hf rfl rfl fun a hf => ?_
      refine op_val (ex_move hf rfl) rfl hf rfl rfl fun a hf => ?_
      refine op_pass rfl hf rfl rfl (rfl) rfl rfl fun a hf => ?_
      refine op_pass rfl hf rfl rfl (rfl) rfl rfl fun a hf => ?_
      refine op_pass rfl hf rfl rfl (rfl) rfl rfl fun a hf => ?_
      refine op_pass rfl hf rfl rfl (rfl) rfl rfl fun a hf => ?_
      refine op_val (ex_pick_t hf rfl rfl rfl) rfl hf rfl rfl fun a hf => ?_
      refine wpList_nil ?_
      refine nor_then ?_
      exact ⟨true, (hf.cons rfl (hf.cons rfl (hf.cons rfl (hf.cons rfl hf.nil)))), hO, hm⟩
    · have hm := ie hc13 hm
      refine op_guard rfl hf rfl rfl (hc13) ?_
      refine op_val (ex_field fa_66_2 hf rfl) rfl hf rfl rfl fun a hf => ?_
      refine op_guard rfl hf rfl rfl (hc13) ?_
      refine op_val (ex_load1 (o := 2) ag_4 (hO.blkSees (i := 0) rfl) rfl hf rfl) rfl hf rfl rfl fun a hf => ?_
      refine op_guard rfl hf rfl rfl (hc13) ?_
      refine op_val (ex_not hf rfl) rfl hf rfl rfl fun a hf => ?_
      refine op_val (ex_pick_f hf rfl hc13 rfl) rfl hf rfl rfl fun a hf => ?_
      refine op_val (ex_move hf rfl) rfl hf rfl rfl fun a hf => ?_
      rcases bcase (!r10.1.Has) with hc14 | hc14
      · have hm := it hc14 hm
        refine op_pass rfl hf rfl rfl (hc14) rfl rfl fun a hf => ?_
        refine op_pass rfl hf rfl rfl (hc14) rfl rfl fun a hf => ?_
        refine op_pass rfl hf rfl rfl (hc14) rfl rfl fun a hf => ?_
        refine op_pass rfl hf rfl rfl (hc14) rfl rfl fun a hf => ?_
        refine op_val (ex_pick_t hf rfl hc14 rfl) rfl hf rfl rfl fun a hf => ?_
        refine wpList_nil ?_
        refine nor_then ?_
        exact ⟨true, (hf.cons rfl (hf.cons rfl (hf.cons rfl (hf.cons rfl hf.nil)))), hO, hm⟩
      · have hm := ie hc14 hm
        refine op_guard rfl hf rfl rfl (hc14) ?_
        refine op_val (ex_field fa_66_1 hf rfl) rfl hf rfl rfl fun a hf => ?_
        refine op_guard rfl hf rfl rfl (hc14) ?_
        refine op_val (ex_load1 (o := 1) ag_9 (hO.blkSees (i := 0) rfl) rfl hf rfl) rfl hf rfl rfl fun a hf => ?_
        refine op_guard rfl hf rfl rfl (hc14) ?_
        obtain ⟨r15, hr15, hm⟩ := ob hm
        refine op_enter (ex_call c_38 hf (vs := [str r10.1.Value]) rfl) rfl hf rfl rfl (w_cookie_value r10.1.Value r15 _ (hG.own hF hO) hr15) ?_
        rintro e w' ⟨he, hb⟩
        refine ⟨_, he, fun a hf => ?_⟩
        have hO := hO.grow hb
        refine op_guard rfl hf rfl rfl (hc14) ?_
        refine op_val (ex_not hf rfl) rfl hf rfl rfl fun a hf => ?_
        refine op_val (ex_pick_f hf rfl hc14 rfl) rfl hf rfl rfl fun a hf => ?_
        refine wpList_nil ?_
        refine nor_then ?_
        exact ⟨!r15, (hf.cons rfl (hf.cons rfl (hf.cons rfl (hf.cons rfl hf.nil)))), hO, hm⟩
  · rintro a w ⟨t16, hf, hO, hm⟩
    rw [cookie_Parse_j1] at hm
    refine wp_cond_cut hf rfl (fun hc17 => ?_) (fun hc17 => ?_)
    · have hm := it hc17 hm
      refine wp_seq_k fun _ hK18 => ?_
      refine wp_region_list ?_
      refine op_val (ex_build (vs := []) (v := .agg #[str [], str [], .slice none 0 0]) hf rfl (by kernel_rfl)) rfl hf rfl rfl fun a hf => ?_
      refine op_storeN (i := 3) (n := 3) sz_33 rfl rfl rfl (by simp [Value.oneCell']) hf rfl rfl hO fun w hO => ?_
      have hO := hO.nilRow 66 3
      refine op_val (ex_assign hf rfl) rfl hf rfl rfl fun a hf => ?_
      refine wpList_nil ?_
      refine nor_then (hK18 _ _ ?_)
      refine wp_ret ?_
      refine ret_then ?_
      obtain rfl := Option.some.inj hm
      exact post_ret Tryz.results13 hf (.cell rfl (run_loadVarN (n := 3) (vs := [str [], str [], .slice none 0 0]) ag_33 sz_33 rfl ((hO.blkSees (i := 4) rfl).cells (o := 0) (n := 3) rfl)) (.tmp rfl .nil)) ⟨none, 0, rfl, (hO.sub (.cons_cons _ (.cons _ (.cons _ (.cons _ (.cons _ .slnil))))))⟩
    · have hm := ie hc17 hm
      refine wp_skip ?_
      refine nor_then (hK19 _ _ ?_)
      refine wp_seq_k fun _ hK21 => ?_
      refine wp_region_list ?_
      refine op_val (ex_field fa_66_0 hf rfl) rfl hf rfl rfl fun a hf => ?_
      refine op_val (ex_load1 (o := 0) ag_9 (hO.blkSees (i := 0) rfl) rfl hf rfl) rfl hf rfl rfl fun a hf => ?_
      refine op_val (ex_field fa_66_1 hf rfl) rfl hf rfl rfl fun a hf => ?_
      refine op_val (ex_load1 (o := 1) ag_9 (hO.blkSees (i := 0) rfl) rfl hf rfl) rfl hf rfl rfl fun a hf => ?_
      refine op_val (ex_build (vs := [(0, str r10.1.Name), (1, str r10.1.Value)]) (v := .agg #[str r10.1.Name, str r10.1.Value, .slice none 0 0]) hf rfl (by kernel_rfl)) rfl hf rfl rfl fun a hf => ?_
      refine op_alloc al_33 hf rfl hO fun a b20 w hf hO => ?_
      have hO := hO.nilRow 66 3
      refine op_storeN (i := 1) (n := 3) sz_33 rfl rfl rfl (by simp [Value.oneCell']) hf rfl rfl hO fun w hO => ?_
      have hO := hO.nilRow 66 3
      refine wpList_nil ?_
      refine nor_then (hK21 _ _ ?_)
      refine wp_seq_cut (fun a w => ∃ (p53 : Option Addr) (c54 : Nat) (l55 : List api_Attr) (s56 : Str) (s57 : Str), Fits 63 [(2, ptr b1 0), (7, ptr b20 0)] a ∧ Dk.Own w0 [] w [.row (.slice p53 l55.length c54) 66 3 l55.length (cells enc_api_Attr l55), .row (.slice none 0 0) 66 3 0 (cells enc_api_Attr []), .blk b20 [str s56, str s57, .slice p53 l55.length c54] 33, .blk b11 [str r10.1.Name, str r10.1.Value, .bool r10.1.Has] 66, .shr p4 (cells enc_str r3), .row (.slice none 0 0) 66 3 0 (cells enc_api_Attr []), .blk b1 [str [], str [], .slice none 0 0] 33] ∧ cookie_Parse_j3 l55 s56 s57 = some R) ?_ ?_
      · refine wp_seq_k fun _ hK26 => ?_
        refine wp_region_list ?_
        refine op_val (ex_move hf rfl) rfl hf rfl rfl fun a hf => ?_
        obtain ⟨l23, hl23, hm⟩ := ob hm
        have hcr22 := hO.rowCap (i := 4) rfl
        have hO := hO.giveRow (i := 4) rfl
        obtain ⟨p24, c25, hrl23, hVl23, hCl23, hPl23⟩ := sliceFrom (enc := enc_str) (xs := r3) 70 Tryz.underlying70 sz_9 (fun _ => rfl) (hO.sees (i := 4) rfl) hcr22 hl23
        have hO := hO.share (i := 4) rfl hPl23 (hVl23 _ (hO.sees (i := 4) rfl))
        refine op_val (ex_sliceFrom Tryz.underlying70 hrl23 hf rfl rfl) rfl hf rfl rfl fun a hf => ?_
        refine op_val (ex_len_l Tryz.underlying70 hf rfl) rfl hf rfl rfl fun a hf => ?_
        refine op_val (ex_move hf rfl) rfl hf rfl rfl fun a hf => ?_
        refine wpList_nil ?_
        refine nor_then (hK26 _ _ ?_)
        refine wp_block ?_
        refine wp_loop_n (fun k a w => ∃ (p27 : Option Addr) (c28 : Nat) (l29 : List api_Attr) (s30 : Str) (s31 : Str) (i32 : Int), Fits 63 [(2, ptr b1 0), (7, ptr b20 0), (41, .slice p24 l23.length c25), (42, int (l23.length : Int)), (43, int i32)] a ∧ Dk.Own w0 [] w [.shr p24 (cells enc_str l23), .row (.slice p27 l29.length c28) 66 3 l29.length (cells enc_api_Attr l29), .row (.slice none 0 0) 66 3 0 (cells enc_api_Attr []), .blk b20 [str s30, str s31, .slice p27 l29.length c28] 33, .blk b11 [str r10.1.Name, str r10.1.Value, .bool r10.1.Has] 66, .shr p4 (cells enc_str r3), .row (.slice none 0 0) 66 3 0 (cells enc_api_Attr []), .blk b1 [str [], str [], .slice none 0 0] 33] ∧ cookie_Parse_L2 l23 k l29 s30 s31 i32 = some R) ?_ fuel ?_
        · rintro n2 a w ⟨p27, c28, l29, s30, s31, i32, hf, hO, hm⟩
          obtain _ | n2 := n2
          · rw [cookie_Parse_L2] at hm
            cases hm
          · rw [cookie_Parse_L2] at hm
            refine wp_seq_k fun _ hK33 => ?_
            refine wp_region_list ?_
            refine op_val (ex_lss (m := i32) (n := (l23.length : Int)) hf rfl rfl) rfl hf rfl rfl fun a hf => ?_
            refine wpList_nil ?_
            refine nor_then (hK33 _ _ ?_)
            refine wp_seq_k fun _ hK35 => ?_
            refine wp_cond_cut hf rfl (fun hc34 => ?_) (fun hc34 => ?_)
            · have hm := it hc34 hm
              refine wp_skip ?_
              refine nor_then (hK35 _ _ ?_)
              refine wp_seq_k fun _ hK51 => ?_
              refine wp_block ?_
              refine wp_seq_k fun _ hK39 => ?_
              refine wp_region_list ?_
              obtain ⟨x36, hx36, hm⟩ := ob hm
              obtain ⟨b37, o38, hix36, hSx36⟩ := elemAt (enc := enc_str) (sz := 1) (xs := l23) 70 Tryz.underlying70 sz_9 (by decide) (fun _ => rfl) (hO.sees (i := 0) rfl) hx36
              refine op_val (ex_indexAddr hix36 hf rfl rfl) rfl hf rfl rfl fun a hf => ?_
              refine op_val (ex_load1 (o := 0) ag_9 (hSx36 _ (hO.sees (i := 0) rfl)) rfl hf rfl) rfl hf rfl rfl fun a hf => ?_
              refine op_val (ex_assign hf rfl) rfl hf rfl rfl fun a hf => ?_
              refine wpList_nil ?_
              refine nor_then (hK39 _ _ ?_)
              refine wp_seq_k fun _ hK42 => ?_
              refine wp_region_list ?_
              refine op_val (ex_move hf rfl) rfl hf rfl rfl fun a hf => ?_
              obtain ⟨r40, hr40, hm⟩ := ob hm
              refine op_enter (ex_call c_37 hf (vs := [str x36]) rfl) rfl hf rfl rfl (w_cookie_part x36 r40 _ (hG.own hF hO) hr40) ?_
              rintro e w' ⟨he, hb⟩
              refine ⟨_, he, fun a hf => ?_⟩
              have hO := hO.grow hb
              refine op_val (ex_move hf rfl) rfl hf rfl rfl fun a hf => ?_
              refine op_val (ex_extract hf rfl rfl) rfl hf rfl rfl fun a hf => ?_
              refine op_val (ex_extract hf rfl rfl) rfl hf rfl rfl fun a hf => ?_
              refine op_alloc al_66 hf rfl hO fun a b41 w hf hO => ?_
              refine op_storeN (i := 0) (n := 3) sz_66 rfl rfl rfl (by simp [Value.oneCell']) hf rfl rfl hO fun w hO => ?_
              refine op_val (ex_assign hf rfl) rfl hf rfl rfl fun a hf => ?_
              refine wpList_nil ?_
              refine nor_then (hK42 _ _ ?_)
              refine wp_seq_k fun _ hK46 => ?_
              refine wp_seq_k fun _ hK43 => ?_
              refine wp_region_list ?_
              refine op_val (ex_move hf rfl) rfl hf rfl rfl fun a hf => ?_
              refine op_val (ex_not hf rfl) rfl hf rfl rfl fun a hf => ?_
              refine wpList_nil ?_
              refine nor_then (hK43 _ _ ?_)
              refine wp_cond_cut hf rfl (fun hc44 => ?_) (fun hc44 => ?_)
              · have hm := it hc44 hm
                refine wp_seq_k fun _ hK45 => ?_
                refine wp_region_list ?_
                refine op_val (ex_build (vs := []) (v := .agg #[str [], str [], .slice none 0 0]) hf rfl (by kernel_rfl)) rfl hf rfl rfl fun a hf => ?_
                refine op_storeN (i := 8) (n := 3) sz_33 rfl rfl rfl (by simp [Value.oneCell']) hf rfl rfl hO fun w hO => ?_
                have hO := hO.nilRow 66 3
                refine op_val (ex_assign hf rfl) rfl hf rfl rfl fun a hf => ?_
                refine wpList_nil ?_
                refine nor_then (hK45 _ _ ?_)
                refine wp_ret ?_
                refine ret_then ?_
                refine ret_block ?_
                refine ret_then ?_
                refine ret_then ?_
                refine ret_block ?_
                refine ret_then ?_
                obtain rfl := Option.some.inj hm
                exact post_ret Tryz.results13 hf (.cell rfl (run_loadVarN (n := 3) (vs := [str [], str [], .slice none 0 0]) ag_33 sz_33 rfl ((hO.blkSees (i := 9) rfl).cells (o := 0) (n := 3) rfl)) (.tmp rfl .nil)) ⟨none, 0, rfl, (hO.sub (.cons_cons _ (.cons _ (.cons _ (.cons _ (.cons _ (.cons _ (.cons _ (.cons _ (.cons _ (.cons _ .slnil)))))))))))⟩
              · have hm := ie hc44 hm
                refine wp_skip ?_
                refine nor_then (hK46 _ _ ?_)
                refine wp_region_list ?_
                refine op_val (ex_field fa_33_2 hf rfl) rfl hf rfl rfl fun a hf => ?_
                refine op_val (ex_load1 (o := 2) ag_31 (hO.blkSees (i := 4) rfl) rfl hf rfl) rfl hf rfl rfl fun a hf => ?_
                refine op_val (ex_loadN (o := 0) (vs := [str r40.1.Name, str r40.1.Value, .bool r40.1.Has]) ag_66 sz_66 (hO.blkSees (i := 0) rfl) rfl rfl hf rfl) rfl hf rfl rfl fun a hf => ?_
                refine op_buildSlice (vs := [(0, .agg #[str r40.1.Name, str r40.1.Value, .bool r40.1.Has])]) (cs := [str r40.1.Name, str r40.1.Value, .bool r40.1.Has]) (e := 66) (sz := 3) hf rfl rfl (fun w => by kernel_rfl) rfl rfl hO fun a b47 w hf hO => ?_
                obtain ⟨hg50, hm⟩ := og hm
                refine op_appendT el_31 (enc := enc_api_Attr) (xs := l29) (ys := [r40.1]) (i := 3) (fun _ => rfl) rfl (hO.rowSees (i := 0) rfl) (by simp [cells, enc_api_Attr, Value.oneCell']) hg50 hf rfl rfl rfl hO fun a p48 c49 w hf hO => ?_
                refine op_val (ex_field fa_33_2 hf rfl) rfl hf rfl rfl fun a hf => ?_
                refine op_store1 (i := 5) (o := 2) (v := .slice p48 ((l29 ++ [r40.1]).length) c49) sz_31 rfl rfl rfl rfl hf rfl rfl hO fun w hO => ?_
                refine wpList_nil ?_
                refine nor_block ?_
                refine nor_then (hK51 _ _ ?_)
                refine wp_region_list ?_
                obtain ⟨i52, hi52, hm⟩ := ob hm
                refine op_val (ex_add hf rfl rfl hi52) rfl hf rfl rfl fun a hf => ?_
                refine op_val (ex_move hf rfl) rfl hf rfl rfl fun a hf => ?_
                refine wpList_nil ?_
                refine nor_then ?_
                exact ⟨_, Nat.lt_succ_self _, p48, c49, l29 ++ [r40.1], s30, s31, i52, (hf.cons rfl (hf.cons rfl (hf.cons rfl (hf.cons rfl (hf.cons rfl hf.nil))))), (hO.sub (.cons _ (.cons _ (.cons_cons _ (.cons_cons _ (.cons_cons _ (.cons_cons _ (.cons_cons _ (.cons_cons _ (.cons_cons _ (.cons_cons _ .slnil))))))))))), hm⟩
            · have hm := ie hc34 hm
              refine wp_exit ?_
              refine exit_then ?_
              refine exit_then ?_
              refine exit_here ?_
              refine nor_then ?_
              exact ⟨p27, c28, l29, s30, s31, (hf.cons rfl (hf.cons rfl hf.nil)), (hO.sub (.cons _ (.cons_cons _ (.cons_cons _ (.cons_cons _ (.cons_cons _ (.cons_cons _ (.cons_cons _ (.cons_cons _ .slnil))))))))), hm⟩
        · exact ⟨none, 0, [], r10.1.Name, r10.1.Value, 0, (hf.cons rfl (hf.cons rfl (hf.cons rfl (hf.cons rfl (hf.cons rfl hf.nil))))), hO, hm⟩
      · rintro a w ⟨p53, c54, l55, s56, s57, hf, hO, hm⟩
        rw [cookie_Parse_j3] at hm
        refine wp_seq_k fun _ hK58 => ?_
        refine wp_region_list ?_
        refine op_val (ex_loadN (o := 0) (vs := [str s56, str s57, .slice p53 l55.length c54]) ag_33 sz_33 (hO.blkSees (i := 2) rfl) rfl rfl hf rfl) rfl hf rfl rfl fun a hf => ?_
        refine op_storeN (i := 6) (n := 3) sz_33 rfl rfl rfl (by simp [Value.oneCell']) hf rfl rfl hO fun w hO => ?_
        refine op_val (ex_assign hf rfl) rfl hf rfl rfl fun a hf => ?_
        refine wpList_nil ?_
        refine nor_then (hK58 _ _ ?_)
        refine wp_ret ?_
        obtain rfl := Option.some.inj hm
        exact post_ret Tryz.results13 hf (.cell rfl (run_loadVarN (n := 3) (vs := [str s56, str s57, .slice p53 l55.length c54]) ag_33 sz_33 rfl ((hO.blkSees (i := 6) rfl).cells (o := 0) (n := 3) rfl)) (.tmp rfl .nil)) ⟨p53, c54, rfl, (hO.sub (.cons_cons _ (.cons _ (.cons _ (.cons _ (.cons _ (.cons _ (.cons _ .slnil))))))))⟩

set_option maxHeartbeats 1000000 in
theorem w_octet_Same (x_a : Str) (x_b : Str) (R : Bool) (w0 : World) (hG : Glob w0) (hm : octet_Same x_a x_b = some R) :
    Calls Tryz.prog 51 #[str x_a, str x_b] w0 fun e w' => e = .returned (.bool R) ∧ Below w0.heap.size w0 w' := by
  rw [octet_Same] at hm
  refine calls_enter (vs := [str x_a, str x_b]) Tryz.func51 rfl Tryz.ntmps51 rfl fun a hf => ?_
  have hF : Away [] := away_nil
  have hO : Dk.Own w0 [] w0 [] := Dk.Own.refl w0
  refine wp_seq_k fun _ hK1 => ?_
  refine wp_region_list ?_
  refine op_val (ex_assign hf rfl) rfl hf rfl rfl fun a hf => ?_
  refine wpList_nil ?_
  refine nor_then (hK1 _ _ ?_)
  refine wp_seq_k fun _ hK4 => ?_
  refine wp_region_list ?_
  refine op_val (ex_move hf rfl) rfl hf rfl rfl fun a hf => ?_
  obtain ⟨r2, hr2, hm⟩ := ob hm
  refine op_enter (ex_call c_46 hf (vs := [str x_a]) rfl) rfl hf rfl rfl (w_octet_Fold x_a r2 _ (hG.own hF hO) hr2) ?_
  rintro e w' ⟨he, hb⟩
  refine ⟨_, he, fun a hf => ?_⟩
  have hO := hO.grow hb
  refine op_val (ex_move hf rfl) rfl hf rfl rfl fun a hf => ?_
  obtain ⟨r3, hr3, hm⟩ := ob hm
  refine op_enter (ex_call c_46 hf (vs := [str x_b]) rfl) rfl hf rfl rfl (w_octet_Fold x_b r3 _ (hG.own hF hO) hr3) ?_
  rintro e w' ⟨he, hb⟩
  refine ⟨_, he, fun a hf => ?_⟩
  have hO := hO.grow hb
  refine op_val (ex_eql_s (l := r2) (m := r3) hf rfl rfl) rfl hf rfl rfl fun a hf => ?_
  refine op_val (ex_assign hf rfl) rfl hf rfl rfl fun a hf => ?_
  refine wpList_nil ?_
  refine nor_then (hK4 _ _ ?_)
  refine wp_ret ?_
  obtain rfl := Option.some.inj hm
  exact post_ret Tryz.results51 hf (.tmp rfl .nil) ⟨rfl, hO.below⟩

set_option maxHeartbeats 1000000 in
theorem w_cookie_last (x_c : api_Cookie) (x_name : Str) (R : Int) (w0 : World) (hG : Glob w0) {x_c_p0 : Option Addr} {x_c_c0 : Nat} (hs0 : Sees w0 x_c_p0 (cells enc_api_Attr x_c.Attrs)) (hc0 : x_c.Attrs.length ≤ x_c_c0) (hm : cookie_last x_c x_name = some R) :
    Calls Tryz.prog 39 #[.agg #[str x_c.Name, str x_c.Value, .slice x_c_p0 x_c.Attrs.length x_c_c0], str x_name] w0 fun e w' => e = .returned (int R) ∧ Below w0.heap.size w0 w' := by
  rw [cookie_last] at hm
  refine calls_enter (vs := [.agg #[str x_c.Name, str x_c.Value, .slice x_c_p0 x_c.Attrs.length x_c_c0], str x_name]) Tryz.func39 rfl Tryz.ntmps39 rfl fun a hf => ?_
  have hF : Away [] := away_nil
  have hO : Dk.Own w0 [] w0 [] := Dk.Own.refl w0
  have hO := hO.addShr hs0 (by simp [Res.shared])
  refine wp_seq_k fun _ hK2 => ?_
  refine wp_region_list ?_
  refine op_box (v := .agg #[str x_c.Name, str x_c.Value, .slice x_c_p0 x_c.Attrs.length x_c_c0]) (cs := [str x_c.Name, str x_c.Value, .slice x_c_p0 x_c.Attrs.length x_c_c0]) rfl hf rfl rfl hO fun a b1 w hf hO => ?_
  refine op_val (ex_assign hf rfl) rfl hf rfl rfl fun a hf => ?_
  refine wpList_nil ?_
  refine nor_then (hK2 _ _ ?_)
  refine wp_seq_k fun _ hK18 => ?_
  refine wp_seq_k fun _ hK4 => ?_
  refine wp_region_list ?_
  refine op_val (ex_field fa_33_2 hf rfl) rfl hf rfl rfl fun a hf => ?_
  refine op_val (ex_load1 (o := 2) ag_31 (hO.blkSees (i := 0) rfl) rfl hf rfl) rfl hf rfl rfl fun a hf => ?_
  refine op_val (ex_len_l Tryz.underlying31 hf rfl) rfl hf rfl rfl fun a hf => ?_
  obtain ⟨i3, hi3, hm⟩ := ob hm
  refine op_val (ex_sub hf rfl rfl hi3) rfl hf rfl rfl fun a hf => ?_
  refine op_val (ex_assign hf rfl) rfl hf rfl rfl fun a hf => ?_
  refine wpList_nil ?_
  refine nor_then (hK4 _ _ ?_)
  refine wp_block ?_
  refine wp_loop_n (fun k a w => ∃ (i5 : Int), Fits 23 [(1, str x_name), (2, ptr b1 0), (5, int i5)] a ∧ Dk.Own w0 [] w [.blk b1 [str x_c.Name, str x_c.Value, .slice x_c_p0 x_c.Attrs.length x_c_c0] 33, .shr x_c_p0 (cells enc_api_Attr x_c.Attrs)] ∧ cookie_last_L1 x_c x_name k i5 = some R) ?_ fuel ?_
  · rintro n1 a w ⟨i5, hf, hO, hm⟩
    obtain _ | n1 := n1
    · rw [cookie_last_L1] at hm
      cases hm
    · rw [cookie_last_L1] at hm
      refine wp_seq_k fun _ hK8 => ?_
      refine wp_seq_k fun _ hK6 => ?_
      refine wp_region_list ?_
      refine op_val (ex_move hf rfl) rfl hf rfl rfl fun a hf => ?_
      refine op_val (ex_geq (m := i5) (n := 0) hf rfl rfl) rfl hf rfl rfl fun a hf => ?_
      refine wpList_nil ?_
      refine nor_then (hK6 _ _ ?_)
      refine wp_cond_cut hf rfl (fun hc7 => ?_) (fun hc7 => ?_)
      · have hm := it hc7 hm
        refine wp_skip ?_
        refine nor_then (hK8 _ _ ?_)
        refine wp_seq_k fun _ hK16 => ?_
        refine wp_block ?_
        refine wp_seq_k fun _ hK13 => ?_
        refine wp_region_list ?_
        refine op_val (ex_field fa_33_2 hf rfl) rfl hf rfl rfl fun a hf => ?_
        refine op_val (ex_load1 (o := 2) ag_31 (hO.blkSees (i := 0) rfl) rfl hf rfl) rfl hf rfl rfl fun a hf => ?_
        refine op_val (ex_move hf rfl) rfl hf rfl rfl fun a hf => ?_
        obtain ⟨x9, hx9, hm⟩ := ob hm
        obtain ⟨b10, o11, hix9, hSx9⟩ := elemAt (enc := enc_api_Attr) (sz := 3) (xs := x_c.Attrs) 31 Tryz.underlying31 sz_66 (by decide) (fun _ => rfl) (hO.sees (i := 1) rfl) hx9
        refine op_val (ex_indexAddr hix9 hf rfl rfl) rfl hf rfl rfl fun a hf => ?_
        refine op_val (ex_field fa_66_0 hf rfl) rfl hf rfl rfl fun a hf => ?_
        refine op_val (ex_load1 (o := 0) ag_9 (hSx9 _ (hO.sees (i := 1) rfl)) rfl hf rfl) rfl hf rfl rfl fun a hf => ?_
        refine op_val (ex_move hf rfl) rfl hf rfl rfl fun a hf => ?_
        obtain ⟨r12, hr12, hm⟩ := ob hm
        refine op_enter (ex_call c_51 hf (vs := [str x9.Name, str x_name]) rfl) rfl hf rfl rfl (w_octet_Same x9.Name x_name r12 _ (hG.own hF hO) hr12) ?_
        rintro e w' ⟨he, hb⟩
        refine ⟨_, he, fun a hf => ?_⟩
        have hO := hO.grow hb
        refine wpList_nil ?_
        refine nor_then (hK13 _ _ ?_)
        refine wp_cond_cut hf rfl (fun hc14 => ?_) (fun hc14 => ?_)
        · have hm := it hc14 hm
          refine wp_seq_k fun _ hK15 => ?_
          refine wp_region_list ?_
          refine op_val (ex_move hf rfl) rfl hf rfl rfl fun a hf => ?_
          refine op_val (ex_assign hf rfl) rfl hf rfl rfl fun a hf => ?_
          refine wpList_nil ?_
          refine nor_then (hK15 _ _ ?_)
          refine wp_ret ?_
          refine ret_block ?_
          refine ret_then ?_
          refine ret_then ?_
          refine ret_block ?_
          refine ret_then ?_
          obtain rfl := Option.some.inj hm
          exact post_ret Tryz.results39 hf (.tmp rfl .nil) ⟨rfl, hO.below⟩
        · have hm := ie hc14 hm
          refine wp_skip ?_
          refine nor_block ?_
          refine nor_then (hK16 _ _ ?_)
          refine wp_region_list ?_
          refine op_val (ex_move hf rfl) rfl hf rfl rfl fun a hf => ?_
          obtain ⟨i17, hi17, hm⟩ := ob hm
          refine op_val (ex_sub hf rfl rfl hi17) rfl hf rfl rfl fun a hf => ?_
          refine op_val (ex_assign hf rfl) rfl hf rfl rfl fun a hf => ?_
          refine wpList_nil ?_
          refine nor_then ?_
          exact ⟨_, Nat.lt_succ_self _, i17, (hf.cons rfl (hf.cons rfl (hf.cons rfl hf.nil))), hO, hm⟩
      · have hm := ie hc7 hm
        refine wp_exit ?_
        refine exit_then ?_
        refine exit_then ?_
        refine exit_here ?_
        refine nor_then (hK18 _ _ ?_)
        refine wp_seq_k fun _ hK19 => ?_
        refine wp_region_list ?_
        refine op_val (ex_assign hf rfl) rfl hf rfl rfl fun a hf => ?_
        refine wpList_nil ?_
        refine nor_then (hK19 _ _ ?_)
        refine wp_ret ?_
        obtain rfl := Option.some.inj hm
        exact post_ret Tryz.results39 hf (.tmp rfl .nil) ⟨rfl, hO.below⟩
  · exact ⟨i3, (hf.cons rfl (hf.cons rfl (hf.cons rfl hf.nil))), hO, hm⟩

set_option maxHeartbeats 1000000 in
theorem w_cookie_Get (x_c : api_Cookie) (x_name : Str) (R : Str × Bool) (w0 : World) (hG : Glob w0) {x_c_p0 : Option Addr} {x_c_c0 : Nat} (hs0 : Sees w0 x_c_p0 (cells enc_api_Attr x_c.Attrs)) (hc0 : x_c.Attrs.length ≤ x_c_c0) (hm : cookie_Get x_c x_name = some R) :
    Calls Tryz.prog 14 #[.agg #[str x_c.Name, str x_c.Value, .slice x_c_p0 x_c.Attrs.length x_c_c0], str x_name] w0 fun e w' => e = .returned (.tuple #[str R.1, .bool R.2]) ∧ Below w0.heap.size w0 w' := by
  rw [cookie_Get] at hm
  refine calls_enter (vs := [.agg #[str x_c.Name, str x_c.Value, .slice x_c_p0 x_c.Attrs.length x_c_c0], str x_name]) Tryz.func14 rfl Tryz.ntmps14 rfl fun a hf => ?_
  have hF : Away [] := away_nil
  have hO : Dk.Own w0 [] w0 [] := Dk.Own.refl w0
  have hO := hO.addShr hs0 (by simp [Res.shared])
  refine wp_seq_k fun _ hK2 => ?_
  refine wp_region_list ?_
  refine op_box (v := .agg #[str x_c.Name, str x_c.Value, .slice x_c_p0 x_c.Attrs.length x_c_c0]) (cs := [str x_c.Name, str x_c.Value, .slice x_c_p0 x_c.Attrs.length x_c_c0]) rfl hf rfl rfl hO fun a b1 w hf hO => ?_
  refine op_val (ex_assign hf rfl) rfl hf rfl rfl fun a hf => ?_
  refine op_val (ex_assign hf rfl) rfl hf rfl rfl fun a hf => ?_
  refine wpList_nil ?_
  refine nor_then (hK2 _ _ ?_)
  refine wp_seq_k fun _ hK4 => ?_
  refine wp_region_list ?_
  refine op_val (ex_loadN (o := 0) (vs := [str x_c.Name, str x_c.Value, .slice x_c_p0 x_c.Attrs.length x_c_c0]) ag_33 sz_33 (hO.blkSees (i := 0) rfl) rfl rfl hf rfl) rfl hf rfl rfl fun a hf => ?_
  refine op_val (ex_move hf rfl) rfl hf rfl rfl fun a hf => ?_
  obtain ⟨r3, hr3, hm⟩ := ob hm
  refine op_enter (ex_call c_39 hf (vs := [.agg #[str x_c.Name, str x_c.Value, .slice x_c_p0 x_c.Attrs.length x_c_c0], str x_name]) rfl) rfl hf rfl rfl (w_cookie_last x_c x_name r3 _ (hG.own hF hO) (hO.sees (i := 1) rfl) hc0 hr3) ?_
  rintro e w' ⟨he, hb⟩
  refine ⟨_, he, fun a hf => ?_⟩
  have hO := hO.grow hb
  refine op_val (ex_assign hf rfl) rfl hf rfl rfl fun a hf => ?_
  refine wpList_nil ?_
  refine nor_then (hK4 _ _ ?_)
  refine wp_seq_k fun _ hK8 => ?_
  refine wp_seq_k fun _ hK5 => ?_
  refine wp_region_list ?_
  refine op_val (ex_move hf rfl) rfl hf rfl rfl fun a hf => ?_
  refine op_val (ex_lss (m := r3) (n := 0) hf rfl rfl) rfl hf rfl rfl fun a hf => ?_
  refine wpList_nil ?_
  refine nor_then (hK5 _ _ ?_)
  refine wp_cond_cut hf rfl (fun hc6 => ?_) (fun hc6 => ?_)
  · have hm := it hc6 hm
    refine wp_seq_k fun _ hK7 => ?_
    refine wp_region_list ?_
    refine op_val (ex_assign hf rfl) rfl hf rfl rfl fun a hf => ?_
    refine op_val (ex_assign hf rfl) rfl hf rfl rfl fun a hf => ?_
    refine wpList_nil ?_
    refine nor_then (hK7 _ _ ?_)
    refine wp_ret ?_
    refine ret_then ?_
    obtain rfl := Option.some.inj hm
    exact post_ret Tryz.results14 hf (.tmp rfl (.tmp rfl .nil)) ⟨rfl, hO.below⟩
  · have hm := ie hc6 hm
    refine wp_skip ?_
    refine nor_then (hK8 _ _ ?_)
    refine wp_seq_k fun _ hK12 => ?_
    refine wp_region_list ?_
    refine op_val (ex_field fa_33_2 hf rfl) rfl hf rfl rfl fun a hf => ?_
    refine op_val (ex_load1 (o := 2) ag_31 (hO.blkSees (i := 0) rfl) rfl hf rfl) rfl hf rfl rfl fun a hf => ?_
    refine op_val (ex_move hf rfl) rfl hf rfl rfl fun a hf => ?_
    obtain ⟨x9, hx9, hm⟩ := ob hm
    obtain ⟨b10, o11, hix9, hSx9⟩ := elemAt (enc := enc_api_Attr) (sz := 3) (xs := x_c.Attrs) 31 Tryz.underlying31 sz_66 (by decide) (fun _ => rfl) (hO.sees (i := 1) rfl) hx9
    refine op_val (ex_indexAddr hix9 hf rfl rfl) rfl hf rfl rfl fun a hf => ?_
    refine op_val (ex_field fa_66_1 hf rfl) rfl hf rfl rfl fun a hf => ?_
    refine op_val (ex_load1 (o := 1) ag_9 (hSx9 _ (hO.sees (i := 1) rfl)) rfl hf rfl) rfl hf rfl rfl fun a hf => ?_
    refine op_val (ex_assign hf rfl) rfl hf rfl rfl fun a hf => ?_
    refine op_val (ex_assign hf rfl) rfl hf rfl rfl fun a hf => ?_
    refine wpList_nil ?_
    refine nor_then (hK12 _ _ ?_)
    refine wp_ret ?_
    obtain rfl := Option.some.inj hm
    exact post_ret Tryz.results14 hf (.tmp rfl (.tmp rfl .nil)) ⟨rfl, hO.below⟩

set_option maxHeartbeats 1000000 in
theorem w_cookie_Set (x_c : api_Cookie) (x_name : Str) (x_value : Str) (R : api_Cookie) (w0 : World) (hG : Glob w0) {x_c_p0 : Option Addr} {x_c_c0 : Nat} (hs0 : Sees w0 x_c_p0 (cells enc_api_Attr x_c.Attrs)) (hc0 : x_c.Attrs.length ≤ x_c_c0) (hm : cookie_Set x_c x_name x_value = some R) :
    Calls Tryz.prog 26 #[.agg #[str x_c.Name, str x_c.Value, .slice x_c_p0 x_c.Attrs.length x_c_c0], str x_name, str x_value] w0 fun e w' => ∃ (p0 : Option Addr) (c0 : Nat), e = .returned (.agg #[str R.Name, str R.Value, .slice p0 R.Attrs.length c0]) ∧ Dk.Own w0 [] w' [.row (.slice p0 R.Attrs.length c0) 66 3 R.Attrs.length (cells enc_api_Attr R.Attrs)] := by
  rw [cookie_Set] at hm
  refine calls_enter (vs := [.agg #[str x_c.Name, str x_c.Value, .slice x_c_p0 x_c.Attrs.length x_c_c0], str x_name, str x_value]) Tryz.func26 rfl Tryz.ntmps26 rfl fun a hf => ?_
  have hF : Away [] := away_nil
  have hO : Dk.Own w0 [] w0 [] := Dk.Own.refl w0
  have hO := hO.addShr hs0 (by simp [Res.shared])
  refine wp_seq_k fun _ hK3 => ?_
  refine wp_region_list ?_
  refine op_box (v := .agg #[str x_c.Name, str x_c.Value, .slice x_c_p0 x_c.Attrs.length x_c_c0]) (cs := [str x_c.Name, str x_c.Value, .slice x_c_p0 x_c.Attrs.length x_c_c0]) rfl hf rfl rfl hO fun a b1 w hf hO => ?_
  refine op_alloc al_33 hf rfl hO fun a b2 w hf hO => ?_
  have hO := hO.nilRow 66 3
  refine wpList_nil ?_
  refine nor_then (hK3 _ _ ?_)
  refine wp_seq_k fun _ hK5 => ?_
  refine wp_region_list ?_
  refine op_val (ex_loadN (o := 0) (vs := [str x_c.Name, str x_c.Value, .slice x_c_p0 x_c.Attrs.length x_c_c0]) ag_33 sz_33 (hO.blkSees (i := 2) rfl) rfl rfl hf rfl) rfl hf rfl rfl fun a hf => ?_
  refine op_val (ex_move hf rfl) rfl hf rfl rfl fun a hf => ?_
  obtain ⟨r4, hr4, hm⟩ := ob hm
  refine op_enter (ex_call c_39 hf (vs := [.agg #[str x_c.Name, str x_c.Value, .slice x_c_p0 x_c.Attrs.length x_c_c0], str x_name]) rfl) rfl hf rfl rfl (w_cookie_last x_c x_name r4 _ (hG.own hF hO) (hO.sees (i := 3) rfl) hc0 hr4) ?_
  rintro e w' ⟨he, hb⟩
  refine ⟨_, he, fun a hf => ?_⟩
  have hO := hO.grow hb
  refine op_val (ex_assign hf rfl) rfl hf rfl rfl fun a hf => ?_
  refine wpList_nil ?_
  refine nor_then (hK5 _ _ ?_)
  refine wp_seq_k fun _ hK7 => ?_
  refine wp_region_list ?_
  refine op_val (ex_field fa_33_0 hf rfl) rfl hf rfl rfl fun a hf => ?_
  refine op_val (ex_load1 (o := 0) ag_9 (hO.blkSees (i := 2) rfl) rfl hf rfl) rfl hf rfl rfl fun a hf => ?_
  refine op_val (ex_field fa_33_1 hf rfl) rfl hf rfl rfl fun a hf => ?_
  refine op_val (ex_load1 (o := 1) ag_9 (hO.blkSees (i := 2) rfl) rfl hf rfl) rfl hf rfl rfl fun a hf => ?_
  refine op_val (ex_build (vs := [(0, str x_c.Name), (1, str x_c.Value)]) (v := .agg #[str x_c.Name, str x_c.Value, .slice none 0 0]) hf rfl (by kernel_rfl)) rfl hf rfl rfl fun a hf => ?_
  refine op_alloc al_33 hf rfl hO fun a b6 w hf hO => ?_
  have hO := hO.nilRow 66 3
  refine op_storeN (i := 1) (n := 3) sz_33 rfl rfl rfl (by simp [Value.oneCell']) hf rfl rfl hO fun w hO => ?_
  have hO := hO.nilRow 66 3
  refine wpList_nil ?_
  refine nor_then (hK7 _ _ ?_)
  refine wp_seq_cut (fun a w => ∃ (p38 : Option Addr) (c39 : Nat) (l40 : List api_Attr) (s41 : Str) (s42 : Str), Fits 55 [(1, str x_name), (2, str x_value), (6, ptr b2 0), (7, int r4), (8, ptr b6 0)] a ∧ Dk.Own w0 [] w [.row (.slice p38 l40.length c39) 66 3 l40.length (cells enc_api_Attr l40), .row (.slice none 0 0) 66 3 0 (cells enc_api_Attr []), .blk b6 [str s41, str s42, .slice p38 l40.length c39] 33, .row (.slice none 0 0) 66 3 0 (cells enc_api_Attr []), .blk b2 [str [], str [], .slice none 0 0] 33, .blk b1 [str x_c.Name, str x_c.Value, .slice x_c_p0 x_c.Attrs.length x_c_c0] 33, .shr x_c_p0 (cells enc_api_Attr x_c.Attrs)] ∧ cookie_Set_j4 x_name x_value r4 l40 s41 s42 = some R) ?_ ?_
  · refine wp_seq_k fun _ hK8 => ?_
    refine wp_region_list ?_
    refine op_val (ex_field fa_33_2 hf rfl) rfl hf rfl rfl fun a hf => ?_
    refine op_val (ex_load1 (o := 2) ag_31 (hO.blkSees (i := 5) rfl) rfl hf rfl) rfl hf rfl rfl fun a hf => ?_
    refine op_val (ex_len_l Tryz.underlying31 hf rfl) rfl hf rfl rfl fun a hf => ?_
    refine op_val (ex_move hf rfl) rfl hf rfl rfl fun a hf => ?_
    refine wpList_nil ?_
    refine nor_then (hK8 _ _ ?_)
    refine wp_block ?_
    refine wp_loop_n (fun k a w => ∃ (p9 : Option Addr) (c10 : Nat) (l11 : List api_Attr) (s12 : Str) (s13 : Str) (i14 : Int), Fits 55 [(1, str x_name), (2, str x_value), (6, ptr b2 0), (7, int r4), (8, ptr b6 0), (20, .slice x_c_p0 x_c.Attrs.length x_c_c0), (21, int (x_c.Attrs.length : Int)), (22, int i14)] a ∧ Dk.Own w0 [] w [.row (.slice p9 l11.length c10) 66 3 l11.length (cells enc_api_Attr l11), .row (.slice none 0 0) 66 3 0 (cells enc_api_Attr []), .blk b6 [str s12, str s13, .slice p9 l11.length c10] 33, .row (.slice none 0 0) 66 3 0 (cells enc_api_Attr []), .blk b2 [str [], str [], .slice none 0 0] 33, .blk b1 [str x_c.Name, str x_c.Value, .slice x_c_p0 x_c.Attrs.length x_c_c0] 33, .shr x_c_p0 (cells enc_api_Attr x_c.Attrs)] ∧ cookie_Set_L1 x_c x_name x_value r4 k l11 s12 s13 i14 = some R) ?_ fuel ?_
    · rintro n1 a w ⟨p9, c10, l11, s12, s13, i14, hf, hO, hm⟩
      obtain _ | n1 := n1
      · rw [cookie_Set_L1] at hm
        cases hm
      · rw [cookie_Set_L1] at hm
        refine wp_seq_k fun _ hK15 => ?_
        refine wp_region_list ?_
        refine op_val (ex_lss (m := i14) (n := (x_c.Attrs.length : Int)) hf rfl rfl) rfl hf rfl rfl fun a hf => ?_
        refine wpList_nil ?_
        refine nor_then (hK15 _ _ ?_)
        refine wp_seq_k fun _ hK17 => ?_
        refine wp_cond_cut hf rfl (fun hc16 => ?_) (fun hc16 => ?_)
        · have hm := it hc16 hm
          refine wp_skip ?_
          refine nor_then (hK17 _ _ ?_)
          refine wp_seq_cut (fun a w => ∃ (p34 : Option Addr) (c35 : Nat) (l36 : List api_Attr), Fits 55 [(1, str x_name), (2, str x_value), (6, ptr b2 0), (7, int r4), (8, ptr b6 0), (20, .slice x_c_p0 x_c.Attrs.length x_c_c0), (21, int (x_c.Attrs.length : Int)), (22, int i14)] a ∧ Dk.Own w0 [] w [.row (.slice p34 l36.length c35) 66 3 l36.length (cells enc_api_Attr l36), .row (.slice none 0 0) 66 3 0 (cells enc_api_Attr []), .blk b6 [str s12, str s13, .slice p34 l36.length c35] 33, .row (.slice none 0 0) 66 3 0 (cells enc_api_Attr []), .blk b2 [str [], str [], .slice none 0 0] 33, .blk b1 [str x_c.Name, str x_c.Value, .slice x_c_p0 x_c.Attrs.length x_c_c0] 33, .shr x_c_p0 (cells enc_api_Attr x_c.Attrs)] ∧ cookie_Set_j3 (cookie_Set_L1 x_c x_name x_value r4 n1) s12 s13 i14 l36 = some R) ?_ ?_
          · refine wp_block ?_
            refine wp_seq_k fun _ hK22 => ?_
            refine wp_region_list ?_
            refine op_val (ex_move hf rfl) rfl hf rfl rfl fun a hf => ?_
            obtain ⟨x18, hx18, hm⟩ := ob hm
            obtain ⟨b19, o20, hix18, hSx18⟩ := elemAt (enc := enc_api_Attr) (sz := 3) (xs := x_c.Attrs) 31 Tryz.underlying31 sz_66 (by decide) (fun _ => rfl) (hO.sees (i := 6) rfl) hx18
            refine op_val (ex_indexAddr hix18 hf rfl rfl) rfl hf rfl rfl fun a hf => ?_
            refine op_val (ex_loadN (o := 0) (vs := [str x18.Name, str x18.Value, .bool x18.Has]) ag_66 sz_66 (hSx18 _ (hO.sees (i := 6) rfl)) rfl rfl hf rfl) rfl hf rfl rfl fun a hf => ?_
            refine op_alloc al_66 hf rfl hO fun a b21 w hf hO => ?_
            refine op_val (ex_assign hf rfl) rfl hf rfl rfl fun a hf => ?_
            refine op_storeN (i := 0) (n := 3) sz_66 rfl rfl rfl (by simp [Value.oneCell']) hf rfl rfl hO fun w hO => ?_
            refine wpList_nil ?_
            refine nor_then (hK22 _ _ ?_)
            refine wp_seq_cut (fun a w => ∃ (s28 : Str) (t29 : Bool), Fits 55 [(1, str x_name), (2, str x_value), (6, ptr b2 0), (7, int r4), (8, ptr b6 0), (10, ptr b21 0), (20, .slice x_c_p0 x_c.Attrs.length x_c_c0), (21, int (x_c.Attrs.length : Int)), (22, int i14)] a ∧ Dk.Own w0 [] w [.blk b21 [str x18.Name, str s28, .bool t29] 66, .row (.slice p9 l11.length c10) 66 3 l11.length (cells enc_api_Attr l11), .row (.slice none 0 0) 66 3 0 (cells enc_api_Attr []), .blk b6 [str s12, str s13, .slice p9 l11.length c10] 33, .row (.slice none 0 0) 66 3 0 (cells enc_api_Attr []), .blk b2 [str [], str [], .slice none 0 0] 33, .blk b1 [str x_c.Name, str x_c.Value, .slice x_c_p0 x_c.Attrs.length x_c_c0] 33, .shr x_c_p0 (cells enc_api_Attr x_c.Attrs)] ∧ cookie_Set_j2 (cookie_Set_L1 x_c x_name x_value r4 n1) l11 s12 s13 i14 x18 s28 t29 = some R) ?_ ?_
            · refine wp_seq_k fun _ hK23 => ?_
              refine wp_region_list ?_
              refine op_val (ex_move hf rfl) rfl hf rfl rfl fun a hf => ?_
              refine op_val (ex_move hf rfl) rfl hf rfl rfl fun a hf => ?_
              refine op_val (ex_eql (m := i14) (n := r4) hf rfl rfl) rfl hf rfl rfl fun a hf => ?_
              refine wpList_nil ?_
              refine nor_then (hK23 _ _ ?_)
              refine wp_cond_cut hf rfl (fun hc24 => ?_) (fun hc24 => ?_)
              · have hm := it hc24 hm
                refine wp_region_list ?_
                refine op_val (ex_move hf rfl) rfl hf rfl rfl fun a hf => ?_
                refine op_val (ex_field fa_66_1 hf rfl) rfl hf rfl rfl fun a hf => ?_
                refine op_store1 (i := 0) (o := 1) (v := str x_value) sz_9 rfl rfl rfl rfl hf rfl rfl hO fun w hO => ?_
                refine op_val (ex_field fa_66_2 hf rfl) rfl hf rfl rfl fun a hf => ?_
                refine op_store1 (i := 0) (o := 2) (v := .bool true) sz_4 rfl rfl rfl rfl hf rfl rfl hO fun w hO => ?_
                refine wpList_nil ?_
                refine nor_then ?_
                exact ⟨x_value, true, (hf.cons rfl (hf.cons rfl (hf.cons rfl (hf.cons rfl (hf.cons rfl (hf.cons rfl (hf.cons rfl (hf.cons rfl (hf.cons rfl hf.nil))))))))), hO, hm⟩
              · have hm := ie hc24 hm
                refine wp_seq_k fun _ hK26 => ?_
                refine wp_region_list ?_
                refine op_val (ex_field fa_66_0 hf rfl) rfl hf rfl rfl fun a hf => ?_
                refine op_val (ex_load1 (o := 0) ag_9 (hO.blkSees (i := 0) rfl) rfl hf rfl) rfl hf rfl rfl fun a hf => ?_
                refine op_val (ex_move hf rfl) rfl hf rfl rfl fun a hf => ?_
                obtain ⟨r25, hr25, hm⟩ := ob hm
                refine op_enter (ex_call c_51 hf (vs := [str x18.Name, str x_name]) rfl) rfl hf rfl rfl (w_octet_Same x18.Name x_name r25 _ (hG.own hF hO) hr25) ?_
                rintro e w' ⟨he, hb⟩
                refine ⟨_, he, fun a hf => ?_⟩
                have hO := hO.grow hb
                refine wpList_nil ?_
                refine nor_then (hK26 _ _ ?_)
                refine wp_cond_cut hf rfl (fun hc27 => ?_) (fun hc27 => ?_)
                · have hm := it hc27 hm
                  refine wp_exit ?_
                  refine exit_then ?_
                  refine exit_here ?_
                  refine nor_then ?_
                  exact ⟨p9, c10, l11, (hf.cons rfl (hf.cons rfl (hf.cons rfl (hf.cons rfl (hf.cons rfl (hf.cons rfl (hf.cons rfl (hf.cons rfl hf.nil)))))))), (hO.sub (.cons _ (.cons_cons _ (.cons_cons _ (.cons_cons _ (.cons_cons _ (.cons_cons _ (.cons_cons _ (.cons_cons _ .slnil))))))))), hm⟩
                · have hm := ie hc27 hm
                  refine wp_skip ?_
                  refine nor_then ?_
                  exact ⟨x18.Value, x18.Has, (hf.cons rfl (hf.cons rfl (hf.cons rfl (hf.cons rfl (hf.cons rfl (hf.cons rfl (hf.cons rfl (hf.cons rfl (hf.cons rfl hf.nil))))))))), hO, hm⟩
            · rintro a w ⟨s28, t29, hf, hO, hm⟩
              rw [cookie_Set_j2] at hm
              refine wp_region_list ?_
              refine op_val (ex_field fa_33_2 hf rfl) rfl hf rfl rfl fun a hf => ?_
              refine op_val (ex_load1 (o := 2) ag_31 (hO.blkSees (i := 3) rfl) rfl hf rfl) rfl hf rfl rfl fun a hf => ?_
              refine op_val (ex_loadN (o := 0) (vs := [str x18.Name, str s28, .bool t29]) ag_66 sz_66 (hO.blkSees (i := 0) rfl) rfl rfl hf rfl) rfl hf rfl rfl fun a hf => ?_
              refine op_buildSlice (vs := [(0, .agg #[str x18.Name, str s28, .bool t29])]) (cs := [str x18.Name, str s28, .bool t29]) (e := 66) (sz := 3) hf rfl rfl (fun w => by kernel_rfl) rfl rfl hO fun a b30 w hf hO => ?_
              obtain ⟨hg33, hm⟩ := og hm
              refine op_appendT el_31 (enc := enc_api_Attr) (xs := l11) (ys := [(⟨x18.Name, s28, t29⟩ : api_Attr)]) (i := 2) (fun _ => rfl) rfl (hO.rowSees (i := 0) rfl) (by simp [cells, enc_api_Attr, Value.oneCell']) hg33 hf rfl rfl rfl hO fun a p31 c32 w hf hO => ?_
              refine op_val (ex_field fa_33_2 hf rfl) rfl hf rfl rfl fun a hf => ?_
              refine op_store1 (i := 4) (o := 2) (v := .slice p31 ((l11 ++ [(⟨x18.Name, s28, t29⟩ : api_Attr)]).length) c32) sz_31 rfl rfl rfl rfl hf rfl rfl hO fun w hO => ?_
              refine wpList_nil ?_
              refine nor_block ?_
              refine nor_then ?_
              exact ⟨p31, c32, l11 ++ [(⟨x18.Name, s28, t29⟩ : api_Attr)], (hf.cons rfl (hf.cons rfl (hf.cons rfl (hf.cons rfl (hf.cons rfl (hf.cons rfl (hf.cons rfl (hf.cons rfl hf.nil)))))))), (hO.sub (.cons _ (.cons _ (.cons_cons _ (.cons_cons _ (.cons_cons _ (.cons_cons _ (.cons_cons _ (.cons_cons _ (.cons_cons _ .slnil)))))))))), hm⟩
          · rintro a w ⟨p34, c35, l36, hf, hO, hm⟩
            rw [cookie_Set_j3] at hm
            refine wp_region_list ?_
            obtain ⟨i37, hi37, hm⟩ := ob hm
            refine op_val (ex_add hf rfl rfl hi37) rfl hf rfl rfl fun a hf => ?_
            refine op_val (ex_move hf rfl) rfl hf rfl rfl fun a hf => ?_
            refine wpList_nil ?_
            refine nor_then ?_
            exact ⟨_, Nat.lt_succ_self _, p34, c35, l36, s12, s13, i37, (hf.cons rfl (hf.cons rfl (hf.cons rfl (hf.cons rfl (hf.cons rfl (hf.cons rfl (hf.cons rfl (hf.cons rfl hf.nil)))))))), hO, hm⟩
        · have hm := ie hc16 hm
          refine wp_exit ?_
          refine exit_then ?_
          refine exit_then ?_
          refine exit_here ?_
          refine nor_then ?_
          exact ⟨p9, c10, l11, s12, s13, (hf.cons rfl (hf.cons rfl (hf.cons rfl (hf.cons rfl (hf.cons rfl hf.nil))))), hO, hm⟩
    · exact ⟨none, 0, [], x_c.Name, x_c.Value, 0, (hf.cons rfl (hf.cons rfl (hf.cons rfl (hf.cons rfl (hf.cons rfl (hf.cons rfl (hf.cons rfl (hf.cons rfl hf.nil)))))))), hO, hm⟩
  · rintro a w ⟨p38, c39, l40, s41, s42, hf, hO, hm⟩
    rw [cookie_Set_j4] at hm
    refine wp_seq_cut (fun a w => ∃ (p49 : Option Addr) (c50 : Nat) (l51 : List api_Attr), Fits 55 [(6, ptr b2 0), (8, ptr b6 0)] a ∧ Dk.Own w0 [] w [.row (.slice p49 l51.length c50) 66 3 l51.length (cells enc_api_Attr l51), .row (.slice none 0 0) 66 3 0 (cells enc_api_Attr []), .blk b6 [str s41, str s42, .slice p49 l51.length c50] 33, .row (.slice none 0 0) 66 3 0 (cells enc_api_Attr []), .blk b2 [str [], str [], .slice none 0 0] 33, .blk b1 [str x_c.Name, str x_c.Value, .slice x_c_p0 x_c.Attrs.length x_c_c0] 33, .shr x_c_p0 (cells enc_api_Attr x_c.Attrs)] ∧ cookie_Set_j5 s41 s42 l51 = some R) ?_ ?_
    · refine wp_seq_k fun _ hK43 => ?_
      refine wp_region_list ?_
      refine op_val (ex_move hf rfl) rfl hf rfl rfl fun a hf => ?_
      refine op_val (ex_lss (m := r4) (n := 0) hf rfl rfl) rfl hf rfl rfl fun a hf => ?_
      refine wpList_nil ?_
      refine nor_then (hK43 _ _ ?_)
      refine wp_cond_cut hf rfl (fun hc44 => ?_) (fun hc44 => ?_)
      · have hm := it hc44 hm
        refine wp_region_list ?_
        refine op_val (ex_field fa_33_2 hf rfl) rfl hf rfl rfl fun a hf => ?_
        refine op_val (ex_load1 (o := 2) ag_31 (hO.blkSees (i := 2) rfl) rfl hf rfl) rfl hf rfl rfl fun a hf => ?_
        refine op_val (ex_move hf rfl) rfl hf rfl rfl fun a hf => ?_
        refine op_val (ex_move hf rfl) rfl hf rfl rfl fun a hf => ?_
        refine op_val (ex_build (vs := [(0, str x_name), (1, str x_value), (2, .bool true)]) (v := .agg #[str x_name, str x_value, .bool true]) hf rfl (by kernel_rfl)) rfl hf rfl rfl fun a hf => ?_
        refine op_buildSlice (vs := [(0, .agg #[str x_name, str x_value, .bool true])]) (cs := [str x_name, str x_value, .bool true]) (e := 66) (sz := 3) hf rfl rfl (fun w => by kernel_rfl) rfl rfl hO fun a b45 w hf hO => ?_
        obtain ⟨hg48, hm⟩ := og hm
        refine op_appendT el_31 (enc := enc_api_Attr) (xs := l40) (ys := [(⟨x_name, x_value, true⟩ : api_Attr)]) (i := 1) (fun _ => rfl) rfl (hO.rowSees (i := 0) rfl) (by simp [cells, enc_api_Attr, Value.oneCell']) hg48 hf rfl rfl rfl hO fun a p46 c47 w hf hO => ?_
        refine op_val (ex_field fa_33_2 hf rfl) rfl hf rfl rfl fun a hf => ?_
        refine op_store1 (i := 3) (o := 2) (v := .slice p46 ((l40 ++ [(⟨x_name, x_value, true⟩ : api_Attr)]).length) c47) sz_31 rfl rfl rfl rfl hf rfl rfl hO fun w hO => ?_
        refine wpList_nil ?_
        refine nor_then ?_
        exact ⟨p46, c47, l40 ++ [(⟨x_name, x_value, true⟩ : api_Attr)], (hf.cons rfl (hf.cons rfl hf.nil)), (hO.sub (.cons _ (.cons_cons _ (.cons_cons _ (.cons_cons _ (.cons_cons _ (.cons_cons _ (.cons_cons _ (.cons_cons _ .slnil))))))))), hm⟩
      · have hm := ie hc44 hm
        refine wp_skip ?_
        refine nor_then ?_
        exact ⟨p38, c39, l40, (hf.cons rfl (hf.cons rfl hf.nil)), hO, hm⟩
    · rintro a w ⟨p49, c50, l51, hf, hO, hm⟩
      rw [cookie_Set_j5] at hm
      refine wp_seq_k fun _ hK52 => ?_
      refine wp_region_list ?_
      refine op_val (ex_loadN (o := 0) (vs := [str s41, str s42, .slice p49 l51.length c50]) ag_33 sz_33 (hO.blkSees (i := 2) rfl) rfl rfl hf rfl) rfl hf rfl rfl fun a hf => ?_
      refine op_storeN (i := 4) (n := 3) sz_33 rfl rfl rfl (by simp [Value.oneCell']) hf rfl rfl hO fun w hO => ?_
      refine wpList_nil ?_
      refine nor_then (hK52 _ _ ?_)
      refine wp_ret ?_
      obtain rfl := Option.some.inj hm
      exact post_ret Tryz.results26 hf (.cell rfl (run_loadVarN (n := 3) (vs := [str s41, str s42, .slice p49 l51.length c50]) ag_33 sz_33 rfl ((hO.blkSees (i := 4) rfl).cells (o := 0) (n := 3) rfl)) .nil) ⟨p49, c50, rfl, (hO.sub (.cons_cons _ (.cons _ (.cons _ (.cons _ (.cons _ (.cons _ (.cons _ .slnil))))))))⟩

set_option maxHeartbeats 1000000 in
theorem w_quill_Join (x_sep : Str) (x_l : List Str) (R : Str) (w0 : World) (hG : Glob w0) {x_l_p0 : Option Addr} {x_l_c0 : Nat} (hs0 : Sees w0 x_l_p0 (cells enc_str x_l)) (hc0 : x_l.length ≤ x_l_c0) (hm : quill_Join x_sep x_l = some R) :
    Calls Tryz.prog 49 #[str x_sep, .slice x_l_p0 x_l.length x_l_c0] w0 fun e w' => e = .returned (str R) ∧ Below w0.heap.size w0 w' := by
  rw [quill_Join] at hm
  refine calls_enter (vs := [str x_sep, .slice x_l_p0 x_l.length x_l_c0]) Tryz.func49 rfl Tryz.ntmps49 rfl fun a hf => ?_
  have hF : Away [] := away_nil
  have hO : Dk.Own w0 [] w0 [] := Dk.Own.refl w0
  have hO := hO.addShr hs0 (by simp [Res.shared])
  refine wp_seq_k fun _ hK1 => ?_
  refine wp_region_list ?_
  refine op_val (ex_assign hf rfl) rfl hf rfl rfl fun a hf => ?_
  refine wpList_nil ?_
  refine nor_then (hK1 _ _ ?_)
  refine wp_seq_k fun _ hK3 => ?_
  refine wp_region_list ?_
  refine op_val (ex_move hf rfl) rfl hf rfl rfl fun a hf => ?_
  refine op_val (ex_move hf rfl) rfl hf rfl rfl fun a hf => ?_
  obtain ⟨r2, hr2, hm⟩ := ob hm
  refine op_enter (ex_call c_84 hf (vs := [.slice x_l_p0 x_l.length x_l_c0, str x_sep]) rfl) rfl hf rfl rfl (w_strings_Join x_l x_sep r2 _ (hG.own hF hO) (hO.sees (i := 0) rfl) hc0 hr2) ?_
  rintro e w' ⟨he, hb⟩
  refine ⟨_, he, fun a hf => ?_⟩
  have hO := hO.grow hb
  refine op_val (ex_assign hf rfl) rfl hf rfl rfl fun a hf => ?_
  refine wpList_nil ?_
  refine nor_then (hK3 _ _ ?_)
  refine wp_ret ?_
  obtain rfl := Option.some.inj hm
  exact post_ret Tryz.results49 hf (.tmp rfl .nil) ⟨rfl, hO.below⟩

set_option maxHeartbeats 1000000 in
theorem w_slices_Equal_gapi_Attr_api_Attr_ (x_s1 : List api_Attr) (x_s2 : List api_Attr) (R : Bool) (w0 : World) (hG : Glob w0) {x_s1_p0 : Option Addr} {x_s1_c0 : Nat} (hs0 : Sees w0 x_s1_p0 (cells enc_api_Attr x_s1)) (hc0 : x_s1.length ≤ x_s1_c0) {x_s2_p1 : Option Addr} {x_s2_c1 : Nat} (hs1 : Sees w0 x_s2_p1 (cells enc_api_Attr x_s2)) (hc1 : x_s2.length ≤ x_s2_c1) (hm : slices_Equal_gapi_Attr_api_Attr_ x_s1 x_s2 = some R) :
    Calls Tryz.prog 85 #[.slice x_s1_p0 x_s1.length x_s1_c0, .slice x_s2_p1 x_s2.length x_s2_c1] w0 fun e w' => e = .returned (.bool R) ∧ Below w0.heap.size w0 w' := by
  rw [slices_Equal_gapi_Attr_api_Attr_] at hm
  refine calls_enter (vs := [.slice x_s1_p0 x_s1.length x_s1_c0, .slice x_s2_p1 x_s2.length x_s2_c1]) Tryz.func85 rfl Tryz.ntmps85 rfl fun a hf => ?_
  have hF : Away [] := away_nil
  have hO : Dk.Own w0 [] w0 [] := Dk.Own.refl w0
  have hO := hO.addShr hs0 (by simp [Res.shared])
  have hO := hO.addShr hs1 (by simp [Res.shared])
  refine wp_seq_k fun _ hK1 => ?_
  refine wp_region_list ?_
  refine op_val (ex_assign hf rfl) rfl hf rfl rfl fun a hf => ?_
  refine wpList_nil ?_
  refine nor_then (hK1 _ _ ?_)
  refine wp_seq_k fun _ hK5 => ?_
  refine wp_seq_k fun _ hK2 => ?_
  refine wp_region_list ?_
  refine op_val (ex_move hf rfl) rfl hf rfl rfl fun a hf => ?_
  refine op_val (ex_len_l Tryz.underlying31 hf rfl) rfl hf rfl rfl fun a hf => ?_
  refine op_val (ex_move hf rfl) rfl hf rfl rfl fun a hf => ?_
  refine op_val (ex_len_l Tryz.underlying31 hf rfl) rfl hf rfl rfl fun a hf => ?_
  refine op_val (ex_neq (m := (x_s1.length : Int)) (n := (x_s2.length : Int)) hf rfl rfl) rfl hf rfl rfl fun a hf => ?_
  refine wpList_nil ?_
  refine nor_then (hK2 _ _ ?_)
  refine wp_cond_cut hf rfl (fun hc3 => ?_) (fun hc3 => ?_)
  · have hm := it hc3 hm
    refine wp_seq_k fun _ hK4 => ?_
    refine wp_region_list ?_
    refine op_val (ex_assign hf rfl) rfl hf rfl rfl fun a hf => ?_
    refine wpList_nil ?_
    refine nor_then (hK4 _ _ ?_)
    refine wp_ret ?_
    refine ret_then ?_
    obtain rfl := Option.some.inj hm
    exact post_ret Tryz.results85 hf (.tmp rfl .nil) ⟨rfl, hO.below⟩
  · have hm := ie hc3 hm
    refine wp_skip ?_
    refine nor_then (hK5 _ _ ?_)
    refine wp_seq_k fun _ hK23 => ?_
    refine wp_seq_k fun _ hK6 => ?_
    refine wp_region_list ?_
    refine op_val (ex_move hf rfl) rfl hf rfl rfl fun a hf => ?_
    refine op_val (ex_len_l Tryz.underlying31 hf rfl) rfl hf rfl rfl fun a hf => ?_
    refine op_val (ex_move hf rfl) rfl hf rfl rfl fun a hf => ?_
    refine wpList_nil ?_
    refine nor_then (hK6 _ _ ?_)
    refine wp_block ?_
    refine wp_loop_n (fun k a w => ∃ (i7 : Int), Fits 26 [(0, .slice x_s1_p0 x_s1.length x_s1_c0), (1, .slice x_s2_p1 x_s2.length x_s2_c1), (12, int (x_s1.length : Int)), (13, int i7)] a ∧ Dk.Own w0 [] w [.shr x_s2_p1 (cells enc_api_Attr x_s2), .shr x_s1_p0 (cells enc_api_Attr x_s1)] ∧ slices_Equal_gapi_Attr_api_Attr__L1 x_s1 x_s2 k i7 = some R) ?_ fuel ?_
    · rintro n1 a w ⟨i7, hf, hO, hm⟩
      obtain _ | n1 := n1
      · rw [slices_Equal_gapi_Attr_api_Attr__L1] at hm
        cases hm
      · rw [slices_Equal_gapi_Attr_api_Attr__L1] at hm
        refine wp_seq_k fun _ hK8 => ?_
        refine wp_region_list ?_
        refine op_val (ex_lss (m := i7) (n := (x_s1.length : Int)) hf rfl rfl) rfl hf rfl rfl fun a hf => ?_
        refine wpList_nil ?_
        refine nor_then (hK8 _ _ ?_)
        refine wp_seq_k fun _ hK10 => ?_
        refine wp_cond_cut hf rfl (fun hc9 => ?_) (fun hc9 => ?_)
        · have hm := it hc9 hm
          refine wp_skip ?_
          refine nor_then (hK10 _ _ ?_)
          refine wp_seq_k fun _ hK21 => ?_
          refine wp_block ?_
          refine wp_seq_k fun _ hK11 => ?_
          refine wp_region_list ?_
          refine op_val (ex_move hf rfl) rfl hf rfl rfl fun a hf => ?_
          refine op_val (ex_assign hf rfl) rfl hf rfl rfl fun a hf => ?_
          refine wpList_nil ?_
          refine nor_then (hK11 _ _ ?_)
          refine wp_seq_k fun _ hK18 => ?_
          refine wp_quiet (by kernel_rfl) (by kernel_rfl) hO ?_
          refine q_val (fun w hO => ex_move hf rfl) rfl hf rfl rfl fun a hf => ?_
          refine q_val (fun w hO => ex_move hf rfl) rfl hf rfl rfl fun a hf => ?_
          obtain ⟨x12, hx12, hm⟩ := ob hm
          obtain ⟨b13, o14, hix12, hSx12⟩ := elemAt (enc := enc_api_Attr) (sz := 3) (xs := x_s1) 31 Tryz.underlying31 sz_66 (by decide) (fun _ => rfl) (hO.sees (i := 1) rfl) hx12
          refine q_val (fun w hO => ex_indexAddr hix12 hf rfl rfl) rfl hf rfl rfl fun a hf => ?_
          refine q_val (fun w hO => ex_loadN (o := 0) (vs := [str x12.Name, str x12.Value, .bool x12.Has]) ag_66 sz_66 (hSx12 _ (hO.sees (i := 1) rfl)) rfl rfl hf rfl) rfl hf rfl rfl fun a hf => ?_
          refine q_val (fun w hO => ex_move hf rfl) rfl hf rfl rfl fun a hf => ?_
          refine q_val (fun w hO => ex_move hf rfl) rfl hf rfl rfl fun a hf => ?_
          obtain ⟨x15, hx15, hm⟩ := ob hm
          obtain ⟨b16, o17, hix15, hSx15⟩ := elemAt (enc := enc_api_Attr) (sz := 3) (xs := x_s2) 31 Tryz.underlying31 sz_66 (by decide) (fun _ => rfl) (hO.sees (i := 0) rfl) hx15
          refine q_val (fun w hO => ex_indexAddr hix15 hf rfl rfl) rfl hf rfl rfl fun a hf => ?_
          refine q_val (fun w hO => ex_loadN (o := 0) (vs := [str x15.Name, str x15.Value, .bool x15.Has]) ag_66 sz_66 (hSx15 _ (hO.sees (i := 0) rfl)) rfl rfl hf rfl) rfl hf rfl rfl fun a hf => ?_
          refine q_val (fun w hO => ex_neq_t (by kernel_rfl) (eq_66 x12 x15) hf rfl rfl) rfl hf rfl rfl fun a hf => ?_
          refine wpQuiet_nil ?_
          intro w hO
          refine nor_then (hK18 _ _ ?_)
          refine wp_cond_cut hf rfl (fun hc19 => ?_) (fun hc19 => ?_)
          · have hm := it hc19 hm
            refine wp_seq_k fun _ hK20 => ?_
            refine wp_region_list ?_
            refine op_val (ex_assign hf rfl) rfl hf rfl rfl fun a hf => ?_
            refine wpList_nil ?_
            refine nor_then (hK20 _ _ ?_)
            refine wp_ret ?_
            refine ret_block ?_
            refine ret_then ?_
            refine ret_then ?_
            refine ret_block ?_
            refine ret_then ?_
            obtain rfl := Option.some.inj hm
            exact post_ret Tryz.results85 hf (.tmp rfl .nil) ⟨rfl, hO.below⟩
          · have hm := ie hc19 hm
            refine wp_skip ?_
            refine nor_block ?_
            refine nor_then (hK21 _ _ ?_)
            refine wp_region_list ?_
            obtain ⟨i22, hi22, hm⟩ := ob hm
            refine op_val (ex_add hf rfl rfl hi22) rfl hf rfl rfl fun a hf => ?_
            refine op_val (ex_move hf rfl) rfl hf rfl rfl fun a hf => ?_
            refine wpList_nil ?_
            refine nor_then ?_
            exact ⟨_, Nat.lt_succ_self _, i22, (hf.cons rfl (hf.cons rfl (hf.cons rfl (hf.cons rfl hf.nil)))), hO, hm⟩
        · have hm := ie hc9 hm
          refine wp_exit ?_
          refine exit_then ?_
          refine exit_then ?_
          refine exit_here ?_
          refine nor_then (hK23 _ _ ?_)
          refine wp_seq_k fun _ hK24 => ?_
          refine wp_region_list ?_
          refine op_val (ex_assign hf rfl) rfl hf rfl rfl fun a hf => ?_
          refine wpList_nil ?_
          refine nor_then (hK24 _ _ ?_)
          refine wp_ret ?_
          obtain rfl := Option.some.inj hm
          exact post_ret Tryz.results85 hf (.tmp rfl .nil) ⟨rfl, hO.below⟩
    · exact ⟨0, (hf.cons rfl (hf.cons rfl (hf.cons rfl (hf.cons rfl hf.nil)))), hO, hm⟩

set_option maxHeartbeats 1000000 in
theorem w_cookie_Same (x_a : api_Cookie) (x_b : api_Cookie) (R : Bool) (w0 : World) (hG : Glob w0) {x_a_p0 : Option Addr} {x_a_c0 : Nat} (hs0 : Sees w0 x_a_p0 (cells enc_api_Attr x_a.Attrs)) (hc0 : x_a.Attrs.length ≤ x_a_c0) {x_b_p1 : Option Addr} {x_b_c1 : Nat} (hs1 : Sees w0 x_b_p1 (cells enc_api_Attr x_b.Attrs)) (hc1 : x_b.Attrs.length ≤ x_b_c1) (hm : cookie_Same x_a x_b = some R) :
    Calls Tryz.prog 50 #[.agg #[str x_a.Name, str x_a.Value, .slice x_a_p0 x_a.Attrs.length x_a_c0], .agg #[str x_b.Name, str x_b.Value, .slice x_b_p1 x_b.Attrs.length x_b_c1]] w0 fun e w' => e = .returned (.bool R) ∧ Below w0.heap.size w0 w' := by
  rw [cookie_Same] at hm
  refine calls_enter (vs := [.agg #[str x_a.Name, str x_a.Value, .slice x_a_p0 x_a.Attrs.length x_a_c0], .agg #[str x_b.Name, str x_b.Value, .slice x_b_p1 x_b.Attrs.length x_b_c1]]) Tryz.func50 rfl Tryz.ntmps50 rfl fun a hf => ?_
  have hF : Away [] := away_nil
  have hO : Dk.Own w0 [] w0 [] := Dk.Own.refl w0
  have hO := hO.addShr hs0 (by simp [Res.shared])
  have hO := hO.addShr hs1 (by simp [Res.shared])
  refine wp_seq_k fun _ hK3 => ?_
  refine wp_region_list ?_
  refine op_box (v := .agg #[str x_a.Name, str x_a.Value, .slice x_a_p0 x_a.Attrs.length x_a_c0]) (cs := [str x_a.Name, str x_a.Value, .slice x_a_p0 x_a.Attrs.length x_a_c0]) rfl hf rfl rfl hO fun a b1 w hf hO => ?_
  refine op_box (v := .agg #[str x_b.Name, str x_b.Value, .slice x_b_p1 x_b.Attrs.length x_b_c1]) (cs := [str x_b.Name, str x_b.Value, .slice x_b_p1 x_b.Attrs.length x_b_c1]) rfl hf rfl rfl hO fun a b2 w hf hO => ?_
  refine op_val (ex_assign hf rfl) rfl hf rfl rfl fun a hf => ?_
  refine wpList_nil ?_
  refine nor_then (hK3 _ _ ?_)
  refine wp_seq_cut (fun a w => ∃ (t7 : Bool), Fits 24 [(4, .bool t7)] a ∧ Dk.Own w0 [] w [.blk b2 [str x_b.Name, str x_b.Value, .slice x_b_p1 x_b.Attrs.length x_b_c1] 33, .blk b1 [str x_a.Name, str x_a.Value, .slice x_a_p0 x_a.Attrs.length x_a_c0] 33, .shr x_b_p1 (cells enc_api_Attr x_b.Attrs), .shr x_a_p0 (cells enc_api_Attr x_a.Attrs)] ∧ cookie_Same_j1 t7 = some R) ?_ ?_
  · refine wp_region_list ?_
    refine op_val (ex_field fa_33_0 hf rfl) rfl hf rfl rfl fun a hf => ?_
    refine op_val (ex_load1 (o := 0) ag_9 (hO.blkSees (i := 1) rfl) rfl hf rfl) rfl hf rfl rfl fun a hf => ?_
    refine op_val (ex_field fa_33_0 hf rfl) rfl hf rfl rfl fun a hf => ?_
    refine op_val (ex_load1 (o := 0) ag_9 (hO.blkSees (i := 0) rfl) rfl hf rfl) rfl hf rfl rfl fun a hf => ?_
    refine op_val (ex_eql_s (l := x_a.Name) (m := x_b.Name) hf rfl rfl) rfl hf rfl rfl fun a hf => ?_
    refine op_val (ex_move hf rfl) rfl hf rfl rfl fun a hf => ?_
    rcases bcase (x_a.Name == x_b.Name) with hc4 | hc4
    · have hm := it hc4 hm
      refine op_guard rfl hf rfl rfl (hc4) ?_
      refine op_val (ex_field fa_33_1 hf rfl) rfl hf rfl rfl fun a hf => ?_
      refine op_guard rfl hf rfl rfl (hc4) ?_
      refine op_val (ex_load1 (o := 1) ag_9 (hO.blkSees (i := 1) rfl) rfl hf rfl) rfl hf rfl rfl fun a hf => ?_
      refine op_guard rfl hf rfl rfl (hc4) ?_
      refine op_val (ex_field fa_33_1 hf rfl) rfl hf rfl rfl fun a hf => ?_
      refine op_guard rfl hf rfl rfl (hc4) ?_
      refine op_val (ex_load1 (o := 1) ag_9 (hO.blkSees (i := 0) rfl) rfl hf rfl) rfl hf rfl rfl fun a hf => ?_
      refine op_guard rfl hf rfl rfl (hc4) ?_
      refine op_val (ex_eql_s (l := x_a.Value) (m := x_b.Value) hf rfl rfl) rfl hf rfl rfl fun a hf => ?_
      refine op_val (ex_pick_t hf rfl hc4 rfl) rfl hf rfl rfl fun a hf => ?_
      refine op_val (ex_move hf rfl) rfl hf rfl rfl fun a hf => ?_
      rcases bcase (x_a.Value == x_b.Value) with hc5 | hc5
      · have hm := it hc5 hm
        refine op_guard rfl hf rfl rfl (hc5) ?_
        refine op_val (ex_field fa_33_2 hf rfl) rfl hf rfl rfl fun a hf => ?_
        refine op_guard rfl hf rfl rfl (hc5) ?_
        refine op_val (ex_load1 (o := 2) ag_31 (hO.blkSees (i := 1) rfl) rfl hf rfl) rfl hf rfl rfl fun a hf => ?_
        refine op_guard rfl hf rfl rfl (hc5) ?_
        refine op_val (ex_field fa_33_2 hf rfl) rfl hf rfl rfl fun a hf => ?_
        refine op_guard rfl hf rfl rfl (hc5) ?_
        refine op_val (ex_load1 (o := 2) ag_31 (hO.blkSees (i := 0) rfl) rfl hf rfl) rfl hf rfl rfl fun a hf => ?_
        refine op_guard rfl hf rfl rfl (hc5) ?_
        obtain ⟨r6, hr6, hm⟩ := ob hm
        refine op_enter (ex_call c_85 hf (vs := [.slice x_a_p0 x_a.Attrs.length x_a_c0, .slice x_b_p1 x_b.Attrs.length x_b_c1]) rfl) rfl hf rfl rfl (w_slices_Equal_gapi_Attr_api_Attr_ x_a.Attrs x_b.Attrs r6 _ (hG.own hF hO) (hO.sees (i := 3) rfl) hc0 (hO.sees (i := 2) rfl) hc1 hr6) ?_
        rintro e w' ⟨he, hb⟩
        refine ⟨_, he, fun a hf => ?_⟩
        have hO := hO.grow hb
        refine op_val (ex_pick_t hf rfl hc5 rfl) rfl hf rfl rfl fun a hf => ?_
        refine op_val (ex_assign hf rfl) rfl hf rfl rfl fun a hf => ?_
        refine wpList_nil ?_
        refine nor_then ?_
        exact ⟨r6, (hf.cons rfl hf.nil), hO, hm⟩
      · have hm := ie hc5 hm
        refine op_pass rfl hf rfl rfl (hc5) rfl rfl fun a hf => ?_
        refine op_pass rfl hf rfl rfl (hc5) rfl rfl fun a hf => ?_
        refine op_pass rfl hf rfl rfl (hc5) rfl rfl fun a hf => ?_
        refine op_pass rfl hf rfl rfl (hc5) rfl rfl fun a hf => ?_
        refine op_pass rfl hf rfl rfl (hc5) rfl rfl fun a hf => ?_
        refine op_val (ex_pick_f hf rfl hc5 rfl) rfl hf rfl rfl fun a hf => ?_
        refine op_val (ex_assign hf rfl) rfl hf rfl rfl fun a hf => ?_
        refine wpList_nil ?_
        refine nor_then ?_
        exact ⟨false, (hf.cons rfl hf.nil), hO, hm⟩
    · have hm := ie hc4 hm
      refine op_pass rfl hf rfl rfl (hc4) rfl rfl fun a hf => ?_
      refine op_pass rfl hf rfl rfl (hc4) rfl rfl fun a hf => ?_
      refine op_pass rfl hf rfl rfl (hc4) rfl rfl fun a hf => ?_
      refine op_pass rfl hf rfl rfl (hc4) rfl rfl fun a hf => ?_
      refine op_pass rfl hf rfl rfl (hc4) rfl rfl fun a hf => ?_
      refine op_val (ex_pick_f hf rfl hc4 rfl) rfl hf rfl rfl fun a hf => ?_
      refine op_val (ex_move hf rfl) rfl hf rfl rfl fun a hf => ?_
      refine op_pass rfl hf rfl rfl (rfl) rfl rfl fun a hf => ?_
      refine op_pass rfl hf rfl rfl (rfl) rfl rfl fun a hf => ?_
      refine op_pass rfl hf rfl rfl (rfl) rfl rfl fun a hf => ?_
      refine op_pass rfl hf rfl rfl (rfl) rfl rfl fun a hf => ?_
      refine op_pass rfl hf rfl rfl (rfl) rfl rfl fun a hf => ?_
      refine op_val (ex_pick_f hf rfl rfl rfl) rfl hf rfl rfl fun a hf => ?_
      refine op_val (ex_assign hf rfl) rfl hf rfl rfl fun a hf => ?_
      refine wpList_nil ?_
      refine nor_then ?_
      exact ⟨false, (hf.cons rfl hf.nil), hO, hm⟩
  · rintro a w ⟨t7, hf, hO, hm⟩
    rw [cookie_Same_j1] at hm
    refine wp_ret ?_
    obtain rfl := Option.some.inj hm
    exact post_ret Tryz.results50 hf (.tmp rfl .nil) ⟨rfl, hO.below⟩

set_option maxHeartbeats 1000000 in
theorem w_cookie_Text (x_c : api_Cookie) (R : Str × Int) (w0 : World) (hG : Glob w0) {x_c_p0 : Option Addr} {x_c_c0 : Nat} (hs0 : Sees w0 x_c_p0 (cells enc_api_Attr x_c.Attrs)) (hc0 : x_c.Attrs.length ≤ x_c_c0) (hm : cookie_Text x_c = some R) :
    Calls Tryz.prog 25 #[.agg #[str x_c.Name, str x_c.Value, .slice x_c_p0 x_c.Attrs.length x_c_c0]] w0 fun e w' => e = .returned (.tuple #[str R.1, int R.2]) ∧ Below w0.heap.size w0 w' := by
  rw [cookie_Text] at hm
  refine calls_enter (vs := [.agg #[str x_c.Name, str x_c.Value, .slice x_c_p0 x_c.Attrs.length x_c_c0]]) Tryz.func25 rfl Tryz.ntmps25 rfl fun a hf => ?_
  have hF : Away [] := away_nil
  have hO : Dk.Own w0 [] w0 [] := Dk.Own.refl w0
  have hO := hO.addShr hs0 (by simp [Res.shared])
  refine wp_seq_k fun _ hK2 => ?_
  refine wp_region_list ?_
  refine op_box (v := .agg #[str x_c.Name, str x_c.Value, .slice x_c_p0 x_c.Attrs.length x_c_c0]) (cs := [str x_c.Name, str x_c.Value, .slice x_c_p0 x_c.Attrs.length x_c_c0]) rfl hf rfl rfl hO fun a b1 w hf hO => ?_
  refine op_val (ex_assign hf rfl) rfl hf rfl rfl fun a hf => ?_
  refine op_val (ex_assign hf rfl) rfl hf rfl rfl fun a hf => ?_
  refine wpList_nil ?_
  refine nor_then (hK2 _ _ ?_)
  refine wp_seq_k fun _ hK6 => ?_
  refine wp_region_list ?_
  refine op_val (ex_field fa_33_0 hf rfl) rfl hf rfl rfl fun a hf => ?_
  refine op_val (ex_load1 (o := 0) ag_9 (hO.blkSees (i := 0) rfl) rfl hf rfl) rfl hf rfl rfl fun a hf => ?_
  obtain ⟨s3, hs3, hm⟩ := ob hm
  refine op_val (ex_cat (l := x_c.Name) (m := [61]) hf rfl rfl hs3) rfl hf rfl rfl fun a hf => ?_
  refine op_val (ex_field fa_33_1 hf rfl) rfl hf rfl rfl fun a hf => ?_
  refine op_val (ex_load1 (o := 1) ag_9 (hO.blkSees (i := 0) rfl) rfl hf rfl) rfl hf rfl rfl fun a hf => ?_
  obtain ⟨s4, hs4, hm⟩ := ob hm
  refine op_val (ex_cat (l := s3) (m := x_c.Value) hf rfl rfl hs4) rfl hf rfl rfl fun a hf => ?_
  refine op_buildSlice (vs := [(0, str s4)]) (cs := [str s4]) (e := 9) (sz := 1) hf rfl rfl (fun w => by kernel_rfl) rfl rfl hO fun a b5 w hf hO => ?_
  refine op_val (ex_assign hf rfl) rfl hf rfl rfl fun a hf => ?_
  refine wpList_nil ?_
  refine nor_then (hK6 _ _ ?_)
  refine wp_seq_k fun _ hK36 => ?_
  refine wp_seq_k fun _ hK7 => ?_
  refine wp_region_list ?_
  refine op_val (ex_field fa_33_2 hf rfl) rfl hf rfl rfl fun a hf => ?_
  refine op_val (ex_load1 (o := 2) ag_31 (hO.blkSees (i := 1) rfl) rfl hf rfl) rfl hf rfl rfl fun a hf => ?_
  refine op_val (ex_len_l Tryz.underlying31 hf rfl) rfl hf rfl rfl fun a hf => ?_
  refine op_val (ex_move hf rfl) rfl hf rfl rfl fun a hf => ?_
  refine wpList_nil ?_
  refine nor_then (hK7 _ _ ?_)
  refine wp_block ?_
  refine wp_loop_n (fun k a w => ∃ (p8 : Option Addr) (c9 : Nat) (l10 : List Str) (i11 : Int), Fits 57 [(1, ptr b1 0), (4, .slice p8 l10.length c9), (18, .slice x_c_p0 x_c.Attrs.length x_c_c0), (19, int (x_c.Attrs.length : Int)), (20, int i11)] a ∧ Dk.Own w0 [] w [.row (.slice p8 l10.length c9) 9 1 l10.length (cells enc_str l10), .blk b1 [str x_c.Name, str x_c.Value, .slice x_c_p0 x_c.Attrs.length x_c_c0] 33, .shr x_c_p0 (cells enc_api_Attr x_c.Attrs)] ∧ cookie_Text_L1 x_c k l10 i11 = some R) ?_ fuel ?_
  · rintro n1 a w ⟨p8, c9, l10, i11, hf, hO, hm⟩
    obtain _ | n1 := n1
    · rw [cookie_Text_L1] at hm
      cases hm
    · rw [cookie_Text_L1] at hm
      refine wp_seq_k fun _ hK12 => ?_
      refine wp_region_list ?_
      refine op_val (ex_lss (m := i11) (n := (x_c.Attrs.length : Int)) hf rfl rfl) rfl hf rfl rfl fun a hf => ?_
      refine wpList_nil ?_
      refine nor_then (hK12 _ _ ?_)
      refine wp_seq_k fun _ hK14 => ?_
      refine wp_cond_cut hf rfl (fun hc13 => ?_) (fun hc13 => ?_)
      · have hm := it hc13 hm
        refine wp_skip ?_
        refine nor_then (hK14 _ _ ?_)
        refine wp_seq_cut (fun a w => ∃ (p32 : Option Addr) (c33 : Nat) (l34 : List Str), Fits 57 [(1, ptr b1 0), (4, .slice p32 l34.length c33), (18, .slice x_c_p0 x_c.Attrs.length x_c_c0), (19, int (x_c.Attrs.length : Int)), (20, int i11)] a ∧ Dk.Own w0 [] w [.row (.slice p32 l34.length c33) 9 1 l34.length (cells enc_str l34), .blk b1 [str x_c.Name, str x_c.Value, .slice x_c_p0 x_c.Attrs.length x_c_c0] 33, .shr x_c_p0 (cells enc_api_Attr x_c.Attrs)] ∧ cookie_Text_j2 (cookie_Text_L1 x_c n1) i11 l34 = some R) ?_ ?_
        · refine wp_block ?_
          refine wp_seq_k fun _ hK19 => ?_
          refine wp_region_list ?_
          obtain ⟨x15, hx15, hm⟩ := ob hm
          obtain ⟨b16, o17, hix15, hSx15⟩ := elemAt (enc := enc_api_Attr) (sz := 3) (xs := x_c.Attrs) 31 Tryz.underlying31 sz_66 (by decide) (fun _ => rfl) (hO.sees (i := 2) rfl) hx15
          refine op_val (ex_indexAddr hix15 hf rfl rfl) rfl hf rfl rfl fun a hf => ?_
          refine op_val (ex_loadN (o := 0) (vs := [str x15.Name, str x15.Value, .bool x15.Has]) ag_66 sz_66 (hSx15 _ (hO.sees (i := 2) rfl)) rfl rfl hf rfl) rfl hf rfl rfl fun a hf => ?_
          refine op_alloc al_66 hf rfl hO fun a b18 w hf hO => ?_
          refine op_storeN (i := 0) (n := 3) sz_66 rfl rfl rfl (by simp [Value.oneCell']) hf rfl rfl hO fun w hO => ?_
          refine wpList_nil ?_
          refine nor_then (hK19 _ _ ?_)
          refine wp_seq_k fun _ hK20 => ?_
          refine wp_region_list ?_
          refine op_val (ex_field fa_66_2 hf rfl) rfl hf rfl rfl fun a hf => ?_
          refine op_val (ex_load1 (o := 2) ag_4 (hO.blkSees (i := 0) rfl) rfl hf rfl) rfl hf rfl rfl fun a hf => ?_
          refine wpList_nil ?_
          refine nor_then (hK20 _ _ ?_)
          refine wp_cond_cut hf rfl (fun hc21 => ?_) (fun hc21 => ?_)
          · have hm := it hc21 hm
            refine wp_region_list ?_
            refine op_val (ex_move hf rfl) rfl hf rfl rfl fun a hf => ?_
            refine op_val (ex_field fa_66_0 hf rfl) rfl hf rfl rfl fun a hf => ?_
            refine op_val (ex_load1 (o := 0) ag_9 (hO.blkSees (i := 0) rfl) rfl hf rfl) rfl hf rfl rfl fun a hf => ?_
            obtain ⟨s22, hs22, hm⟩ := ob hm
            refine op_val (ex_cat (l := x15.Name) (m := [61]) hf rfl rfl hs22) rfl hf rfl rfl fun a hf => ?_
            refine op_val (ex_field fa_66_1 hf rfl) rfl hf rfl rfl fun a hf => ?_
            refine op_val (ex_load1 (o := 1) ag_9 (hO.blkSees (i := 0) rfl) rfl hf rfl) rfl hf rfl rfl fun a hf => ?_
            obtain ⟨s23, hs23, hm⟩ := ob hm
            refine op_val (ex_cat (l := s22) (m := x15.Value) hf rfl rfl hs23) rfl hf rfl rfl fun a hf => ?_
            refine op_buildSlice (vs := [(0, str s23)]) (cs := [str s23]) (e := 9) (sz := 1) hf rfl rfl (fun w => by kernel_rfl) rfl rfl hO fun a b24 w hf hO => ?_
            obtain ⟨hg27, hm⟩ := og hm
            refine op_appendT el_70 (enc := enc_str) (xs := l10) (ys := [s23]) (i := 2) (fun _ => rfl) rfl (hO.rowSees (i := 0) rfl) (by simp [cells, enc_str, Value.oneCell']) hg27 hf rfl rfl rfl hO fun a p25 c26 w hf hO => ?_
            refine op_val (ex_assign hf rfl) rfl hf rfl rfl fun a hf => ?_
            refine wpList_nil ?_
            refine nor_block ?_
            refine nor_then ?_
            exact ⟨p25, c26, l10 ++ [s23], (hf.cons rfl (hf.cons rfl (hf.cons rfl (hf.cons rfl (hf.cons rfl hf.nil))))), (hO.sub (.cons _ (.cons _ (.cons_cons _ (.cons_cons _ (.cons_cons _ .slnil)))))), hm⟩
          · have hm := ie hc21 hm
            refine wp_region_list ?_
            refine op_val (ex_move hf rfl) rfl hf rfl rfl fun a hf => ?_
            refine op_val (ex_field fa_66_0 hf rfl) rfl hf rfl rfl fun a hf => ?_
            refine op_val (ex_load1 (o := 0) ag_9 (hO.blkSees (i := 0) rfl) rfl hf rfl) rfl hf rfl rfl fun a hf => ?_
            refine op_buildSlice (vs := [(0, str x15.Name)]) (cs := [str x15.Name]) (e := 9) (sz := 1) hf rfl rfl (fun w => by kernel_rfl) rfl rfl hO fun a b28 w hf hO => ?_
            obtain ⟨hg31, hm⟩ := og hm
            refine op_appendT el_70 (enc := enc_str) (xs := l10) (ys := [x15.Name]) (i := 2) (fun _ => rfl) rfl (hO.rowSees (i := 0) rfl) (by simp [cells, enc_str, Value.oneCell']) hg31 hf rfl rfl rfl hO fun a p29 c30 w hf hO => ?_
            refine op_val (ex_assign hf rfl) rfl hf rfl rfl fun a hf => ?_
            refine wpList_nil ?_
            refine nor_block ?_
            refine nor_then ?_
            exact ⟨p29, c30, l10 ++ [x15.Name], (hf.cons rfl (hf.cons rfl (hf.cons rfl (hf.cons rfl (hf.cons rfl hf.nil))))), (hO.sub (.cons _ (.cons _ (.cons_cons _ (.cons_cons _ (.cons_cons _ .slnil)))))), hm⟩
        · rintro a w ⟨p32, c33, l34, hf, hO, hm⟩
          rw [cookie_Text_j2] at hm
          refine wp_region_list ?_
          obtain ⟨i35, hi35, hm⟩ := ob hm
          refine op_val (ex_add hf rfl rfl hi35) rfl hf rfl rfl fun a hf => ?_
          refine op_val (ex_move hf rfl) rfl hf rfl rfl fun a hf => ?_
          refine wpList_nil ?_
          refine nor_then ?_
          exact ⟨_, Nat.lt_succ_self _, p32, c33, l34, i35, (hf.cons rfl (hf.cons rfl (hf.cons rfl (hf.cons rfl (hf.cons rfl hf.nil))))), hO, hm⟩
      · have hm := ie hc13 hm
        refine wp_exit ?_
        refine exit_then ?_
        refine exit_then ?_
        refine exit_here ?_
        refine nor_then (hK36 _ _ ?_)
        refine wp_seq_k fun _ hK38 => ?_
        refine wp_region_list ?_
        refine op_val (ex_move hf rfl) rfl hf rfl rfl fun a hf => ?_
        obtain ⟨r37, hr37, hm⟩ := ob hm
        refine op_enter (ex_call c_49 hf (vs := [str [59, 32], .slice p8 l10.length c9]) rfl) rfl hf rfl rfl (w_quill_Join [59, 32] l10 r37 _ (hG.own hF hO) (hO.rowSees (i := 0) rfl) (hO.rowCap (i := 0) rfl) hr37) ?_
        rintro e w' ⟨he, hb⟩
        refine ⟨_, he, fun a hf => ?_⟩
        have hO := hO.grow hb
        refine op_val (ex_assign hf rfl) rfl hf rfl rfl fun a hf => ?_
        refine wpList_nil ?_
        refine nor_then (hK38 _ _ ?_)
        refine wp_seq_k fun _ hK49 => ?_
        refine wp_seq_k fun _ hK43 => ?_
        refine wp_region_list ?_
        refine op_val (ex_move hf rfl) rfl hf rfl rfl fun a hf => ?_
        obtain ⟨r39, hr39, hm⟩ := ob hm
        refine op_enter (ex_call c_13 hf (vs := [str r37]) rfl) rfl hf rfl rfl (w_cookie_Parse r37 r39 _ (hG.own hF hO) hr39) ?_
        rintro e w' ⟨p40, c41, he, hO'⟩
        refine ⟨_, he, fun a hf => ?_⟩
        have hO := hO.call hO' (by simp [Res.shared])
        refine op_val (ex_move hf rfl) rfl hf rfl rfl fun a hf => ?_
        refine op_val (ex_extract hf rfl rfl) rfl hf rfl rfl fun a hf => ?_
        refine op_val (ex_extract hf rfl rfl) rfl hf rfl rfl fun a hf => ?_
        refine op_alloc al_33 hf rfl hO fun a b42 w hf hO => ?_
        have hO := hO.nilRow 66 3
        refine op_storeN (i := 1) (n := 3) sz_33 rfl rfl rfl (by simp [Value.oneCell']) hf rfl rfl hO fun w hO => ?_
        refine op_val (ex_assign hf rfl) rfl hf rfl rfl fun a hf => ?_
        refine wpList_nil ?_
        refine nor_then (hK43 _ _ ?_)
        refine wp_seq_cut (fun a w => ∃ (t46 : Bool), Fits 57 [(7, str r37), (55, .bool t46)] a ∧ Dk.Own w0 [] w [.row (.slice none 0 0) 66 3 0 (cells enc_api_Attr []), .blk b42 [str r39.1.Name, str r39.1.Value, .slice p40 r39.1.Attrs.length c41] 33, .row (.slice p40 r39.1.Attrs.length c41) 66 3 r39.1.Attrs.length (cells enc_api_Attr r39.1.Attrs), .row (.slice p8 l10.length c9) 9 1 l10.length (cells enc_str l10), .blk b1 [str x_c.Name, str x_c.Value, .slice x_c_p0 x_c.Attrs.length x_c_c0] 33, .shr x_c_p0 (cells enc_api_Attr x_c.Attrs)] ∧ cookie_Text_j3 r37 t46 = some R) ?_ ?_
        · refine wp_region_list ?_
          refine op_val (ex_move hf rfl) rfl hf rfl rfl fun a hf => ?_
          refine op_val (ex_neq (m := r39.2) (n := 0) hf rfl rfl) rfl hf rfl rfl fun a hf => ?_
          refine op_val (ex_move hf rfl) rfl hf rfl rfl fun a hf => ?_
          rcases bcase (!(r39.2 == 0)) with hc44 | hc44
          · have hm := it hc44 hm
            refine op_pass rfl hf rfl rfl (hc44) rfl rfl fun a hf => ?_
            refine op_pass rfl hf rfl rfl (hc44) rfl rfl fun a hf => ?_
            refine op_pass rfl hf rfl rfl (hc44) rfl rfl fun a hf => ?_
            refine op_pass rfl hf rfl rfl (hc44) rfl rfl fun a hf => ?_
            refine op_val (ex_pick_t hf rfl hc44 rfl) rfl hf rfl rfl fun a hf => ?_
            refine wpList_nil ?_
            refine nor_then ?_
            exact ⟨true, (hf.cons rfl (hf.cons rfl hf.nil)), hO, hm⟩
          · have hm := ie hc44 hm
            refine op_guard rfl hf rfl rfl (hc44) ?_
            refine op_val (ex_loadN (o := 0) (vs := [str r39.1.Name, str r39.1.Value, .slice p40 r39.1.Attrs.length c41]) ag_33 sz_33 (hO.blkSees (i := 1) rfl) rfl rfl hf rfl) rfl hf rfl rfl fun a hf => ?_
            refine op_guard rfl hf rfl rfl (hc44) ?_
            refine op_val (ex_loadN (o := 0) (vs := [str x_c.Name, str x_c.Value, .slice x_c_p0 x_c.Attrs.length x_c_c0]) ag_33 sz_33 (hO.blkSees (i := 4) rfl) rfl rfl hf rfl) rfl hf rfl rfl fun a hf => ?_
            refine op_guard rfl hf rfl rfl (hc44) ?_
            obtain ⟨r45, hr45, hm⟩ := ob hm
            refine op_enter (ex_call c_50 hf (vs := [.agg #[str r39.1.Name, str r39.1.Value, .slice p40 r39.1.Attrs.length c41], .agg #[str x_c.Name, str x_c.Value, .slice x_c_p0 x_c.Attrs.length x_c_c0]]) rfl) rfl hf rfl rfl (w_cookie_Same r39.1 x_c r45 _ (hG.own hF hO) (hO.rowSees (i := 2) rfl) (hO.rowCap (i := 2) rfl) (hO.sees (i := 5) rfl) hc0 hr45) ?_
            rintro e w' ⟨he, hb⟩
            refine ⟨_, he, fun a hf => ?_⟩
            have hO := hO.grow hb
            refine op_guard rfl hf rfl rfl (hc44) ?_
            refine op_val (ex_not hf rfl) rfl hf rfl rfl fun a hf => ?_
            refine op_val (ex_pick_f hf rfl hc44 rfl) rfl hf rfl rfl fun a hf => ?_
            refine wpList_nil ?_
            refine nor_then ?_
            exact ⟨!r45, (hf.cons rfl (hf.cons rfl hf.nil)), hO, hm⟩
        · rintro a w ⟨t46, hf, hO, hm⟩
          rw [cookie_Text_j3] at hm
          refine wp_cond_cut hf rfl (fun hc47 => ?_) (fun hc47 => ?_)
          · have hm := it hc47 hm
            refine wp_seq_k fun _ hK48 => ?_
            refine wp_region_list ?_
            refine op_val (ex_assign hf rfl) rfl hf rfl rfl fun a hf => ?_
            refine op_val (ex_assign hf rfl) rfl hf rfl rfl fun a hf => ?_
            refine wpList_nil ?_
            refine nor_then (hK48 _ _ ?_)
            refine wp_ret ?_
            refine ret_then ?_
            obtain rfl := Option.some.inj hm
            exact post_ret Tryz.results25 hf (.tmp rfl (.tmp rfl .nil)) ⟨rfl, hO.below⟩
          · have hm := ie hc47 hm
            refine wp_skip ?_
            refine nor_then (hK49 _ _ ?_)
            refine wp_seq_k fun _ hK50 => ?_
            refine wp_region_list ?_
            refine op_val (ex_move hf rfl) rfl hf rfl rfl fun a hf => ?_
            refine op_val (ex_assign hf rfl) rfl hf rfl rfl fun a hf => ?_
            refine op_val (ex_assign hf rfl) rfl hf rfl rfl fun a hf => ?_
            refine wpList_nil ?_
            refine nor_then (hK50 _ _ ?_)
            refine wp_ret ?_
            obtain rfl := Option.some.inj hm
            exact post_ret Tryz.results25 hf (.tmp rfl (.tmp rfl .nil)) ⟨rfl, hO.below⟩
  · exact ⟨some ⟨b5, 0, none⟩, 1, [s4], 0, (hf.cons rfl (hf.cons rfl (hf.cons rfl (hf.cons rfl (hf.cons rfl hf.nil))))), hO, hm⟩

set_option maxHeartbeats 1000000 in
theorem w_domains_Rewrite (x_s : Str) (x_l : List api_Swap) (R : Str) (w0 : World) (hG : GlobT w0) {x_l_p0 : Option Addr} {x_l_c0 : Nat} (hs0 : Sees w0 x_l_p0 (cells enc_api_Swap x_l)) (hc0 : x_l.length ≤ x_l_c0) (hm : domains_Rewrite x_s x_l = some R) :
    Calls Tryz.prog 9 #[str x_s, .slice x_l_p0 x_l.length x_l_c0] w0 fun e w' => e = .returned (str R) ∧ Below w0.heap.size w0 w' := by
  rw [domains_Rewrite] at hm
  refine calls_enter (vs := [str x_s, .slice x_l_p0 x_l.length x_l_c0]) Tryz.func9 rfl Tryz.ntmps9 rfl fun a hf => ?_
  have hF : Away [] := away_nil
  have hO : Dk.Own w0 [] w0 [] := Dk.Own.refl w0
  have hO := hO.addShr hs0 (by simp [Res.shared])
  refine wp_seq_k fun _ hK1 => ?_
  refine wp_region_list ?_
  refine op_val (ex_assign hf rfl) rfl hf rfl rfl fun a hf => ?_
  refine wpList_nil ?_
  refine nor_then (hK1 _ _ ?_)
  refine wp_seq_k fun _ hK6 => ?_
  refine wp_region_list ?_
  refine op_val (ex_move hf rfl) rfl hf rfl rfl fun a hf => ?_
  obtain ⟨r2, hr2, hm⟩ := ob hm
  refine op_enter (ex_call c_13 hf (vs := [str x_s]) rfl) rfl hf rfl rfl (w_cookie_Parse x_s r2 _ (hG.own hF hO).1 hr2) ?_
  rintro e w' ⟨p3, c4, he, hO'⟩
  refine ⟨_, he, fun a hf => ?_⟩
  have hO := hO.call hO' (by simp [Res.shared])
  refine op_val (ex_move hf rfl) rfl hf rfl rfl fun a hf => ?_
  refine op_val (ex_extract hf rfl rfl) rfl hf rfl rfl fun a hf => ?_
  refine op_val (ex_extract hf rfl rfl) rfl hf rfl rfl fun a hf => ?_
  refine op_alloc al_33 hf rfl hO fun a b5 w hf hO => ?_
  have hO := hO.nilRow 66 3
  refine op_storeN (i := 1) (n := 3) sz_33 rfl rfl rfl (by simp [Value.oneCell']) hf rfl rfl hO fun w hO => ?_
  refine op_val (ex_assign hf rfl) rfl hf rfl rfl fun a hf => ?_
  refine wpList_nil ?_
  refine nor_then (hK6 _ _ ?_)
  refine wp_seq_k fun _ hK10 => ?_
  refine wp_seq_k fun _ hK7 => ?_
  refine wp_region_list ?_
  refine op_val (ex_move hf rfl) rfl hf rfl rfl fun a hf => ?_
  refine op_val (ex_neq (m := r2.2) (n := 0) hf rfl rfl) rfl hf rfl rfl fun a hf => ?_
  refine wpList_nil ?_
  refine nor_then (hK7 _ _ ?_)
  refine wp_cond_cut hf rfl (fun hc8 => ?_) (fun hc8 => ?_)
  · have hm := it hc8 hm
    refine wp_seq_k fun _ hK9 => ?_
    refine wp_region_list ?_
    refine op_val (ex_move hf rfl) rfl hf rfl rfl fun a hf => ?_
    refine op_val (ex_assign hf rfl) rfl hf rfl rfl fun a hf => ?_
    refine wpList_nil ?_
    refine nor_then (hK9 _ _ ?_)
    refine wp_ret ?_
    refine ret_then ?_
    obtain rfl := Option.some.inj hm
    exact post_ret Tryz.results9 hf (.tmp rfl .nil) ⟨rfl, hO.below⟩
  · have hm := ie hc8 hm
    refine wp_skip ?_
    refine nor_then (hK10 _ _ ?_)
    refine wp_seq_k fun _ hK12 => ?_
    refine wp_region_list ?_
    refine op_val (ex_loadN (o := 0) (vs := [str r2.1.Name, str r2.1.Value, .slice p3 r2.1.Attrs.length c4]) ag_33 sz_33 (hO.blkSees (i := 1) rfl) rfl rfl hf rfl) rfl hf rfl rfl fun a hf => ?_
    obtain ⟨r11, hr11, hm⟩ := ob hm
    refine op_enter (ex_call c_14 hf (vs := [.agg #[str r2.1.Name, str r2.1.Value, .slice p3 r2.1.Attrs.length c4], str [68, 111, 109, 97, 105, 110]]) rfl) rfl hf rfl rfl (w_cookie_Get r2.1 [68, 111, 109, 97, 105, 110] r11 _ (hG.own hF hO).1 (hO.rowSees (i := 2) rfl) (hO.rowCap (i := 2) rfl) hr11) ?_
    rintro e w' ⟨he, hb⟩
    refine ⟨_, he, fun a hf => ?_⟩
    have hO := hO.grow hb
    refine op_val (ex_move hf rfl) rfl hf rfl rfl fun a hf => ?_
    refine op_val (ex_extract hf rfl rfl) rfl hf rfl rfl fun a hf => ?_
    refine op_val (ex_extract hf rfl rfl) rfl hf rfl rfl fun a hf => ?_
    refine op_val (ex_assign hf rfl) rfl hf rfl rfl fun a hf => ?_
    refine op_val (ex_assign hf rfl) rfl hf rfl rfl fun a hf => ?_
    refine wpList_nil ?_
    refine nor_then (hK12 _ _ ?_)
    refine wp_seq_k fun _ hK14 => ?_
    refine wp_region_list ?_
    refine op_val (ex_move hf rfl) rfl hf rfl rfl fun a hf => ?_
    refine op_val (ex_move hf rfl) rfl hf rfl rfl fun a hf => ?_
    obtain ⟨r13, hr13, hm⟩ := ob hm
    refine op_enter (ex_call c_15 hf (vs := [str r11.1, .slice x_l_p0 x_l.length x_l_c0]) rfl) rfl hf rfl rfl (w_domains_Map r11.1 x_l r13 _ (hG.own hF hO) (hO.sees (i := 3) rfl) hc0 hr13) ?_
    rintro e w' ⟨he, hb⟩
    refine ⟨_, he, fun a hf => ?_⟩
    have hO := hO.grow hb
    refine op_val (ex_move hf rfl) rfl hf rfl rfl fun a hf => ?_
    refine op_val (ex_extract hf rfl rfl) rfl hf rfl rfl fun a hf => ?_
    refine op_val (ex_extract hf rfl rfl) rfl hf rfl rfl fun a hf => ?_
    refine op_val (ex_assign hf rfl) rfl hf rfl rfl fun a hf => ?_
    refine op_val (ex_assign hf rfl) rfl hf rfl rfl fun a hf => ?_
    refine wpList_nil ?_
    refine nor_then (hK14 _ _ ?_)
    refine wp_seq_k fun _ hK18 => ?_
    refine wp_seq_k fun _ hK15 => ?_
    refine wp_region_list ?_
    refine op_val (ex_move hf rfl) rfl hf rfl rfl fun a hf => ?_
    refine op_val (ex_not hf rfl) rfl hf rfl rfl fun a hf => ?_
    refine wpList_nil ?_
    refine nor_then (hK15 _ _ ?_)
    refine wp_cond_cut hf rfl (fun hc16 => ?_) (fun hc16 => ?_)
    · have hm := it hc16 hm
      refine wp_seq_k fun _ hK17 => ?_
      refine wp_region_list ?_
      refine op_val (ex_move hf rfl) rfl hf rfl rfl fun a hf => ?_
      refine op_val (ex_assign hf rfl) rfl hf rfl rfl fun a hf => ?_
      refine wpList_nil ?_
      refine nor_then (hK17 _ _ ?_)
      refine wp_ret ?_
      refine ret_then ?_
      obtain rfl := Option.some.inj hm
      exact post_ret Tryz.results9 hf (.tmp rfl .nil) ⟨rfl, hO.below⟩
    · have hm := ie hc16 hm
      refine wp_skip ?_
      refine nor_then (hK18 _ _ ?_)
      refine wp_seq_k fun _ hK23 => ?_
      refine wp_region_list ?_
      refine op_val (ex_loadN (o := 0) (vs := [str r2.1.Name, str r2.1.Value, .slice p3 r2.1.Attrs.length c4]) ag_33 sz_33 (hO.blkSees (i := 1) rfl) rfl rfl hf rfl) rfl hf rfl rfl fun a hf => ?_
      refine op_val (ex_move hf rfl) rfl hf rfl rfl fun a hf => ?_
      obtain ⟨r19, hr19, hm⟩ := ob hm
      refine op_enter (ex_call c_26 hf (vs := [.agg #[str r2.1.Name, str r2.1.Value, .slice p3 r2.1.Attrs.length c4], str [68, 111, 109, 97, 105, 110], str r13.1]) rfl) rfl hf rfl rfl (w_cookie_Set r2.1 [68, 111, 109, 97, 105, 110] r13.1 r19 _ (hG.own hF hO).1 (hO.rowSees (i := 2) rfl) (hO.rowCap (i := 2) rfl) hr19) ?_
      rintro e w' ⟨p20, c21, he, hO'⟩
      refine ⟨_, he, fun a hf => ?_⟩
      have hO := hO.call hO' (by simp [Res.shared])
      obtain ⟨r22, hr22, hm⟩ := ob hm
      refine op_enter (ex_call c_25 hf (vs := [.agg #[str r19.Name, str r19.Value, .slice p20 r19.Attrs.length c21]]) rfl) rfl hf rfl rfl (w_cookie_Text r19 r22 _ (hG.own hF hO).1 (hO.rowSees (i := 0) rfl) (hO.rowCap (i := 0) rfl) hr22) ?_
      rintro e w' ⟨he, hb⟩
      refine ⟨_, he, fun a hf => ?_⟩
      have hO := hO.grow hb
      refine op_val (ex_move hf rfl) rfl hf rfl rfl fun a hf => ?_
      refine op_val (ex_extract hf rfl rfl) rfl hf rfl rfl fun a hf => ?_
      refine op_val (ex_extract hf rfl rfl) rfl hf rfl rfl fun a hf => ?_
      refine op_val (ex_assign hf rfl) rfl hf rfl rfl fun a hf => ?_
      refine op_val (ex_assign hf rfl) rfl hf rfl rfl fun a hf => ?_
      refine wpList_nil ?_
      refine nor_then (hK23 _ _ ?_)
      refine wp_seq_k fun _ hK27 => ?_
      refine wp_seq_k fun _ hK24 => ?_
      refine wp_region_list ?_
      refine op_val (ex_move hf rfl) rfl hf rfl rfl fun a hf => ?_
      refine op_val (ex_neq (m := r22.2) (n := 0) hf rfl rfl) rfl hf rfl rfl fun a hf => ?_
      refine wpList_nil ?_
      refine nor_then (hK24 _ _ ?_)
      refine wp_cond_cut hf rfl (fun hc25 => ?_) (fun hc25 => ?_)
      · have hm := it hc25 hm
        refine wp_seq_k fun _ hK26 => ?_
        refine wp_region_list ?_
        refine op_val (ex_move hf rfl) rfl hf rfl rfl fun a hf => ?_
        refine op_val (ex_assign hf rfl) rfl hf rfl rfl fun a hf => ?_
        refine wpList_nil ?_
        refine nor_then (hK26 _ _ ?_)
        refine wp_ret ?_
        refine ret_then ?_
        obtain rfl := Option.some.inj hm
        exact post_ret Tryz.results9 hf (.tmp rfl .nil) ⟨rfl, hO.below⟩
      · have hm := ie hc25 hm
        refine wp_skip ?_
        refine nor_then (hK27 _ _ ?_)
        refine wp_seq_k fun _ hK28 => ?_
        refine wp_region_list ?_
        refine op_val (ex_move hf rfl) rfl hf rfl rfl fun a hf => ?_
        refine op_val (ex_assign hf rfl) rfl hf rfl rfl fun a hf => ?_
        refine wpList_nil ?_
        refine nor_then (hK28 _ _ ?_)
        refine wp_ret ?_
        obtain rfl := Option.some.inj hm
        exact post_ret Tryz.results9 hf (.tmp rfl .nil) ⟨rfl, hO.below⟩

end Go.Proofs
