/-
  Walks, written by a program (wip/gen): what its model says, the function returns; what was there before is as it was.
-/
import Derived.Test.YtpingffipghifaaDoorLib
import Derived.Test.YtpingffipghifaaDoorW1
import Derived.Test.YtpingffipghifaaDoorW2
import Derived.Test.YtpingffipghifaaDoorW3
import Derived.Test.YtpingffipghifaaDoorW4
set_option linter.unusedVariables false
set_option linter.unusedSimpArgs false
set_option maxRecDepth 100000
namespace Go.Proofs
open Go.Dk Go.Dm Go.RowKit

set_option maxHeartbeats 1000000 in
theorem w_ref28_Parse (x_s : Str) (R : api_Cookie × Int) (w0 : World) (hG : Glob w0) (hm : ref28_Parse x_s = some R) :
    Calls Tryd.prog 15 #[str x_s] w0 fun e w' => ∃ (p0 : Option Addr) (c0 : Nat), e = .returned (.tuple #[.agg #[str R.1.Name, str R.1.Value, .slice p0 R.1.Attrs.length c0], int R.2]) ∧ Dk.Own w0 [] w' [.row (.slice p0 R.1.Attrs.length c0) 31 3 R.1.Attrs.length (cells enc_api_Attr R.1.Attrs)] := by
  rw [ref28_Parse] at hm
  refine calls_enter (vs := [str x_s]) Tryd.func15 rfl Tryd.ntmps15 rfl fun a hf => ?_
  have hF : Away [] := away_nil
  have hO : Dk.Own w0 [] w0 [] := Dk.Own.refl w0
  refine wp_seq_k fun _ hK2 => ?_
  refine wp_region_list ?_
  refine op_alloc al_24 hf rfl hO fun a b1 w hf hO => ?_
  have hO := hO.nilRow 31 3
  refine op_val (ex_assign hf rfl) rfl hf rfl rfl fun a hf => ?_
  refine wpList_nil ?_
  refine nor_then (hK2 _ _ ?_)
  refine wp_seq_k fun _ hK6 => ?_
  refine wp_region_list ?_
  refine op_val (ex_move hf rfl) rfl hf rfl rfl fun a hf => ?_
  obtain ⟨r3, hr3, hm⟩ := ob hm
  refine op_enter (ex_call c_32 hf (vs := [str x_s, byte 59]) rfl) rfl hf rfl rfl (w_ref08_Parts x_s 59 r3 _ (hG.own hF hO) hr3) ?_
  rintro e w' ⟨p4, c5, he, hO'⟩
  refine ⟨_, he, fun a hf => ?_⟩
  have hO := hO.call hO' (by simp [Res.shared])
  refine op_val (ex_assign hf rfl) rfl hf rfl rfl fun a hf => ?_
  refine wpList_nil ?_
  refine nor_then (hK6 _ _ ?_)
  refine wp_seq_k fun _ hK8 => ?_
  refine wp_region_list ?_
  refine op_val (ex_build (vs := []) (v := .agg #[str [], str [], .slice none 0 0]) hf rfl (by kernel_rfl)) rfl hf rfl rfl fun a hf => ?_
  refine op_alloc al_24 hf rfl hO fun a b7 w hf hO => ?_
  have hO := hO.nilRow 31 3
  refine op_storeN (i := 1) (n := 3) sz_24 rfl rfl rfl (by simp [Value.oneCell']) hf rfl rfl hO fun w hO => ?_
  have hO := hO.nilRow 31 3
  refine wpList_nil ?_
  refine nor_then (hK8 _ _ ?_)
  refine wp_seq_cut (fun a w => ∃ (p46 : Option Addr) (c47 : Nat) (l48 : List api_Attr) (s49 : Str) (s50 : Str), Fits 59 [(2, ptr b1 0), (5, ptr b7 0)] a ∧ Dk.Own w0 [] w [.row (.slice p46 l48.length c47) 31 3 l48.length (cells enc_api_Attr l48), .row (.slice none 0 0) 31 3 0 (cells enc_api_Attr []), .blk b7 [str s49, str s50, .slice p46 l48.length c47] 24, .row (.slice p4 r3.length c5) 9 1 r3.length (cells enc_str r3), .row (.slice none 0 0) 31 3 0 (cells enc_api_Attr []), .blk b1 [str [], str [], .slice none 0 0] 24] ∧ ref28_Parse_j4 l48 s49 s50 = some R) ?_ ?_
  · refine wp_seq_k fun _ hK9 => ?_
    refine wp_region_list ?_
    refine op_val (ex_assign hf rfl) rfl hf rfl rfl fun a hf => ?_
    refine wpList_nil ?_
    refine nor_then (hK9 _ _ ?_)
    refine wp_block ?_
    refine wp_loop_n (fun k a w => ∃ (p10 : Option Addr) (c11 : Nat) (l12 : List api_Attr) (s13 : Str) (s14 : Str) (i15 : Int), Fits 59 [(2, ptr b1 0), (4, .slice p4 r3.length c5), (5, ptr b7 0), (6, int i15)] a ∧ Dk.Own w0 [] w [.row (.slice p10 l12.length c11) 31 3 l12.length (cells enc_api_Attr l12), .row (.slice none 0 0) 31 3 0 (cells enc_api_Attr []), .blk b7 [str s13, str s14, .slice p10 l12.length c11] 24, .row (.slice p4 r3.length c5) 9 1 r3.length (cells enc_str r3), .row (.slice none 0 0) 31 3 0 (cells enc_api_Attr []), .blk b1 [str [], str [], .slice none 0 0] 24] ∧ ref28_Parse_L1 r3 k l12 s13 s14 i15 = some R) ?_ fuel ?_
    · rintro n1 a w ⟨p10, c11, l12, s13, s14, i15, hf, hO, hm⟩
      obtain _ | n1 := n1
      · rw [ref28_Parse_L1] at hm
        cases hm
      · rw [ref28_Parse_L1] at hm
        refine wp_seq_k fun _ hK18 => ?_
        refine wp_seq_k fun _ hK16 => ?_
        refine wp_region_list ?_
        refine op_val (ex_move hf rfl) rfl hf rfl rfl fun a hf => ?_
        refine op_val (ex_move hf rfl) rfl hf rfl rfl fun a hf => ?_
        refine op_val (ex_len_l Tryd.underlying55 hf rfl) rfl hf rfl rfl fun a hf => ?_
        refine op_val (ex_lss (m := i15) (n := (r3.length : Int)) hf rfl rfl) rfl hf rfl rfl fun a hf => ?_
        refine wpList_nil ?_
        refine nor_then (hK16 _ _ ?_)
        refine wp_cond_cut hf rfl (fun hc17 => ?_) (fun hc17 => ?_)
        · have hm := it hc17 hm
          refine wp_skip ?_
          refine nor_then (hK18 _ _ ?_)
          refine wp_seq_cut (fun a w => ∃ (p40 : Option Addr) (c41 : Nat) (l42 : List api_Attr) (s43 : Str) (s44 : Str), Fits 59 [(2, ptr b1 0), (4, .slice p4 r3.length c5), (5, ptr b7 0), (6, int i15)] a ∧ Dk.Own w0 [] w [.row (.slice p40 l42.length c41) 31 3 l42.length (cells enc_api_Attr l42), .row (.slice none 0 0) 31 3 0 (cells enc_api_Attr []), .blk b7 [str s43, str s44, .slice p40 l42.length c41] 24, .row (.slice p4 r3.length c5) 9 1 r3.length (cells enc_str r3), .row (.slice none 0 0) 31 3 0 (cells enc_api_Attr []), .blk b1 [str [], str [], .slice none 0 0] 24] ∧ ref28_Parse_j3 (ref28_Parse_L1 r3 n1) i15 l42 s43 s44 = some R) ?_ ?_
          · refine wp_block ?_
            refine wp_seq_k fun _ hK24 => ?_
            refine wp_region_list ?_
            refine op_val (ex_move hf rfl) rfl hf rfl rfl fun a hf => ?_
            refine op_val (ex_move hf rfl) rfl hf rfl rfl fun a hf => ?_
            obtain ⟨x19, hx19, hm⟩ := ob hm
            obtain ⟨b20, o21, hix19, hSx19, hAx19⟩ := elemAtRow (enc := enc_str) (sz := 1) (xs := r3) 55 Tryd.underlying55 sz_9 (by decide) (fun _ => rfl) hO (i := 3) rfl hx19
            refine op_val (ex_indexAddr hix19 hf rfl rfl) rfl hf rfl rfl fun a hf => ?_
            refine op_val (ex_load1 (o := 0) ag_9 (hSx19 _ (hO.rowSees (i := 3) rfl)) rfl hf rfl) rfl hf rfl rfl fun a hf => ?_
            obtain ⟨r22, hr22, hm⟩ := ob hm
            refine op_enter (ex_call c_33 hf (vs := [str x19]) rfl) rfl hf rfl rfl (w_ref28_part x19 r22 _ (hG.own hF hO) hr22) ?_
            rintro e w' ⟨he, hb⟩
            refine ⟨_, he, fun a hf => ?_⟩
            have hO := hO.grow hb
            refine op_val (ex_move hf rfl) rfl hf rfl rfl fun a hf => ?_
            refine op_val (ex_extract hf rfl rfl) rfl hf rfl rfl fun a hf => ?_
            refine op_val (ex_extract hf rfl rfl) rfl hf rfl rfl fun a hf => ?_
            refine op_alloc al_31 hf rfl hO fun a b23 w hf hO => ?_
            refine op_storeN (i := 0) (n := 3) sz_31 rfl rfl rfl (by simp [Value.oneCell']) hf rfl rfl hO fun w hO => ?_
            refine op_val (ex_assign hf rfl) rfl hf rfl rfl fun a hf => ?_
            refine wpList_nil ?_
            refine nor_then (hK24 _ _ ?_)
            refine wp_seq_k fun _ hK32 => ?_
            refine wp_seq_cut (fun a w => ∃ (t29 : Bool), Fits 59 [(2, ptr b1 0), (4, .slice p4 r3.length c5), (5, ptr b7 0), (6, int i15), (7, ptr b23 0), (42, .bool t29)] a ∧ Dk.Own w0 [] w [.blk b23 [str r22.1.Name, str r22.1.Value, .bool r22.1.Has] 31, .row (.slice p10 l12.length c11) 31 3 l12.length (cells enc_api_Attr l12), .row (.slice none 0 0) 31 3 0 (cells enc_api_Attr []), .blk b7 [str s13, str s14, .slice p10 l12.length c11] 24, .row (.slice p4 r3.length c5) 9 1 r3.length (cells enc_str r3), .row (.slice none 0 0) 31 3 0 (cells enc_api_Attr []), .blk b1 [str [], str [], .slice none 0 0] 24] ∧ ref28_Parse_j2 (ref28_Parse_L1 r3 n1) l12 s13 s14 i15 r22 t29 = some R) ?_ ?_
            · refine wp_region_list ?_
              refine op_val (ex_move hf rfl) rfl hf rfl rfl fun a hf => ?_
              refine op_val (ex_not hf rfl) rfl hf rfl rfl fun a hf => ?_
              refine op_val (ex_move hf rfl) rfl hf rfl rfl fun a hf => ?_
              rcases bcase (!r22.2) with hc25 | hc25
              · have hm := it hc25 hm
                refine op_pass rfl hf rfl rfl (hc25) rfl rfl fun a hf => ?_
                refine op_pass rfl hf rfl rfl (hc25) rfl rfl fun a hf => ?_
                refine op_pass rfl hf rfl rfl (hc25) rfl rfl fun a hf => ?_
                refine op_passu rfl hf rfl rfl rfl rfl fun a hf => ?_
                refine op_passu rfl hf rfl rfl rfl rfl fun a hf => ?_
                refine op_passu rfl hf rfl rfl rfl rfl fun a hf => ?_
                refine op_passu rfl hf rfl rfl rfl rfl fun a hf => ?_
                refine op_passu rfl hf rfl rfl rfl rfl fun a hf => ?_
                refine op_passu rfl hf rfl rfl rfl rfl fun a hf => ?_
                refine op_passu rfl hf rfl rfl rfl rfl fun a hf => ?_
                refine op_passu rfl hf rfl rfl rfl rfl fun a hf => ?_
                refine op_passu rfl hf rfl rfl rfl rfl fun a hf => ?_
                refine op_pass rfl hf rfl rfl (hc25) rfl rfl fun a hf => ?_
                refine op_val (ex_pick_t hf rfl hc25 rfl) rfl hf rfl rfl fun a hf => ?_
                refine wpList_nil ?_
                refine nor_then ?_
                exact ⟨true, (hf.cons rfl (hf.cons rfl (hf.cons rfl (hf.cons rfl (hf.cons rfl (hf.cons rfl hf.nil)))))), hO, hm⟩
              · have hm := ie hc25 hm
                refine op_guard rfl hf rfl rfl (hc25) ?_
                refine op_val (ex_move hf rfl) rfl hf rfl rfl fun a hf => ?_
                refine op_guard rfl hf rfl rfl (hc25) ?_
                refine op_val (ex_eql (m := i15) (n := 0) hf rfl rfl) rfl hf rfl rfl fun a hf => ?_
                refine op_guard rfl hf rfl rfl (hc25) ?_
                refine op_val (ex_move hf rfl) rfl hf rfl rfl fun a hf => ?_
                rcases bcase (i15 == 0) with hc26 | hc26
                · have hm := it hc26 hm
                  refine op_guard rfl hf rfl rfl (hc26) ?_
                  refine op_val (ex_field fa_31_2 hf rfl) rfl hf rfl rfl fun a hf => ?_
                  refine op_guard rfl hf rfl rfl (hc26) ?_
                  refine op_val (ex_load1 (o := 2) ag_4 (hO.blkSees (i := 0) rfl) rfl hf rfl) rfl hf rfl rfl fun a hf => ?_
                  refine op_guard rfl hf rfl rfl (hc26) ?_
                  refine op_val (ex_not hf rfl) rfl hf rfl rfl fun a hf => ?_
                  refine op_guard rfl hf rfl rfl (hc26) ?_
                  refine op_val (ex_move hf rfl) rfl hf rfl rfl fun a hf => ?_
                  rcases bcase (!r22.1.Has) with hc27 | hc27
                  · have hm := it hc27 hm
                    refine op_pass rfl hf rfl rfl (hc27) rfl rfl fun a hf => ?_
                    refine op_pass rfl hf rfl rfl (hc27) rfl rfl fun a hf => ?_
                    refine op_pass rfl hf rfl rfl (hc27) rfl rfl fun a hf => ?_
                    refine op_pass rfl hf rfl rfl (hc27) rfl rfl fun a hf => ?_
                    refine op_guard rfl hf rfl rfl (hc26) ?_
                    refine op_val (ex_pick_t hf rfl hc27 rfl) rfl hf rfl rfl fun a hf => ?_
                    refine op_guard rfl hf rfl rfl (hc25) ?_
                    refine op_val (ex_pick_t hf rfl hc26 rfl) rfl hf rfl rfl fun a hf => ?_
                    refine op_val (ex_pick_f hf rfl hc25 rfl) rfl hf rfl rfl fun a hf => ?_
                    refine wpList_nil ?_
                    refine nor_then ?_
                    exact ⟨true, (hf.cons rfl (hf.cons rfl (hf.cons rfl (hf.cons rfl (hf.cons rfl (hf.cons rfl hf.nil)))))), hO, hm⟩
                  · have hm := ie hc27 hm
                    refine op_guard rfl hf rfl rfl (hc27) ?_
                    refine op_val (ex_field fa_31_1 hf rfl) rfl hf rfl rfl fun a hf => ?_
                    refine op_guard rfl hf rfl rfl (hc27) ?_
                    refine op_val (ex_load1 (o := 1) ag_9 (hO.blkSees (i := 0) rfl) rfl hf rfl) rfl hf rfl rfl fun a hf => ?_
                    refine op_guard rfl hf rfl rfl (hc27) ?_
                    obtain ⟨r28, hr28, hm⟩ := ob hm
                    refine op_enter (ex_call c_34 hf (vs := [str r22.1.Value]) rfl) rfl hf rfl rfl (w_ref28_value r22.1.Value r28 _ (hG.own hF hO) hr28) ?_
                    rintro e w' ⟨he, hb⟩
                    refine ⟨_, he, fun a hf => ?_⟩
                    have hO := hO.grow hb
                    refine op_guard rfl hf rfl rfl (hc27) ?_
                    refine op_val (ex_not hf rfl) rfl hf rfl rfl fun a hf => ?_
                    refine op_guard rfl hf rfl rfl (hc26) ?_
                    refine op_val (ex_pick_f hf rfl hc27 rfl) rfl hf rfl rfl fun a hf => ?_
                    refine op_guard rfl hf rfl rfl (hc25) ?_
                    refine op_val (ex_pick_t hf rfl hc26 rfl) rfl hf rfl rfl fun a hf => ?_
                    refine op_val (ex_pick_f hf rfl hc25 rfl) rfl hf rfl rfl fun a hf => ?_
                    refine wpList_nil ?_
                    refine nor_then ?_
                    exact ⟨!r28, (hf.cons rfl (hf.cons rfl (hf.cons rfl (hf.cons rfl (hf.cons rfl (hf.cons rfl hf.nil)))))), hO, hm⟩
                · have hm := ie hc26 hm
                  refine op_pass rfl hf rfl rfl (hc26) rfl rfl fun a hf => ?_
                  refine op_pass rfl hf rfl rfl (hc26) rfl rfl fun a hf => ?_
                  refine op_pass rfl hf rfl rfl (hc26) rfl rfl fun a hf => ?_
                  refine op_pass rfl hf rfl rfl (hc26) rfl rfl fun a hf => ?_
                  refine op_passu rfl hf rfl rfl rfl rfl fun a hf => ?_
                  refine op_passu rfl hf rfl rfl rfl rfl fun a hf => ?_
                  refine op_passu rfl hf rfl rfl rfl rfl fun a hf => ?_
                  refine op_passu rfl hf rfl rfl rfl rfl fun a hf => ?_
                  refine op_pass rfl hf rfl rfl (hc26) rfl rfl fun a hf => ?_
                  refine op_guard rfl hf rfl rfl (hc25) ?_
                  refine op_val (ex_pick_f hf rfl hc26 rfl) rfl hf rfl rfl fun a hf => ?_
                  refine op_val (ex_pick_f hf rfl hc25 rfl) rfl hf rfl rfl fun a hf => ?_
                  refine wpList_nil ?_
                  refine nor_then ?_
                  exact ⟨false, (hf.cons rfl (hf.cons rfl (hf.cons rfl (hf.cons rfl (hf.cons rfl (hf.cons rfl hf.nil)))))), hO, hm⟩
            · rintro a w ⟨t29, hf, hO, hm⟩
              rw [ref28_Parse_j2] at hm
              refine wp_cond_cut hf rfl (fun hc30 => ?_) (fun hc30 => ?_)
              · have hm := it hc30 hm
                refine wp_seq_k fun _ hK31 => ?_
                refine wp_region_list ?_
                refine op_val (ex_build (vs := []) (v := .agg #[str [], str [], .slice none 0 0]) hf rfl (by kernel_rfl)) rfl hf rfl rfl fun a hf => ?_
                refine op_storeN (i := 6) (n := 3) sz_24 rfl rfl rfl (by simp [Value.oneCell']) hf rfl rfl hO fun w hO => ?_
                have hO := hO.nilRow 31 3
                refine op_val (ex_assign hf rfl) rfl hf rfl rfl fun a hf => ?_
                refine wpList_nil ?_
                refine nor_then (hK31 _ _ ?_)
                refine wp_ret ?_
                refine ret_then ?_
                refine ret_block ?_
                refine ret_then ?_
                refine ret_then ?_
                refine ret_block ?_
                refine ret_then ?_
                obtain rfl := Option.some.inj hm
                exact post_ret Tryd.results15 hf (.cell rfl (run_loadVarN (n := 3) (vs := [str [], str [], .slice none 0 0]) ag_24 sz_24 rfl ((hO.blkSees (i := 7) rfl).cells (o := 0) (n := 3) rfl)) (.tmp rfl .nil)) ⟨none, 0, rfl, (hO.sub (.cons_cons _ (.cons _ (.cons _ (.cons _ (.cons _ (.cons _ (.cons _ (.cons _ .slnil)))))))))⟩
              · have hm := ie hc30 hm
                refine wp_skip ?_
                refine nor_then (hK32 _ _ ?_)
                refine wp_seq_k fun _ hK33 => ?_
                refine wp_region_list ?_
                refine op_val (ex_move hf rfl) rfl hf rfl rfl fun a hf => ?_
                refine op_val (ex_eql (m := i15) (n := 0) hf rfl rfl) rfl hf rfl rfl fun a hf => ?_
                refine wpList_nil ?_
                refine nor_then (hK33 _ _ ?_)
                refine wp_cond_cut hf rfl (fun hc34 => ?_) (fun hc34 => ?_)
                · have hm := it hc34 hm
                  refine wp_seq_k fun _ hK35 => ?_
                  refine wp_region_list ?_
                  refine op_val (ex_field fa_31_0 hf rfl) rfl hf rfl rfl fun a hf => ?_
                  refine op_val (ex_load1 (o := 0) ag_9 (hO.blkSees (i := 0) rfl) rfl hf rfl) rfl hf rfl rfl fun a hf => ?_
                  refine op_val (ex_field fa_24_0 hf rfl) rfl hf rfl rfl fun a hf => ?_
                  refine op_store1 (i := 3) (o := 0) (v := str r22.1.Name) sz_9 rfl rfl rfl rfl hf rfl rfl hO fun w hO => ?_
                  refine wpList_nil ?_
                  refine nor_then (hK35 _ _ ?_)
                  refine wp_region_list ?_
                  refine op_val (ex_field fa_31_1 hf rfl) rfl hf rfl rfl fun a hf => ?_
                  refine op_val (ex_load1 (o := 1) ag_9 (hO.blkSees (i := 0) rfl) rfl hf rfl) rfl hf rfl rfl fun a hf => ?_
                  refine op_val (ex_field fa_24_1 hf rfl) rfl hf rfl rfl fun a hf => ?_
                  refine op_store1 (i := 3) (o := 1) (v := str r22.1.Value) sz_9 rfl rfl rfl rfl hf rfl rfl hO fun w hO => ?_
                  refine wpList_nil ?_
                  refine nor_block ?_
                  refine nor_then ?_
                  exact ⟨p10, c11, l12, r22.1.Name, r22.1.Value, (hf.cons rfl (hf.cons rfl (hf.cons rfl (hf.cons rfl hf.nil)))), (hO.sub (.cons _ (.cons_cons _ (.cons_cons _ (.cons_cons _ (.cons_cons _ (.cons_cons _ (.cons_cons _ .slnil)))))))), hm⟩
                · have hm := ie hc34 hm
                  refine wp_region_list ?_
                  refine op_val (ex_field fa_24_2 hf rfl) rfl hf rfl rfl fun a hf => ?_
                  refine op_val (ex_load1 (o := 2) ag_22 (hO.blkSees (i := 3) rfl) rfl hf rfl) rfl hf rfl rfl fun a hf => ?_
                  refine op_val (ex_loadN (o := 0) (vs := [str r22.1.Name, str r22.1.Value, .bool r22.1.Has]) ag_31 sz_31 (hO.blkSees (i := 0) rfl) rfl rfl hf rfl) rfl hf rfl rfl fun a hf => ?_
                  refine op_buildSlice (vs := [(0, .agg #[str r22.1.Name, str r22.1.Value, .bool r22.1.Has])]) (cs := [str r22.1.Name, str r22.1.Value, .bool r22.1.Has]) (e := 31) (sz := 3) hf rfl rfl (fun w => by kernel_rfl) rfl rfl hO fun a b36 w hf hO => ?_
                  obtain ⟨hg39, hm⟩ := og hm
                  refine op_appendT el_22 (enc := enc_api_Attr) (xs := l12) (ys := [r22.1]) (i := 2) (fun _ => rfl) rfl (hO.rowSees (i := 0) rfl) (by simp [cells, enc_api_Attr, Value.oneCell']) hg39 hf rfl rfl rfl hO fun a p37 c38 w hf hO => ?_
                  refine op_val (ex_field fa_24_2 hf rfl) rfl hf rfl rfl fun a hf => ?_
                  refine op_store1 (i := 4) (o := 2) (v := .slice p37 ((l12 ++ [r22.1]).length) c38) sz_22 rfl rfl rfl rfl hf rfl rfl hO fun w hO => ?_
                  refine wpList_nil ?_
                  refine nor_block ?_
                  refine nor_then ?_
                  exact ⟨p37, c38, l12 ++ [r22.1], s13, s14, (hf.cons rfl (hf.cons rfl (hf.cons rfl (hf.cons rfl hf.nil)))), (hO.sub (.cons _ (.cons _ (.cons_cons _ (.cons_cons _ (.cons_cons _ (.cons_cons _ (.cons_cons _ (.cons_cons _ .slnil))))))))), hm⟩
          · rintro a w ⟨p40, c41, l42, s43, s44, hf, hO, hm⟩
            rw [ref28_Parse_j3] at hm
            refine wp_region_list ?_
            refine op_val (ex_move hf rfl) rfl hf rfl rfl fun a hf => ?_
            obtain ⟨i45, hi45, hm⟩ := ob hm
            refine op_val (ex_add hf rfl rfl hi45) rfl hf rfl rfl fun a hf => ?_
            refine op_val (ex_assign hf rfl) rfl hf rfl rfl fun a hf => ?_
            refine wpList_nil ?_
            refine nor_then ?_
            exact ⟨_, Nat.lt_succ_self _, p40, c41, l42, s43, s44, i45, (hf.cons rfl (hf.cons rfl (hf.cons rfl (hf.cons rfl hf.nil)))), hO, hm⟩
        · have hm := ie hc17 hm
          refine wp_exit ?_
          refine exit_then ?_
          refine exit_then ?_
          refine exit_here ?_
          refine nor_then ?_
          exact ⟨p10, c11, l12, s13, s14, (hf.cons rfl (hf.cons rfl hf.nil)), hO, hm⟩
    · exact ⟨none, 0, [], [], [], 0, (hf.cons rfl (hf.cons rfl (hf.cons rfl (hf.cons rfl hf.nil)))), hO, hm⟩
  · rintro a w ⟨p46, c47, l48, s49, s50, hf, hO, hm⟩
    rw [ref28_Parse_j4] at hm
    refine wp_seq_k fun _ hK51 => ?_
    refine wp_region_list ?_
    refine op_val (ex_loadN (o := 0) (vs := [str s49, str s50, .slice p46 l48.length c47]) ag_24 sz_24 (hO.blkSees (i := 2) rfl) rfl rfl hf rfl) rfl hf rfl rfl fun a hf => ?_
    refine op_storeN (i := 5) (n := 3) sz_24 rfl rfl rfl (by simp [Value.oneCell']) hf rfl rfl hO fun w hO => ?_
    refine op_val (ex_assign hf rfl) rfl hf rfl rfl fun a hf => ?_
    refine wpList_nil ?_
    refine nor_then (hK51 _ _ ?_)
    refine wp_ret ?_
    obtain rfl := Option.some.inj hm
    exact post_ret Tryd.results15 hf (.cell rfl (run_loadVarN (n := 3) (vs := [str s49, str s50, .slice p46 l48.length c47]) ag_24 sz_24 rfl ((hO.blkSees (i := 5) rfl).cells (o := 0) (n := 3) rfl)) (.tmp rfl .nil)) ⟨p46, c47, rfl, (hO.sub (.cons_cons _ (.cons _ (.cons _ (.cons _ (.cons _ (.cons _ .slnil)))))))⟩

set_option maxHeartbeats 1000000 in
theorem w_slices_Equal_gapi_Attr_api_Attr_ (x_s1 : List api_Attr) (x_s2 : List api_Attr) (R : Bool) (w0 : World) (hG : Glob w0) {x_s1_p0 : Option Addr} {x_s1_c0 : Nat} (hs0 : Sees w0 x_s1_p0 (cells enc_api_Attr x_s1)) (hc0 : x_s1.length ≤ x_s1_c0) {x_s2_p1 : Option Addr} {x_s2_c1 : Nat} (hs1 : Sees w0 x_s2_p1 (cells enc_api_Attr x_s2)) (hc1 : x_s2.length ≤ x_s2_c1) (hm : slices_Equal_gapi_Attr_api_Attr_ x_s1 x_s2 = some R) :
    Calls Tryd.prog 35 #[.slice x_s1_p0 x_s1.length x_s1_c0, .slice x_s2_p1 x_s2.length x_s2_c1] w0 fun e w' => e = .returned (.bool R) ∧ Below w0.heap.size w0 w' := by
  rw [slices_Equal_gapi_Attr_api_Attr_] at hm
  refine calls_enter (vs := [.slice x_s1_p0 x_s1.length x_s1_c0, .slice x_s2_p1 x_s2.length x_s2_c1]) Tryd.func35 rfl Tryd.ntmps35 rfl fun a hf => ?_
  have hF : Away [] := away_nil
  have hO : Dk.Own w0 [] w0 [] := Dk.Own.refl w0
  have hO := hO.addShr hs0 (by simp [Res.shared])
  have hO := hO.addShr hs1 (by simp [Res.shared])
  refine wp_seq_k fun _ hK1 => ?_
  refine wp_region_list ?_
  refine op_val (ex_assign hf rfl) rfl hf rfl rfl fun a hf => ?_
  refine wpList_nil ?_
  refine nor_then (hK1 _ _ ?_)
  refine wp_seq_k fun _ hK5 => ?_
  refine wp_seq_k fun _ hK2 => ?_
  refine wp_region_list ?_
  refine op_val (ex_move hf rfl) rfl hf rfl rfl fun a hf => ?_
  refine op_val (ex_len_l Tryd.underlying22 hf rfl) rfl hf rfl rfl fun a hf => ?_
  refine op_val (ex_move hf rfl) rfl hf rfl rfl fun a hf => ?_
  refine op_val (ex_len_l Tryd.underlying22 hf rfl) rfl hf rfl rfl fun a hf => ?_
  refine op_val (ex_neq (m := (x_s1.length : Int)) (n := (x_s2.length : Int)) hf rfl rfl) rfl hf rfl rfl fun a hf => ?_
  refine wpList_nil ?_
  refine nor_then (hK2 _ _ ?_)
  refine wp_cond_cut hf rfl (fun hc3 => ?_) (fun hc3 => ?_)
  · have hm := it hc3 hm
    refine wp_seq_k fun _ hK4 => ?_
    refine wp_region_list ?_
    refine op_val (ex_assign hf rfl) rfl hf rfl rfl fun a hf => ?_
    refine wpList_nil ?_
    refine nor_then (hK4 _ _ ?_)
    refine wp_ret ?_
    refine ret_then ?_
    obtain rfl := Option.some.inj hm
    exact post_ret Tryd.results35 hf (.tmp rfl .nil) ⟨rfl, hO.below⟩
  · have hm := ie hc3 hm
    refine wp_skip ?_
    refine nor_then (hK5 _ _ ?_)
    refine wp_seq_k fun _ hK23 => ?_
    refine wp_seq_k fun _ hK6 => ?_
    refine wp_region_list ?_
    refine op_val (ex_move hf rfl) rfl hf rfl rfl fun a hf => ?_
    refine op_val (ex_len_l Tryd.underlying22 hf rfl) rfl hf rfl rfl fun a hf => ?_
    refine op_val (ex_move hf rfl) rfl hf rfl rfl fun a hf => ?_
    refine wpList_nil ?_
    refine nor_then (hK6 _ _ ?_)
    refine wp_block ?_
    refine wp_loop_n (fun k a w => ∃ (i7 : Int), Fits 26 [(0, .slice x_s1_p0 x_s1.length x_s1_c0), (1, .slice x_s2_p1 x_s2.length x_s2_c1), (12, int (x_s1.length : Int)), (13, int i7)] a ∧ Dk.Own w0 [] w [.shr x_s2_p1 (cells enc_api_Attr x_s2), .shr x_s1_p0 (cells enc_api_Attr x_s1)] ∧ slices_Equal_gapi_Attr_api_Attr__L1 x_s1 x_s2 k i7 = some R) ?_ fuel ?_
    · rintro n1 a w ⟨i7, hf, hO, hm⟩
      obtain _ | n1 := n1
      · rw [slices_Equal_gapi_Attr_api_Attr__L1] at hm
        cases hm
      · rw [slices_Equal_gapi_Attr_api_Attr__L1] at hm
        refine wp_seq_k fun _ hK8 => ?_
        refine wp_region_list ?_
        refine op_val (ex_lss (m := i7) (n := (x_s1.length : Int)) hf rfl rfl) rfl hf rfl rfl fun a hf => ?_
        refine wpList_nil ?_
        refine nor_then (hK8 _ _ ?_)
        refine wp_seq_k fun _ hK10 => ?_
        refine wp_cond_cut hf rfl (fun hc9 => ?_) (fun hc9 => ?_)
        · have hm := it hc9 hm
          refine wp_skip ?_
          refine nor_then (hK10 _ _ ?_)
          refine wp_seq_k fun _ hK21 => ?_
          refine wp_block ?_
          refine wp_seq_k fun _ hK11 => ?_
          refine wp_region_list ?_
          refine op_val (ex_move hf rfl) rfl hf rfl rfl fun a hf => ?_
          refine op_val (ex_assign hf rfl) rfl hf rfl rfl fun a hf => ?_
          refine wpList_nil ?_
          refine nor_then (hK11 _ _ ?_)
          refine wp_seq_k fun _ hK18 => ?_
          refine wp_quiet (by kernel_rfl) (by kernel_rfl) hO ?_
          refine q_val (fun w hO => ex_move hf rfl) rfl hf rfl rfl fun a hf => ?_
          refine q_val (fun w hO => ex_move hf rfl) rfl hf rfl rfl fun a hf => ?_
          obtain ⟨x12, hx12, hm⟩ := ob hm
          obtain ⟨b13, o14, hix12, hSx12⟩ := elemAt (enc := enc_api_Attr) (sz := 3) (xs := x_s1) 22 Tryd.underlying22 sz_31 (by decide) (fun _ => rfl) (hO.sees (i := 1) rfl) hx12
          refine q_val (fun w hO => ex_indexAddr hix12 hf rfl rfl) rfl hf rfl rfl fun a hf => ?_
          refine q_val (fun w hO => ex_loadN (o := 0) (vs := [str x12.Name, str x12.Value, .bool x12.Has]) ag_31 sz_31 (hSx12 _ (hO.sees (i := 1) rfl)) rfl rfl hf rfl) rfl hf rfl rfl fun a hf => ?_
          refine q_val (fun w hO => ex_move hf rfl) rfl hf rfl rfl fun a hf => ?_
          refine q_val (fun w hO => ex_move hf rfl) rfl hf rfl rfl fun a hf => ?_
          obtain ⟨x15, hx15, hm⟩ := ob hm
          obtain ⟨b16, o17, hix15, hSx15⟩ := elemAt (enc := enc_api_Attr) (sz := 3) (xs := x_s2) 22 Tryd.underlying22 sz_31 (by decide) (fun _ => rfl) (hO.sees (i := 0) rfl) hx15
          refine q_val (fun w hO => ex_indexAddr hix15 hf rfl rfl) rfl hf rfl rfl fun a hf => ?_
          refine q_val (fun w hO => ex_loadN (o := 0) (vs := [str x15.Name, str x15.Value, .bool x15.Has]) ag_31 sz_31 (hSx15 _ (hO.sees (i := 0) rfl)) rfl rfl hf rfl) rfl hf rfl rfl fun a hf => ?_
          refine q_val (fun w hO => ex_neq_t (by kernel_rfl) (eq_31 x12 x15) hf rfl rfl) rfl hf rfl rfl fun a hf => ?_
          refine wpQuiet_nil ?_
          intro w hO
          refine nor_then (hK18 _ _ ?_)
          refine wp_cond_cut hf rfl (fun hc19 => ?_) (fun hc19 => ?_)
          · have hm := it hc19 hm
            refine wp_seq_k fun _ hK20 => ?_
            refine wp_region_list ?_
            refine op_val (ex_assign hf rfl) rfl hf rfl rfl fun a hf => ?_
            refine wpList_nil ?_
            refine nor_then (hK20 _ _ ?_)
            refine wp_ret ?_
            refine ret_block ?_
            refine ret_then ?_
            refine ret_then ?_
            refine ret_block ?_
            refine ret_then ?_
            obtain rfl := Option.some.inj hm
            exact post_ret Tryd.results35 hf (.tmp rfl .nil) ⟨rfl, hO.below⟩
          · have hm := ie hc19 hm
            refine wp_skip ?_
            refine nor_block ?_
            refine nor_then (hK21 _ _ ?_)
            refine wp_region_list ?_
            obtain ⟨i22, hi22, hm⟩ := ob hm
            refine op_val (ex_add hf rfl rfl hi22) rfl hf rfl rfl fun a hf => ?_
            refine op_val (ex_move hf rfl) rfl hf rfl rfl fun a hf => ?_
            refine wpList_nil ?_
            refine nor_then ?_
            exact ⟨_, Nat.lt_succ_self _, i22, (hf.cons rfl (hf.cons rfl (hf.cons rfl (hf.cons rfl hf.nil)))), hO, hm⟩
        · have hm := ie hc9 hm
          refine wp_exit ?_
          refine exit_then ?_
          refine exit_then ?_
          refine exit_here ?_
          refine nor_then (hK23 _ _ ?_)
          refine wp_seq_k fun _ hK24 => ?_
          refine wp_region_list ?_
          refine op_val (ex_assign hf rfl) rfl hf rfl rfl fun a hf => ?_
          refine wpList_nil ?_
          refine nor_then (hK24 _ _ ?_)
          refine wp_ret ?_
          obtain rfl := Option.some.inj hm
          exact post_ret Tryd.results35 hf (.tmp rfl .nil) ⟨rfl, hO.below⟩
    · exact ⟨0, (hf.cons rfl (hf.cons rfl (hf.cons rfl (hf.cons rfl hf.nil)))), hO, hm⟩

set_option maxHeartbeats 1000000 in
theorem w_cookie_Same (x_a : api_Cookie) (x_b : api_Cookie) (R : Bool) (w0 : World) (hG : Glob w0) {x_a_p0 : Option Addr} {x_a_c0 : Nat} (hs0 : Sees w0 x_a_p0 (cells enc_api_Attr x_a.Attrs)) (hc0 : x_a.Attrs.length ≤ x_a_c0) {x_b_p1 : Option Addr} {x_b_c1 : Nat} (hs1 : Sees w0 x_b_p1 (cells enc_api_Attr x_b.Attrs)) (hc1 : x_b.Attrs.length ≤ x_b_c1) (hm : cookie_Same x_a x_b = some R) :
    Calls Tryd.prog 16 #[.agg #[str x_a.Name, str x_a.Value, .slice x_a_p0 x_a.Attrs.length x_a_c0], .agg #[str x_b.Name, str x_b.Value, .slice x_b_p1 x_b.Attrs.length x_b_c1]] w0 fun e w' => e = .returned (.bool R) ∧ Below w0.heap.size w0 w' := by
  rw [cookie_Same] at hm
  refine calls_enter (vs := [.agg #[str x_a.Name, str x_a.Value, .slice x_a_p0 x_a.Attrs.length x_a_c0], .agg #[str x_b.Name, str x_b.Value, .slice x_b_p1 x_b.Attrs.length x_b_c1]]) Tryd.func16 rfl Tryd.ntmps16 rfl fun a hf => ?_
  have hF : Away [] := away_nil
  have hO : Dk.Own w0 [] w0 [] := Dk.Own.refl w0
  have hO := hO.addShr hs0 (by simp [Res.shared])
  have hO := hO.addShr hs1 (by simp [Res.shared])
  refine wp_seq_k fun _ hK3 => ?_
  refine wp_region_list ?_
  refine op_box (v := .agg #[str x_a.Name, str x_a.Value, .slice x_a_p0 x_a.Attrs.length x_a_c0]) (cs := [str x_a.Name, str x_a.Value, .slice x_a_p0 x_a.Attrs.length x_a_c0]) rfl hf rfl rfl hO fun a b1 w hf hO => ?_
  refine op_box (v := .agg #[str x_b.Name, str x_b.Value, .slice x_b_p1 x_b.Attrs.length x_b_c1]) (cs := [str x_b.Name, str x_b.Value, .slice x_b_p1 x_b.Attrs.length x_b_c1]) rfl hf rfl rfl hO fun a b2 w hf hO => ?_
  refine op_val (ex_assign hf rfl) rfl hf rfl rfl fun a hf => ?_
  refine wpList_nil ?_
  refine nor_then (hK3 _ _ ?_)
  refine wp_seq_cut (fun a w => ∃ (t7 : Bool), Fits 24 [(4, .bool t7)] a ∧ Dk.Own w0 [] w [.blk b2 [str x_b.Name, str x_b.Value, .slice x_b_p1 x_b.Attrs.length x_b_c1] 24, .blk b1 [str x_a.Name, str x_a.Value, .slice x_a_p0 x_a.Attrs.length x_a_c0] 24, .shr x_b_p1 (cells enc_api_Attr x_b.Attrs), .shr x_a_p0 (cells enc_api_Attr x_a.Attrs)] ∧ cookie_Same_j1 t7 = some R) ?_ ?_
  · refine wp_region_list ?_
    refine op_val (ex_field fa_24_0 hf rfl) rfl hf rfl rfl fun a hf => ?_
    refine op_val (ex_load1 (o := 0) ag_9 (hO.blkSees (i := 1) rfl) rfl hf rfl) rfl hf rfl rfl fun a hf => ?_
    refine op_val (ex_field fa_24_0 hf rfl) rfl hf rfl rfl fun a hf => ?_
    refine op_val (ex_load1 (o := 0) ag_9 (hO.blkSees (i := 0) rfl) rfl hf rfl) rfl hf rfl rfl fun a hf => ?_
    refine op_val (ex_eql_s (l := x_a.Name) (m := x_b.Name) hf rfl rfl) rfl hf rfl rfl fun a hf => ?_
    refine op_val (ex_move hf rfl) rfl hf rfl rfl fun a hf => ?_
    rcases bcase (x_a.Name == x_b.Name) with hc4 | hc4
    · have hm := it hc4 hm
      refine op_guard rfl hf rfl rfl (hc4) ?_
      refine op_val (ex_field fa_24_1 hf rfl) rfl hf rfl rfl fun a hf => ?_
      refine op_guard rfl hf rfl rfl (hc4) ?_
      refine op_val (ex_load1 (o := 1) ag_9 (hO.blkSees (i := 1) rfl) rfl hf rfl) rfl hf rfl rfl fun a hf => ?_
      refine op_guard rfl hf rfl rfl (hc4) ?_
      refine op_val (ex_field fa_24_1 hf rfl) rfl hf rfl rfl fun a hf => ?_
      refine op_guard rfl hf rfl rfl (hc4) ?_
      refine op_val (ex_load1 (o := 1) ag_9 (hO.blkSees (i := 0) rfl) rfl hf rfl) rfl hf rfl rfl fun a hf => ?_
      refine op_guard rfl hf rfl rfl (hc4) ?_
      refine op_val (ex_eql_s (l := x_a.Value) (m := x_b.Value) hf rfl rfl) rfl hf rfl rfl fun a hf => ?_
      refine op_val (ex_pick_t hf rfl hc4 rfl) rfl hf rfl rfl fun a hf => ?_
      refine op_val (ex_move hf rfl) rfl hf rfl rfl fun a hf => ?_
      rcases bcase (x_a.Value == x_b.Value) with hc5 | hc5
      · have hm := it hc5 hm
        refine op_guard rfl hf rfl rfl (hc5) ?_
        refine op_val (ex_field fa_24_2 hf rfl) rfl hf rfl rfl fun a hf => ?_
        refine op_guard rfl hf rfl rfl (hc5) ?_
        refine op_val (ex_load1 (o := 2) ag_22 (hO.blkSees (i := 1) rfl) rfl hf rfl) rfl hf rfl rfl fun a hf => ?_
        refine op_guard rfl hf rfl rfl (hc5) ?_
        refine op_val (ex_field fa_24_2 hf rfl) rfl hf rfl rfl fun a hf => ?_
        refine op_guard rfl hf rfl rfl (hc5) ?_
        refine op_val (ex_load1 (o := 2) ag_22 (hO.blkSees (i := 0) rfl) rfl hf rfl) rfl hf rfl rfl fun a hf => ?_
        refine op_guard rfl hf rfl rfl (hc5) ?_
        obtain ⟨r6, hr6, hm⟩ := ob hm
        refine op_enter (ex_call c_35 hf (vs := [.slice x_a_p0 x_a.Attrs.length x_a_c0, .slice x_b_p1 x_b.Attrs.length x_b_c1]) rfl) rfl hf rfl rfl (w_slices_Equal_gapi_Attr_api_Attr_ x_a.Attrs x_b.Attrs r6 _ (hG.own hF hO) (hO.sees (i := 3) rfl) hc0 (hO.sees (i := 2) rfl) hc1 hr6) ?_
        rintro e w' ⟨he, hb⟩
        refine ⟨_, he, fun a hf => ?_⟩
        have hO := hO.grow hb
        refine op_val (ex_pick_t hf rfl hc5 rfl) rfl hf rfl rfl fun a hf => ?_
        refine op_val (ex_assign hf rfl) rfl hf rfl rfl fun a hf => ?_
        refine wpList_nil ?_
        refine nor_then ?_
        exact ⟨r6, (hf.cons rfl hf.nil), hO, hm⟩
      · have hm := ie hc5 hm
        refine op_pass rfl hf rfl rfl (hc5) rfl rfl fun a hf => ?_
        refine op_pass rfl hf rfl rfl (hc5) rfl rfl fun a hf => ?_
        refine op_pass rfl hf rfl rfl (hc5) rfl rfl fun a hf => ?_
        refine op_pass rfl hf rfl rfl (hc5) rfl rfl fun a hf => ?_
        refine op_pass rfl hf rfl rfl (hc5) rfl rfl fun a hf => ?_
        refine op_val (ex_pick_f hf rfl hc5 rfl) rfl hf rfl rfl fun a hf => ?_
        refine op_val (ex_assign hf rfl) rfl hf rfl rfl fun a hf => ?_
        refine wpList_nil ?_
        refine nor_then ?_
        exact ⟨false, (hf.cons rfl hf.nil), hO, hm⟩
    · have hm := ie hc4 hm
      refine op_pass rfl hf rfl rfl (hc4) rfl rfl fun a hf => ?_
      refine op_pass rfl hf rfl rfl (hc4) rfl rfl fun a hf => ?_
      refine op_pass rfl hf rfl rfl (hc4) rfl rfl fun a hf => ?_
      refine op_pass rfl hf rfl rfl (hc4) rfl rfl fun a hf => ?_
      refine op_pass rfl hf rfl rfl (hc4) rfl rfl fun a hf => ?_
      refine op_val (ex_pick_f hf rfl hc4 rfl) rfl hf rfl rfl fun a hf => ?_
      refine op_val (ex_move hf rfl) rfl hf rfl rfl fun a hf => ?_
      refine op_pass rfl hf rfl rfl (rfl) rfl rfl fun a hf => ?_
      refine op_pass rfl hf rfl rfl (rfl) rfl rfl fun a hf => ?_
      refine op_pass rfl hf rfl rfl (rfl) rfl rfl fun a hf => ?_
      refine op_pass rfl hf rfl rfl (rfl) rfl rfl fun a hf => ?_
      refine op_pass rfl hf rfl rfl (rfl) rfl rfl fun a hf => ?_
      refine op_val (ex_pick_f hf rfl rfl rfl) rfl hf rfl rfl fun a hf => ?_
      refine op_val (ex_assign hf rfl) rfl hf rfl rfl fun a hf => ?_
      refine wpList_nil ?_
      refine nor_then ?_
      exact ⟨false, (hf.cons rfl hf.nil), hO, hm⟩
  · rintro a w ⟨t7, hf, hO, hm⟩
    rw [cookie_Same_j1] at hm
    refine wp_ret ?_
    obtain rfl := Option.some.inj hm
    exact post_ret Tryd.results16 hf (.tmp rfl .nil) ⟨rfl, hO.below⟩

set_option maxHeartbeats 1000000 in
theorem w_quill_Join (x_sep : Str) (x_l : List Str) (R : Str) (w0 : World) (hG : Glob w0) {x_l_p0 : Option Addr} {x_l_c0 : Nat} (hs0 : Sees w0 x_l_p0 (cells enc_str x_l)) (hc0 : x_l.length ≤ x_l_c0) (hm : quill_Join x_sep x_l = some R) :
    Calls Tryd.prog 36 #[str x_sep, .slice x_l_p0 x_l.length x_l_c0] w0 fun e w' => e = .returned (str R) ∧ Below w0.heap.size w0 w' := by
  rw [quill_Join] at hm
  refine calls_enter (vs := [str x_sep, .slice x_l_p0 x_l.length x_l_c0]) Tryd.func36 rfl Tryd.ntmps36 rfl fun a hf => ?_
  have hF : Away [] := away_nil
  have hO : Dk.Own w0 [] w0 [] := Dk.Own.refl w0
  have hO := hO.addShr hs0 (by simp [Res.shared])
  refine wp_seq_k fun _ hK1 => ?_
  refine wp_region_list ?_
  refine op_val (ex_assign hf rfl) rfl hf rfl rfl fun a hf => ?_
  refine wpList_nil ?_
  refine nor_then (hK1 _ _ ?_)
  refine wp_seq_k fun _ hK3 => ?_
  refine wp_region_list ?_
  refine op_val (ex_move hf rfl) rfl hf rfl rfl fun a hf => ?_
  refine op_val (ex_move hf rfl) rfl hf rfl rfl fun a hf => ?_
  obtain ⟨r2, hr2, hm⟩ := ob hm
  refine op_enter (ex_call c_61 hf (vs := [.slice x_l_p0 x_l.length x_l_c0, str x_sep]) rfl) rfl hf rfl rfl (w_strings_Join x_l x_sep r2 _ (hG.own hF hO) (hO.sees (i := 0) rfl) hc0 hr2) ?_
  rintro e w' ⟨he, hb⟩
  refine ⟨_, he, fun a hf => ?_⟩
  have hO := hO.grow hb
  refine op_val (ex_assign hf rfl) rfl hf rfl rfl fun a hf => ?_
  refine wpList_nil ?_
  refine nor_then (hK3 _ _ ?_)
  refine wp_ret ?_
  obtain rfl := Option.some.inj hm
  exact post_ret Tryd.results36 hf (.tmp rfl .nil) ⟨rfl, hO.below⟩

set_option maxHeartbeats 1000000 in
theorem w_cookie_Text (x_c : api_Cookie) (R : Str × Int) (w0 : World) (hG : Glob w0) {x_c_p0 : Option Addr} {x_c_c0 : Nat} (hs0 : Sees w0 x_c_p0 (cells enc_api_Attr x_c.Attrs)) (hc0 : x_c.Attrs.length ≤ x_c_c0) (hm : cookie_Text x_c = some R) :
    Calls Tryd.prog 17 #[.agg #[str x_c.Name, str x_c.Value, .slice x_c_p0 x_c.Attrs.length x_c_c0]] w0 fun e w' => e = .returned (.tuple #[str R.1, int R.2]) ∧ Below w0.heap.size w0 w' := by
  rw [cookie_Text] at hm
  refine calls_enter (vs := [.agg #[str x_c.Name, str x_c.Value, .slice x_c_p0 x_c.Attrs.length x_c_c0]]) Tryd.func17 rfl Tryd.ntmps17 rfl fun a hf => ?_
  have hF : Away [] := away_nil
  have hO : Dk.Own w0 [] w0 [] := Dk.Own.refl w0
  have hO := hO.addShr hs0 (by simp [Res.shared])
  refine wp_seq_k fun _ hK2 => ?_
  refine wp_region_list ?_
  refine op_box (v := .agg #[str x_c.Name, str x_c.Value, .slice x_c_p0 x_c.Attrs.length x_c_c0]) (cs := [str x_c.Name, str x_c.Value, .slice x_c_p0 x_c.Attrs.length x_c_c0]) rfl hf rfl rfl hO fun a b1 w hf hO => ?_
  refine op_val (ex_assign hf rfl) rfl hf rfl rfl fun a hf => ?_
  refine op_val (ex_assign hf rfl) rfl hf rfl rfl fun a hf => ?_
  refine wpList_nil ?_
  refine nor_then (hK2 _ _ ?_)
  refine wp_seq_k fun _ hK6 => ?_
  refine wp_region_list ?_
  refine op_val (ex_field fa_24_0 hf rfl) rfl hf rfl rfl fun a hf => ?_
  refine op_val (ex_load1 (o := 0) ag_9 (hO.blkSees (i := 0) rfl) rfl hf rfl) rfl hf rfl rfl fun a hf => ?_
  obtain ⟨s3, hs3, hm⟩ := ob hm
  refine op_val (ex_cat (l := x_c.Name) (m := [61]) hf rfl rfl hs3) rfl hf rfl rfl fun a hf => ?_
  refine op_val (ex_field fa_24_1 hf rfl) rfl hf rfl rfl fun a hf => ?_
  refine op_val (ex_load1 (o := 1) ag_9 (hO.blkSees (i := 0) rfl) rfl hf rfl) rfl hf rfl rfl fun a hf => ?_
  obtain ⟨s4, hs4, hm⟩ := ob hm
  refine op_val (ex_cat (l := s3) (m := x_c.Value) hf rfl rfl hs4) rfl hf rfl rfl fun a hf => ?_
  refine op_buildSlice (vs := [(0, str s4)]) (cs := [str s4]) (e := 9) (sz := 1) hf rfl rfl (fun w => by kernel_rfl) rfl rfl hO fun a b5 w hf hO => ?_
  refine op_val (ex_assign hf rfl) rfl hf rfl rfl fun a hf => ?_
  refine wpList_nil ?_
  refine nor_then (hK6 _ _ ?_)
  refine wp_seq_k fun _ hK36 => ?_
  refine wp_seq_k fun _ hK7 => ?_
  refine wp_region_list ?_
  refine op_val (ex_field fa_24_2 hf rfl) rfl hf rfl rfl fun a hf => ?_
  refine op_val (ex_load1 (o := 2) ag_22 (hO.blkSees (i := 1) rfl) rfl hf rfl) rfl hf rfl rfl fun a hf => ?_
  refine op_val (ex_len_l Tryd.underlying22 hf rfl) rfl hf rfl rfl fun a hf => ?_
  refine op_val (ex_move hf rfl) rfl hf rfl rfl fun a hf => ?_
  refine wpList_nil ?_
  refine nor_then (hK7 _ _ ?_)
  refine wp_block ?_
  refine wp_loop_n (fun k a w => ∃ (p8 : Option Addr) (c9 : Nat) (l10 : List Str) (i11 : Int), Fits 57 [(1, ptr b1 0), (4, .slice p8 l10.length c9), (18, .slice x_c_p0 x_c.Attrs.length x_c_c0), (19, int (x_c.Attrs.length : Int)), (20, int i11)] a ∧ Dk.Own w0 [] w [.row (.slice p8 l10.length c9) 9 1 l10.length (cells enc_str l10), .blk b1 [str x_c.Name, str x_c.Value, .slice x_c_p0 x_c.Attrs.length x_c_c0] 24, .shr x_c_p0 (cells enc_api_Attr x_c.Attrs)] ∧ cookie_Text_L1 x_c k l10 i11 = some R) ?_ fuel ?_
  · rintro n1 a w ⟨p8, c9, l10, i11, hf, hO, hm⟩
    obtain _ | n1 := n1
    · rw [cookie_Text_L1] at hm
      cases hm
    · rw [cookie_Text_L1] at hm
      refine wp_seq_k fun _ hK12 => ?_
      refine wp_region_list ?_
      refine op_val (ex_lss (m := i11) (n := (x_c.Attrs.length : Int)) hf rfl rfl) rfl hf rfl rfl fun a hf => ?_
      refine wpList_nil ?_
      refine nor_then (hK12 _ _ ?_)
      refine wp_seq_k fun _ hK14 => ?_
      refine wp_cond_cut hf rfl (fun hc13 => ?_) (fun hc13 => ?_)
      · have hm := it hc13 hm
        refine wp_skip ?_
        refine nor_then (hK14 _ _ ?_)
        refine wp_seq_cut (fun a w => ∃ (p32 : Option Addr) (c33 : Nat) (l34 : List Str), Fits 57 [(1, ptr b1 0), (4, .slice p32 l34.length c33), (18, .slice x_c_p0 x_c.Attrs.length x_c_c0), (19, int (x_c.Attrs.length : Int)), (20, int i11)] a ∧ Dk.Own w0 [] w [.row (.slice p32 l34.length c33) 9 1 l34.length (cells enc_str l34), .blk b1 [str x_c.Name, str x_c.Value, .slice x_c_p0 x_c.Attrs.length x_c_c0] 24, .shr x_c_p0 (cells enc_api_Attr x_c.Attrs)] ∧ cookie_Text_j2 (cookie_Text_L1 x_c n1) i11 l34 = some R) ?_ ?_
        · refine wp_block ?_
          refine wp_seq_k fun _ hK19 => ?_
          refine wp_region_list ?_
          obtain ⟨x15, hx15, hm⟩ := ob hm
          obtain ⟨b16, o17, hix15, hSx15⟩ := elemAt (enc := enc_api_Attr) (sz := 3) (xs := x_c.Attrs) 22 Tryd.underlying22 sz_31 (by decide) (fun _ => rfl) (hO.sees (i := 2) rfl) hx15
          refine op_val (ex_indexAddr hix15 hf rfl rfl) rfl hf rfl rfl fun a hf => ?_
          refine op_val (ex_loadN (o := 0) (vs := [str x15.Name, str x15.Value, .bool x15.Has]) ag_31 sz_31 (hSx15 _ (hO.sees (i := 2) rfl)) rfl rfl hf rfl) rfl hf rfl rfl fun a hf => ?_
          refine op_alloc al_31 hf rfl hO fun a b18 w hf hO => ?_
          refine op_storeN (i := 0) (n := 3) sz_31 rfl rfl rfl (by simp [Value.oneCell']) hf rfl rfl hO fun w hO => ?_
          refine wpList_nil ?_
          refine nor_then (hK19 _ _ ?_)
          refine wp_seq_k fun _ hK20 => ?_
          refine wp_region_list ?_
          refine op_val (ex_field fa_31_2 hf rfl) rfl hf rfl rfl fun a hf => ?_
          refine op_val (ex_load1 (o := 2) ag_4 (hO.blkSees (i := 0) rfl) rfl hf rfl) rfl hf rfl rfl fun a hf => ?_
          refine wpList_nil ?_
          refine nor_then (hK20 _ _ ?_)
          refine wp_cond_cut hf rfl (fun hc21 => ?_) (fun hc21 => ?_)
          · have hm := it hc21 hm
            refine wp_region_list ?_
            refine op_val (ex_move hf rfl) rfl hf rfl rfl fun a hf => ?_
            refine op_val (ex_field fa_31_0 hf rfl) rfl hf rfl rfl fun a hf => ?_
            refine op_val (ex_load1 (o := 0) ag_9 (hO.blkSees (i := 0) rfl) rfl hf rfl) rfl hf rfl rfl fun a hf => ?_
            obtain ⟨s22, hs22, hm⟩ := ob hm
            refine op_val (ex_cat (l := x15.Name) (m := [61]) hf rfl rfl hs22) rfl hf rfl rfl fun a hf => ?_
            refine op_val (ex_field fa_31_1 hf rfl) rfl hf rfl rfl fun a hf => ?_
            refine op_val (ex_load1 (o := 1) ag_9 (hO.blkSees (i := 0) rfl) rfl hf rfl) rfl hf rfl rfl fun a hf => ?_
            obtain ⟨s23, hs23, hm⟩ := ob hm
            refine op_val (ex_cat (l := s22) (m := x15.Value) hf rfl rfl hs23) rfl hf rfl rfl fun a hf => ?_
            refine op_buildSlice (vs := [(0, str s23)]) (cs := [str s23]) (e := 9) (sz := 1) hf rfl rfl (fun w => by kernel_rfl) rfl rfl hO fun a b24 w hf hO => ?_
            obtain ⟨hg27, hm⟩ := og hm
            refine op_appendT el_55 (enc := enc_str) (xs := l10) (ys := [s23]) (i := 2) (fun _ => rfl) rfl (hO.rowSees (i := 0) rfl) (by simp [cells, enc_str, Value.oneCell']) hg27 hf rfl rfl rfl hO fun a p25 c26 w hf hO => ?_
            refine op_val (ex_assign hf rfl) rfl hf rfl rfl fun a hf => ?_
            refine wpList_nil ?_
            refine nor_block ?_
            refine nor_then ?_
            exact ⟨p25, c26, l10 ++ [s23], (hf.cons rfl (hf.cons rfl (hf.cons rfl (hf.cons rfl (hf.cons rfl hf.nil))))), (hO.sub (.cons _ (.cons _ (.cons_cons _ (.cons_cons _ (.cons_cons _ .slnil)))))), hm⟩
          · have hm := ie hc21 hm
            refine wp_region_list ?_
            refine op_val (ex_move hf rfl) rfl hf rfl rfl fun a hf => ?_
            refine op_val (ex_field fa_31_0 hf rfl) rfl hf rfl rfl fun a hf => ?_
            refine op_val (ex_load1 (o := 0) ag_9 (hO.blkSees (i := 0) rfl) rfl hf rfl) rfl hf rfl rfl fun a hf => ?_
            refine op_buildSlice (vs := [(0, str x15.Name)]) (cs := [str x15.Name]) (e := 9) (sz := 1) hf rfl rfl (fun w => by kernel_rfl) rfl rfl hO fun a b28 w hf hO => ?_
            obtain ⟨hg31, hm⟩ := og hm
            refine op_appendT el_55 (enc := enc_str) (xs := l10) (ys := [x15.Name]) (i := 2) (fun _ => rfl) rfl (hO.rowSees (i := 0) rfl) (by simp [cells, enc_str, Value.oneCell']) hg31 hf rfl rfl rfl hO fun a p29 c30 w hf hO => ?_
            refine op_val (ex_assign hf rfl) rfl hf rfl rfl fun a hf => ?_
            refine wpList_nil ?_
            refine nor_block ?_
            refine nor_then ?_
            exact ⟨p29, c30, l10 ++ [x15.Name], (hf.cons rfl (hf.cons rfl (hf.cons rfl (hf.cons rfl (hf.cons rfl hf.nil))))), (hO.sub (.cons _ (.cons _ (.cons_cons _ (.cons_cons _ (.cons_cons _ .slnil)))))), hm⟩
        · rintro a w ⟨p32, c33, l34, hf, hO, hm⟩
          rw [cookie_Text_j2] at hm
          refine wp_region_list ?_
          obtain ⟨i35, hi35, hm⟩ := ob hm
          refine op_val (ex_add hf rfl rfl hi35) rfl hf rfl rfl fun a hf => ?_
          refine op_val (ex_move hf rfl) rfl hf rfl rfl fun a hf => ?_
          refine wpList_nil ?_
          refine nor_then ?_
          exact ⟨_, Nat.lt_succ_self _, p32, c33, l34, i35, (hf.cons rfl (hf.cons rfl (hf.cons rfl (hf.cons rfl (hf.cons rfl hf.nil))))), hO, hm⟩
      · have hm := ie hc13 hm
        refine wp_exit ?_
        refine exit_then ?_
        refine exit_then ?_
        refine exit_here ?_
        refine nor_then (hK36 _ _ ?_)
        refine wp_seq_k fun _ hK38 => ?_
        refine wp_region_list ?_
        refine op_val (ex_move hf rfl) rfl hf rfl rfl fun a hf => ?_
        obtain ⟨r37, hr37, hm⟩ := ob hm
        refine op_enter (ex_call c_36 hf (vs := [str [59, 32], .slice p8 l10.length c9]) rfl) rfl hf rfl rfl (w_quill_Join [59, 32] l10 r37 _ (hG.own hF hO) (hO.rowSees (i := 0) rfl) (hO.rowCap (i := 0) rfl) hr37) ?_
        rintro e w' ⟨he, hb⟩
        refine ⟨_, he, fun a hf => ?_⟩
        have hO := hO.grow hb
        refine op_val (ex_assign hf rfl) rfl hf rfl rfl fun a hf => ?_
        refine wpList_nil ?_
        refine nor_then (hK38 _ _ ?_)
        refine wp_seq_k fun _ hK49 => ?_
        refine wp_seq_k fun _ hK43 => ?_
        refine wp_region_list ?_
        refine op_val (ex_move hf rfl) rfl hf rfl rfl fun a hf => ?_
        obtain ⟨r39, hr39, hm⟩ := ob hm
        refine op_enter (ex_call c_14 hf (vs := [str r37]) rfl) rfl hf rfl rfl (w_cookie_Parse r37 r39 _ (hG.own hF hO) hr39) ?_
        rintro e w' ⟨p40, c41, he, hO'⟩
        refine ⟨_, he, fun a hf => ?_⟩
        have hO := hO.call hO' (by simp [Res.shared])
        refine op_val (ex_move hf rfl) rfl hf rfl rfl fun a hf => ?_
        refine op_val (ex_extract hf rfl rfl) rfl hf rfl rfl fun a hf => ?_
        refine op_val (ex_extract hf rfl rfl) rfl hf rfl rfl fun a hf => ?_
        refine op_alloc al_24 hf rfl hO fun a b42 w hf hO => ?_
        have hO := hO.nilRow 31 3
        refine op_storeN (i := 1) (n := 3) sz_24 rfl rfl rfl (by simp [Value.oneCell']) hf rfl rfl hO fun w hO => ?_
        refine op_val (ex_assign hf rfl) rfl hf rfl rfl fun a hf => ?_
        refine wpList_nil ?_
        refine nor_then (hK43 _ _ ?_)
        refine wp_seq_cut (fun a w => ∃ (t46 : Bool), Fits 57 [(7, str r37), (55, .bool t46)] a ∧ Dk.Own w0 [] w [.row (.slice none 0 0) 31 3 0 (cells enc_api_Attr []), .blk b42 [str r39.1.Name, str r39.1.Value, .slice p40 r39.1.Attrs.length c41] 24, .row (.slice p40 r39.1.Attrs.length c41) 31 3 r39.1.Attrs.length (cells enc_api_Attr r39.1.Attrs), .row (.slice p8 l10.length c9) 9 1 l10.length (cells enc_str l10), .blk b1 [str x_c.Name, str x_c.Value, .slice x_c_p0 x_c.Attrs.length x_c_c0] 24, .shr x_c_p0 (cells enc_api_Attr x_c.Attrs)] ∧ cookie_Text_j3 r37 t46 = some R) ?_ ?_
        · refine wp_region_list ?_
          refine op_val (ex_move hf rfl) rfl hf rfl rfl fun a hf => ?_
          refine op_val (ex_neq (m := r39.2) (n := 0) hf rfl rfl) rfl hf rfl rfl fun a hf => ?_
          refine op_val (ex_move hf rfl) rfl hf rfl rfl fun a hf => ?_
          rcases bcase (!(r39.2 == 0)) with hc44 | hc44
          · have hm := it hc44 hm
            refine op_pass rfl hf rfl rfl (hc44) rfl rfl fun a hf => ?_
            refine op_pass rfl hf rfl rfl (hc44) rfl rfl fun a hf => ?_
            refine op_pass rfl hf rfl rfl (hc44) rfl rfl fun a hf => ?_
            refine op_pass rfl hf rfl rfl (hc44) rfl rfl fun a hf => ?_
            refine op_val (ex_pick_t hf rfl hc44 rfl) rfl hf rfl rfl fun a hf => ?_
            refine wpList_nil ?_
            refine nor_then ?_
            exact ⟨true, (hf.cons rfl (hf.cons rfl hf.nil)), hO, hm⟩
          · have hm := ie hc44 hm
            refine op_guard rfl hf rfl rfl (hc44) ?_
            refine op_val (ex_loadN (o := 0) (vs := [str r39.1.Name, str r39.1.Value, .slice p40 r39.1.Attrs.length c41]) ag_24 sz_24 (hO.blkSees (i := 1) rfl) rfl rfl hf rfl) rfl hf rfl rfl fun a hf => ?_
            refine op_guard rfl hf rfl rfl (hc44) ?_
            refine op_val (ex_loadN (o := 0) (vs := [str x_c.Name, str x_c.Value, .slice x_c_p0 x_c.Attrs.length x_c_c0]) ag_24 sz_24 (hO.blkSees (i := 4) rfl) rfl rfl hf rfl) rfl hf rfl rfl fun a hf => ?_
            refine op_guard rfl hf rfl rfl (hc44) ?_
            obtain ⟨r45, hr45, hm⟩ := ob hm
            refine op_enter (ex_call c_16 hf (vs := [.agg #[str r39.1.Name, str r39.1.Value, .slice p40 r39.1.Attrs.length c41], .agg #[str x_c.Name, str x_c.Value, .slice x_c_p0 x_c.Attrs.length x_c_c0]]) rfl) rfl hf rfl rfl (w_cookie_Same r39.1 x_c r45 _ (hG.own hF hO) (hO.rowSees (i := 2) rfl) (hO.rowCap (i := 2) rfl) (hO.sees (i := 5) rfl) hc0 hr45) ?_
            rintro e w' ⟨he, hb⟩
            refine ⟨_, he, fun a hf => ?_⟩
            have hO := hO.grow hb
            refine op_guard rfl hf rfl rfl (hc44) ?_
            refine op_val (ex_not hf rfl) rfl hf rfl rfl fun a hf => ?_
            refine op_val (ex_pick_f hf rfl hc44 rfl) rfl hf rfl rfl fun a hf => ?_
            refine wpList_nil ?_
            refine nor_then ?_
            exact ⟨!r45, (hf.cons rfl (hf.cons rfl hf.nil)), hO, hm⟩
        · rintro a w ⟨t46, hf, hO, hm⟩
          rw [cookie_Text_j3] at hm
          refine wp_cond_cut hf rfl (fun hc47 => ?_) (fun hc47 => ?_)
          · have hm := it hc47 hm
            refine wp_seq_k fun _ hK48 => ?_
            refine wp_region_list ?_
            refine op_val (ex_assign hf rfl) rfl hf rfl rfl fun a hf => ?_
            refine op_val (ex_assign hf rfl) rfl hf rfl rfl fun a hf => ?_
            refine wpList_nil ?_
            refine nor_then (hK48 _ _ ?_)
            refine wp_ret ?_
            refine ret_then ?_
            obtain rfl := Option.some.inj hm
            exact post_ret Tryd.results17 hf (.tmp rfl (.tmp rfl .nil)) ⟨rfl, hO.below⟩
          · have hm := ie hc47 hm
            refine wp_skip ?_
            refine nor_then (hK49 _ _ ?_)
            refine wp_seq_k fun _ hK50 => ?_
            refine wp_region_list ?_
            refine op_val (ex_move hf rfl) rfl hf rfl rfl fun a hf => ?_
            refine op_val (ex_assign hf rfl) rfl hf rfl rfl fun a hf => ?_
            refine op_val (ex_assign hf rfl) rfl hf rfl rfl fun a hf => ?_
            refine wpList_nil ?_
            refine nor_then (hK50 _ _ ?_)
            refine wp_ret ?_
            obtain rfl := Option.some.inj hm
            exact post_ret Tryd.results17 hf (.tmp rfl (.tmp rfl .nil)) ⟨rfl, hO.below⟩
  · exact ⟨some ⟨b5, 0, none⟩, 1, [s4], 0, (hf.cons rfl (hf.cons rfl (hf.cons rfl (hf.cons rfl (hf.cons rfl hf.nil))))), hO, hm⟩

set_option maxHeartbeats 1000000 in
theorem w_law28_CookieReads (x_a0 : Str) (R : Bool) (w0 : World) (hG : Glob w0) (hm : law28_CookieReads x_a0 = some R) :
    Calls Tryd.prog 4 #[str x_a0] w0 fun e w' => e = .returned (.bool R) ∧ Below w0.heap.size w0 w' := by
  rw [law28_CookieReads] at hm
  refine calls_enter (vs := [str x_a0]) Tryd.func4 rfl Tryd.ntmps4 rfl fun a hf => ?_
  have hF : Away [] := away_nil
  have hO : Dk.Own w0 [] w0 [] := Dk.Own.refl w0
  refine wp_seq_k fun _ hK1 => ?_
  refine wp_region_list ?_
  refine op_val (ex_assign hf rfl) rfl hf rfl rfl fun a hf => ?_
  refine wpList_nil ?_
  refine nor_then (hK1 _ _ ?_)
  refine wp_seq_k fun _ hK6 => ?_
  refine wp_seq_k fun _ hK3 => ?_
  refine wp_region_list ?_
  obtain ⟨r2, hr2, hm⟩ := ob hm
  refine op_enter (ex_call c_7 hf (vs := []) rfl) rfl hf rfl rfl (w_law28_awake r2 _ (hG.own hF hO) hr2) ?_
  rintro e w' ⟨he, hb⟩
  refine ⟨_, he, fun a hf => ?_⟩
  have hO := hO.grow hb
  refine op_val (ex_not hf rfl) rfl hf rfl rfl fun a hf => ?_
  refine wpList_nil ?_
  refine nor_then (hK3 _ _ ?_)
  refine wp_cond_cut hf rfl (fun hc4 => ?_) (fun hc4 => ?_)
  · have hm := it hc4 hm
    refine wp_seq_k fun _ hK5 => ?_
    refine wp_region_list ?_
    refine op_val (ex_assign hf rfl) rfl hf rfl rfl fun a hf => ?_
    refine wpList_nil ?_
    refine nor_then (hK5 _ _ ?_)
    refine wp_ret ?_
    refine ret_then ?_
    obtain rfl := Option.some.inj hm
    exact post_ret Tryd.results4 hf (.tmp rfl .nil) ⟨rfl, hO.below⟩
  · have hm := ie hc4 hm
    refine wp_skip ?_
    refine nor_then (hK6 _ _ ?_)
    refine wp_seq_k fun _ hK8 => ?_
    refine wp_region_list ?_
    refine op_val (ex_move hf rfl) rfl hf rfl rfl fun a hf => ?_
    refine op_val (ex_move hf rfl) rfl hf rfl rfl fun a hf => ?_
    refine op_val (ex_len_s (l := x_a0) Tryd.underlying9 hf rfl) rfl hf rfl rfl fun a hf => ?_
    refine op_val (ex_min (m := (x_a0.length : Int)) (n := 300) hf rfl rfl) rfl hf rfl rfl fun a hf => ?_
    obtain ⟨s7, hs7, hm⟩ := ob hm
    refine op_val (ex_to_s (l := x_a0) Tryd.underlying9 hf rfl rfl hs7) rfl hf rfl rfl fun a hf => ?_
    refine op_val (ex_assign hf rfl) rfl hf rfl rfl fun a hf => ?_
    refine wpList_nil ?_
    refine nor_then (hK8 _ _ ?_)
    refine wp_seq_k fun _ hK13 => ?_
    refine wp_region_list ?_
    refine op_val (ex_move hf rfl) rfl hf rfl rfl fun a hf => ?_
    obtain ⟨r9, hr9, hm⟩ := ob hm
    refine op_enter (ex_call c_14 hf (vs := [str s7]) rfl) rfl hf rfl rfl (w_cookie_Parse s7 r9 _ (hG.own hF hO) hr9) ?_
    rintro e w' ⟨p10, c11, he, hO'⟩
    refine ⟨_, he, fun a hf => ?_⟩
    have hO := hO.call hO' (by simp [Res.shared])
    refine op_val (ex_move hf rfl) rfl hf rfl rfl fun a hf => ?_
    refine op_val (ex_extract hf rfl rfl) rfl hf rfl rfl fun a hf => ?_
    refine op_val (ex_extract hf rfl rfl) rfl hf rfl rfl fun a hf => ?_
    refine op_alloc al_24 hf rfl hO fun a b12 w hf hO => ?_
    have hO := hO.nilRow 31 3
    refine op_storeN (i := 1) (n := 3) sz_24 rfl rfl rfl (by simp [Value.oneCell']) hf rfl rfl hO fun w hO => ?_
    refine op_val (ex_assign hf rfl) rfl hf rfl rfl fun a hf => ?_
    refine wpList_nil ?_
    refine nor_then (hK13 _ _ ?_)
    refine wp_seq_k fun _ hK18 => ?_
    refine wp_region_list ?_
    refine op_val (ex_move hf rfl) rfl hf rfl rfl fun a hf => ?_
    obtain ⟨r14, hr14, hm⟩ := ob hm
    refine op_enter (ex_call c_15 hf (vs := [str s7]) rfl) rfl hf rfl rfl (w_ref28_Parse s7 r14 _ (hG.own hF hO) hr14) ?_
    rintro e w' ⟨p15, c16, he, hO'⟩
    refine ⟨_, he, fun a hf => ?_⟩
    have hO := hO.call hO' (by simp [Res.shared])
    refine op_val (ex_move hf rfl) rfl hf rfl rfl fun a hf => ?_
    refine op_val (ex_extract hf rfl rfl) rfl hf rfl rfl fun a hf => ?_
    refine op_val (ex_extract hf rfl rfl) rfl hf rfl rfl fun a hf => ?_
    refine op_alloc al_24 hf rfl hO fun a b17 w hf hO => ?_
    have hO := hO.nilRow 31 3
    refine op_storeN (i := 1) (n := 3) sz_24 rfl rfl rfl (by simp [Value.oneCell']) hf rfl rfl hO fun w hO => ?_
    refine op_val (ex_assign hf rfl) rfl hf rfl rfl fun a hf => ?_
    refine wpList_nil ?_
    refine nor_then (hK18 _ _ ?_)
    refine wp_seq_k fun _ hK26 => ?_
    refine wp_seq_cut (fun a w => ∃ (t23 : Bool), Fits 66 [(3, ptr b12 0), (4, int r9.2), (42, .bool t23)] a ∧ Dk.Own w0 [] w [.row (.slice none 0 0) 31 3 0 (cells enc_api_Attr []), .blk b17 [str r14.1.Name, str r14.1.Value, .slice p15 r14.1.Attrs.length c16] 24, .row (.slice p15 r14.1.Attrs.length c16) 31 3 r14.1.Attrs.length (cells enc_api_Attr r14.1.Attrs), .row (.slice none 0 0) 31 3 0 (cells enc_api_Attr []), .blk b12 [str r9.1.Name, str r9.1.Value, .slice p10 r9.1.Attrs.length c11] 24, .row (.slice p10 r9.1.Attrs.length c11) 31 3 r9.1.Attrs.length (cells enc_api_Attr r9.1.Attrs)] ∧ law28_CookieReads_j1 r9 t23 = some R) ?_ ?_
    · refine wp_region_list ?_
      refine op_val (ex_loadN (o := 0) (vs := [str r9.1.Name, str r9.1.Value, .slice p10 r9.1.Attrs.length c11]) ag_24 sz_24 (hO.blkSees (i := 4) rfl) rfl rfl hf rfl) rfl hf rfl rfl fun a hf => ?_
      refine op_val (ex_loadN (o := 0) (vs := [str r14.1.Name, str r14.1.Value, .slice p15 r14.1.Attrs.length c16]) ag_24 sz_24 (hO.blkSees (i := 1) rfl) rfl rfl hf rfl) rfl hf rfl rfl fun a hf => ?_
      obtain ⟨r19, hr19, hm⟩ := ob hm
      refine op_enter (ex_call c_12 hf (vs := [.agg #[str r9.1.Name, str r9.1.Value, .slice p10 r9.1.Attrs.length c11], .agg #[str r14.1.Name, str r14.1.Value, .slice p15 r14.1.Attrs.length c16]]) rfl) rfl hf rfl rfl (w_ref28_Same r9.1 r14.1 r19 _ (hG.own hF hO) (hO.rowSees (i := 5) rfl) (hO.rowCap (i := 5) rfl) (hO.rowSees (i := 2) rfl) (hO.rowCap (i := 2) rfl) hr19) ?_
      rintro e w' ⟨he, hb⟩
      refine ⟨_, he, fun a hf => ?_⟩
      have hO := hO.grow hb
      refine op_val (ex_not hf rfl) rfl hf rfl rfl fun a hf => ?_
      refine op_val (ex_move hf rfl) rfl hf rfl rfl fun a hf => ?_
      rcases bcase (!r19) with hc20 | hc20
      · have hm := it hc20 hm
        refine op_pass rfl hf rfl rfl (hc20) rfl rfl fun a hf => ?_
        refine op_pass rfl hf rfl rfl (hc20) rfl rfl fun a hf => ?_
        refine op_pass rfl hf rfl rfl (hc20) rfl rfl fun a hf => ?_
        refine op_val (ex_pick_t hf rfl hc20 rfl) rfl hf rfl rfl fun a hf => ?_
        refine op_val (ex_move hf rfl) rfl hf rfl rfl fun a hf => ?_
        refine op_pass rfl hf rfl rfl (rfl) rfl rfl fun a hf => ?_
        refine op_pass rfl hf rfl rfl (rfl) rfl rfl fun a hf => ?_
        refine op_pass rfl hf rfl rfl (rfl) rfl rfl fun a hf => ?_
        refine op_pass rfl hf rfl rfl (rfl) rfl rfl fun a hf => ?_
        refine op_val (ex_pick_t hf rfl rfl rfl) rfl hf rfl rfl fun a hf => ?_
        refine wpList_nil ?_
        refine nor_then ?_
        exact ⟨true, (hf.cons rfl (hf.cons rfl (hf.cons rfl hf.nil))), hO, hm⟩
      · have hm := ie hc20 hm
        refine op_guard rfl hf rfl rfl (hc20) ?_
        refine op_val (ex_move hf rfl) rfl hf rfl rfl fun a hf => ?_
        refine op_guard rfl hf rfl rfl (hc20) ?_
        refine op_val (ex_move hf rfl) rfl hf rfl rfl fun a hf => ?_
        refine op_guard rfl hf rfl rfl (hc20) ?_
        refine op_val (ex_neq (m := r9.2) (n := r14.2) hf rfl rfl) rfl hf rfl rfl fun a hf => ?_
        refine op_val (ex_pick_f hf rfl hc20 rfl) rfl hf rfl rfl fun a hf => ?_
        refine op_val (ex_move hf rfl) rfl hf rfl rfl fun a hf => ?_
        rcases bcase (!(r9.2 == r14.2)) with hc21 | hc21
        · have hm := it hc21 hm
          refine op_pass rfl hf rfl rfl (hc21) rfl rfl fun a hf => ?_
          refine op_pass rfl hf rfl rfl (hc21) rfl rfl fun a hf => ?_
          refine op_pass rfl hf rfl rfl (hc21) rfl rfl fun a hf => ?_
          refine op_pass rfl hf rfl rfl (hc21) rfl rfl fun a hf => ?_
          refine op_val (ex_pick_t hf rfl hc21 rfl) rfl hf rfl rfl fun a hf => ?_
          refine wpList_nil ?_
          refine nor_then ?_
          exact ⟨true, (hf.cons rfl (hf.cons rfl (hf.cons rfl hf.nil))), hO, hm⟩
        · have hm := ie hc21 hm
          refine op_guard rfl hf rfl rfl (hc21) ?_
          refine op_val (ex_loadN (o := 0) (vs := [str r9.1.Name, str r9.1.Value, .slice p10 r9.1.Attrs.length c11]) ag_24 sz_24 (hO.blkSees (i := 4) rfl) rfl rfl hf rfl) rfl hf rfl rfl fun a hf => ?_
          refine op_guard rfl hf rfl rfl (hc21) ?_
          refine op_val (ex_loadN (o := 0) (vs := [str r14.1.Name, str r14.1.Value, .slice p15 r14.1.Attrs.length c16]) ag_24 sz_24 (hO.blkSees (i := 1) rfl) rfl rfl hf rfl) rfl hf rfl rfl fun a hf => ?_
          refine op_guard rfl hf rfl rfl (hc21) ?_
          obtain ⟨r22, hr22, hm⟩ := ob hm
          refine op_enter (ex_call c_16 hf (vs := [.agg #[str r9.1.Name, str r9.1.Value, .slice p10 r9.1.Attrs.length c11], .agg #[str r14.1.Name, str r14.1.Value, .slice p15 r14.1.Attrs.length c16]]) rfl) rfl hf rfl rfl (w_cookie_Same r9.1 r14.1 r22 _ (hG.own hF hO) (hO.rowSees (i := 5) rfl) (hO.rowCap (i := 5) rfl) (hO.rowSees (i := 2) rfl) (hO.rowCap (i := 2) rfl) hr22) ?_
          rintro e w' ⟨he, hb⟩
          refine ⟨_, he, fun a hf => ?_⟩
          have hO := hO.grow hb
          refine op_guard rfl hf rfl rfl (hc21) ?_
          refine op_val (ex_not hf rfl) rfl hf rfl rfl fun a hf => ?_
          refine op_val (ex_pick_f hf rfl hc21 rfl) rfl hf rfl rfl fun a hf => ?_
          refine wpList_nil ?_
          refine nor_then ?_
          exact ⟨!r22, (hf.cons rfl (hf.cons rfl (hf.cons rfl hf.nil))), hO, hm⟩
    · rintro a w ⟨t23, hf, hO, hm⟩
      rw [law28_CookieReads_j1] at hm
      refine wp_cond_cut hf rfl (fun hc24 => ?_) (fun hc24 => ?_)
      · have hm := it hc24 hm
        refine wp_seq_k fun _ hK25 => ?_
        refine wp_region_list ?_
        refine op_val (ex_assign hf rfl) rfl hf rfl rfl fun a hf => ?_
        refine wpList_nil ?_
        refine nor_then (hK25 _ _ ?_)
        refine wp_ret ?_
        refine ret_then ?_
        obtain rfl := Option.some.inj hm
        exact post_ret Tryd.results4 hf (.tmp rfl .nil) ⟨rfl, hO.below⟩
      · have hm := ie hc24 hm
        refine wp_skip ?_
        refine nor_then (hK26 _ _ ?_)
        refine wp_seq_k fun _ hK30 => ?_
        refine wp_seq_k fun _ hK27 => ?_
        refine wp_region_list ?_
        refine op_val (ex_move hf rfl) rfl hf rfl rfl fun a hf => ?_
        refine op_val (ex_neq (m := r9.2) (n := 0) hf rfl rfl) rfl hf rfl rfl fun a hf => ?_
        refine wpList_nil ?_
        refine nor_then (hK27 _ _ ?_)
        refine wp_cond_cut hf rfl (fun hc28 => ?_) (fun hc28 => ?_)
        · have hm := it hc28 hm
          refine wp_seq_k fun _ hK29 => ?_
          refine wp_region_list ?_
          refine op_val (ex_assign hf rfl) rfl hf rfl rfl fun a hf => ?_
          refine wpList_nil ?_
          refine nor_then (hK29 _ _ ?_)
          refine wp_ret ?_
          refine ret_then ?_
          obtain rfl := Option.some.inj hm
          exact post_ret Tryd.results4 hf (.tmp rfl .nil) ⟨rfl, hO.below⟩
        · have hm := ie hc28 hm
          refine wp_skip ?_
          refine nor_then (hK30 _ _ ?_)
          refine wp_seq_k fun _ hK32 => ?_
          refine wp_region_list ?_
          refine op_val (ex_loadN (o := 0) (vs := [str r9.1.Name, str r9.1.Value, .slice p10 r9.1.Attrs.length c11]) ag_24 sz_24 (hO.blkSees (i := 4) rfl) rfl rfl hf rfl) rfl hf rfl rfl fun a hf => ?_
          obtain ⟨r31, hr31, hm⟩ := ob hm
          refine op_enter (ex_call c_17 hf (vs := [.agg #[str r9.1.Name, str r9.1.Value, .slice p10 r9.1.Attrs.length c11]]) rfl) rfl hf rfl rfl (w_cookie_Text r9.1 r31 _ (hG.own hF hO) (hO.rowSees (i := 5) rfl) (hO.rowCap (i := 5) rfl) hr31) ?_
          rintro e w' ⟨he, hb⟩
          refine ⟨_, he, fun a hf => ?_⟩
          have hO := hO.grow hb
          refine op_val (ex_move hf rfl) rfl hf rfl rfl fun a hf => ?_
          refine op_val (ex_extract hf rfl rfl) rfl hf rfl rfl fun a hf => ?_
          refine op_val (ex_extract hf rfl rfl) rfl hf rfl rfl fun a hf => ?_
          refine op_val (ex_assign hf rfl) rfl hf rfl rfl fun a hf => ?_
          refine op_val (ex_assign hf rfl) rfl hf rfl rfl fun a hf => ?_
          refine wpList_nil ?_
          refine nor_then (hK32 _ _ ?_)
          refine wp_seq_k fun _ hK37 => ?_
          refine wp_region_list ?_
          refine op_val (ex_move hf rfl) rfl hf rfl rfl fun a hf => ?_
          obtain ⟨r33, hr33, hm⟩ := ob hm
          refine op_enter (ex_call c_14 hf (vs := [str r31.1]) rfl) rfl hf rfl rfl (w_cookie_Parse r31.1 r33 _ (hG.own hF hO) hr33) ?_
          rintro e w' ⟨p34, c35, he, hO'⟩
          refine ⟨_, he, fun a hf => ?_⟩
          have hO := hO.call hO' (by simp [Res.shared])
          refine op_val (ex_move hf rfl) rfl hf rfl rfl fun a hf => ?_
          refine op_val (ex_extract hf rfl rfl) rfl hf rfl rfl fun a hf => ?_
          refine op_val (ex_extract hf rfl rfl) rfl hf rfl rfl fun a hf => ?_
          refine op_alloc al_24 hf rfl hO fun a b36 w hf hO => ?_
          have hO := hO.nilRow 31 3
          refine op_storeN (i := 1) (n := 3) sz_24 rfl rfl rfl (by simp [Value.oneCell']) hf rfl rfl hO fun w hO => ?_
          refine op_val (ex_assign hf rfl) rfl hf rfl rfl fun a hf => ?_
          refine wpList_nil ?_
          refine nor_then (hK37 _ _ ?_)
          refine wp_seq_cut (fun a w => ∃ (t41 : Bool), Fits 66 [(2, .bool t41)] a ∧ Dk.Own w0 [] w [.row (.slice none 0 0) 31 3 0 (cells enc_api_Attr []), .blk b36 [str r33.1.Name, str r33.1.Value, .slice p34 r33.1.Attrs.length c35] 24, .row (.slice p34 r33.1.Attrs.length c35) 31 3 r33.1.Attrs.length (cells enc_api_Attr r33.1.Attrs), .row (.slice none 0 0) 31 3 0 (cells enc_api_Attr []), .blk b17 [str r14.1.Name, str r14.1.Value, .slice p15 r14.1.Attrs.length c16] 24, .row (.slice p15 r14.1.Attrs.length c16) 31 3 r14.1.Attrs.length (cells enc_api_Attr r14.1.Attrs), .row (.slice none 0 0) 31 3 0 (cells enc_api_Attr []), .blk b12 [str r9.1.Name, str r9.1.Value, .slice p10 r9.1.Attrs.length c11] 24, .row (.slice p10 r9.1.Attrs.length c11) 31 3 r9.1.Attrs.length (cells enc_api_Attr r9.1.Attrs)] ∧ law28_CookieReads_j2 t41 = some R) ?_ ?_
          · refine wp_region_list ?_
            refine op_val (ex_move hf rfl) rfl hf rfl rfl fun a hf => ?_
            refine op_val (ex_eql (m := r31.2) (n := 0) hf rfl rfl) rfl hf rfl rfl fun a hf => ?_
            refine op_val (ex_move hf rfl) rfl hf rfl rfl fun a hf => ?_
            rcases bcase (r31.2 == 0) with hc38 | hc38
            · have hm := it hc38 hm
              refine op_guard rfl hf rfl rfl (hc38) ?_
              refine op_val (ex_move hf rfl) rfl hf rfl rfl fun a hf => ?_
              refine op_guard rfl hf rfl rfl (hc38) ?_
              refine op_val (ex_eql (m := r33.2) (n := 0) hf rfl rfl) rfl hf rfl rfl fun a hf => ?_
              refine op_val (ex_pick_t hf rfl hc38 rfl) rfl hf rfl rfl fun a hf => ?_
              refine op_val (ex_move hf rfl) rfl hf rfl rfl fun a hf => ?_
              rcases bcase (r33.2 == 0) with hc39 | hc39
              · have hm := it hc39 hm
                refine op_guard rfl hf rfl rfl (hc39) ?_
                refine op_val (ex_loadN (o := 0) (vs := [str r33.1.Name, str r33.1.Value, .slice p34 r33.1.Attrs.length c35]) ag_24 sz_24 (hO.blkSees (i := 1) rfl) rfl rfl hf rfl) rfl hf rfl rfl fun a hf => ?_
                refine op_guard rfl hf rfl rfl (hc39) ?_
                refine op_val (ex_loadN (o := 0) (vs := [str r9.1.Name, str r9.1.Value, .slice p10 r9.1.Attrs.length c11]) ag_24 sz_24 (hO.blkSees (i := 7) rfl) rfl rfl hf rfl) rfl hf rfl rfl fun a hf => ?_
                refine op_guard rfl hf rfl rfl (hc39) ?_
                obtain ⟨r40, hr40, hm⟩ := ob hm
                refine op_enter (ex_call c_12 hf (vs := [.agg #[str r33.1.Name, str r33.1.Value, .slice p34 r33.1.Attrs.length c35], .agg #[str r9.1.Name, str r9.1.Value, .slice p10 r9.1.Attrs.length c11]]) rfl) rfl hf rfl rfl (w_ref28_Same r33.1 r9.1 r40 _ (hG.own hF hO) (hO.rowSees (i := 2) rfl) (hO.rowCap (i := 2) rfl) (hO.rowSees (i := 8) rfl) (hO.rowCap (i := 8) rfl) hr40) ?_
                rintro e w' ⟨he, hb⟩
                refine ⟨_, he, fun a hf => ?_⟩
                have hO := hO.grow hb
                refine op_val (ex_pick_t hf rfl hc39 rfl) rfl hf rfl rfl fun a hf => ?_
                refine op_val (ex_assign hf rfl) rfl hf rfl rfl fun a hf => ?_
                refine wpList_nil ?_
                refine nor_then ?_
                exact ⟨r40, (hf.cons rfl hf.nil), hO, hm⟩
              · have hm := ie hc39 hm
                refine op_pass rfl hf rfl rfl (hc39) rfl rfl fun a hf => ?_
                refine op_pass rfl hf rfl rfl (hc39) rfl rfl fun a hf => ?_
                refine op_pass rfl hf rfl rfl (hc39) rfl rfl fun a hf => ?_
                refine op_val (ex_pick_f hf rfl hc39 rfl) rfl hf rfl rfl fun a hf => ?_
                refine op_val (ex_assign hf rfl) rfl hf rfl rfl fun a hf => ?_
                refine wpList_nil ?_
                refine nor_then ?_
                exact ⟨false, (hf.cons rfl hf.nil), hO, hm⟩
            · have hm := ie hc38 hm
              refine op_pass rfl hf rfl rfl (hc38) rfl rfl fun a hf => ?_
              refine op_pass rfl hf rfl rfl (hc38) rfl rfl fun a hf => ?_
              refine op_val (ex_pick_f hf rfl hc38 rfl) rfl hf rfl rfl fun a hf => ?_
              refine op_val (ex_move hf rfl) rfl hf rfl rfl fun a hf => ?_
              refine op_pass rfl hf rfl rfl (rfl) rfl rfl fun a hf => ?_
              refine op_pass rfl hf rfl rfl (rfl) rfl rfl fun a hf => ?_
              refine op_pass rfl hf rfl rfl (rfl) rfl rfl fun a hf => ?_
              refine op_val (ex_pick_f hf rfl rfl rfl) rfl hf rfl rfl fun a hf => ?_
              refine op_val (ex_assign hf rfl) rfl hf rfl rfl fun a hf => ?_
              refine wpList_nil ?_
              refine nor_then ?_
              exact ⟨false, (hf.cons rfl hf.nil), hO, hm⟩
          · rintro a w ⟨t41, hf, hO, hm⟩
            rw [law28_CookieReads_j2] at hm
            refine wp_ret ?_
            obtain rfl := Option.some.inj hm
            exact post_ret Tryd.results4 hf (.tmp rfl .nil) ⟨rfl, hO.below⟩

set_option maxHeartbeats 1000000 in
theorem w_ref28_Text (x_c : api_Cookie) (R : Str × Int) (w0 : World) (hG : Glob w0) {x_c_p0 : Option Addr} {x_c_c0 : Nat} (hs0 : Sees w0 x_c_p0 (cells enc_api_Attr x_c.Attrs)) (hc0 : x_c.Attrs.length ≤ x_c_c0) (hm : ref28_Text x_c = some R) :
    Calls Tryd.prog 18 #[.agg #[str x_c.Name, str x_c.Value, .slice x_c_p0 x_c.Attrs.length x_c_c0]] w0 fun e w' => e = .returned (.tuple #[str R.1, int R.2]) ∧ Below w0.heap.size w0 w' := by
  rw [ref28_Text] at hm
  refine calls_enter (vs := [.agg #[str x_c.Name, str x_c.Value, .slice x_c_p0 x_c.Attrs.length x_c_c0]]) Tryd.func18 rfl Tryd.ntmps18 rfl fun a hf => ?_
  have hF : Away [] := away_nil
  have hO : Dk.Own w0 [] w0 [] := Dk.Own.refl w0
  have hO := hO.addShr hs0 (by simp [Res.shared])
  refine wp_seq_k fun _ hK2 => ?_
  refine wp_region_list ?_
  refine op_box (v := .agg #[str x_c.Name, str x_c.Value, .slice x_c_p0 x_c.Attrs.length x_c_c0]) (cs := [str x_c.Name, str x_c.Value, .slice x_c_p0 x_c.Attrs.length x_c_c0]) rfl hf rfl rfl hO fun a b1 w hf hO => ?_
  refine op_val (ex_assign hf rfl) rfl hf rfl rfl fun a hf => ?_
  refine op_val (ex_assign hf rfl) rfl hf rfl rfl fun a hf => ?_
  refine wpList_nil ?_
  refine nor_then (hK2 _ _ ?_)
  refine wp_seq_k fun _ hK5 => ?_
  refine wp_region_list ?_
  refine op_val (ex_field fa_24_0 hf rfl) rfl hf rfl rfl fun a hf => ?_
  refine op_val (ex_load1 (o := 0) ag_9 (hO.blkSees (i := 0) rfl) rfl hf rfl) rfl hf rfl rfl fun a hf => ?_
  obtain ⟨s3, hs3, hm⟩ := ob hm
  refine op_val (ex_cat (l := x_c.Name) (m := [61]) hf rfl rfl hs3) rfl hf rfl rfl fun a hf => ?_
  refine op_val (ex_field fa_24_1 hf rfl) rfl hf rfl rfl fun a hf => ?_
  refine op_val (ex_load1 (o := 1) ag_9 (hO.blkSees (i := 0) rfl) rfl hf rfl) rfl hf rfl rfl fun a hf => ?_
  obtain ⟨s4, hs4, hm⟩ := ob hm
  refine op_val (ex_cat (l := s3) (m := x_c.Value) hf rfl rfl hs4) rfl hf rfl rfl fun a hf => ?_
  refine op_val (ex_assign hf rfl) rfl hf rfl rfl fun a hf => ?_
  refine wpList_nil ?_
  refine nor_then (hK5 _ _ ?_)
  refine wp_seq_k fun _ hK30 => ?_
  refine wp_seq_k fun _ hK6 => ?_
  refine wp_region_list ?_
  refine op_val (ex_assign hf rfl) rfl hf rfl rfl fun a hf => ?_
  refine wpList_nil ?_
  refine nor_then (hK6 _ _ ?_)
  refine wp_block ?_
  refine wp_loop_n (fun k a w => ∃ (s7 : Str) (i8 : Int), Fits 59 [(1, ptr b1 0), (4, str s7), (5, int i8)] a ∧ Dk.Own w0 [] w [.blk b1 [str x_c.Name, str x_c.Value, .slice x_c_p0 x_c.Attrs.length x_c_c0] 24, .shr x_c_p0 (cells enc_api_Attr x_c.Attrs)] ∧ ref28_Text_L1 x_c k s7 i8 = some R) ?_ fuel ?_
  · rintro n1 a w ⟨s7, i8, hf, hO, hm⟩
    obtain _ | n1 := n1
    · rw [ref28_Text_L1] at hm
      cases hm
    · rw [ref28_Text_L1] at hm
      refine wp_seq_k fun _ hK11 => ?_
      refine wp_seq_k fun _ hK9 => ?_
      refine wp_region_list ?_
      refine op_val (ex_move hf rfl) rfl hf rfl rfl fun a hf => ?_
      refine op_val (ex_field fa_24_2 hf rfl) rfl hf rfl rfl fun a hf => ?_
      refine op_val (ex_load1 (o := 2) ag_22 (hO.blkSees (i := 0) rfl) rfl hf rfl) rfl hf rfl rfl fun a hf => ?_
      refine op_val (ex_len_l Tryd.underlying22 hf rfl) rfl hf rfl rfl fun a hf => ?_
      refine op_val (ex_lss (m := i8) (n := (x_c.Attrs.length : Int)) hf rfl rfl) rfl hf rfl rfl fun a hf => ?_
      refine wpList_nil ?_
      refine nor_then (hK9 _ _ ?_)
      refine wp_cond_cut hf rfl (fun hc10 => ?_) (fun hc10 => ?_)
      · have hm := it hc10 hm
        refine wp_skip ?_
        refine nor_then (hK11 _ _ ?_)
        refine wp_seq_cut (fun a w => ∃ (s28 : Str), Fits 59 [(1, ptr b1 0), (4, str s28), (5, int i8)] a ∧ Dk.Own w0 [] w [.blk b1 [str x_c.Name, str x_c.Value, .slice x_c_p0 x_c.Attrs.length x_c_c0] 24, .shr x_c_p0 (cells enc_api_Attr x_c.Attrs)] ∧ ref28_Text_j2 (ref28_Text_L1 x_c n1) i8 s28 = some R) ?_ ?_
        · refine wp_block ?_
          refine wp_seq_k fun _ hK17 => ?_
          refine wp_region_list ?_
          refine op_val (ex_move hf rfl) rfl hf rfl rfl fun a hf => ?_
          obtain ⟨s12, hs12, hm⟩ := ob hm
          refine op_val (ex_cat (l := s7) (m := [59, 32]) hf rfl rfl hs12) rfl hf rfl rfl fun a hf => ?_
          refine op_val (ex_field fa_24_2 hf rfl) rfl hf rfl rfl fun a hf => ?_
          refine op_val (ex_load1 (o := 2) ag_22 (hO.blkSees (i := 0) rfl) rfl hf rfl) rfl hf rfl rfl fun a hf => ?_
          refine op_val (ex_move hf rfl) rfl hf rfl rfl fun a hf => ?_
          obtain ⟨x13, hx13, hm⟩ := ob hm
          obtain ⟨b14, o15, hix13, hSx13⟩ := elemAt (enc := enc_api_Attr) (sz := 3) (xs := x_c.Attrs) 22 Tryd.underlying22 sz_31 (by decide) (fun _ => rfl) (hO.sees (i := 1) rfl) hx13
          refine op_val (ex_indexAddr hix13 hf rfl rfl) rfl hf rfl rfl fun a hf => ?_
          refine op_val (ex_field fa_31_0 hf rfl) rfl hf rfl rfl fun a hf => ?_
          refine op_val (ex_load1 (o := 0) ag_9 (hSx13 _ (hO.sees (i := 1) rfl)) rfl hf rfl) rfl hf rfl rfl fun a hf => ?_
          obtain ⟨s16, hs16, hm⟩ := ob hm
          refine op_val (ex_cat (l := s12) (m := x13.Name) hf rfl rfl hs16) rfl hf rfl rfl fun a hf => ?_
          refine op_val (ex_assign hf rfl) rfl hf rfl rfl fun a hf => ?_
          refine wpList_nil ?_
          refine nor_then (hK17 _ _ ?_)
          refine wp_seq_k fun _ hK21 => ?_
          refine wp_region_list ?_
          refine op_val (ex_field fa_24_2 hf rfl) rfl hf rfl rfl fun a hf => ?_
          refine op_val (ex_load1 (o := 2) ag_22 (hO.blkSees (i := 0) rfl) rfl hf rfl) rfl hf rfl rfl fun a hf => ?_
          refine op_val (ex_move hf rfl) rfl hf rfl rfl fun a hf => ?_
          obtain ⟨x18, hx18, hm⟩ := ob hm
          obtain ⟨b19, o20, hix18, hSx18⟩ := elemAt (enc := enc_api_Attr) (sz := 3) (xs := x_c.Attrs) 22 Tryd.underlying22 sz_31 (by decide) (fun _ => rfl) (hO.sees (i := 1) rfl) hx18
          refine op_val (ex_indexAddr hix18 hf rfl rfl) rfl hf rfl rfl fun a hf => ?_
          refine op_val (ex_field fa_31_2 hf rfl) rfl hf rfl rfl fun a hf => ?_
          refine op_val (ex_load1 (o := 2) ag_4 (hSx18 _ (hO.sees (i := 1) rfl)) rfl hf rfl) rfl hf rfl rfl fun a hf => ?_
          refine wpList_nil ?_
          refine nor_then (hK21 _ _ ?_)
          refine wp_cond_cut hf rfl (fun hc22 => ?_) (fun hc22 => ?_)
          · have hm := it hc22 hm
            refine wp_region_list ?_
            refine op_val (ex_move hf rfl) rfl hf rfl rfl fun a hf => ?_
            obtain ⟨s23, hs23, hm⟩ := ob hm
            refine op_val (ex_cat (l := s16) (m := [61]) hf rfl rfl hs23) rfl hf rfl rfl fun a hf => ?_
            refine op_val (ex_field fa_24_2 hf rfl) rfl hf rfl rfl fun a hf => ?_
            refine op_val (ex_load1 (o := 2) ag_22 (hO.blkSees (i := 0) rfl) rfl hf rfl) rfl hf rfl rfl fun a hf => ?_
            refine op_val (ex_move hf rfl) rfl hf rfl rfl fun a hf => ?_
            obtain ⟨x24, hx24, hm⟩ := ob hm
            obtain ⟨b25, o26, hix24, hSx24⟩ := elemAt (enc := enc_api_Attr) (sz := 3) (xs := x_c.Attrs) 22 Tryd.underlying22 sz_31 (by decide) (fun _ => rfl) (hO.sees (i := 1) rfl) hx24
            refine op_val (ex_indexAddr hix24 hf rfl rfl) rfl hf rfl rfl fun a hf => ?_
            refine op_val (ex_field fa_31_1 hf rfl) rfl hf rfl rfl fun a hf => ?_
            refine op_val (ex_load1 (o := 1) ag_9 (hSx24 _ (hO.sees (i := 1) rfl)) rfl hf rfl) rfl hf rfl rfl fun a hf => ?_
            obtain ⟨s27, hs27, hm⟩ := ob hm
            refine op_val (ex_cat (l := s23) (m := x24.Value) hf rfl rfl hs27) rfl hf rfl rfl fun a hf => ?_
            refine op_val (ex_assign hf rfl) rfl hf rfl rfl fun a hf => ?_
            refine wpList_nil ?_
            refine nor_block ?_
            refine nor_then ?_
            exact ⟨s27, (hf.cons rfl (hf.cons rfl (hf.cons rfl hf.nil))), hO, hm⟩
          · have hm := ie hc22 hm
            refine wp_skip ?_
            refine nor_block ?_
            refine nor_then ?_
            exact ⟨s16, (hf.cons rfl (hf.cons rfl (hf.cons rfl hf.nil))), hO, hm⟩
        · rintro a w ⟨s28, hf, hO, hm⟩
          rw [ref28_Text_j2] at hm
          refine wp_region_list ?_
          refine op_val (ex_move hf rfl) rfl hf rfl rfl fun a hf => ?_
          obtain ⟨i29, hi29, hm⟩ := ob hm
          refine op_val (ex_add hf rfl rfl hi29) rfl hf rfl rfl fun a hf => ?_
          refine op_val (ex_assign hf rfl) rfl hf rfl rfl fun a hf => ?_
          refine wpList_nil ?_
          refine nor_then ?_
          exact ⟨_, Nat.lt_succ_self _, s28, i29, (hf.cons rfl (hf.cons rfl (hf.cons rfl hf.nil))), hO, hm⟩
      · have hm := ie hc10 hm
        refine wp_exit ?_
        refine exit_then ?_
        refine exit_then ?_
        refine exit_here ?_
        refine nor_then (hK30 _ _ ?_)
        refine wp_seq_k fun _ hK35 => ?_
        refine wp_region_list ?_
        refine op_val (ex_move hf rfl) rfl hf rfl rfl fun a hf => ?_
        obtain ⟨r31, hr31, hm⟩ := ob hm
        refine op_enter (ex_call c_15 hf (vs := [str s7]) rfl) rfl hf rfl rfl (w_ref28_Parse s7 r31 _ (hG.own hF hO) hr31) ?_
        rintro e w' ⟨p32, c33, he, hO'⟩
        refine ⟨_, he, fun a hf => ?_⟩
        have hO := hO.call hO' (by simp [Res.shared])
        refine op_val (ex_move hf rfl) rfl hf rfl rfl fun a hf => ?_
        refine op_val (ex_extract hf rfl rfl) rfl hf rfl rfl fun a hf => ?_
        refine op_val (ex_extract hf rfl rfl) rfl hf rfl rfl fun a hf => ?_
        refine op_alloc al_24 hf rfl hO fun a b34 w hf hO => ?_
        have hO := hO.nilRow 31 3
        refine op_storeN (i := 1) (n := 3) sz_24 rfl rfl rfl (by simp [Value.oneCell']) hf rfl rfl hO fun w hO => ?_
        refine op_val (ex_assign hf rfl) rfl hf rfl rfl fun a hf => ?_
        refine wpList_nil ?_
        refine nor_then (hK35 _ _ ?_)
        refine wp_seq_k fun _ hK41 => ?_
        refine wp_seq_cut (fun a w => ∃ (t38 : Bool), Fits 59 [(4, str s7), (57, .bool t38)] a ∧ Dk.Own w0 [] w [.row (.slice none 0 0) 31 3 0 (cells enc_api_Attr []), .blk b34 [str r31.1.Name, str r31.1.Value, .slice p32 r31.1.Attrs.length c33] 24, .row (.slice p32 r31.1.Attrs.length c33) 31 3 r31.1.Attrs.length (cells enc_api_Attr r31.1.Attrs), .blk b1 [str x_c.Name, str x_c.Value, .slice x_c_p0 x_c.Attrs.length x_c_c0] 24, .shr x_c_p0 (cells enc_api_Attr x_c.Attrs)] ∧ ref28_Text_j3 s7 t38 = some R) ?_ ?_
        · refine wp_region_list ?_
          refine op_val (ex_move hf rfl) rfl hf rfl rfl fun a hf => ?_
          refine op_val (ex_neq (m := r31.2) (n := 0) hf rfl rfl) rfl hf rfl rfl fun a hf => ?_
          refine op_val (ex_move hf rfl) rfl hf rfl rfl fun a hf => ?_
          rcases bcase (!(r31.2 == 0)) with hc36 | hc36
          · have hm := it hc36 hm
            refine op_pass rfl hf rfl rfl (hc36) rfl rfl fun a hf => ?_
            refine op_pass rfl hf rfl rfl (hc36) rfl rfl fun a hf => ?_
            refine op_pass rfl hf rfl rfl (hc36) rfl rfl fun a hf => ?_
            refine op_pass rfl hf rfl rfl (hc36) rfl rfl fun a hf => ?_
            refine op_val (ex_pick_t hf rfl hc36 rfl) rfl hf rfl rfl fun a hf => ?_
            refine wpList_nil ?_
            refine nor_then ?_
            exact ⟨true, (hf.cons rfl (hf.cons rfl hf.nil)), hO, hm⟩
          · have hm := ie hc36 hm
            refine op_guard rfl hf rfl rfl (hc36) ?_
            refine op_val (ex_loadN (o := 0) (vs := [str r31.1.Name, str r31.1.Value, .slice p32 r31.1.Attrs.length c33]) ag_24 sz_24 (hO.blkSees (i := 1) rfl) rfl rfl hf rfl) rfl hf rfl rfl fun a hf => ?_
            refine op_guard rfl hf rfl rfl (hc36) ?_
            refine op_val (ex_loadN (o := 0) (vs := [str x_c.Name, str x_c.Value, .slice x_c_p0 x_c.Attrs.length x_c_c0]) ag_24 sz_24 (hO.blkSees (i := 3) rfl) rfl rfl hf rfl) rfl hf rfl rfl fun a hf => ?_
            refine op_guard rfl hf rfl rfl (hc36) ?_
            obtain ⟨r37, hr37, hm⟩ := ob hm
            refine op_enter (ex_call c_12 hf (vs := [.agg #[str r31.1.Name, str r31.1.Value, .slice p32 r31.1.Attrs.length c33], .agg #[str x_c.Name, str x_c.Value, .slice x_c_p0 x_c.Attrs.length x_c_c0]]) rfl) rfl hf rfl rfl (w_ref28_Same r31.1 x_c r37 _ (hG.own hF hO) (hO.rowSees (i := 2) rfl) (hO.rowCap (i := 2) rfl) (hO.sees (i := 4) rfl) hc0 hr37) ?_
            rintro e w' ⟨he, hb⟩
            refine ⟨_, he, fun a hf => ?_⟩
            have hO := hO.grow hb
            refine op_guard rfl hf rfl rfl (hc36) ?_
            refine op_val (ex_not hf rfl) rfl hf rfl rfl fun a hf => ?_
            refine op_val (ex_pick_f hf rfl hc36 rfl) rfl hf rfl rfl fun a hf => ?_
            refine wpList_nil ?_
            refine nor_then ?_
            exact ⟨!r37, (hf.cons rfl (hf.cons rfl hf.nil)), hO, hm⟩
        · rintro a w ⟨t38, hf, hO, hm⟩
          rw [ref28_Text_j3] at hm
          refine wp_cond_cut hf rfl (fun hc39 => ?_) (fun hc39 => ?_)
          · have hm := it hc39 hm
            refine wp_seq_k fun _ hK40 => ?_
            refine wp_region_list ?_
            refine op_val (ex_assign hf rfl) rfl hf rfl rfl fun a hf => ?_
            refine op_val (ex_assign hf rfl) rfl hf rfl rfl fun a hf => ?_
            refine wpList_nil ?_
            refine nor_then (hK40 _ _ ?_)
            refine wp_ret ?_
            refine ret_then ?_
            obtain rfl := Option.some.inj hm
            exact post_ret Tryd.results18 hf (.tmp rfl (.tmp rfl .nil)) ⟨rfl, hO.below⟩
          · have hm := ie hc39 hm
            refine wp_skip ?_
            refine nor_then (hK41 _ _ ?_)
            refine wp_seq_k fun _ hK42 => ?_
            refine wp_region_list ?_
            refine op_val (ex_move hf rfl) rfl hf rfl rfl fun a hf => ?_
            refine op_val (ex_assign hf rfl) rfl hf rfl rfl fun a hf => ?_
            refine op_val (ex_assign hf rfl) rfl hf rfl rfl fun a hf => ?_
            refine wpList_nil ?_
            refine nor_then (hK42 _ _ ?_)
            refine wp_ret ?_
            obtain rfl := Option.some.inj hm
            exact post_ret Tryd.results18 hf (.tmp rfl (.tmp rfl .nil)) ⟨rfl, hO.below⟩
  · exact ⟨s4, 0, (hf.cons rfl (hf.cons rfl (hf.cons rfl hf.nil))), hO, hm⟩

set_option maxHeartbeats 1000000 in
theorem w_law28_CookieWrites (x_c : api_Cookie) (x_d : api_Cookie) (R : Bool) (w0 : World) (hG : Glob w0) {x_c_p0 : Option Addr} {x_c_c0 : Nat} (hs0 : Sees w0 x_c_p0 (cells enc_api_Attr x_c.Attrs)) (hc0 : x_c.Attrs.length ≤ x_c_c0) {x_d_p1 : Option Addr} {x_d_c1 : Nat} (hs1 : Sees w0 x_d_p1 (cells enc_api_Attr x_d.Attrs)) (hc1 : x_d.Attrs.length ≤ x_d_c1) (hm : law28_CookieWrites x_c x_d = some R) :
    Calls Tryd.prog 5 #[.agg #[str x_c.Name, str x_c.Value, .slice x_c_p0 x_c.Attrs.length x_c_c0], .agg #[str x_d.Name, str x_d.Value, .slice x_d_p1 x_d.Attrs.length x_d_c1]] w0 fun e w' => e = .returned (.bool R) ∧ Below w0.heap.size w0 w' := by
  rw [law28_CookieWrites] at hm
  refine calls_enter (vs := [.agg #[str x_c.Name, str x_c.Value, .slice x_c_p0 x_c.Attrs.length x_c_c0], .agg #[str x_d.Name, str x_d.Value, .slice x_d_p1 x_d.Attrs.length x_d_c1]]) Tryd.func5 rfl Tryd.ntmps5 rfl fun a hf => ?_
  have hF : Away [] := away_nil
  have hO : Dk.Own w0 [] w0 [] := Dk.Own.refl w0
  have hO := hO.addShr hs0 (by simp [Res.shared])
  have hO := hO.addShr hs1 (by simp [Res.shared])
  refine wp_seq_k fun _ hK3 => ?_
  refine wp_region_list ?_
  refine op_box (v := .agg #[str x_c.Name, str x_c.Value, .slice x_c_p0 x_c.Attrs.length x_c_c0]) (cs := [str x_c.Name, str x_c.Value, .slice x_c_p0 x_c.Attrs.length x_c_c0]) rfl hf rfl rfl hO fun a b1 w hf hO => ?_
  refine op_box (v := .agg #[str x_d.Name, str x_d.Value, .slice x_d_p1 x_d.Attrs.length x_d_c1]) (cs := [str x_d.Name, str x_d.Value, .slice x_d_p1 x_d.Attrs.length x_d_c1]) rfl hf rfl rfl hO fun a b2 w hf hO => ?_
  refine op_val (ex_assign hf rfl) rfl hf rfl rfl fun a hf => ?_
  refine wpList_nil ?_
  refine nor_then (hK3 _ _ ?_)
  refine wp_seq_k fun _ hK8 => ?_
  refine wp_seq_k fun _ hK5 => ?_
  refine wp_region_list ?_
  obtain ⟨r4, hr4, hm⟩ := ob hm
  refine op_enter (ex_call c_7 hf (vs := []) rfl) rfl hf rfl rfl (w_law28_awake r4 _ (hG.own hF hO) hr4) ?_
  rintro e w' ⟨he, hb⟩
  refine ⟨_, he, fun a hf => ?_⟩
  have hO := hO.grow hb
  refine op_val (ex_not hf rfl) rfl hf rfl rfl fun a hf => ?_
  refine wpList_nil ?_
  refine nor_then (hK5 _ _ ?_)
  refine wp_cond_cut hf rfl (fun hc6 => ?_) (fun hc6 => ?_)
  · have hm := it hc6 hm
    refine wp_seq_k fun _ hK7 => ?_
    refine wp_region_list ?_
    refine op_val (ex_assign hf rfl) rfl hf rfl rfl fun a hf => ?_
    refine wpList_nil ?_
    refine nor_then (hK7 _ _ ?_)
    refine wp_ret ?_
    refine ret_then ?_
    obtain rfl := Option.some.inj hm
    exact post_ret Tryd.results5 hf (.tmp rfl .nil) ⟨rfl, hO.below⟩
  · have hm := ie hc6 hm
    refine wp_skip ?_
    refine nor_then (hK8 _ _ ?_)
    refine wp_seq_k fun _ hK15 => ?_
    obtain ⟨r9, hr9, hm⟩ := ob hm
    obtain ⟨r12, hr12, hm⟩ := ob hm
    refine wp_drawS' (S := Option Addr × Nat × Option Addr × Nat) (E0 := [(2, ptr b1 0), (3, ptr b2 0)]) (by kernel_rfl) (fun k σ w => match k with | 0 => Dk.Own w0 [] w [.blk b2 [str x_d.Name, str x_d.Value, .slice x_d_p1 x_d.Attrs.length x_d_c1] 24, .blk b1 [str x_c.Name, str x_c.Value, .slice x_c_p0 x_c.Attrs.length x_c_c0] 24, .shr x_d_p1 (cells enc_api_Attr x_d.Attrs), .shr x_c_p0 (cells enc_api_Attr x_c.Attrs)] | 1 => Dk.Own w0 [] w [.row (.slice (σ.1) r9.Attrs.length (σ.2.1)) 31 3 r9.Attrs.length (cells enc_api_Attr r9.Attrs), .blk b2 [str x_d.Name, str x_d.Value, .slice x_d_p1 x_d.Attrs.length x_d_c1] 24, .blk b1 [str x_c.Name, str x_c.Value, .slice x_c_p0 x_c.Attrs.length x_c_c0] 24, .shr x_d_p1 (cells enc_api_Attr x_d.Attrs), .shr x_c_p0 (cells enc_api_Attr x_c.Attrs)] | 2 => Dk.Own w0 [] w [.row (.slice (σ.2.2.1) r12.Attrs.length (σ.2.2.2)) 31 3 r12.Attrs.length (cells enc_api_Attr r12.Attrs), .row (.slice (σ.1) r9.Attrs.length (σ.2.1)) 31 3 r9.Attrs.length (cells enc_api_Attr r9.Attrs), .blk b2 [str x_d.Name, str x_d.Value, .slice x_d_p1 x_d.Attrs.length x_d_c1] 24, .blk b1 [str x_c.Name, str x_c.Value, .slice x_c_p0 x_c.Attrs.length x_c_c0] 24, .shr x_d_p1 (cells enc_api_Attr x_d.Attrs), .shr x_c_p0 (cells enc_api_Attr x_c.Attrs)] | 3 => Dk.Own w0 [] w [.row (.slice (σ.2.2.1) r12.Attrs.length (σ.2.2.2)) 31 3 r12.Attrs.length (cells enc_api_Attr r12.Attrs), .row (.slice (σ.1) r9.Attrs.length (σ.2.1)) 31 3 r9.Attrs.length (cells enc_api_Attr r9.Attrs), .blk b2 [str x_d.Name, str x_d.Value, .slice x_d_p1 x_d.Attrs.length x_d_c1] 24, .blk b1 [str r9.Name, str r9.Value, .slice (σ.1) r9.Attrs.length (σ.2.1)] 24, .shr x_d_p1 (cells enc_api_Attr x_d.Attrs), .shr x_c_p0 (cells enc_api_Attr x_c.Attrs)] | _ => Dk.Own w0 [] w [.row (.slice (σ.2.2.1) r12.Attrs.length (σ.2.2.2)) 31 3 r12.Attrs.length (cells enc_api_Attr r12.Attrs), .row (.slice (σ.1) r9.Attrs.length (σ.2.1)) 31 3 r9.Attrs.length (cells enc_api_Attr r9.Attrs), .blk b2 [str r12.Name, str r12.Value, .slice (σ.2.2.1) r12.Attrs.length (σ.2.2.2)] 24, .blk b1 [str r9.Name, str r9.Value, .slice (σ.1) r9.Attrs.length (σ.2.1)] 24, .shr x_d_p1 (cells enc_api_Attr x_d.Attrs), .shr x_c_p0 (cells enc_api_Attr x_c.Attrs)]) (fun σ => [⟨[(2, ptr b1 0)], some (11, .agg #[str x_c.Name, str x_c.Value, .slice x_c_p0 x_c.Attrs.length x_c_c0])⟩, ⟨[(11, .agg #[str x_c.Name, str x_c.Value, .slice x_c_p0 x_c.Attrs.length x_c_c0])], some (12, .agg #[str r9.Name, str r9.Value, .slice (σ.1) r9.Attrs.length (σ.2.1)])⟩, ⟨[(3, ptr b2 0)], some (13, .agg #[str x_d.Name, str x_d.Value, .slice x_d_p1 x_d.Attrs.length x_d_c1])⟩, ⟨[(13, .agg #[str x_d.Name, str x_d.Value, .slice x_d_p1 x_d.Attrs.length x_d_c1])], some (14, .agg #[str r12.Name, str r12.Value, .slice (σ.2.2.1) r12.Attrs.length (σ.2.2.2)])⟩, ⟨[(2, ptr b1 0), (12, .agg #[str r9.Name, str r9.Value, .slice (σ.1) r9.Attrs.length (σ.2.1)])], none⟩, ⟨[(3, ptr b2 0), (14, .agg #[str r12.Name, str r12.Value, .slice (σ.2.2.1) r12.Attrs.length (σ.2.2.2)])], none⟩]) (none, 0, none, 0) [1, 3, 4, 5] rfl (fun _ => rfl) (fun _ => rfl) (fun _ => rfl) rfl rfl (by decide) rfl hO.drew (hf.cons rfl (hf.cons rfl hf.nil)) (fun σ => ⟨⟨rfl, trivial⟩, ⟨⟨rfl, trivial⟩, ⟨⟨rfl, trivial⟩, ⟨⟨rfl, trivial⟩, ⟨⟨rfl, ⟨rfl, trivial⟩⟩, ⟨⟨rfl, ⟨rfl, trivial⟩⟩, trivial⟩⟩⟩⟩⟩⟩) ⟨sS_pure rfl (fun σ => rfl) (fun σ => rfl) (fun σ a w k hk hlo hup hst hf => match k, hk, hlo, hup, hst, hf with | 0, _, _, _, hst, hf => have hO : Dk.Own w0 [] w [.blk b2 [str x_d.Name, str x_d.Value, .slice x_d_p1 x_d.Attrs.length x_d_c1] 24, .blk b1 [str x_c.Name, str x_c.Value, .slice x_c_p0 x_c.Attrs.length x_c_c0] 24, .shr x_d_p1 (cells enc_api_Attr x_d.Attrs), .shr x_c_p0 (cells enc_api_Attr x_c.Attrs)] := hst; ex_loadN (o := 0) (vs := [str x_c.Name, str x_c.Value, .slice x_c_p0 x_c.Attrs.length x_c_c0]) ag_24 sz_24 (hO.blkSees (i := 1) rfl) rfl rfl hf rfl | 1, _, _, _, hst, hf => have hO : Dk.Own w0 [] w [.row (.slice (σ.1) r9.Attrs.length (σ.2.1)) 31 3 r9.Attrs.length (cells enc_api_Attr r9.Attrs), .blk b2 [str x_d.Name, str x_d.Value, .slice x_d_p1 x_d.Attrs.length x_d_c1] 24, .blk b1 [str x_c.Name, str x_c.Value, .slice x_c_p0 x_c.Attrs.length x_c_c0] 24, .shr x_d_p1 (cells enc_api_Attr x_d.Attrs), .shr x_c_p0 (cells enc_api_Attr x_c.Attrs)] := hst; ex_loadN (o := 0) (vs := [str x_c.Name, str x_c.Value, .slice x_c_p0 x_c.Attrs.length x_c_c0]) ag_24 sz_24 (hO.blkSees (i := 2) rfl) rfl rfl hf rfl | 2, _, _, _, hst, hf => have hO : Dk.Own w0 [] w [.row (.slice (σ.2.2.1) r12.Attrs.length (σ.2.2.2)) 31 3 r12.Attrs.length (cells enc_api_Attr r12.Attrs), .row (.slice (σ.1) r9.Attrs.length (σ.2.1)) 31 3 r9.Attrs.length (cells enc_api_Attr r9.Attrs), .blk b2 [str x_d.Name, str x_d.Value, .slice x_d_p1 x_d.Attrs.length x_d_c1] 24, .blk b1 [str x_c.Name, str x_c.Value, .slice x_c_p0 x_c.Attrs.length x_c_c0] 24, .shr x_d_p1 (cells enc_api_Attr x_d.Attrs), .shr x_c_p0 (cells enc_api_Attr x_c.Attrs)] := hst; ex_loadN (o := 0) (vs := [str x_c.Name, str x_c.Value, .slice x_c_p0 x_c.Attrs.length x_c_c0]) ag_24 sz_24 (hO.blkSees (i := 3) rfl) rfl rfl hf rfl | 3, _, _, hup, _, _ => absurd (hup 0 (by decide) (by kernel_rfl)) (by decide) | 4, _, _, hup, _, _ => absurd (hup 0 (by decide) (by kernel_rfl)) (by decide) | k + 5, hk, _, _, _, _ => absurd hk (by simp)), ⟨sS_call rfl (fun σ => rfl) (fun σ => rfl) rfl (fun σ a w (_ : _) hf => ex_call c_8 hf (vs := [.agg #[str x_c.Name, str x_c.Value, .slice x_c_p0 x_c.Attrs.length x_c_c0]]) rfl) (fun σ w (hO : Dk.Own w0 [] w [.blk b2 [str x_d.Name, str x_d.Value, .slice x_d_p1 x_d.Attrs.length x_d_c1] 24, .blk b1 [str x_c.Name, str x_c.Value, .slice x_c_p0 x_c.Attrs.length x_c_c0] 24, .shr x_d_p1 (cells enc_api_Attr x_d.Attrs), .shr x_c_p0 (cells enc_api_Attr x_c.Attrs)]) => (w_law28_few x_c r9 _ (hG.own hF hO) (hO.sees (i := 3) rfl) hc0 hr9).mono fun e w' h => by obtain ⟨p10, c11, he, hO'⟩ := h; exact ⟨(p10, c11, (σ.2.2.1), (σ.2.2.2)), he, hO.call hO' (by simp [Res.shared]), ⟨.inr rfl, ⟨.inl rfl, ⟨.inr rfl, ⟨.inr rfl, ⟨.inl rfl, ⟨.inr rfl, trivial⟩⟩⟩⟩⟩⟩⟩), ⟨sS_pure rfl (fun σ => rfl) (fun σ => rfl) (fun σ a w k hk hlo hup hst hf => match k, hk, hlo, hup, hst, hf with | 0, _, _, _, hst, hf => have hO : Dk.Own w0 [] w [.blk b2 [str x_d.Name, str x_d.Value, .slice x_d_p1 x_d.Attrs.length x_d_c1] 24, .blk b1 [str x_c.Name, str x_c.Value, .slice x_c_p0 x_c.Attrs.length x_c_c0] 24, .shr x_d_p1 (cells enc_api_Attr x_d.Attrs), .shr x_c_p0 (cells enc_api_Attr x_c.Attrs)] := hst; ex_loadN (o := 0) (vs := [str x_d.Name, str x_d.Value, .slice x_d_p1 x_d.Attrs.length x_d_c1]) ag_24 sz_24 (hO.blkSees (i := 0) rfl) rfl rfl hf rfl | 1, _, _, _, hst, hf => have hO : Dk.Own w0 [] w [.row (.slice (σ.1) r9.Attrs.length (σ.2.1)) 31 3 r9.Attrs.length (cells enc_api_Attr r9.Attrs), .blk b2 [str x_d.Name, str x_d.Value, .slice x_d_p1 x_d.Attrs.length x_d_c1] 24, .blk b1 [str x_c.Name, str x_c.Value, .slice x_c_p0 x_c.Attrs.length x_c_c0] 24, .shr x_d_p1 (cells enc_api_Attr x_d.Attrs), .shr x_c_p0 (cells enc_api_Attr x_c.Attrs)] := hst; ex_loadN (o := 0) (vs := [str x_d.Name, str x_d.Value, .slice x_d_p1 x_d.Attrs.length x_d_c1]) ag_24 sz_24 (hO.blkSees (i := 1) rfl) rfl rfl hf rfl | 2, _, _, _, hst, hf => have hO : Dk.Own w0 [] w [.row (.slice (σ.2.2.1) r12.Attrs.length (σ.2.2.2)) 31 3 r12.Attrs.length (cells enc_api_Attr r12.Attrs), .row (.slice (σ.1) r9.Attrs.length (σ.2.1)) 31 3 r9.Attrs.length (cells enc_api_Attr r9.Attrs), .blk b2 [str x_d.Name, str x_d.Value, .slice x_d_p1 x_d.Attrs.length x_d_c1] 24, .blk b1 [str x_c.Name, str x_c.Value, .slice x_c_p0 x_c.Attrs.length x_c_c0] 24, .shr x_d_p1 (cells enc_api_Attr x_d.Attrs), .shr x_c_p0 (cells enc_api_Attr x_c.Attrs)] := hst; ex_loadN (o := 0) (vs := [str x_d.Name, str x_d.Value, .slice x_d_p1 x_d.Attrs.length x_d_c1]) ag_24 sz_24 (hO.blkSees (i := 2) rfl) rfl rfl hf rfl | 3, _, _, _, hst, hf => have hO : Dk.Own w0 [] w [.row (.slice (σ.2.2.1) r12.Attrs.length (σ.2.2.2)) 31 3 r12.Attrs.length (cells enc_api_Attr r12.Attrs), .row (.slice (σ.1) r9.Attrs.length (σ.2.1)) 31 3 r9.Attrs.length (cells enc_api_Attr r9.Attrs), .blk b2 [str x_d.Name, str x_d.Value, .slice x_d_p1 x_d.Attrs.length x_d_c1] 24, .blk b1 [str r9.Name, str r9.Value, .slice (σ.1) r9.Attrs.length (σ.2.1)] 24, .shr x_d_p1 (cells enc_api_Attr x_d.Attrs), .shr x_c_p0 (cells enc_api_Attr x_c.Attrs)] := hst; ex_loadN (o := 0) (vs := [str x_d.Name, str x_d.Value, .slice x_d_p1 x_d.Attrs.length x_d_c1]) ag_24 sz_24 (hO.blkSees (i := 2) rfl) rfl rfl hf rfl | 4, _, _, hup, _, _ => absurd (hup 1 (by decide) (by kernel_rfl)) (by decide) | k + 5, hk, _, _, _, _ => absurd hk (by simp)), ⟨sS_call rfl (fun σ => rfl) (fun σ => rfl) rfl (fun σ a w (_ : _) hf => ex_call c_8 hf (vs := [.agg #[str x_d.Name, str x_d.Value, .slice x_d_p1 x_d.Attrs.length x_d_c1]]) rfl) (fun σ w (hO : Dk.Own w0 [] w [.row (.slice (σ.1) r9.Attrs.length (σ.2.1)) 31 3 r9.Attrs.length (cells enc_api_Attr r9.Attrs), .blk b2 [str x_d.Name, str x_d.Value, .slice x_d_p1 x_d.Attrs.length x_d_c1] 24, .blk b1 [str x_c.Name, str x_c.Value, .slice x_c_p0 x_c.Attrs.length x_c_c0] 24, .shr x_d_p1 (cells enc_api_Attr x_d.Attrs), .shr x_c_p0 (cells enc_api_Attr x_c.Attrs)]) => (w_law28_few x_d r12 _ (hG.own hF hO) (hO.sees (i := 3) rfl) hc1 hr12).mono fun e w' h => by obtain ⟨p13, c14, he, hO'⟩ := h; exact ⟨((σ.1), (σ.2.1), p13, c14), he, hO.call hO' (by simp [Res.shared]), ⟨.inr rfl, ⟨.inr rfl, ⟨.inr rfl, ⟨.inl rfl, ⟨.inr rfl, ⟨.inl rfl, trivial⟩⟩⟩⟩⟩⟩⟩), ⟨sS_skip rfl (fun σ => rfl) (fun σ => rfl) rfl (fun σ w (hO : Dk.Own w0 [] w [.row (.slice (σ.2.2.1) r12.Attrs.length (σ.2.2.2)) 31 3 r12.Attrs.length (cells enc_api_Attr r12.Attrs), .row (.slice (σ.1) r9.Attrs.length (σ.2.1)) 31 3 r9.Attrs.length (cells enc_api_Attr r9.Attrs), .blk b2 [str x_d.Name, str x_d.Value, .slice x_d_p1 x_d.Attrs.length x_d_c1] 24, .blk b1 [str x_c.Name, str x_c.Value, .slice x_c_p0 x_c.Attrs.length x_c_c0] 24, .shr x_d_p1 (cells enc_api_Attr x_d.Attrs), .shr x_c_p0 (cells enc_api_Attr x_c.Attrs)]) => by obtain ⟨w', hO', hr⟩ := ef_storeN (x := (.tmp 2)) (y := (.tmp 12)) (E := [(2, ptr b1 0), (12, .agg #[str r9.Name, str r9.Value, .slice (σ.1) r9.Attrs.length (σ.2.1)])]) (i := 3) (n := 3) (vs := [str r9.Name, str r9.Value, .slice (σ.1) r9.Attrs.length (σ.2.1)]) sz_24 rfl rfl rfl (by simp [Value.oneCell']) hO rfl rfl; exact ⟨((σ.1), (σ.2.1), (σ.2.2.1), (σ.2.2.2)), w', hO', ⟨.inr rfl, ⟨.inr rfl, ⟨.inr rfl, ⟨.inr rfl, ⟨.inr rfl, ⟨.inr rfl, trivial⟩⟩⟩⟩⟩⟩, hr⟩), ⟨sS_skip rfl (fun σ => rfl) (fun σ => rfl) rfl (fun σ w (hO : Dk.Own w0 [] w [.row (.slice (σ.2.2.1) r12.Attrs.length (σ.2.2.2)) 31 3 r12.Attrs.length (cells enc_api_Attr r12.Attrs), .row (.slice (σ.1) r9.Attrs.length (σ.2.1)) 31 3 r9.Attrs.length (cells enc_api_Attr r9.Attrs), .blk b2 [str x_d.Name, str x_d.Value, .slice x_d_p1 x_d.Attrs.length x_d_c1] 24, .blk b1 [str r9.Name, str r9.Value, .slice (σ.1) r9.Attrs.length (σ.2.1)] 24, .shr x_d_p1 (cells enc_api_Attr x_d.Attrs), .shr x_c_p0 (cells enc_api_Attr x_c.Attrs)]) => by obtain ⟨w', hO', hr⟩ := ef_storeN (x := (.tmp 3)) (y := (.tmp 14)) (E := [(3, ptr b2 0), (14, .agg #[str r12.Name, str r12.Value, .slice (σ.2.2.1) r12.Attrs.length (σ.2.2.2)])]) (i := 2) (n := 3) (vs := [str r12.Name, str r12.Value, .slice (σ.2.2.1) r12.Attrs.length (σ.2.2.2)]) sz_24 rfl rfl rfl (by simp [Value.oneCell']) hO rfl rfl; exact ⟨((σ.1), (σ.2.1), (σ.2.2.1), (σ.2.2.2)), w', hO', ⟨.inr rfl, ⟨.inr rfl, ⟨.inr rfl, ⟨.inr rfl, ⟨.inr rfl, ⟨.inr rfl, trivial⟩⟩⟩⟩⟩⟩, hr⟩), trivial⟩⟩⟩⟩⟩⟩ ?_
    rintro ⟨p10, c11, p13, c14⟩ a w hf hO
    have hO : Dk.Own w0 [] w [.row (.slice p13 r12.Attrs.length c14) 31 3 r12.Attrs.length (cells enc_api_Attr r12.Attrs), .row (.slice p10 r9.Attrs.length c11) 31 3 r9.Attrs.length (cells enc_api_Attr r9.Attrs), .blk b2 [str r12.Name, str r12.Value, .slice p13 r12.Attrs.length c14] 24, .blk b1 [str r9.Name, str r9.Value, .slice p10 r9.Attrs.length c11] 24, .shr x_d_p1 (cells enc_api_Attr x_d.Attrs), .shr x_c_p0 (cells enc_api_Attr x_c.Attrs)] := hO
    have hf : Fits 42 [(2, ptr b1 0), (3, ptr b2 0)] a := (hf.cons rfl (hf.cons rfl hf.nil))
    refine nor_then (hK15 _ _ ?_)
    refine wp_seq_k fun _ hK17 => ?_
    refine wp_region_list ?_
    refine op_val (ex_loadN (o := 0) (vs := [str r9.Name, str r9.Value, .slice p10 r9.Attrs.length c11]) ag_24 sz_24 (hO.blkSees (i := 3) rfl) rfl rfl hf rfl) rfl hf rfl rfl fun a hf => ?_
    obtain ⟨r16, hr16, hm⟩ := ob hm
    refine op_enter (ex_call c_17 hf (vs := [.agg #[str r9.Name, str r9.Value, .slice p10 r9.Attrs.length c11]]) rfl) rfl hf rfl rfl (w_cookie_Text r9 r16 _ (hG.own hF hO) (hO.rowSees (i := 1) rfl) (hO.rowCap (i := 1) rfl) hr16) ?_
    rintro e w' ⟨he, hb⟩
    refine ⟨_, he, fun a hf => ?_⟩
    have hO := hO.grow hb
    refine op_val (ex_move hf rfl) rfl hf rfl rfl fun a hf => ?_
    refine op_val (ex_extract hf rfl rfl) rfl hf rfl rfl fun a hf => ?_
    refine op_val (ex_extract hf rfl rfl) rfl hf rfl rfl fun a hf => ?_
    refine op_val (ex_assign hf rfl) rfl hf rfl rfl fun a hf => ?_
    refine op_val (ex_assign hf rfl) rfl hf rfl rfl fun a hf => ?_
    refine wpList_nil ?_
    refine nor_then (hK17 _ _ ?_)
    refine wp_seq_k fun _ hK19 => ?_
    refine wp_region_list ?_
    refine op_val (ex_loadN (o := 0) (vs := [str r9.Name, str r9.Value, .slice p10 r9.Attrs.length c11]) ag_24 sz_24 (hO.blkSees (i := 3) rfl) rfl rfl hf rfl) rfl hf rfl rfl fun a hf => ?_
    obtain ⟨r18, hr18, hm⟩ := ob hm
    refine op_enter (ex_call c_18 hf (vs := [.agg #[str r9.Name, str r9.Value, .slice p10 r9.Attrs.length c11]]) rfl) rfl hf rfl rfl (w_ref28_Text r9 r18 _ (hG.own hF hO) (hO.rowSees (i := 1) rfl) (hO.rowCap (i := 1) rfl) hr18) ?_
    rintro e w' ⟨he, hb⟩
    refine ⟨_, he, fun a hf => ?_⟩
    have hO := hO.grow hb
    refine op_val (ex_move hf rfl) rfl hf rfl rfl fun a hf => ?_
    refine op_val (ex_extract hf rfl rfl) rfl hf rfl rfl fun a hf => ?_
    refine op_val (ex_extract hf rfl rfl) rfl hf rfl rfl fun a hf => ?_
    refine op_val (ex_assign hf rfl) rfl hf rfl rfl fun a hf => ?_
    refine op_val (ex_assign hf rfl) rfl hf rfl rfl fun a hf => ?_
    refine wpList_nil ?_
    refine nor_then (hK19 _ _ ?_)
    refine wp_seq_cut (fun a w => ∃ (t24 : Bool), Fits 42 [(4, .bool t24)] a ∧ Dk.Own w0 [] w [.row (.slice p13 r12.Attrs.length c14) 31 3 r12.Attrs.length (cells enc_api_Attr r12.Attrs), .row (.slice p10 r9.Attrs.length c11) 31 3 r9.Attrs.length (cells enc_api_Attr r9.Attrs), .blk b2 [str r12.Name, str r12.Value, .slice p13 r12.Attrs.length c14] 24, .blk b1 [str r9.Name, str r9.Value, .slice p10 r9.Attrs.length c11] 24, .shr x_d_p1 (cells enc_api_Attr x_d.Attrs), .shr x_c_p0 (cells enc_api_Attr x_c.Attrs)] ∧ law28_CookieWrites_j1 t24 = some R) ?_ ?_
    · refine wp_quiet (by kernel_rfl) (by kernel_rfl) hO ?_
      refine q_val (fun w hO => ex_move hf rfl) rfl hf rfl rfl fun a hf => ?_
      refine q_val (fun w hO => ex_move hf rfl) rfl hf rfl rfl fun a hf => ?_
      refine q_val (fun w hO => ex_eql_s (l := r16.1) (m := r18.1) hf rfl rfl) rfl hf rfl rfl fun a hf => ?_
      refine q_val (fun w hO => ex_move hf rfl) rfl hf rfl rfl fun a hf => ?_
      rcases bcase (r16.1 == r18.1) with hc20 | hc20
      · have hm := it hc20 hm
        refine q_guard rfl hf rfl rfl (hc20) ?_
        refine q_val (fun w hO => ex_move hf rfl) rfl hf rfl rfl fun a hf => ?_
        refine q_guard rfl hf rfl rfl (hc20) ?_
        refine q_val (fun w hO => ex_move hf rfl) rfl hf rfl rfl fun a hf => ?_
        refine q_guard rfl hf rfl rfl (hc20) ?_
        refine q_val (fun w hO => ex_eql (m := r16.2) (n := r18.2) hf rfl rfl) rfl hf rfl rfl fun a hf => ?_
        refine q_val (fun w hO => ex_pick_t hf rfl hc20 rfl) rfl hf rfl rfl fun a hf => ?_
        refine q_val (fun w hO => ex_move hf rfl) rfl hf rfl rfl fun a hf => ?_
        rcases bcase (r16.2 == r18.2) with hc21 | hc21
        · have hm := it hc21 hm
          refine q_guard rfl hf rfl rfl (hc21) ?_
          refine q_val (fun w hO => ex_loadN (o := 0) (vs := [str r9.Name, str r9.Value, .slice p10 r9.Attrs.length c11]) ag_24 sz_24 (hO.blkSees (i := 3) rfl) rfl rfl hf rfl) rfl hf rfl rfl fun a hf => ?_
          refine q_guard rfl hf rfl rfl (hc21) ?_
          refine q_val (fun w hO => ex_loadN (o := 0) (vs := [str r12.Name, str r12.Value, .slice p13 r12.Attrs.length c14]) ag_24 sz_24 (hO.blkSees (i := 2) rfl) rfl rfl hf rfl) rfl hf rfl rfl fun a hf => ?_
          refine q_guard rfl hf rfl rfl (hc21) ?_
          obtain ⟨r22, hr22, hm⟩ := ob hm
          refine q_call (fun w hO => ex_call c_16 hf (vs := [.agg #[str r9.Name, str r9.Value, .slice p10 r9.Attrs.length c11], .agg #[str r12.Name, str r12.Value, .slice p13 r12.Attrs.length c14]]) rfl) rfl hf rfl rfl (fun w hO => (w_cookie_Same r9 r12 r22 _ (hG.own hF hO) (hO.rowSees (i := 1) rfl) (hO.rowCap (i := 1) rfl) (hO.rowSees (i := 0) rfl) (hO.rowCap (i := 0) rfl) hr22).mono fun e w' ⟨he, hb⟩ => ⟨he, hO.grow hb⟩) fun a hf => ?_
          refine q_guard rfl hf rfl rfl (hc21) ?_
          refine q_val (fun w hO => ex_loadN (o := 0) (vs := [str r9.Name, str r9.Value, .slice p10 r9.Attrs.length c11]) ag_24 sz_24 (hO.blkSees (i := 3) rfl) rfl rfl hf rfl) rfl hf rfl rfl fun a hf => ?_
          refine q_guard rfl hf rfl rfl (hc21) ?_
          refine q_val (fun w hO => ex_loadN (o := 0) (vs := [str r12.Name, str r12.Value, .slice p13 r12.Attrs.length c14]) ag_24 sz_24 (hO.blkSees (i := 2) rfl) rfl rfl hf rfl) rfl hf rfl rfl fun a hf => ?_
          refine q_guard rfl hf rfl rfl (hc21) ?_
          obtain ⟨r23, hr23, hm⟩ := ob hm
          refine q_call (fun w hO => ex_call c_12 hf (vs := [.agg #[str r9.Name, str r9.Value, .slice p10 r9.Attrs.length c11], .agg #[str r12.Name, str r12.Value, .slice p13 r12.Attrs.length c14]]) rfl) rfl hf rfl rfl (fun w hO => (w_ref28_Same r9 r12 r23 _ (hG.own hF hO) (hO.rowSees (i := 1) rfl) (hO.rowCap (i := 1) rfl) (hO.rowSees (i := 0) rfl) (hO.rowCap (i := 0) rfl) hr23).mono fun e w' ⟨he, hb⟩ => ⟨he, hO.grow hb⟩) fun a hf => ?_
          refine q_guard rfl hf rfl rfl (hc21) ?_
          refine q_val (fun w hO => ex_eql_o Tryd.underlying4 hf rfl rfl) rfl hf rfl rfl fun a hf => ?_
          refine q_val (fun w hO => ex_pick_t hf rfl hc21 rfl) rfl hf rfl rfl fun a hf => ?_
          refine q_val (fun w hO => ex_assign hf rfl) rfl hf rfl rfl fun a hf => ?_
          refine wpQuiet_nil ?_
          intro w hO
          refine nor_then ?_
          exact ⟨r22 == r23, (hf.cons rfl hf.nil), hO, hm⟩
        · have hm := ie hc21 hm
          refine q_pass rfl hf rfl rfl (hc21) rfl rfl fun a hf => ?_
          refine q_pass rfl hf rfl rfl (hc21) rfl rfl fun a hf => ?_
          refine q_pass rfl hf rfl rfl (hc21) rfl rfl fun a hf => ?_
          refine q_pass rfl hf rfl rfl (hc21) rfl rfl fun a hf => ?_
          refine q_pass rfl hf rfl rfl (hc21) rfl rfl fun a hf => ?_
          refine q_pass rfl hf rfl rfl (hc21) rfl rfl fun a hf => ?_
          refine q_pass rfl hf rfl rfl (hc21) rfl rfl fun a hf => ?_
          refine q_val (fun w hO => ex_pick_f hf rfl hc21 rfl) rfl hf rfl rfl fun a hf => ?_
          refine q_val (fun w hO => ex_assign hf rfl) rfl hf rfl rfl fun a hf => ?_
          refine wpQuiet_nil ?_
          intro w hO
          refine nor_then ?_
          exact ⟨false, (hf.cons rfl hf.nil), hO, hm⟩
      · have hm := ie hc20 hm
        refine q_pass rfl hf rfl rfl (hc20) rfl rfl fun a hf => ?_
        refine q_pass rfl hf rfl rfl (hc20) rfl rfl fun a hf => ?_
        refine q_pass rfl hf rfl rfl (hc20) rfl rfl fun a hf => ?_
        refine q_val (fun w hO => ex_pick_f hf rfl hc20 rfl) rfl hf rfl rfl fun a hf => ?_
        refine q_val (fun w hO => ex_move hf rfl) rfl hf rfl rfl fun a hf => ?_
        refine q_pass rfl hf rfl rfl (rfl) rfl rfl fun a hf => ?_
        refine q_pass rfl hf rfl rfl (rfl) rfl rfl fun a hf => ?_
        refine q_pass rfl hf rfl rfl (rfl) rfl rfl fun a hf => ?_
        refine q_pass rfl hf rfl rfl (rfl) rfl rfl fun a hf => ?_
        refine q_pass rfl hf rfl rfl (rfl) rfl rfl fun a hf => ?_
        refine q_pass rfl hf rfl rfl (rfl) rfl rfl fun a hf => ?_
        refine q_pass rfl hf rfl rfl (rfl) rfl rfl fun a hf => ?_
        refine q_val (fun w hO => ex_pick_f hf rfl rfl rfl) rfl hf rfl rfl fun a hf => ?_
        refine q_val (fun w hO => ex_assign hf rfl) rfl hf rfl rfl fun a hf => ?_
        refine wpQuiet_nil ?_
        intro w hO
        refine nor_then ?_
        exact ⟨false, (hf.cons rfl hf.nil), hO, hm⟩
    · rintro a w ⟨t24, hf, hO, hm⟩
      rw [law28_CookieWrites_j1] at hm
      refine wp_ret ?_
      obtain rfl := Option.some.inj hm
      exact post_ret Tryd.results5 hf (.tmp rfl .nil) ⟨rfl, hO.below⟩

set_option maxHeartbeats 1000000 in
theorem w_stringslite_TrimPrefix (x_s : Str) (x_prefix : Str) (R : Str) (w0 : World) (hG : Glob w0) (hm : stringslite_TrimPrefix x_s x_prefix = some R) :
    Calls Tryd.prog 62 #[str x_s, str x_prefix] w0 fun e w' => e = .returned (str R) ∧ Below w0.heap.size w0 w' := by
  rw [stringslite_TrimPrefix] at hm
  refine calls_enter (vs := [str x_s, str x_prefix]) Tryd.func62 rfl Tryd.ntmps62 rfl fun a hf => ?_
  have hF : Away [] := away_nil
  have hO : Dk.Own w0 [] w0 [] := Dk.Own.refl w0
  refine wp_seq_k fun _ hK1 => ?_
  refine wp_region_list ?_
  refine op_val (ex_assign hf rfl) rfl hf rfl rfl fun a hf => ?_
  refine wpList_nil ?_
  refine nor_then (hK1 _ _ ?_)
  refine wp_seq_k fun _ hK7 => ?_
  refine wp_seq_k fun _ hK3 => ?_
  refine wp_region_list ?_
  refine op_val (ex_move hf rfl) rfl hf rfl rfl fun a hf => ?_
  refine op_val (ex_move hf rfl) rfl hf rfl rfl fun a hf => ?_
  obtain ⟨r2, hr2, hm⟩ := ob hm
  refine op_enter (ex_call c_96 hf (vs := [str x_s, str x_prefix]) rfl) rfl hf rfl rfl (w_stringslite_HasPrefix x_s x_prefix r2 _ (hG.own hF hO) hr2) ?_
  rintro e w' ⟨he, hb⟩
  refine ⟨_, he, fun a hf => ?_⟩
  have hO := hO.grow hb
  refine wpList_nil ?_
  refine nor_then (hK3 _ _ ?_)
  refine wp_cond_cut hf rfl (fun hc4 => ?_) (fun hc4 => ?_)
  · have hm := it hc4 hm
    refine wp_seq_k fun _ hK6 => ?_
    refine wp_region_list ?_
    refine op_val (ex_move hf rfl) rfl hf rfl rfl fun a hf => ?_
    refine op_val (ex_move hf rfl) rfl hf rfl rfl fun a hf => ?_
    refine op_val (ex_len_s (l := x_prefix) Tryd.underlying9 hf rfl) rfl hf rfl rfl fun a hf => ?_
    obtain ⟨s5, hs5, hm⟩ := ob hm
    refine op_val (ex_from_s (l := x_s) Tryd.underlying9 hf rfl rfl hs5) rfl hf rfl rfl fun a hf => ?_
    refine op_val (ex_assign hf rfl) rfl hf rfl rfl fun a hf => ?_
    refine wpList_nil ?_
    refine nor_then (hK6 _ _ ?_)
    refine wp_ret ?_
    refine ret_then ?_
    obtain rfl := Option.some.inj hm
    exact post_ret Tryd.results62 hf (.tmp rfl .nil) ⟨rfl, hO.below⟩
  · have hm := ie hc4 hm
    refine wp_skip ?_
    refine nor_then (hK7 _ _ ?_)
    refine wp_seq_k fun _ hK8 => ?_
    refine wp_region_list ?_
    refine op_val (ex_move hf rfl) rfl hf rfl rfl fun a hf => ?_
    refine op_val (ex_assign hf rfl) rfl hf rfl rfl fun a hf => ?_
    refine wpList_nil ?_
    refine nor_then (hK8 _ _ ?_)
    refine wp_ret ?_
    obtain rfl := Option.some.inj hm
    exact post_ret Tryd.results62 hf (.tmp rfl .nil) ⟨rfl, hO.below⟩

set_option maxHeartbeats 1000000 in
theorem w_strings_TrimPrefix (x_s : Str) (x_prefix : Str) (R : Str) (w0 : World) (hG : Glob w0) (hm : strings_TrimPrefix x_s x_prefix = some R) :
    Calls Tryd.prog 37 #[str x_s, str x_prefix] w0 fun e w' => e = .returned (str R) ∧ Below w0.heap.size w0 w' := by
  rw [strings_TrimPrefix] at hm
  refine calls_enter (vs := [str x_s, str x_prefix]) Tryd.func37 rfl Tryd.ntmps37 rfl fun a hf => ?_
  have hF : Away [] := away_nil
  have hO : Dk.Own w0 [] w0 [] := Dk.Own.refl w0
  refine wp_seq_k fun _ hK1 => ?_
  refine wp_region_list ?_
  refine op_val (ex_assign hf rfl) rfl hf rfl rfl fun a hf => ?_
  refine wpList_nil ?_
  refine nor_then (hK1 _ _ ?_)
  refine wp_seq_k fun _ hK3 => ?_
  refine wp_region_list ?_
  refine op_val (ex_move hf rfl) rfl hf rfl rfl fun a hf => ?_
  refine op_val (ex_move hf rfl) rfl hf rfl rfl fun a hf => ?_
  obtain ⟨r2, hr2, hm⟩ := ob hm
  refine op_enter (ex_call c_62 hf (vs := [str x_s, str x_prefix]) rfl) rfl hf rfl rfl (w_stringslite_TrimPrefix x_s x_prefix r2 _ (hG.own hF hO) hr2) ?_
  rintro e w' ⟨he, hb⟩
  refine ⟨_, he, fun a hf => ?_⟩
  have hO := hO.grow hb
  refine op_val (ex_assign hf rfl) rfl hf rfl rfl fun a hf => ?_
  refine wpList_nil ?_
  refine nor_then (hK3 _ _ ?_)
  refine wp_ret ?_
  obtain rfl := Option.some.inj hm
  exact post_ret Tryd.results37 hf (.tmp rfl .nil) ⟨rfl, hO.below⟩

end Go.Proofs
