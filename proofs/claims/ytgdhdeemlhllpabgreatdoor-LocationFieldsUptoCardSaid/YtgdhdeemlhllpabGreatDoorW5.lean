/-
  Walks, written by a program (wip/gen): what its model says, the function returns; what was there before is as it was.
-/
import Derived.Test.YtgdhdeemlhllpabGreatDoorLib
import Derived.Test.YtgdhdeemlhllpabGreatDoorW0
import Derived.Test.YtgdhdeemlhllpabGreatDoorW1
import Derived.Test.YtgdhdeemlhllpabGreatDoorW4
set_option linter.unusedVariables false
set_option linter.unusedSimpArgs false
set_option maxRecDepth 100000
namespace Go.Proofs
open Go.Dk Go.Dm Go.RowKit

set_option maxHeartbeats 1000000 in
theorem w_strings_CutPrefix (x_s : Str) (x_prefix : Str) (R : Str × Bool) (w0 : World) (hG : Glob w0) (hm : strings_CutPrefix x_s x_prefix = some R) :
    Calls Tryz.prog 65 #[str x_s, str x_prefix] w0 fun e w' => e = .returned (.tuple #[str R.1, .bool R.2]) ∧ Below w0.heap.size w0 w' := by
 rw [strings_CutPrefix] at hm
 refine calls_enter (vs := [str x_s, str x_prefix]) Tryz.func65 rfl Tryz.ntmps65 rfl fun a hf => ?_
 have hF : Away [] := away_nil
 have hO : Dk.Own w0 [] w0 [] := Dk.Own.refl w0
 refine wp_seq_k fun _ hK1 => ?_
 refine wp_region_list ?_
 refine op_as hf rfl rfl fun a hf => ?_
 refine op_as hf rfl rfl fun a hf => ?_
 refine wpList_nil ?_
 refine nor_then (hK1 _ _ ?_)
 refine wp_seq_k fun _ hK3 => ?_
 refine wp_region_list ?_
 refine op_mv hf rfl rfl fun a hf => ?_
 refine op_mv hf rfl rfl fun a hf => ?_
 obtain ⟨r2, hr2, hm⟩ := ob hm
 refine op_enter (ex_call c_109 hf (vs := [str x_s, str x_prefix]) rfl) rfl hf rfl rfl (w_stringslite_CutPrefix x_s x_prefix r2 _ (hG.own hF hO) hr2) ?_
 rintro e w' ⟨he, hb⟩
 refine ⟨_, he, fun a hf => ?_⟩
 have hO := hO.grow hb
 refine op_val (ex_extract hf rfl rfl) rfl hf rfl rfl fun a hf => ?_
 refine op_val (ex_extract hf rfl rfl) rfl hf rfl rfl fun a hf => ?_
 refine op_as hf rfl rfl fun a hf => ?_
 refine op_as hf rfl rfl fun a hf => ?_
 refine wpList_nil ?_
 refine nor_then (hK3 _ _ ?_)
 refine wp_ret ?_
 obtain rfl := Option.some.inj hm
 exact post_ret Tryz.results65 hf (.tmp rfl (.tmp rfl .nil)) ⟨rfl, hO.below⟩

set_option maxHeartbeats 1000000 in
theorem w_stringslite_CutSuffix (x_s : Str) (x_suffix : Str) (R : Str × Bool) (w0 : World) (hG : Glob w0) (hm : stringslite_CutSuffix x_s x_suffix = some R) :
    Calls Tryz.prog 110 #[str x_s, str x_suffix] w0 fun e w' => e = .returned (.tuple #[str R.1, .bool R.2]) ∧ Below w0.heap.size w0 w' := by
 rw [stringslite_CutSuffix] at hm
 refine calls_enter (vs := [str x_s, str x_suffix]) Tryz.func110 rfl Tryz.ntmps110 rfl fun a hf => ?_
 have hF : Away [] := away_nil
 have hO : Dk.Own w0 [] w0 [] := Dk.Own.refl w0
 refine wp_seq_k fun _ hK1 => ?_
 refine wp_region_list ?_
 refine op_as hf rfl rfl fun a hf => ?_
 refine op_as hf rfl rfl fun a hf => ?_
 refine wpList_nil ?_
 refine nor_then (hK1 _ _ ?_)
 refine wp_seq_k fun _ hK6 => ?_
 refine wp_seq_k fun _ hK3 => ?_
 refine wp_region_list ?_
 refine op_mv hf rfl rfl fun a hf => ?_
 refine op_mv hf rfl rfl fun a hf => ?_
 obtain ⟨r2, hr2, hm⟩ := ob hm
 refine op_enter (ex_call c_113 hf (vs := [str x_s, str x_suffix]) rfl) rfl hf rfl rfl (w_stringslite_HasSuffix x_s x_suffix r2 _ (hG.own hF hO) hr2) ?_
 rintro e w' ⟨he, hb⟩
 refine ⟨_, he, fun a hf => ?_⟩
 have hO := hO.grow hb
 refine op_val (ex_not hf rfl) rfl hf rfl rfl fun a hf => ?_
 refine wpList_nil ?_
 refine nor_then (hK3 _ _ ?_)
 refine wp_cond_cut hf rfl (fun hc4 => ?_) (fun hc4 => ?_)
 have hm := it hc4 hm
 refine wp_seq_k fun _ hK5 => ?_
 refine wp_region_list ?_
 refine op_mv hf rfl rfl fun a hf => ?_
 refine op_as hf rfl rfl fun a hf => ?_
 refine op_as hf rfl rfl fun a hf => ?_
 refine wpList_nil ?_
 refine nor_then (hK5 _ _ ?_)
 refine wp_ret ?_
 refine ret_then ?_
 obtain rfl := Option.some.inj hm
 exact post_ret Tryz.results110 hf (.tmp rfl (.tmp rfl .nil)) ⟨rfl, hO.below⟩
 have hm := ie hc4 hm
 refine wp_skip ?_
 refine nor_then (hK6 _ _ ?_)
 refine wp_seq_k fun _ hK9 => ?_
 refine wp_region_list ?_
 refine op_mv hf rfl rfl fun a hf => ?_
 refine op_mv hf rfl rfl fun a hf => ?_
 refine op_val (ex_len_s (l := x_s) Tryz.underlying9 hf rfl) rfl hf rfl rfl fun a hf => ?_
 refine op_mv hf rfl rfl fun a hf => ?_
 refine op_val (ex_len_s (l := x_suffix) Tryz.underlying9 hf rfl) rfl hf rfl rfl fun a hf => ?_
 obtain ⟨i7, hi7, hm⟩ := ob hm
 refine op_val (ex_sub hf rfl rfl hi7) rfl hf rfl rfl fun a hf => ?_
 obtain ⟨s8, hs8, hm⟩ := ob hm
 refine op_val (ex_to_s (l := x_s) Tryz.underlying9 hf rfl rfl hs8) rfl hf rfl rfl fun a hf => ?_
 refine op_as hf rfl rfl fun a hf => ?_
 refine op_as hf rfl rfl fun a hf => ?_
 refine wpList_nil ?_
 refine nor_then (hK9 _ _ ?_)
 refine wp_ret ?_
 obtain rfl := Option.some.inj hm
 exact post_ret Tryz.results110 hf (.tmp rfl (.tmp rfl .nil)) ⟨rfl, hO.below⟩

set_option maxHeartbeats 1000000 in
theorem w_strings_CutSuffix (x_s : Str) (x_suffix : Str) (R : Str × Bool) (w0 : World) (hG : Glob w0) (hm : strings_CutSuffix x_s x_suffix = some R) :
    Calls Tryz.prog 66 #[str x_s, str x_suffix] w0 fun e w' => e = .returned (.tuple #[str R.1, .bool R.2]) ∧ Below w0.heap.size w0 w' := by
 rw [strings_CutSuffix] at hm
 refine calls_enter (vs := [str x_s, str x_suffix]) Tryz.func66 rfl Tryz.ntmps66 rfl fun a hf => ?_
 have hF : Away [] := away_nil
 have hO : Dk.Own w0 [] w0 [] := Dk.Own.refl w0
 refine wp_seq_k fun _ hK1 => ?_
 refine wp_region_list ?_
 refine op_as hf rfl rfl fun a hf => ?_
 refine op_as hf rfl rfl fun a hf => ?_
 refine wpList_nil ?_
 refine nor_then (hK1 _ _ ?_)
 refine wp_seq_k fun _ hK3 => ?_
 refine wp_region_list ?_
 refine op_mv hf rfl rfl fun a hf => ?_
 refine op_mv hf rfl rfl fun a hf => ?_
 obtain ⟨r2, hr2, hm⟩ := ob hm
 refine op_enter (ex_call c_110 hf (vs := [str x_s, str x_suffix]) rfl) rfl hf rfl rfl (w_stringslite_CutSuffix x_s x_suffix r2 _ (hG.own hF hO) hr2) ?_
 rintro e w' ⟨he, hb⟩
 refine ⟨_, he, fun a hf => ?_⟩
 have hO := hO.grow hb
 refine op_val (ex_extract hf rfl rfl) rfl hf rfl rfl fun a hf => ?_
 refine op_val (ex_extract hf rfl rfl) rfl hf rfl rfl fun a hf => ?_
 refine op_as hf rfl rfl fun a hf => ?_
 refine op_as hf rfl rfl fun a hf => ?_
 refine wpList_nil ?_
 refine nor_then (hK3 _ _ ?_)
 refine wp_ret ?_
 obtain rfl := Option.some.inj hm
 exact post_ret Tryz.results66 hf (.tmp rfl (.tmp rfl .nil)) ⟨rfl, hO.below⟩

set_option maxHeartbeats 1000000 in
theorem w_cookie_plain (x_b : UInt8) (R : Bool) (w0 : World) (hG : Glob w0) (hm : cookie_plain x_b = some R) :
    Calls Tryz.prog 67 #[byte x_b] w0 fun e w' => e = .returned (.bool R) ∧ Below w0.heap.size w0 w' := by
 rw [cookie_plain] at hm
 refine calls_enter (vs := [byte x_b]) Tryz.func67 rfl Tryz.ntmps67 rfl fun a hf => ?_
 have hF : Away [] := away_nil
 have hO : Dk.Own w0 [] w0 [] := Dk.Own.refl w0
 refine wp_seq_k fun _ hK1 => ?_
 refine wp_region_list ?_
 refine op_as hf rfl rfl fun a hf => ?_
 refine wpList_nil ?_
 refine nor_then (hK1 _ _ ?_)
 refine wp_seq_cut (fun a w => ∃ (t5 : Bool), Fits 10 [(2, .bool t5)] a ∧ Dk.Own w0 [] w [] ∧ cookie_plain_j1 t5 = some R) ?_ ?_
 refine wp_region_list ?_
 refine op_mv hf rfl rfl fun a hf => ?_
 obtain ⟨r2, hr2, hm⟩ := ob hm
 refine op_enter (ex_call c_107 hf (vs := [byte x_b]) rfl) rfl hf rfl rfl (w_octet_IsVisible x_b r2 _ (hG.own hF hO) hr2) ?_
 rintro e w' ⟨he, hb⟩
 refine ⟨_, he, fun a hf => ?_⟩
 have hO := hO.grow hb
 refine op_mv hf rfl rfl fun a hf => ?_
 rcases bcase (r2) with hc3 | hc3
 have hm := it hc3 hm
 refine op_guard rfl hf rfl rfl (hc3) ?_
 refine op_mv hf rfl rfl fun a hf => ?_
 refine op_guard rfl hf rfl rfl (hc3) ?_
 obtain ⟨r4, hr4, hm⟩ := ob hm
 refine op_enter (ex_call c_111 hf (vs := [str [34, 44, 59, 92], byte x_b]) rfl) rfl hf rfl rfl (w_strings_IndexByte [34, 44, 59, 92] x_b r4 _ (hG.own hF hO) hr4) ?_
 rintro e w' ⟨he, hb⟩
 refine ⟨_, he, fun a hf => ?_⟩
 have hO := hO.grow hb
 refine op_guard rfl hf rfl rfl (hc3) ?_
 refine op_val (ex_lss (m := r4) (n := 0) hf rfl rfl) rfl hf rfl rfl fun a hf => ?_
 refine op_val (ex_pick_t hf rfl hc3 rfl) rfl hf rfl rfl fun a hf => ?_
 refine op_as hf rfl rfl fun a hf => ?_
 refine wpList_nil ?_
 refine nor_then ?_
 exact ⟨decide (r4 < 0), (hf.cons rfl hf.nil), hO, hm⟩
 have hm := ie hc3 hm
 refine op_pass rfl hf rfl rfl (hc3) rfl rfl fun a hf => ?_
 refine op_pass rfl hf rfl rfl (hc3) rfl rfl fun a hf => ?_
 refine op_pass rfl hf rfl rfl (hc3) rfl rfl fun a hf => ?_
 refine op_val (ex_pick_f hf rfl hc3 rfl) rfl hf rfl rfl fun a hf => ?_
 refine op_as hf rfl rfl fun a hf => ?_
 refine wpList_nil ?_
 refine nor_then ?_
 exact ⟨false, (hf.cons rfl hf.nil), hO, hm⟩
 rintro a w ⟨t5, hf, hO, hm⟩
 rw [cookie_plain_j1] at hm
 refine wp_ret ?_
 obtain rfl := Option.some.inj hm
 exact post_ret Tryz.results67 hf (.tmp rfl .nil) ⟨rfl, hO.below⟩

set_option maxHeartbeats 1000000 in
theorem w_cookie_value (x_s : Str) (R : Bool) (w0 : World) (hG : Glob w0) (hm : cookie_value x_s = some R) :
    Calls Tryz.prog 31 #[str x_s] w0 fun e w' => e = .returned (.bool R) ∧ Below w0.heap.size w0 w' := by
 rw [cookie_value] at hm
 refine calls_enter (vs := [str x_s]) Tryz.func31 rfl Tryz.ntmps31 rfl fun a hf => ?_
 have hF : Away [] := away_nil
 have hO : Dk.Own w0 [] w0 [] := Dk.Own.refl w0
 refine wp_seq_k fun _ hK1 => ?_
 refine wp_region_list ?_
 refine op_as hf rfl rfl fun a hf => ?_
 refine wpList_nil ?_
 refine nor_then (hK1 _ _ ?_)
 refine wp_seq_k fun _ hK3 => ?_
 refine wp_region_list ?_
 refine op_mv hf rfl rfl fun a hf => ?_
 obtain ⟨r2, hr2, hm⟩ := ob hm
 refine op_enter (ex_call c_65 hf (vs := [str x_s, str [34]]) rfl) rfl hf rfl rfl (w_strings_CutPrefix x_s [34] r2 _ (hG.own hF hO) hr2) ?_
 rintro e w' ⟨he, hb⟩
 refine ⟨_, he, fun a hf => ?_⟩
 have hO := hO.grow hb
 refine op_mv hf rfl rfl fun a hf => ?_
 refine op_val (ex_extract hf rfl rfl) rfl hf rfl rfl fun a hf => ?_
 refine op_val (ex_extract hf rfl rfl) rfl hf rfl rfl fun a hf => ?_
 refine op_as hf rfl rfl fun a hf => ?_
 refine op_as hf rfl rfl fun a hf => ?_
 refine wpList_nil ?_
 refine nor_then (hK3 _ _ ?_)
 refine wp_seq_k fun _ hK5 => ?_
 refine wp_region_list ?_
 refine op_mv hf rfl rfl fun a hf => ?_
 obtain ⟨r4, hr4, hm⟩ := ob hm
 refine op_enter (ex_call c_66 hf (vs := [str r2.1, str [34]]) rfl) rfl hf rfl rfl (w_strings_CutSuffix r2.1 [34] r4 _ (hG.own hF hO) hr4) ?_
 rintro e w' ⟨he, hb⟩
 refine ⟨_, he, fun a hf => ?_⟩
 have hO := hO.grow hb
 refine op_mv hf rfl rfl fun a hf => ?_
 refine op_val (ex_extract hf rfl rfl) rfl hf rfl rfl fun a hf => ?_
 refine op_val (ex_extract hf rfl rfl) rfl hf rfl rfl fun a hf => ?_
 refine op_as hf rfl rfl fun a hf => ?_
 refine op_as hf rfl rfl fun a hf => ?_
 refine wpList_nil ?_
 refine nor_then (hK5 _ _ ?_)
 refine wp_seq_cut (fun a w => ∃ (t9 : Bool), Fits 24 [(2, .bool t9)] a ∧ Dk.Own w0 [] w [] ∧ cookie_value_j1 t9 = some R) ?_ ?_
 refine wp_region_list ?_
 refine op_mv hf rfl rfl fun a hf => ?_
 refine op_mv hf rfl rfl fun a hf => ?_
 refine op_val (ex_eql_o Tryz.underlying4 hf rfl rfl) rfl hf rfl rfl fun a hf => ?_
 refine op_mv hf rfl rfl fun a hf => ?_
 rcases bcase (r2.2 == r4.2) with hc6 | hc6
 have hm := it hc6 hm
 refine op_guard rfl hf rfl rfl (hc6) ?_
 refine op_mv hf rfl rfl fun a hf => ?_
 refine op_guard rfl hf rfl rfl (hc6) ?_
 refine op_buildSlice (vs := [(0, str r4.1)]) (cs := [str r4.1]) (e := 9) (sz := 1) hf rfl rfl (fun w => by kernel_rfl) rfl rfl hO fun a b7 w hf hO => ?_
 refine op_guard rfl hf rfl rfl (hc6) ?_
 obtain ⟨r8, hr8, hm⟩ := ob hm
 refine op_enter (ex_call c_63 hf (vs := [.func (.func 67) #[] #[], .slice (some ⟨b7, 0, none⟩) (([r4.1] : List Str).length) 1]) rfl) rfl hf rfl rfl (w_octet_All cookie_plain ([r4.1] : List Str) r8 _ (hG.own hF hO) c_67 (fun y0 r w hG h => callsE (w_cookie_plain y0 r w hG h)) (hO.rowSees (i := 0) rfl) (hO.rowCap (i := 0) rfl) hr8) ?_
 rintro e w' ⟨he, hb⟩
 refine ⟨_, he, fun a hf => ?_⟩
 have hO := hO.grow hb
 refine op_val (ex_pick_t hf rfl hc6 rfl) rfl hf rfl rfl fun a hf => ?_
 refine op_as hf rfl rfl fun a hf => ?_
 refine wpList_nil ?_
 refine nor_then ?_
 exact ⟨r8, (hf.cons rfl hf.nil), (hO.sub (.cons _ .slnil)), hm⟩
 have hm := ie hc6 hm
 refine op_pass rfl hf rfl rfl (hc6) rfl rfl fun a hf => ?_
 refine op_pass rfl hf rfl rfl (hc6) rfl rfl fun a hf => ?_
 refine op_pass rfl hf rfl rfl (hc6) rfl rfl fun a hf => ?_
 refine op_val (ex_pick_f hf rfl hc6 rfl) rfl hf rfl rfl fun a hf => ?_
 refine op_as hf rfl rfl fun a hf => ?_
 refine wpList_nil ?_
 refine nor_then ?_
 exact ⟨false, (hf.cons rfl hf.nil), hO, hm⟩
 rintro a w ⟨t9, hf, hO, hm⟩
 rw [cookie_value_j1] at hm
 refine wp_ret ?_
 obtain rfl := Option.some.inj hm
 exact post_ret Tryz.results31 hf (.tmp rfl .nil) ⟨rfl, hO.below⟩

set_option maxHeartbeats 1000000 in
theorem w_cookie_Parse (x_s : Str) (R : api_Cookie × Int) (w0 : World) (hG : Glob w0) (hm : cookie_Parse x_s = some R) :
    Calls Tryz.prog 11 #[str x_s] w0 fun e w' => ∃ (p0 : Option Addr) (c0 : Nat), e = .returned (.tuple #[.agg #[str R.1.Name, str R.1.Value, .slice p0 R.1.Attrs.length c0], int R.2]) ∧ Dk.Own w0 [] w' [.row (.slice p0 R.1.Attrs.length c0) 64 3 R.1.Attrs.length (cells enc_api_Attr R.1.Attrs)] := by
 rw [cookie_Parse] at hm
 refine calls_enter (vs := [str x_s]) Tryz.func11 rfl Tryz.ntmps11 rfl fun a hf => ?_
 have hF : Away [] := away_nil
 have hO : Dk.Own w0 [] w0 [] := Dk.Own.refl w0
 refine wp_seq_k fun _ hK2 => ?_
 refine wp_region_list ?_
 refine op_alloc al_31 hf rfl hO fun a b1 w hf hO => ?_
 have hO := hO.nilRow 64 3
 refine op_as hf rfl rfl fun a hf => ?_
 refine wpList_nil ?_
 refine nor_then (hK2 _ _ ?_)
 refine wp_seq_k fun _ hK6 => ?_
 refine wp_region_list ?_
 refine op_mv hf rfl rfl fun a hf => ?_
 obtain ⟨r3, hr3, hm⟩ := ob hm
 refine op_enter (ex_call c_29 hf (vs := [str x_s, str [59]]) rfl) rfl hf rfl rfl (w_strings_Split x_s [59] r3 _ (hG.own hF hO) hr3) ?_
 rintro e w' ⟨p4, c5, he, hO'⟩
 refine ⟨_, he, fun a hf => ?_⟩
 have hO := hO.call hO' (by simp [Res.shared])
 refine op_as hf rfl rfl fun a hf => ?_
 refine wpList_nil ?_
 refine nor_then (hK6 _ _ ?_)
 refine wp_seq_k fun _ hK12 => ?_
 refine wp_region_list ?_
 refine op_mv hf rfl rfl fun a hf => ?_
 obtain ⟨x7, hx7, hm⟩ := ob hm
 obtain ⟨b8, o9, hix7, hSx7, hAx7⟩ := elemAtRow (enc := enc_str) (sz := 1) (xs := r3) 61 Tryz.underlying61 sz_9 (by decide) (fun _ => rfl) hO (i := 0) rfl hx7
 refine op_val (ex_indexAddr hix7 hf rfl rfl) rfl hf rfl rfl fun a hf => ?_
 refine op_val (ex_load1 (o := 0) ag_9 (hSx7 _ (hO.rowSees (i := 0) rfl)) rfl hf rfl) rfl hf rfl rfl fun a hf => ?_
 obtain ⟨r10, hr10, hm⟩ := ob hm
 refine op_enter (ex_call c_30 hf (vs := [str x7]) rfl) rfl hf rfl rfl (w_cookie_part x7 r10 _ (hG.own hF hO) hr10) ?_
 rintro e w' ⟨he, hb⟩
 refine ⟨_, he, fun a hf => ?_⟩
 have hO := hO.grow hb
 refine op_mv hf rfl rfl fun a hf => ?_
 refine op_val (ex_extract hf rfl rfl) rfl hf rfl rfl fun a hf => ?_
 refine op_val (ex_extract hf rfl rfl) rfl hf rfl rfl fun a hf => ?_
 refine op_alloc al_64 hf rfl hO fun a b11 w hf hO => ?_
 refine op_storeN (i := 0) (n := 3) sz_64 rfl rfl rfl (by simp [Value.oneCell']) hf rfl rfl hO fun w hO => ?_
 refine op_as hf rfl rfl fun a hf => ?_
 refine wpList_nil ?_
 refine nor_then (hK12 _ _ ?_)
 refine wp_seq_k fun _ hK19 => ?_
 refine wp_seq_cut (fun a w => ∃ (t16 : Bool), Fits 63 [(2, ptr b1 0), (4, .slice p4 r3.length c5), (5, ptr b11 0), (33, .bool t16)] a ∧ Dk.Own w0 [] w [.blk b11 [str r10.1.Name, str r10.1.Value, .bool r10.1.Has] 64, .row (.slice p4 r3.length c5) 9 1 r3.length (cells enc_str r3), .row (.slice none 0 0) 64 3 0 (cells enc_api_Attr []), .blk b1 [str [], str [], .slice none 0 0] 31] ∧ cookie_Parse_j1 r3 r10 t16 = some R) ?_ ?_
 refine wp_region_list ?_
 refine op_mv hf rfl rfl fun a hf => ?_
 refine op_val (ex_not hf rfl) rfl hf rfl rfl fun a hf => ?_
 refine op_mv hf rfl rfl fun a hf => ?_
 rcases bcase (!r10.2) with hc13 | hc13
 have hm := it hc13 hm
 refine op_pass rfl hf rfl rfl (hc13) rfl rfl fun a hf => ?_
 refine op_pass rfl hf rfl rfl (hc13) rfl rfl fun a hf => ?_
 refine op_pass rfl hf rfl rfl (hc13) rfl rfl fun a hf => ?_
 refine op_val (ex_pick_t hf rfl hc13 rfl) rfl hf rfl rfl fun a hf => ?_
 refine op_mv hf rfl rfl fun a hf => ?_
 refine op_pass rfl hf rfl rfl (rfl) rfl rfl fun a hf => ?_
 refine op_pass rfl hf rfl rfl (rfl) rfl rfl fun a hf => ?_
 refine op_pass rfl hf rfl rfl (rfl) rfl rfl fun a hf => ?_
 refine op_pass rfl hf rfl rfl (rfl) rfl rfl fun a hf => ?_
 refine op_val (ex_pick_t hf rfl rfl rfl) rfl hf rfl rfl fun a hf => ?_
 refine wpList_nil ?_
 refine nor_then ?_
 exact ⟨true, (hf.cons rfl (hf.cons rfl (hf.cons rfl (hf.cons rfl hf.nil)))), hO, hm⟩
 have hm := ie hc13 hm
 refine op_guard rfl hf rfl rfl (hc13) ?_
 refine op_val (ex_field fa_64_2 hf rfl) rfl hf rfl rfl fun a hf => ?_
 refine op_guard rfl hf rfl rfl (hc13) ?_
 refine op_val (ex_load1 (o := 2) ag_4 (hO.blkSees (i := 0) rfl) rfl hf rfl) rfl hf rfl rfl fun a hf => ?_
 refine op_guard rfl hf rfl rfl (hc13) ?_
 refine op_val (ex_not hf rfl) rfl hf rfl rfl fun a hf => ?_
 refine op_val (ex_pick_f hf rfl hc13 rfl) rfl hf rfl rfl fun a hf => ?_
 refine op_mv hf rfl rfl fun a hf => ?_
 rcases bcase (!r10.1.Has) with hc14 | hc14
 have hm := it hc14 hm
 refine op_pass rfl hf rfl rfl (hc14) rfl rfl fun a hf => ?_
 refine op_pass rfl hf rfl rfl (hc14) rfl rfl fun a hf => ?_
 refine op_pass rfl hf rfl rfl (hc14) rfl rfl fun a hf => ?_
 refine op_pass rfl hf rfl rfl (hc14) rfl rfl fun a hf => ?_
 refine op_val (ex_pick_t hf rfl hc14 rfl) rfl hf rfl rfl fun a hf => ?_
 refine wpList_nil ?_
 refine nor_then ?_
 exact ⟨true, (hf.cons rfl (hf.cons rfl (hf.cons rfl (hf.cons rfl hf.nil)))), hO, hm⟩
 have hm := ie hc14 hm
 refine op_guard rfl hf rfl rfl (hc14) ?_
 refine op_val (ex_field fa_64_1 hf rfl) rfl hf rfl rfl fun a hf => ?_
 refine op_guard rfl hf rfl rfl (hc14) ?_
 refine op_val (ex_load1 (o := 1) ag_9 (hO.blkSees (i := 0) rfl) rfl hf rfl) rfl hf rfl rfl fun a hf => ?_
 refine op_guard rfl hf rfl rfl (hc14) ?_
 obtain ⟨r15, hr15, hm⟩ := ob hm
 refine op_enter (ex_call c_31 hf (vs := [str r10.1.Value]) rfl) rfl hf rfl rfl (w_cookie_value r10.1.Value r15 _ (hG.own hF hO) hr15) ?_
 rintro e w' ⟨he, hb⟩
 refine ⟨_, he, fun a hf => ?_⟩
 have hO := hO.grow hb
 refine op_guard rfl hf rfl rfl (hc14) ?_
 refine op_val (ex_not hf rfl) rfl hf rfl rfl fun a hf => ?_
 refine op_val (ex_pick_f hf rfl hc14 rfl) rfl hf rfl rfl fun a hf => ?_
 refine wpList_nil ?_
 refine nor_then ?_
 exact ⟨!r15, (hf.cons rfl (hf.cons rfl (hf.cons rfl (hf.cons rfl hf.nil)))), hO, hm⟩
 rintro a w ⟨t16, hf, hO, hm⟩
 rw [cookie_Parse_j1] at hm
 refine wp_cond_cut hf rfl (fun hc17 => ?_) (fun hc17 => ?_)
 have hm := it hc17 hm
 refine wp_seq_k fun _ hK18 => ?_
 refine wp_region_list ?_
 refine op_val (ex_build (vs := []) (v := .agg #[str [], str [], .slice none 0 0]) hf rfl (by kernel_rfl)) rfl hf rfl rfl fun a hf => ?_
 refine op_storeN (i := 3) (n := 3) sz_31 rfl rfl rfl (by simp [Value.oneCell']) hf rfl rfl hO fun w hO => ?_
 have hO := hO.nilRow 64 3
 refine op_as hf rfl rfl fun a hf => ?_
 refine wpList_nil ?_
 refine nor_then (hK18 _ _ ?_)
 refine wp_ret ?_
 refine ret_then ?_
 obtain rfl := Option.some.inj hm
 exact post_ret Tryz.results11 hf (.cell rfl (run_loadVarN (n := 3) (vs := [str [], str [], .slice none 0 0]) ag_31 sz_31 rfl ((hO.blkSees (i := 4) rfl).cells (o := 0) (n := 3) rfl)) (.tmp rfl .nil)) ⟨none, 0, rfl, (hO.sub (.cons_cons _ (.cons _ (.cons _ (.cons _ (.cons _ .slnil))))))⟩
 have hm := ie hc17 hm
 refine wp_skip ?_
 refine nor_then (hK19 _ _ ?_)
 refine wp_seq_k fun _ hK21 => ?_
 refine wp_region_list ?_
 refine op_val (ex_field fa_64_0 hf rfl) rfl hf rfl rfl fun a hf => ?_
 refine op_val (ex_load1 (o := 0) ag_9 (hO.blkSees (i := 0) rfl) rfl hf rfl) rfl hf rfl rfl fun a hf => ?_
 refine op_val (ex_field fa_64_1 hf rfl) rfl hf rfl rfl fun a hf => ?_
 refine op_val (ex_load1 (o := 1) ag_9 (hO.blkSees (i := 0) rfl) rfl hf rfl) rfl hf rfl rfl fun a hf => ?_
 refine op_val (ex_build (vs := [(0, str r10.1.Name), (1, str r10.1.Value)]) (v := .agg #[str r10.1.Name, str r10.1.Value, .slice none 0 0]) hf rfl (by kernel_rfl)) rfl hf rfl rfl fun a hf => ?_
 refine op_alloc al_31 hf rfl hO fun a b20 w hf hO => ?_
 have hO := hO.nilRow 64 3
 refine op_storeN (i := 1) (n := 3) sz_31 rfl rfl rfl (by simp [Value.oneCell']) hf rfl rfl hO fun w hO => ?_
 have hO := hO.nilRow 64 3
 refine wpList_nil ?_
 refine nor_then (hK21 _ _ ?_)
 refine wp_seq_cut (fun a w => ∃ (s53 : Str) (s54 : Str) (p55 : Option Addr) (c56 : Nat) (l57 : List api_Attr), Fits 63 [(2, ptr b1 0), (7, ptr b20 0)] a ∧ Dk.Own w0 [] w [.row (.slice p55 l57.length c56) 64 3 l57.length (cells enc_api_Attr l57), .row (.slice none 0 0) 64 3 0 (cells enc_api_Attr []), .blk b20 [str s53, str s54, .slice p55 l57.length c56] 31, .blk b11 [str r10.1.Name, str r10.1.Value, .bool r10.1.Has] 64, .shr p4 (cells enc_str r3), .row (.slice none 0 0) 64 3 0 (cells enc_api_Attr []), .blk b1 [str [], str [], .slice none 0 0] 31] ∧ cookie_Parse_j3 s53 s54 l57 = some R) ?_ ?_
 refine wp_seq_k fun _ hK26 => ?_
 refine wp_region_list ?_
 refine op_mv hf rfl rfl fun a hf => ?_
 obtain ⟨l23, hl23, hm⟩ := ob hm
 have hcr22 := hO.rowCap (i := 4) rfl
 have hO := hO.giveRow (i := 4) rfl
 obtain ⟨p24, c25, hrl23, hVl23, hCl23, hPl23⟩ := sliceFrom (enc := enc_str) (xs := r3) 61 Tryz.underlying61 sz_9 (fun _ => rfl) (hO.sees (i := 4) rfl) hcr22 hl23
 have hO := hO.share (i := 4) rfl hPl23 (hVl23 _ (hO.sees (i := 4) rfl))
 refine op_val (ex_sliceFrom Tryz.underlying61 hrl23 hf rfl rfl) rfl hf rfl rfl fun a hf => ?_
 refine op_val (ex_len_l Tryz.underlying61 hf rfl) rfl hf rfl rfl fun a hf => ?_
 refine op_mv hf rfl rfl fun a hf => ?_
 refine wpList_nil ?_
 refine nor_then (hK26 _ _ ?_)
 refine wp_block ?_
 refine wp_loop_n (fun k a w => ∃ (p27 : Option Addr) (c28 : Nat) (l29 : List api_Attr) (s30 : Str) (s31 : Str) (i32 : Int), Fits 63 [(2, ptr b1 0), (7, ptr b20 0), (41, .slice p24 l23.length c25), (42, int (l23.length : Int)), (43, int i32)] a ∧ Dk.Own w0 [] w [.shr p24 (cells enc_str l23), .row (.slice p27 l29.length c28) 64 3 l29.length (cells enc_api_Attr l29), .row (.slice none 0 0) 64 3 0 (cells enc_api_Attr []), .blk b20 [str s30, str s31, .slice p27 l29.length c28] 31, .blk b11 [str r10.1.Name, str r10.1.Value, .bool r10.1.Has] 64, .shr p4 (cells enc_str r3), .row (.slice none 0 0) 64 3 0 (cells enc_api_Attr []), .blk b1 [str [], str [], .slice none 0 0] 31] ∧ cookie_Parse_L2 l23 k l29 s30 s31 i32 = some R) ?_ fuel ?_
 rintro n2 a w ⟨p27, c28, l29, s30, s31, i32, hf, hO, hm⟩
 obtain _ | n2 := n2
 rw [cookie_Parse_L2] at hm
 cases hm
 rw [cookie_Parse_L2] at hm
 refine wp_seq_k fun _ hK33 => ?_
 refine wp_region_list ?_
 refine op_val (ex_lss (m := i32) (n := (l23.length : Int)) hf rfl rfl) rfl hf rfl rfl fun a hf => ?_
 refine wpList_nil ?_
 refine nor_then (hK33 _ _ ?_)
 refine wp_seq_k fun _ hK35 => ?_
 refine wp_cond_cut hf rfl (fun hc34 => ?_) (fun hc34 => ?_)
 have hm := it hc34 hm
 refine wp_skip ?_
 refine nor_then (hK35 _ _ ?_)
 refine wp_seq_k fun _ hK51 => ?_
 refine wp_block ?_
 refine wp_seq_k fun _ hK39 => ?_
 refine wp_region_list ?_
 obtain ⟨x36, hx36, hm⟩ := ob hm
 obtain ⟨b37, o38, hix36, hSx36⟩ := elemAt (enc := enc_str) (sz := 1) (xs := l23) 61 Tryz.underlying61 sz_9 (by decide) (fun _ => rfl) (hO.sees (i := 0) rfl) hx36
 refine op_val (ex_indexAddr hix36 hf rfl rfl) rfl hf rfl rfl fun a hf => ?_
 refine op_val (ex_load1 (o := 0) ag_9 (hSx36 _ (hO.sees (i := 0) rfl)) rfl hf rfl) rfl hf rfl rfl fun a hf => ?_
 refine op_as hf rfl rfl fun a hf => ?_
 refine wpList_nil ?_
 refine nor_then (hK39 _ _ ?_)
 refine wp_seq_k fun _ hK42 => ?_
 refine wp_region_list ?_
 refine op_mv hf rfl rfl fun a hf => ?_
 obtain ⟨r40, hr40, hm⟩ := ob hm
 refine op_enter (ex_call c_30 hf (vs := [str x36]) rfl) rfl hf rfl rfl (w_cookie_part x36 r40 _ (hG.own hF hO) hr40) ?_
 rintro e w' ⟨he, hb⟩
 refine ⟨_, he, fun a hf => ?_⟩
 have hO := hO.grow hb
 refine op_mv hf rfl rfl fun a hf => ?_
 refine op_val (ex_extract hf rfl rfl) rfl hf rfl rfl fun a hf => ?_
 refine op_val (ex_extract hf rfl rfl) rfl hf rfl rfl fun a hf => ?_
 refine op_alloc al_64 hf rfl hO fun a b41 w hf hO => ?_
 refine op_storeN (i := 0) (n := 3) sz_64 rfl rfl rfl (by simp [Value.oneCell']) hf rfl rfl hO fun w hO => ?_
 refine op_as hf rfl rfl fun a hf => ?_
 refine wpList_nil ?_
 refine nor_then (hK42 _ _ ?_)
 refine wp_seq_k fun _ hK46 => ?_
 refine wp_seq_k fun _ hK43 => ?_
 refine wp_region_list ?_
 refine op_mv hf rfl rfl fun a hf => ?_
 refine op_val (ex_not hf rfl) rfl hf rfl rfl fun a hf => ?_
 refine wpList_nil ?_
 refine nor_then (hK43 _ _ ?_)
 refine wp_cond_cut hf rfl (fun hc44 => ?_) (fun hc44 => ?_)
 have hm := it hc44 hm
 refine wp_seq_k fun _ hK45 => ?_
 refine wp_region_list ?_
 refine op_val (ex_build (vs := []) (v := .agg #[str [], str [], .slice none 0 0]) hf rfl (by kernel_rfl)) rfl hf rfl rfl fun a hf => ?_
 refine op_storeN (i := 8) (n := 3) sz_31 rfl rfl rfl (by simp [Value.oneCell']) hf rfl rfl hO fun w hO => ?_
 have hO := hO.nilRow 64 3
 refine op_as hf rfl rfl fun a hf => ?_
 refine wpList_nil ?_
 refine nor_then (hK45 _ _ ?_)
 refine wp_ret ?_
 refine ret_then ?_
 refine ret_block ?_
 refine ret_then ?_
 refine ret_then ?_
 refine ret_block ?_
 refine ret_then ?_
 obtain rfl := Option.some.inj hm
 exact post_ret Tryz.results11 hf (.cell rfl (run_loadVarN (n := 3) (vs := [str [], str [], .slice none 0 0]) ag_31 sz_31 rfl ((hO.blkSees (i := 9) rfl).cells (o := 0) (n := 3) rfl)) (.tmp rfl .nil)) ⟨none, 0, rfl, (hO.sub (.cons_cons _ (.cons _ (.cons _ (.cons _ (.cons _ (.cons _ (.cons _ (.cons _ (.cons _ (.cons _ .slnil)))))))))))⟩
 have hm := ie hc44 hm
 refine wp_skip ?_
 refine nor_then (hK46 _ _ ?_)
 refine wp_region_list ?_
 refine op_val (ex_field fa_31_2 hf rfl) rfl hf rfl rfl fun a hf => ?_
 refine op_val (ex_load1 (o := 2) ag_29 (hO.blkSees (i := 4) rfl) rfl hf rfl) rfl hf rfl rfl fun a hf => ?_
 refine op_val (ex_loadN (o := 0) (vs := [str r40.1.Name, str r40.1.Value, .bool r40.1.Has]) ag_64 sz_64 (hO.blkSees (i := 0) rfl) rfl rfl hf rfl) rfl hf rfl rfl fun a hf => ?_
 refine op_buildSlice (vs := [(0, .agg #[str r40.1.Name, str r40.1.Value, .bool r40.1.Has])]) (cs := [str r40.1.Name, str r40.1.Value, .bool r40.1.Has]) (e := 64) (sz := 3) hf rfl rfl (fun w => by kernel_rfl) rfl rfl hO fun a b47 w hf hO => ?_
 obtain ⟨hg50, hm⟩ := og hm
 refine op_appendT el_29 (enc := enc_api_Attr) (xs := l29) (ys := [r40.1]) (i := 3) (fun _ => rfl) rfl (hO.rowSees (i := 0) rfl) (by simp [cells, enc_api_Attr, Value.oneCell']) hg50 hf rfl rfl rfl hO fun a p48 c49 w hf hO => ?_
 refine op_val (ex_field fa_31_2 hf rfl) rfl hf rfl rfl fun a hf => ?_
 refine op_store1 (i := 5) (o := 2) (v := .slice p48 ((l29 ++ [r40.1]).length) c49) sz_29 rfl rfl rfl rfl hf rfl rfl hO fun w hO => ?_
 refine wpList_nil ?_
 refine nor_block ?_
 refine nor_then (hK51 _ _ ?_)
 refine wp_region_list ?_
 obtain ⟨i52, hi52, hm⟩ := ob hm
 refine op_val (ex_add hf rfl rfl hi52) rfl hf rfl rfl fun a hf => ?_
 refine op_mv hf rfl rfl fun a hf => ?_
 refine wpList_nil ?_
 refine nor_then ?_
 exact ⟨_, Nat.lt_succ_self _, p48, c49, l29 ++ [r40.1], s30, s31, i52, (hf.cons rfl (hf.cons rfl (hf.cons rfl (hf.cons rfl (hf.cons rfl hf.nil))))), (hO.sub (.cons _ (.cons _ (.cons_cons _ (.cons_cons _ (.cons_cons _ (.cons_cons _ (.cons_cons _ (.cons_cons _ (.cons_cons _ (.cons_cons _ .slnil))))))))))), hm⟩
 have hm := ie hc34 hm
 refine wp_exit ?_
 refine exit_then ?_
 refine exit_then ?_
 refine exit_here ?_
 refine nor_then ?_
 exact ⟨s30, s31, p27, c28, l29, (hf.cons rfl (hf.cons rfl hf.nil)), (hO.sub (.cons _ (.cons_cons _ (.cons_cons _ (.cons_cons _ (.cons_cons _ (.cons_cons _ (.cons_cons _ (.cons_cons _ .slnil))))))))), hm⟩
 exact ⟨none, 0, [], r10.1.Name, r10.1.Value, 0, (hf.cons rfl (hf.cons rfl (hf.cons rfl (hf.cons rfl (hf.cons rfl hf.nil))))), hO, hm⟩
 rintro a w ⟨s53, s54, p55, c56, l57, hf, hO, hm⟩
 rw [cookie_Parse_j3] at hm
 refine wp_seq_k fun _ hK58 => ?_
 refine wp_region_list ?_
 refine op_val (ex_loadN (o := 0) (vs := [str s53, str s54, .slice p55 l57.length c56]) ag_31 sz_31 (hO.blkSees (i := 2) rfl) rfl rfl hf rfl) rfl hf rfl rfl fun a hf => ?_
 refine op_storeN (i := 6) (n := 3) sz_31 rfl rfl rfl (by simp [Value.oneCell']) hf rfl rfl hO fun w hO => ?_
 refine op_as hf rfl rfl fun a hf => ?_
 refine wpList_nil ?_
 refine nor_then (hK58 _ _ ?_)
 refine wp_ret ?_
 obtain rfl := Option.some.inj hm
 exact post_ret Tryz.results11 hf (.cell rfl (run_loadVarN (n := 3) (vs := [str s53, str s54, .slice p55 l57.length c56]) ag_31 sz_31 rfl ((hO.blkSees (i := 6) rfl).cells (o := 0) (n := 3) rfl)) (.tmp rfl .nil)) ⟨p55, c56, rfl, (hO.sub (.cons_cons _ (.cons _ (.cons _ (.cons _ (.cons _ (.cons _ (.cons _ .slnil))))))))⟩

set_option maxHeartbeats 1000000 in
theorem w_octet_Same (x_a : Str) (x_b : Str) (R : Bool) (w0 : World) (hG : Glob w0) (hm : octet_Same x_a x_b = some R) :
    Calls Tryz.prog 54 #[str x_a, str x_b] w0 fun e w' => e = .returned (.bool R) ∧ Below w0.heap.size w0 w' := by
 rw [octet_Same] at hm
 refine calls_enter (vs := [str x_a, str x_b]) Tryz.func54 rfl Tryz.ntmps54 rfl fun a hf => ?_
 have hF : Away [] := away_nil
 have hO : Dk.Own w0 [] w0 [] := Dk.Own.refl w0
 refine wp_seq_k fun _ hK1 => ?_
 refine wp_region_list ?_
 refine op_as hf rfl rfl fun a hf => ?_
 refine wpList_nil ?_
 refine nor_then (hK1 _ _ ?_)
 refine wp_seq_k fun _ hK4 => ?_
 refine wp_region_list ?_
 refine op_mv hf rfl rfl fun a hf => ?_
 obtain ⟨r2, hr2, hm⟩ := ob hm
 refine op_enter (ex_call c_40 hf (vs := [str x_a]) rfl) rfl hf rfl rfl (w_octet_Fold x_a r2 _ (hG.own hF hO) hr2) ?_
 rintro e w' ⟨he, hb⟩
 refine ⟨_, he, fun a hf => ?_⟩
 have hO := hO.grow hb
 refine op_mv hf rfl rfl fun a hf => ?_
 obtain ⟨r3, hr3, hm⟩ := ob hm
 refine op_enter (ex_call c_40 hf (vs := [str x_b]) rfl) rfl hf rfl rfl (w_octet_Fold x_b r3 _ (hG.own hF hO) hr3) ?_
 rintro e w' ⟨he, hb⟩
 refine ⟨_, he, fun a hf => ?_⟩
 have hO := hO.grow hb
 refine op_val (ex_eql_s (l := r2) (m := r3) hf rfl rfl) rfl hf rfl rfl fun a hf => ?_
 refine op_as hf rfl rfl fun a hf => ?_
 refine wpList_nil ?_
 refine nor_then (hK4 _ _ ?_)
 refine wp_ret ?_
 obtain rfl := Option.some.inj hm
 exact post_ret Tryz.results54 hf (.tmp rfl .nil) ⟨rfl, hO.below⟩

set_option maxHeartbeats 1000000 in
theorem w_cookie_last (x_c : api_Cookie) (x_name : Str) (R : Int) (w0 : World) (hG : Glob w0) {x_c_p0 : Option Addr} {x_c_c0 : Nat} (hs0 : Sees w0 x_c_p0 (cells enc_api_Attr x_c.Attrs)) (hc0 : x_c.Attrs.length ≤ x_c_c0) (hm : cookie_last x_c x_name = some R) :
    Calls Tryz.prog 32 #[.agg #[str x_c.Name, str x_c.Value, .slice x_c_p0 x_c.Attrs.length x_c_c0], str x_name] w0 fun e w' => e = .returned (int R) ∧ Below w0.heap.size w0 w' := by
 rw [cookie_last] at hm
 refine calls_enter (vs := [.agg #[str x_c.Name, str x_c.Value, .slice x_c_p0 x_c.Attrs.length x_c_c0], str x_name]) Tryz.func32 rfl Tryz.ntmps32 rfl fun a hf => ?_
 have hF : Away [] := away_nil
 have hO : Dk.Own w0 [] w0 [] := Dk.Own.refl w0
 have hO := hO.addShr hs0 (by simp [Res.shared])
 refine wp_seq_k fun _ hK2 => ?_
 refine wp_region_list ?_
 refine op_box (v := .agg #[str x_c.Name, str x_c.Value, .slice x_c_p0 x_c.Attrs.length x_c_c0]) (cs := [str x_c.Name, str x_c.Value, .slice x_c_p0 x_c.Attrs.length x_c_c0]) rfl hf rfl rfl hO fun a b1 w hf hO => ?_
 refine op_as hf rfl rfl fun a hf => ?_
 refine wpList_nil ?_
 refine nor_then (hK2 _ _ ?_)
 refine wp_seq_k fun _ hK18 => ?_
 refine wp_seq_k fun _ hK4 => ?_
 refine wp_region_list ?_
 refine op_val (ex_field fa_31_2 hf rfl) rfl hf rfl rfl fun a hf => ?_
 refine op_val (ex_load1 (o := 2) ag_29 (hO.blkSees (i := 0) rfl) rfl hf rfl) rfl hf rfl rfl fun a hf => ?_
 refine op_val (ex_len_l Tryz.underlying29 hf rfl) rfl hf rfl rfl fun a hf => ?_
 obtain ⟨i3, hi3, hm⟩ := ob hm
 refine op_val (ex_sub hf rfl rfl hi3) rfl hf rfl rfl fun a hf => ?_
 refine op_as hf rfl rfl fun a hf => ?_
 refine wpList_nil ?_
 refine nor_then (hK4 _ _ ?_)
 refine wp_block ?_
 refine wp_loop_n (fun k a w => ∃ (i5 : Int), Fits 23 [(1, str x_name), (2, ptr b1 0), (5, int i5)] a ∧ Dk.Own w0 [] w [.blk b1 [str x_c.Name, str x_c.Value, .slice x_c_p0 x_c.Attrs.length x_c_c0] 31, .shr x_c_p0 (cells enc_api_Attr x_c.Attrs)] ∧ cookie_last_L1 x_c x_name k i5 = some R) ?_ fuel ?_
 rintro n1 a w ⟨i5, hf, hO, hm⟩
 obtain _ | n1 := n1
 rw [cookie_last_L1] at hm
 cases hm
 rw [cookie_last_L1] at hm
 refine wp_seq_k fun _ hK8 => ?_
 refine wp_seq_k fun _ hK6 => ?_
 refine wp_region_list ?_
 refine op_mv hf rfl rfl fun a hf => ?_
 refine op_val (ex_geq (m := i5) (n := 0) hf rfl rfl) rfl hf rfl rfl fun a hf => ?_
 refine wpList_nil ?_
 refine nor_then (hK6 _ _ ?_)
 refine wp_cond_cut hf rfl (fun hc7 => ?_) (fun hc7 => ?_)
 have hm := it hc7 hm
 refine wp_skip ?_
 refine nor_then (hK8 _ _ ?_)
 refine wp_seq_k fun _ hK16 => ?_
 refine wp_block ?_
 refine wp_seq_k fun _ hK13 => ?_
 refine wp_region_list ?_
 refine op_val (ex_field fa_31_2 hf rfl) rfl hf rfl rfl fun a hf => ?_
 refine op_val (ex_load1 (o := 2) ag_29 (hO.blkSees (i := 0) rfl) rfl hf rfl) rfl hf rfl rfl fun a hf => ?_
 refine op_mv hf rfl rfl fun a hf => ?_
 obtain ⟨x9, hx9, hm⟩ := ob hm
 obtain ⟨b10, o11, hix9, hSx9⟩ := elemAt (enc := enc_api_Attr) (sz := 3) (xs := x_c.Attrs) 29 Tryz.underlying29 sz_64 (by decide) (fun _ => rfl) (hO.sees (i := 1) rfl) hx9
 refine op_val (ex_indexAddr hix9 hf rfl rfl) rfl hf rfl rfl fun a hf => ?_
 refine op_val (ex_field fa_64_0 hf rfl) rfl hf rfl rfl fun a hf => ?_
 refine op_val (ex_load1 (o := 0) ag_9 (hSx9 _ (hO.sees (i := 1) rfl)) rfl hf rfl) rfl hf rfl rfl fun a hf => ?_
 refine op_mv hf rfl rfl fun a hf => ?_
 obtain ⟨r12, hr12, hm⟩ := ob hm
 refine op_enter (ex_call c_54 hf (vs := [str x9.Name, str x_name]) rfl) rfl hf rfl rfl (w_octet_Same x9.Name x_name r12 _ (hG.own hF hO) hr12) ?_
 rintro e w' ⟨he, hb⟩
 refine ⟨_, he, fun a hf => ?_⟩
 have hO := hO.grow hb
 refine wpList_nil ?_
 refine nor_then (hK13 _ _ ?_)
 refine wp_cond_cut hf rfl (fun hc14 => ?_) (fun hc14 => ?_)
 have hm := it hc14 hm
 refine wp_seq_k fun _ hK15 => ?_
 refine wp_region_list ?_
 refine op_mv hf rfl rfl fun a hf => ?_
 refine op_as hf rfl rfl fun a hf => ?_
 refine wpList_nil ?_
 refine nor_then (hK15 _ _ ?_)
 refine wp_ret ?_
 refine ret_block ?_
 refine ret_then ?_
 refine ret_then ?_
 refine ret_block ?_
 refine ret_then ?_
 obtain rfl := Option.some.inj hm
 exact post_ret Tryz.results32 hf (.tmp rfl .nil) ⟨rfl, hO.below⟩
 have hm := ie hc14 hm
 refine wp_skip ?_
 refine nor_block ?_
 refine nor_then (hK16 _ _ ?_)
 refine wp_region_list ?_
 refine op_mv hf rfl rfl fun a hf => ?_
 obtain ⟨i17, hi17, hm⟩ := ob hm
 refine op_val (ex_sub hf rfl rfl hi17) rfl hf rfl rfl fun a hf => ?_
 refine op_as hf rfl rfl fun a hf => ?_
 refine wpList_nil ?_
 refine nor_then ?_
 exact ⟨_, Nat.lt_succ_self _, i17, (hf.cons rfl (hf.cons rfl (hf.cons rfl hf.nil))), hO, hm⟩
 have hm := ie hc7 hm
 refine wp_exit ?_
 refine exit_then ?_
 refine exit_then ?_
 refine exit_here ?_
 refine nor_then (hK18 _ _ ?_)
 refine wp_seq_k fun _ hK19 => ?_
 refine wp_region_list ?_
 refine op_as hf rfl rfl fun a hf => ?_
 refine wpList_nil ?_
 refine nor_then (hK19 _ _ ?_)
 refine wp_ret ?_
 obtain rfl := Option.some.inj hm
 exact post_ret Tryz.results32 hf (.tmp rfl .nil) ⟨rfl, hO.below⟩
 exact ⟨i3, (hf.cons rfl (hf.cons rfl (hf.cons rfl hf.nil))), hO, hm⟩

set_option maxHeartbeats 1000000 in
theorem w_cookie_Get (x_c : api_Cookie) (x_name : Str) (R : Str × Bool) (w0 : World) (hG : Glob w0) {x_c_p0 : Option Addr} {x_c_c0 : Nat} (hs0 : Sees w0 x_c_p0 (cells enc_api_Attr x_c.Attrs)) (hc0 : x_c.Attrs.length ≤ x_c_c0) (hm : cookie_Get x_c x_name = some R) :
    Calls Tryz.prog 12 #[.agg #[str x_c.Name, str x_c.Value, .slice x_c_p0 x_c.Attrs.length x_c_c0], str x_name] w0 fun e w' => e = .returned (.tuple #[str R.1, .bool R.2]) ∧ Below w0.heap.size w0 w' := by
 rw [cookie_Get] at hm
 refine calls_enter (vs := [.agg #[str x_c.Name, str x_c.Value, .slice x_c_p0 x_c.Attrs.length x_c_c0], str x_name]) Tryz.func12 rfl Tryz.ntmps12 rfl fun a hf => ?_
 have hF : Away [] := away_nil
 have hO : Dk.Own w0 [] w0 [] := Dk.Own.refl w0
 have hO := hO.addShr hs0 (by simp [Res.shared])
 refine wp_seq_k fun _ hK2 => ?_
 refine wp_region_list ?_
 refine op_box (v := .agg #[str x_c.Name, str x_c.Value, .slice x_c_p0 x_c.Attrs.length x_c_c0]) (cs := [str x_c.Name, str x_c.Value, .slice x_c_p0 x_c.Attrs.length x_c_c0]) rfl hf rfl rfl hO fun a b1 w hf hO => ?_
 refine op_as hf rfl rfl fun a hf => ?_
 refine op_as hf rfl rfl fun a hf => ?_
 refine wpList_nil ?_
 refine nor_then (hK2 _ _ ?_)
 refine wp_seq_k fun _ hK4 => ?_
 refine wp_region_list ?_
 refine op_val (ex_loadN (o := 0) (vs := [str x_c.Name, str x_c.Value, .slice x_c_p0 x_c.Attrs.length x_c_c0]) ag_31 sz_31 (hO.blkSees (i := 0) rfl) rfl rfl hf rfl) rfl hf rfl rfl fun a hf => ?_
 refine op_mv hf rfl rfl fun a hf => ?_
 obtain ⟨r3, hr3, hm⟩ := ob hm
 refine op_enter (ex_call c_32 hf (vs := [.agg #[str x_c.Name, str x_c.Value, .slice x_c_p0 x_c.Attrs.length x_c_c0], str x_name]) rfl) rfl hf rfl rfl (w_cookie_last x_c x_name r3 _ (hG.own hF hO) (hO.sees (i := 1) rfl) hc0 hr3) ?_
 rintro e w' ⟨he, hb⟩
 refine ⟨_, he, fun a hf => ?_⟩
 have hO := hO.grow hb
 refine op_as hf rfl rfl fun a hf => ?_
 refine wpList_nil ?_
 refine nor_then (hK4 _ _ ?_)
 refine wp_seq_k fun _ hK8 => ?_
 refine wp_seq_k fun _ hK5 => ?_
 refine wp_region_list ?_
 refine op_mv hf rfl rfl fun a hf => ?_
 refine op_val (ex_lss (m := r3) (n := 0) hf rfl rfl) rfl hf rfl rfl fun a hf => ?_
 refine wpList_nil ?_
 refine nor_then (hK5 _ _ ?_)
 refine wp_cond_cut hf rfl (fun hc6 => ?_) (fun hc6 => ?_)
 have hm := it hc6 hm
 refine wp_seq_k fun _ hK7 => ?_
 refine wp_region_list ?_
 refine op_as hf rfl rfl fun a hf => ?_
 refine op_as hf rfl rfl fun a hf => ?_
 refine wpList_nil ?_
 refine nor_then (hK7 _ _ ?_)
 refine wp_ret ?_
 refine ret_then ?_
 obtain rfl := Option.some.inj hm
 exact post_ret Tryz.results12 hf (.tmp rfl (.tmp rfl .nil)) ⟨rfl, hO.below⟩
 have hm := ie hc6 hm
 refine wp_skip ?_
 refine nor_then (hK8 _ _ ?_)
 refine wp_seq_k fun _ hK12 => ?_
 refine wp_region_list ?_
 refine op_val (ex_field fa_31_2 hf rfl) rfl hf rfl rfl fun a hf => ?_
 refine op_val (ex_load1 (o := 2) ag_29 (hO.blkSees (i := 0) rfl) rfl hf rfl) rfl hf rfl rfl fun a hf => ?_
 refine op_mv hf rfl rfl fun a hf => ?_
 obtain ⟨x9, hx9, hm⟩ := ob hm
 obtain ⟨b10, o11, hix9, hSx9⟩ := elemAt (enc := enc_api_Attr) (sz := 3) (xs := x_c.Attrs) 29 Tryz.underlying29 sz_64 (by decide) (fun _ => rfl) (hO.sees (i := 1) rfl) hx9
 refine op_val (ex_indexAddr hix9 hf rfl rfl) rfl hf rfl rfl fun a hf => ?_
 refine op_val (ex_field fa_64_1 hf rfl) rfl hf rfl rfl fun a hf => ?_
 refine op_val (ex_load1 (o := 1) ag_9 (hSx9 _ (hO.sees (i := 1) rfl)) rfl hf rfl) rfl hf rfl rfl fun a hf => ?_
 refine op_as hf rfl rfl fun a hf => ?_
 refine op_as hf rfl rfl fun a hf => ?_
 refine wpList_nil ?_
 refine nor_then (hK12 _ _ ?_)
 refine wp_ret ?_
 obtain rfl := Option.some.inj hm
 exact post_ret Tryz.results12 hf (.tmp rfl (.tmp rfl .nil)) ⟨rfl, hO.below⟩

set_option maxHeartbeats 1000000 in
theorem w_cookie_Set (x_c : api_Cookie) (x_name : Str) (x_value : Str) (R : api_Cookie) (w0 : World) (hG : Glob w0) {x_c_p0 : Option Addr} {x_c_c0 : Nat} (hs0 : Sees w0 x_c_p0 (cells enc_api_Attr x_c.Attrs)) (hc0 : x_c.Attrs.length ≤ x_c_c0) (hm : cookie_Set x_c x_name x_value = some R) :
    Calls Tryz.prog 28 #[.agg #[str x_c.Name, str x_c.Value, .slice x_c_p0 x_c.Attrs.length x_c_c0], str x_name, str x_value] w0 fun e w' => ∃ (p0 : Option Addr) (c0 : Nat), e = .returned (.agg #[str R.Name, str R.Value, .slice p0 R.Attrs.length c0]) ∧ Dk.Own w0 [] w' [.row (.slice p0 R.Attrs.length c0) 64 3 R.Attrs.length (cells enc_api_Attr R.Attrs)] := by
 rw [cookie_Set] at hm
 refine calls_enter (vs := [.agg #[str x_c.Name, str x_c.Value, .slice x_c_p0 x_c.Attrs.length x_c_c0], str x_name, str x_value]) Tryz.func28 rfl Tryz.ntmps28 rfl fun a hf => ?_
 have hF : Away [] := away_nil
 have hO : Dk.Own w0 [] w0 [] := Dk.Own.refl w0
 have hO := hO.addShr hs0 (by simp [Res.shared])
 refine wp_seq_k fun _ hK3 => ?_
 refine wp_region_list ?_
 refine op_box (v := .agg #[str x_c.Name, str x_c.Value, .slice x_c_p0 x_c.Attrs.length x_c_c0]) (cs := [str x_c.Name, str x_c.Value, .slice x_c_p0 x_c.Attrs.length x_c_c0]) rfl hf rfl rfl hO fun a b1 w hf hO => ?_
 refine op_alloc al_31 hf rfl hO fun a b2 w hf hO => ?_
 have hO := hO.nilRow 64 3
 refine wpList_nil ?_
 refine nor_then (hK3 _ _ ?_)
 refine wp_seq_k fun _ hK5 => ?_
 refine wp_region_list ?_
 refine op_val (ex_loadN (o := 0) (vs := [str x_c.Name, str x_c.Value, .slice x_c_p0 x_c.Attrs.length x_c_c0]) ag_31 sz_31 (hO.blkSees (i := 2) rfl) rfl rfl hf rfl) rfl hf rfl rfl fun a hf => ?_
 refine op_mv hf rfl rfl fun a hf => ?_
 obtain ⟨r4, hr4, hm⟩ := ob hm
 refine op_enter (ex_call c_32 hf (vs := [.agg #[str x_c.Name, str x_c.Value, .slice x_c_p0 x_c.Attrs.length x_c_c0], str x_name]) rfl) rfl hf rfl rfl (w_cookie_last x_c x_name r4 _ (hG.own hF hO) (hO.sees (i := 3) rfl) hc0 hr4) ?_
 rintro e w' ⟨he, hb⟩
 refine ⟨_, he, fun a hf => ?_⟩
 have hO := hO.grow hb
 refine op_as hf rfl rfl fun a hf => ?_
 refine wpList_nil ?_
 refine nor_then (hK5 _ _ ?_)
 refine wp_seq_k fun _ hK7 => ?_
 refine wp_region_list ?_
 refine op_val (ex_field fa_31_0 hf rfl) rfl hf rfl rfl fun a hf => ?_
 refine op_val (ex_load1 (o := 0) ag_9 (hO.blkSees (i := 2) rfl) rfl hf rfl) rfl hf rfl rfl fun a hf => ?_
 refine op_val (ex_field fa_31_1 hf rfl) rfl hf rfl rfl fun a hf => ?_
 refine op_val (ex_load1 (o := 1) ag_9 (hO.blkSees (i := 2) rfl) rfl hf rfl) rfl hf rfl rfl fun a hf => ?_
 refine op_val (ex_build (vs := [(0, str x_c.Name), (1, str x_c.Value)]) (v := .agg #[str x_c.Name, str x_c.Value, .slice none 0 0]) hf rfl (by kernel_rfl)) rfl hf rfl rfl fun a hf => ?_
 refine op_alloc al_31 hf rfl hO fun a b6 w hf hO => ?_
 have hO := hO.nilRow 64 3
 refine op_storeN (i := 1) (n := 3) sz_31 rfl rfl rfl (by simp [Value.oneCell']) hf rfl rfl hO fun w hO => ?_
 have hO := hO.nilRow 64 3
 refine wpList_nil ?_
 refine nor_then (hK7 _ _ ?_)
 refine wp_seq_cut (fun a w => ∃ (s38 : Str) (s39 : Str) (p40 : Option Addr) (c41 : Nat) (l42 : List api_Attr), Fits 55 [(1, str x_name), (2, str x_value), (6, ptr b2 0), (7, int r4), (8, ptr b6 0)] a ∧ Dk.Own w0 [] w [.row (.slice p40 l42.length c41) 64 3 l42.length (cells enc_api_Attr l42), .row (.slice none 0 0) 64 3 0 (cells enc_api_Attr []), .blk b6 [str s38, str s39, .slice p40 l42.length c41] 31, .row (.slice none 0 0) 64 3 0 (cells enc_api_Attr []), .blk b2 [str [], str [], .slice none 0 0] 31, .blk b1 [str x_c.Name, str x_c.Value, .slice x_c_p0 x_c.Attrs.length x_c_c0] 31, .shr x_c_p0 (cells enc_api_Attr x_c.Attrs)] ∧ cookie_Set_j4 x_name x_value r4 s38 s39 l42 = some R) ?_ ?_
 refine wp_seq_k fun _ hK8 => ?_
 refine wp_region_list ?_
 refine op_val (ex_field fa_31_2 hf rfl) rfl hf rfl rfl fun a hf => ?_
 refine op_val (ex_load1 (o := 2) ag_29 (hO.blkSees (i := 5) rfl) rfl hf rfl) rfl hf rfl rfl fun a hf => ?_
 refine op_val (ex_len_l Tryz.underlying29 hf rfl) rfl hf rfl rfl fun a hf => ?_
 refine op_mv hf rfl rfl fun a hf => ?_
 refine wpList_nil ?_
 refine nor_then (hK8 _ _ ?_)
 refine wp_block ?_
 refine wp_loop_n (fun k a w => ∃ (p9 : Option Addr) (c10 : Nat) (l11 : List api_Attr) (s12 : Str) (s13 : Str) (i14 : Int), Fits 55 [(1, str x_name), (2, str x_value), (6, ptr b2 0), (7, int r4), (8, ptr b6 0), (20, .slice x_c_p0 x_c.Attrs.length x_c_c0), (21, int (x_c.Attrs.length : Int)), (22, int i14)] a ∧ Dk.Own w0 [] w [.row (.slice p9 l11.length c10) 64 3 l11.length (cells enc_api_Attr l11), .row (.slice none 0 0) 64 3 0 (cells enc_api_Attr []), .blk b6 [str s12, str s13, .slice p9 l11.length c10] 31, .row (.slice none 0 0) 64 3 0 (cells enc_api_Attr []), .blk b2 [str [], str [], .slice none 0 0] 31, .blk b1 [str x_c.Name, str x_c.Value, .slice x_c_p0 x_c.Attrs.length x_c_c0] 31, .shr x_c_p0 (cells enc_api_Attr x_c.Attrs)] ∧ cookie_Set_L1 x_c x_name x_value r4 k l11 s12 s13 i14 = some R) ?_ fuel ?_
 rintro n1 a w ⟨p9, c10, l11, s12, s13, i14, hf, hO, hm⟩
 obtain _ | n1 := n1
 rw [cookie_Set_L1] at hm
 cases hm
 rw [cookie_Set_L1] at hm
 refine wp_seq_k fun _ hK15 => ?_
 refine wp_region_list ?_
 refine op_val (ex_lss (m := i14) (n := (x_c.Attrs.length : Int)) hf rfl rfl) rfl hf rfl rfl fun a hf => ?_
 refine wpList_nil ?_
 refine nor_then (hK15 _ _ ?_)
 refine wp_seq_k fun _ hK17 => ?_
 refine wp_cond_cut hf rfl (fun hc16 => ?_) (fun hc16 => ?_)
 have hm := it hc16 hm
 refine wp_skip ?_
 refine nor_then (hK17 _ _ ?_)
 refine wp_seq_cut (fun a w => ∃ (p34 : Option Addr) (c35 : Nat) (l36 : List api_Attr), Fits 55 [(1, str x_name), (2, str x_value), (6, ptr b2 0), (7, int r4), (8, ptr b6 0), (20, .slice x_c_p0 x_c.Attrs.length x_c_c0), (21, int (x_c.Attrs.length : Int)), (22, int i14)] a ∧ Dk.Own w0 [] w [.row (.slice p34 l36.length c35) 64 3 l36.length (cells enc_api_Attr l36), .row (.slice none 0 0) 64 3 0 (cells enc_api_Attr []), .blk b6 [str s12, str s13, .slice p34 l36.length c35] 31, .row (.slice none 0 0) 64 3 0 (cells enc_api_Attr []), .blk b2 [str [], str [], .slice none 0 0] 31, .blk b1 [str x_c.Name, str x_c.Value, .slice x_c_p0 x_c.Attrs.length x_c_c0] 31, .shr x_c_p0 (cells enc_api_Attr x_c.Attrs)] ∧ cookie_Set_j3 (cookie_Set_L1 x_c x_name x_value r4 n1) s12 s13 i14 l36 = some R) ?_ ?_
 refine wp_block ?_
 refine wp_seq_k fun _ hK22 => ?_
 refine wp_region_list ?_
 refine op_mv hf rfl rfl fun a hf => ?_
 obtain ⟨x18, hx18, hm⟩ := ob hm
 obtain ⟨b19, o20, hix18, hSx18⟩ := elemAt (enc := enc_api_Attr) (sz := 3) (xs := x_c.Attrs) 29 Tryz.underlying29 sz_64 (by decide) (fun _ => rfl) (hO.sees (i := 6) rfl) hx18
 refine op_val (ex_indexAddr hix18 hf rfl rfl) rfl hf rfl rfl fun a hf => ?_
 refine op_val (ex_loadN (o := 0) (vs := [str x18.Name, str x18.Value, .bool x18.Has]) ag_64 sz_64 (hSx18 _ (hO.sees (i := 6) rfl)) rfl rfl hf rfl) rfl hf rfl rfl fun a hf => ?_
 refine op_alloc al_64 hf rfl hO fun a b21 w hf hO => ?_
 refine op_as hf rfl rfl fun a hf => ?_
 refine op_storeN (i := 0) (n := 3) sz_64 rfl rfl rfl (by simp [Value.oneCell']) hf rfl rfl hO fun w hO => ?_
 refine wpList_nil ?_
 refine nor_then (hK22 _ _ ?_)
 refine wp_seq_cut (fun a w => ∃ (s28 : Str) (t29 : Bool), Fits 55 [(1, str x_name), (2, str x_value), (6, ptr b2 0), (7, int r4), (8, ptr b6 0), (10, ptr b21 0), (20, .slice x_c_p0 x_c.Attrs.length x_c_c0), (21, int (x_c.Attrs.length : Int)), (22, int i14)] a ∧ Dk.Own w0 [] w [.blk b21 [str x18.Name, str s28, .bool t29] 64, .row (.slice p9 l11.length c10) 64 3 l11.length (cells enc_api_Attr l11), .row (.slice none 0 0) 64 3 0 (cells enc_api_Attr []), .blk b6 [str s12, str s13, .slice p9 l11.length c10] 31, .row (.slice none 0 0) 64 3 0 (cells enc_api_Attr []), .blk b2 [str [], str [], .slice none 0 0] 31, .blk b1 [str x_c.Name, str x_c.Value, .slice x_c_p0 x_c.Attrs.length x_c_c0] 31, .shr x_c_p0 (cells enc_api_Attr x_c.Attrs)] ∧ cookie_Set_j2 (cookie_Set_L1 x_c x_name x_value r4 n1) l11 s12 s13 i14 x18 s28 t29 = some R) ?_ ?_
 refine wp_seq_k fun _ hK23 => ?_
 refine wp_region_list ?_
 refine op_mv hf rfl rfl fun a hf => ?_
 refine op_mv hf rfl rfl fun a hf => ?_
 refine op_val (ex_eql (m := i14) (n := r4) hf rfl rfl) rfl hf rfl rfl fun a hf => ?_
 refine wpList_nil ?_
 refine nor_then (hK23 _ _ ?_)
 refine wp_cond_cut hf rfl (fun hc24 => ?_) (fun hc24 => ?_)
 have hm := it hc24 hm
 refine wp_region_list ?_
 refine op_mv hf rfl rfl fun a hf => ?_
 refine op_val (ex_field fa_64_1 hf rfl) rfl hf rfl rfl fun a hf => ?_
 refine op_store1 (i := 0) (o := 1) (v := str x_value) sz_9 rfl rfl rfl rfl hf rfl rfl hO fun w hO => ?_
 refine op_val (ex_field fa_64_2 hf rfl) rfl hf rfl rfl fun a hf => ?_
 refine op_store1 (i := 0) (o := 2) (v := .bool true) sz_4 rfl rfl rfl rfl hf rfl rfl hO fun w hO => ?_
 refine wpList_nil ?_
 refine nor_then ?_
 exact ⟨x_value, true, (hf.cons rfl (hf.cons rfl (hf.cons rfl (hf.cons rfl (hf.cons rfl (hf.cons rfl (hf.cons rfl (hf.cons rfl (hf.cons rfl hf.nil))))))))), hO, hm⟩
 have hm := ie hc24 hm
 refine wp_seq_k fun _ hK26 => ?_
 refine wp_region_list ?_
 refine op_val (ex_field fa_64_0 hf rfl) rfl hf rfl rfl fun a hf => ?_
 refine op_val (ex_load1 (o := 0) ag_9 (hO.blkSees (i := 0) rfl) rfl hf rfl) rfl hf rfl rfl fun a hf => ?_
 refine op_mv hf rfl rfl fun a hf => ?_
 obtain ⟨r25, hr25, hm⟩ := ob hm
 refine op_enter (ex_call c_54 hf (vs := [str x18.Name, str x_name]) rfl) rfl hf rfl rfl (w_octet_Same x18.Name x_name r25 _ (hG.own hF hO) hr25) ?_
 rintro e w' ⟨he, hb⟩
 refine ⟨_, he, fun a hf => ?_⟩
 have hO := hO.grow hb
 refine wpList_nil ?_
 refine nor_then (hK26 _ _ ?_)
 refine wp_cond_cut hf rfl (fun hc27 => ?_) (fun hc27 => ?_)
 have hm := it hc27 hm
 refine wp_exit ?_
 refine exit_then ?_
 refine exit_here ?_
 refine nor_then ?_
 exact ⟨p9, c10, l11, (hf.cons rfl (hf.cons rfl (hf.cons rfl (hf.cons rfl (hf.cons rfl (hf.cons rfl (hf.cons rfl (hf.cons rfl hf.nil)))))))), (hO.sub (.cons _ (.cons_cons _ (.cons_cons _ (.cons_cons _ (.cons_cons _ (.cons_cons _ (.cons_cons _ (.cons_cons _ .slnil))))))))), hm⟩
 have hm := ie hc27 hm
 refine wp_skip ?_
 refine nor_then ?_
 exact ⟨x18.Value, x18.Has, (hf.cons rfl (hf.cons rfl (hf.cons rfl (hf.cons rfl (hf.cons rfl (hf.cons rfl (hf.cons rfl (hf.cons rfl (hf.cons rfl hf.nil))))))))), hO, hm⟩
 rintro a w ⟨s28, t29, hf, hO, hm⟩
 rw [cookie_Set_j2] at hm
 refine wp_region_list ?_
 refine op_val (ex_field fa_31_2 hf rfl) rfl hf rfl rfl fun a hf => ?_
 refine op_val (ex_load1 (o := 2) ag_29 (hO.blkSees (i := 3) rfl) rfl hf rfl) rfl hf rfl rfl fun a hf => ?_
 refine op_val (ex_loadN (o := 0) (vs := [str x18.Name, str s28, .bool t29]) ag_64 sz_64 (hO.blkSees (i := 0) rfl) rfl rfl hf rfl) rfl hf rfl rfl fun a hf => ?_
 refine op_buildSlice (vs := [(0, .agg #[str x18.Name, str s28, .bool t29])]) (cs := [str x18.Name, str s28, .bool t29]) (e := 64) (sz := 3) hf rfl rfl (fun w => by kernel_rfl) rfl rfl hO fun a b30 w hf hO => ?_
 obtain ⟨hg33, hm⟩ := og hm
 refine op_appendT el_29 (enc := enc_api_Attr) (xs := l11) (ys := [(⟨x18.Name, s28, t29⟩ : api_Attr)]) (i := 2) (fun _ => rfl) rfl (hO.rowSees (i := 0) rfl) (by simp [cells, enc_api_Attr, Value.oneCell']) hg33 hf rfl rfl rfl hO fun a p31 c32 w hf hO => ?_
 refine op_val (ex_field fa_31_2 hf rfl) rfl hf rfl rfl fun a hf => ?_
 refine op_store1 (i := 4) (o := 2) (v := .slice p31 ((l11 ++ [(⟨x18.Name, s28, t29⟩ : api_Attr)]).length) c32) sz_29 rfl rfl rfl rfl hf rfl rfl hO fun w hO => ?_
 refine wpList_nil ?_
 refine nor_block ?_
 refine nor_then ?_
 exact ⟨p31, c32, l11 ++ [(⟨x18.Name, s28, t29⟩ : api_Attr)], (hf.cons rfl (hf.cons rfl (hf.cons rfl (hf.cons rfl (hf.cons rfl (hf.cons rfl (hf.cons rfl (hf.cons rfl hf.nil)))))))), (hO.sub (.cons _ (.cons _ (.cons_cons _ (.cons_cons _ (.cons_cons _ (.cons_cons _ (.cons_cons _ (.cons_cons _ (.cons_cons _ .slnil)))))))))), hm⟩
 rintro a w ⟨p34, c35, l36, hf, hO, hm⟩
 rw [cookie_Set_j3] at hm
 refine wp_region_list ?_
 obtain ⟨i37, hi37, hm⟩ := ob hm
 refine op_val (ex_add hf rfl rfl hi37) rfl hf rfl rfl fun a hf => ?_
 refine op_mv hf rfl rfl fun a hf => ?_
 refine wpList_nil ?_
 refine nor_then ?_
 exact ⟨_, Nat.lt_succ_self _, p34, c35, l36, s12, s13, i37, (hf.cons rfl (hf.cons rfl (hf.cons rfl (hf.cons rfl (hf.cons rfl (hf.cons rfl (hf.cons rfl (hf.cons rfl hf.nil)))))))), hO, hm⟩
 have hm := ie hc16 hm
 refine wp_exit ?_
 refine exit_then ?_
 refine exit_then ?_
 refine exit_here ?_
 refine nor_then ?_
 exact ⟨s12, s13, p9, c10, l11, (hf.cons rfl (hf.cons rfl (hf.cons rfl (hf.cons rfl (hf.cons rfl hf.nil))))), hO, hm⟩
 exact ⟨none, 0, [], x_c.Name, x_c.Value, 0, (hf.cons rfl (hf.cons rfl (hf.cons rfl (hf.cons rfl (hf.cons rfl (hf.cons rfl (hf.cons rfl (hf.cons rfl hf.nil)))))))), hO, hm⟩
 rintro a w ⟨s38, s39, p40, c41, l42, hf, hO, hm⟩
 rw [cookie_Set_j4] at hm
 refine wp_seq_cut (fun a w => ∃ (p49 : Option Addr) (c50 : Nat) (l51 : List api_Attr), Fits 55 [(6, ptr b2 0), (8, ptr b6 0)] a ∧ Dk.Own w0 [] w [.row (.slice p49 l51.length c50) 64 3 l51.length (cells enc_api_Attr l51), .row (.slice none 0 0) 64 3 0 (cells enc_api_Attr []), .blk b6 [str s38, str s39, .slice p49 l51.length c50] 31, .row (.slice none 0 0) 64 3 0 (cells enc_api_Attr []), .blk b2 [str [], str [], .slice none 0 0] 31, .blk b1 [str x_c.Name, str x_c.Value, .slice x_c_p0 x_c.Attrs.length x_c_c0] 31, .shr x_c_p0 (cells enc_api_Attr x_c.Attrs)] ∧ cookie_Set_j5 s38 s39 l51 = some R) ?_ ?_
 refine wp_seq_k fun _ hK43 => ?_
 refine wp_region_list ?_
 refine op_mv hf rfl rfl fun a hf => ?_
 refine op_val (ex_lss (m := r4) (n := 0) hf rfl rfl) rfl hf rfl rfl fun a hf => ?_
 refine wpList_nil ?_
 refine nor_then (hK43 _ _ ?_)
 refine wp_cond_cut hf rfl (fun hc44 => ?_) (fun hc44 => ?_)
 have hm := it hc44 hm
 refine wp_region_list ?_
 refine op_val (ex_field fa_31_2 hf rfl) rfl hf rfl rfl fun a hf => ?_
 refine op_val (ex_load1 (o := 2) ag_29 (hO.blkSees (i := 2) rfl) rfl hf rfl) rfl hf rfl rfl fun a hf => ?_
 refine op_mv hf rfl rfl fun a hf => ?_
 refine op_mv hf rfl rfl fun a hf => ?_
 refine op_val (ex_build (vs := [(0, str x_name), (1, str x_value), (2, .bool true)]) (v := .agg #[str x_name, str x_value, .bool true]) hf rfl (by kernel_rfl)) rfl hf rfl rfl fun a hf => ?_
 refine op_buildSlice (vs := [(0, .agg #[str x_name, str x_value, .bool true])]) (cs := [str x_name, str x_value, .bool true]) (e := 64) (sz := 3) hf rfl rfl (fun w => by kernel_rfl) rfl rfl hO fun a b45 w hf hO => ?_
 obtain ⟨hg48, hm⟩ := og hm
 refine op_appendT el_29 (enc := enc_api_Attr) (xs := l42) (ys := [(⟨x_name, x_value, true⟩ : api_Attr)]) (i := 1) (fun _ => rfl) rfl (hO.rowSees (i := 0) rfl) (by simp [cells, enc_api_Attr, Value.oneCell']) hg48 hf rfl rfl rfl hO fun a p46 c47 w hf hO => ?_
 refine op_val (ex_field fa_31_2 hf rfl) rfl hf rfl rfl fun a hf => ?_
 refine op_store1 (i := 3) (o := 2) (v := .slice p46 ((l42 ++ [(⟨x_name, x_value, true⟩ : api_Attr)]).length) c47) sz_29 rfl rfl rfl rfl hf rfl rfl hO fun w hO => ?_
 refine wpList_nil ?_
 refine nor_then ?_
 exact ⟨p46, c47, l42 ++ [(⟨x_name, x_value, true⟩ : api_Attr)], (hf.cons rfl (hf.cons rfl hf.nil)), (hO.sub (.cons _ (.cons_cons _ (.cons_cons _ (.cons_cons _ (.cons_cons _ (.cons_cons _ (.cons_cons _ (.cons_cons _ .slnil))))))))), hm⟩
 have hm := ie hc44 hm
 refine wp_skip ?_
 refine nor_then ?_
 exact ⟨p40, c41, l42, (hf.cons rfl (hf.cons rfl hf.nil)), hO, hm⟩
 rintro a w ⟨p49, c50, l51, hf, hO, hm⟩
 rw [cookie_Set_j5] at hm
 refine wp_seq_k fun _ hK52 => ?_
 refine wp_region_list ?_
 refine op_val (ex_loadN (o := 0) (vs := [str s38, str s39, .slice p49 l51.length c50]) ag_31 sz_31 (hO.blkSees (i := 2) rfl) rfl rfl hf rfl) rfl hf rfl rfl fun a hf => ?_
 refine op_storeN (i := 4) (n := 3) sz_31 rfl rfl rfl (by simp [Value.oneCell']) hf rfl rfl hO fun w hO => ?_
 refine wpList_nil ?_
 refine nor_then (hK52 _ _ ?_)
 refine wp_ret ?_
 obtain rfl := Option.some.inj hm
 exact post_ret Tryz.results28 hf (.cell rfl (run_loadVarN (n := 3) (vs := [str s38, str s39, .slice p49 l51.length c50]) ag_31 sz_31 rfl ((hO.blkSees (i := 4) rfl).cells (o := 0) (n := 3) rfl)) .nil) ⟨p49, c50, rfl, (hO.sub (.cons_cons _ (.cons _ (.cons _ (.cons _ (.cons _ (.cons _ (.cons _ .slnil))))))))⟩

set_option maxHeartbeats 1000000 in
theorem w_quill_Join (x_sep : Str) (x_l : List Str) (R : Str) (w0 : World) (hG : Glob w0) {x_l_p0 : Option Addr} {x_l_c0 : Nat} (hs0 : Sees w0 x_l_p0 (cells enc_str x_l)) (hc0 : x_l.length ≤ x_l_c0) (hm : quill_Join x_sep x_l = some R) :
    Calls Tryz.prog 52 #[str x_sep, .slice x_l_p0 x_l.length x_l_c0] w0 fun e w' => e = .returned (str R) ∧ Below w0.heap.size w0 w' := by
 rw [quill_Join] at hm
 refine calls_enter (vs := [str x_sep, .slice x_l_p0 x_l.length x_l_c0]) Tryz.func52 rfl Tryz.ntmps52 rfl fun a hf => ?_
 have hF : Away [] := away_nil
 have hO : Dk.Own w0 [] w0 [] := Dk.Own.refl w0
 have hO := hO.addShr hs0 (by simp [Res.shared])
 refine wp_seq_k fun _ hK1 => ?_
 refine wp_region_list ?_
 refine op_as hf rfl rfl fun a hf => ?_
 refine wpList_nil ?_
 refine nor_then (hK1 _ _ ?_)
 refine wp_seq_k fun _ hK3 => ?_
 refine wp_region_list ?_
 refine op_mv hf rfl rfl fun a hf => ?_
 refine op_mv hf rfl rfl fun a hf => ?_
 obtain ⟨r2, hr2, hm⟩ := ob hm
 refine op_enter (ex_call c_92 hf (vs := [.slice x_l_p0 x_l.length x_l_c0, str x_sep]) rfl) rfl hf rfl rfl (w_strings_Join x_l x_sep r2 _ (hG.own hF hO) (hO.sees (i := 0) rfl) hc0 hr2) ?_
 rintro e w' ⟨he, hb⟩
 refine ⟨_, he, fun a hf => ?_⟩
 have hO := hO.grow hb
 refine op_as hf rfl rfl fun a hf => ?_
 refine wpList_nil ?_
 refine nor_then (hK3 _ _ ?_)
 refine wp_ret ?_
 obtain rfl := Option.some.inj hm
 exact post_ret Tryz.results52 hf (.tmp rfl .nil) ⟨rfl, hO.below⟩

set_option maxHeartbeats 1000000 in
theorem w_slices_Equal_gapi_Attr_api_Attr_ (x_s1 : List api_Attr) (x_s2 : List api_Attr) (R : Bool) (w0 : World) (hG : Glob w0) {x_s1_p0 : Option Addr} {x_s1_c0 : Nat} (hs0 : Sees w0 x_s1_p0 (cells enc_api_Attr x_s1)) (hc0 : x_s1.length ≤ x_s1_c0) {x_s2_p1 : Option Addr} {x_s2_c1 : Nat} (hs1 : Sees w0 x_s2_p1 (cells enc_api_Attr x_s2)) (hc1 : x_s2.length ≤ x_s2_c1) (hm : slices_Equal_gapi_Attr_api_Attr_ x_s1 x_s2 = some R) :
    Calls Tryz.prog 93 #[.slice x_s1_p0 x_s1.length x_s1_c0, .slice x_s2_p1 x_s2.length x_s2_c1] w0 fun e w' => e = .returned (.bool R) ∧ Below w0.heap.size w0 w' := by
 rw [slices_Equal_gapi_Attr_api_Attr_] at hm
 refine calls_enter (vs := [.slice x_s1_p0 x_s1.length x_s1_c0, .slice x_s2_p1 x_s2.length x_s2_c1]) Tryz.func93 rfl Tryz.ntmps93 rfl fun a hf => ?_
 have hF : Away [] := away_nil
 have hO : Dk.Own w0 [] w0 [] := Dk.Own.refl w0
 have hO := hO.addShr hs0 (by simp [Res.shared])
 have hO := hO.addShr hs1 (by simp [Res.shared])
 refine wp_seq_k fun _ hK1 => ?_
 refine wp_region_list ?_
 refine op_as hf rfl rfl fun a hf => ?_
 refine wpList_nil ?_
 refine nor_then (hK1 _ _ ?_)
 refine wp_seq_k fun _ hK5 => ?_
 refine wp_seq_k fun _ hK2 => ?_
 refine wp_region_list ?_
 refine op_mv hf rfl rfl fun a hf => ?_
 refine op_val (ex_len_l Tryz.underlying29 hf rfl) rfl hf rfl rfl fun a hf => ?_
 refine op_mv hf rfl rfl fun a hf => ?_
 refine op_val (ex_len_l Tryz.underlying29 hf rfl) rfl hf rfl rfl fun a hf => ?_
 refine op_val (ex_neq (m := (x_s1.length : Int)) (n := (x_s2.length : Int)) hf rfl rfl) rfl hf rfl rfl fun a hf => ?_
 refine wpList_nil ?_
 refine nor_then (hK2 _ _ ?_)
 refine wp_cond_cut hf rfl (fun hc3 => ?_) (fun hc3 => ?_)
 have hm := it hc3 hm
 refine wp_seq_k fun _ hK4 => ?_
 refine wp_region_list ?_
 refine op_as hf rfl rfl fun a hf => ?_
 refine wpList_nil ?_
 refine nor_then (hK4 _ _ ?_)
 refine wp_ret ?_
 refine ret_then ?_
 obtain rfl := Option.some.inj hm
 exact post_ret Tryz.results93 hf (.tmp rfl .nil) ⟨rfl, hO.below⟩
 have hm := ie hc3 hm
 refine wp_skip ?_
 refine nor_then (hK5 _ _ ?_)
 refine wp_seq_k fun _ hK23 => ?_
 refine wp_seq_k fun _ hK6 => ?_
 refine wp_region_list ?_
 refine op_mv hf rfl rfl fun a hf => ?_
 refine op_val (ex_len_l Tryz.underlying29 hf rfl) rfl hf rfl rfl fun a hf => ?_
 refine op_mv hf rfl rfl fun a hf => ?_
 refine wpList_nil ?_
 refine nor_then (hK6 _ _ ?_)
 refine wp_block ?_
 refine wp_loop_n (fun k a w => ∃ (i7 : Int), Fits 26 [(0, .slice x_s1_p0 x_s1.length x_s1_c0), (1, .slice x_s2_p1 x_s2.length x_s2_c1), (12, int (x_s1.length : Int)), (13, int i7)] a ∧ Dk.Own w0 [] w [.shr x_s2_p1 (cells enc_api_Attr x_s2), .shr x_s1_p0 (cells enc_api_Attr x_s1)] ∧ slices_Equal_gapi_Attr_api_Attr__L1 x_s1 x_s2 k i7 = some R) ?_ fuel ?_
 rintro n1 a w ⟨i7, hf, hO, hm⟩
 obtain _ | n1 := n1
 rw [slices_Equal_gapi_Attr_api_Attr__L1] at hm
 cases hm
 rw [slices_Equal_gapi_Attr_api_Attr__L1] at hm
 refine wp_seq_k fun _ hK8 => ?_
 refine wp_region_list ?_
 refine op_val (ex_lss (m := i7) (n := (x_s1.length : Int)) hf rfl rfl) rfl hf rfl rfl fun a hf => ?_
 refine wpList_nil ?_
 refine nor_then (hK8 _ _ ?_)
 refine wp_seq_k fun _ hK10 => ?_
 refine wp_cond_cut hf rfl (fun hc9 => ?_) (fun hc9 => ?_)
 have hm := it hc9 hm
 refine wp_skip ?_
 refine nor_then (hK10 _ _ ?_)
 refine wp_seq_k fun _ hK21 => ?_
 refine wp_block ?_
 refine wp_seq_k fun _ hK11 => ?_
 refine wp_region_list ?_
 refine op_mv hf rfl rfl fun a hf => ?_
 refine op_as hf rfl rfl fun a hf => ?_
 refine wpList_nil ?_
 refine nor_then (hK11 _ _ ?_)
 refine wp_seq_k fun _ hK18 => ?_
 refine wp_quiet (by kernel_rfl) (by kernel_rfl) hO ?_
 refine q_val (fun w hO => ex_move hf rfl) rfl hf rfl rfl fun a hf => ?_
 refine q_val (fun w hO => ex_move hf rfl) rfl hf rfl rfl fun a hf => ?_
 obtain ⟨x12, hx12, hm⟩ := ob hm
 obtain ⟨b13, o14, hix12, hSx12⟩ := elemAt (enc := enc_api_Attr) (sz := 3) (xs := x_s1) 29 Tryz.underlying29 sz_64 (by decide) (fun _ => rfl) (hO.sees (i := 1) rfl) hx12
 refine q_val (fun w hO => ex_indexAddr hix12 hf rfl rfl) rfl hf rfl rfl fun a hf => ?_
 refine q_val (fun w hO => ex_loadN (o := 0) (vs := [str x12.Name, str x12.Value, .bool x12.Has]) ag_64 sz_64 (hSx12 _ (hO.sees (i := 1) rfl)) rfl rfl hf rfl) rfl hf rfl rfl fun a hf => ?_
 refine q_val (fun w hO => ex_move hf rfl) rfl hf rfl rfl fun a hf => ?_
 refine q_val (fun w hO => ex_move hf rfl) rfl hf rfl rfl fun a hf => ?_
 obtain ⟨x15, hx15, hm⟩ := ob hm
 obtain ⟨b16, o17, hix15, hSx15⟩ := elemAt (enc := enc_api_Attr) (sz := 3) (xs := x_s2) 29 Tryz.underlying29 sz_64 (by decide) (fun _ => rfl) (hO.sees (i := 0) rfl) hx15
 refine q_val (fun w hO => ex_indexAddr hix15 hf rfl rfl) rfl hf rfl rfl fun a hf => ?_
 refine q_val (fun w hO => ex_loadN (o := 0) (vs := [str x15.Name, str x15.Value, .bool x15.Has]) ag_64 sz_64 (hSx15 _ (hO.sees (i := 0) rfl)) rfl rfl hf rfl) rfl hf rfl rfl fun a hf => ?_
 refine q_val (fun w hO => ex_neq_t (by kernel_rfl) (eq_64 x12 x15) hf rfl rfl) rfl hf rfl rfl fun a hf => ?_
 refine wpQuiet_nil ?_
 intro w hO
 refine nor_then (hK18 _ _ ?_)
 refine wp_cond_cut hf rfl (fun hc19 => ?_) (fun hc19 => ?_)
 have hm := it hc19 hm
 refine wp_seq_k fun _ hK20 => ?_
 refine wp_region_list ?_
 refine op_as hf rfl rfl fun a hf => ?_
 refine wpList_nil ?_
 refine nor_then (hK20 _ _ ?_)
 refine wp_ret ?_
 refine ret_block ?_
 refine ret_then ?_
 refine ret_then ?_
 refine ret_block ?_
 refine ret_then ?_
 obtain rfl := Option.some.inj hm
 exact post_ret Tryz.results93 hf (.tmp rfl .nil) ⟨rfl, hO.below⟩
 have hm := ie hc19 hm
 refine wp_skip ?_
 refine nor_block ?_
 refine nor_then (hK21 _ _ ?_)
 refine wp_region_list ?_
 obtain ⟨i22, hi22, hm⟩ := ob hm
 refine op_val (ex_add hf rfl rfl hi22) rfl hf rfl rfl fun a hf => ?_
 refine op_mv hf rfl rfl fun a hf => ?_
 refine wpList_nil ?_
 refine nor_then ?_
 exact ⟨_, Nat.lt_succ_self _, i22, (hf.cons rfl (hf.cons rfl (hf.cons rfl (hf.cons rfl hf.nil)))), hO, hm⟩
 have hm := ie hc9 hm
 refine wp_exit ?_
 refine exit_then ?_
 refine exit_then ?_
 refine exit_here ?_
 refine nor_then (hK23 _ _ ?_)
 refine wp_seq_k fun _ hK24 => ?_
 refine wp_region_list ?_
 refine op_as hf rfl rfl fun a hf => ?_
 refine wpList_nil ?_
 refine nor_then (hK24 _ _ ?_)
 refine wp_ret ?_
 obtain rfl := Option.some.inj hm
 exact post_ret Tryz.results93 hf (.tmp rfl .nil) ⟨rfl, hO.below⟩
 exact ⟨0, (hf.cons rfl (hf.cons rfl (hf.cons rfl (hf.cons rfl hf.nil)))), hO, hm⟩

end Go.Proofs
