/-
  Walks, written by a program (wip/gen): what its model says, the function returns; what was there before is as it was.
-/
import Derived.Test.YtgdhdeemlhllpabGreatDoorLib
import Derived.Test.YtgdhdeemlhllpabGreatDoorW6
import Derived.Test.YtgdhdeemlhllpabGreatDoorW7
import Derived.Test.YtgdhdeemlhllpabGreatDoorW8
import Derived.Test.YtgdhdeemlhllpabGreatDoorW9
set_option linter.unusedVariables false
set_option linter.unusedSimpArgs false
set_option maxRecDepth 100000
namespace Go.Proofs
open Go.Dk Go.Dm Go.RowKit

set_option maxHeartbeats 1000000 in
theorem w_ref28_Set (x_a0 : api_Cookie) (x_a1 : Str) (x_a2 : Str) (R : api_Cookie) (w0 : World) (hG : Glob w0) {x_a0_p0 : Option Addr} {x_a0_c0 : Nat} (hs0 : Sees w0 x_a0_p0 (cells enc_api_Attr x_a0.Attrs)) (hc0 : x_a0.Attrs.length ≤ x_a0_c0) (hm : ref28_Set x_a0 x_a1 x_a2 = some R) :
    Calls Tryz.prog 79 #[.agg #[str x_a0.Name, str x_a0.Value, .slice x_a0_p0 x_a0.Attrs.length x_a0_c0], str x_a1, str x_a2] w0 fun e w' => ∃ (p0 : Option Addr) (c0 : Nat), e = .returned (.agg #[str R.Name, str R.Value, .slice p0 R.Attrs.length c0]) ∧ Dk.Own w0 [] w' [.row (.slice p0 R.Attrs.length c0) 64 3 R.Attrs.length (cells enc_api_Attr R.Attrs)] := by
 rw [ref28_Set] at hm
 refine calls_enter (vs := [.agg #[str x_a0.Name, str x_a0.Value, .slice x_a0_p0 x_a0.Attrs.length x_a0_c0], str x_a1, str x_a2]) Tryz.func79 rfl Tryz.ntmps79 rfl fun a hf => ?_
 have hF : Away [] := away_nil
 have hO : Dk.Own w0 [] w0 [] := Dk.Own.refl w0
 have hO := hO.addShr hs0 (by simp [Res.shared])
 refine wp_seq_k fun _ hK3 => ?_
 refine wp_region_list ?_
 refine op_box (v := .agg #[str x_a0.Name, str x_a0.Value, .slice x_a0_p0 x_a0.Attrs.length x_a0_c0]) (cs := [str x_a0.Name, str x_a0.Value, .slice x_a0_p0 x_a0.Attrs.length x_a0_c0]) rfl hf rfl rfl hO fun a b1 w hf hO => ?_
 refine op_alloc al_31 hf rfl hO fun a b2 w hf hO => ?_
 have hO := hO.nilRow 64 3
 refine wpList_nil ?_
 refine nor_then (hK3 _ _ ?_)
 refine wp_seq_k fun _ hK5 => ?_
 refine wp_region_list ?_
 refine op_val (ex_loadN (o := 0) (vs := [str x_a0.Name, str x_a0.Value, .slice x_a0_p0 x_a0.Attrs.length x_a0_c0]) ag_31 sz_31 (hO.blkSees (i := 2) rfl) rfl rfl hf rfl) rfl hf rfl rfl fun a hf => ?_
 refine op_mv hf rfl rfl fun a hf => ?_
 obtain ⟨r4, hr4, hm⟩ := ob hm
 refine op_enter (ex_call c_36 hf (vs := [.agg #[str x_a0.Name, str x_a0.Value, .slice x_a0_p0 x_a0.Attrs.length x_a0_c0], str x_a1]) rfl) rfl hf rfl rfl (w_ref28_Place x_a0 x_a1 r4 _ (hG.own hF hO) (hO.sees (i := 3) rfl) hc0 hr4) ?_
 rintro e w' ⟨he, hb⟩
 refine ⟨_, he, fun a hf => ?_⟩
 have hO := hO.grow hb
 refine op_as hf rfl rfl fun a hf => ?_
 refine wpList_nil ?_
 refine nor_then (hK5 _ _ ?_)
 refine wp_seq_k fun _ hK7 => ?_
 refine wp_region_list ?_
 refine op_val (ex_field fa_31_0 hf rfl) rfl hf rfl rfl fun a hf => ?_
 refine op_val (ex_load1 (o := 0) ag_9 (hO.blkSees (i := 2) rfl) rfl hf rfl) rfl hf rfl rfl fun a hf => ?_
 refine op_val (ex_field fa_31_1 hf rfl) rfl hf rfl rfl fun a hf => ?_
 refine op_val (ex_load1 (o := 1) ag_9 (hO.blkSees (i := 2) rfl) rfl hf rfl) rfl hf rfl rfl fun a hf => ?_
 refine op_val (ex_build (vs := [(0, str x_a0.Name), (1, str x_a0.Value)]) (v := .agg #[str x_a0.Name, str x_a0.Value, .slice none 0 0]) hf rfl (by kernel_rfl)) rfl hf rfl rfl fun a hf => ?_
 refine op_alloc al_31 hf rfl hO fun a b6 w hf hO => ?_
 have hO := hO.nilRow 64 3
 refine op_storeN (i := 1) (n := 3) sz_31 rfl rfl rfl (by simp [Value.oneCell']) hf rfl rfl hO fun w hO => ?_
 have hO := hO.nilRow 64 3
 refine wpList_nil ?_
 refine nor_then (hK7 _ _ ?_)
 refine wp_seq_cut (fun a w => ∃ (s41 : Str) (s42 : Str) (p43 : Option Addr) (c44 : Nat) (l45 : List api_Attr), Fits 66 [(1, str x_a1), (2, str x_a2), (6, ptr b2 0), (7, int r4), (8, ptr b6 0)] a ∧ Dk.Own w0 [] w [.row (.slice p43 l45.length c44) 64 3 l45.length (cells enc_api_Attr l45), .row (.slice none 0 0) 64 3 0 (cells enc_api_Attr []), .blk b6 [str s41, str s42, .slice p43 l45.length c44] 31, .row (.slice none 0 0) 64 3 0 (cells enc_api_Attr []), .blk b2 [str [], str [], .slice none 0 0] 31, .blk b1 [str x_a0.Name, str x_a0.Value, .slice x_a0_p0 x_a0.Attrs.length x_a0_c0] 31, .shr x_a0_p0 (cells enc_api_Attr x_a0.Attrs)] ∧ ref28_Set_j3 x_a1 x_a2 r4 s41 s42 l45 = some R) ?_ ?_
 refine wp_seq_k fun _ hK8 => ?_
 refine wp_region_list ?_
 refine op_as hf rfl rfl fun a hf => ?_
 refine wpList_nil ?_
 refine nor_then (hK8 _ _ ?_)
 refine wp_block ?_
 refine wp_loop_n (fun k a w => ∃ (p9 : Option Addr) (c10 : Nat) (l11 : List api_Attr) (s12 : Str) (s13 : Str) (i14 : Int), Fits 66 [(1, str x_a1), (2, str x_a2), (3, ptr b1 0), (6, ptr b2 0), (7, int r4), (8, ptr b6 0), (9, int i14)] a ∧ Dk.Own w0 [] w [.row (.slice p9 l11.length c10) 64 3 l11.length (cells enc_api_Attr l11), .row (.slice none 0 0) 64 3 0 (cells enc_api_Attr []), .blk b6 [str s12, str s13, .slice p9 l11.length c10] 31, .row (.slice none 0 0) 64 3 0 (cells enc_api_Attr []), .blk b2 [str [], str [], .slice none 0 0] 31, .blk b1 [str x_a0.Name, str x_a0.Value, .slice x_a0_p0 x_a0.Attrs.length x_a0_c0] 31, .shr x_a0_p0 (cells enc_api_Attr x_a0.Attrs)] ∧ ref28_Set_L1 x_a0 x_a1 x_a2 r4 k l11 s12 s13 i14 = some R) ?_ fuel ?_
 rintro n1 a w ⟨p9, c10, l11, s12, s13, i14, hf, hO, hm⟩
 obtain _ | n1 := n1
 rw [ref28_Set_L1] at hm
 cases hm
 rw [ref28_Set_L1] at hm
 refine wp_seq_k fun _ hK17 => ?_
 refine wp_seq_k fun _ hK15 => ?_
 refine wp_region_list ?_
 refine op_mv hf rfl rfl fun a hf => ?_
 refine op_val (ex_field fa_31_2 hf rfl) rfl hf rfl rfl fun a hf => ?_
 refine op_val (ex_load1 (o := 2) ag_29 (hO.blkSees (i := 5) rfl) rfl hf rfl) rfl hf rfl rfl fun a hf => ?_
 refine op_val (ex_len_l Tryz.underlying29 hf rfl) rfl hf rfl rfl fun a hf => ?_
 refine op_val (ex_lss (m := i14) (n := (x_a0.Attrs.length : Int)) hf rfl rfl) rfl hf rfl rfl fun a hf => ?_
 refine wpList_nil ?_
 refine nor_then (hK15 _ _ ?_)
 refine wp_cond_cut hf rfl (fun hc16 => ?_) (fun hc16 => ?_)
 have hm := it hc16 hm
 refine wp_skip ?_
 refine nor_then (hK17 _ _ ?_)
 refine wp_seq_cut (fun a w => ∃ (p37 : Option Addr) (c38 : Nat) (l39 : List api_Attr), Fits 66 [(1, str x_a1), (2, str x_a2), (3, ptr b1 0), (6, ptr b2 0), (7, int r4), (8, ptr b6 0), (9, int i14)] a ∧ Dk.Own w0 [] w [.row (.slice p37 l39.length c38) 64 3 l39.length (cells enc_api_Attr l39), .row (.slice none 0 0) 64 3 0 (cells enc_api_Attr []), .blk b6 [str s12, str s13, .slice p37 l39.length c38] 31, .row (.slice none 0 0) 64 3 0 (cells enc_api_Attr []), .blk b2 [str [], str [], .slice none 0 0] 31, .blk b1 [str x_a0.Name, str x_a0.Value, .slice x_a0_p0 x_a0.Attrs.length x_a0_c0] 31, .shr x_a0_p0 (cells enc_api_Attr x_a0.Attrs)] ∧ ref28_Set_j2 (ref28_Set_L1 x_a0 x_a1 x_a2 r4 n1) s12 s13 i14 l39 = some R) ?_ ?_
 refine wp_block ?_
 refine wp_seq_k fun _ hK22 => ?_
 refine wp_region_list ?_
 refine op_val (ex_field fa_31_2 hf rfl) rfl hf rfl rfl fun a hf => ?_
 refine op_val (ex_load1 (o := 2) ag_29 (hO.blkSees (i := 5) rfl) rfl hf rfl) rfl hf rfl rfl fun a hf => ?_
 refine op_mv hf rfl rfl fun a hf => ?_
 obtain ⟨x18, hx18, hm⟩ := ob hm
 obtain ⟨b19, o20, hix18, hSx18⟩ := elemAt (enc := enc_api_Attr) (sz := 3) (xs := x_a0.Attrs) 29 Tryz.underlying29 sz_64 (by decide) (fun _ => rfl) (hO.sees (i := 6) rfl) hx18
 refine op_val (ex_indexAddr hix18 hf rfl rfl) rfl hf rfl rfl fun a hf => ?_
 refine op_val (ex_loadN (o := 0) (vs := [str x18.Name, str x18.Value, .bool x18.Has]) ag_64 sz_64 (hSx18 _ (hO.sees (i := 6) rfl)) rfl rfl hf rfl) rfl hf rfl rfl fun a hf => ?_
 refine op_alloc al_64 hf rfl hO fun a b21 w hf hO => ?_
 refine op_storeN (i := 0) (n := 3) sz_64 rfl rfl rfl (by simp [Value.oneCell']) hf rfl rfl hO fun w hO => ?_
 refine wpList_nil ?_
 refine nor_then (hK22 _ _ ?_)
 refine wp_seq_k fun _ hK23 => ?_
 refine wp_region_list ?_
 refine op_mv hf rfl rfl fun a hf => ?_
 refine op_mv hf rfl rfl fun a hf => ?_
 refine op_val (ex_eql (m := i14) (n := r4) hf rfl rfl) rfl hf rfl rfl fun a hf => ?_
 refine wpList_nil ?_
 refine nor_then (hK23 _ _ ?_)
 refine wp_cond_cut hf rfl (fun hc24 => ?_) (fun hc24 => ?_)
 have hm := it hc24 hm
 refine wp_region_list ?_
 refine op_val (ex_field fa_31_2 hf rfl) rfl hf rfl rfl fun a hf => ?_
 refine op_val (ex_load1 (o := 2) ag_29 (hO.blkSees (i := 3) rfl) rfl hf rfl) rfl hf rfl rfl fun a hf => ?_
 refine op_val (ex_field fa_64_0 hf rfl) rfl hf rfl rfl fun a hf => ?_
 refine op_val (ex_load1 (o := 0) ag_9 (hO.blkSees (i := 0) rfl) rfl hf rfl) rfl hf rfl rfl fun a hf => ?_
 refine op_mv hf rfl rfl fun a hf => ?_
 refine op_val (ex_build (vs := [(0, str x18.Name), (1, str x_a2), (2, .bool true)]) (v := .agg #[str x18.Name, str x_a2, .bool true]) hf rfl (by kernel_rfl)) rfl hf rfl rfl fun a hf => ?_
 refine op_buildSlice (vs := [(0, .agg #[str x18.Name, str x_a2, .bool true])]) (cs := [str x18.Name, str x_a2, .bool true]) (e := 64) (sz := 3) hf rfl rfl (fun w => by kernel_rfl) rfl rfl hO fun a b25 w hf hO => ?_
 obtain ⟨hg28, hm⟩ := og hm
 refine op_appendT el_29 (enc := enc_api_Attr) (xs := l11) (ys := [(⟨x18.Name, x_a2, true⟩ : api_Attr)]) (i := 2) (fun _ => rfl) rfl (hO.rowSees (i := 0) rfl) (by simp [cells, enc_api_Attr, Value.oneCell']) hg28 hf rfl rfl rfl hO fun a p26 c27 w hf hO => ?_
 refine op_val (ex_field fa_31_2 hf rfl) rfl hf rfl rfl fun a hf => ?_
 refine op_store1 (i := 4) (o := 2) (v := .slice p26 ((l11 ++ [(⟨x18.Name, x_a2, true⟩ : api_Attr)]).length) c27) sz_29 rfl rfl rfl rfl hf rfl rfl hO fun w hO => ?_
 refine wpList_nil ?_
 refine nor_block ?_
 refine nor_then ?_
 exact ⟨p26, c27, l11 ++ [(⟨x18.Name, x_a2, true⟩ : api_Attr)], (hf.cons rfl (hf.cons rfl (hf.cons rfl (hf.cons rfl (hf.cons rfl (hf.cons rfl (hf.cons rfl hf.nil))))))), (hO.sub (.cons _ (.cons _ (.cons_cons _ (.cons_cons _ (.cons_cons _ (.cons_cons _ (.cons_cons _ (.cons_cons _ (.cons_cons _ .slnil)))))))))), hm⟩
 have hm := ie hc24 hm
 refine wp_seq_k fun _ hK31 => ?_
 refine wp_region_list ?_
 refine op_val (ex_field fa_64_0 hf rfl) rfl hf rfl rfl fun a hf => ?_
 refine op_val (ex_load1 (o := 0) ag_9 (hO.blkSees (i := 0) rfl) rfl hf rfl) rfl hf rfl rfl fun a hf => ?_
 obtain ⟨r29, hr29, hm⟩ := ob hm
 refine op_enter (ex_call c_70 hf (vs := [str x18.Name]) rfl) rfl hf rfl rfl (w_ref01_Fold x18.Name r29 _ (hG.own hF hO) hr29) ?_
 rintro e w' ⟨he, hb⟩
 refine ⟨_, he, fun a hf => ?_⟩
 have hO := hO.grow hb
 refine op_mv hf rfl rfl fun a hf => ?_
 obtain ⟨r30, hr30, hm⟩ := ob hm
 refine op_enter (ex_call c_70 hf (vs := [str x_a1]) rfl) rfl hf rfl rfl (w_ref01_Fold x_a1 r30 _ (hG.own hF hO) hr30) ?_
 rintro e w' ⟨he, hb⟩
 refine ⟨_, he, fun a hf => ?_⟩
 have hO := hO.grow hb
 refine op_val (ex_neq_s (l := r29) (m := r30) hf rfl rfl) rfl hf rfl rfl fun a hf => ?_
 refine wpList_nil ?_
 refine nor_then (hK31 _ _ ?_)
 refine wp_cond_cut hf rfl (fun hc32 => ?_) (fun hc32 => ?_)
 have hm := it hc32 hm
 refine wp_region_list ?_
 refine op_val (ex_field fa_31_2 hf rfl) rfl hf rfl rfl fun a hf => ?_
 refine op_val (ex_load1 (o := 2) ag_29 (hO.blkSees (i := 3) rfl) rfl hf rfl) rfl hf rfl rfl fun a hf => ?_
 refine op_val (ex_loadN (o := 0) (vs := [str x18.Name, str x18.Value, .bool x18.Has]) ag_64 sz_64 (hO.blkSees (i := 0) rfl) rfl rfl hf rfl) rfl hf rfl rfl fun a hf => ?_
 refine op_buildSlice (vs := [(0, .agg #[str x18.Name, str x18.Value, .bool x18.Has])]) (cs := [str x18.Name, str x18.Value, .bool x18.Has]) (e := 64) (sz := 3) hf rfl rfl (fun w => by kernel_rfl) rfl rfl hO fun a b33 w hf hO => ?_
 obtain ⟨hg36, hm⟩ := og hm
 refine op_appendT el_29 (enc := enc_api_Attr) (xs := l11) (ys := [x18]) (i := 2) (fun _ => rfl) rfl (hO.rowSees (i := 0) rfl) (by simp [cells, enc_api_Attr, Value.oneCell']) hg36 hf rfl rfl rfl hO fun a p34 c35 w hf hO => ?_
 refine op_val (ex_field fa_31_2 hf rfl) rfl hf rfl rfl fun a hf => ?_
 refine op_store1 (i := 4) (o := 2) (v := .slice p34 ((l11 ++ [x18]).length) c35) sz_29 rfl rfl rfl rfl hf rfl rfl hO fun w hO => ?_
 refine wpList_nil ?_
 refine nor_block ?_
 refine nor_then ?_
 exact ⟨p34, c35, l11 ++ [x18], (hf.cons rfl (hf.cons rfl (hf.cons rfl (hf.cons rfl (hf.cons rfl (hf.cons rfl (hf.cons rfl hf.nil))))))), (hO.sub (.cons _ (.cons _ (.cons_cons _ (.cons_cons _ (.cons_cons _ (.cons_cons _ (.cons_cons _ (.cons_cons _ (.cons_cons _ .slnil)))))))))), hm⟩
 have hm := ie hc32 hm
 refine wp_skip ?_
 refine nor_block ?_
 refine nor_then ?_
 exact ⟨p9, c10, l11, (hf.cons rfl (hf.cons rfl (hf.cons rfl (hf.cons rfl (hf.cons rfl (hf.cons rfl (hf.cons rfl hf.nil))))))), (hO.sub (.cons _ (.cons_cons _ (.cons_cons _ (.cons_cons _ (.cons_cons _ (.cons_cons _ (.cons_cons _ (.cons_cons _ .slnil))))))))), hm⟩
 rintro a w ⟨p37, c38, l39, hf, hO, hm⟩
 rw [ref28_Set_j2] at hm
 refine wp_region_list ?_
 refine op_mv hf rfl rfl fun a hf => ?_
 obtain ⟨i40, hi40, hm⟩ := ob hm
 refine op_val (ex_add hf rfl rfl hi40) rfl hf rfl rfl fun a hf => ?_
 refine op_as hf rfl rfl fun a hf => ?_
 refine wpList_nil ?_
 refine nor_then ?_
 exact ⟨_, Nat.lt_succ_self _, p37, c38, l39, s12, s13, i40, (hf.cons rfl (hf.cons rfl (hf.cons rfl (hf.cons rfl (hf.cons rfl (hf.cons rfl (hf.cons rfl hf.nil))))))), hO, hm⟩
 have hm := ie hc16 hm
 refine wp_exit ?_
 refine exit_then ?_
 refine exit_then ?_
 refine exit_here ?_
 refine nor_then ?_
 exact ⟨s12, s13, p9, c10, l11, (hf.cons rfl (hf.cons rfl (hf.cons rfl (hf.cons rfl (hf.cons rfl hf.nil))))), hO, hm⟩
 exact ⟨none, 0, [], x_a0.Name, x_a0.Value, 0, (hf.cons rfl (hf.cons rfl (hf.cons rfl (hf.cons rfl (hf.cons rfl (hf.cons rfl (hf.cons rfl hf.nil))))))), hO, hm⟩
 rintro a w ⟨s41, s42, p43, c44, l45, hf, hO, hm⟩
 rw [ref28_Set_j3] at hm
 refine wp_seq_cut (fun a w => ∃ (p52 : Option Addr) (c53 : Nat) (l54 : List api_Attr), Fits 66 [(6, ptr b2 0), (8, ptr b6 0)] a ∧ Dk.Own w0 [] w [.row (.slice p52 l54.length c53) 64 3 l54.length (cells enc_api_Attr l54), .row (.slice none 0 0) 64 3 0 (cells enc_api_Attr []), .blk b6 [str s41, str s42, .slice p52 l54.length c53] 31, .row (.slice none 0 0) 64 3 0 (cells enc_api_Attr []), .blk b2 [str [], str [], .slice none 0 0] 31, .blk b1 [str x_a0.Name, str x_a0.Value, .slice x_a0_p0 x_a0.Attrs.length x_a0_c0] 31, .shr x_a0_p0 (cells enc_api_Attr x_a0.Attrs)] ∧ ref28_Set_j4 s41 s42 l54 = some R) ?_ ?_
 refine wp_seq_k fun _ hK46 => ?_
 refine wp_region_list ?_
 refine op_mv hf rfl rfl fun a hf => ?_
 refine op_val (ex_lss (m := r4) (n := 0) hf rfl rfl) rfl hf rfl rfl fun a hf => ?_
 refine wpList_nil ?_
 refine nor_then (hK46 _ _ ?_)
 refine wp_cond_cut hf rfl (fun hc47 => ?_) (fun hc47 => ?_)
 have hm := it hc47 hm
 refine wp_region_list ?_
 refine op_val (ex_field fa_31_2 hf rfl) rfl hf rfl rfl fun a hf => ?_
 refine op_val (ex_load1 (o := 2) ag_29 (hO.blkSees (i := 2) rfl) rfl hf rfl) rfl hf rfl rfl fun a hf => ?_
 refine op_mv hf rfl rfl fun a hf => ?_
 refine op_mv hf rfl rfl fun a hf => ?_
 refine op_val (ex_build (vs := [(0, str x_a1), (1, str x_a2), (2, .bool true)]) (v := .agg #[str x_a1, str x_a2, .bool true]) hf rfl (by kernel_rfl)) rfl hf rfl rfl fun a hf => ?_
 refine op_buildSlice (vs := [(0, .agg #[str x_a1, str x_a2, .bool true])]) (cs := [str x_a1, str x_a2, .bool true]) (e := 64) (sz := 3) hf rfl rfl (fun w => by kernel_rfl) rfl rfl hO fun a b48 w hf hO => ?_
 obtain ⟨hg51, hm⟩ := og hm
 refine op_appendT el_29 (enc := enc_api_Attr) (xs := l45) (ys := [(⟨x_a1, x_a2, true⟩ : api_Attr)]) (i := 1) (fun _ => rfl) rfl (hO.rowSees (i := 0) rfl) (by simp [cells, enc_api_Attr, Value.oneCell']) hg51 hf rfl rfl rfl hO fun a p49 c50 w hf hO => ?_
 refine op_val (ex_field fa_31_2 hf rfl) rfl hf rfl rfl fun a hf => ?_
 refine op_store1 (i := 3) (o := 2) (v := .slice p49 ((l45 ++ [(⟨x_a1, x_a2, true⟩ : api_Attr)]).length) c50) sz_29 rfl rfl rfl rfl hf rfl rfl hO fun w hO => ?_
 refine wpList_nil ?_
 refine nor_then ?_
 exact ⟨p49, c50, l45 ++ [(⟨x_a1, x_a2, true⟩ : api_Attr)], (hf.cons rfl (hf.cons rfl hf.nil)), (hO.sub (.cons _ (.cons_cons _ (.cons_cons _ (.cons_cons _ (.cons_cons _ (.cons_cons _ (.cons_cons _ (.cons_cons _ .slnil))))))))), hm⟩
 have hm := ie hc47 hm
 refine wp_skip ?_
 refine nor_then ?_
 exact ⟨p43, c44, l45, (hf.cons rfl (hf.cons rfl hf.nil)), hO, hm⟩
 rintro a w ⟨p52, c53, l54, hf, hO, hm⟩
 rw [ref28_Set_j4] at hm
 refine wp_seq_k fun _ hK55 => ?_
 refine wp_region_list ?_
 refine op_val (ex_loadN (o := 0) (vs := [str s41, str s42, .slice p52 l54.length c53]) ag_31 sz_31 (hO.blkSees (i := 2) rfl) rfl rfl hf rfl) rfl hf rfl rfl fun a hf => ?_
 refine op_storeN (i := 4) (n := 3) sz_31 rfl rfl rfl (by simp [Value.oneCell']) hf rfl rfl hO fun w hO => ?_
 refine wpList_nil ?_
 refine nor_then (hK55 _ _ ?_)
 refine wp_ret ?_
 obtain rfl := Option.some.inj hm
 exact post_ret Tryz.results79 hf (.cell rfl (run_loadVarN (n := 3) (vs := [str s41, str s42, .slice p52 l54.length c53]) ag_31 sz_31 rfl ((hO.blkSees (i := 4) rfl).cells (o := 0) (n := 3) rfl)) .nil) ⟨p52, c53, rfl, (hO.sub (.cons_cons _ (.cons _ (.cons _ (.cons _ (.cons _ (.cons _ (.cons _ .slnil))))))))⟩

set_option maxHeartbeats 1000000 in
theorem w_ref28_Text (x_c : api_Cookie) (R : Str × Int) (w0 : World) (hG : Glob w0) {x_c_p0 : Option Addr} {x_c_c0 : Nat} (hs0 : Sees w0 x_c_p0 (cells enc_api_Attr x_c.Attrs)) (hc0 : x_c.Attrs.length ≤ x_c_c0) (hm : ref28_Text x_c = some R) :
    Calls Tryz.prog 78 #[.agg #[str x_c.Name, str x_c.Value, .slice x_c_p0 x_c.Attrs.length x_c_c0]] w0 fun e w' => e = .returned (.tuple #[str R.1, int R.2]) ∧ Below w0.heap.size w0 w' := by
 rw [ref28_Text] at hm
 refine calls_enter (vs := [.agg #[str x_c.Name, str x_c.Value, .slice x_c_p0 x_c.Attrs.length x_c_c0]]) Tryz.func78 rfl Tryz.ntmps78 rfl fun a hf => ?_
 have hF : Away [] := away_nil
 have hO : Dk.Own w0 [] w0 [] := Dk.Own.refl w0
 have hO := hO.addShr hs0 (by simp [Res.shared])
 refine wp_seq_k fun _ hK2 => ?_
 refine wp_region_list ?_
 refine op_box (v := .agg #[str x_c.Name, str x_c.Value, .slice x_c_p0 x_c.Attrs.length x_c_c0]) (cs := [str x_c.Name, str x_c.Value, .slice x_c_p0 x_c.Attrs.length x_c_c0]) rfl hf rfl rfl hO fun a b1 w hf hO => ?_
 refine op_as hf rfl rfl fun a hf => ?_
 refine op_as hf rfl rfl fun a hf => ?_
 refine wpList_nil ?_
 refine nor_then (hK2 _ _ ?_)
 refine wp_seq_k fun _ hK5 => ?_
 refine wp_region_list ?_
 refine op_val (ex_field fa_31_0 hf rfl) rfl hf rfl rfl fun a hf => ?_
 refine op_val (ex_load1 (o := 0) ag_9 (hO.blkSees (i := 0) rfl) rfl hf rfl) rfl hf rfl rfl fun a hf => ?_
 obtain ⟨s3, hs3, hm⟩ := ob hm
 refine op_val (ex_cat (l := x_c.Name) (m := [61]) hf rfl rfl hs3) rfl hf rfl rfl fun a hf => ?_
 refine op_val (ex_field fa_31_1 hf rfl) rfl hf rfl rfl fun a hf => ?_
 refine op_val (ex_load1 (o := 1) ag_9 (hO.blkSees (i := 0) rfl) rfl hf rfl) rfl hf rfl rfl fun a hf => ?_
 obtain ⟨s4, hs4, hm⟩ := ob hm
 refine op_val (ex_cat (l := s3) (m := x_c.Value) hf rfl rfl hs4) rfl hf rfl rfl fun a hf => ?_
 refine op_as hf rfl rfl fun a hf => ?_
 refine wpList_nil ?_
 refine nor_then (hK5 _ _ ?_)
 refine wp_seq_k fun _ hK30 => ?_
 refine wp_seq_k fun _ hK6 => ?_
 refine wp_region_list ?_
 refine op_as hf rfl rfl fun a hf => ?_
 refine wpList_nil ?_
 refine nor_then (hK6 _ _ ?_)
 refine wp_block ?_
 refine wp_loop_n (fun k a w => ∃ (s7 : Str) (i8 : Int), Fits 59 [(1, ptr b1 0), (4, str s7), (5, int i8)] a ∧ Dk.Own w0 [] w [.blk b1 [str x_c.Name, str x_c.Value, .slice x_c_p0 x_c.Attrs.length x_c_c0] 31, .shr x_c_p0 (cells enc_api_Attr x_c.Attrs)] ∧ ref28_Text_L1 x_c k s7 i8 = some R) ?_ fuel ?_
 rintro n1 a w ⟨s7, i8, hf, hO, hm⟩
 obtain _ | n1 := n1
 rw [ref28_Text_L1] at hm
 cases hm
 rw [ref28_Text_L1] at hm
 refine wp_seq_k fun _ hK11 => ?_
 refine wp_seq_k fun _ hK9 => ?_
 refine wp_region_list ?_
 refine op_mv hf rfl rfl fun a hf => ?_
 refine op_val (ex_field fa_31_2 hf rfl) rfl hf rfl rfl fun a hf => ?_
 refine op_val (ex_load1 (o := 2) ag_29 (hO.blkSees (i := 0) rfl) rfl hf rfl) rfl hf rfl rfl fun a hf => ?_
 refine op_val (ex_len_l Tryz.underlying29 hf rfl) rfl hf rfl rfl fun a hf => ?_
 refine op_val (ex_lss (m := i8) (n := (x_c.Attrs.length : Int)) hf rfl rfl) rfl hf rfl rfl fun a hf => ?_
 refine wpList_nil ?_
 refine nor_then (hK9 _ _ ?_)
 refine wp_cond_cut hf rfl (fun hc10 => ?_) (fun hc10 => ?_)
 have hm := it hc10 hm
 refine wp_skip ?_
 refine nor_then (hK11 _ _ ?_)
 refine wp_seq_cut (fun a w => ∃ (s28 : Str), Fits 59 [(1, ptr b1 0), (4, str s28), (5, int i8)] a ∧ Dk.Own w0 [] w [.blk b1 [str x_c.Name, str x_c.Value, .slice x_c_p0 x_c.Attrs.length x_c_c0] 31, .shr x_c_p0 (cells enc_api_Attr x_c.Attrs)] ∧ ref28_Text_j2 (ref28_Text_L1 x_c n1) i8 s28 = some R) ?_ ?_
 refine wp_block ?_
 refine wp_seq_k fun _ hK17 => ?_
 refine wp_region_list ?_
 refine op_mv hf rfl rfl fun a hf => ?_
 obtain ⟨s12, hs12, hm⟩ := ob hm
 refine op_val (ex_cat (l := s7) (m := [59, 32]) hf rfl rfl hs12) rfl hf rfl rfl fun a hf => ?_
 refine op_val (ex_field fa_31_2 hf rfl) rfl hf rfl rfl fun a hf => ?_
 refine op_val (ex_load1 (o := 2) ag_29 (hO.blkSees (i := 0) rfl) rfl hf rfl) rfl hf rfl rfl fun a hf => ?_
 refine op_mv hf rfl rfl fun a hf => ?_
 obtain ⟨x13, hx13, hm⟩ := ob hm
 obtain ⟨b14, o15, hix13, hSx13⟩ := elemAt (enc := enc_api_Attr) (sz := 3) (xs := x_c.Attrs) 29 Tryz.underlying29 sz_64 (by decide) (fun _ => rfl) (hO.sees (i := 1) rfl) hx13
 refine op_val (ex_indexAddr hix13 hf rfl rfl) rfl hf rfl rfl fun a hf => ?_
 refine op_val (ex_field fa_64_0 hf rfl) rfl hf rfl rfl fun a hf => ?_
 refine op_val (ex_load1 (o := 0) ag_9 (hSx13 _ (hO.sees (i := 1) rfl)) rfl hf rfl) rfl hf rfl rfl fun a hf => ?_
 obtain ⟨s16, hs16, hm⟩ := ob hm
 refine op_val (ex_cat (l := s12) (m := x13.Name) hf rfl rfl hs16) rfl hf rfl rfl fun a hf => ?_
 refine op_as hf rfl rfl fun a hf => ?_
 refine wpList_nil ?_
 refine nor_then (hK17 _ _ ?_)
 refine wp_seq_k fun _ hK21 => ?_
 refine wp_region_list ?_
 refine op_val (ex_field fa_31_2 hf rfl) rfl hf rfl rfl fun a hf => ?_
 refine op_val (ex_load1 (o := 2) ag_29 (hO.blkSees (i := 0) rfl) rfl hf rfl) rfl hf rfl rfl fun a hf => ?_
 refine op_mv hf rfl rfl fun a hf => ?_
 obtain ⟨x18, hx18, hm⟩ := ob hm
 obtain ⟨b19, o20, hix18, hSx18⟩ := elemAt (enc := enc_api_Attr) (sz := 3) (xs := x_c.Attrs) 29 Tryz.underlying29 sz_64 (by decide) (fun _ => rfl) (hO.sees (i := 1) rfl) hx18
 refine op_val (ex_indexAddr hix18 hf rfl rfl) rfl hf rfl rfl fun a hf => ?_
 refine op_val (ex_field fa_64_2 hf rfl) rfl hf rfl rfl fun a hf => ?_
 refine op_val (ex_load1 (o := 2) ag_4 (hSx18 _ (hO.sees (i := 1) rfl)) rfl hf rfl) rfl hf rfl rfl fun a hf => ?_
 refine wpList_nil ?_
 refine nor_then (hK21 _ _ ?_)
 refine wp_cond_cut hf rfl (fun hc22 => ?_) (fun hc22 => ?_)
 have hm := it hc22 hm
 refine wp_region_list ?_
 refine op_mv hf rfl rfl fun a hf => ?_
 obtain ⟨s23, hs23, hm⟩ := ob hm
 refine op_val (ex_cat (l := s16) (m := [61]) hf rfl rfl hs23) rfl hf rfl rfl fun a hf => ?_
 refine op_val (ex_field fa_31_2 hf rfl) rfl hf rfl rfl fun a hf => ?_
 refine op_val (ex_load1 (o := 2) ag_29 (hO.blkSees (i := 0) rfl) rfl hf rfl) rfl hf rfl rfl fun a hf => ?_
 refine op_mv hf rfl rfl fun a hf => ?_
 obtain ⟨x24, hx24, hm⟩ := ob hm
 obtain ⟨b25, o26, hix24, hSx24⟩ := elemAt (enc := enc_api_Attr) (sz := 3) (xs := x_c.Attrs) 29 Tryz.underlying29 sz_64 (by decide) (fun _ => rfl) (hO.sees (i := 1) rfl) hx24
 refine op_val (ex_indexAddr hix24 hf rfl rfl) rfl hf rfl rfl fun a hf => ?_
 refine op_val (ex_field fa_64_1 hf rfl) rfl hf rfl rfl fun a hf => ?_
 refine op_val (ex_load1 (o := 1) ag_9 (hSx24 _ (hO.sees (i := 1) rfl)) rfl hf rfl) rfl hf rfl rfl fun a hf => ?_
 obtain ⟨s27, hs27, hm⟩ := ob hm
 refine op_val (ex_cat (l := s23) (m := x24.Value) hf rfl rfl hs27) rfl hf rfl rfl fun a hf => ?_
 refine op_as hf rfl rfl fun a hf => ?_
 refine wpList_nil ?_
 refine nor_block ?_
 refine nor_then ?_
 exact ⟨s27, (hf.cons rfl (hf.cons rfl (hf.cons rfl hf.nil))), hO, hm⟩
 have hm := ie hc22 hm
 refine wp_skip ?_
 refine nor_block ?_
 refine nor_then ?_
 exact ⟨s16, (hf.cons rfl (hf.cons rfl (hf.cons rfl hf.nil))), hO, hm⟩
 rintro a w ⟨s28, hf, hO, hm⟩
 rw [ref28_Text_j2] at hm
 refine wp_region_list ?_
 refine op_mv hf rfl rfl fun a hf => ?_
 obtain ⟨i29, hi29, hm⟩ := ob hm
 refine op_val (ex_add hf rfl rfl hi29) rfl hf rfl rfl fun a hf => ?_
 refine op_as hf rfl rfl fun a hf => ?_
 refine wpList_nil ?_
 refine nor_then ?_
 exact ⟨_, Nat.lt_succ_self _, s28, i29, (hf.cons rfl (hf.cons rfl (hf.cons rfl hf.nil))), hO, hm⟩
 have hm := ie hc10 hm
 refine wp_exit ?_
 refine exit_then ?_
 refine exit_then ?_
 refine exit_here ?_
 refine nor_then (hK30 _ _ ?_)
 refine wp_seq_k fun _ hK35 => ?_
 refine wp_region_list ?_
 refine op_mv hf rfl rfl fun a hf => ?_
 obtain ⟨r31, hr31, hm⟩ := ob hm
 refine op_enter (ex_call c_76 hf (vs := [str s7]) rfl) rfl hf rfl rfl (w_ref28_Parse s7 r31 _ (hG.own hF hO) hr31) ?_
 rintro e w' ⟨p32, c33, he, hO'⟩
 refine ⟨_, he, fun a hf => ?_⟩
 have hO := hO.call hO' (by simp [Res.shared])
 refine op_mv hf rfl rfl fun a hf => ?_
 refine op_val (ex_extract hf rfl rfl) rfl hf rfl rfl fun a hf => ?_
 refine op_val (ex_extract hf rfl rfl) rfl hf rfl rfl fun a hf => ?_
 refine op_alloc al_31 hf rfl hO fun a b34 w hf hO => ?_
 have hO := hO.nilRow 64 3
 refine op_storeN (i := 1) (n := 3) sz_31 rfl rfl rfl (by simp [Value.oneCell']) hf rfl rfl hO fun w hO => ?_
 refine op_as hf rfl rfl fun a hf => ?_
 refine wpList_nil ?_
 refine nor_then (hK35 _ _ ?_)
 refine wp_seq_k fun _ hK41 => ?_
 refine wp_seq_cut (fun a w => ∃ (t38 : Bool), Fits 59 [(4, str s7), (57, .bool t38)] a ∧ Dk.Own w0 [] w [.row (.slice none 0 0) 64 3 0 (cells enc_api_Attr []), .blk b34 [str r31.1.Name, str r31.1.Value, .slice p32 r31.1.Attrs.length c33] 31, .row (.slice p32 r31.1.Attrs.length c33) 64 3 r31.1.Attrs.length (cells enc_api_Attr r31.1.Attrs), .blk b1 [str x_c.Name, str x_c.Value, .slice x_c_p0 x_c.Attrs.length x_c_c0] 31, .shr x_c_p0 (cells enc_api_Attr x_c.Attrs)] ∧ ref28_Text_j3 s7 t38 = some R) ?_ ?_
 refine wp_region_list ?_
 refine op_mv hf rfl rfl fun a hf => ?_
 refine op_val (ex_neq (m := r31.2) (n := 0) hf rfl rfl) rfl hf rfl rfl fun a hf => ?_
 refine op_mv hf rfl rfl fun a hf => ?_
 rcases bcase (!(r31.2 == 0)) with hc36 | hc36
 have hm := it hc36 hm
 refine op_pass rfl hf rfl rfl (hc36) rfl rfl fun a hf => ?_
 refine op_pass rfl hf rfl rfl (hc36) rfl rfl fun a hf => ?_
 refine op_pass rfl hf rfl rfl (hc36) rfl rfl fun a hf => ?_
 refine op_pass rfl hf rfl rfl (hc36) rfl rfl fun a hf => ?_
 refine op_val (ex_pick_t hf rfl hc36 rfl) rfl hf rfl rfl fun a hf => ?_
 refine wpList_nil ?_
 refine nor_then ?_
 exact ⟨true, (hf.cons rfl (hf.cons rfl hf.nil)), hO, hm⟩
 have hm := ie hc36 hm
 refine op_guard rfl hf rfl rfl (hc36) ?_
 refine op_val (ex_loadN (o := 0) (vs := [str r31.1.Name, str r31.1.Value, .slice p32 r31.1.Attrs.length c33]) ag_31 sz_31 (hO.blkSees (i := 1) rfl) rfl rfl hf rfl) rfl hf rfl rfl fun a hf => ?_
 refine op_guard rfl hf rfl rfl (hc36) ?_
 refine op_val (ex_loadN (o := 0) (vs := [str x_c.Name, str x_c.Value, .slice x_c_p0 x_c.Attrs.length x_c_c0]) ag_31 sz_31 (hO.blkSees (i := 3) rfl) rfl rfl hf rfl) rfl hf rfl rfl fun a hf => ?_
 refine op_guard rfl hf rfl rfl (hc36) ?_
 obtain ⟨r37, hr37, hm⟩ := ob hm
 refine op_enter (ex_call c_14 hf (vs := [.agg #[str r31.1.Name, str r31.1.Value, .slice p32 r31.1.Attrs.length c33], .agg #[str x_c.Name, str x_c.Value, .slice x_c_p0 x_c.Attrs.length x_c_c0]]) rfl) rfl hf rfl rfl (w_ref28_Same r31.1 x_c r37 _ (hG.own hF hO) (hO.rowSees (i := 2) rfl) (hO.rowCap (i := 2) rfl) (hO.sees (i := 4) rfl) hc0 hr37) ?_
 rintro e w' ⟨he, hb⟩
 refine ⟨_, he, fun a hf => ?_⟩
 have hO := hO.grow hb
 refine op_guard rfl hf rfl rfl (hc36) ?_
 refine op_val (ex_not hf rfl) rfl hf rfl rfl fun a hf => ?_
 refine op_val (ex_pick_f hf rfl hc36 rfl) rfl hf rfl rfl fun a hf => ?_
 refine wpList_nil ?_
 refine nor_then ?_
 exact ⟨!r37, (hf.cons rfl (hf.cons rfl hf.nil)), hO, hm⟩
 rintro a w ⟨t38, hf, hO, hm⟩
 rw [ref28_Text_j3] at hm
 refine wp_cond_cut hf rfl (fun hc39 => ?_) (fun hc39 => ?_)
 have hm := it hc39 hm
 refine wp_seq_k fun _ hK40 => ?_
 refine wp_region_list ?_
 refine op_as hf rfl rfl fun a hf => ?_
 refine op_as hf rfl rfl fun a hf => ?_
 refine wpList_nil ?_
 refine nor_then (hK40 _ _ ?_)
 refine wp_ret ?_
 refine ret_then ?_
 obtain rfl := Option.some.inj hm
 exact post_ret Tryz.results78 hf (.tmp rfl (.tmp rfl .nil)) ⟨rfl, hO.below⟩
 have hm := ie hc39 hm
 refine wp_skip ?_
 refine nor_then (hK41 _ _ ?_)
 refine wp_seq_k fun _ hK42 => ?_
 refine wp_region_list ?_
 refine op_mv hf rfl rfl fun a hf => ?_
 refine op_as hf rfl rfl fun a hf => ?_
 refine op_as hf rfl rfl fun a hf => ?_
 refine wpList_nil ?_
 refine nor_then (hK42 _ _ ?_)
 refine wp_ret ?_
 obtain rfl := Option.some.inj hm
 exact post_ret Tryz.results78 hf (.tmp rfl (.tmp rfl .nil)) ⟨rfl, hO.below⟩
 exact ⟨s4, 0, (hf.cons rfl (hf.cons rfl (hf.cons rfl hf.nil))), hO, hm⟩

set_option maxHeartbeats 1000000 in
theorem w_ref29_Rewrite (x_s : Str) (x_l : List api_Swap) (R : Str) (w0 : World) (hG : Glob w0) {x_l_p0 : Option Addr} {x_l_c0 : Nat} (hs0 : Sees w0 x_l_p0 (cells enc_api_Swap x_l)) (hc0 : x_l.length ≤ x_l_c0) (hm : ref29_Rewrite x_s x_l = some R) :
    Calls Tryz.prog 43 #[str x_s, .slice x_l_p0 x_l.length x_l_c0] w0 fun e w' => e = .returned (str R) ∧ Below w0.heap.size w0 w' := by
 rw [ref29_Rewrite] at hm
 refine calls_enter (vs := [str x_s, .slice x_l_p0 x_l.length x_l_c0]) Tryz.func43 rfl Tryz.ntmps43 rfl fun a hf => ?_
 have hF : Away [] := away_nil
 have hO : Dk.Own w0 [] w0 [] := Dk.Own.refl w0
 have hO := hO.addShr hs0 (by simp [Res.shared])
 refine wp_seq_k fun _ hK1 => ?_
 refine wp_region_list ?_
 refine op_as hf rfl rfl fun a hf => ?_
 refine wpList_nil ?_
 refine nor_then (hK1 _ _ ?_)
 refine wp_seq_k fun _ hK6 => ?_
 refine wp_region_list ?_
 refine op_mv hf rfl rfl fun a hf => ?_
 obtain ⟨r2, hr2, hm⟩ := ob hm
 refine op_enter (ex_call c_76 hf (vs := [str x_s]) rfl) rfl hf rfl rfl (w_ref28_Parse x_s r2 _ (hG.own hF hO) hr2) ?_
 rintro e w' ⟨p3, c4, he, hO'⟩
 refine ⟨_, he, fun a hf => ?_⟩
 have hO := hO.call hO' (by simp [Res.shared])
 refine op_mv hf rfl rfl fun a hf => ?_
 refine op_val (ex_extract hf rfl rfl) rfl hf rfl rfl fun a hf => ?_
 refine op_val (ex_extract hf rfl rfl) rfl hf rfl rfl fun a hf => ?_
 refine op_alloc al_31 hf rfl hO fun a b5 w hf hO => ?_
 have hO := hO.nilRow 64 3
 refine op_storeN (i := 1) (n := 3) sz_31 rfl rfl rfl (by simp [Value.oneCell']) hf rfl rfl hO fun w hO => ?_
 refine op_as hf rfl rfl fun a hf => ?_
 refine wpList_nil ?_
 refine nor_then (hK6 _ _ ?_)
 refine wp_seq_k fun _ hK8 => ?_
 refine wp_region_list ?_
 refine op_val (ex_loadN (o := 0) (vs := [str r2.1.Name, str r2.1.Value, .slice p3 r2.1.Attrs.length c4]) ag_31 sz_31 (hO.blkSees (i := 1) rfl) rfl rfl hf rfl) rfl hf rfl rfl fun a hf => ?_
 obtain ⟨r7, hr7, hm⟩ := ob hm
 refine op_enter (ex_call c_36 hf (vs := [.agg #[str r2.1.Name, str r2.1.Value, .slice p3 r2.1.Attrs.length c4], str [100, 111, 109, 97, 105, 110]]) rfl) rfl hf rfl rfl (w_ref28_Place r2.1 [100, 111, 109, 97, 105, 110] r7 _ (hG.own hF hO) (hO.rowSees (i := 2) rfl) (hO.rowCap (i := 2) rfl) hr7) ?_
 rintro e w' ⟨he, hb⟩
 refine ⟨_, he, fun a hf => ?_⟩
 have hO := hO.grow hb
 refine op_as hf rfl rfl fun a hf => ?_
 refine wpList_nil ?_
 refine nor_then (hK8 _ _ ?_)
 refine wp_seq_k fun _ hK13 => ?_
 refine wp_seq_cut (fun a w => ∃ (t10 : Bool), Fits 50 [(0, str x_s), (1, .slice x_l_p0 x_l.length x_l_c0), (5, ptr b5 0), (7, int r7), (23, .bool t10)] a ∧ Dk.Own w0 [] w [.row (.slice none 0 0) 64 3 0 (cells enc_api_Attr []), .blk b5 [str r2.1.Name, str r2.1.Value, .slice p3 r2.1.Attrs.length c4] 31, .row (.slice p3 r2.1.Attrs.length c4) 64 3 r2.1.Attrs.length (cells enc_api_Attr r2.1.Attrs), .shr x_l_p0 (cells enc_api_Swap x_l)] ∧ ref29_Rewrite_j1 x_s x_l r2 r7 t10 = some R) ?_ ?_
 refine wp_region_list ?_
 refine op_mv hf rfl rfl fun a hf => ?_
 refine op_val (ex_neq (m := r2.2) (n := 0) hf rfl rfl) rfl hf rfl rfl fun a hf => ?_
 refine op_mv hf rfl rfl fun a hf => ?_
 rcases bcase (!(r2.2 == 0)) with hc9 | hc9
 have hm := it hc9 hm
 refine op_pass rfl hf rfl rfl (hc9) rfl rfl fun a hf => ?_
 refine op_pass rfl hf rfl rfl (hc9) rfl rfl fun a hf => ?_
 refine op_val (ex_pick_t hf rfl hc9 rfl) rfl hf rfl rfl fun a hf => ?_
 refine wpList_nil ?_
 refine nor_then ?_
 exact ⟨true, (hf.cons rfl (hf.cons rfl (hf.cons rfl (hf.cons rfl (hf.cons rfl hf.nil))))), hO, hm⟩
 have hm := ie hc9 hm
 refine op_guard rfl hf rfl rfl (hc9) ?_
 refine op_mv hf rfl rfl fun a hf => ?_
 refine op_guard rfl hf rfl rfl (hc9) ?_
 refine op_val (ex_lss (m := r7) (n := 0) hf rfl rfl) rfl hf rfl rfl fun a hf => ?_
 refine op_val (ex_pick_f hf rfl hc9 rfl) rfl hf rfl rfl fun a hf => ?_
 refine wpList_nil ?_
 refine nor_then ?_
 exact ⟨decide (r7 < 0), (hf.cons rfl (hf.cons rfl (hf.cons rfl (hf.cons rfl (hf.cons rfl hf.nil))))), hO, hm⟩
 rintro a w ⟨t10, hf, hO, hm⟩
 rw [ref29_Rewrite_j1] at hm
 refine wp_cond_cut hf rfl (fun hc11 => ?_) (fun hc11 => ?_)
 have hm := it hc11 hm
 refine wp_seq_k fun _ hK12 => ?_
 refine wp_region_list ?_
 refine op_mv hf rfl rfl fun a hf => ?_
 refine op_as hf rfl rfl fun a hf => ?_
 refine wpList_nil ?_
 refine nor_then (hK12 _ _ ?_)
 refine wp_ret ?_
 refine ret_then ?_
 obtain rfl := Option.some.inj hm
 exact post_ret Tryz.results43 hf (.tmp rfl .nil) ⟨rfl, hO.below⟩
 have hm := ie hc11 hm
 refine wp_skip ?_
 refine nor_then (hK13 _ _ ?_)
 refine wp_seq_k fun _ hK18 => ?_
 refine wp_region_list ?_
 refine op_val (ex_field fa_31_2 hf rfl) rfl hf rfl rfl fun a hf => ?_
 refine op_val (ex_load1 (o := 2) ag_29 (hO.blkSees (i := 1) rfl) rfl hf rfl) rfl hf rfl rfl fun a hf => ?_
 refine op_mv hf rfl rfl fun a hf => ?_
 obtain ⟨x14, hx14, hm⟩ := ob hm
 obtain ⟨b15, o16, hix14, hSx14, hAx14⟩ := elemAtRow (enc := enc_api_Attr) (sz := 3) (xs := r2.1.Attrs) 29 Tryz.underlying29 sz_64 (by decide) (fun _ => rfl) hO (i := 2) rfl hx14
 refine op_val (ex_indexAddr hix14 hf rfl rfl) rfl hf rfl rfl fun a hf => ?_
 refine op_val (ex_field fa_64_1 hf rfl) rfl hf rfl rfl fun a hf => ?_
 refine op_val (ex_load1 (o := 1) ag_9 (hSx14 _ (hO.rowSees (i := 2) rfl)) rfl hf rfl) rfl hf rfl rfl fun a hf => ?_
 refine op_mv hf rfl rfl fun a hf => ?_
 obtain ⟨r17, hr17, hm⟩ := ob hm
 refine op_enter (ex_call c_77 hf (vs := [str x14.Value, .slice x_l_p0 x_l.length x_l_c0]) rfl) rfl hf rfl rfl (w_ref29_Map x14.Value x_l r17 _ (hG.own hF hO) (hO.sees (i := 3) rfl) hc0 hr17) ?_
 rintro e w' ⟨he, hb⟩
 refine ⟨_, he, fun a hf => ?_⟩
 have hO := hO.grow hb
 refine op_mv hf rfl rfl fun a hf => ?_
 refine op_val (ex_extract hf rfl rfl) rfl hf rfl rfl fun a hf => ?_
 refine op_val (ex_extract hf rfl rfl) rfl hf rfl rfl fun a hf => ?_
 refine op_as hf rfl rfl fun a hf => ?_
 refine op_as hf rfl rfl fun a hf => ?_
 refine wpList_nil ?_
 refine nor_then (hK18 _ _ ?_)
 refine wp_seq_k fun _ hK22 => ?_
 refine wp_seq_k fun _ hK19 => ?_
 refine wp_region_list ?_
 refine op_mv hf rfl rfl fun a hf => ?_
 refine op_val (ex_not hf rfl) rfl hf rfl rfl fun a hf => ?_
 refine wpList_nil ?_
 refine nor_then (hK19 _ _ ?_)
 refine wp_cond_cut hf rfl (fun hc20 => ?_) (fun hc20 => ?_)
 have hm := it hc20 hm
 refine wp_seq_k fun _ hK21 => ?_
 refine wp_region_list ?_
 refine op_mv hf rfl rfl fun a hf => ?_
 refine op_as hf rfl rfl fun a hf => ?_
 refine wpList_nil ?_
 refine nor_then (hK21 _ _ ?_)
 refine wp_ret ?_
 refine ret_then ?_
 obtain rfl := Option.some.inj hm
 exact post_ret Tryz.results43 hf (.tmp rfl .nil) ⟨rfl, hO.below⟩
 have hm := ie hc20 hm
 refine wp_skip ?_
 refine nor_then (hK22 _ _ ?_)
 refine wp_seq_k fun _ hK27 => ?_
 refine wp_region_list ?_
 refine op_val (ex_loadN (o := 0) (vs := [str r2.1.Name, str r2.1.Value, .slice p3 r2.1.Attrs.length c4]) ag_31 sz_31 (hO.blkSees (i := 1) rfl) rfl rfl hf rfl) rfl hf rfl rfl fun a hf => ?_
 refine op_mv hf rfl rfl fun a hf => ?_
 obtain ⟨r23, hr23, hm⟩ := ob hm
 refine op_enter (ex_call c_79 hf (vs := [.agg #[str r2.1.Name, str r2.1.Value, .slice p3 r2.1.Attrs.length c4], str [68, 111, 109, 97, 105, 110], str r17.1]) rfl) rfl hf rfl rfl (w_ref28_Set r2.1 [68, 111, 109, 97, 105, 110] r17.1 r23 _ (hG.own hF hO) (hO.rowSees (i := 2) rfl) (hO.rowCap (i := 2) rfl) hr23) ?_
 rintro e w' ⟨p24, c25, he, hO'⟩
 refine ⟨_, he, fun a hf => ?_⟩
 have hO := hO.call hO' (by simp [Res.shared])
 obtain ⟨r26, hr26, hm⟩ := ob hm
 refine op_enter (ex_call c_78 hf (vs := [.agg #[str r23.Name, str r23.Value, .slice p24 r23.Attrs.length c25]]) rfl) rfl hf rfl rfl (w_ref28_Text r23 r26 _ (hG.own hF hO) (hO.rowSees (i := 0) rfl) (hO.rowCap (i := 0) rfl) hr26) ?_
 rintro e w' ⟨he, hb⟩
 refine ⟨_, he, fun a hf => ?_⟩
 have hO := hO.grow hb
 refine op_mv hf rfl rfl fun a hf => ?_
 refine op_val (ex_extract hf rfl rfl) rfl hf rfl rfl fun a hf => ?_
 refine op_val (ex_extract hf rfl rfl) rfl hf rfl rfl fun a hf => ?_
 refine op_as hf rfl rfl fun a hf => ?_
 refine op_as hf rfl rfl fun a hf => ?_
 refine wpList_nil ?_
 refine nor_then (hK27 _ _ ?_)
 refine wp_seq_k fun _ hK31 => ?_
 refine wp_seq_k fun _ hK28 => ?_
 refine wp_region_list ?_
 refine op_mv hf rfl rfl fun a hf => ?_
 refine op_val (ex_neq (m := r26.2) (n := 0) hf rfl rfl) rfl hf rfl rfl fun a hf => ?_
 refine wpList_nil ?_
 refine nor_then (hK28 _ _ ?_)
 refine wp_cond_cut hf rfl (fun hc29 => ?_) (fun hc29 => ?_)
 have hm := it hc29 hm
 refine wp_seq_k fun _ hK30 => ?_
 refine wp_region_list ?_
 refine op_mv hf rfl rfl fun a hf => ?_
 refine op_as hf rfl rfl fun a hf => ?_
 refine wpList_nil ?_
 refine nor_then (hK30 _ _ ?_)
 refine wp_ret ?_
 refine ret_then ?_
 obtain rfl := Option.some.inj hm
 exact post_ret Tryz.results43 hf (.tmp rfl .nil) ⟨rfl, hO.below⟩
 have hm := ie hc29 hm
 refine wp_skip ?_
 refine nor_then (hK31 _ _ ?_)
 refine wp_seq_k fun _ hK32 => ?_
 refine wp_region_list ?_
 refine op_mv hf rfl rfl fun a hf => ?_
 refine op_as hf rfl rfl fun a hf => ?_
 refine wpList_nil ?_
 refine nor_then (hK32 _ _ ?_)
 refine wp_ret ?_
 obtain rfl := Option.some.inj hm
 exact post_ret Tryz.results43 hf (.tmp rfl .nil) ⟨rfl, hO.below⟩

set_option maxHeartbeats 1000000 in
theorem w_ref30_Fields (x_env : api_Env) (x_l : List api_Field) (R : List api_Field) (w0 : World) (hG : Glob w0) {x_env_p0 : Option Addr} {x_env_c0 : Nat} (hs0 : Sees w0 x_env_p0 (cells enc_api_Swap x_env.Domains)) (hc0 : x_env.Domains.length ≤ x_env_c0) {x_env_p1 : Option Addr} {x_env_c1 : Nat} (hs1 : Sees w0 x_env_p1 (cells enc_api_Swap x_env.Locations)) (hc1 : x_env.Locations.length ≤ x_env_c1) {x_l_p2 : Option Addr} {x_l_c2 : Nat} (hs2 : Sees w0 x_l_p2 (cells enc_api_Field x_l)) (hc2 : x_l.length ≤ x_l_c2) (hm : ref30_Fields x_env x_l = some R) :
    Calls Tryz.prog 21 #[.agg #[str x_env.Client, str x_env.Host, str x_env.Scheme, str x_env.By, .slice x_env_p0 x_env.Domains.length x_env_c0, .slice x_env_p1 x_env.Locations.length x_env_c1], .slice x_l_p2 x_l.length x_l_c2] w0 fun e w' => ∃ (p0 : Option Addr) (c0 : Nat), e = .returned (.slice p0 R.length c0) ∧ Dk.Own w0 [] w' [.row (.slice p0 R.length c0) 53 2 R.length (cells enc_api_Field R)] := by
 rw [ref30_Fields] at hm
 refine calls_enter (vs := [.agg #[str x_env.Client, str x_env.Host, str x_env.Scheme, str x_env.By, .slice x_env_p0 x_env.Domains.length x_env_c0, .slice x_env_p1 x_env.Locations.length x_env_c1], .slice x_l_p2 x_l.length x_l_c2]) Tryz.func21 rfl Tryz.ntmps21 rfl fun a hf => ?_
 have hF : Away [] := away_nil
 have hO : Dk.Own w0 [] w0 [] := Dk.Own.refl w0
 have hO := hO.addShr hs0 (by simp [Res.shared])
 have hO := hO.addShr hs1 (by simp [Res.shared])
 have hO := hO.addShr hs2 (by simp [Res.shared])
 refine wp_seq_k fun _ hK2 => ?_
 refine wp_region_list ?_
 refine op_box (v := .agg #[str x_env.Client, str x_env.Host, str x_env.Scheme, str x_env.By, .slice x_env_p0 x_env.Domains.length x_env_c0, .slice x_env_p1 x_env.Locations.length x_env_c1]) (cs := [str x_env.Client, str x_env.Host, str x_env.Scheme, str x_env.By, .slice x_env_p0 x_env.Domains.length x_env_c0, .slice x_env_p1 x_env.Locations.length x_env_c1]) rfl hf rfl rfl hO fun a b1 w hf hO => ?_
 have hO := hO.nilRow 53 2
 refine op_as hf rfl rfl fun a hf => ?_
 refine wpList_nil ?_
 refine nor_then (hK2 _ _ ?_)
 refine wp_seq_k fun _ hK3 => ?_
 refine wp_region_list ?_
 have hO := hO.nilRow 53 2
 refine op_as hf rfl rfl fun a hf => ?_
 refine wpList_nil ?_
 refine nor_then (hK3 _ _ ?_)
 refine wp_seq_k fun _ hK35 => ?_
 refine wp_seq_k fun _ hK4 => ?_
 refine wp_region_list ?_
 refine op_as hf rfl rfl fun a hf => ?_
 refine wpList_nil ?_
 refine nor_then (hK4 _ _ ?_)
 refine wp_block ?_
 refine wp_loop_n (fun k a w => ∃ (p5 : Option Addr) (c6 : Nat) (l7 : List api_Field) (i8 : Int), Fits 43 [(1, .slice x_l_p2 x_l.length x_l_c2), (2, ptr b1 0), (5, .slice p5 l7.length c6), (6, int i8)] a ∧ Dk.Own w0 [] w [.row (.slice p5 l7.length c6) 53 2 l7.length (cells enc_api_Field l7), .row (.slice none 0 0) 53 2 0 (cells enc_api_Field []), .blk b1 [str x_env.Client, str x_env.Host, str x_env.Scheme, str x_env.By, .slice x_env_p0 x_env.Domains.length x_env_c0, .slice x_env_p1 x_env.Locations.length x_env_c1] 41, .shr x_l_p2 (cells enc_api_Field x_l), .shr x_env_p1 (cells enc_api_Swap x_env.Locations), .shr x_env_p0 (cells enc_api_Swap x_env.Domains)] ∧ ref30_Fields_L1 x_env x_l k l7 i8 = some R) ?_ fuel ?_
 rintro n1 a w ⟨p5, c6, l7, i8, hf, hO, hm⟩
 obtain _ | n1 := n1
 rw [ref30_Fields_L1] at hm
 cases hm
 rw [ref30_Fields_L1] at hm
 refine wp_seq_k fun _ hK11 => ?_
 refine wp_seq_k fun _ hK9 => ?_
 refine wp_region_list ?_
 refine op_mv hf rfl rfl fun a hf => ?_
 refine op_mv hf rfl rfl fun a hf => ?_
 refine op_val (ex_len_l Tryz.underlying42 hf rfl) rfl hf rfl rfl fun a hf => ?_
 refine op_val (ex_lss (m := i8) (n := (x_l.length : Int)) hf rfl rfl) rfl hf rfl rfl fun a hf => ?_
 refine wpList_nil ?_
 refine nor_then (hK9 _ _ ?_)
 refine wp_cond_cut hf rfl (fun hc10 => ?_) (fun hc10 => ?_)
 have hm := it hc10 hm
 refine wp_skip ?_
 refine nor_then (hK11 _ _ ?_)
 refine wp_seq_k fun _ hK33 => ?_
 refine wp_block ?_
 refine wp_seq_k fun _ hK16 => ?_
 refine wp_region_list ?_
 refine op_mv hf rfl rfl fun a hf => ?_
 refine op_mv hf rfl rfl fun a hf => ?_
 obtain ⟨x12, hx12, hm⟩ := ob hm
 obtain ⟨b13, o14, hix12, hSx12⟩ := elemAt (enc := enc_api_Field) (sz := 2) (xs := x_l) 42 Tryz.underlying42 sz_53 (by decide) (fun _ => rfl) (hO.sees (i := 3) rfl) hx12
 refine op_val (ex_indexAddr hix12 hf rfl rfl) rfl hf rfl rfl fun a hf => ?_
 refine op_val (ex_loadN (o := 0) (vs := [str x12.Name, str x12.Value]) ag_53 sz_53 (hSx12 _ (hO.sees (i := 3) rfl)) rfl rfl hf rfl) rfl hf rfl rfl fun a hf => ?_
 refine op_alloc al_53 hf rfl hO fun a b15 w hf hO => ?_
 refine op_storeN (i := 0) (n := 2) sz_53 rfl rfl rfl (by simp [Value.oneCell']) hf rfl rfl hO fun w hO => ?_
 refine wpList_nil ?_
 refine nor_then (hK16 _ _ ?_)
 refine wp_seq_cut (fun a w => ∃ (s23 : Str), Fits 43 [(1, .slice x_l_p2 x_l.length x_l_c2), (2, ptr b1 0), (5, .slice p5 l7.length c6), (6, int i8), (7, ptr b15 0)] a ∧ Dk.Own w0 [] w [.blk b15 [str x12.Name, str s23] 53, .row (.slice p5 l7.length c6) 53 2 l7.length (cells enc_api_Field l7), .row (.slice none 0 0) 53 2 0 (cells enc_api_Field []), .blk b1 [str x_env.Client, str x_env.Host, str x_env.Scheme, str x_env.By, .slice x_env_p0 x_env.Domains.length x_env_c0, .slice x_env_p1 x_env.Locations.length x_env_c1] 41, .shr x_l_p2 (cells enc_api_Field x_l), .shr x_env_p1 (cells enc_api_Swap x_env.Locations), .shr x_env_p0 (cells enc_api_Swap x_env.Domains)] ∧ ref30_Fields_j3 (ref30_Fields_L1 x_env x_l n1) x_env l7 i8 x12 s23 = some R) ?_ ?_
 refine wp_seq_cut (fun a w => ∃ (t20 : Bool), Fits 43 [(1, .slice x_l_p2 x_l.length x_l_c2), (2, ptr b1 0), (5, .slice p5 l7.length c6), (6, int i8), (7, ptr b15 0), (23, .bool t20)] a ∧ Dk.Own w0 [] w [.blk b15 [str x12.Name, str x12.Value] 53, .row (.slice p5 l7.length c6) 53 2 l7.length (cells enc_api_Field l7), .row (.slice none 0 0) 53 2 0 (cells enc_api_Field []), .blk b1 [str x_env.Client, str x_env.Host, str x_env.Scheme, str x_env.By, .slice x_env_p0 x_env.Domains.length x_env_c0, .slice x_env_p1 x_env.Locations.length x_env_c1] 41, .shr x_l_p2 (cells enc_api_Field x_l), .shr x_env_p1 (cells enc_api_Swap x_env.Locations), .shr x_env_p0 (cells enc_api_Swap x_env.Domains)] ∧ ref30_Fields_j2 (ref30_Fields_L1 x_env x_l n1) x_env l7 i8 x12 t20 = some R) ?_ ?_
 refine wp_region_list ?_
 refine op_val (ex_loadN (o := 0) (vs := [str x12.Name, str x12.Value]) ag_53 sz_53 (hO.blkSees (i := 0) rfl) rfl rfl hf rfl) rfl hf rfl rfl fun a hf => ?_
 obtain ⟨r17, hr17, hm⟩ := ob hm
 refine op_enter (ex_call c_41 hf (vs := [.agg #[str x12.Name, str x12.Value], str [108, 111, 99, 97, 116, 105, 111, 110]]) rfl) rfl hf rfl rfl (w_ref13_Of x12 [108, 111, 99, 97, 116, 105, 111, 110] r17 _ (hG.own hF hO) hr17) ?_
 rintro e w' ⟨he, hb⟩
 refine ⟨_, he, fun a hf => ?_⟩
 have hO := hO.grow hb
 refine op_mv hf rfl rfl fun a hf => ?_
 rcases bcase (r17) with hc18 | hc18
 have hm := it hc18 hm
 refine op_pass rfl hf rfl rfl (hc18) rfl rfl fun a hf => ?_
 refine op_pass rfl hf rfl rfl (hc18) rfl rfl fun a hf => ?_
 refine op_val (ex_pick_t hf rfl hc18 rfl) rfl hf rfl rfl fun a hf => ?_
 refine wpList_nil ?_
 refine nor_then ?_
 exact ⟨true, (hf.cons rfl (hf.cons rfl (hf.cons rfl (hf.cons rfl (hf.cons rfl (hf.cons rfl hf.nil)))))), hO, hm⟩
 have hm := ie hc18 hm
 refine op_guard rfl hf rfl rfl (hc18) ?_
 refine op_val (ex_loadN (o := 0) (vs := [str x12.Name, str x12.Value]) ag_53 sz_53 (hO.blkSees (i := 0) rfl) rfl rfl hf rfl) rfl hf rfl rfl fun a hf => ?_
 refine op_guard rfl hf rfl rfl (hc18) ?_
 obtain ⟨r19, hr19, hm⟩ := ob hm
 refine op_enter (ex_call c_41 hf (vs := [.agg #[str x12.Name, str x12.Value], str [99, 111, 110, 116, 101, 110, 116, 45, 108, 111, 99, 97, 116, 105, 111, 110]]) rfl) rfl hf rfl rfl (w_ref13_Of x12 [99, 111, 110, 116, 101, 110, 116, 45, 108, 111, 99, 97, 116, 105, 111, 110] r19 _ (hG.own hF hO) hr19) ?_
 rintro e w' ⟨he, hb⟩
 refine ⟨_, he, fun a hf => ?_⟩
 have hO := hO.grow hb
 refine op_val (ex_pick_f hf rfl hc18 rfl) rfl hf rfl rfl fun a hf => ?_
 refine wpList_nil ?_
 refine nor_then ?_
 exact ⟨r19, (hf.cons rfl (hf.cons rfl (hf.cons rfl (hf.cons rfl (hf.cons rfl (hf.cons rfl hf.nil)))))), hO, hm⟩
 rintro a w ⟨t20, hf, hO, hm⟩
 rw [ref30_Fields_j2] at hm
 refine wp_cond_cut hf rfl (fun hc21 => ?_) (fun hc21 => ?_)
 have hm := it hc21 hm
 refine wp_region_list ?_
 refine op_val (ex_field fa_53_1 hf rfl) rfl hf rfl rfl fun a hf => ?_
 refine op_val (ex_load1 (o := 1) ag_9 (hO.blkSees (i := 0) rfl) rfl hf rfl) rfl hf rfl rfl fun a hf => ?_
 refine op_val (ex_field fa_41_5 hf rfl) rfl hf rfl rfl fun a hf => ?_
 refine op_val (ex_load1 (o := 5) ag_22 (hO.blkSees (i := 3) rfl) rfl hf rfl) rfl hf rfl rfl fun a hf => ?_
 obtain ⟨r22, hr22, hm⟩ := ob hm
 refine op_enter (ex_call c_42 hf (vs := [str x12.Value, .slice x_env_p1 x_env.Locations.length x_env_c1]) rfl) rfl hf rfl rfl (w_ref30_Rewrite x12.Value x_env.Locations r22 _ (hG.own hF hO) (hO.sees (i := 5) rfl) hc1 hr22) ?_
 rintro e w' ⟨he, hb⟩
 refine ⟨_, he, fun a hf => ?_⟩
 have hO := hO.grow hb
 refine op_val (ex_field fa_53_1 hf rfl) rfl hf rfl rfl fun a hf => ?_
 refine op_store1 (i := 0) (o := 1) (v := str r22) sz_9 rfl rfl rfl rfl hf rfl rfl hO fun w hO => ?_
 refine wpList_nil ?_
 refine nor_then ?_
 exact ⟨r22, (hf.cons rfl (hf.cons rfl (hf.cons rfl (hf.cons rfl (hf.cons rfl hf.nil))))), hO, hm⟩
 have hm := ie hc21 hm
 refine wp_skip ?_
 refine nor_then ?_
 exact ⟨x12.Value, (hf.cons rfl (hf.cons rfl (hf.cons rfl (hf.cons rfl (hf.cons rfl hf.nil))))), hO, hm⟩
 rintro a w ⟨s23, hf, hO, hm⟩
 rw [ref30_Fields_j3] at hm
 refine wp_seq_cut (fun a w => ∃ (s28 : Str), Fits 43 [(1, .slice x_l_p2 x_l.length x_l_c2), (2, ptr b1 0), (5, .slice p5 l7.length c6), (6, int i8), (7, ptr b15 0)] a ∧ Dk.Own w0 [] w [.blk b15 [str x12.Name, str s28] 53, .row (.slice p5 l7.length c6) 53 2 l7.length (cells enc_api_Field l7), .row (.slice none 0 0) 53 2 0 (cells enc_api_Field []), .blk b1 [str x_env.Client, str x_env.Host, str x_env.Scheme, str x_env.By, .slice x_env_p0 x_env.Domains.length x_env_c0, .slice x_env_p1 x_env.Locations.length x_env_c1] 41, .shr x_l_p2 (cells enc_api_Field x_l), .shr x_env_p1 (cells enc_api_Swap x_env.Locations), .shr x_env_p0 (cells enc_api_Swap x_env.Domains)] ∧ ref30_Fields_j4 (ref30_Fields_L1 x_env x_l n1) l7 i8 x12 s28 = some R) ?_ ?_
 refine wp_seq_k fun _ hK25 => ?_
 refine wp_region_list ?_
 refine op_val (ex_loadN (o := 0) (vs := [str x12.Name, str s23]) ag_53 sz_53 (hO.blkSees (i := 0) rfl) rfl rfl hf rfl) rfl hf rfl rfl fun a hf => ?_
 obtain ⟨r24, hr24, hm⟩ := ob hm
 refine op_enter (ex_call c_41 hf (vs := [.agg #[str x12.Name, str s23], str [115, 101, 116, 45, 99, 111, 111, 107, 105, 101]]) rfl) rfl hf rfl rfl (w_ref13_Of (⟨x12.Name, s23⟩ : api_Field) [115, 101, 116, 45, 99, 111, 111, 107, 105, 101] r24 _ (hG.own hF hO) hr24) ?_
 rintro e w' ⟨he, hb⟩
 refine ⟨_, he, fun a hf => ?_⟩
 have hO := hO.grow hb
 refine wpList_nil ?_
 refine nor_then (hK25 _ _ ?_)
 refine wp_cond_cut hf rfl (fun hc26 => ?_) (fun hc26 => ?_)
 have hm := it hc26 hm
 refine wp_region_list ?_
 refine op_val (ex_field fa_53_1 hf rfl) rfl hf rfl rfl fun a hf => ?_
 refine op_val (ex_load1 (o := 1) ag_9 (hO.blkSees (i := 0) rfl) rfl hf rfl) rfl hf rfl rfl fun a hf => ?_
 refine op_val (ex_field fa_41_4 hf rfl) rfl hf rfl rfl fun a hf => ?_
 refine op_val (ex_load1 (o := 4) ag_22 (hO.blkSees (i := 3) rfl) rfl hf rfl) rfl hf rfl rfl fun a hf => ?_
 obtain ⟨r27, hr27, hm⟩ := ob hm
 refine op_enter (ex_call c_43 hf (vs := [str s23, .slice x_env_p0 x_env.Domains.length x_env_c0]) rfl) rfl hf rfl rfl (w_ref29_Rewrite s23 x_env.Domains r27 _ (hG.own hF hO) (hO.sees (i := 6) rfl) hc0 hr27) ?_
 rintro e w' ⟨he, hb⟩
 refine ⟨_, he, fun a hf => ?_⟩
 have hO := hO.grow hb
 refine op_val (ex_field fa_53_1 hf rfl) rfl hf rfl rfl fun a hf => ?_
 refine op_store1 (i := 0) (o := 1) (v := str r27) sz_9 rfl rfl rfl rfl hf rfl rfl hO fun w hO => ?_
 refine wpList_nil ?_
 refine nor_then ?_
 exact ⟨r27, (hf.cons rfl (hf.cons rfl (hf.cons rfl (hf.cons rfl (hf.cons rfl hf.nil))))), hO, hm⟩
 have hm := ie hc26 hm
 refine wp_skip ?_
 refine nor_then ?_
 exact ⟨s23, (hf.cons rfl (hf.cons rfl (hf.cons rfl (hf.cons rfl (hf.cons rfl hf.nil))))), hO, hm⟩
 rintro a w ⟨s28, hf, hO, hm⟩
 rw [ref30_Fields_j4] at hm
 refine wp_region_list ?_
 refine op_mv hf rfl rfl fun a hf => ?_
 refine op_val (ex_loadN (o := 0) (vs := [str x12.Name, str s28]) ag_53 sz_53 (hO.blkSees (i := 0) rfl) rfl rfl hf rfl) rfl hf rfl rfl fun a hf => ?_
 refine op_buildSlice (vs := [(0, .agg #[str x12.Name, str s28])]) (cs := [str x12.Name, str s28]) (e := 53) (sz := 2) hf rfl rfl (fun w => by kernel_rfl) rfl rfl hO fun a b29 w hf hO => ?_
 obtain ⟨hg32, hm⟩ := og hm
 refine op_appendT el_42 (enc := enc_api_Field) (xs := l7) (ys := [(⟨x12.Name, s28⟩ : api_Field)]) (i := 2) (fun _ => rfl) rfl (hO.rowSees (i := 0) rfl) (by simp [cells, enc_api_Field, Value.oneCell']) hg32 hf rfl rfl rfl hO fun a p30 c31 w hf hO => ?_
 refine op_as hf rfl rfl fun a hf => ?_
 refine wpList_nil ?_
 refine nor_block ?_
 refine nor_then (hK33 _ _ ?_)
 refine wp_region_list ?_
 refine op_mv hf rfl rfl fun a hf => ?_
 obtain ⟨i34, hi34, hm⟩ := ob hm
 refine op_val (ex_add hf rfl rfl hi34) rfl hf rfl rfl fun a hf => ?_
 refine op_as hf rfl rfl fun a hf => ?_
 refine wpList_nil ?_
 refine nor_then ?_
 exact ⟨_, Nat.lt_succ_self _, p30, c31, l7 ++ [(⟨x12.Name, s28⟩ : api_Field)], i34, (hf.cons rfl (hf.cons rfl (hf.cons rfl (hf.cons rfl hf.nil)))), (hO.sub (.cons _ (.cons _ (.cons_cons _ (.cons_cons _ (.cons_cons _ (.cons_cons _ (.cons_cons _ (.cons_cons _ .slnil))))))))), hm⟩
 have hm := ie hc10 hm
 refine wp_exit ?_
 refine exit_then ?_
 refine exit_then ?_
 refine exit_here ?_
 refine nor_then (hK35 _ _ ?_)
 refine wp_seq_k fun _ hK36 => ?_
 refine wp_region_list ?_
 refine op_mv hf rfl rfl fun a hf => ?_
 refine op_as hf rfl rfl fun a hf => ?_
 refine wpList_nil ?_
 refine nor_then (hK36 _ _ ?_)
 refine wp_ret ?_
 obtain rfl := Option.some.inj hm
 exact post_ret Tryz.results21 hf (.tmp rfl .nil) ⟨p5, c6, rfl, (hO.sub (.cons_cons _ (.cons _ (.cons _ (.cons _ (.cons _ (.cons _ .slnil)))))))⟩
 exact ⟨none, 0, [], 0, (hf.cons rfl (hf.cons rfl (hf.cons rfl (hf.cons rfl hf.nil)))), hO, hm⟩

set_option maxHeartbeats 1000000 in
theorem w_ref12_Same (x_a : List api_Field) (x_b : List api_Field) (R : Bool) (w0 : World) (hG : Glob w0) {x_a_p0 : Option Addr} {x_a_c0 : Nat} (hs0 : Sees w0 x_a_p0 (cells enc_api_Field x_a)) (hc0 : x_a.length ≤ x_a_c0) {x_b_p1 : Option Addr} {x_b_c1 : Nat} (hs1 : Sees w0 x_b_p1 (cells enc_api_Field x_b)) (hc1 : x_b.length ≤ x_b_c1) (hm : ref12_Same x_a x_b = some R) :
    Calls Tryz.prog 19 #[.slice x_a_p0 x_a.length x_a_c0, .slice x_b_p1 x_b.length x_b_c1] w0 fun e w' => e = .returned (.bool R) ∧ Below w0.heap.size w0 w' := by
 rw [ref12_Same] at hm
 refine calls_enter (vs := [.slice x_a_p0 x_a.length x_a_c0, .slice x_b_p1 x_b.length x_b_c1]) Tryz.func19 rfl Tryz.ntmps19 rfl fun a hf => ?_
 have hF : Away [] := away_nil
 have hO : Dk.Own w0 [] w0 [] := Dk.Own.refl w0
 have hO := hO.addShr hs0 (by simp [Res.shared])
 have hO := hO.addShr hs1 (by simp [Res.shared])
 refine wp_seq_k fun _ hK1 => ?_
 refine wp_region_list ?_
 refine op_as hf rfl rfl fun a hf => ?_
 refine wpList_nil ?_
 refine nor_then (hK1 _ _ ?_)
 refine wp_seq_k fun _ hK5 => ?_
 refine wp_seq_k fun _ hK2 => ?_
 refine wp_region_list ?_
 refine op_mv hf rfl rfl fun a hf => ?_
 refine op_val (ex_len_l Tryz.underlying42 hf rfl) rfl hf rfl rfl fun a hf => ?_
 refine op_mv hf rfl rfl fun a hf => ?_
 refine op_val (ex_len_l Tryz.underlying42 hf rfl) rfl hf rfl rfl fun a hf => ?_
 refine op_val (ex_neq (m := (x_a.length : Int)) (n := (x_b.length : Int)) hf rfl rfl) rfl hf rfl rfl fun a hf => ?_
 refine wpList_nil ?_
 refine nor_then (hK2 _ _ ?_)
 refine wp_cond_cut hf rfl (fun hc3 => ?_) (fun hc3 => ?_)
 have hm := it hc3 hm
 refine wp_seq_k fun _ hK4 => ?_
 refine wp_region_list ?_
 refine op_as hf rfl rfl fun a hf => ?_
 refine wpList_nil ?_
 refine nor_then (hK4 _ _ ?_)
 refine wp_ret ?_
 refine ret_then ?_
 obtain rfl := Option.some.inj hm
 exact post_ret Tryz.results19 hf (.tmp rfl .nil) ⟨rfl, hO.below⟩
 have hm := ie hc3 hm
 refine wp_skip ?_
 refine nor_then (hK5 _ _ ?_)
 refine wp_seq_k fun _ hK22 => ?_
 refine wp_seq_k fun _ hK6 => ?_
 refine wp_region_list ?_
 refine op_as hf rfl rfl fun a hf => ?_
 refine wpList_nil ?_
 refine nor_then (hK6 _ _ ?_)
 refine wp_block ?_
 refine wp_loop_n (fun k a w => ∃ (i7 : Int), Fits 26 [(0, .slice x_a_p0 x_a.length x_a_c0), (1, .slice x_b_p1 x_b.length x_b_c1), (5, int i7)] a ∧ Dk.Own w0 [] w [.shr x_b_p1 (cells enc_api_Field x_b), .shr x_a_p0 (cells enc_api_Field x_a)] ∧ ref12_Same_L1 x_a x_b k i7 = some R) ?_ fuel ?_
 rintro n1 a w ⟨i7, hf, hO, hm⟩
 obtain _ | n1 := n1
 rw [ref12_Same_L1] at hm
 cases hm
 rw [ref12_Same_L1] at hm
 refine wp_seq_k fun _ hK10 => ?_
 refine wp_seq_k fun _ hK8 => ?_
 refine wp_region_list ?_
 refine op_mv hf rfl rfl fun a hf => ?_
 refine op_mv hf rfl rfl fun a hf => ?_
 refine op_val (ex_len_l Tryz.underlying42 hf rfl) rfl hf rfl rfl fun a hf => ?_
 refine op_val (ex_lss (m := i7) (n := (x_a.length : Int)) hf rfl rfl) rfl hf rfl rfl fun a hf => ?_
 refine wpList_nil ?_
 refine nor_then (hK8 _ _ ?_)
 refine wp_cond_cut hf rfl (fun hc9 => ?_) (fun hc9 => ?_)
 have hm := it hc9 hm
 refine wp_skip ?_
 refine nor_then (hK10 _ _ ?_)
 refine wp_seq_k fun _ hK20 => ?_
 refine wp_block ?_
 refine wp_seq_k fun _ hK17 => ?_
 refine wp_quiet (by kernel_rfl) (by kernel_rfl) hO ?_
 refine q_val (fun w hO => ex_move hf rfl) rfl hf rfl rfl fun a hf => ?_
 refine q_val (fun w hO => ex_move hf rfl) rfl hf rfl rfl fun a hf => ?_
 obtain ⟨x11, hx11, hm⟩ := ob hm
 obtain ⟨b12, o13, hix11, hSx11⟩ := elemAt (enc := enc_api_Field) (sz := 2) (xs := x_a) 42 Tryz.underlying42 sz_53 (by decide) (fun _ => rfl) (hO.sees (i := 1) rfl) hx11
 refine q_val (fun w hO => ex_indexAddr hix11 hf rfl rfl) rfl hf rfl rfl fun a hf => ?_
 refine q_val (fun w hO => ex_loadN (o := 0) (vs := [str x11.Name, str x11.Value]) ag_53 sz_53 (hSx11 _ (hO.sees (i := 1) rfl)) rfl rfl hf rfl) rfl hf rfl rfl fun a hf => ?_
 refine q_val (fun w hO => ex_move hf rfl) rfl hf rfl rfl fun a hf => ?_
 refine q_val (fun w hO => ex_move hf rfl) rfl hf rfl rfl fun a hf => ?_
 obtain ⟨x14, hx14, hm⟩ := ob hm
 obtain ⟨b15, o16, hix14, hSx14⟩ := elemAt (enc := enc_api_Field) (sz := 2) (xs := x_b) 42 Tryz.underlying42 sz_53 (by decide) (fun _ => rfl) (hO.sees (i := 0) rfl) hx14
 refine q_val (fun w hO => ex_indexAddr hix14 hf rfl rfl) rfl hf rfl rfl fun a hf => ?_
 refine q_val (fun w hO => ex_loadN (o := 0) (vs := [str x14.Name, str x14.Value]) ag_53 sz_53 (hSx14 _ (hO.sees (i := 0) rfl)) rfl rfl hf rfl) rfl hf rfl rfl fun a hf => ?_
 refine q_val (fun w hO => ex_neq_t (by kernel_rfl) (eq_53 x11 x14) hf rfl rfl) rfl hf rfl rfl fun a hf => ?_
 refine wpQuiet_nil ?_
 intro w hO
 refine nor_then (hK17 _ _ ?_)
 refine wp_cond_cut hf rfl (fun hc18 => ?_) (fun hc18 => ?_)
 have hm := it hc18 hm
 refine wp_seq_k fun _ hK19 => ?_
 refine wp_region_list ?_
 refine op_as hf rfl rfl fun a hf => ?_
 refine wpList_nil ?_
 refine nor_then (hK19 _ _ ?_)
 refine wp_ret ?_
 refine ret_block ?_
 refine ret_then ?_
 refine ret_then ?_
 refine ret_block ?_
 refine ret_then ?_
 obtain rfl := Option.some.inj hm
 exact post_ret Tryz.results19 hf (.tmp rfl .nil) ⟨rfl, hO.below⟩
 have hm := ie hc18 hm
 refine wp_skip ?_
 refine nor_block ?_
 refine nor_then (hK20 _ _ ?_)
 refine wp_region_list ?_
 refine op_mv hf rfl rfl fun a hf => ?_
 obtain ⟨i21, hi21, hm⟩ := ob hm
 refine op_val (ex_add hf rfl rfl hi21) rfl hf rfl rfl fun a hf => ?_
 refine op_as hf rfl rfl fun a hf => ?_
 refine wpList_nil ?_
 refine nor_then ?_
 exact ⟨_, Nat.lt_succ_self _, i21, (hf.cons rfl (hf.cons rfl (hf.cons rfl hf.nil))), hO, hm⟩
 have hm := ie hc9 hm
 refine wp_exit ?_
 refine exit_then ?_
 refine exit_then ?_
 refine exit_here ?_
 refine nor_then (hK22 _ _ ?_)
 refine wp_seq_k fun _ hK23 => ?_
 refine wp_region_list ?_
 refine op_as hf rfl rfl fun a hf => ?_
 refine wpList_nil ?_
 refine nor_then (hK23 _ _ ?_)
 refine wp_ret ?_
 obtain rfl := Option.some.inj hm
 exact post_ret Tryz.results19 hf (.tmp rfl .nil) ⟨rfl, hO.below⟩
 exact ⟨0, (hf.cons rfl (hf.cons rfl (hf.cons rfl hf.nil))), hO, hm⟩

set_option maxHeartbeats 1000000 in
theorem w_law30_LocationFields (x_env : api_Env) (x_l : List api_Field) (R : Bool) (w0 : World) (hG : GlobT w0) {x_env_p0 : Option Addr} {x_env_c0 : Nat} (hs0 : Sees w0 x_env_p0 (cells enc_api_Swap x_env.Domains)) (hc0 : x_env.Domains.length ≤ x_env_c0) {x_env_p1 : Option Addr} {x_env_c1 : Nat} (hs1 : Sees w0 x_env_p1 (cells enc_api_Swap x_env.Locations)) (hc1 : x_env.Locations.length ≤ x_env_c1) {x_l_p2 : Option Addr} {x_l_c2 : Nat} (hs2 : Sees w0 x_l_p2 (cells enc_api_Field x_l)) (hc2 : x_l.length ≤ x_l_c2) (hm : law30_LocationFields x_env x_l = some R) :
    Calls Tryz.prog 4 #[.agg #[str x_env.Client, str x_env.Host, str x_env.Scheme, str x_env.By, .slice x_env_p0 x_env.Domains.length x_env_c0, .slice x_env_p1 x_env.Locations.length x_env_c1], .slice x_l_p2 x_l.length x_l_c2] w0 fun e w' => e = .returned (.bool R) ∧ Below w0.heap.size w0 w' := by
 rw [law30_LocationFields] at hm
 refine calls_enter (vs := [.agg #[str x_env.Client, str x_env.Host, str x_env.Scheme, str x_env.By, .slice x_env_p0 x_env.Domains.length x_env_c0, .slice x_env_p1 x_env.Locations.length x_env_c1], .slice x_l_p2 x_l.length x_l_c2]) Tryz.func4 rfl Tryz.ntmps4 rfl fun a hf => ?_
 have hF : Away [] := away_nil
 have hO : Dk.Own w0 [] w0 [] := Dk.Own.refl w0
 have hO := hO.addShr hs0 (by simp [Res.shared])
 have hO := hO.addShr hs1 (by simp [Res.shared])
 have hO := hO.addShr hs2 (by simp [Res.shared])
 refine wp_seq_k fun _ hK2 => ?_
 refine wp_region_list ?_
 refine op_box (v := .agg #[str x_env.Client, str x_env.Host, str x_env.Scheme, str x_env.By, .slice x_env_p0 x_env.Domains.length x_env_c0, .slice x_env_p1 x_env.Locations.length x_env_c1]) (cs := [str x_env.Client, str x_env.Host, str x_env.Scheme, str x_env.By, .slice x_env_p0 x_env.Domains.length x_env_c0, .slice x_env_p1 x_env.Locations.length x_env_c1]) rfl hf rfl rfl hO fun a b1 w hf hO => ?_
 refine op_as hf rfl rfl fun a hf => ?_
 refine wpList_nil ?_
 refine nor_then (hK2 _ _ ?_)
 refine wp_seq_k fun _ hK7 => ?_
 refine wp_seq_k fun _ hK4 => ?_
 refine wp_region_list ?_
 obtain ⟨r3, hr3, hm⟩ := ob hm
 refine op_enter (ex_call c_16 hf (vs := []) rfl) rfl hf rfl rfl (w_law30_awake r3 _ (hG.own hF hO).1 hr3) ?_
 rintro e w' ⟨he, hb⟩
 refine ⟨_, he, fun a hf => ?_⟩
 have hO := hO.grow hb
 refine op_val (ex_not hf rfl) rfl hf rfl rfl fun a hf => ?_
 refine wpList_nil ?_
 refine nor_then (hK4 _ _ ?_)
 refine wp_cond_cut hf rfl (fun hc5 => ?_) (fun hc5 => ?_)
 have hm := it hc5 hm
 refine wp_seq_k fun _ hK6 => ?_
 refine wp_region_list ?_
 refine op_as hf rfl rfl fun a hf => ?_
 refine wpList_nil ?_
 refine nor_then (hK6 _ _ ?_)
 refine wp_ret ?_
 refine ret_then ?_
 obtain rfl := Option.some.inj hm
 exact post_ret Tryz.results4 hf (.tmp rfl .nil) ⟨rfl, hO.below⟩
 have hm := ie hc5 hm
 refine wp_skip ?_
 refine nor_then (hK7 _ _ ?_)
 refine wp_seq_k fun _ hK16 => ?_
 refine wp_region_list ?_
 refine op_val (ex_loadN (o := 0) (vs := [str x_env.Client, str x_env.Host, str x_env.Scheme, str x_env.By, .slice x_env_p0 x_env.Domains.length x_env_c0, .slice x_env_p1 x_env.Locations.length x_env_c1]) ag_41 sz_41 (hO.blkSees (i := 0) rfl) rfl rfl hf rfl) rfl hf rfl rfl fun a hf => ?_
 obtain ⟨r8, hr8, hm⟩ := ob hm
 refine op_enter (ex_call c_17 hf (vs := [.agg #[str x_env.Client, str x_env.Host, str x_env.Scheme, str x_env.By, .slice x_env_p0 x_env.Domains.length x_env_c0, .slice x_env_p1 x_env.Locations.length x_env_c1]]) rfl) rfl hf rfl rfl (w_law26_Few x_env r8 _ (hG.own hF hO).1 (hO.sees (i := 3) rfl) hc0 (hO.sees (i := 2) rfl) hc1 hr8) ?_
 rintro e w' ⟨p9, c10, p11, c12, he, hO'⟩
 refine ⟨_, he, fun a hf => ?_⟩
 have hO := hO.call hO' (by simp [Res.shared])
 refine op_mv hf rfl rfl fun a hf => ?_
 refine op_val (ex_build (vs := [(6, .slice x_l_p2 x_l.length x_l_c2)]) (v := .agg #[int 0, str [], str [], int 0, str [], int 0, .slice x_l_p2 x_l.length x_l_c2]) hf rfl (by kernel_rfl)) rfl hf rfl rfl fun a hf => ?_
 obtain ⟨r13, hr13, hm⟩ := ob hm
 refine op_enter (ex_call c_18 hf (vs := [.agg #[int 0, str [], str [], int 0, str [], int 0, .slice x_l_p2 x_l.length x_l_c2]]) rfl) rfl hf rfl rfl (w_law15_Few (⟨0, [], [], 0, [], 0, x_l⟩ : api_Head) r13 _ (hG.own hF hO).1 (hO.sees (i := 3) rfl) hc2 hr13) ?_
 rintro e w' ⟨p14, c15, he, hO'⟩
 refine ⟨_, he, fun a hf => ?_⟩
 have hO := hO.call hO' (by simp [Res.shared])
 refine op_val (ex_fieldv (v := .slice p14 r13.Fields.length c15) hf rfl (by kernel_rfl)) rfl hf rfl rfl fun a hf => ?_
 refine op_storeN (i := 3) (n := 6) sz_41 rfl rfl rfl (by simp [Value.oneCell']) hf rfl rfl hO fun w hO => ?_
 refine op_as hf rfl rfl fun a hf => ?_
 refine wpList_nil ?_
 refine nor_then (hK16 _ _ ?_)
 refine wp_seq_k fun _ hK24 => ?_
 obtain ⟨r17, hr17, hm⟩ := ob hm
 obtain ⟨r20, hr20, hm⟩ := ob hm
 obtain ⟨r23, hr23, hm⟩ := ob hm
 refine wp_drawS' (S := Option Addr × Nat × Option Addr × Nat) (E0 := [(1, .slice p14 r13.Fields.length c15), (2, ptr b1 0)]) (by kernel_rfl) (fun k σ w => match k with | 0 => Dk.Own w0 [] w [.row (.slice p14 r13.Fields.length c15) 53 2 r13.Fields.length (cells enc_api_Field r13.Fields), .row (.slice p9 r8.Domains.length c10) 56 2 r8.Domains.length (cells enc_api_Swap r8.Domains), .row (.slice p11 r8.Locations.length c12) 56 2 r8.Locations.length (cells enc_api_Swap r8.Locations), .blk b1 [str r8.Client, str r8.Host, str r8.Scheme, str r8.By, .slice p9 r8.Domains.length c10, .slice p11 r8.Locations.length c12] 41, .shr x_l_p2 (cells enc_api_Field x_l), .shr x_env_p1 (cells enc_api_Swap x_env.Locations), .shr x_env_p0 (cells enc_api_Swap x_env.Domains)] | 1 => Dk.Own w0 [] w [.row (.slice (σ.1) r17.length (σ.2.1)) 53 2 r17.length (cells enc_api_Field r17), .row (.slice p14 r13.Fields.length c15) 53 2 r13.Fields.length (cells enc_api_Field r13.Fields), .row (.slice p9 r8.Domains.length c10) 56 2 r8.Domains.length (cells enc_api_Swap r8.Domains), .row (.slice p11 r8.Locations.length c12) 56 2 r8.Locations.length (cells enc_api_Swap r8.Locations), .blk b1 [str r8.Client, str r8.Host, str r8.Scheme, str r8.By, .slice p9 r8.Domains.length c10, .slice p11 r8.Locations.length c12] 41, .shr x_l_p2 (cells enc_api_Field x_l), .shr x_env_p1 (cells enc_api_Swap x_env.Locations), .shr x_env_p0 (cells enc_api_Swap x_env.Domains)] | 2 => Dk.Own w0 [] w [.row (.slice (σ.2.2.1) r20.length (σ.2.2.2)) 53 2 r20.length (cells enc_api_Field r20), .row (.slice (σ.1) r17.length (σ.2.1)) 53 2 r17.length (cells enc_api_Field r17), .row (.slice p14 r13.Fields.length c15) 53 2 r13.Fields.length (cells enc_api_Field r13.Fields), .row (.slice p9 r8.Domains.length c10) 56 2 r8.Domains.length (cells enc_api_Swap r8.Domains), .row (.slice p11 r8.Locations.length c12) 56 2 r8.Locations.length (cells enc_api_Swap r8.Locations), .blk b1 [str r8.Client, str r8.Host, str r8.Scheme, str r8.By, .slice p9 r8.Domains.length c10, .slice p11 r8.Locations.length c12] 41, .shr x_l_p2 (cells enc_api_Field x_l), .shr x_env_p1 (cells enc_api_Swap x_env.Locations), .shr x_env_p0 (cells enc_api_Swap x_env.Domains)] | _ => Dk.Own w0 [] w [.row (.slice (σ.2.2.1) r20.length (σ.2.2.2)) 53 2 r20.length (cells enc_api_Field r20), .row (.slice (σ.1) r17.length (σ.2.1)) 53 2 r17.length (cells enc_api_Field r17), .row (.slice p14 r13.Fields.length c15) 53 2 r13.Fields.length (cells enc_api_Field r13.Fields), .row (.slice p9 r8.Domains.length c10) 56 2 r8.Domains.length (cells enc_api_Swap r8.Domains), .row (.slice p11 r8.Locations.length c12) 56 2 r8.Locations.length (cells enc_api_Swap r8.Locations), .blk b1 [str r8.Client, str r8.Host, str r8.Scheme, str r8.By, .slice p9 r8.Domains.length c10, .slice p11 r8.Locations.length c12] 41, .shr x_l_p2 (cells enc_api_Field x_l), .shr x_env_p1 (cells enc_api_Swap x_env.Locations), .shr x_env_p0 (cells enc_api_Swap x_env.Domains)]) (fun σ => [⟨[(2, ptr b1 0)], some (13, .agg #[str r8.Client, str r8.Host, str r8.Scheme, str r8.By, .slice p9 r8.Domains.length c10, .slice p11 r8.Locations.length c12])⟩, ⟨[(1, .slice p14 r13.Fields.length c15)], some (14, .slice p14 r13.Fields.length c15)⟩, ⟨[(13, .agg #[str r8.Client, str r8.Host, str r8.Scheme, str r8.By, .slice p9 r8.Domains.length c10, .slice p11 r8.Locations.length c12]), (14, .slice p14 r13.Fields.length c15)], some (15, .slice (σ.1) r17.length (σ.2.1))⟩, ⟨[(2, ptr b1 0)], some (16, .agg #[str r8.Client, str r8.Host, str r8.Scheme, str r8.By, .slice p9 r8.Domains.length c10, .slice p11 r8.Locations.length c12])⟩, ⟨[(1, .slice p14 r13.Fields.length c15)], some (17, .slice p14 r13.Fields.length c15)⟩, ⟨[(16, .agg #[str r8.Client, str r8.Host, str r8.Scheme, str r8.By, .slice p9 r8.Domains.length c10, .slice p11 r8.Locations.length c12]), (17, .slice p14 r13.Fields.length c15)], some (18, .slice (σ.2.2.1) r20.length (σ.2.2.2))⟩, ⟨[(15, .slice (σ.1) r17.length (σ.2.1)), (18, .slice (σ.2.2.1) r20.length (σ.2.2.2))], some (19, .bool r23)⟩, ⟨[(19, .bool r23)], some (4, .bool r23)⟩]) (none, 0, none, 0) [2, 5, 6] rfl (fun _ => rfl) (fun _ => rfl) (fun _ => rfl) rfl rfl (by decide) rfl hO.drew (hf.cons rfl (hf.cons rfl hf.nil)) (fun σ => ⟨⟨rfl, trivial⟩, ⟨rfl, trivial⟩, ⟨rfl, rfl, trivial⟩, ⟨rfl, trivial⟩, ⟨rfl, trivial⟩, ⟨rfl, rfl, trivial⟩, ⟨rfl, rfl, trivial⟩, ⟨rfl, trivial⟩, trivial⟩) ⟨sS_pure rfl (fun σ => rfl) (fun σ => rfl) (fun σ a w k hk hlo hup hst hf => match k, hk, hlo, hup, hst, hf with | 0, _, _, _, hst, hf => have hO : Dk.Own w0 [] w _ := hst; ex_loadN (o := 0) (vs := [str r8.Client, str r8.Host, str r8.Scheme, str r8.By, .slice p9 r8.Domains.length c10, .slice p11 r8.Locations.length c12]) ag_41 sz_41 (hO.blkSees (i := 3) rfl) rfl rfl hf rfl | 1, _, _, _, hst, hf => have hO : Dk.Own w0 [] w _ := hst; ex_loadN (o := 0) (vs := [str r8.Client, str r8.Host, str r8.Scheme, str r8.By, .slice p9 r8.Domains.length c10, .slice p11 r8.Locations.length c12]) ag_41 sz_41 (hO.blkSees (i := 4) rfl) rfl rfl hf rfl | 2, _, _, _, hst, hf => have hO : Dk.Own w0 [] w _ := hst; ex_loadN (o := 0) (vs := [str r8.Client, str r8.Host, str r8.Scheme, str r8.By, .slice p9 r8.Domains.length c10, .slice p11 r8.Locations.length c12]) ag_41 sz_41 (hO.blkSees (i := 5) rfl) rfl rfl hf rfl | 3, _, _, _, hst, hf => have hO : Dk.Own w0 [] w _ := hst; ex_loadN (o := 0) (vs := [str r8.Client, str r8.Host, str r8.Scheme, str r8.By, .slice p9 r8.Domains.length c10, .slice p11 r8.Locations.length c12]) ag_41 sz_41 (hO.blkSees (i := 5) rfl) rfl rfl hf rfl | k + 4, hk, _, _, _, _ => absurd hk (by simp)), sS_pure rfl (fun σ => rfl) (fun σ => rfl) (fun σ a w k _ _ _ _ hf => ex_move hf rfl), sS_call rfl (fun σ => rfl) (fun σ => rfl) rfl (fun σ a w (_ : _) hf => ex_call c_20 hf (vs := [.agg #[str r8.Client, str r8.Host, str r8.Scheme, str r8.By, .slice p9 r8.Domains.length c10, .slice p11 r8.Locations.length c12], .slice p14 r13.Fields.length c15]) rfl) (fun σ w (hO : Dk.Own w0 [] w _) => (w_location_Fields r8 r13.Fields r17 _ (hG.own hF hO) (hO.rowSees (i := 1) rfl) (hO.rowCap (i := 1) rfl) (hO.rowSees (i := 2) rfl) (hO.rowCap (i := 2) rfl) (hO.rowSees (i := 0) rfl) (hO.rowCap (i := 0) rfl) hr17).mono fun e w' h => by obtain ⟨p18, c19, he, hO'⟩ := h; exact ⟨(p18, c19, (σ.2.2.1), (σ.2.2.2)), he, hO.call hO' (by simp [Res.shared]), .inr rfl, .inr rfl, .inl rfl, .inr rfl, .inr rfl, .inr rfl, .inl rfl, .inr rfl, trivial⟩), sS_pure rfl (fun σ => rfl) (fun σ => rfl) (fun σ a w k hk hlo hup hst hf => match k, hk, hlo, hup, hst, hf with | 0, _, _, _, hst, hf => have hO : Dk.Own w0 [] w _ := hst; ex_loadN (o := 0) (vs := [str r8.Client, str r8.Host, str r8.Scheme, str r8.By, .slice p9 r8.Domains.length c10, .slice p11 r8.Locations.length c12]) ag_41 sz_41 (hO.blkSees (i := 3) rfl) rfl rfl hf rfl | 1, _, _, _, hst, hf => have hO : Dk.Own w0 [] w _ := hst; ex_loadN (o := 0) (vs := [str r8.Client, str r8.Host, str r8.Scheme, str r8.By, .slice p9 r8.Domains.length c10, .slice p11 r8.Locations.length c12]) ag_41 sz_41 (hO.blkSees (i := 4) rfl) rfl rfl hf rfl | 2, _, _, _, hst, hf => have hO : Dk.Own w0 [] w _ := hst; ex_loadN (o := 0) (vs := [str r8.Client, str r8.Host, str r8.Scheme, str r8.By, .slice p9 r8.Domains.length c10, .slice p11 r8.Locations.length c12]) ag_41 sz_41 (hO.blkSees (i := 5) rfl) rfl rfl hf rfl | 3, _, _, _, hst, hf => have hO : Dk.Own w0 [] w _ := hst; ex_loadN (o := 0) (vs := [str r8.Client, str r8.Host, str r8.Scheme, str r8.By, .slice p9 r8.Domains.length c10, .slice p11 r8.Locations.length c12]) ag_41 sz_41 (hO.blkSees (i := 5) rfl) rfl rfl hf rfl | k + 4, hk, _, _, _, _ => absurd hk (by simp)), sS_pure rfl (fun σ => rfl) (fun σ => rfl) (fun σ a w k _ _ _ _ hf => ex_move hf rfl), sS_call rfl (fun σ => rfl) (fun σ => rfl) rfl (fun σ a w (_ : _) hf => ex_call c_21 hf (vs := [.agg #[str r8.Client, str r8.Host, str r8.Scheme, str r8.By, .slice p9 r8.Domains.length c10, .slice p11 r8.Locations.length c12], .slice p14 r13.Fields.length c15]) rfl) (fun σ w (hO : Dk.Own w0 [] w _) => (w_ref30_Fields r8 r13.Fields r20 _ (hG.own hF hO).1 (hO.rowSees (i := 2) rfl) (hO.rowCap (i := 2) rfl) (hO.rowSees (i := 3) rfl) (hO.rowCap (i := 3) rfl) (hO.rowSees (i := 1) rfl) (hO.rowCap (i := 1) rfl) hr20).mono fun e w' h => by obtain ⟨p21, c22, he, hO'⟩ := h; exact ⟨((σ.1), (σ.2.1), p21, c22), he, hO.call hO' (by simp [Res.shared]), .inr rfl, .inr rfl, .inr rfl, .inr rfl, .inr rfl, .inl rfl, .inl rfl, .inr rfl, trivial⟩), sS_call rfl (fun σ => rfl) (fun σ => rfl) rfl (fun σ a w (_ : _) hf => ex_call c_19 hf (vs := [.slice (σ.1) r17.length (σ.2.1), .slice (σ.2.2.1) r20.length (σ.2.2.2)]) rfl) (fun σ w (hO : Dk.Own w0 [] w _) => (w_ref12_Same r17 r20 r23 _ (hG.own hF hO).1 (hO.rowSees (i := 1) rfl) (hO.rowCap (i := 1) rfl) (hO.rowSees (i := 0) rfl) (hO.rowCap (i := 0) rfl) hr23).mono fun e w' h => by obtain ⟨he, hb⟩ := h; exact ⟨((σ.1), (σ.2.1), (σ.2.2.1), (σ.2.2.2)), he, hO.grow hb, .inr rfl, .inr rfl, .inr rfl, .inr rfl, .inr rfl, .inr rfl, .inr rfl, .inr rfl, trivial⟩), sS_pure rfl (fun σ => rfl) (fun σ => rfl) (fun σ a w k _ _ _ _ hf => ex_assign hf rfl), trivial⟩ ?_
 rintro ⟨p18, c19, p21, c22⟩ a w hf hO
 have hO : Dk.Own w0 [] w _ := hO
 have hf : Fits 20 [(4, .bool r23)] a := (hf.cons rfl hf.nil)
 refine nor_then (hK24 _ _ ?_)
 refine wp_ret ?_
 obtain rfl := Option.some.inj hm
 exact post_ret Tryz.results4 hf (.tmp rfl .nil) ⟨rfl, hO.below⟩

end Go.Proofs
