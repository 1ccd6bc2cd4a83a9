/-
  Walks, written by a program (wip/gen): what its model says, the function returns; what was there before is as it was.
-/
import Derived.Test.YtgdhdeemlhllpabGreatDoorLib
import Derived.Test.YtgdhdeemlhllpabGreatDoorW0
import Derived.Test.YtgdhdeemlhllpabGreatDoorW1
import Derived.Test.YtgdhdeemlhllpabGreatDoorW2
import Derived.Test.YtgdhdeemlhllpabGreatDoorW3
import Derived.Test.YtgdhdeemlhllpabGreatDoorW5
set_option linter.unusedVariables false
set_option linter.unusedSimpArgs false
set_option maxRecDepth 100000
namespace Go.Proofs
open Go.Dk Go.Dm Go.RowKit

set_option maxHeartbeats 1000000 in
theorem w_cookie_Same (x_a : api_Cookie) (x_b : api_Cookie) (R : Bool) (w0 : World) (hG : Glob w0) {x_a_p0 : Option Addr} {x_a_c0 : Nat} (hs0 : Sees w0 x_a_p0 (cells enc_api_Attr x_a.Attrs)) (hc0 : x_a.Attrs.length ≤ x_a_c0) {x_b_p1 : Option Addr} {x_b_c1 : Nat} (hs1 : Sees w0 x_b_p1 (cells enc_api_Attr x_b.Attrs)) (hc1 : x_b.Attrs.length ≤ x_b_c1) (hm : cookie_Same x_a x_b = some R) :
    Calls Tryz.prog 53 #[.agg #[str x_a.Name, str x_a.Value, .slice x_a_p0 x_a.Attrs.length x_a_c0], .agg #[str x_b.Name, str x_b.Value, .slice x_b_p1 x_b.Attrs.length x_b_c1]] w0 fun e w' => e = .returned (.bool R) ∧ Below w0.heap.size w0 w' := by
 rw [cookie_Same] at hm
 refine calls_enter (vs := [.agg #[str x_a.Name, str x_a.Value, .slice x_a_p0 x_a.Attrs.length x_a_c0], .agg #[str x_b.Name, str x_b.Value, .slice x_b_p1 x_b.Attrs.length x_b_c1]]) Tryz.func53 rfl Tryz.ntmps53 rfl fun a hf => ?_
 have hF : Away [] := away_nil
 have hO : Dk.Own w0 [] w0 [] := Dk.Own.refl w0
 have hO := hO.addShr hs0 (by simp [Res.shared])
 have hO := hO.addShr hs1 (by simp [Res.shared])
 refine wp_seq_k fun _ hK3 => ?_
 refine wp_region_list ?_
 refine op_box (v := .agg #[str x_a.Name, str x_a.Value, .slice x_a_p0 x_a.Attrs.length x_a_c0]) (cs := [str x_a.Name, str x_a.Value, .slice x_a_p0 x_a.Attrs.length x_a_c0]) rfl hf rfl rfl hO fun a b1 w hf hO => ?_
 refine op_box (v := .agg #[str x_b.Name, str x_b.Value, .slice x_b_p1 x_b.Attrs.length x_b_c1]) (cs := [str x_b.Name, str x_b.Value, .slice x_b_p1 x_b.Attrs.length x_b_c1]) rfl hf rfl rfl hO fun a b2 w hf hO => ?_
 refine op_as hf rfl rfl fun a hf => ?_
 refine wpList_nil ?_
 refine nor_then (hK3 _ _ ?_)
 refine wp_seq_cut (fun a w => ∃ (t7 : Bool), Fits 24 [(4, .bool t7)] a ∧ Dk.Own w0 [] w [.blk b2 [str x_b.Name, str x_b.Value, .slice x_b_p1 x_b.Attrs.length x_b_c1] 31, .blk b1 [str x_a.Name, str x_a.Value, .slice x_a_p0 x_a.Attrs.length x_a_c0] 31, .shr x_b_p1 (cells enc_api_Attr x_b.Attrs), .shr x_a_p0 (cells enc_api_Attr x_a.Attrs)] ∧ cookie_Same_j1 t7 = some R) ?_ ?_
 refine wp_region_list ?_
 refine op_val (ex_field fa_31_0 hf rfl) rfl hf rfl rfl fun a hf => ?_
 refine op_val (ex_load1 (o := 0) ag_9 (hO.blkSees (i := 1) rfl) rfl hf rfl) rfl hf rfl rfl fun a hf => ?_
 refine op_val (ex_field fa_31_0 hf rfl) rfl hf rfl rfl fun a hf => ?_
 refine op_val (ex_load1 (o := 0) ag_9 (hO.blkSees (i := 0) rfl) rfl hf rfl) rfl hf rfl rfl fun a hf => ?_
 refine op_val (ex_eql_s (l := x_a.Name) (m := x_b.Name) hf rfl rfl) rfl hf rfl rfl fun a hf => ?_
 refine op_mv hf rfl rfl fun a hf => ?_
 rcases bcase (x_a.Name == x_b.Name) with hc4 | hc4
 have hm := it hc4 hm
 refine op_guard rfl hf rfl rfl (hc4) ?_
 refine op_val (ex_field fa_31_1 hf rfl) rfl hf rfl rfl fun a hf => ?_
 refine op_guard rfl hf rfl rfl (hc4) ?_
 refine op_val (ex_load1 (o := 1) ag_9 (hO.blkSees (i := 1) rfl) rfl hf rfl) rfl hf rfl rfl fun a hf => ?_
 refine op_guard rfl hf rfl rfl (hc4) ?_
 refine op_val (ex_field fa_31_1 hf rfl) rfl hf rfl rfl fun a hf => ?_
 refine op_guard rfl hf rfl rfl (hc4) ?_
 refine op_val (ex_load1 (o := 1) ag_9 (hO.blkSees (i := 0) rfl) rfl hf rfl) rfl hf rfl rfl fun a hf => ?_
 refine op_guard rfl hf rfl rfl (hc4) ?_
 refine op_val (ex_eql_s (l := x_a.Value) (m := x_b.Value) hf rfl rfl) rfl hf rfl rfl fun a hf => ?_
 refine op_val (ex_pick_t hf rfl hc4 rfl) rfl hf rfl rfl fun a hf => ?_
 refine op_mv hf rfl rfl fun a hf => ?_
 rcases bcase (x_a.Value == x_b.Value) with hc5 | hc5
 have hm := it hc5 hm
 refine op_guard rfl hf rfl rfl (hc5) ?_
 refine op_val (ex_field fa_31_2 hf rfl) rfl hf rfl rfl fun a hf => ?_
 refine op_guard rfl hf rfl rfl (hc5) ?_
 refine op_val (ex_load1 (o := 2) ag_29 (hO.blkSees (i := 1) rfl) rfl hf rfl) rfl hf rfl rfl fun a hf => ?_
 refine op_guard rfl hf rfl rfl (hc5) ?_
 refine op_val (ex_field fa_31_2 hf rfl) rfl hf rfl rfl fun a hf => ?_
 refine op_guard rfl hf rfl rfl (hc5) ?_
 refine op_val (ex_load1 (o := 2) ag_29 (hO.blkSees (i := 0) rfl) rfl hf rfl) rfl hf rfl rfl fun a hf => ?_
 refine op_guard rfl hf rfl rfl (hc5) ?_
 obtain ⟨r6, hr6, hm⟩ := ob hm
 refine op_enter (ex_call c_93 hf (vs := [.slice x_a_p0 x_a.Attrs.length x_a_c0, .slice x_b_p1 x_b.Attrs.length x_b_c1]) rfl) rfl hf rfl rfl (w_slices_Equal_gapi_Attr_api_Attr_ x_a.Attrs x_b.Attrs r6 _ (hG.own hF hO) (hO.sees (i := 3) rfl) hc0 (hO.sees (i := 2) rfl) hc1 hr6) ?_
 rintro e w' ⟨he, hb⟩
 refine ⟨_, he, fun a hf => ?_⟩
 have hO := hO.grow hb
 refine op_val (ex_pick_t hf rfl hc5 rfl) rfl hf rfl rfl fun a hf => ?_
 refine op_as hf rfl rfl fun a hf => ?_
 refine wpList_nil ?_
 refine nor_then ?_
 exact ⟨r6, (hf.cons rfl hf.nil), hO, hm⟩
 have hm := ie hc5 hm
 refine op_pass rfl hf rfl rfl (hc5) rfl rfl fun a hf => ?_
 refine op_pass rfl hf rfl rfl (hc5) rfl rfl fun a hf => ?_
 refine op_pass rfl hf rfl rfl (hc5) rfl rfl fun a hf => ?_
 refine op_pass rfl hf rfl rfl (hc5) rfl rfl fun a hf => ?_
 refine op_pass rfl hf rfl rfl (hc5) rfl rfl fun a hf => ?_
 refine op_val (ex_pick_f hf rfl hc5 rfl) rfl hf rfl rfl fun a hf => ?_
 refine op_as hf rfl rfl fun a hf => ?_
 refine wpList_nil ?_
 refine nor_then ?_
 exact ⟨false, (hf.cons rfl hf.nil), hO, hm⟩
 have hm := ie hc4 hm
 refine op_pass rfl hf rfl rfl (hc4) rfl rfl fun a hf => ?_
 refine op_pass rfl hf rfl rfl (hc4) rfl rfl fun a hf => ?_
 refine op_pass rfl hf rfl rfl (hc4) rfl rfl fun a hf => ?_
 refine op_pass rfl hf rfl rfl (hc4) rfl rfl fun a hf => ?_
 refine op_pass rfl hf rfl rfl (hc4) rfl rfl fun a hf => ?_
 refine op_val (ex_pick_f hf rfl hc4 rfl) rfl hf rfl rfl fun a hf => ?_
 refine op_mv hf rfl rfl fun a hf => ?_
 refine op_pass rfl hf rfl rfl (rfl) rfl rfl fun a hf => ?_
 refine op_pass rfl hf rfl rfl (rfl) rfl rfl fun a hf => ?_
 refine op_pass rfl hf rfl rfl (rfl) rfl rfl fun a hf => ?_
 refine op_pass rfl hf rfl rfl (rfl) rfl rfl fun a hf => ?_
 refine op_pass rfl hf rfl rfl (rfl) rfl rfl fun a hf => ?_
 refine op_val (ex_pick_f hf rfl rfl rfl) rfl hf rfl rfl fun a hf => ?_
 refine op_as hf rfl rfl fun a hf => ?_
 refine wpList_nil ?_
 refine nor_then ?_
 exact ⟨false, (hf.cons rfl hf.nil), hO, hm⟩
 rintro a w ⟨t7, hf, hO, hm⟩
 rw [cookie_Same_j1] at hm
 refine wp_ret ?_
 obtain rfl := Option.some.inj hm
 exact post_ret Tryz.results53 hf (.tmp rfl .nil) ⟨rfl, hO.below⟩

set_option maxHeartbeats 1000000 in
theorem w_cookie_Text (x_c : api_Cookie) (R : Str × Int) (w0 : World) (hG : Glob w0) {x_c_p0 : Option Addr} {x_c_c0 : Nat} (hs0 : Sees w0 x_c_p0 (cells enc_api_Attr x_c.Attrs)) (hc0 : x_c.Attrs.length ≤ x_c_c0) (hm : cookie_Text x_c = some R) :
    Calls Tryz.prog 27 #[.agg #[str x_c.Name, str x_c.Value, .slice x_c_p0 x_c.Attrs.length x_c_c0]] w0 fun e w' => e = .returned (.tuple #[str R.1, int R.2]) ∧ Below w0.heap.size w0 w' := by
 rw [cookie_Text] at hm
 refine calls_enter (vs := [.agg #[str x_c.Name, str x_c.Value, .slice x_c_p0 x_c.Attrs.length x_c_c0]]) Tryz.func27 rfl Tryz.ntmps27 rfl fun a hf => ?_
 have hF : Away [] := away_nil
 have hO : Dk.Own w0 [] w0 [] := Dk.Own.refl w0
 have hO := hO.addShr hs0 (by simp [Res.shared])
 refine wp_seq_k fun _ hK2 => ?_
 refine wp_region_list ?_
 refine op_box (v := .agg #[str x_c.Name, str x_c.Value, .slice x_c_p0 x_c.Attrs.length x_c_c0]) (cs := [str x_c.Name, str x_c.Value, .slice x_c_p0 x_c.Attrs.length x_c_c0]) rfl hf rfl rfl hO fun a b1 w hf hO => ?_
 refine op_as hf rfl rfl fun a hf => ?_
 refine op_as hf rfl rfl fun a hf => ?_
 refine wpList_nil ?_
 refine nor_then (hK2 _ _ ?_)
 refine wp_seq_k fun _ hK6 => ?_
 refine wp_region_list ?_
 refine op_val (ex_field fa_31_0 hf rfl) rfl hf rfl rfl fun a hf => ?_
 refine op_val (ex_load1 (o := 0) ag_9 (hO.blkSees (i := 0) rfl) rfl hf rfl) rfl hf rfl rfl fun a hf => ?_
 obtain ⟨s3, hs3, hm⟩ := ob hm
 refine op_val (ex_cat (l := x_c.Name) (m := [61]) hf rfl rfl hs3) rfl hf rfl rfl fun a hf => ?_
 refine op_val (ex_field fa_31_1 hf rfl) rfl hf rfl rfl fun a hf => ?_
 refine op_val (ex_load1 (o := 1) ag_9 (hO.blkSees (i := 0) rfl) rfl hf rfl) rfl hf rfl rfl fun a hf => ?_
 obtain ⟨s4, hs4, hm⟩ := ob hm
 refine op_val (ex_cat (l := s3) (m := x_c.Value) hf rfl rfl hs4) rfl hf rfl rfl fun a hf => ?_
 refine op_buildSlice (vs := [(0, str s4)]) (cs := [str s4]) (e := 9) (sz := 1) hf rfl rfl (fun w => by kernel_rfl) rfl rfl hO fun a b5 w hf hO => ?_
 refine op_as hf rfl rfl fun a hf => ?_
 refine wpList_nil ?_
 refine nor_then (hK6 _ _ ?_)
 refine wp_seq_k fun _ hK36 => ?_
 refine wp_seq_k fun _ hK7 => ?_
 refine wp_region_list ?_
 refine op_val (ex_field fa_31_2 hf rfl) rfl hf rfl rfl fun a hf => ?_
 refine op_val (ex_load1 (o := 2) ag_29 (hO.blkSees (i := 1) rfl) rfl hf rfl) rfl hf rfl rfl fun a hf => ?_
 refine op_val (ex_len_l Tryz.underlying29 hf rfl) rfl hf rfl rfl fun a hf => ?_
 refine op_mv hf rfl rfl fun a hf => ?_
 refine wpList_nil ?_
 refine nor_then (hK7 _ _ ?_)
 refine wp_block ?_
 refine wp_loop_n (fun k a w => ∃ (p8 : Option Addr) (c9 : Nat) (l10 : List Str) (i11 : Int), Fits 57 [(1, ptr b1 0), (4, .slice p8 l10.length c9), (18, .slice x_c_p0 x_c.Attrs.length x_c_c0), (19, int (x_c.Attrs.length : Int)), (20, int i11)] a ∧ Dk.Own w0 [] w [.row (.slice p8 l10.length c9) 9 1 l10.length (cells enc_str l10), .blk b1 [str x_c.Name, str x_c.Value, .slice x_c_p0 x_c.Attrs.length x_c_c0] 31, .shr x_c_p0 (cells enc_api_Attr x_c.Attrs)] ∧ cookie_Text_L1 x_c k l10 i11 = some R) ?_ fuel ?_
 rintro n1 a w ⟨p8, c9, l10, i11, hf, hO, hm⟩
 obtain _ | n1 := n1
 rw [cookie_Text_L1] at hm
 cases hm
 rw [cookie_Text_L1] at hm
 refine wp_seq_k fun _ hK12 => ?_
 refine wp_region_list ?_
 refine op_val (ex_lss (m := i11) (n := (x_c.Attrs.length : Int)) hf rfl rfl) rfl hf rfl rfl fun a hf => ?_
 refine wpList_nil ?_
 refine nor_then (hK12 _ _ ?_)
 refine wp_seq_k fun _ hK14 => ?_
 refine wp_cond_cut hf rfl (fun hc13 => ?_) (fun hc13 => ?_)
 have hm := it hc13 hm
 refine wp_skip ?_
 refine nor_then (hK14 _ _ ?_)
 refine wp_seq_cut (fun a w => ∃ (p32 : Option Addr) (c33 : Nat) (l34 : List Str), Fits 57 [(1, ptr b1 0), (4, .slice p32 l34.length c33), (18, .slice x_c_p0 x_c.Attrs.length x_c_c0), (19, int (x_c.Attrs.length : Int)), (20, int i11)] a ∧ Dk.Own w0 [] w [.row (.slice p32 l34.length c33) 9 1 l34.length (cells enc_str l34), .blk b1 [str x_c.Name, str x_c.Value, .slice x_c_p0 x_c.Attrs.length x_c_c0] 31, .shr x_c_p0 (cells enc_api_Attr x_c.Attrs)] ∧ cookie_Text_j2 (cookie_Text_L1 x_c n1) i11 l34 = some R) ?_ ?_
 refine wp_block ?_
 refine wp_seq_k fun _ hK19 => ?_
 refine wp_region_list ?_
 obtain ⟨x15, hx15, hm⟩ := ob hm
 obtain ⟨b16, o17, hix15, hSx15⟩ := elemAt (enc := enc_api_Attr) (sz := 3) (xs := x_c.Attrs) 29 Tryz.underlying29 sz_64 (by decide) (fun _ => rfl) (hO.sees (i := 2) rfl) hx15
 refine op_val (ex_indexAddr hix15 hf rfl rfl) rfl hf rfl rfl fun a hf => ?_
 refine op_val (ex_loadN (o := 0) (vs := [str x15.Name, str x15.Value, .bool x15.Has]) ag_64 sz_64 (hSx15 _ (hO.sees (i := 2) rfl)) rfl rfl hf rfl) rfl hf rfl rfl fun a hf => ?_
 refine op_alloc al_64 hf rfl hO fun a b18 w hf hO => ?_
 refine op_storeN (i := 0) (n := 3) sz_64 rfl rfl rfl (by simp [Value.oneCell']) hf rfl rfl hO fun w hO => ?_
 refine wpList_nil ?_
 refine nor_then (hK19 _ _ ?_)
 refine wp_seq_k fun _ hK20 => ?_
 refine wp_region_list ?_
 refine op_val (ex_field fa_64_2 hf rfl) rfl hf rfl rfl fun a hf => ?_
 refine op_val (ex_load1 (o := 2) ag_4 (hO.blkSees (i := 0) rfl) rfl hf rfl) rfl hf rfl rfl fun a hf => ?_
 refine wpList_nil ?_
 refine nor_then (hK20 _ _ ?_)
 refine wp_cond_cut hf rfl (fun hc21 => ?_) (fun hc21 => ?_)
 have hm := it hc21 hm
 refine wp_region_list ?_
 refine op_mv hf rfl rfl fun a hf => ?_
 refine op_val (ex_field fa_64_0 hf rfl) rfl hf rfl rfl fun a hf => ?_
 refine op_val (ex_load1 (o := 0) ag_9 (hO.blkSees (i := 0) rfl) rfl hf rfl) rfl hf rfl rfl fun a hf => ?_
 obtain ⟨s22, hs22, hm⟩ := ob hm
 refine op_val (ex_cat (l := x15.Name) (m := [61]) hf rfl rfl hs22) rfl hf rfl rfl fun a hf => ?_
 refine op_val (ex_field fa_64_1 hf rfl) rfl hf rfl rfl fun a hf => ?_
 refine op_val (ex_load1 (o := 1) ag_9 (hO.blkSees (i := 0) rfl) rfl hf rfl) rfl hf rfl rfl fun a hf => ?_
 obtain ⟨s23, hs23, hm⟩ := ob hm
 refine op_val (ex_cat (l := s22) (m := x15.Value) hf rfl rfl hs23) rfl hf rfl rfl fun a hf => ?_
 refine op_buildSlice (vs := [(0, str s23)]) (cs := [str s23]) (e := 9) (sz := 1) hf rfl rfl (fun w => by kernel_rfl) rfl rfl hO fun a b24 w hf hO => ?_
 obtain ⟨hg27, hm⟩ := og hm
 refine op_appendT el_61 (enc := enc_str) (xs := l10) (ys := ([s23] : List Str)) (i := 2) (fun _ => rfl) rfl (hO.rowSees (i := 0) rfl) (by simp [cells, enc_str, Value.oneCell']) hg27 hf rfl rfl rfl hO fun a p25 c26 w hf hO => ?_
 refine op_as hf rfl rfl fun a hf => ?_
 refine wpList_nil ?_
 refine nor_block ?_
 refine nor_then ?_
 exact ⟨p25, c26, l10 ++ ([s23] : List Str), (hf.cons rfl (hf.cons rfl (hf.cons rfl (hf.cons rfl (hf.cons rfl hf.nil))))), (hO.sub (.cons _ (.cons _ (.cons_cons _ (.cons_cons _ (.cons_cons _ .slnil)))))), hm⟩
 have hm := ie hc21 hm
 refine wp_region_list ?_
 refine op_mv hf rfl rfl fun a hf => ?_
 refine op_val (ex_field fa_64_0 hf rfl) rfl hf rfl rfl fun a hf => ?_
 refine op_val (ex_load1 (o := 0) ag_9 (hO.blkSees (i := 0) rfl) rfl hf rfl) rfl hf rfl rfl fun a hf => ?_
 refine op_buildSlice (vs := [(0, str x15.Name)]) (cs := [str x15.Name]) (e := 9) (sz := 1) hf rfl rfl (fun w => by kernel_rfl) rfl rfl hO fun a b28 w hf hO => ?_
 obtain ⟨hg31, hm⟩ := og hm
 refine op_appendT el_61 (enc := enc_str) (xs := l10) (ys := ([x15.Name] : List Str)) (i := 2) (fun _ => rfl) rfl (hO.rowSees (i := 0) rfl) (by simp [cells, enc_str, Value.oneCell']) hg31 hf rfl rfl rfl hO fun a p29 c30 w hf hO => ?_
 refine op_as hf rfl rfl fun a hf => ?_
 refine wpList_nil ?_
 refine nor_block ?_
 refine nor_then ?_
 exact ⟨p29, c30, l10 ++ ([x15.Name] : List Str), (hf.cons rfl (hf.cons rfl (hf.cons rfl (hf.cons rfl (hf.cons rfl hf.nil))))), (hO.sub (.cons _ (.cons _ (.cons_cons _ (.cons_cons _ (.cons_cons _ .slnil)))))), hm⟩
 rintro a w ⟨p32, c33, l34, hf, hO, hm⟩
 rw [cookie_Text_j2] at hm
 refine wp_region_list ?_
 obtain ⟨i35, hi35, hm⟩ := ob hm
 refine op_val (ex_add hf rfl rfl hi35) rfl hf rfl rfl fun a hf => ?_
 refine op_mv hf rfl rfl fun a hf => ?_
 refine wpList_nil ?_
 refine nor_then ?_
 exact ⟨_, Nat.lt_succ_self _, p32, c33, l34, i35, (hf.cons rfl (hf.cons rfl (hf.cons rfl (hf.cons rfl (hf.cons rfl hf.nil))))), hO, hm⟩
 have hm := ie hc13 hm
 refine wp_exit ?_
 refine exit_then ?_
 refine exit_then ?_
 refine exit_here ?_
 refine nor_then (hK36 _ _ ?_)
 refine wp_seq_k fun _ hK38 => ?_
 refine wp_region_list ?_
 refine op_mv hf rfl rfl fun a hf => ?_
 obtain ⟨r37, hr37, hm⟩ := ob hm
 refine op_enter (ex_call c_52 hf (vs := [str [59, 32], .slice p8 l10.length c9]) rfl) rfl hf rfl rfl (w_quill_Join [59, 32] l10 r37 _ (hG.own hF hO) (hO.rowSees (i := 0) rfl) (hO.rowCap (i := 0) rfl) hr37) ?_
 rintro e w' ⟨he, hb⟩
 refine ⟨_, he, fun a hf => ?_⟩
 have hO := hO.grow hb
 refine op_as hf rfl rfl fun a hf => ?_
 refine wpList_nil ?_
 refine nor_then (hK38 _ _ ?_)
 refine wp_seq_k fun _ hK49 => ?_
 refine wp_seq_k fun _ hK43 => ?_
 refine wp_region_list ?_
 refine op_mv hf rfl rfl fun a hf => ?_
 obtain ⟨r39, hr39, hm⟩ := ob hm
 refine op_enter (ex_call c_11 hf (vs := [str r37]) rfl) rfl hf rfl rfl (w_cookie_Parse r37 r39 _ (hG.own hF hO) hr39) ?_
 rintro e w' ⟨p40, c41, he, hO'⟩
 refine ⟨_, he, fun a hf => ?_⟩
 have hO := hO.call hO' (by simp [Res.shared])
 refine op_mv hf rfl rfl fun a hf => ?_
 refine op_val (ex_extract hf rfl rfl) rfl hf rfl rfl fun a hf => ?_
 refine op_val (ex_extract hf rfl rfl) rfl hf rfl rfl fun a hf => ?_
 refine op_alloc al_31 hf rfl hO fun a b42 w hf hO => ?_
 have hO := hO.nilRow 64 3
 refine op_storeN (i := 1) (n := 3) sz_31 rfl rfl rfl (by simp [Value.oneCell']) hf rfl rfl hO fun w hO => ?_
 refine op_as hf rfl rfl fun a hf => ?_
 refine wpList_nil ?_
 refine nor_then (hK43 _ _ ?_)
 refine wp_seq_cut (fun a w => ∃ (t46 : Bool), Fits 57 [(7, str r37), (55, .bool t46)] a ∧ Dk.Own w0 [] w [.row (.slice none 0 0) 64 3 0 (cells enc_api_Attr []), .blk b42 [str r39.1.Name, str r39.1.Value, .slice p40 r39.1.Attrs.length c41] 31, .row (.slice p40 r39.1.Attrs.length c41) 64 3 r39.1.Attrs.length (cells enc_api_Attr r39.1.Attrs), .row (.slice p8 l10.length c9) 9 1 l10.length (cells enc_str l10), .blk b1 [str x_c.Name, str x_c.Value, .slice x_c_p0 x_c.Attrs.length x_c_c0] 31, .shr x_c_p0 (cells enc_api_Attr x_c.Attrs)] ∧ cookie_Text_j3 r37 t46 = some R) ?_ ?_
 refine wp_region_list ?_
 refine op_mv hf rfl rfl fun a hf => ?_
 refine op_val (ex_neq (m := r39.2) (n := 0) hf rfl rfl) rfl hf rfl rfl fun a hf => ?_
 refine op_mv hf rfl rfl fun a hf => ?_
 rcases bcase (!(r39.2 == 0)) with hc44 | hc44
 have hm := it hc44 hm
 refine op_pass rfl hf rfl rfl (hc44) rfl rfl fun a hf => ?_
 refine op_pass rfl hf rfl rfl (hc44) rfl rfl fun a hf => ?_
 refine op_pass rfl hf rfl rfl (hc44) rfl rfl fun a hf => ?_
 refine op_pass rfl hf rfl rfl (hc44) rfl rfl fun a hf => ?_
 refine op_val (ex_pick_t hf rfl hc44 rfl) rfl hf rfl rfl fun a hf => ?_
 refine wpList_nil ?_
 refine nor_then ?_
 exact ⟨true, (hf.cons rfl (hf.cons rfl hf.nil)), hO, hm⟩
 have hm := ie hc44 hm
 refine op_guard rfl hf rfl rfl (hc44) ?_
 refine op_val (ex_loadN (o := 0) (vs := [str r39.1.Name, str r39.1.Value, .slice p40 r39.1.Attrs.length c41]) ag_31 sz_31 (hO.blkSees (i := 1) rfl) rfl rfl hf rfl) rfl hf rfl rfl fun a hf => ?_
 refine op_guard rfl hf rfl rfl (hc44) ?_
 refine op_val (ex_loadN (o := 0) (vs := [str x_c.Name, str x_c.Value, .slice x_c_p0 x_c.Attrs.length x_c_c0]) ag_31 sz_31 (hO.blkSees (i := 4) rfl) rfl rfl hf rfl) rfl hf rfl rfl fun a hf => ?_
 refine op_guard rfl hf rfl rfl (hc44) ?_
 obtain ⟨r45, hr45, hm⟩ := ob hm
 refine op_enter (ex_call c_53 hf (vs := [.agg #[str r39.1.Name, str r39.1.Value, .slice p40 r39.1.Attrs.length c41], .agg #[str x_c.Name, str x_c.Value, .slice x_c_p0 x_c.Attrs.length x_c_c0]]) rfl) rfl hf rfl rfl (w_cookie_Same r39.1 x_c r45 _ (hG.own hF hO) (hO.rowSees (i := 2) rfl) (hO.rowCap (i := 2) rfl) (hO.sees (i := 5) rfl) hc0 hr45) ?_
 rintro e w' ⟨he, hb⟩
 refine ⟨_, he, fun a hf => ?_⟩
 have hO := hO.grow hb
 refine op_guard rfl hf rfl rfl (hc44) ?_
 refine op_val (ex_not hf rfl) rfl hf rfl rfl fun a hf => ?_
 refine op_val (ex_pick_f hf rfl hc44 rfl) rfl hf rfl rfl fun a hf => ?_
 refine wpList_nil ?_
 refine nor_then ?_
 exact ⟨!r45, (hf.cons rfl (hf.cons rfl hf.nil)), hO, hm⟩
 rintro a w ⟨t46, hf, hO, hm⟩
 rw [cookie_Text_j3] at hm
 refine wp_cond_cut hf rfl (fun hc47 => ?_) (fun hc47 => ?_)
 have hm := it hc47 hm
 refine wp_seq_k fun _ hK48 => ?_
 refine wp_region_list ?_
 refine op_as hf rfl rfl fun a hf => ?_
 refine op_as hf rfl rfl fun a hf => ?_
 refine wpList_nil ?_
 refine nor_then (hK48 _ _ ?_)
 refine wp_ret ?_
 refine ret_then ?_
 obtain rfl := Option.some.inj hm
 exact post_ret Tryz.results27 hf (.tmp rfl (.tmp rfl .nil)) ⟨rfl, hO.below⟩
 have hm := ie hc47 hm
 refine wp_skip ?_
 refine nor_then (hK49 _ _ ?_)
 refine wp_seq_k fun _ hK50 => ?_
 refine wp_region_list ?_
 refine op_mv hf rfl rfl fun a hf => ?_
 refine op_as hf rfl rfl fun a hf => ?_
 refine op_as hf rfl rfl fun a hf => ?_
 refine wpList_nil ?_
 refine nor_then (hK50 _ _ ?_)
 refine wp_ret ?_
 obtain rfl := Option.some.inj hm
 exact post_ret Tryz.results27 hf (.tmp rfl (.tmp rfl .nil)) ⟨rfl, hO.below⟩
 exact ⟨some ⟨b5, 0, none⟩, 1, ([s4] : List Str), 0, (hf.cons rfl (hf.cons rfl (hf.cons rfl (hf.cons rfl (hf.cons rfl hf.nil))))), hO, hm⟩

set_option maxHeartbeats 1000000 in
theorem w_domains_Rewrite (x_s : Str) (x_l : List api_Swap) (R : Str) (w0 : World) (hG : GlobT w0) {x_l_p0 : Option Addr} {x_l_c0 : Nat} (hs0 : Sees w0 x_l_p0 (cells enc_api_Swap x_l)) (hc0 : x_l.length ≤ x_l_c0) (hm : domains_Rewrite x_s x_l = some R) :
    Calls Tryz.prog 10 #[str x_s, .slice x_l_p0 x_l.length x_l_c0] w0 fun e w' => e = .returned (str R) ∧ Below w0.heap.size w0 w' := by
 rw [domains_Rewrite] at hm
 refine calls_enter (vs := [str x_s, .slice x_l_p0 x_l.length x_l_c0]) Tryz.func10 rfl Tryz.ntmps10 rfl fun a hf => ?_
 have hF : Away [] := away_nil
 have hO : Dk.Own w0 [] w0 [] := Dk.Own.refl w0
 have hO := hO.addShr hs0 (by simp [Res.shared])
 refine wp_seq_k fun _ hK1 => ?_
 refine wp_region_list ?_
 refine op_as hf rfl rfl fun a hf => ?_
 refine wpList_nil ?_
 refine nor_then (hK1 _ _ ?_)
 refine wp_seq_k fun _ hK6 => ?_
 refine wp_region_list ?_
 refine op_mv hf rfl rfl fun a hf => ?_
 obtain ⟨r2, hr2, hm⟩ := ob hm
 refine op_enter (ex_call c_11 hf (vs := [str x_s]) rfl) rfl hf rfl rfl (w_cookie_Parse x_s r2 _ (hG.own hF hO).1 hr2) ?_
 rintro e w' ⟨p3, c4, he, hO'⟩
 refine ⟨_, he, fun a hf => ?_⟩
 have hO := hO.call hO' (by simp [Res.shared])
 refine op_mv hf rfl rfl fun a hf => ?_
 refine op_val (ex_extract hf rfl rfl) rfl hf rfl rfl fun a hf => ?_
 refine op_val (ex_extract hf rfl rfl) rfl hf rfl rfl fun a hf => ?_
 refine op_alloc al_31 hf rfl hO fun a b5 w hf hO => ?_
 have hO := hO.nilRow 64 3
 refine op_storeN (i := 1) (n := 3) sz_31 rfl rfl rfl (by simp [Value.oneCell']) hf rfl rfl hO fun w hO => ?_
 refine op_as hf rfl rfl fun a hf => ?_
 refine wpList_nil ?_
 refine nor_then (hK6 _ _ ?_)
 refine wp_seq_k fun _ hK10 => ?_
 refine wp_seq_k fun _ hK7 => ?_
 refine wp_region_list ?_
 refine op_mv hf rfl rfl fun a hf => ?_
 refine op_val (ex_neq (m := r2.2) (n := 0) hf rfl rfl) rfl hf rfl rfl fun a hf => ?_
 refine wpList_nil ?_
 refine nor_then (hK7 _ _ ?_)
 refine wp_cond_cut hf rfl (fun hc8 => ?_) (fun hc8 => ?_)
 have hm := it hc8 hm
 refine wp_seq_k fun _ hK9 => ?_
 refine wp_region_list ?_
 refine op_mv hf rfl rfl fun a hf => ?_
 refine op_as hf rfl rfl fun a hf => ?_
 refine wpList_nil ?_
 refine nor_then (hK9 _ _ ?_)
 refine wp_ret ?_
 refine ret_then ?_
 obtain rfl := Option.some.inj hm
 exact post_ret Tryz.results10 hf (.tmp rfl .nil) ⟨rfl, hO.below⟩
 have hm := ie hc8 hm
 refine wp_skip ?_
 refine nor_then (hK10 _ _ ?_)
 refine wp_seq_k fun _ hK12 => ?_
 refine wp_region_list ?_
 refine op_val (ex_loadN (o := 0) (vs := [str r2.1.Name, str r2.1.Value, .slice p3 r2.1.Attrs.length c4]) ag_31 sz_31 (hO.blkSees (i := 1) rfl) rfl rfl hf rfl) rfl hf rfl rfl fun a hf => ?_
 obtain ⟨r11, hr11, hm⟩ := ob hm
 refine op_enter (ex_call c_12 hf (vs := [.agg #[str r2.1.Name, str r2.1.Value, .slice p3 r2.1.Attrs.length c4], str [68, 111, 109, 97, 105, 110]]) rfl) rfl hf rfl rfl (w_cookie_Get r2.1 [68, 111, 109, 97, 105, 110] r11 _ (hG.own hF hO).1 (hO.rowSees (i := 2) rfl) (hO.rowCap (i := 2) rfl) hr11) ?_
 rintro e w' ⟨he, hb⟩
 refine ⟨_, he, fun a hf => ?_⟩
 have hO := hO.grow hb
 refine op_mv hf rfl rfl fun a hf => ?_
 refine op_val (ex_extract hf rfl rfl) rfl hf rfl rfl fun a hf => ?_
 refine op_val (ex_extract hf rfl rfl) rfl hf rfl rfl fun a hf => ?_
 refine op_as hf rfl rfl fun a hf => ?_
 refine op_as hf rfl rfl fun a hf => ?_
 refine wpList_nil ?_
 refine nor_then (hK12 _ _ ?_)
 refine wp_seq_k fun _ hK14 => ?_
 refine wp_region_list ?_
 refine op_mv hf rfl rfl fun a hf => ?_
 refine op_mv hf rfl rfl fun a hf => ?_
 obtain ⟨r13, hr13, hm⟩ := ob hm
 refine op_enter (ex_call c_13 hf (vs := [str r11.1, .slice x_l_p0 x_l.length x_l_c0]) rfl) rfl hf rfl rfl (w_domains_Map r11.1 x_l r13 _ (hG.own hF hO) (hO.sees (i := 3) rfl) hc0 hr13) ?_
 rintro e w' ⟨he, hb⟩
 refine ⟨_, he, fun a hf => ?_⟩
 have hO := hO.grow hb
 refine op_mv hf rfl rfl fun a hf => ?_
 refine op_val (ex_extract hf rfl rfl) rfl hf rfl rfl fun a hf => ?_
 refine op_val (ex_extract hf rfl rfl) rfl hf rfl rfl fun a hf => ?_
 refine op_as hf rfl rfl fun a hf => ?_
 refine op_as hf rfl rfl fun a hf => ?_
 refine wpList_nil ?_
 refine nor_then (hK14 _ _ ?_)
 refine wp_seq_k fun _ hK18 => ?_
 refine wp_seq_k fun _ hK15 => ?_
 refine wp_region_list ?_
 refine op_mv hf rfl rfl fun a hf => ?_
 refine op_val (ex_not hf rfl) rfl hf rfl rfl fun a hf => ?_
 refine wpList_nil ?_
 refine nor_then (hK15 _ _ ?_)
 refine wp_cond_cut hf rfl (fun hc16 => ?_) (fun hc16 => ?_)
 have hm := it hc16 hm
 refine wp_seq_k fun _ hK17 => ?_
 refine wp_region_list ?_
 refine op_mv hf rfl rfl fun a hf => ?_
 refine op_as hf rfl rfl fun a hf => ?_
 refine wpList_nil ?_
 refine nor_then (hK17 _ _ ?_)
 refine wp_ret ?_
 refine ret_then ?_
 obtain rfl := Option.some.inj hm
 exact post_ret Tryz.results10 hf (.tmp rfl .nil) ⟨rfl, hO.below⟩
 have hm := ie hc16 hm
 refine wp_skip ?_
 refine nor_then (hK18 _ _ ?_)
 refine wp_seq_k fun _ hK23 => ?_
 refine wp_region_list ?_
 refine op_val (ex_loadN (o := 0) (vs := [str r2.1.Name, str r2.1.Value, .slice p3 r2.1.Attrs.length c4]) ag_31 sz_31 (hO.blkSees (i := 1) rfl) rfl rfl hf rfl) rfl hf rfl rfl fun a hf => ?_
 refine op_mv hf rfl rfl fun a hf => ?_
 obtain ⟨r19, hr19, hm⟩ := ob hm
 refine op_enter (ex_call c_28 hf (vs := [.agg #[str r2.1.Name, str r2.1.Value, .slice p3 r2.1.Attrs.length c4], str [68, 111, 109, 97, 105, 110], str r13.1]) rfl) rfl hf rfl rfl (w_cookie_Set r2.1 [68, 111, 109, 97, 105, 110] r13.1 r19 _ (hG.own hF hO).1 (hO.rowSees (i := 2) rfl) (hO.rowCap (i := 2) rfl) hr19) ?_
 rintro e w' ⟨p20, c21, he, hO'⟩
 refine ⟨_, he, fun a hf => ?_⟩
 have hO := hO.call hO' (by simp [Res.shared])
 obtain ⟨r22, hr22, hm⟩ := ob hm
 refine op_enter (ex_call c_27 hf (vs := [.agg #[str r19.Name, str r19.Value, .slice p20 r19.Attrs.length c21]]) rfl) rfl hf rfl rfl (w_cookie_Text r19 r22 _ (hG.own hF hO).1 (hO.rowSees (i := 0) rfl) (hO.rowCap (i := 0) rfl) hr22) ?_
 rintro e w' ⟨he, hb⟩
 refine ⟨_, he, fun a hf => ?_⟩
 have hO := hO.grow hb
 refine op_mv hf rfl rfl fun a hf => ?_
 refine op_val (ex_extract hf rfl rfl) rfl hf rfl rfl fun a hf => ?_
 refine op_val (ex_extract hf rfl rfl) rfl hf rfl rfl fun a hf => ?_
 refine op_as hf rfl rfl fun a hf => ?_
 refine op_as hf rfl rfl fun a hf => ?_
 refine wpList_nil ?_
 refine nor_then (hK23 _ _ ?_)
 refine wp_seq_k fun _ hK27 => ?_
 refine wp_seq_k fun _ hK24 => ?_
 refine wp_region_list ?_
 refine op_mv hf rfl rfl fun a hf => ?_
 refine op_val (ex_neq (m := r22.2) (n := 0) hf rfl rfl) rfl hf rfl rfl fun a hf => ?_
 refine wpList_nil ?_
 refine nor_then (hK24 _ _ ?_)
 refine wp_cond_cut hf rfl (fun hc25 => ?_) (fun hc25 => ?_)
 have hm := it hc25 hm
 refine wp_seq_k fun _ hK26 => ?_
 refine wp_region_list ?_
 refine op_mv hf rfl rfl fun a hf => ?_
 refine op_as hf rfl rfl fun a hf => ?_
 refine wpList_nil ?_
 refine nor_then (hK26 _ _ ?_)
 refine wp_ret ?_
 refine ret_then ?_
 obtain rfl := Option.some.inj hm
 exact post_ret Tryz.results10 hf (.tmp rfl .nil) ⟨rfl, hO.below⟩
 have hm := ie hc25 hm
 refine wp_skip ?_
 refine nor_then (hK27 _ _ ?_)
 refine wp_seq_k fun _ hK28 => ?_
 refine wp_region_list ?_
 refine op_mv hf rfl rfl fun a hf => ?_
 refine op_as hf rfl rfl fun a hf => ?_
 refine wpList_nil ?_
 refine nor_then (hK28 _ _ ?_)
 refine wp_ret ?_
 obtain rfl := Option.some.inj hm
 exact post_ret Tryz.results10 hf (.tmp rfl .nil) ⟨rfl, hO.below⟩

set_option maxHeartbeats 1000000 in
theorem w_ref01_Fold (x_s : Str) (R : Str) (w0 : World) (hG : Glob w0) (hm : ref01_Fold x_s = some R) :
    Calls Tryz.prog 70 #[str x_s] w0 fun e w' => e = .returned (str R) ∧ Below w0.heap.size w0 w' := by
 rw [ref01_Fold] at hm
 refine calls_enter (vs := [str x_s]) Tryz.func70 rfl Tryz.ntmps70 rfl fun a hf => ?_
 have hF : Away [] := away_nil
 have hO : Dk.Own w0 [] w0 [] := Dk.Own.refl w0
 refine wp_seq_k fun _ hK1 => ?_
 refine wp_region_list ?_
 refine op_as hf rfl rfl fun a hf => ?_
 refine wpList_nil ?_
 refine nor_then (hK1 _ _ ?_)
 refine wp_seq_k fun _ hK2 => ?_
 refine wp_region_list ?_
 refine op_as hf rfl rfl fun a hf => ?_
 refine wpList_nil ?_
 refine nor_then (hK2 _ _ ?_)
 refine wp_seq_k fun _ hK30 => ?_
 refine wp_seq_k fun _ hK3 => ?_
 refine wp_region_list ?_
 refine op_as hf rfl rfl fun a hf => ?_
 refine wpList_nil ?_
 refine nor_then (hK3 _ _ ?_)
 refine wp_block ?_
 refine wp_loop_n (fun k a w => ∃ (s4 : Str) (i5 : Int), Fits 36 [(0, str x_s), (3, str s4), (4, int i5)] a ∧ Dk.Own w0 [] w [] ∧ ref01_Fold_L1 x_s k s4 i5 = some R) ?_ fuel ?_
 rintro n1 a w ⟨s4, i5, hf, hO, hm⟩
 obtain _ | n1 := n1
 rw [ref01_Fold_L1] at hm
 cases hm
 rw [ref01_Fold_L1] at hm
 refine wp_seq_k fun _ hK8 => ?_
 refine wp_seq_k fun _ hK6 => ?_
 refine wp_region_list ?_
 refine op_mv hf rfl rfl fun a hf => ?_
 refine op_mv hf rfl rfl fun a hf => ?_
 refine op_val (ex_len_s (l := x_s) Tryz.underlying9 hf rfl) rfl hf rfl rfl fun a hf => ?_
 refine op_val (ex_lss (m := i5) (n := (x_s.length : Int)) hf rfl rfl) rfl hf rfl rfl fun a hf => ?_
 refine wpList_nil ?_
 refine nor_then (hK6 _ _ ?_)
 refine wp_cond_cut hf rfl (fun hc7 => ?_) (fun hc7 => ?_)
 have hm := it hc7 hm
 refine wp_skip ?_
 refine nor_then (hK8 _ _ ?_)
 refine wp_seq_k fun _ hK28 => ?_
 refine wp_block ?_
 refine wp_seq_k fun _ hK11 => ?_
 refine wp_region_list ?_
 refine op_mv hf rfl rfl fun a hf => ?_
 refine op_mv hf rfl rfl fun a hf => ?_
 refine op_mv hf rfl rfl fun a hf => ?_
 obtain ⟨i9, hi9, hm⟩ := ob hm
 refine op_val (ex_add hf rfl rfl hi9) rfl hf rfl rfl fun a hf => ?_
 obtain ⟨s10, hs10, hm⟩ := ob hm
 refine op_val (ex_sub_s (l := x_s) Tryz.underlying9 hf rfl rfl rfl hs10) rfl hf rfl rfl fun a hf => ?_
 refine op_as hf rfl rfl fun a hf => ?_
 refine wpList_nil ?_
 refine nor_then (hK11 _ _ ?_)
 refine wp_seq_k fun _ hK26 => ?_
 refine wp_seq_k fun _ hK12 => ?_
 refine wp_region_list ?_
 refine op_as hf rfl rfl fun a hf => ?_
 refine wpList_nil ?_
 refine nor_then (hK12 _ _ ?_)
 refine wp_block ?_
 refine wp_loop_n (fun k a w => ∃ (s13 : Str) (i14 : Int), Fits 36 [(0, str x_s), (3, str s4), (4, int i5), (5, str s13), (6, int i14)] a ∧ Dk.Own w0 [] w [] ∧ ref01_Fold_L2 (ref01_Fold_L1 x_s n1) x_s s4 i5 k s13 i14 = some R) ?_ fuel ?_
 rintro n2 a w ⟨s13, i14, hf, hO, hm⟩
 obtain _ | n2 := n2
 rw [ref01_Fold_L2] at hm
 cases hm
 rw [ref01_Fold_L2] at hm
 refine wp_seq_k fun _ hK17 => ?_
 refine wp_seq_k fun _ hK15 => ?_
 refine wp_region_list ?_
 refine op_mv hf rfl rfl fun a hf => ?_
 refine op_val (ex_lss (m := i14) (n := 26) hf rfl rfl) rfl hf rfl rfl fun a hf => ?_
 refine wpList_nil ?_
 refine nor_then (hK15 _ _ ?_)
 refine wp_cond_cut hf rfl (fun hc16 => ?_) (fun hc16 => ?_)
 have hm := it hc16 hm
 refine wp_skip ?_
 refine nor_then (hK17 _ _ ?_)
 refine wp_seq_cut (fun a w => ∃ (s24 : Str), Fits 36 [(0, str x_s), (3, str s4), (4, int i5), (5, str s24), (6, int i14)] a ∧ Dk.Own w0 [] w [] ∧ ref01_Fold_j3 (ref01_Fold_L2 (ref01_Fold_L1 x_s n1) x_s s4 i5 n2) i14 s24 = some R) ?_ ?_
 refine wp_block ?_
 refine wp_seq_k fun _ hK20 => ?_
 refine wp_quiet (by kernel_rfl) (by kernel_rfl) hO ?_
 refine q_val (fun w hO => ex_move hf rfl) rfl hf rfl rfl fun a hf => ?_
 obtain ⟨b18, hb18, hm⟩ := ob hm
 refine q_val (fun w hO => ex_index (l := [65, 66, 67, 68, 69, 70, 71, 72, 73, 74, 75, 76, 77, 78, 79, 80, 81, 82, 83, 84, 85, 86, 87, 88, 89, 90]) Tryz.underlying9 hf rfl rfl hb18) rfl hf rfl rfl fun a hf => ?_
 refine q_val (fun w hO => ex_move hf rfl) rfl hf rfl rfl fun a hf => ?_
 refine q_val (fun w hO => ex_move hf rfl) rfl hf rfl rfl fun a hf => ?_
 obtain ⟨b19, hb19, hm⟩ := ob hm
 refine q_val (fun w hO => ex_index (l := x_s) Tryz.underlying9 hf rfl rfl hb19) rfl hf rfl rfl fun a hf => ?_
 refine q_val (fun w hO => ex_eql_b (b := b18) (c := b19) hf rfl rfl) rfl hf rfl rfl fun a hf => ?_
 refine wpQuiet_nil ?_
 intro w hO
 refine nor_then (hK20 _ _ ?_)
 refine wp_cond_cut hf rfl (fun hc21 => ?_) (fun hc21 => ?_)
 have hm := it hc21 hm
 refine wp_region_list ?_
 refine op_mv hf rfl rfl fun a hf => ?_
 refine op_mv hf rfl rfl fun a hf => ?_
 obtain ⟨i22, hi22, hm⟩ := ob hm
 refine op_val (ex_add hf rfl rfl hi22) rfl hf rfl rfl fun a hf => ?_
 obtain ⟨s23, hs23, hm⟩ := ob hm
 refine op_val (ex_sub_s (l := [97, 98, 99, 100, 101, 102, 103, 104, 105, 106, 107, 108, 109, 110, 111, 112, 113, 114, 115, 116, 117, 118, 119, 120, 121, 122]) Tryz.underlying9 hf rfl rfl rfl hs23) rfl hf rfl rfl fun a hf => ?_
 refine op_as hf rfl rfl fun a hf => ?_
 refine wpList_nil ?_
 refine nor_block ?_
 refine nor_then ?_
 exact ⟨s23, (hf.cons rfl (hf.cons rfl (hf.cons rfl (hf.cons rfl (hf.cons rfl hf.nil))))), hO, hm⟩
 have hm := ie hc21 hm
 refine wp_skip ?_
 refine nor_block ?_
 refine nor_then ?_
 exact ⟨s13, (hf.cons rfl (hf.cons rfl (hf.cons rfl (hf.cons rfl (hf.cons rfl hf.nil))))), hO, hm⟩
 rintro a w ⟨s24, hf, hO, hm⟩
 rw [ref01_Fold_j3] at hm
 refine wp_region_list ?_
 refine op_mv hf rfl rfl fun a hf => ?_
 obtain ⟨i25, hi25, hm⟩ := ob hm
 refine op_val (ex_add hf rfl rfl hi25) rfl hf rfl rfl fun a hf => ?_
 refine op_as hf rfl rfl fun a hf => ?_
 refine wpList_nil ?_
 refine nor_then ?_
 exact ⟨_, Nat.lt_succ_self _, s24, i25, (hf.cons rfl (hf.cons rfl (hf.cons rfl (hf.cons rfl (hf.cons rfl hf.nil))))), hO, hm⟩
 have hm := ie hc16 hm
 refine wp_exit ?_
 refine exit_then ?_
 refine exit_then ?_
 refine exit_here ?_
 refine nor_then (hK26 _ _ ?_)
 refine wp_region_list ?_
 refine op_mv hf rfl rfl fun a hf => ?_
 refine op_mv hf rfl rfl fun a hf => ?_
 obtain ⟨s27, hs27, hm⟩ := ob hm
 refine op_val (ex_cat (l := s4) (m := s13) hf rfl rfl hs27) rfl hf rfl rfl fun a hf => ?_
 refine op_as hf rfl rfl fun a hf => ?_
 refine wpList_nil ?_
 refine nor_block ?_
 refine nor_then (hK28 _ _ ?_)
 refine wp_region_list ?_
 refine op_mv hf rfl rfl fun a hf => ?_
 obtain ⟨i29, hi29, hm⟩ := ob hm
 refine op_val (ex_add hf rfl rfl hi29) rfl hf rfl rfl fun a hf => ?_
 refine op_as hf rfl rfl fun a hf => ?_
 refine wpList_nil ?_
 refine nor_then ?_
 exact ⟨_, Nat.lt_succ_self _, s27, i29, (hf.cons rfl (hf.cons rfl (hf.cons rfl hf.nil))), hO, hm⟩
 exact ⟨s10, 0, (hf.cons rfl (hf.cons rfl (hf.cons rfl (hf.cons rfl (hf.cons rfl hf.nil))))), hO, hm⟩
 have hm := ie hc7 hm
 refine wp_exit ?_
 refine exit_then ?_
 refine exit_then ?_
 refine exit_here ?_
 refine nor_then (hK30 _ _ ?_)
 refine wp_seq_k fun _ hK31 => ?_
 refine wp_region_list ?_
 refine op_mv hf rfl rfl fun a hf => ?_
 refine op_as hf rfl rfl fun a hf => ?_
 refine wpList_nil ?_
 refine nor_then (hK31 _ _ ?_)
 refine wp_ret ?_
 obtain rfl := Option.some.inj hm
 exact post_ret Tryz.results70 hf (.tmp rfl .nil) ⟨rfl, hO.below⟩
 exact ⟨[], 0, (hf.cons rfl (hf.cons rfl (hf.cons rfl hf.nil))), hO, hm⟩

set_option maxHeartbeats 1000000 in
theorem w_ref28_Place (x_c : api_Cookie) (x_name : Str) (R : Int) (w0 : World) (hG : Glob w0) {x_c_p0 : Option Addr} {x_c_c0 : Nat} (hs0 : Sees w0 x_c_p0 (cells enc_api_Attr x_c.Attrs)) (hc0 : x_c.Attrs.length ≤ x_c_c0) (hm : ref28_Place x_c x_name = some R) :
    Calls Tryz.prog 36 #[.agg #[str x_c.Name, str x_c.Value, .slice x_c_p0 x_c.Attrs.length x_c_c0], str x_name] w0 fun e w' => e = .returned (int R) ∧ Below w0.heap.size w0 w' := by
 rw [ref28_Place] at hm
 refine calls_enter (vs := [.agg #[str x_c.Name, str x_c.Value, .slice x_c_p0 x_c.Attrs.length x_c_c0], str x_name]) Tryz.func36 rfl Tryz.ntmps36 rfl fun a hf => ?_
 have hF : Away [] := away_nil
 have hO : Dk.Own w0 [] w0 [] := Dk.Own.refl w0
 have hO := hO.addShr hs0 (by simp [Res.shared])
 refine wp_seq_k fun _ hK2 => ?_
 refine wp_region_list ?_
 refine op_box (v := .agg #[str x_c.Name, str x_c.Value, .slice x_c_p0 x_c.Attrs.length x_c_c0]) (cs := [str x_c.Name, str x_c.Value, .slice x_c_p0 x_c.Attrs.length x_c_c0]) rfl hf rfl rfl hO fun a b1 w hf hO => ?_
 refine op_as hf rfl rfl fun a hf => ?_
 refine wpList_nil ?_
 refine nor_then (hK2 _ _ ?_)
 refine wp_seq_k fun _ hK3 => ?_
 refine wp_region_list ?_
 refine op_as hf rfl rfl fun a hf => ?_
 refine wpList_nil ?_
 refine nor_then (hK3 _ _ ?_)
 refine wp_seq_k fun _ hK19 => ?_
 refine wp_seq_k fun _ hK4 => ?_
 refine wp_region_list ?_
 refine op_as hf rfl rfl fun a hf => ?_
 refine wpList_nil ?_
 refine nor_then (hK4 _ _ ?_)
 refine wp_block ?_
 refine wp_loop_n (fun k a w => ∃ (i5 : Int) (i6 : Int), Fits 26 [(1, str x_name), (2, ptr b1 0), (5, int i5), (6, int i6)] a ∧ Dk.Own w0 [] w [.blk b1 [str x_c.Name, str x_c.Value, .slice x_c_p0 x_c.Attrs.length x_c_c0] 31, .shr x_c_p0 (cells enc_api_Attr x_c.Attrs)] ∧ ref28_Place_L1 x_c x_name k i5 i6 = some R) ?_ fuel ?_
 rintro n1 a w ⟨i5, i6, hf, hO, hm⟩
 obtain _ | n1 := n1
 rw [ref28_Place_L1] at hm
 cases hm
 rw [ref28_Place_L1] at hm
 refine wp_seq_k fun _ hK9 => ?_
 refine wp_seq_k fun _ hK7 => ?_
 refine wp_region_list ?_
 refine op_mv hf rfl rfl fun a hf => ?_
 refine op_val (ex_field fa_31_2 hf rfl) rfl hf rfl rfl fun a hf => ?_
 refine op_val (ex_load1 (o := 2) ag_29 (hO.blkSees (i := 0) rfl) rfl hf rfl) rfl hf rfl rfl fun a hf => ?_
 refine op_val (ex_len_l Tryz.underlying29 hf rfl) rfl hf rfl rfl fun a hf => ?_
 refine op_val (ex_lss (m := i6) (n := (x_c.Attrs.length : Int)) hf rfl rfl) rfl hf rfl rfl fun a hf => ?_
 refine wpList_nil ?_
 refine nor_then (hK7 _ _ ?_)
 refine wp_cond_cut hf rfl (fun hc8 => ?_) (fun hc8 => ?_)
 have hm := it hc8 hm
 refine wp_skip ?_
 refine nor_then (hK9 _ _ ?_)
 refine wp_seq_cut (fun a w => ∃ (i17 : Int), Fits 26 [(1, str x_name), (2, ptr b1 0), (5, int i17), (6, int i6)] a ∧ Dk.Own w0 [] w [.blk b1 [str x_c.Name, str x_c.Value, .slice x_c_p0 x_c.Attrs.length x_c_c0] 31, .shr x_c_p0 (cells enc_api_Attr x_c.Attrs)] ∧ ref28_Place_j2 (ref28_Place_L1 x_c x_name n1) i6 i17 = some R) ?_ ?_
 refine wp_block ?_
 refine wp_seq_k fun _ hK15 => ?_
 refine wp_region_list ?_
 refine op_val (ex_field fa_31_2 hf rfl) rfl hf rfl rfl fun a hf => ?_
 refine op_val (ex_load1 (o := 2) ag_29 (hO.blkSees (i := 0) rfl) rfl hf rfl) rfl hf rfl rfl fun a hf => ?_
 refine op_mv hf rfl rfl fun a hf => ?_
 obtain ⟨x10, hx10, hm⟩ := ob hm
 obtain ⟨b11, o12, hix10, hSx10⟩ := elemAt (enc := enc_api_Attr) (sz := 3) (xs := x_c.Attrs) 29 Tryz.underlying29 sz_64 (by decide) (fun _ => rfl) (hO.sees (i := 1) rfl) hx10
 refine op_val (ex_indexAddr hix10 hf rfl rfl) rfl hf rfl rfl fun a hf => ?_
 refine op_val (ex_field fa_64_0 hf rfl) rfl hf rfl rfl fun a hf => ?_
 refine op_val (ex_load1 (o := 0) ag_9 (hSx10 _ (hO.sees (i := 1) rfl)) rfl hf rfl) rfl hf rfl rfl fun a hf => ?_
 obtain ⟨r13, hr13, hm⟩ := ob hm
 refine op_enter (ex_call c_70 hf (vs := [str x10.Name]) rfl) rfl hf rfl rfl (w_ref01_Fold x10.Name r13 _ (hG.own hF hO) hr13) ?_
 rintro e w' ⟨he, hb⟩
 refine ⟨_, he, fun a hf => ?_⟩
 have hO := hO.grow hb
 refine op_mv hf rfl rfl fun a hf => ?_
 obtain ⟨r14, hr14, hm⟩ := ob hm
 refine op_enter (ex_call c_70 hf (vs := [str x_name]) rfl) rfl hf rfl rfl (w_ref01_Fold x_name r14 _ (hG.own hF hO) hr14) ?_
 rintro e w' ⟨he, hb⟩
 refine ⟨_, he, fun a hf => ?_⟩
 have hO := hO.grow hb
 refine op_val (ex_eql_s (l := r13) (m := r14) hf rfl rfl) rfl hf rfl rfl fun a hf => ?_
 refine wpList_nil ?_
 refine nor_then (hK15 _ _ ?_)
 refine wp_cond_cut hf rfl (fun hc16 => ?_) (fun hc16 => ?_)
 have hm := it hc16 hm
 refine wp_region_list ?_
 refine op_mv hf rfl rfl fun a hf => ?_
 refine op_as hf rfl rfl fun a hf => ?_
 refine wpList_nil ?_
 refine nor_block ?_
 refine nor_then ?_
 exact ⟨i6, (hf.cons rfl (hf.cons rfl (hf.cons rfl (hf.cons rfl hf.nil)))), hO, hm⟩
 have hm := ie hc16 hm
 refine wp_skip ?_
 refine nor_block ?_
 refine nor_then ?_
 exact ⟨i5, (hf.cons rfl (hf.cons rfl (hf.cons rfl (hf.cons rfl hf.nil)))), hO, hm⟩
 rintro a w ⟨i17, hf, hO, hm⟩
 rw [ref28_Place_j2] at hm
 refine wp_region_list ?_
 refine op_mv hf rfl rfl fun a hf => ?_
 obtain ⟨i18, hi18, hm⟩ := ob hm
 refine op_val (ex_add hf rfl rfl hi18) rfl hf rfl rfl fun a hf => ?_
 refine op_as hf rfl rfl fun a hf => ?_
 refine wpList_nil ?_
 refine nor_then ?_
 exact ⟨_, Nat.lt_succ_self _, i17, i18, (hf.cons rfl (hf.cons rfl (hf.cons rfl (hf.cons rfl hf.nil)))), hO, hm⟩
 have hm := ie hc8 hm
 refine wp_exit ?_
 refine exit_then ?_
 refine exit_then ?_
 refine exit_here ?_
 refine nor_then (hK19 _ _ ?_)
 refine wp_seq_k fun _ hK20 => ?_
 refine wp_region_list ?_
 refine op_mv hf rfl rfl fun a hf => ?_
 refine op_as hf rfl rfl fun a hf => ?_
 refine wpList_nil ?_
 refine nor_then (hK20 _ _ ?_)
 refine wp_ret ?_
 obtain rfl := Option.some.inj hm
 exact post_ret Tryz.results36 hf (.tmp rfl .nil) ⟨rfl, hO.below⟩
 exact ⟨(-1), 0, (hf.cons rfl (hf.cons rfl (hf.cons rfl (hf.cons rfl hf.nil)))), hO, hm⟩

set_option maxHeartbeats 1000000 in
theorem w_ref18_Same (x_a : List api_Attr) (x_b : List api_Attr) (R : Bool) (w0 : World) (hG : Glob w0) {x_a_p0 : Option Addr} {x_a_c0 : Nat} (hs0 : Sees w0 x_a_p0 (cells enc_api_Attr x_a)) (hc0 : x_a.length ≤ x_a_c0) {x_b_p1 : Option Addr} {x_b_c1 : Nat} (hs1 : Sees w0 x_b_p1 (cells enc_api_Attr x_b)) (hc1 : x_b.length ≤ x_b_c1) (hm : ref18_Same x_a x_b = some R) :
    Calls Tryz.prog 35 #[.slice x_a_p0 x_a.length x_a_c0, .slice x_b_p1 x_b.length x_b_c1] w0 fun e w' => e = .returned (.bool R) ∧ Below w0.heap.size w0 w' := by
 rw [ref18_Same] at hm
 refine calls_enter (vs := [.slice x_a_p0 x_a.length x_a_c0, .slice x_b_p1 x_b.length x_b_c1]) Tryz.func35 rfl Tryz.ntmps35 rfl fun a hf => ?_
 have hF : Away [] := away_nil
 have hO : Dk.Own w0 [] w0 [] := Dk.Own.refl w0
 have hO := hO.addShr hs0 (by simp [Res.shared])
 have hO := hO.addShr hs1 (by simp [Res.shared])
 refine wp_seq_k fun _ hK1 => ?_
 refine wp_region_list ?_
 refine op_as hf rfl rfl fun a hf => ?_
 refine wpList_nil ?_
 refine nor_then (hK1 _ _ ?_)
 refine wp_seq_k fun _ hK5 => ?_
 refine wp_seq_k fun _ hK2 => ?_
 refine wp_region_list ?_
 refine op_mv hf rfl rfl fun a hf => ?_
 refine op_val (ex_len_l Tryz.underlying29 hf rfl) rfl hf rfl rfl fun a hf => ?_
 refine op_mv hf rfl rfl fun a hf => ?_
 refine op_val (ex_len_l Tryz.underlying29 hf rfl) rfl hf rfl rfl fun a hf => ?_
 refine op_val (ex_neq (m := (x_a.length : Int)) (n := (x_b.length : Int)) hf rfl rfl) rfl hf rfl rfl fun a hf => ?_
 refine wpList_nil ?_
 refine nor_then (hK2 _ _ ?_)
 refine wp_cond_cut hf rfl (fun hc3 => ?_) (fun hc3 => ?_)
 have hm := it hc3 hm
 refine wp_seq_k fun _ hK4 => ?_
 refine wp_region_list ?_
 refine op_as hf rfl rfl fun a hf => ?_
 refine wpList_nil ?_
 refine nor_then (hK4 _ _ ?_)
 refine wp_ret ?_
 refine ret_then ?_
 obtain rfl := Option.some.inj hm
 exact post_ret Tryz.results35 hf (.tmp rfl .nil) ⟨rfl, hO.below⟩
 have hm := ie hc3 hm
 refine wp_skip ?_
 refine nor_then (hK5 _ _ ?_)
 refine wp_seq_k fun _ hK22 => ?_
 refine wp_seq_k fun _ hK6 => ?_
 refine wp_region_list ?_
 refine op_as hf rfl rfl fun a hf => ?_
 refine wpList_nil ?_
 refine nor_then (hK6 _ _ ?_)
 refine wp_block ?_
 refine wp_loop_n (fun k a w => ∃ (i7 : Int), Fits 26 [(0, .slice x_a_p0 x_a.length x_a_c0), (1, .slice x_b_p1 x_b.length x_b_c1), (5, int i7)] a ∧ Dk.Own w0 [] w [.shr x_b_p1 (cells enc_api_Attr x_b), .shr x_a_p0 (cells enc_api_Attr x_a)] ∧ ref18_Same_L1 x_a x_b k i7 = some R) ?_ fuel ?_
 rintro n1 a w ⟨i7, hf, hO, hm⟩
 obtain _ | n1 := n1
 rw [ref18_Same_L1] at hm
 cases hm
 rw [ref18_Same_L1] at hm
 refine wp_seq_k fun _ hK10 => ?_
 refine wp_seq_k fun _ hK8 => ?_
 refine wp_region_list ?_
 refine op_mv hf rfl rfl fun a hf => ?_
 refine op_mv hf rfl rfl fun a hf => ?_
 refine op_val (ex_len_l Tryz.underlying29 hf rfl) rfl hf rfl rfl fun a hf => ?_
 refine op_val (ex_lss (m := i7) (n := (x_a.length : Int)) hf rfl rfl) rfl hf rfl rfl fun a hf => ?_
 refine wpList_nil ?_
 refine nor_then (hK8 _ _ ?_)
 refine wp_cond_cut hf rfl (fun hc9 => ?_) (fun hc9 => ?_)
 have hm := it hc9 hm
 refine wp_skip ?_
 refine nor_then (hK10 _ _ ?_)
 refine wp_seq_k fun _ hK20 => ?_
 refine wp_block ?_
 refine wp_seq_k fun _ hK17 => ?_
 refine wp_quiet (by kernel_rfl) (by kernel_rfl) hO ?_
 refine q_val (fun w hO => ex_move hf rfl) rfl hf rfl rfl fun a hf => ?_
 refine q_val (fun w hO => ex_move hf rfl) rfl hf rfl rfl fun a hf => ?_
 obtain ⟨x11, hx11, hm⟩ := ob hm
 obtain ⟨b12, o13, hix11, hSx11⟩ := elemAt (enc := enc_api_Attr) (sz := 3) (xs := x_a) 29 Tryz.underlying29 sz_64 (by decide) (fun _ => rfl) (hO.sees (i := 1) rfl) hx11
 refine q_val (fun w hO => ex_indexAddr hix11 hf rfl rfl) rfl hf rfl rfl fun a hf => ?_
 refine q_val (fun w hO => ex_loadN (o := 0) (vs := [str x11.Name, str x11.Value, .bool x11.Has]) ag_64 sz_64 (hSx11 _ (hO.sees (i := 1) rfl)) rfl rfl hf rfl) rfl hf rfl rfl fun a hf => ?_
 refine q_val (fun w hO => ex_move hf rfl) rfl hf rfl rfl fun a hf => ?_
 refine q_val (fun w hO => ex_move hf rfl) rfl hf rfl rfl fun a hf => ?_
 obtain ⟨x14, hx14, hm⟩ := ob hm
 obtain ⟨b15, o16, hix14, hSx14⟩ := elemAt (enc := enc_api_Attr) (sz := 3) (xs := x_b) 29 Tryz.underlying29 sz_64 (by decide) (fun _ => rfl) (hO.sees (i := 0) rfl) hx14
 refine q_val (fun w hO => ex_indexAddr hix14 hf rfl rfl) rfl hf rfl rfl fun a hf => ?_
 refine q_val (fun w hO => ex_loadN (o := 0) (vs := [str x14.Name, str x14.Value, .bool x14.Has]) ag_64 sz_64 (hSx14 _ (hO.sees (i := 0) rfl)) rfl rfl hf rfl) rfl hf rfl rfl fun a hf => ?_
 refine q_val (fun w hO => ex_neq_t (by kernel_rfl) (eq_64 x11 x14) hf rfl rfl) rfl hf rfl rfl fun a hf => ?_
 refine wpQuiet_nil ?_
 intro w hO
 refine nor_then (hK17 _ _ ?_)
 refine wp_cond_cut hf rfl (fun hc18 => ?_) (fun hc18 => ?_)
 have hm := it hc18 hm
 refine wp_seq_k fun _ hK19 => ?_
 refine wp_region_list ?_
 refine op_as hf rfl rfl fun a hf => ?_
 refine wpList_nil ?_
 refine nor_then (hK19 _ _ ?_)
 refine wp_ret ?_
 refine ret_block ?_
 refine ret_then ?_
 refine ret_then ?_
 refine ret_block ?_
 refine ret_then ?_
 obtain rfl := Option.some.inj hm
 exact post_ret Tryz.results35 hf (.tmp rfl .nil) ⟨rfl, hO.below⟩
 have hm := ie hc18 hm
 refine wp_skip ?_
 refine nor_block ?_
 refine nor_then (hK20 _ _ ?_)
 refine wp_region_list ?_
 refine op_mv hf rfl rfl fun a hf => ?_
 obtain ⟨i21, hi21, hm⟩ := ob hm
 refine op_val (ex_add hf rfl rfl hi21) rfl hf rfl rfl fun a hf => ?_
 refine op_as hf rfl rfl fun a hf => ?_
 refine wpList_nil ?_
 refine nor_then ?_
 exact ⟨_, Nat.lt_succ_self _, i21, (hf.cons rfl (hf.cons rfl (hf.cons rfl hf.nil))), hO, hm⟩
 have hm := ie hc9 hm
 refine wp_exit ?_
 refine exit_then ?_
 refine exit_then ?_
 refine exit_here ?_
 refine nor_then (hK22 _ _ ?_)
 refine wp_seq_k fun _ hK23 => ?_
 refine wp_region_list ?_
 refine op_as hf rfl rfl fun a hf => ?_
 refine wpList_nil ?_
 refine nor_then (hK23 _ _ ?_)
 refine wp_ret ?_
 obtain rfl := Option.some.inj hm
 exact post_ret Tryz.results35 hf (.tmp rfl .nil) ⟨rfl, hO.below⟩
 exact ⟨0, (hf.cons rfl (hf.cons rfl (hf.cons rfl hf.nil))), hO, hm⟩

set_option maxHeartbeats 1000000 in
theorem w_ref28_Same (x_a : api_Cookie) (x_b : api_Cookie) (R : Bool) (w0 : World) (hG : Glob w0) {x_a_p0 : Option Addr} {x_a_c0 : Nat} (hs0 : Sees w0 x_a_p0 (cells enc_api_Attr x_a.Attrs)) (hc0 : x_a.Attrs.length ≤ x_a_c0) {x_b_p1 : Option Addr} {x_b_c1 : Nat} (hs1 : Sees w0 x_b_p1 (cells enc_api_Attr x_b.Attrs)) (hc1 : x_b.Attrs.length ≤ x_b_c1) (hm : ref28_Same x_a x_b = some R) :
    Calls Tryz.prog 14 #[.agg #[str x_a.Name, str x_a.Value, .slice x_a_p0 x_a.Attrs.length x_a_c0], .agg #[str x_b.Name, str x_b.Value, .slice x_b_p1 x_b.Attrs.length x_b_c1]] w0 fun e w' => e = .returned (.bool R) ∧ Below w0.heap.size w0 w' := by
 rw [ref28_Same] at hm
 refine calls_enter (vs := [.agg #[str x_a.Name, str x_a.Value, .slice x_a_p0 x_a.Attrs.length x_a_c0], .agg #[str x_b.Name, str x_b.Value, .slice x_b_p1 x_b.Attrs.length x_b_c1]]) Tryz.func14 rfl Tryz.ntmps14 rfl fun a hf => ?_
 have hF : Away [] := away_nil
 have hO : Dk.Own w0 [] w0 [] := Dk.Own.refl w0
 have hO := hO.addShr hs0 (by simp [Res.shared])
 have hO := hO.addShr hs1 (by simp [Res.shared])
 refine wp_seq_k fun _ hK3 => ?_
 refine wp_region_list ?_
 refine op_box (v := .agg #[str x_a.Name, str x_a.Value, .slice x_a_p0 x_a.Attrs.length x_a_c0]) (cs := [str x_a.Name, str x_a.Value, .slice x_a_p0 x_a.Attrs.length x_a_c0]) rfl hf rfl rfl hO fun a b1 w hf hO => ?_
 refine op_box (v := .agg #[str x_b.Name, str x_b.Value, .slice x_b_p1 x_b.Attrs.length x_b_c1]) (cs := [str x_b.Name, str x_b.Value, .slice x_b_p1 x_b.Attrs.length x_b_c1]) rfl hf rfl rfl hO fun a b2 w hf hO => ?_
 refine op_as hf rfl rfl fun a hf => ?_
 refine wpList_nil ?_
 refine nor_then (hK3 _ _ ?_)
 refine wp_seq_cut (fun a w => ∃ (t7 : Bool), Fits 24 [(4, .bool t7)] a ∧ Dk.Own w0 [] w [.blk b2 [str x_b.Name, str x_b.Value, .slice x_b_p1 x_b.Attrs.length x_b_c1] 31, .blk b1 [str x_a.Name, str x_a.Value, .slice x_a_p0 x_a.Attrs.length x_a_c0] 31, .shr x_b_p1 (cells enc_api_Attr x_b.Attrs), .shr x_a_p0 (cells enc_api_Attr x_a.Attrs)] ∧ ref28_Same_j1 t7 = some R) ?_ ?_
 refine wp_region_list ?_
 refine op_val (ex_field fa_31_0 hf rfl) rfl hf rfl rfl fun a hf => ?_
 refine op_val (ex_load1 (o := 0) ag_9 (hO.blkSees (i := 1) rfl) rfl hf rfl) rfl hf rfl rfl fun a hf => ?_
 refine op_val (ex_field fa_31_0 hf rfl) rfl hf rfl rfl fun a hf => ?_
 refine op_val (ex_load1 (o := 0) ag_9 (hO.blkSees (i := 0) rfl) rfl hf rfl) rfl hf rfl rfl fun a hf => ?_
 refine op_val (ex_eql_s (l := x_a.Name) (m := x_b.Name) hf rfl rfl) rfl hf rfl rfl fun a hf => ?_
 refine op_mv hf rfl rfl fun a hf => ?_
 rcases bcase (x_a.Name == x_b.Name) with hc4 | hc4
 have hm := it hc4 hm
 refine op_guard rfl hf rfl rfl (hc4) ?_
 refine op_val (ex_field fa_31_1 hf rfl) rfl hf rfl rfl fun a hf => ?_
 refine op_guard rfl hf rfl rfl (hc4) ?_
 refine op_val (ex_load1 (o := 1) ag_9 (hO.blkSees (i := 1) rfl) rfl hf rfl) rfl hf rfl rfl fun a hf => ?_
 refine op_guard rfl hf rfl rfl (hc4) ?_
 refine op_val (ex_field fa_31_1 hf rfl) rfl hf rfl rfl fun a hf => ?_
 refine op_guard rfl hf rfl rfl (hc4) ?_
 refine op_val (ex_load1 (o := 1) ag_9 (hO.blkSees (i := 0) rfl) rfl hf rfl) rfl hf rfl rfl fun a hf => ?_
 refine op_guard rfl hf rfl rfl (hc4) ?_
 refine op_val (ex_eql_s (l := x_a.Value) (m := x_b.Value) hf rfl rfl) rfl hf rfl rfl fun a hf => ?_
 refine op_val (ex_pick_t hf rfl hc4 rfl) rfl hf rfl rfl fun a hf => ?_
 refine op_mv hf rfl rfl fun a hf => ?_
 rcases bcase (x_a.Value == x_b.Value) with hc5 | hc5
 have hm := it hc5 hm
 refine op_guard rfl hf rfl rfl (hc5) ?_
 refine op_val (ex_field fa_31_2 hf rfl) rfl hf rfl rfl fun a hf => ?_
 refine op_guard rfl hf rfl rfl (hc5) ?_
 refine op_val (ex_load1 (o := 2) ag_29 (hO.blkSees (i := 1) rfl) rfl hf rfl) rfl hf rfl rfl fun a hf => ?_
 refine op_guard rfl hf rfl rfl (hc5) ?_
 refine op_val (ex_field fa_31_2 hf rfl) rfl hf rfl rfl fun a hf => ?_
 refine op_guard rfl hf rfl rfl (hc5) ?_
 refine op_val (ex_load1 (o := 2) ag_29 (hO.blkSees (i := 0) rfl) rfl hf rfl) rfl hf rfl rfl fun a hf => ?_
 refine op_guard rfl hf rfl rfl (hc5) ?_
 obtain ⟨r6, hr6, hm⟩ := ob hm
 refine op_enter (ex_call c_35 hf (vs := [.slice x_a_p0 x_a.Attrs.length x_a_c0, .slice x_b_p1 x_b.Attrs.length x_b_c1]) rfl) rfl hf rfl rfl (w_ref18_Same x_a.Attrs x_b.Attrs r6 _ (hG.own hF hO) (hO.sees (i := 3) rfl) hc0 (hO.sees (i := 2) rfl) hc1 hr6) ?_
 rintro e w' ⟨he, hb⟩
 refine ⟨_, he, fun a hf => ?_⟩
 have hO := hO.grow hb
 refine op_val (ex_pick_t hf rfl hc5 rfl) rfl hf rfl rfl fun a hf => ?_
 refine op_as hf rfl rfl fun a hf => ?_
 refine wpList_nil ?_
 refine nor_then ?_
 exact ⟨r6, (hf.cons rfl hf.nil), hO, hm⟩
 have hm := ie hc5 hm
 refine op_pass rfl hf rfl rfl (hc5) rfl rfl fun a hf => ?_
 refine op_pass rfl hf rfl rfl (hc5) rfl rfl fun a hf => ?_
 refine op_pass rfl hf rfl rfl (hc5) rfl rfl fun a hf => ?_
 refine op_pass rfl hf rfl rfl (hc5) rfl rfl fun a hf => ?_
 refine op_pass rfl hf rfl rfl (hc5) rfl rfl fun a hf => ?_
 refine op_val (ex_pick_f hf rfl hc5 rfl) rfl hf rfl rfl fun a hf => ?_
 refine op_as hf rfl rfl fun a hf => ?_
 refine wpList_nil ?_
 refine nor_then ?_
 exact ⟨false, (hf.cons rfl hf.nil), hO, hm⟩
 have hm := ie hc4 hm
 refine op_pass rfl hf rfl rfl (hc4) rfl rfl fun a hf => ?_
 refine op_pass rfl hf rfl rfl (hc4) rfl rfl fun a hf => ?_
 refine op_pass rfl hf rfl rfl (hc4) rfl rfl fun a hf => ?_
 refine op_pass rfl hf rfl rfl (hc4) rfl rfl fun a hf => ?_
 refine op_pass rfl hf rfl rfl (hc4) rfl rfl fun a hf => ?_
 refine op_val (ex_pick_f hf rfl hc4 rfl) rfl hf rfl rfl fun a hf => ?_
 refine op_mv hf rfl rfl fun a hf => ?_
 refine op_pass rfl hf rfl rfl (rfl) rfl rfl fun a hf => ?_
 refine op_pass rfl hf rfl rfl (rfl) rfl rfl fun a hf => ?_
 refine op_pass rfl hf rfl rfl (rfl) rfl rfl fun a hf => ?_
 refine op_pass rfl hf rfl rfl (rfl) rfl rfl fun a hf => ?_
 refine op_pass rfl hf rfl rfl (rfl) rfl rfl fun a hf => ?_
 refine op_val (ex_pick_f hf rfl rfl rfl) rfl hf rfl rfl fun a hf => ?_
 refine op_as hf rfl rfl fun a hf => ?_
 refine wpList_nil ?_
 refine nor_then ?_
 exact ⟨false, (hf.cons rfl hf.nil), hO, hm⟩
 rintro a w ⟨t7, hf, hO, hm⟩
 rw [ref28_Same_j1] at hm
 refine wp_ret ?_
 obtain rfl := Option.some.inj hm
 exact post_ret Tryz.results14 hf (.tmp rfl .nil) ⟨rfl, hO.below⟩

set_option maxHeartbeats 1000000 in
theorem w_uriref_Swap (x_s : Str) (x_l : List api_Swap) (R : Str × Bool) (w0 : World) (hG : Glob w0) {x_l_p0 : Option Addr} {x_l_c0 : Nat} (hs0 : Sees w0 x_l_p0 (cells enc_api_Swap x_l)) (hc0 : x_l.length ≤ x_l_c0) (hm : uriref_Swap x_s x_l = some R) :
    Calls Tryz.prog 71 #[str x_s, .slice x_l_p0 x_l.length x_l_c0] w0 fun e w' => e = .returned (.tuple #[str R.1, .bool R.2]) ∧ Below w0.heap.size w0 w' := by
 rw [uriref_Swap] at hm
 refine calls_enter (vs := [str x_s, .slice x_l_p0 x_l.length x_l_c0]) Tryz.func71 rfl Tryz.ntmps71 rfl fun a hf => ?_
 have hF : Away [] := away_nil
 have hO : Dk.Own w0 [] w0 [] := Dk.Own.refl w0
 have hO := hO.addShr hs0 (by simp [Res.shared])
 refine wp_seq_k fun _ hK1 => ?_
 refine wp_region_list ?_
 refine op_as hf rfl rfl fun a hf => ?_
 refine op_as hf rfl rfl fun a hf => ?_
 refine wpList_nil ?_
 refine nor_then (hK1 _ _ ?_)
 refine wp_seq_k fun _ hK28 => ?_
 refine wp_seq_k fun _ hK2 => ?_
 refine wp_region_list ?_
 refine op_mv hf rfl rfl fun a hf => ?_
 refine op_val (ex_len_l Tryz.underlying22 hf rfl) rfl hf rfl rfl fun a hf => ?_
 refine op_mv hf rfl rfl fun a hf => ?_
 refine wpList_nil ?_
 refine nor_then (hK2 _ _ ?_)
 refine wp_block ?_
 refine wp_loop_n (fun k a w => ∃ (i3 : Int), Fits 49 [(0, str x_s), (10, .slice x_l_p0 x_l.length x_l_c0), (11, int (x_l.length : Int)), (12, int i3)] a ∧ Dk.Own w0 [] w [.shr x_l_p0 (cells enc_api_Swap x_l)] ∧ uriref_Swap_L1 x_s x_l k i3 = some R) ?_ fuel ?_
 rintro n1 a w ⟨i3, hf, hO, hm⟩
 obtain _ | n1 := n1
 rw [uriref_Swap_L1] at hm
 cases hm
 rw [uriref_Swap_L1] at hm
 refine wp_seq_k fun _ hK4 => ?_
 refine wp_region_list ?_
 refine op_val (ex_lss (m := i3) (n := (x_l.length : Int)) hf rfl rfl) rfl hf rfl rfl fun a hf => ?_
 refine wpList_nil ?_
 refine nor_then (hK4 _ _ ?_)
 refine wp_seq_k fun _ hK6 => ?_
 refine wp_cond_cut hf rfl (fun hc5 => ?_) (fun hc5 => ?_)
 have hm := it hc5 hm
 refine wp_skip ?_
 refine nor_then (hK6 _ _ ?_)
 refine wp_seq_cut (fun a w => Fits 49 [(0, str x_s), (10, .slice x_l_p0 x_l.length x_l_c0), (11, int (x_l.length : Int)), (12, int i3)] a ∧ Dk.Own w0 [] w [.shr x_l_p0 (cells enc_api_Swap x_l)] ∧ uriref_Swap_j4 (uriref_Swap_L1 x_s x_l n1) i3 = some R) ?_ ?_
 refine wp_block ?_
 refine wp_seq_k fun _ hK11 => ?_
 refine wp_region_list ?_
 obtain ⟨x7, hx7, hm⟩ := ob hm
 obtain ⟨b8, o9, hix7, hSx7⟩ := elemAt (enc := enc_api_Swap) (sz := 2) (xs := x_l) 22 Tryz.underlying22 sz_56 (by decide) (fun _ => rfl) (hO.sees (i := 0) rfl) hx7
 refine op_val (ex_indexAddr hix7 hf rfl rfl) rfl hf rfl rfl fun a hf => ?_
 refine op_val (ex_loadN (o := 0) (vs := [str x7.From, str x7.To]) ag_56 sz_56 (hSx7 _ (hO.sees (i := 0) rfl)) rfl rfl hf rfl) rfl hf rfl rfl fun a hf => ?_
 refine op_alloc al_56 hf rfl hO fun a b10 w hf hO => ?_
 refine op_storeN (i := 0) (n := 2) sz_56 rfl rfl rfl (by simp [Value.oneCell']) hf rfl rfl hO fun w hO => ?_
 refine wpList_nil ?_
 refine nor_then (hK11 _ _ ?_)
 refine wp_seq_k fun _ hK13 => ?_
 refine wp_region_list ?_
 refine op_mv hf rfl rfl fun a hf => ?_
 refine op_val (ex_field fa_56_0 hf rfl) rfl hf rfl rfl fun a hf => ?_
 refine op_val (ex_load1 (o := 0) ag_9 (hO.blkSees (i := 0) rfl) rfl hf rfl) rfl hf rfl rfl fun a hf => ?_
 obtain ⟨r12, hr12, hm⟩ := ob hm
 refine op_enter (ex_call c_65 hf (vs := [str x_s, str x7.From]) rfl) rfl hf rfl rfl (w_strings_CutPrefix x_s x7.From r12 _ (hG.own hF hO) hr12) ?_
 rintro e w' ⟨he, hb⟩
 refine ⟨_, he, fun a hf => ?_⟩
 have hO := hO.grow hb
 refine op_mv hf rfl rfl fun a hf => ?_
 refine op_val (ex_extract hf rfl rfl) rfl hf rfl rfl fun a hf => ?_
 refine op_val (ex_extract hf rfl rfl) rfl hf rfl rfl fun a hf => ?_
 refine op_as hf rfl rfl fun a hf => ?_
 refine op_as hf rfl rfl fun a hf => ?_
 refine wpList_nil ?_
 refine nor_then (hK13 _ _ ?_)
 refine wp_seq_k fun _ hK17 => ?_
 refine wp_seq_cut (fun a w => ∃ (t15 : Bool), Fits 49 [(0, str x_s), (7, ptr b10 0), (8, str r12.1), (10, .slice x_l_p0 x_l.length x_l_c0), (11, int (x_l.length : Int)), (12, int i3), (29, .bool t15)] a ∧ Dk.Own w0 [] w [.blk b10 [str x7.From, str x7.To] 56, .shr x_l_p0 (cells enc_api_Swap x_l)] ∧ uriref_Swap_j2 (uriref_Swap_L1 x_s x_l n1) i3 x7 r12 t15 = some R) ?_ ?_
 refine wp_region_list ?_
 refine op_mv hf rfl rfl fun a hf => ?_
 refine op_val (ex_not hf rfl) rfl hf rfl rfl fun a hf => ?_
 refine op_mv hf rfl rfl fun a hf => ?_
 rcases bcase (!r12.2) with hc14 | hc14
 have hm := it hc14 hm
 refine op_pass rfl hf rfl rfl (hc14) rfl rfl fun a hf => ?_
 refine op_pass rfl hf rfl rfl (hc14) rfl rfl fun a hf => ?_
 refine op_pass rfl hf rfl rfl (hc14) rfl rfl fun a hf => ?_
 refine op_val (ex_pick_t hf rfl hc14 rfl) rfl hf rfl rfl fun a hf => ?_
 refine wpList_nil ?_
 refine nor_then ?_
 exact ⟨true, (hf.cons rfl (hf.cons rfl (hf.cons rfl (hf.cons rfl (hf.cons rfl (hf.cons rfl (hf.cons rfl hf.nil))))))), hO, hm⟩
 have hm := ie hc14 hm
 refine op_guard rfl hf rfl rfl (hc14) ?_
 refine op_val (ex_field fa_56_0 hf rfl) rfl hf rfl rfl fun a hf => ?_
 refine op_guard rfl hf rfl rfl (hc14) ?_
 refine op_val (ex_load1 (o := 0) ag_9 (hO.blkSees (i := 0) rfl) rfl hf rfl) rfl hf rfl rfl fun a hf => ?_
 refine op_guard rfl hf rfl rfl (hc14) ?_
 refine op_val (ex_eql_s (l := x7.From) (m := []) hf rfl rfl) rfl hf rfl rfl fun a hf => ?_
 refine op_val (ex_pick_f hf rfl hc14 rfl) rfl hf rfl rfl fun a hf => ?_
 refine wpList_nil ?_
 refine nor_then ?_
 exact ⟨x7.From == [], (hf.cons rfl (hf.cons rfl (hf.cons rfl (hf.cons rfl (hf.cons rfl (hf.cons rfl (hf.cons rfl hf.nil))))))), hO, hm⟩
 rintro a w ⟨t15, hf, hO, hm⟩
 rw [uriref_Swap_j2] at hm
 refine wp_cond_cut hf rfl (fun hc16 => ?_) (fun hc16 => ?_)
 have hm := it hc16 hm
 refine wp_exit ?_
 refine exit_then ?_
 refine exit_here ?_
 refine nor_then ?_
 exact ⟨(hf.cons rfl (hf.cons rfl (hf.cons rfl (hf.cons rfl hf.nil)))), (hO.sub (.cons _ (.cons_cons _ .slnil))), hm⟩
 have hm := ie hc16 hm
 refine wp_skip ?_
 refine nor_then (hK17 _ _ ?_)
 refine wp_seq_cut (fun a w => ∃ (t23 : Bool), Fits 49 [(0, str x_s), (7, ptr b10 0), (8, str r12.1), (10, .slice x_l_p0 x_l.length x_l_c0), (11, int (x_l.length : Int)), (12, int i3), (42, .bool t23)] a ∧ Dk.Own w0 [] w [.blk b10 [str x7.From, str x7.To] 56, .shr x_l_p0 (cells enc_api_Swap x_l)] ∧ uriref_Swap_j3 (uriref_Swap_L1 x_s x_l n1) i3 x7 r12 t23 = some R) ?_ ?_
 refine wp_region_list ?_
 refine op_mv hf rfl rfl fun a hf => ?_
 refine op_val (ex_eql_s (l := r12.1) (m := []) hf rfl rfl) rfl hf rfl rfl fun a hf => ?_
 refine op_mv hf rfl rfl fun a hf => ?_
 rcases bcase (r12.1 == []) with hc18 | hc18
 have hm := it hc18 hm
 refine op_pass rfl hf rfl rfl (hc18) rfl rfl fun a hf => ?_
 refine op_pass rfl hf rfl rfl (hc18) rfl rfl fun a hf => ?_
 refine op_pass rfl hf rfl rfl (hc18) rfl rfl fun a hf => ?_
 refine op_val (ex_pick_t hf rfl hc18 rfl) rfl hf rfl rfl fun a hf => ?_
 refine op_mv hf rfl rfl fun a hf => ?_
 refine op_pass rfl hf rfl rfl (rfl) rfl rfl fun a hf => ?_
 refine op_pass rfl hf rfl rfl (rfl) rfl rfl fun a hf => ?_
 refine op_pass rfl hf rfl rfl (rfl) rfl rfl fun a hf => ?_
 refine op_pass rfl hf rfl rfl (rfl) rfl rfl fun a hf => ?_
 refine op_val (ex_pick_t hf rfl rfl rfl) rfl hf rfl rfl fun a hf => ?_
 refine wpList_nil ?_
 refine nor_then ?_
 exact ⟨true, (hf.cons rfl (hf.cons rfl (hf.cons rfl (hf.cons rfl (hf.cons rfl (hf.cons rfl (hf.cons rfl hf.nil))))))), hO, hm⟩
 have hm := ie hc18 hm
 refine op_guard rfl hf rfl rfl (hc18) ?_
 refine op_val (ex_field fa_56_0 hf rfl) rfl hf rfl rfl fun a hf => ?_
 refine op_guard rfl hf rfl rfl (hc18) ?_
 refine op_val (ex_load1 (o := 0) ag_9 (hO.blkSees (i := 0) rfl) rfl hf rfl) rfl hf rfl rfl fun a hf => ?_
 refine op_guard rfl hf rfl rfl (hc18) ?_
 obtain ⟨r19, hr19, hm⟩ := ob hm
 refine op_enter (ex_call c_69 hf (vs := [str x7.From, str [47]]) rfl) rfl hf rfl rfl (w_strings_HasSuffix x7.From [47] r19 _ (hG.own hF hO) hr19) ?_
 rintro e w' ⟨he, hb⟩
 refine ⟨_, he, fun a hf => ?_⟩
 have hO := hO.grow hb
 refine op_val (ex_pick_f hf rfl hc18 rfl) rfl hf rfl rfl fun a hf => ?_
 refine op_mv hf rfl rfl fun a hf => ?_
 rcases bcase (r19) with hc20 | hc20
 have hm := it hc20 hm
 refine op_pass rfl hf rfl rfl (hc20) rfl rfl fun a hf => ?_
 refine op_pass rfl hf rfl rfl (hc20) rfl rfl fun a hf => ?_
 refine op_pass rfl hf rfl rfl (hc20) rfl rfl fun a hf => ?_
 refine op_pass rfl hf rfl rfl (hc20) rfl rfl fun a hf => ?_
 refine op_val (ex_pick_t hf rfl hc20 rfl) rfl hf rfl rfl fun a hf => ?_
 refine wpList_nil ?_
 refine nor_then ?_
 exact ⟨true, (hf.cons rfl (hf.cons rfl (hf.cons rfl (hf.cons rfl (hf.cons rfl (hf.cons rfl (hf.cons rfl hf.nil))))))), hO, hm⟩
 have hm := ie hc20 hm
 refine op_guard rfl hf rfl rfl (hc20) ?_
 refine op_mv hf rfl rfl fun a hf => ?_
 refine op_guard rfl hf rfl rfl (hc20) ?_
 obtain ⟨b21, hb21, hm⟩ := ob hm
 refine op_val (ex_index (l := r12.1) Tryz.underlying9 hf rfl rfl hb21) rfl hf rfl rfl fun a hf => ?_
 refine op_guard rfl hf rfl rfl (hc20) ?_
 obtain ⟨r22, hr22, hm⟩ := ob hm
 refine op_enter (ex_call c_111 hf (vs := [str [47, 63, 35], byte b21]) rfl) rfl hf rfl rfl (w_strings_IndexByte [47, 63, 35] b21 r22 _ (hG.own hF hO) hr22) ?_
 rintro e w' ⟨he, hb⟩
 refine ⟨_, he, fun a hf => ?_⟩
 have hO := hO.grow hb
 refine op_guard rfl hf rfl rfl (hc20) ?_
 refine op_val (ex_geq (m := r22) (n := 0) hf rfl rfl) rfl hf rfl rfl fun a hf => ?_
 refine op_val (ex_pick_f hf rfl hc20 rfl) rfl hf rfl rfl fun a hf => ?_
 refine wpList_nil ?_
 refine nor_then ?_
 exact ⟨decide (0 ≤ r22), (hf.cons rfl (hf.cons rfl (hf.cons rfl (hf.cons rfl (hf.cons rfl (hf.cons rfl (hf.cons rfl hf.nil))))))), hO, hm⟩
 rintro a w ⟨t23, hf, hO, hm⟩
 rw [uriref_Swap_j3] at hm
 refine wp_cond_cut hf rfl (fun hc24 => ?_) (fun hc24 => ?_)
 have hm := it hc24 hm
 refine wp_seq_k fun _ hK26 => ?_
 refine wp_region_list ?_
 refine op_val (ex_field fa_56_1 hf rfl) rfl hf rfl rfl fun a hf => ?_
 refine op_val (ex_load1 (o := 1) ag_9 (hO.blkSees (i := 0) rfl) rfl hf rfl) rfl hf rfl rfl fun a hf => ?_
 refine op_mv hf rfl rfl fun a hf => ?_
 obtain ⟨s25, hs25, hm⟩ := ob hm
 refine op_val (ex_cat (l := x7.To) (m := r12.1) hf rfl rfl hs25) rfl hf rfl rfl fun a hf => ?_
 refine op_as hf rfl rfl fun a hf => ?_
 refine op_as hf rfl rfl fun a hf => ?_
 refine wpList_nil ?_
 refine nor_then (hK26 _ _ ?_)
 refine wp_ret ?_
 refine ret_block ?_
 refine ret_then ?_
 refine ret_then ?_
 refine ret_block ?_
 refine ret_then ?_
 obtain rfl := Option.some.inj hm
 exact post_ret Tryz.results71 hf (.tmp rfl (.tmp rfl .nil)) ⟨rfl, hO.below⟩
 have hm := ie hc24 hm
 refine wp_skip ?_
 refine nor_block ?_
 refine nor_then ?_
 exact ⟨(hf.cons rfl (hf.cons rfl (hf.cons rfl (hf.cons rfl hf.nil)))), (hO.sub (.cons _ (.cons_cons _ .slnil))), hm⟩
 rintro a w ⟨hf, hO, hm⟩
 rw [uriref_Swap_j4] at hm
 refine wp_region_list ?_
 obtain ⟨i27, hi27, hm⟩ := ob hm
 refine op_val (ex_add hf rfl rfl hi27) rfl hf rfl rfl fun a hf => ?_
 refine op_mv hf rfl rfl fun a hf => ?_
 refine wpList_nil ?_
 refine nor_then ?_
 exact ⟨_, Nat.lt_succ_self _, i27, (hf.cons rfl (hf.cons rfl (hf.cons rfl (hf.cons rfl hf.nil)))), hO, hm⟩
 have hm := ie hc5 hm
 refine wp_exit ?_
 refine exit_then ?_
 refine exit_then ?_
 refine exit_here ?_
 refine nor_then (hK28 _ _ ?_)
 refine wp_seq_k fun _ hK29 => ?_
 refine wp_region_list ?_
 refine op_mv hf rfl rfl fun a hf => ?_
 refine op_as hf rfl rfl fun a hf => ?_
 refine op_as hf rfl rfl fun a hf => ?_
 refine wpList_nil ?_
 refine nor_then (hK29 _ _ ?_)
 refine wp_ret ?_
 obtain rfl := Option.some.inj hm
 exact post_ret Tryz.results71 hf (.tmp rfl (.tmp rfl .nil)) ⟨rfl, hO.below⟩
 exact ⟨0, (hf.cons rfl (hf.cons rfl (hf.cons rfl (hf.cons rfl hf.nil)))), hO, hm⟩

set_option maxHeartbeats 1000000 in
theorem w_uriref_scheme_1 (x_b : UInt8) (R : Bool) (w0 : World) (hG : Glob w0) (hm : uriref_scheme_1 x_b = some R) :
    Calls Tryz.prog 175 #[byte x_b] w0 fun e w' => e = .returned (.bool R) ∧ Below w0.heap.size w0 w' := by
 rw [uriref_scheme_1] at hm
 refine calls_enter (vs := [byte x_b]) Tryz.func175 rfl Tryz.ntmps175 rfl fun a hf => ?_
 have hF : Away [] := away_nil
 have hO : Dk.Own w0 [] w0 [] := Dk.Own.refl w0
 refine wp_seq_k fun _ hK1 => ?_
 refine wp_region_list ?_
 refine op_as hf rfl rfl fun a hf => ?_
 refine wpList_nil ?_
 refine nor_then (hK1 _ _ ?_)
 refine wp_seq_cut (fun a w => ∃ (t8 : Bool), Fits 21 [(2, .bool t8)] a ∧ Dk.Own w0 [] w [] ∧ uriref_scheme_1_j1 t8 = some R) ?_ ?_
 refine wp_region_list ?_
 refine op_mv hf rfl rfl fun a hf => ?_
 obtain ⟨r2, hr2, hm⟩ := ob hm
 refine op_enter (ex_call c_122 hf (vs := [byte x_b]) rfl) rfl hf rfl rfl (w_octet_IsAlpha x_b r2 _ (hG.own hF hO) hr2) ?_
 rintro e w' ⟨he, hb⟩
 refine ⟨_, he, fun a hf => ?_⟩
 have hO := hO.grow hb
 refine op_mv hf rfl rfl fun a hf => ?_
 rcases bcase (r2) with hc3 | hc3
 have hm := it hc3 hm
 refine op_pass rfl hf rfl rfl (hc3) rfl rfl fun a hf => ?_
 refine op_pass rfl hf rfl rfl (hc3) rfl rfl fun a hf => ?_
 refine op_val (ex_pick_t hf rfl hc3 rfl) rfl hf rfl rfl fun a hf => ?_
 refine op_mv hf rfl rfl fun a hf => ?_
 refine op_pass rfl hf rfl rfl (rfl) rfl rfl fun a hf => ?_
 refine op_pass rfl hf rfl rfl (rfl) rfl rfl fun a hf => ?_
 refine op_val (ex_pick_t hf rfl rfl rfl) rfl hf rfl rfl fun a hf => ?_
 refine op_mv hf rfl rfl fun a hf => ?_
 refine op_pass rfl hf rfl rfl (rfl) rfl rfl fun a hf => ?_
 refine op_pass rfl hf rfl rfl (rfl) rfl rfl fun a hf => ?_
 refine op_val (ex_pick_t hf rfl rfl rfl) rfl hf rfl rfl fun a hf => ?_
 refine op_mv hf rfl rfl fun a hf => ?_
 refine op_pass rfl hf rfl rfl (rfl) rfl rfl fun a hf => ?_
 refine op_pass rfl hf rfl rfl (rfl) rfl rfl fun a hf => ?_
 refine op_val (ex_pick_t hf rfl rfl rfl) rfl hf rfl rfl fun a hf => ?_
 refine op_as hf rfl rfl fun a hf => ?_
 refine wpList_nil ?_
 refine nor_then ?_
 exact ⟨true, (hf.cons rfl hf.nil), hO, hm⟩
 have hm := ie hc3 hm
 refine op_guard rfl hf rfl rfl (hc3) ?_
 refine op_mv hf rfl rfl fun a hf => ?_
 refine op_guard rfl hf rfl rfl (hc3) ?_
 obtain ⟨r4, hr4, hm⟩ := ob hm
 refine op_enter (ex_call c_123 hf (vs := [byte x_b]) rfl) rfl hf rfl rfl (w_octet_IsDigit x_b r4 _ (hG.own hF hO) hr4) ?_
 rintro e w' ⟨he, hb⟩
 refine ⟨_, he, fun a hf => ?_⟩
 have hO := hO.grow hb
 refine op_val (ex_pick_f hf rfl hc3 rfl) rfl hf rfl rfl fun a hf => ?_
 refine op_mv hf rfl rfl fun a hf => ?_
 rcases bcase (r4) with hc5 | hc5
 have hm := it hc5 hm
 refine op_pass rfl hf rfl rfl (hc5) rfl rfl fun a hf => ?_
 refine op_pass rfl hf rfl rfl (hc5) rfl rfl fun a hf => ?_
 refine op_val (ex_pick_t hf rfl hc5 rfl) rfl hf rfl rfl fun a hf => ?_
 refine op_mv hf rfl rfl fun a hf => ?_
 refine op_pass rfl hf rfl rfl (rfl) rfl rfl fun a hf => ?_
 refine op_pass rfl hf rfl rfl (rfl) rfl rfl fun a hf => ?_
 refine op_val (ex_pick_t hf rfl rfl rfl) rfl hf rfl rfl fun a hf => ?_
 refine op_mv hf rfl rfl fun a hf => ?_
 refine op_pass rfl hf rfl rfl (rfl) rfl rfl fun a hf => ?_
 refine op_pass rfl hf rfl rfl (rfl) rfl rfl fun a hf => ?_
 refine op_val (ex_pick_t hf rfl rfl rfl) rfl hf rfl rfl fun a hf => ?_
 refine op_as hf rfl rfl fun a hf => ?_
 refine wpList_nil ?_
 refine nor_then ?_
 exact ⟨true, (hf.cons rfl hf.nil), hO, hm⟩
 have hm := ie hc5 hm
 refine op_guard rfl hf rfl rfl (hc5) ?_
 refine op_mv hf rfl rfl fun a hf => ?_
 refine op_guard rfl hf rfl rfl (hc5) ?_
 refine op_val (ex_eql_b (b := x_b) (c := 43) hf rfl rfl) rfl hf rfl rfl fun a hf => ?_
 refine op_val (ex_pick_f hf rfl hc5 rfl) rfl hf rfl rfl fun a hf => ?_
 refine op_mv hf rfl rfl fun a hf => ?_
 rcases bcase (x_b == 43) with hc6 | hc6
 have hm := it hc6 hm
 refine op_pass rfl hf rfl rfl (hc6) rfl rfl fun a hf => ?_
 refine op_pass rfl hf rfl rfl (hc6) rfl rfl fun a hf => ?_
 refine op_val (ex_pick_t hf rfl hc6 rfl) rfl hf rfl rfl fun a hf => ?_
 refine op_mv hf rfl rfl fun a hf => ?_
 refine op_pass rfl hf rfl rfl (rfl) rfl rfl fun a hf => ?_
 refine op_pass rfl hf rfl rfl (rfl) rfl rfl fun a hf => ?_
 refine op_val (ex_pick_t hf rfl rfl rfl) rfl hf rfl rfl fun a hf => ?_
 refine op_as hf rfl rfl fun a hf => ?_
 refine wpList_nil ?_
 refine nor_then ?_
 exact ⟨true, (hf.cons rfl hf.nil), hO, hm⟩
 have hm := ie hc6 hm
 refine op_guard rfl hf rfl rfl (hc6) ?_
 refine op_mv hf rfl rfl fun a hf => ?_
 refine op_guard rfl hf rfl rfl (hc6) ?_
 refine op_val (ex_eql_b (b := x_b) (c := 45) hf rfl rfl) rfl hf rfl rfl fun a hf => ?_
 refine op_val (ex_pick_f hf rfl hc6 rfl) rfl hf rfl rfl fun a hf => ?_
 refine op_mv hf rfl rfl fun a hf => ?_
 rcases bcase (x_b == 45) with hc7 | hc7
 have hm := it hc7 hm
 refine op_pass rfl hf rfl rfl (hc7) rfl rfl fun a hf => ?_
 refine op_pass rfl hf rfl rfl (hc7) rfl rfl fun a hf => ?_
 refine op_val (ex_pick_t hf rfl hc7 rfl) rfl hf rfl rfl fun a hf => ?_
 refine op_as hf rfl rfl fun a hf => ?_
 refine wpList_nil ?_
 refine nor_then ?_
 exact ⟨true, (hf.cons rfl hf.nil), hO, hm⟩
 have hm := ie hc7 hm
 refine op_guard rfl hf rfl rfl (hc7) ?_
 refine op_mv hf rfl rfl fun a hf => ?_
 refine op_guard rfl hf rfl rfl (hc7) ?_
 refine op_val (ex_eql_b (b := x_b) (c := 46) hf rfl rfl) rfl hf rfl rfl fun a hf => ?_
 refine op_val (ex_pick_f hf rfl hc7 rfl) rfl hf rfl rfl fun a hf => ?_
 refine op_as hf rfl rfl fun a hf => ?_
 refine wpList_nil ?_
 refine nor_then ?_
 exact ⟨x_b == 46, (hf.cons rfl hf.nil), hO, hm⟩
 rintro a w ⟨t8, hf, hO, hm⟩
 rw [uriref_scheme_1_j1] at hm
 refine wp_ret ?_
 obtain rfl := Option.some.inj hm
 exact post_ret Tryz.results175 hf (.tmp rfl .nil) ⟨rfl, hO.below⟩

set_option maxHeartbeats 1000000 in
theorem w_uriref_scheme (x_s : Str) (R : Bool) (w0 : World) (hG : Glob w0) (hm : uriref_scheme x_s = some R) :
    Calls Tryz.prog 162 #[str x_s] w0 fun e w' => e = .returned (.bool R) ∧ Below w0.heap.size w0 w' := by
 rw [uriref_scheme] at hm
 refine calls_enter (vs := [str x_s]) Tryz.func162 rfl Tryz.ntmps162 rfl fun a hf => ?_
 have hF : Away [] := away_nil
 have hO : Dk.Own w0 [] w0 [] := Dk.Own.refl w0
 refine wp_seq_k fun _ hK1 => ?_
 refine wp_region_list ?_
 refine op_as hf rfl rfl fun a hf => ?_
 refine wpList_nil ?_
 refine nor_then (hK1 _ _ ?_)
 refine wp_seq_k fun _ hK2 => ?_
 refine wp_region_list ?_
 refine op_as hf rfl rfl fun a hf => ?_
 refine wpList_nil ?_
 refine nor_then (hK2 _ _ ?_)
 refine wp_seq_cut (fun a w => ∃ (t9 : Bool), Fits 17 [(2, .bool t9)] a ∧ Dk.Own w0 [] w [] ∧ uriref_scheme_j1 t9 = some R) ?_ ?_
 refine wp_region_list ?_
 refine op_mv hf rfl rfl fun a hf => ?_
 refine op_val (ex_neq_s (l := x_s) (m := []) hf rfl rfl) rfl hf rfl rfl fun a hf => ?_
 refine op_mv hf rfl rfl fun a hf => ?_
 rcases bcase (!(x_s == [])) with hc3 | hc3
 have hm := it hc3 hm
 refine op_guard rfl hf rfl rfl (hc3) ?_
 refine op_mv hf rfl rfl fun a hf => ?_
 refine op_guard rfl hf rfl rfl (hc3) ?_
 obtain ⟨b4, hb4, hm⟩ := ob hm
 refine op_val (ex_index (l := x_s) Tryz.underlying9 hf rfl rfl hb4) rfl hf rfl rfl fun a hf => ?_
 refine op_guard rfl hf rfl rfl (hc3) ?_
 obtain ⟨r5, hr5, hm⟩ := ob hm
 refine op_enter (ex_call c_122 hf (vs := [byte b4]) rfl) rfl hf rfl rfl (w_octet_IsAlpha b4 r5 _ (hG.own hF hO) hr5) ?_
 rintro e w' ⟨he, hb⟩
 refine ⟨_, he, fun a hf => ?_⟩
 have hO := hO.grow hb
 refine op_val (ex_pick_t hf rfl hc3 rfl) rfl hf rfl rfl fun a hf => ?_
 refine op_mv hf rfl rfl fun a hf => ?_
 rcases bcase (r5) with hc6 | hc6
 have hm := it hc6 hm
 refine op_guard rfl hf rfl rfl (hc6) ?_
 refine op_mv hf rfl rfl fun a hf => ?_
 refine op_guard rfl hf rfl rfl (hc6) ?_
 refine op_mv hf rfl rfl fun a hf => ?_
 refine op_guard rfl hf rfl rfl (hc6) ?_
 refine op_buildSlice (vs := [(0, str x_s)]) (cs := [str x_s]) (e := 9) (sz := 1) hf rfl rfl (fun w => by kernel_rfl) rfl rfl hO fun a b7 w hf hO => ?_
 refine op_guard rfl hf rfl rfl (hc6) ?_
 obtain ⟨r8, hr8, hm⟩ := ob hm
 refine op_enter (ex_call c_63 hf (vs := [.func (.func 175) #[] #[], .slice (some ⟨b7, 0, none⟩) (([x_s] : List Str).length) 1]) rfl) rfl hf rfl rfl (w_octet_All uriref_scheme_1 ([x_s] : List Str) r8 _ (hG.own hF hO) c_175 (fun y0 r w hG h => callsE (w_uriref_scheme_1 y0 r w hG h)) (hO.rowSees (i := 0) rfl) (hO.rowCap (i := 0) rfl) hr8) ?_
 rintro e w' ⟨he, hb⟩
 refine ⟨_, he, fun a hf => ?_⟩
 have hO := hO.grow hb
 refine op_val (ex_pick_t hf rfl hc6 rfl) rfl hf rfl rfl fun a hf => ?_
 refine op_as hf rfl rfl fun a hf => ?_
 refine wpList_nil ?_
 refine nor_then ?_
 exact ⟨r8, (hf.cons rfl hf.nil), (hO.sub (.cons _ .slnil)), hm⟩
 have hm := ie hc6 hm
 refine op_pass rfl hf rfl rfl (hc6) rfl rfl fun a hf => ?_
 refine op_pass rfl hf rfl rfl (hc6) rfl rfl fun a hf => ?_
 refine op_pass rfl hf rfl rfl (hc6) rfl rfl fun a hf => ?_
 refine op_pass rfl hf rfl rfl (hc6) rfl rfl fun a hf => ?_
 refine op_val (ex_pick_f hf rfl hc6 rfl) rfl hf rfl rfl fun a hf => ?_
 refine op_as hf rfl rfl fun a hf => ?_
 refine wpList_nil ?_
 refine nor_then ?_
 exact ⟨false, (hf.cons rfl hf.nil), hO, hm⟩
 have hm := ie hc3 hm
 refine op_pass rfl hf rfl rfl (hc3) rfl rfl fun a hf => ?_
 refine op_pass rfl hf rfl rfl (hc3) rfl rfl fun a hf => ?_
 refine op_pass rfl hf rfl rfl (hc3) rfl rfl fun a hf => ?_
 refine op_val (ex_pick_f hf rfl hc3 rfl) rfl hf rfl rfl fun a hf => ?_
 refine op_mv hf rfl rfl fun a hf => ?_
 refine op_pass rfl hf rfl rfl (rfl) rfl rfl fun a hf => ?_
 refine op_pass rfl hf rfl rfl (rfl) rfl rfl fun a hf => ?_
 refine op_pass rfl hf rfl rfl (rfl) rfl rfl fun a hf => ?_
 refine op_pass rfl hf rfl rfl (rfl) rfl rfl fun a hf => ?_
 refine op_val (ex_pick_f hf rfl rfl rfl) rfl hf rfl rfl fun a hf => ?_
 refine op_as hf rfl rfl fun a hf => ?_
 refine wpList_nil ?_
 refine nor_then ?_
 exact ⟨false, (hf.cons rfl hf.nil), hO, hm⟩
 rintro a w ⟨t9, hf, hO, hm⟩
 rw [uriref_scheme_j1] at hm
 refine wp_ret ?_
 obtain rfl := Option.some.inj hm
 exact post_ret Tryz.results162 hf (.tmp rfl .nil) ⟨rfl, hO.below⟩

end Go.Proofs
