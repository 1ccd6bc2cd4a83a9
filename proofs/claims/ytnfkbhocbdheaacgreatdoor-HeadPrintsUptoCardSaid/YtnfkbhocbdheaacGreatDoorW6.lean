/-
  Walks, written by a program (wip/gen): what its model says, the function returns; what was there before is as it was.
-/
import Derived.Test.YtnfkbhocbdheaacGreatDoorLib
import Derived.Test.YtnfkbhocbdheaacGreatDoorW5
set_option linter.unusedVariables false
set_option linter.unusedSimpArgs false
set_option maxRecDepth 100000
namespace Go.Proofs
open Go.Dk Go.Dm Go.RowKit

set_option maxHeartbeats 1000000 in
theorem w_quill_New (x_most : Int) (R : quill_Quill) (w0 : World) (hG : Glob w0) (hm : quill_New x_most = some R) :
    Calls Tryz.prog 19 #[int x_most] w0 fun e w' => ∃ (b0 : Nat) (p1 : Option Addr) (c1 : Nat), e = .returned (ptr b0 0) ∧ Dk.Own w0 [] w' [.blk b0 [.slice p1 R.f_b.length c1, int R.f_most] 72, .row (.slice p1 R.f_b.length c1) 5 1 R.f_b.length (cells enc_byte R.f_b)] := by
 rw [quill_New] at hm
 refine calls_enter (vs := [int x_most]) Tryz.func19 rfl Tryz.ntmps19 rfl fun a hf => ?_
 have hF : Away [] := away_nil
 have hO : Dk.Own w0 [] w0 [] := Dk.Own.refl w0
 refine wp_seq_k fun _ hK1 => ?_
 refine wp_region_list ?_
 refine op_as hf rfl rfl fun a hf => ?_
 refine wpList_nil ?_
 refine nor_then (hK1 _ _ ?_)
 refine wp_seq_k fun _ hK3 => ?_
 refine wp_region_list ?_
 refine op_mv hf rfl rfl fun a hf => ?_
 refine op_val (ex_max (m := x_most) (n := 0) hf rfl rfl) rfl hf rfl rfl fun a hf => ?_
 refine op_val (ex_build (vs := [(1, int (max x_most 0))]) (v := .agg #[.slice none 0 0, int (max x_most 0)]) hf rfl (by kernel_rfl)) rfl hf rfl rfl fun a hf => ?_
 refine op_box (v := .agg #[.slice none 0 0, int (max x_most 0)]) (cs := [.slice none 0 0, int (max x_most 0)]) rfl hf rfl rfl hO fun a b2 w hf hO => ?_
 have hO := hO.nilRow 5 1
 refine op_as hf rfl rfl fun a hf => ?_
 refine wpList_nil ?_
 refine nor_then (hK3 _ _ ?_)
 refine wp_ret ?_
 obtain rfl := Option.some.inj hm
 exact post_ret Tryz.results19 hf (.tmp rfl .nil) ⟨b2, none, 0, rfl, (hO.choose [1, 0] rfl)⟩

set_option maxHeartbeats 1000000 in
theorem w_quill_Quill_Left (x_q : quill_Quill) (R : Int) (w0 : World) (hG : Glob w0) {x_q_b0 : Nat} {x_q_p1 : Option Addr} {x_q_c1 : Nat} (hs0 : Sees w0 (some ⟨x_q_b0, 0, none⟩) [.slice x_q_p1 x_q.f_b.length x_q_c1, int x_q.f_most]) (hs1 : Sees w0 x_q_p1 (cells enc_byte x_q.f_b)) (hc1 : x_q.f_b.length ≤ x_q_c1) (hm : quill_Quill_Left x_q = some R) :
    Calls Tryz.prog 120 #[ptr x_q_b0 0] w0 fun e w' => e = .returned (int R) ∧ Below w0.heap.size w0 w' := by
 rw [quill_Quill_Left] at hm
 refine calls_enter (vs := [ptr x_q_b0 0]) Tryz.func120 rfl Tryz.ntmps120 rfl fun a hf => ?_
 have hF : Away [] := away_nil
 have hO : Dk.Own w0 [] w0 [] := Dk.Own.refl w0
 have hO := hO.addShr hs0 (by simp [Res.shared])
 have hO := hO.addShr hs1 (by simp [Res.shared])
 refine wp_seq_k fun _ hK1 => ?_
 refine wp_region_list ?_
 refine op_as hf rfl rfl fun a hf => ?_
 refine wpList_nil ?_
 refine nor_then (hK1 _ _ ?_)
 refine wp_seq_k fun _ hK3 => ?_
 refine wp_seq_k fun _ hK2 => ?_
 refine wp_region_list ?_
 refine op_mv hf rfl rfl fun a hf => ?_
 refine op_val (ex_eql_pn Tryz.underlying46 hf rfl rfl) rfl hf rfl rfl fun a hf => ?_
 refine wpList_nil ?_
 refine nor_then (hK2 _ _ ?_)
 refine wp_cond_f hf rfl rfl ?_
 refine wp_skip ?_
 refine nor_then (hK3 _ _ ?_)
 refine wp_seq_k fun _ hK5 => ?_
 refine wp_quiet (by kernel_rfl) (by kernel_rfl) hO ?_
 refine q_val (fun w hO => ex_move hf rfl) rfl hf rfl rfl fun a hf => ?_
 refine q_val (fun w hO => ex_nilCheck hf rfl) rfl hf rfl rfl fun a hf => ?_
 refine q_val (fun w hO => ex_field fa_72_1 hf rfl) rfl hf rfl rfl fun a hf => ?_
 refine q_val (fun w hO => ex_load1 (o := 1) ag_3 (hO.sees (i := 1) rfl) rfl hf rfl) rfl hf rfl rfl fun a hf => ?_
 refine q_val (fun w hO => ex_move hf rfl) rfl hf rfl rfl fun a hf => ?_
 refine q_val (fun w hO => ex_nilCheck hf rfl) rfl hf rfl rfl fun a hf => ?_
 refine q_val (fun w hO => ex_field fa_72_0 hf rfl) rfl hf rfl rfl fun a hf => ?_
 refine q_val (fun w hO => ex_load1 (o := 0) ag_66 (hO.sees (i := 1) rfl) rfl hf rfl) rfl hf rfl rfl fun a hf => ?_
 refine q_val (fun w hO => ex_len_l Tryz.underlying66 hf rfl) rfl hf rfl rfl fun a hf => ?_
 obtain ⟨i4, hi4, hm⟩ := ob hm
 refine q_val (fun w hO => ex_sub hf rfl rfl hi4) rfl hf rfl rfl fun a hf => ?_
 refine q_val (fun w hO => ex_assign hf rfl) rfl hf rfl rfl fun a hf => ?_
 refine wpQuiet_nil ?_
 intro w hO
 refine nor_then (hK5 _ _ ?_)
 refine wp_ret ?_
 obtain rfl := Option.some.inj hm
 exact post_ret Tryz.results120 hf (.tmp rfl .nil) ⟨rfl, hO.below⟩

set_option maxHeartbeats 1000000 in
theorem w_quill_Quill_Put (x_q : quill_Quill) (x_l : List Str) (R : Int × quill_Quill) (w0 : World) (hG : Glob w0) {x_q_b0 : Nat} {x_q_p1 : Option Addr} {x_q_c1 : Nat} {x_l_p2 : Option Addr} {x_l_c2 : Nat} {F : List Nat} (hF : Away F) (hO : Dk.Own w0 F w0 [.blk x_q_b0 [.slice x_q_p1 x_q.f_b.length x_q_c1, int x_q.f_most] 72, .row (.slice x_q_p1 x_q.f_b.length x_q_c1) 5 1 x_q.f_b.length (cells enc_byte x_q.f_b), .shr x_l_p2 (cells enc_str x_l)]) (hcw0 : x_l.length ≤ x_l_c2) (hm : quill_Quill_Put x_q x_l = some R) :
    Calls Tryz.prog 72 #[ptr x_q_b0 0, .slice x_l_p2 x_l.length x_l_c2] w0 fun e w' => ∃ (p0 : Option Addr) (c0 : Nat), e = .returned (int R.1) ∧ Dk.Own w0 F w' [.blk x_q_b0 [.slice p0 R.2.f_b.length c0, int R.2.f_most] 72, .row (.slice p0 R.2.f_b.length c0) 5 1 R.2.f_b.length (cells enc_byte R.2.f_b)] := by
 rw [quill_Quill_Put] at hm
 refine calls_enter (vs := [ptr x_q_b0 0, .slice x_l_p2 x_l.length x_l_c2]) Tryz.func72 rfl Tryz.ntmps72 rfl fun a hf => ?_
 refine wp_seq_k fun _ hK1 => ?_
 refine wp_region_list ?_
 refine op_as hf rfl rfl fun a hf => ?_
 refine wpList_nil ?_
 refine nor_then (hK1 _ _ ?_)
 refine wp_seq_k fun _ hK3 => ?_
 refine wp_seq_k fun _ hK2 => ?_
 refine wp_region_list ?_
 refine op_mv hf rfl rfl fun a hf => ?_
 refine op_val (ex_eql_pn Tryz.underlying46 hf rfl rfl) rfl hf rfl rfl fun a hf => ?_
 refine wpList_nil ?_
 refine nor_then (hK2 _ _ ?_)
 refine wp_cond_f hf rfl rfl ?_
 refine wp_skip ?_
 refine nor_then (hK3 _ _ ?_)
 refine wp_seq_k fun _ hK5 => ?_
 refine wp_region_list ?_
 refine op_mv hf rfl rfl fun a hf => ?_
 obtain ⟨r4, hr4, hm⟩ := ob hm
 refine op_enter (ex_call c_120 hf (vs := [ptr x_q_b0 0]) rfl) rfl hf rfl rfl (w_quill_Quill_Left x_q r4 _ (hG.own hF hO) (hO.blkSees (i := 0) rfl) (hO.rowSees (i := 1) rfl) (hO.rowCap (i := 1) rfl) hr4) ?_
 rintro e w' ⟨he, hb⟩
 refine ⟨_, he, fun a hf => ?_⟩
 have hO := hO.grow hb
 refine op_as hf rfl rfl fun a hf => ?_
 refine wpList_nil ?_
 refine nor_then (hK5 _ _ ?_)
 refine wp_seq_k fun _ hK23 => ?_
 refine wp_seq_k fun _ hK6 => ?_
 refine wp_region_list ?_
 refine op_mv hf rfl rfl fun a hf => ?_
 refine op_val (ex_len_l Tryz.underlying61 hf rfl) rfl hf rfl rfl fun a hf => ?_
 refine op_mv hf rfl rfl fun a hf => ?_
 refine wpList_nil ?_
 refine nor_then (hK6 _ _ ?_)
 refine wp_block ?_
 refine wp_loop_n (fun k a w => ∃ (i7 : Int) (i8 : Int), Fits 45 [(0, ptr x_q_b0 0), (1, .slice x_l_p2 x_l.length x_l_c2), (5, int i7), (14, .slice x_l_p2 x_l.length x_l_c2), (15, int (x_l.length : Int)), (16, int i8)] a ∧ Dk.Own w0 F w [.blk x_q_b0 [.slice x_q_p1 x_q.f_b.length x_q_c1, int x_q.f_most] 72, .row (.slice x_q_p1 x_q.f_b.length x_q_c1) 5 1 x_q.f_b.length (cells enc_byte x_q.f_b), .shr x_l_p2 (cells enc_str x_l)] ∧ quill_Quill_Put_L1 x_q x_l k i7 i8 = some R) ?_ fuel ?_
 rintro n1 a w ⟨i7, i8, hf, hO, hm⟩
 obtain _ | n1 := n1
 rw [quill_Quill_Put_L1] at hm
 cases hm
 rw [quill_Quill_Put_L1] at hm
 refine wp_seq_k fun _ hK9 => ?_
 refine wp_region_list ?_
 refine op_val (ex_lss (m := i8) (n := (x_l.length : Int)) hf rfl rfl) rfl hf rfl rfl fun a hf => ?_
 refine wpList_nil ?_
 refine nor_then (hK9 _ _ ?_)
 refine wp_seq_k fun _ hK11 => ?_
 refine wp_cond_cut hf rfl (fun hc10 => ?_) (fun hc10 => ?_)
 have hm := it hc10 hm
 refine wp_skip ?_
 refine nor_then (hK11 _ _ ?_)
 refine wp_seq_k fun _ hK21 => ?_
 refine wp_block ?_
 refine wp_seq_k fun _ hK15 => ?_
 refine wp_region_list ?_
 obtain ⟨x12, hx12, hm⟩ := ob hm
 obtain ⟨b13, o14, hix12, hSx12⟩ := elemAt (enc := enc_str) (sz := 1) (xs := x_l) 61 Tryz.underlying61 sz_9 (by decide) (fun _ => rfl) (hO.sees (i := 2) rfl) hx12
 refine op_val (ex_indexAddr hix12 hf rfl rfl) rfl hf rfl rfl fun a hf => ?_
 refine op_val (ex_load1 (o := 0) ag_9 (hSx12 _ (hO.sees (i := 2) rfl)) rfl hf rfl) rfl hf rfl rfl fun a hf => ?_
 refine op_as hf rfl rfl fun a hf => ?_
 refine wpList_nil ?_
 refine nor_then (hK15 _ _ ?_)
 refine wp_seq_k fun _ hK19 => ?_
 refine wp_seq_k fun _ hK16 => ?_
 refine wp_region_list ?_
 refine op_mv hf rfl rfl fun a hf => ?_
 refine op_val (ex_len_s (l := x12) Tryz.underlying9 hf rfl) rfl hf rfl rfl fun a hf => ?_
 refine op_mv hf rfl rfl fun a hf => ?_
 refine op_val (ex_gtr (m := (x12.length : Int)) (n := i7) hf rfl rfl) rfl hf rfl rfl fun a hf => ?_
 refine wpList_nil ?_
 refine nor_then (hK16 _ _ ?_)
 refine wp_cond_cut hf rfl (fun hc17 => ?_) (fun hc17 => ?_)
 have hm := it hc17 hm
 refine wp_seq_k fun _ hK18 => ?_
 refine wp_region_list ?_
 refine op_as hf rfl rfl fun a hf => ?_
 refine wpList_nil ?_
 refine nor_then (hK18 _ _ ?_)
 refine wp_ret ?_
 refine ret_then ?_
 refine ret_block ?_
 refine ret_then ?_
 refine ret_then ?_
 refine ret_block ?_
 refine ret_then ?_
 obtain rfl := Option.some.inj hm
 exact post_ret Tryz.results72 hf (.tmp rfl .nil) ⟨x_q_p1, x_q_c1, rfl, (hO.sub (.cons_cons _ (.cons_cons _ (.cons _ .slnil))))⟩
 have hm := ie hc17 hm
 refine wp_skip ?_
 refine nor_then (hK19 _ _ ?_)
 refine wp_region_list ?_
 refine op_mv hf rfl rfl fun a hf => ?_
 refine op_mv hf rfl rfl fun a hf => ?_
 refine op_val (ex_len_s (l := x12) Tryz.underlying9 hf rfl) rfl hf rfl rfl fun a hf => ?_
 obtain ⟨i20, hi20, hm⟩ := ob hm
 refine op_val (ex_sub hf rfl rfl hi20) rfl hf rfl rfl fun a hf => ?_
 refine op_as hf rfl rfl fun a hf => ?_
 refine wpList_nil ?_
 refine nor_block ?_
 refine nor_then (hK21 _ _ ?_)
 refine wp_region_list ?_
 obtain ⟨i22, hi22, hm⟩ := ob hm
 refine op_val (ex_add hf rfl rfl hi22) rfl hf rfl rfl fun a hf => ?_
 refine op_mv hf rfl rfl fun a hf => ?_
 refine wpList_nil ?_
 refine nor_then ?_
 exact ⟨_, Nat.lt_succ_self _, i20, i22, (hf.cons rfl (hf.cons rfl (hf.cons rfl (hf.cons rfl (hf.cons rfl (hf.cons rfl hf.nil)))))), hO, hm⟩
 have hm := ie hc10 hm
 refine wp_exit ?_
 refine exit_then ?_
 refine exit_then ?_
 refine exit_here ?_
 refine nor_then (hK23 _ _ ?_)
 refine wp_seq_cut (fun a w => ∃ (p42 : Option Addr) (c43 : Nat) (l44 : List UInt8) (i45 : Int), Fits 45 [] a ∧ Dk.Own w0 F w [.blk x_q_b0 [.slice p42 l44.length c43, int i45] 72, .row (.slice p42 l44.length c43) 5 1 l44.length (cells enc_byte l44), .shr x_l_p2 (cells enc_str x_l)] ∧ quill_Quill_Put_j3 l44 i45 = some R) ?_ ?_
 refine wp_seq_k fun _ hK24 => ?_
 refine wp_region_list ?_
 refine op_mv hf rfl rfl fun a hf => ?_
 refine op_val (ex_len_l Tryz.underlying61 hf rfl) rfl hf rfl rfl fun a hf => ?_
 refine op_mv hf rfl rfl fun a hf => ?_
 refine wpList_nil ?_
 refine nor_then (hK24 _ _ ?_)
 refine wp_block ?_
 refine wp_loop_n (fun k a w => ∃ (p25 : Option Addr) (c26 : Nat) (l27 : List UInt8) (i28 : Int) (i29 : Int), Fits 45 [(0, ptr x_q_b0 0), (29, .slice x_l_p2 x_l.length x_l_c2), (30, int (x_l.length : Int)), (31, int i29)] a ∧ Dk.Own w0 F w [.blk x_q_b0 [.slice p25 l27.length c26, int i28] 72, .row (.slice p25 l27.length c26) 5 1 l27.length (cells enc_byte l27), .shr x_l_p2 (cells enc_str x_l)] ∧ quill_Quill_Put_L2 x_l k l27 i28 i29 = some R) ?_ fuel ?_
 rintro n2 a w ⟨p25, c26, l27, i28, i29, hf, hO, hm⟩
 obtain _ | n2 := n2
 rw [quill_Quill_Put_L2] at hm
 cases hm
 rw [quill_Quill_Put_L2] at hm
 refine wp_seq_k fun _ hK30 => ?_
 refine wp_region_list ?_
 refine op_val (ex_lss (m := i29) (n := (x_l.length : Int)) hf rfl rfl) rfl hf rfl rfl fun a hf => ?_
 refine wpList_nil ?_
 refine nor_then (hK30 _ _ ?_)
 refine wp_seq_k fun _ hK32 => ?_
 refine wp_cond_cut hf rfl (fun hc31 => ?_) (fun hc31 => ?_)
 have hm := it hc31 hm
 refine wp_skip ?_
 refine nor_then (hK32 _ _ ?_)
 refine wp_seq_k fun _ hK40 => ?_
 refine wp_block ?_
 refine wp_seq_k fun _ hK36 => ?_
 refine wp_region_list ?_
 obtain ⟨x33, hx33, hm⟩ := ob hm
 obtain ⟨b34, o35, hix33, hSx33⟩ := elemAt (enc := enc_str) (sz := 1) (xs := x_l) 61 Tryz.underlying61 sz_9 (by decide) (fun _ => rfl) (hO.sees (i := 2) rfl) hx33
 refine op_val (ex_indexAddr hix33 hf rfl rfl) rfl hf rfl rfl fun a hf => ?_
 refine op_val (ex_load1 (o := 0) ag_9 (hSx33 _ (hO.sees (i := 2) rfl)) rfl hf rfl) rfl hf rfl rfl fun a hf => ?_
 refine op_as hf rfl rfl fun a hf => ?_
 refine wpList_nil ?_
 refine nor_then (hK36 _ _ ?_)
 refine wp_region_list ?_
 refine op_mv hf rfl rfl fun a hf => ?_
 refine op_mv hf rfl rfl fun a hf => ?_
 refine op_val (ex_nilCheck hf rfl) rfl hf rfl rfl fun a hf => ?_
 refine op_val (ex_field fa_72_0 hf rfl) rfl hf rfl rfl fun a hf => ?_
 refine op_val (ex_load1 (o := 0) ag_66 (hO.blkSees (i := 0) rfl) rfl hf rfl) rfl hf rfl rfl fun a hf => ?_
 refine op_mv hf rfl rfl fun a hf => ?_
 obtain ⟨hg39, hm⟩ := og hm
 refine op_appendB (en := enc_byte) (xs := l27) (s := x33) (i := 1) (fun _ => rfl) eb_66_9 rfl hg39 hf rfl rfl rfl hO fun a p37 c38 w hf hO => ?_
 refine op_val (ex_nilCheck hf rfl) rfl hf rfl rfl fun a hf => ?_
 refine op_val (ex_field fa_72_0 hf rfl) rfl hf rfl rfl fun a hf => ?_
 refine op_store1 (i := 0) (o := 0) (v := .slice p37 ((l27 ++ x33).length) c38) sz_66 rfl rfl rfl rfl hf rfl rfl hO fun w hO => ?_
 refine wpList_nil ?_
 refine nor_block ?_
 refine nor_then (hK40 _ _ ?_)
 refine wp_region_list ?_
 obtain ⟨i41, hi41, hm⟩ := ob hm
 refine op_val (ex_add hf rfl rfl hi41) rfl hf rfl rfl fun a hf => ?_
 refine op_mv hf rfl rfl fun a hf => ?_
 refine wpList_nil ?_
 refine nor_then ?_
 exact ⟨_, Nat.lt_succ_self _, p37, c38, l27 ++ x33, i28, i41, (hf.cons rfl (hf.cons rfl (hf.cons rfl (hf.cons rfl hf.nil)))), hO, hm⟩
 have hm := ie hc31 hm
 refine wp_exit ?_
 refine exit_then ?_
 refine exit_then ?_
 refine exit_here ?_
 refine nor_then ?_
 exact ⟨p25, c26, l27, i28, hf.nil, hO, hm⟩
 exact ⟨x_q_p1, x_q_c1, x_q.f_b, x_q.f_most, 0, (hf.cons rfl (hf.cons rfl (hf.cons rfl (hf.cons rfl hf.nil)))), hO, hm⟩
 rintro a w ⟨p42, c43, l44, i45, hf, hO, hm⟩
 rw [quill_Quill_Put_j3] at hm
 refine wp_seq_k fun _ hK46 => ?_
 refine wp_region_list ?_
 refine op_as hf rfl rfl fun a hf => ?_
 refine wpList_nil ?_
 refine nor_then (hK46 _ _ ?_)
 refine wp_ret ?_
 obtain rfl := Option.some.inj hm
 exact post_ret Tryz.results72 hf (.tmp rfl .nil) ⟨p42, c43, rfl, (hO.sub (.cons_cons _ (.cons_cons _ (.cons _ .slnil))))⟩
 exact ⟨r4, 0, (hf.cons rfl (hf.cons rfl (hf.cons rfl (hf.cons rfl (hf.cons rfl (hf.cons rfl hf.nil)))))), hO, hm⟩

set_option maxHeartbeats 1000000 in
theorem w_quill_Quill_Line (x_q : quill_Quill) (x_l : List Str) (R : Int × quill_Quill) (w0 : World) (hG : Glob w0) {x_q_b0 : Nat} {x_q_p1 : Option Addr} {x_q_c1 : Nat} {x_l_p2 : Option Addr} {x_l_c2 : Nat} {F : List Nat} (hF : Away F) (hO : Dk.Own w0 F w0 [.blk x_q_b0 [.slice x_q_p1 x_q.f_b.length x_q_c1, int x_q.f_most] 72, .row (.slice x_q_p1 x_q.f_b.length x_q_c1) 5 1 x_q.f_b.length (cells enc_byte x_q.f_b), .shr x_l_p2 (cells enc_str x_l)]) (hcw0 : x_l.length ≤ x_l_c2) (hm : quill_Quill_Line x_q x_l = some R) :
    Calls Tryz.prog 42 #[ptr x_q_b0 0, .slice x_l_p2 x_l.length x_l_c2] w0 fun e w' => ∃ (p0 : Option Addr) (c0 : Nat), e = .returned (int R.1) ∧ Dk.Own w0 F w' [.blk x_q_b0 [.slice p0 R.2.f_b.length c0, int R.2.f_most] 72, .row (.slice p0 R.2.f_b.length c0) 5 1 R.2.f_b.length (cells enc_byte R.2.f_b)] := by
 rw [quill_Quill_Line] at hm
 refine calls_enter (vs := [ptr x_q_b0 0, .slice x_l_p2 x_l.length x_l_c2]) Tryz.func42 rfl Tryz.ntmps42 rfl fun a hf => ?_
 refine wp_seq_k fun _ hK1 => ?_
 refine wp_region_list ?_
 refine op_as hf rfl rfl fun a hf => ?_
 refine wpList_nil ?_
 refine nor_then (hK1 _ _ ?_)
 refine wp_seq_k fun _ hK14 => ?_
 refine wp_region_list ?_
 refine op_mv hf rfl rfl fun a hf => ?_
 refine op_buildSlice (vs := []) (cs := []) (e := 9) (sz := 1) hf rfl rfl (fun w => by kernel_rfl) rfl rfl hO fun a b2 w hf hO => ?_
 refine op_mv hf rfl rfl fun a hf => ?_
 obtain ⟨hg5, hm⟩ := og hm
 refine op_appendS el_61 (enc := enc_str) (xs := []) (ys := x_l) (i := 0) (fun _ => rfl) rfl (hO.sees (i := 3) rfl) (by simp [enc_str, Value.oneCell']) hg5 hf rfl rfl rfl hO fun a p3 c4 w hf hO => ?_
 refine op_buildSlice (vs := [(0, str [13, 10])]) (cs := [str [13, 10]]) (e := 9) (sz := 1) hf rfl rfl (fun w => by kernel_rfl) rfl rfl hO fun a b6 w hf hO => ?_
 obtain ⟨hg9, hm⟩ := og hm
 refine op_appendT el_61 (enc := enc_str) (xs := x_l) (ys := ([[13, 10]] : List Str)) (i := 1) (fun _ => rfl) rfl (hO.rowSees (i := 0) rfl) (by simp [cells, enc_str, Value.oneCell']) hg9 hf rfl rfl rfl hO fun a p7 c8 w hf hO => ?_
 obtain ⟨r10, hr10, hm⟩ := ob hm
 have hch13 := (show Dk.Own w0 F _ ([.blk x_q_b0 [.slice x_q_p1 x_q.f_b.length x_q_c1, int x_q.f_most] 72, .row (.slice x_q_p1 x_q.f_b.length x_q_c1) 5 1 x_q.f_b.length (cells enc_byte x_q.f_b)] ++ [.row (.slice (some ⟨b6, 0, none⟩) (([[13, 10]] : List Str).length) 1) 9 1 (([[13, 10]] : List Str).length) (cells enc_str ([[13, 10]] : List Str)), .row (.slice p7 ((x_l ++ ([[13, 10]] : List Str)).length) c8) 9 1 ((x_l ++ ([[13, 10]] : List Str)).length) (cells enc_str (x_l ++ ([[13, 10]] : List Str))), .shr x_l_p2 (cells enc_str x_l)]) from hO.choose [2, 3, 0, 1, 4] rfl)
 have hfar13 := Dk.Own.far hch13 rfl hF hG.size
 have hlend13 := hch13.lend (S := [.shr p7 (cells enc_str (x_l ++ ([[13, 10]] : List Str)))]) rfl ⟨lent_row (hO.rowSees (i := 1) rfl) (List.mem_of_getElem? (i := 1) rfl), trivial⟩
 have hcl13 := w_quill_Quill_Put x_q (x_l ++ ([[13, 10]] : List Str)) r10 _ (hG.own hF hO) hfar13 hlend13 (hO.rowCap (i := 1) rfl) hr10
 refine op_enter (ex_call c_72 hf (vs := [ptr x_q_b0 0, .slice p7 ((x_l ++ ([[13, 10]] : List Str)).length) c8]) rfl) rfl hf rfl rfl (hcl13) ?_
 rintro e w' ⟨p11, c12, he, hO'⟩
 refine ⟨_, he, fun a hf => ?_⟩
 have hO := hch13.back rfl hO' rfl
 refine op_as hf rfl rfl fun a hf => ?_
 refine wpList_nil ?_
 refine nor_then (hK14 _ _ ?_)
 refine wp_ret ?_
 obtain rfl := Option.some.inj hm
 exact post_ret Tryz.results42 hf (.tmp rfl .nil) ⟨p11, c12, rfl, (hO.sub (.cons_cons _ (.cons_cons _ (.cons _ (.cons _ (.cons _ .slnil))))))⟩

set_option maxHeartbeats 1000000 in
theorem w_head_printer_line (x_p : head_printer) (x_s : Str) (R : head_printer) (w0 : World) (hG : Glob w0) {x_p_b0 : Nat} {x_p_b1 : Nat} {x_p_p2 : Option Addr} {x_p_c2 : Nat} {F : List Nat} (hF : Away F) (hO : Dk.Own w0 F w0 [.blk x_p_b0 [ptr x_p_b1 0, .bool x_p.f_full] 49, .blk x_p_b1 [.slice x_p_p2 x_p.Quill.f_b.length x_p_c2, int x_p.Quill.f_most] 72, .row (.slice x_p_p2 x_p.Quill.f_b.length x_p_c2) 5 1 x_p.Quill.f_b.length (cells enc_byte x_p.Quill.f_b)]) (hm : head_printer_line x_p x_s = some R) :
    Calls Tryz.prog 21 #[ptr x_p_b0 0, str x_s] w0 fun e w' => ∃ (p0 : Option Addr) (c0 : Nat), e = .returned (.tuple #[]) ∧ Dk.Own w0 F w' [.blk x_p_b0 [ptr x_p_b1 0, .bool R.f_full] 49, .blk x_p_b1 [.slice p0 R.Quill.f_b.length c0, int R.Quill.f_most] 72, .row (.slice p0 R.Quill.f_b.length c0) 5 1 R.Quill.f_b.length (cells enc_byte R.Quill.f_b)] := by
 rw [head_printer_line] at hm
 refine calls_enter (vs := [ptr x_p_b0 0, str x_s]) Tryz.func21 rfl Tryz.ntmps21 rfl fun a hf => ?_
 refine wp_region_list ?_
 refine op_mv hf rfl rfl fun a hf => ?_
 refine op_mv hf rfl rfl fun a hf => ?_
 refine op_val (ex_nilCheck hf rfl) rfl hf rfl rfl fun a hf => ?_
 refine op_val (ex_field fa_49_0 hf rfl) rfl hf rfl rfl fun a hf => ?_
 refine op_val (ex_load1 (o := 0) ag_46 (hO.blkSees (i := 0) rfl) rfl hf rfl) rfl hf rfl rfl fun a hf => ?_
 refine op_mv hf rfl rfl fun a hf => ?_
 refine op_buildSlice (vs := [(0, str x_s)]) (cs := [str x_s]) (e := 9) (sz := 1) hf rfl rfl (fun w => by kernel_rfl) rfl rfl hO fun a b1 w hf hO => ?_
 obtain ⟨r2, hr2, hm⟩ := ob hm
 have hch5 := (show Dk.Own w0 F _ ([.blk x_p_b1 [.slice x_p_p2 x_p.Quill.f_b.length x_p_c2, int x_p.Quill.f_most] 72, .row (.slice x_p_p2 x_p.Quill.f_b.length x_p_c2) 5 1 x_p.Quill.f_b.length (cells enc_byte x_p.Quill.f_b)] ++ [.row (.slice (some ⟨b1, 0, none⟩) (([x_s] : List Str).length) 1) 9 1 (([x_s] : List Str).length) (cells enc_str ([x_s] : List Str)), .blk x_p_b0 [ptr x_p_b1 0, .bool x_p.f_full] 49]) from hO.choose [2, 3, 0, 1] rfl)
 have hfar5 := Dk.Own.far hch5 rfl hF hG.size
 have hlend5 := hch5.lend (S := [.shr (some ⟨b1, 0, none⟩) (cells enc_str ([x_s] : List Str))]) rfl ⟨lent_row (hO.rowSees (i := 0) rfl) (List.mem_of_getElem? (i := 0) rfl), trivial⟩
 have hcl5 := w_quill_Quill_Line x_p.Quill ([x_s] : List Str) r2 _ (hG.own hF hO) hfar5 hlend5 (hO.rowCap (i := 0) rfl) hr2
 refine op_enter (ex_call c_42 hf (vs := [ptr x_p_b1 0, .slice (some ⟨b1, 0, none⟩) (([x_s] : List Str).length) 1]) rfl) rfl hf rfl rfl (hcl5) ?_
 rintro e w' ⟨p3, c4, he, hO'⟩
 refine ⟨_, he, fun a hf => ?_⟩
 have hO := hch5.back rfl hO' rfl
 refine op_val (ex_neq (m := r2.1) (n := 0) hf rfl rfl) rfl hf rfl rfl fun a hf => ?_
 refine op_mv hf rfl rfl fun a hf => ?_
 rcases bcase (!(r2.1 == 0)) with hc6 | hc6
 have hm := it hc6 hm
 refine op_pass rfl hf rfl rfl (hc6) rfl rfl fun a hf => ?_
 refine op_pass rfl hf rfl rfl (hc6) rfl rfl fun a hf => ?_
 refine op_pass rfl hf rfl rfl (hc6) rfl rfl fun a hf => ?_
 refine op_pass rfl hf rfl rfl (hc6) rfl rfl fun a hf => ?_
 refine op_val (ex_pick_t hf rfl hc6 rfl) rfl hf rfl rfl fun a hf => ?_
 refine op_val (ex_nilCheck hf rfl) rfl hf rfl rfl fun a hf => ?_
 refine op_val (ex_field fa_49_1 hf rfl) rfl hf rfl rfl fun a hf => ?_
 refine op_store1 (i := 3) (o := 1) (v := .bool true) sz_4 rfl rfl rfl rfl hf rfl rfl hO fun w hO => ?_
 refine wpList_nil ?_
 obtain rfl := Option.some.inj hm
 exact post_end Tryz.results21 hf .nil ⟨p3, c4, rfl, (hO.choose [3, 0, 1] rfl)⟩
 have hm := ie hc6 hm
 refine op_guard rfl hf rfl rfl (hc6) ?_
 refine op_mv hf rfl rfl fun a hf => ?_
 refine op_guard rfl hf rfl rfl (hc6) ?_
 refine op_val (ex_nilCheck hf rfl) rfl hf rfl rfl fun a hf => ?_
 refine op_guard rfl hf rfl rfl (hc6) ?_
 refine op_val (ex_field fa_49_1 hf rfl) rfl hf rfl rfl fun a hf => ?_
 refine op_guard rfl hf rfl rfl (hc6) ?_
 refine op_val (ex_load1 (o := 1) ag_4 (hO.blkSees (i := 3) rfl) rfl hf rfl) rfl hf rfl rfl fun a hf => ?_
 refine op_val (ex_pick_f hf rfl hc6 rfl) rfl hf rfl rfl fun a hf => ?_
 refine op_val (ex_nilCheck hf rfl) rfl hf rfl rfl fun a hf => ?_
 refine op_val (ex_field fa_49_1 hf rfl) rfl hf rfl rfl fun a hf => ?_
 refine op_store1 (i := 3) (o := 1) (v := .bool x_p.f_full) sz_4 rfl rfl rfl rfl hf rfl rfl hO fun w hO => ?_
 refine wpList_nil ?_
 obtain rfl := Option.some.inj hm
 exact post_end Tryz.results21 hf .nil ⟨p3, c4, rfl, (hO.choose [3, 0, 1] rfl)⟩

set_option maxHeartbeats 1000000 in
theorem w_fieldline_Text (x_f : api_Field) (R : Str × Int) (w0 : World) (hG : Glob w0) (hm : fieldline_Text x_f = some R) :
    Calls Tryz.prog 22 #[.agg #[str x_f.Name, str x_f.Value]] w0 fun e w' => e = .returned (.tuple #[str R.1, int R.2]) ∧ Below w0.heap.size w0 w' := by
 rw [fieldline_Text] at hm
 refine calls_enter (vs := [.agg #[str x_f.Name, str x_f.Value]]) Tryz.func22 rfl Tryz.ntmps22 rfl fun a hf => ?_
 have hF : Away [] := away_nil
 have hO : Dk.Own w0 [] w0 [] := Dk.Own.refl w0
 refine wp_seq_k fun _ hK2 => ?_
 refine wp_region_list ?_
 refine op_box (v := .agg #[str x_f.Name, str x_f.Value]) (cs := [str x_f.Name, str x_f.Value]) rfl hf rfl rfl hO fun a b1 w hf hO => ?_
 refine op_as hf rfl rfl fun a hf => ?_
 refine op_as hf rfl rfl fun a hf => ?_
 refine wpList_nil ?_
 refine nor_then (hK2 _ _ ?_)
 refine wp_seq_k fun _ hK8 => ?_
 refine wp_seq_k fun _ hK4 => ?_
 refine wp_region_list ?_
 refine op_val (ex_loadN (o := 0) (vs := [str x_f.Name, str x_f.Value]) ag_44 sz_44 (hO.blkSees (i := 0) rfl) rfl rfl hf rfl) rfl hf rfl rfl fun a hf => ?_
 obtain ⟨r3, hr3, hm⟩ := ob hm
 refine op_enter (ex_call c_27 hf (vs := [.agg #[str x_f.Name, str x_f.Value]]) rfl) rfl hf rfl rfl (w_fieldline_Check x_f r3 _ (hG.own hF hO) hr3) ?_
 rintro e w' ⟨he, hb⟩
 refine ⟨_, he, fun a hf => ?_⟩
 have hO := hO.grow hb
 refine op_as hf rfl rfl fun a hf => ?_
 refine wpList_nil ?_
 refine nor_then (hK4 _ _ ?_)
 refine wp_seq_k fun _ hK5 => ?_
 refine wp_region_list ?_
 refine op_mv hf rfl rfl fun a hf => ?_
 refine op_val (ex_neq (m := r3) (n := 0) hf rfl rfl) rfl hf rfl rfl fun a hf => ?_
 refine wpList_nil ?_
 refine nor_then (hK5 _ _ ?_)
 refine wp_cond_cut hf rfl (fun hc6 => ?_) (fun hc6 => ?_)
 have hm := it hc6 hm
 refine wp_seq_k fun _ hK7 => ?_
 refine wp_region_list ?_
 refine op_mv hf rfl rfl fun a hf => ?_
 refine op_as hf rfl rfl fun a hf => ?_
 refine op_as hf rfl rfl fun a hf => ?_
 refine wpList_nil ?_
 refine nor_then (hK7 _ _ ?_)
 refine wp_ret ?_
 refine ret_then ?_
 obtain rfl := Option.some.inj hm
 exact post_ret Tryz.results22 hf (.tmp rfl (.tmp rfl .nil)) ⟨rfl, hO.below⟩
 have hm := ie hc6 hm
 refine wp_skip ?_
 refine nor_then (hK8 _ _ ?_)
 refine wp_seq_k fun _ hK13 => ?_
 refine wp_seq_k fun _ hK9 => ?_
 refine wp_region_list ?_
 refine op_val (ex_field fa_44_1 hf rfl) rfl hf rfl rfl fun a hf => ?_
 refine op_val (ex_load1 (o := 1) ag_9 (hO.blkSees (i := 0) rfl) rfl hf rfl) rfl hf rfl rfl fun a hf => ?_
 refine op_val (ex_eql_s (l := x_f.Value) (m := []) hf rfl rfl) rfl hf rfl rfl fun a hf => ?_
 refine wpList_nil ?_
 refine nor_then (hK9 _ _ ?_)
 refine wp_cond_cut hf rfl (fun hc10 => ?_) (fun hc10 => ?_)
 have hm := it hc10 hm
 refine wp_seq_k fun _ hK12 => ?_
 refine wp_region_list ?_
 refine op_val (ex_field fa_44_0 hf rfl) rfl hf rfl rfl fun a hf => ?_
 refine op_val (ex_load1 (o := 0) ag_9 (hO.blkSees (i := 0) rfl) rfl hf rfl) rfl hf rfl rfl fun a hf => ?_
 obtain ⟨s11, hs11, hm⟩ := ob hm
 refine op_val (ex_cat (l := x_f.Name) (m := [58]) hf rfl rfl hs11) rfl hf rfl rfl fun a hf => ?_
 refine op_as hf rfl rfl fun a hf => ?_
 refine op_as hf rfl rfl fun a hf => ?_
 refine wpList_nil ?_
 refine nor_then (hK12 _ _ ?_)
 refine wp_ret ?_
 refine ret_then ?_
 obtain rfl := Option.some.inj hm
 exact post_ret Tryz.results22 hf (.tmp rfl (.tmp rfl .nil)) ⟨rfl, hO.below⟩
 have hm := ie hc10 hm
 refine wp_skip ?_
 refine nor_then (hK13 _ _ ?_)
 refine wp_seq_k fun _ hK16 => ?_
 refine wp_region_list ?_
 refine op_val (ex_field fa_44_0 hf rfl) rfl hf rfl rfl fun a hf => ?_
 refine op_val (ex_load1 (o := 0) ag_9 (hO.blkSees (i := 0) rfl) rfl hf rfl) rfl hf rfl rfl fun a hf => ?_
 obtain ⟨s14, hs14, hm⟩ := ob hm
 refine op_val (ex_cat (l := x_f.Name) (m := [58, 32]) hf rfl rfl hs14) rfl hf rfl rfl fun a hf => ?_
 refine op_val (ex_field fa_44_1 hf rfl) rfl hf rfl rfl fun a hf => ?_
 refine op_val (ex_load1 (o := 1) ag_9 (hO.blkSees (i := 0) rfl) rfl hf rfl) rfl hf rfl rfl fun a hf => ?_
 obtain ⟨s15, hs15, hm⟩ := ob hm
 refine op_val (ex_cat (l := s14) (m := x_f.Value) hf rfl rfl hs15) rfl hf rfl rfl fun a hf => ?_
 refine op_as hf rfl rfl fun a hf => ?_
 refine op_as hf rfl rfl fun a hf => ?_
 refine wpList_nil ?_
 refine nor_then (hK16 _ _ ?_)
 refine wp_ret ?_
 obtain rfl := Option.some.inj hm
 exact post_ret Tryz.results22 hf (.tmp rfl (.tmp rfl .nil)) ⟨rfl, hO.below⟩

set_option maxHeartbeats 1000000 in
theorem w_quill_Quill_Text (x_q : quill_Quill) (R : Str) (w0 : World) (hG : Glob w0) {x_q_b0 : Nat} {x_q_p1 : Option Addr} {x_q_c1 : Nat} (hs0 : Sees w0 (some ⟨x_q_b0, 0, none⟩) [.slice x_q_p1 x_q.f_b.length x_q_c1, int x_q.f_most]) (hs1 : Sees w0 x_q_p1 (cells enc_byte x_q.f_b)) (hc1 : x_q.f_b.length ≤ x_q_c1) (hm : quill_Quill_Text x_q = some R) :
    Calls Tryz.prog 23 #[ptr x_q_b0 0] w0 fun e w' => e = .returned (str R) ∧ Below w0.heap.size w0 w' := by
 rw [quill_Quill_Text] at hm
 refine calls_enter (vs := [ptr x_q_b0 0]) Tryz.func23 rfl Tryz.ntmps23 rfl fun a hf => ?_
 have hF : Away [] := away_nil
 have hO : Dk.Own w0 [] w0 [] := Dk.Own.refl w0
 have hO := hO.addShr hs0 (by simp [Res.shared])
 have hO := hO.addShr hs1 (by simp [Res.shared])
 refine wp_seq_k fun _ hK1 => ?_
 refine wp_region_list ?_
 refine op_as hf rfl rfl fun a hf => ?_
 refine wpList_nil ?_
 refine nor_then (hK1 _ _ ?_)
 refine wp_seq_k fun _ hK3 => ?_
 refine wp_seq_k fun _ hK2 => ?_
 refine wp_region_list ?_
 refine op_mv hf rfl rfl fun a hf => ?_
 refine op_val (ex_eql_pn Tryz.underlying46 hf rfl rfl) rfl hf rfl rfl fun a hf => ?_
 refine wpList_nil ?_
 refine nor_then (hK2 _ _ ?_)
 refine wp_cond_f hf rfl rfl ?_
 refine wp_skip ?_
 refine nor_then (hK3 _ _ ?_)
 refine wp_seq_k fun _ hK4 => ?_
 refine wp_region_list ?_
 refine op_mv hf rfl rfl fun a hf => ?_
 refine op_val (ex_nilCheck hf rfl) rfl hf rfl rfl fun a hf => ?_
 refine op_val (ex_field fa_72_0 hf rfl) rfl hf rfl rfl fun a hf => ?_
 refine op_val (ex_load1 (o := 0) ag_66 (hO.sees (i := 1) rfl) rfl hf rfl) rfl hf rfl rfl fun a hf => ?_
 refine op_val (ex_conv_bs (en := enc_byte) (l := x_q.f_b) (fun _ => rfl) Tryz.underlying9 Tryz.underlying66 Tryz.underlying5 (hO.sees (i := 0) rfl) hf rfl) rfl hf rfl rfl fun a hf => ?_
 refine op_as hf rfl rfl fun a hf => ?_
 refine wpList_nil ?_
 refine nor_then (hK4 _ _ ?_)
 refine wp_ret ?_
 obtain rfl := Option.some.inj hm
 exact post_ret Tryz.results23 hf (.tmp rfl .nil) ⟨rfl, hO.below⟩

set_option maxHeartbeats 1000000 in
theorem w_head_Print (x_h : api_Head) (x_limit : Int) (R : Str × Int) (w0 : World) (hG : GlobT w0) {x_h_p0 : Option Addr} {x_h_c0 : Nat} (hs0 : Sees w0 x_h_p0 (cells enc_api_Field x_h.Fields)) (hc0 : x_h.Fields.length ≤ x_h_c0) (hm : head_Print x_h x_limit = some R) :
    Calls Tryz.prog 9 #[.agg #[int x_h.Kind, str x_h.Method, str x_h.Target, int x_h.Code, str x_h.Reason, int x_h.Minor, .slice x_h_p0 x_h.Fields.length x_h_c0], int x_limit] w0 fun e w' => e = .returned (.tuple #[str R.1, int R.2]) ∧ Below w0.heap.size w0 w' := by
 rw [head_Print] at hm
 refine calls_enter (vs := [.agg #[int x_h.Kind, str x_h.Method, str x_h.Target, int x_h.Code, str x_h.Reason, int x_h.Minor, .slice x_h_p0 x_h.Fields.length x_h_c0], int x_limit]) Tryz.func9 rfl Tryz.ntmps9 rfl fun a hf => ?_
 have hF : Away [] := away_nil
 have hO : Dk.Own w0 [] w0 [] := Dk.Own.refl w0
 have hO := hO.addShr hs0 (by simp [Res.shared])
 refine wp_seq_k fun _ hK2 => ?_
 refine wp_region_list ?_
 refine op_box (v := .agg #[int x_h.Kind, str x_h.Method, str x_h.Target, int x_h.Code, str x_h.Reason, int x_h.Minor, .slice x_h_p0 x_h.Fields.length x_h_c0]) (cs := [int x_h.Kind, str x_h.Method, str x_h.Target, int x_h.Code, str x_h.Reason, int x_h.Minor, .slice x_h_p0 x_h.Fields.length x_h_c0]) rfl hf rfl rfl hO fun a b1 w hf hO => ?_
 refine op_as hf rfl rfl fun a hf => ?_
 refine op_as hf rfl rfl fun a hf => ?_
 refine wpList_nil ?_
 refine nor_then (hK2 _ _ ?_)
 refine wp_seq_k fun _ hK8 => ?_
 refine wp_seq_k fun _ hK4 => ?_
 refine wp_region_list ?_
 refine op_val (ex_loadN (o := 0) (vs := [int x_h.Kind, str x_h.Method, str x_h.Target, int x_h.Code, str x_h.Reason, int x_h.Minor, .slice x_h_p0 x_h.Fields.length x_h_c0]) ag_25 sz_25 (hO.blkSees (i := 0) rfl) rfl rfl hf rfl) rfl hf rfl rfl fun a hf => ?_
 obtain ⟨r3, hr3, hm⟩ := ob hm
 refine op_enter (ex_call c_11 hf (vs := [.agg #[int x_h.Kind, str x_h.Method, str x_h.Target, int x_h.Code, str x_h.Reason, int x_h.Minor, .slice x_h_p0 x_h.Fields.length x_h_c0]]) rfl) rfl hf rfl rfl (w_head_Check x_h r3 _ (hG.own hF hO) (hO.sees (i := 1) rfl) hc0 hr3) ?_
 rintro e w' ⟨he, hb⟩
 refine ⟨_, he, fun a hf => ?_⟩
 have hO := hO.grow hb
 refine op_as hf rfl rfl fun a hf => ?_
 refine wpList_nil ?_
 refine nor_then (hK4 _ _ ?_)
 refine wp_seq_k fun _ hK5 => ?_
 refine wp_region_list ?_
 refine op_mv hf rfl rfl fun a hf => ?_
 refine op_val (ex_neq (m := r3) (n := 0) hf rfl rfl) rfl hf rfl rfl fun a hf => ?_
 refine wpList_nil ?_
 refine nor_then (hK5 _ _ ?_)
 refine wp_cond_cut hf rfl (fun hc6 => ?_) (fun hc6 => ?_)
 have hm := it hc6 hm
 refine wp_seq_k fun _ hK7 => ?_
 refine wp_region_list ?_
 refine op_mv hf rfl rfl fun a hf => ?_
 refine op_as hf rfl rfl fun a hf => ?_
 refine op_as hf rfl rfl fun a hf => ?_
 refine wpList_nil ?_
 refine nor_then (hK7 _ _ ?_)
 refine wp_ret ?_
 refine ret_then ?_
 obtain rfl := Option.some.inj hm
 exact post_ret Tryz.results9 hf (.tmp rfl (.tmp rfl .nil)) ⟨rfl, hO.below⟩
 have hm := ie hc6 hm
 refine wp_skip ?_
 refine nor_then (hK8 _ _ ?_)
 refine wp_seq_k fun _ hK14 => ?_
 refine wp_region_list ?_
 refine op_mv hf rfl rfl fun a hf => ?_
 obtain ⟨r9, hr9, hm⟩ := ob hm
 refine op_enter (ex_call c_19 hf (vs := [int x_limit]) rfl) rfl hf rfl rfl (w_quill_New x_limit r9 _ (hG.own hF hO).1 hr9) ?_
 rintro e w' ⟨b10, p11, c12, he, hO'⟩
 refine ⟨_, he, fun a hf => ?_⟩
 have hO := hO.call hO' (by simp [Res.shared])
 refine op_val (ex_build (vs := [(0, ptr b10 0)]) (v := .agg #[ptr b10 0, .bool false]) hf rfl (by kernel_rfl)) rfl hf rfl rfl fun a hf => ?_
 refine op_box (v := .agg #[ptr b10 0, .bool false]) (cs := [ptr b10 0, .bool false]) rfl hf rfl rfl hO fun a b13 w hf hO => ?_
 refine op_as hf rfl rfl fun a hf => ?_
 refine wpList_nil ?_
 refine nor_then (hK14 _ _ ?_)
 refine wp_seq_k fun _ hK16 => ?_
 refine wp_region_list ?_
 refine op_val (ex_loadN (o := 0) (vs := [int x_h.Kind, str x_h.Method, str x_h.Target, int x_h.Code, str x_h.Reason, int x_h.Minor, .slice x_h_p0 x_h.Fields.length x_h_c0]) ag_25 sz_25 (hO.blkSees (i := 3) rfl) rfl rfl hf rfl) rfl hf rfl rfl fun a hf => ?_
 obtain ⟨r15, hr15, hm⟩ := ob hm
 refine op_enter (ex_call c_20 hf (vs := [.agg #[int x_h.Kind, str x_h.Method, str x_h.Target, int x_h.Code, str x_h.Reason, int x_h.Minor, .slice x_h_p0 x_h.Fields.length x_h_c0]]) rfl) rfl hf rfl rfl (w_startline_Text x_h r15 _ (hG.own hF hO) (hO.sees (i := 4) rfl) hc0 hr15) ?_
 rintro e w' ⟨he, hb⟩
 refine ⟨_, he, fun a hf => ?_⟩
 have hO := hO.grow hb
 refine op_mv hf rfl rfl fun a hf => ?_
 refine op_val (ex_extract hf rfl rfl) rfl hf rfl rfl fun a hf => ?_
 refine op_val (ex_extract hf rfl rfl) rfl hf rfl rfl fun a hf => ?_
 refine op_as hf rfl rfl fun a hf => ?_
 refine op_as hf rfl rfl fun a hf => ?_
 refine wpList_nil ?_
 refine nor_then (hK16 _ _ ?_)
 refine wp_seq_k fun _ hK21 => ?_
 refine wp_region_list ?_
 refine op_mv hf rfl rfl fun a hf => ?_
 refine op_mv hf rfl rfl fun a hf => ?_
 obtain ⟨r17, hr17, hm⟩ := ob hm
 have hch20 := (show Dk.Own w0 [] _ ([.blk b13 [ptr b10 0, .bool false] 49, .blk b10 [.slice p11 r9.f_b.length c12, int r9.f_most] 72, .row (.slice p11 r9.f_b.length c12) 5 1 r9.f_b.length (cells enc_byte r9.f_b)] ++ [.blk b1 [int x_h.Kind, str x_h.Method, str x_h.Target, int x_h.Code, str x_h.Reason, int x_h.Minor, .slice x_h_p0 x_h.Fields.length x_h_c0] 25, .shr x_h_p0 (cells enc_api_Field x_h.Fields)]) from hO)
 have hfar20 := Dk.Own.far hch20 rfl hF hG.size
 have hlend20 := hch20.lend (S := []) rfl trivial
 have hcl20 := w_head_printer_line (⟨r9, false⟩ : head_printer) r15.1 r17 _ (hG.own hF hO).1 hfar20 hlend20 hr17
 refine op_enter (ex_call c_21 hf (vs := [ptr b13 0, str r15.1]) rfl) rfl hf rfl rfl (hcl20) ?_
 rintro e w' ⟨p18, c19, he, hO'⟩
 refine ⟨_, he, fun a hf => ?_⟩
 have hO := hch20.back rfl hO' rfl
 refine wpList_nil ?_
 refine nor_then (hK21 _ _ ?_)
 refine wp_seq_cut (fun a w => ∃ (t45 : Bool) (p46 : Option Addr) (c47 : Nat) (l48 : List UInt8) (i49 : Int), Fits 58 [(7, ptr b13 0)] a ∧ Dk.Own w0 [] w [.blk b13 [ptr b10 0, .bool t45] 49, .blk b10 [.slice p46 l48.length c47, int i49] 72, .row (.slice p46 l48.length c47) 5 1 l48.length (cells enc_byte l48), .blk b1 [int x_h.Kind, str x_h.Method, str x_h.Target, int x_h.Code, str x_h.Reason, int x_h.Minor, .slice x_h_p0 x_h.Fields.length x_h_c0] 25, .shr x_h_p0 (cells enc_api_Field x_h.Fields)] ∧ head_Print_j2 t45 l48 i49 = some R) ?_ ?_
 refine wp_seq_k fun _ hK22 => ?_
 refine wp_region_list ?_
 refine op_val (ex_field fa_25_6 hf rfl) rfl hf rfl rfl fun a hf => ?_
 refine op_val (ex_load1 (o := 6) ag_23 (hO.blkSees (i := 3) rfl) rfl hf rfl) rfl hf rfl rfl fun a hf => ?_
 refine op_val (ex_len_l Tryz.underlying23 hf rfl) rfl hf rfl rfl fun a hf => ?_
 refine op_mv hf rfl rfl fun a hf => ?_
 refine wpList_nil ?_
 refine nor_then (hK22 _ _ ?_)
 refine wp_block ?_
 refine wp_loop_n (fun k a w => ∃ (t23 : Bool) (p24 : Option Addr) (c25 : Nat) (l26 : List UInt8) (i27 : Int) (i28 : Int), Fits 58 [(7, ptr b13 0), (32, .slice x_h_p0 x_h.Fields.length x_h_c0), (33, int (x_h.Fields.length : Int)), (34, int i28)] a ∧ Dk.Own w0 [] w [.blk b13 [ptr b10 0, .bool t23] 49, .blk b10 [.slice p24 l26.length c25, int i27] 72, .row (.slice p24 l26.length c25) 5 1 l26.length (cells enc_byte l26), .blk b1 [int x_h.Kind, str x_h.Method, str x_h.Target, int x_h.Code, str x_h.Reason, int x_h.Minor, .slice x_h_p0 x_h.Fields.length x_h_c0] 25, .shr x_h_p0 (cells enc_api_Field x_h.Fields)] ∧ head_Print_L1 x_h k t23 l26 i27 i28 = some R) ?_ fuel ?_
 rintro n1 a w ⟨t23, p24, c25, l26, i27, i28, hf, hO, hm⟩
 obtain _ | n1 := n1
 rw [head_Print_L1] at hm
 cases hm
 rw [head_Print_L1] at hm
 refine wp_seq_k fun _ hK29 => ?_
 refine wp_region_list ?_
 refine op_val (ex_lss (m := i28) (n := (x_h.Fields.length : Int)) hf rfl rfl) rfl hf rfl rfl fun a hf => ?_
 refine wpList_nil ?_
 refine nor_then (hK29 _ _ ?_)
 refine wp_seq_k fun _ hK31 => ?_
 refine wp_cond_cut hf rfl (fun hc30 => ?_) (fun hc30 => ?_)
 have hm := it hc30 hm
 refine wp_skip ?_
 refine nor_then (hK31 _ _ ?_)
 refine wp_seq_k fun _ hK43 => ?_
 refine wp_block ?_
 refine wp_seq_k fun _ hK36 => ?_
 refine wp_region_list ?_
 obtain ⟨x32, hx32, hm⟩ := ob hm
 obtain ⟨b33, o34, hix32, hSx32⟩ := elemAt (enc := enc_api_Field) (sz := 2) (xs := x_h.Fields) 23 Tryz.underlying23 sz_44 (by decide) (fun _ => rfl) (hO.sees (i := 4) rfl) hx32
 refine op_val (ex_indexAddr hix32 hf rfl rfl) rfl hf rfl rfl fun a hf => ?_
 refine op_val (ex_loadN (o := 0) (vs := [str x32.Name, str x32.Value]) ag_44 sz_44 (hSx32 _ (hO.sees (i := 4) rfl)) rfl rfl hf rfl) rfl hf rfl rfl fun a hf => ?_
 refine op_alloc al_44 hf rfl hO fun a b35 w hf hO => ?_
 refine op_storeN (i := 0) (n := 2) sz_44 rfl rfl rfl (by simp [Value.oneCell']) hf rfl rfl hO fun w hO => ?_
 refine wpList_nil ?_
 refine nor_then (hK36 _ _ ?_)
 refine wp_seq_k fun _ hK38 => ?_
 refine wp_region_list ?_
 refine op_val (ex_loadN (o := 0) (vs := [str x32.Name, str x32.Value]) ag_44 sz_44 (hO.blkSees (i := 0) rfl) rfl rfl hf rfl) rfl hf rfl rfl fun a hf => ?_
 obtain ⟨r37, hr37, hm⟩ := ob hm
 refine op_enter (ex_call c_22 hf (vs := [.agg #[str x32.Name, str x32.Value]]) rfl) rfl hf rfl rfl (w_fieldline_Text x32 r37 _ (hG.own hF hO).1 hr37) ?_
 rintro e w' ⟨he, hb⟩
 refine ⟨_, he, fun a hf => ?_⟩
 have hO := hO.grow hb
 refine op_mv hf rfl rfl fun a hf => ?_
 refine op_val (ex_extract hf rfl rfl) rfl hf rfl rfl fun a hf => ?_
 refine op_val (ex_extract hf rfl rfl) rfl hf rfl rfl fun a hf => ?_
 refine op_as hf rfl rfl fun a hf => ?_
 refine op_as hf rfl rfl fun a hf => ?_
 refine wpList_nil ?_
 refine nor_then (hK38 _ _ ?_)
 refine wp_region_list ?_
 refine op_mv hf rfl rfl fun a hf => ?_
 refine op_mv hf rfl rfl fun a hf => ?_
 obtain ⟨r39, hr39, hm⟩ := ob hm
 have hch42 := (show Dk.Own w0 [] _ ([.blk b13 [ptr b10 0, .bool t23] 49, .blk b10 [.slice p24 l26.length c25, int i27] 72, .row (.slice p24 l26.length c25) 5 1 l26.length (cells enc_byte l26)] ++ [.blk b35 [str x32.Name, str x32.Value] 44, .blk b1 [int x_h.Kind, str x_h.Method, str x_h.Target, int x_h.Code, str x_h.Reason, int x_h.Minor, .slice x_h_p0 x_h.Fields.length x_h_c0] 25, .shr x_h_p0 (cells enc_api_Field x_h.Fields)]) from hO.choose [1, 2, 3, 0, 4, 5] rfl)
 have hfar42 := Dk.Own.far hch42 rfl hF hG.size
 have hlend42 := hch42.lend (S := []) rfl trivial
 have hcl42 := w_head_printer_line ((⟨(⟨l26, i27⟩ : quill_Quill), t23⟩ : head_printer)) r37.1 r39 _ (hG.own hF hO).1 hfar42 hlend42 hr39
 refine op_enter (ex_call c_21 hf (vs := [ptr b13 0, str r37.1]) rfl) rfl hf rfl rfl (hcl42) ?_
 rintro e w' ⟨p40, c41, he, hO'⟩
 refine ⟨_, he, fun a hf => ?_⟩
 have hO := hch42.back rfl hO' rfl
 refine wpList_nil ?_
 refine nor_block ?_
 refine nor_then (hK43 _ _ ?_)
 refine wp_region_list ?_
 obtain ⟨i44, hi44, hm⟩ := ob hm
 refine op_val (ex_add hf rfl rfl hi44) rfl hf rfl rfl fun a hf => ?_
 refine op_mv hf rfl rfl fun a hf => ?_
 refine wpList_nil ?_
 refine nor_then ?_
 exact ⟨_, Nat.lt_succ_self _, r39.f_full, p40, c41, r39.Quill.f_b, r39.Quill.f_most, i44, (hf.cons rfl (hf.cons rfl (hf.cons rfl (hf.cons rfl hf.nil)))), (hO.sub (.cons_cons _ (.cons_cons _ (.cons_cons _ (.cons _ (.cons_cons _ (.cons_cons _ .slnil))))))), hm⟩
 have hm := ie hc30 hm
 refine wp_exit ?_
 refine exit_then ?_
 refine exit_then ?_
 refine exit_here ?_
 refine nor_then ?_
 exact ⟨t23, p24, c25, l26, i27, (hf.cons rfl hf.nil), hO, hm⟩
 exact ⟨r17.f_full, p18, c19, r17.Quill.f_b, r17.Quill.f_most, 0, (hf.cons rfl (hf.cons rfl (hf.cons rfl (hf.cons rfl hf.nil)))), hO, hm⟩
 rintro a w ⟨t45, p46, c47, l48, i49, hf, hO, hm⟩
 rw [head_Print_j2] at hm
 refine wp_seq_k fun _ hK54 => ?_
 refine wp_region_list ?_
 refine op_mv hf rfl rfl fun a hf => ?_
 obtain ⟨r50, hr50, hm⟩ := ob hm
 have hch53 := (show Dk.Own w0 [] _ ([.blk b13 [ptr b10 0, .bool t45] 49, .blk b10 [.slice p46 l48.length c47, int i49] 72, .row (.slice p46 l48.length c47) 5 1 l48.length (cells enc_byte l48)] ++ [.blk b1 [int x_h.Kind, str x_h.Method, str x_h.Target, int x_h.Code, str x_h.Reason, int x_h.Minor, .slice x_h_p0 x_h.Fields.length x_h_c0] 25, .shr x_h_p0 (cells enc_api_Field x_h.Fields)]) from hO)
 have hfar53 := Dk.Own.far hch53 rfl hF hG.size
 have hlend53 := hch53.lend (S := []) rfl trivial
 have hcl53 := w_head_printer_line ((⟨(⟨l48, i49⟩ : quill_Quill), t45⟩ : head_printer)) [] r50 _ (hG.own hF hO).1 hfar53 hlend53 hr50
 refine op_enter (ex_call c_21 hf (vs := [ptr b13 0, str []]) rfl) rfl hf rfl rfl (hcl53) ?_
 rintro e w' ⟨p51, c52, he, hO'⟩
 refine ⟨_, he, fun a hf => ?_⟩
 have hO := hch53.back rfl hO' rfl
 refine wpList_nil ?_
 refine nor_then (hK54 _ _ ?_)
 refine wp_seq_k fun _ hK58 => ?_
 refine wp_seq_k fun _ hK55 => ?_
 refine wp_region_list ?_
 refine op_mv hf rfl rfl fun a hf => ?_
 refine op_val (ex_nilCheck hf rfl) rfl hf rfl rfl fun a hf => ?_
 refine op_val (ex_field fa_49_1 hf rfl) rfl hf rfl rfl fun a hf => ?_
 refine op_val (ex_load1 (o := 1) ag_4 (hO.blkSees (i := 0) rfl) rfl hf rfl) rfl hf rfl rfl fun a hf => ?_
 refine wpList_nil ?_
 refine nor_then (hK55 _ _ ?_)
 refine wp_cond_cut hf rfl (fun hc56 => ?_) (fun hc56 => ?_)
 have hm := it hc56 hm
 refine wp_seq_k fun _ hK57 => ?_
 refine wp_region_list ?_
 refine op_as hf rfl rfl fun a hf => ?_
 refine op_as hf rfl rfl fun a hf => ?_
 refine wpList_nil ?_
 refine nor_then (hK57 _ _ ?_)
 refine wp_ret ?_
 refine ret_then ?_
 obtain rfl := Option.some.inj hm
 exact post_ret Tryz.results9 hf (.tmp rfl (.tmp rfl .nil)) ⟨rfl, hO.below⟩
 have hm := ie hc56 hm
 refine wp_skip ?_
 refine nor_then (hK58 _ _ ?_)
 refine wp_seq_k fun _ hK60 => ?_
 refine wp_region_list ?_
 refine op_mv hf rfl rfl fun a hf => ?_
 refine op_val (ex_nilCheck hf rfl) rfl hf rfl rfl fun a hf => ?_
 refine op_val (ex_field fa_49_0 hf rfl) rfl hf rfl rfl fun a hf => ?_
 refine op_val (ex_load1 (o := 0) ag_46 (hO.blkSees (i := 0) rfl) rfl hf rfl) rfl hf rfl rfl fun a hf => ?_
 obtain ⟨r59, hr59, hm⟩ := ob hm
 refine op_enter (ex_call c_23 hf (vs := [ptr b10 0]) rfl) rfl hf rfl rfl (w_quill_Quill_Text r50.Quill r59 _ (hG.own hF hO).1 (hO.blkSees (i := 1) rfl) (hO.rowSees (i := 2) rfl) (hO.rowCap (i := 2) rfl) hr59) ?_
 rintro e w' ⟨he, hb⟩
 refine ⟨_, he, fun a hf => ?_⟩
 have hO := hO.grow hb
 refine op_as hf rfl rfl fun a hf => ?_
 refine op_as hf rfl rfl fun a hf => ?_
 refine wpList_nil ?_
 refine nor_then (hK60 _ _ ?_)
 refine wp_ret ?_
 obtain rfl := Option.some.inj hm
 exact post_ret Tryz.results9 hf (.tmp rfl (.tmp rfl .nil)) ⟨rfl, hO.below⟩

set_option maxHeartbeats 1000000 in
theorem w_law15_awake (R : Bool) (w0 : World) (hG : GlobT w0) (hm : law15_awake = some R) :
    Calls Tryz.prog 7 #[] w0 fun e w' => e = .returned (.bool R) ∧ Below w0.heap.size w0 w' := by
 rw [law15_awake] at hm
 refine calls_enter (vs := []) Tryz.func7 rfl Tryz.ntmps7 rfl fun a hf => ?_
 have hF : Away [] := away_nil
 have hO : Dk.Own w0 [] w0 [] := Dk.Own.refl w0
 refine wp_seq_k fun _ hK1 => ?_
 refine wp_region_list ?_
 refine op_as hf rfl rfl fun a hf => ?_
 refine wpList_nil ?_
 refine nor_then (hK1 _ _ ?_)
 refine wp_seq_k fun _ hK6 => ?_
 refine wp_region_list ?_
 obtain ⟨r2, hr2, hm⟩ := ob hm
 refine op_enter (ex_call c_13 hf (vs := [int 1, str [71, 69, 84, 32, 47, 32, 72, 84, 84, 80, 47, 49, 46, 49, 13, 10, 72, 111, 115, 116, 58, 97, 32, 13, 10, 13, 10], int 99]) rfl) rfl hf rfl rfl (w_head_Parse 1 [71, 69, 84, 32, 47, 32, 72, 84, 84, 80, 47, 49, 46, 49, 13, 10, 72, 111, 115, 116, 58, 97, 32, 13, 10, 13, 10] 99 r2 _ (hG.own hF hO) hr2) ?_
 rintro e w' ⟨p3, c4, he, hO'⟩
 refine ⟨_, he, fun a hf => ?_⟩
 have hO := hO.call hO' (by simp [Res.shared])
 refine op_mv hf rfl rfl fun a hf => ?_
 refine op_val (ex_extract hf rfl rfl) rfl hf rfl rfl fun a hf => ?_
 refine op_val (ex_extract hf rfl rfl) rfl hf rfl rfl fun a hf => ?_
 refine op_alloc al_25 hf rfl hO fun a b5 w hf hO => ?_
 have hO := hO.nilRow 44 2
 refine op_storeN (i := 1) (n := 7) sz_25 rfl rfl rfl (by simp [Value.oneCell']) hf rfl rfl hO fun w hO => ?_
 refine op_as hf rfl rfl fun a hf => ?_
 refine wpList_nil ?_
 refine nor_then (hK6 _ _ ?_)
 refine wp_seq_k fun _ hK8 => ?_
 refine wp_region_list ?_
 refine op_val (ex_loadN (o := 0) (vs := [int r2.1.Kind, str r2.1.Method, str r2.1.Target, int r2.1.Code, str r2.1.Reason, int r2.1.Minor, .slice p3 r2.1.Fields.length c4]) ag_25 sz_25 (hO.blkSees (i := 1) rfl) rfl rfl hf rfl) rfl hf rfl rfl fun a hf => ?_
 obtain ⟨r7, hr7, hm⟩ := ob hm
 refine op_enter (ex_call c_9 hf (vs := [.agg #[int r2.1.Kind, str r2.1.Method, str r2.1.Target, int r2.1.Code, str r2.1.Reason, int r2.1.Minor, .slice p3 r2.1.Fields.length c4], int 99]) rfl) rfl hf rfl rfl (w_head_Print r2.1 99 r7 _ (hG.own hF hO) (hO.rowSees (i := 2) rfl) (hO.rowCap (i := 2) rfl) hr7) ?_
 rintro e w' ⟨he, hb⟩
 refine ⟨_, he, fun a hf => ?_⟩
 have hO := hO.grow hb
 refine op_mv hf rfl rfl fun a hf => ?_
 refine op_val (ex_extract hf rfl rfl) rfl hf rfl rfl fun a hf => ?_
 refine op_val (ex_extract hf rfl rfl) rfl hf rfl rfl fun a hf => ?_
 refine op_as hf rfl rfl fun a hf => ?_
 refine op_as hf rfl rfl fun a hf => ?_
 refine wpList_nil ?_
 refine nor_then (hK8 _ _ ?_)
 refine wp_seq_cut (fun a w => ∃ (t11 : Bool), Fits 24 [(0, .bool t11)] a ∧ Dk.Own w0 [] w [.row (.slice none 0 0) 44 2 0 (cells enc_api_Field []), .blk b5 [int r2.1.Kind, str r2.1.Method, str r2.1.Target, int r2.1.Code, str r2.1.Reason, int r2.1.Minor, .slice p3 r2.1.Fields.length c4] 25, .row (.slice p3 r2.1.Fields.length c4) 44 2 r2.1.Fields.length (cells enc_api_Field r2.1.Fields)] ∧ law15_awake_j1 t11 = some R) ?_ ?_
 refine wp_region_list ?_
 refine op_mv hf rfl rfl fun a hf => ?_
 refine op_val (ex_eql (m := r2.2) (n := 0) hf rfl rfl) rfl hf rfl rfl fun a hf => ?_
 refine op_mv hf rfl rfl fun a hf => ?_
 rcases bcase (r2.2 == 0) with hc9 | hc9
 have hm := it hc9 hm
 refine op_guard rfl hf rfl rfl (hc9) ?_
 refine op_mv hf rfl rfl fun a hf => ?_
 refine op_guard rfl hf rfl rfl (hc9) ?_
 refine op_val (ex_eql (m := r7.2) (n := 0) hf rfl rfl) rfl hf rfl rfl fun a hf => ?_
 refine op_val (ex_pick_t hf rfl hc9 rfl) rfl hf rfl rfl fun a hf => ?_
 refine op_mv hf rfl rfl fun a hf => ?_
 rcases bcase (r7.2 == 0) with hc10 | hc10
 have hm := it hc10 hm
 refine op_guard rfl hf rfl rfl (hc10) ?_
 refine op_mv hf rfl rfl fun a hf => ?_
 refine op_guard rfl hf rfl rfl (hc10) ?_
 refine op_val (ex_eql_s (l := r7.1) (m := [71, 69, 84, 32, 47, 32, 72, 84, 84, 80, 47, 49, 46, 49, 13, 10, 72, 111, 115, 116, 58, 32, 97, 13, 10, 13, 10]) hf rfl rfl) rfl hf rfl rfl fun a hf => ?_
 refine op_val (ex_pick_t hf rfl hc10 rfl) rfl hf rfl rfl fun a hf => ?_
 refine op_as hf rfl rfl fun a hf => ?_
 refine wpList_nil ?_
 refine nor_then ?_
 exact ⟨r7.1 == [71, 69, 84, 32, 47, 32, 72, 84, 84, 80, 47, 49, 46, 49, 13, 10, 72, 111, 115, 116, 58, 32, 97, 13, 10, 13, 10], (hf.cons rfl hf.nil), hO, hm⟩
 have hm := ie hc10 hm
 refine op_pass rfl hf rfl rfl (hc10) rfl rfl fun a hf => ?_
 refine op_pass rfl hf rfl rfl (hc10) rfl rfl fun a hf => ?_
 refine op_val (ex_pick_f hf rfl hc10 rfl) rfl hf rfl rfl fun a hf => ?_
 refine op_as hf rfl rfl fun a hf => ?_
 refine wpList_nil ?_
 refine nor_then ?_
 exact ⟨false, (hf.cons rfl hf.nil), hO, hm⟩
 have hm := ie hc9 hm
 refine op_pass rfl hf rfl rfl (hc9) rfl rfl fun a hf => ?_
 refine op_pass rfl hf rfl rfl (hc9) rfl rfl fun a hf => ?_
 refine op_val (ex_pick_f hf rfl hc9 rfl) rfl hf rfl rfl fun a hf => ?_
 refine op_mv hf rfl rfl fun a hf => ?_
 refine op_pass rfl hf rfl rfl (rfl) rfl rfl fun a hf => ?_
 refine op_pass rfl hf rfl rfl (rfl) rfl rfl fun a hf => ?_
 refine op_val (ex_pick_f hf rfl rfl rfl) rfl hf rfl rfl fun a hf => ?_
 refine op_as hf rfl rfl fun a hf => ?_
 refine wpList_nil ?_
 refine nor_then ?_
 exact ⟨false, (hf.cons rfl hf.nil), hO, hm⟩
 rintro a w ⟨t11, hf, hO, hm⟩
 rw [law15_awake_j1] at hm
 refine wp_ret ?_
 obtain rfl := Option.some.inj hm
 exact post_ret Tryz.results7 hf (.tmp rfl .nil) ⟨rfl, hO.below⟩

end Go.Proofs
