/-
  Walks, written by a program (wip/gen): what its model says, the function returns; what was there before is as it was.
-/
import Derived.Test.YtnfkbhocbdheaabGreatDoorLib
import Derived.Test.YtnfkbhocbdheaabGreatDoorW0
import Derived.Test.YtnfkbhocbdheaabGreatDoorW1
import Derived.Test.YtnfkbhocbdheaabGreatDoorW4
import Derived.Test.YtnfkbhocbdheaabGreatDoorW7
set_option linter.unusedVariables false
set_option linter.unusedSimpArgs false
set_option maxRecDepth 100000
namespace Go.Proofs
open Go.Dk Go.Dm Go.RowKit

set_option maxHeartbeats 1000000 in
theorem w_commas_splitter_end (x_p : commas_splitter) (x_at : Int) (R : commas_splitter) (w0 : World) (hG : Glob w0) {x_p_b0 : Nat} {x_p_b1 : Nat} {x_p_p2 : Option Addr} {x_p_c2 : Nat} {F : List Nat} (hF : Away F) (hO : Dk.Own w0 F w0 [.blk x_p_b0 [ptr x_p_b1 0, .slice x_p_p2 x_p.f_out.length x_p_c2, int x_p.f_from, str x_p.f_s] 134, .blk x_p_b1 [str x_p.Scanner.f_s, int x_p.Scanner.f_at] 151, .row (.slice x_p_p2 x_p.f_out.length x_p_c2) 9 1 x_p.f_out.length (cells enc_str x_p.f_out)]) (hm : commas_splitter_end x_p x_at = some R) :
    Calls Tryz.prog 97 #[ptr x_p_b0 0, int x_at] w0 fun e w' => ∃ (p0 : Option Addr) (c0 : Nat), e = .returned (.tuple #[]) ∧ Dk.Own w0 F w' [.blk x_p_b0 [ptr x_p_b1 0, .slice p0 R.f_out.length c0, int R.f_from, str R.f_s] 134, .blk x_p_b1 [str R.Scanner.f_s, int R.Scanner.f_at] 151, .row (.slice p0 R.f_out.length c0) 9 1 R.f_out.length (cells enc_str R.f_out)] := by
 rw [commas_splitter_end] at hm
 refine calls_enter (vs := [ptr x_p_b0 0, int x_at]) Tryz.func97 rfl Tryz.ntmps97 rfl fun a hf => ?_
 refine wp_seq_cut (fun a w => ∃ (p10 : Option Addr) (c11 : Nat) (l12 : List Str), Fits 36 [(0, ptr x_p_b0 0)] a ∧ Dk.Own w0 F w [.blk x_p_b0 [ptr x_p_b1 0, .slice p10 l12.length c11, int x_p.f_from, str x_p.f_s] 134, .blk x_p_b1 [str x_p.Scanner.f_s, int x_p.Scanner.f_at] 151, .row (.slice p10 l12.length c11) 9 1 l12.length (cells enc_str l12)] ∧ commas_splitter_end_j1 x_p l12 = some R) ?_ ?_
 refine wp_seq_k fun _ hK3 => ?_
 refine wp_quiet (by kernel_rfl) (by kernel_rfl) hO ?_
 refine q_val (fun w hO => ex_move hf rfl) rfl hf rfl rfl fun a hf => ?_
 refine q_val (fun w hO => ex_nilCheck hf rfl) rfl hf rfl rfl fun a hf => ?_
 refine q_val (fun w hO => ex_field fa_134_3 hf rfl) rfl hf rfl rfl fun a hf => ?_
 refine q_val (fun w hO => ex_load1 (o := 3) ag_9 (hO.blkSees (i := 0) rfl) rfl hf rfl) rfl hf rfl rfl fun a hf => ?_
 refine q_val (fun w hO => ex_move hf rfl) rfl hf rfl rfl fun a hf => ?_
 refine q_val (fun w hO => ex_nilCheck hf rfl) rfl hf rfl rfl fun a hf => ?_
 refine q_val (fun w hO => ex_field fa_134_2 hf rfl) rfl hf rfl rfl fun a hf => ?_
 refine q_val (fun w hO => ex_load1 (o := 2) ag_3 (hO.blkSees (i := 0) rfl) rfl hf rfl) rfl hf rfl rfl fun a hf => ?_
 refine q_val (fun w hO => ex_move hf rfl) rfl hf rfl rfl fun a hf => ?_
 obtain ⟨s1, hs1, hm⟩ := ob hm
 refine q_val (fun w hO => ex_sub_s (l := x_p.f_s) Tryz.underlying9 hf rfl rfl rfl hs1) rfl hf rfl rfl fun a hf => ?_
 obtain ⟨r2, hr2, hm⟩ := ob hm
 refine q_call (fun w hO => ex_call c_112 hf (vs := [str s1, str [32, 9]]) rfl) rfl hf rfl rfl (fun w hO => (w_strings_Trim s1 [32, 9] r2 _ (hG.own hF hO) hr2).mono fun e w' ⟨he, hb⟩ => ⟨he, hO.grow hb⟩) fun a hf => ?_
 refine q_val (fun w hO => ex_assign hf rfl) rfl hf rfl rfl fun a hf => ?_
 refine wpQuiet_nil ?_
 intro w hO
 refine nor_then (hK3 _ _ ?_)
 refine wp_seq_k fun _ hK4 => ?_
 refine wp_region_list ?_
 refine op_mv hf rfl rfl fun a hf => ?_
 refine op_val (ex_neq_s (l := r2) (m := []) hf rfl rfl) rfl hf rfl rfl fun a hf => ?_
 refine wpList_nil ?_
 refine nor_then (hK4 _ _ ?_)
 refine wp_cond_cut hf rfl (fun hc5 => ?_) (fun hc5 => ?_)
 have hm := it hc5 hm
 refine wp_region_list ?_
 refine op_mv hf rfl rfl fun a hf => ?_
 refine op_mv hf rfl rfl fun a hf => ?_
 refine op_val (ex_nilCheck hf rfl) rfl hf rfl rfl fun a hf => ?_
 refine op_val (ex_field fa_134_1 hf rfl) rfl hf rfl rfl fun a hf => ?_
 refine op_val (ex_load1 (o := 1) ag_40 (hO.blkSees (i := 0) rfl) rfl hf rfl) rfl hf rfl rfl fun a hf => ?_
 refine op_mv hf rfl rfl fun a hf => ?_
 refine op_buildSlice (vs := [(0, str r2)]) (cs := [str r2]) (e := 9) (sz := 1) hf rfl rfl (fun w => by kernel_rfl) rfl rfl hO fun a b6 w hf hO => ?_
 obtain ⟨hg9, hm⟩ := og hm
 refine op_appendT el_40 (enc := enc_str) (xs := x_p.f_out) (ys := [r2]) (i := 3) (fun _ => rfl) rfl (hO.rowSees (i := 0) rfl) (by simp [cells, enc_str, Value.oneCell']) hg9 hf rfl rfl rfl hO fun a p7 c8 w hf hO => ?_
 refine op_val (ex_nilCheck hf rfl) rfl hf rfl rfl fun a hf => ?_
 refine op_val (ex_field fa_134_1 hf rfl) rfl hf rfl rfl fun a hf => ?_
 refine op_store1 (i := 1) (o := 1) (v := .slice p7 ((x_p.f_out ++ [r2]).length) c8) sz_40 rfl rfl rfl rfl hf rfl rfl hO fun w hO => ?_
 refine wpList_nil ?_
 refine nor_then ?_
 exact ⟨p7, c8, x_p.f_out ++ [r2], (hf.cons rfl hf.nil), (hO.sub (.cons _ (.cons_cons _ (.cons_cons _ (.cons_cons _ .slnil))))), hm⟩
 have hm := ie hc5 hm
 refine wp_skip ?_
 refine nor_then ?_
 exact ⟨x_p_p2, x_p_c2, x_p.f_out, (hf.cons rfl hf.nil), hO, hm⟩
 rintro a w ⟨p10, c11, l12, hf, hO, hm⟩
 rw [commas_splitter_end_j1] at hm
 refine wp_region_list ?_
 refine op_mv hf rfl rfl fun a hf => ?_
 refine op_mv hf rfl rfl fun a hf => ?_
 refine op_val (ex_nilCheck hf rfl) rfl hf rfl rfl fun a hf => ?_
 refine op_val (ex_field fa_134_0 hf rfl) rfl hf rfl rfl fun a hf => ?_
 refine op_val (ex_load1 (o := 0) ag_105 (hO.blkSees (i := 0) rfl) rfl hf rfl) rfl hf rfl rfl fun a hf => ?_
 obtain ⟨r13, hr13, hm⟩ := ob hm
 refine op_enter (ex_call c_126 hf (vs := [ptr x_p_b1 0]) rfl) rfl hf rfl rfl (w_scan_Scanner_At x_p.Scanner r13 _ (hG.own hF hO) (hO.blkSees (i := 1) rfl) hr13) ?_
 rintro e w' ⟨he, hb⟩
 refine ⟨_, he, fun a hf => ?_⟩
 have hO := hO.grow hb
 refine op_val (ex_nilCheck hf rfl) rfl hf rfl rfl fun a hf => ?_
 refine op_val (ex_field fa_134_2 hf rfl) rfl hf rfl rfl fun a hf => ?_
 refine op_store1 (i := 0) (o := 2) (v := int r13) sz_3 rfl rfl rfl rfl hf rfl rfl hO fun w hO => ?_
 refine wpList_nil ?_
 obtain rfl := Option.some.inj hm
 exact post_end Tryz.results97 hf .nil ⟨p10, c11, rfl, hO⟩

set_option maxHeartbeats 1000000 in
theorem w_commas_splitter_comment (x_p : commas_splitter) (R : Bool × commas_splitter) (w0 : World) (hG : Glob w0) {x_p_b0 : Nat} {x_p_b1 : Nat} {x_p_p2 : Option Addr} {x_p_c2 : Nat} {F : List Nat} (hF : Away F) (hO : Dk.Own w0 F w0 [.blk x_p_b0 [ptr x_p_b1 0, .slice x_p_p2 x_p.f_out.length x_p_c2, int x_p.f_from, str x_p.f_s] 134, .blk x_p_b1 [str x_p.Scanner.f_s, int x_p.Scanner.f_at] 151, .row (.slice x_p_p2 x_p.f_out.length x_p_c2) 9 1 x_p.f_out.length (cells enc_str x_p.f_out)]) (hm : commas_splitter_comment x_p = some R) :
    Calls Tryz.prog 145 #[ptr x_p_b0 0] w0 fun e w' => ∃ (p0 : Option Addr) (c0 : Nat), e = .returned (.bool R.1) ∧ Dk.Own w0 F w' [.blk x_p_b0 [ptr x_p_b1 0, .slice p0 R.2.f_out.length c0, int R.2.f_from, str R.2.f_s] 134, .blk x_p_b1 [str R.2.Scanner.f_s, int R.2.Scanner.f_at] 151, .row (.slice p0 R.2.f_out.length c0) 9 1 R.2.f_out.length (cells enc_str R.2.f_out)] := by
 rw [commas_splitter_comment] at hm
 refine calls_enter (vs := [ptr x_p_b0 0]) Tryz.func145 rfl Tryz.ntmps145 rfl fun a hf => ?_
 refine wp_seq_k fun _ hK1 => ?_
 refine wp_region_list ?_
 refine op_as hf rfl rfl fun a hf => ?_
 refine wpList_nil ?_
 refine nor_then (hK1 _ _ ?_)
 refine wp_seq_cut (fun a w => ∃ (s31 : Str) (i32 : Int), Fits 52 [] a ∧ Dk.Own w0 F w [.blk x_p_b0 [ptr x_p_b1 0, .slice x_p_p2 x_p.f_out.length x_p_c2, int x_p.f_from, str x_p.f_s] 134, .blk x_p_b1 [str s31, int i32] 151, .row (.slice x_p_p2 x_p.f_out.length x_p_c2) 9 1 x_p.f_out.length (cells enc_str x_p.f_out)] ∧ commas_splitter_comment_j2 x_p s31 i32 = some R) ?_ ?_
 refine wp_seq_k fun _ hK2 => ?_
 refine wp_region_list ?_
 refine op_as hf rfl rfl fun a hf => ?_
 refine wpList_nil ?_
 refine nor_then (hK2 _ _ ?_)
 refine wp_block ?_
 refine wp_loop_n (fun k a w => ∃ (s3 : Str) (i4 : Int) (i5 : Int), Fits 52 [(0, ptr x_p_b0 0), (3, int i5)] a ∧ Dk.Own w0 F w [.blk x_p_b0 [ptr x_p_b1 0, .slice x_p_p2 x_p.f_out.length x_p_c2, int x_p.f_from, str x_p.f_s] 134, .blk x_p_b1 [str s3, int i4] 151, .row (.slice x_p_p2 x_p.f_out.length x_p_c2) 9 1 x_p.f_out.length (cells enc_str x_p.f_out)] ∧ commas_splitter_comment_L1 x_p k s3 i4 i5 = some R) ?_ fuel ?_
 rintro n1 a w ⟨s3, i4, i5, hf, hO, hm⟩
 obtain _ | n1 := n1
 rw [commas_splitter_comment_L1] at hm
 cases hm
 rw [commas_splitter_comment_L1] at hm
 refine wp_seq_k fun _ hK8 => ?_
 refine wp_seq_k fun _ hK6 => ?_
 refine wp_region_list ?_
 refine op_mv hf rfl rfl fun a hf => ?_
 refine op_val (ex_gtr (m := i5) (n := 0) hf rfl rfl) rfl hf rfl rfl fun a hf => ?_
 refine wpList_nil ?_
 refine nor_then (hK6 _ _ ?_)
 refine wp_cond_cut hf rfl (fun hc7 => ?_) (fun hc7 => ?_)
 have hm := it hc7 hm
 refine wp_skip ?_
 refine nor_then (hK8 _ _ ?_)
 refine wp_block ?_
 refine wp_seq_k fun _ hK10 => ?_
 refine wp_region_list ?_
 refine op_mv hf rfl rfl fun a hf => ?_
 refine op_val (ex_nilCheck hf rfl) rfl hf rfl rfl fun a hf => ?_
 refine op_val (ex_field fa_134_0 hf rfl) rfl hf rfl rfl fun a hf => ?_
 refine op_val (ex_load1 (o := 0) ag_105 (hO.blkSees (i := 0) rfl) rfl hf rfl) rfl hf rfl rfl fun a hf => ?_
 obtain ⟨r9, hr9, hm⟩ := ob hm
 refine op_enter (ex_call c_125 hf (vs := [ptr x_p_b1 0]) rfl) rfl hf rfl rfl (w_scan_Scanner_Peek (⟨s3, i4⟩ : scan_Scanner) r9 _ (hG.own hF hO) (hO.blkSees (i := 1) rfl) hr9) ?_
 rintro e w' ⟨he, hb⟩
 refine ⟨_, he, fun a hf => ?_⟩
 have hO := hO.grow hb
 refine op_mv hf rfl rfl fun a hf => ?_
 refine op_val (ex_extract hf rfl rfl) rfl hf rfl rfl fun a hf => ?_
 refine op_val (ex_extract hf rfl rfl) rfl hf rfl rfl fun a hf => ?_
 refine op_as hf rfl rfl fun a hf => ?_
 refine op_as hf rfl rfl fun a hf => ?_
 refine wpList_nil ?_
 refine nor_then (hK10 _ _ ?_)
 refine wp_seq_k fun _ hK14 => ?_
 refine wp_seq_k fun _ hK11 => ?_
 refine wp_region_list ?_
 refine op_mv hf rfl rfl fun a hf => ?_
 refine op_val (ex_not hf rfl) rfl hf rfl rfl fun a hf => ?_
 refine wpList_nil ?_
 refine nor_then (hK11 _ _ ?_)
 refine wp_cond_cut hf rfl (fun hc12 => ?_) (fun hc12 => ?_)
 have hm := it hc12 hm
 refine wp_seq_k fun _ hK13 => ?_
 refine wp_region_list ?_
 refine op_as hf rfl rfl fun a hf => ?_
 refine wpList_nil ?_
 refine nor_then (hK13 _ _ ?_)
 refine wp_ret ?_
 refine ret_then ?_
 refine ret_block ?_
 refine ret_then ?_
 refine ret_block ?_
 refine ret_then ?_
 obtain rfl := Option.some.inj hm
 exact post_ret Tryz.results145 hf (.tmp rfl .nil) ⟨x_p_p2, x_p_c2, rfl, hO⟩
 have hm := ie hc12 hm
 refine wp_skip ?_
 refine nor_then (hK14 _ _ ?_)
 refine wp_seq_k fun _ hK16 => ?_
 refine wp_region_list ?_
 refine op_mv hf rfl rfl fun a hf => ?_
 refine op_val (ex_nilCheck hf rfl) rfl hf rfl rfl fun a hf => ?_
 refine op_val (ex_field fa_134_0 hf rfl) rfl hf rfl rfl fun a hf => ?_
 refine op_val (ex_load1 (o := 0) ag_105 (hO.blkSees (i := 0) rfl) rfl hf rfl) rfl hf rfl rfl fun a hf => ?_
 refine op_mv hf rfl rfl fun a hf => ?_
 obtain ⟨r15, hr15, hm⟩ := ob hm
 refine op_enter (ex_call c_70 hf (vs := [ptr x_p_b1 0, byte r9.1]) rfl) rfl hf rfl rfl (w_scan_Scanner_Byte (⟨s3, i4⟩ : scan_Scanner) r9.1 r15 _ (hG.own hF hO) (Dk.Own.far (show Dk.Own w0 F _ ([.blk x_p_b1 [str s3, int i4] 151] ++ [.blk x_p_b0 [ptr x_p_b1 0, .slice x_p_p2 x_p.f_out.length x_p_c2, int x_p.f_from, str x_p.f_s] 134, .row (.slice x_p_p2 x_p.f_out.length x_p_c2) 9 1 x_p.f_out.length (cells enc_str x_p.f_out)]) from hO.choose [1, 0, 2] rfl) rfl hF hG.size) ((show Dk.Own w0 F _ ([.blk x_p_b1 [str s3, int i4] 151] ++ [.blk x_p_b0 [ptr x_p_b1 0, .slice x_p_p2 x_p.f_out.length x_p_c2, int x_p.f_from, str x_p.f_s] 134, .row (.slice x_p_p2 x_p.f_out.length x_p_c2) 9 1 x_p.f_out.length (cells enc_str x_p.f_out)]) from hO.choose [1, 0, 2] rfl).lend rfl trivial) hr15) ?_
 rintro e w' ⟨he, hO'⟩
 refine ⟨_, he, fun a hf => ?_⟩
 have hO := (show Dk.Own w0 F _ ([.blk x_p_b1 [str s3, int i4] 151] ++ [.blk x_p_b0 [ptr x_p_b1 0, .slice x_p_p2 x_p.f_out.length x_p_c2, int x_p.f_from, str x_p.f_s] 134, .row (.slice x_p_p2 x_p.f_out.length x_p_c2) 9 1 x_p.f_out.length (cells enc_str x_p.f_out)]) from hO.choose [1, 0, 2] rfl).back rfl hO' rfl
 refine wpList_nil ?_
 refine nor_then (hK16 _ _ ?_)
 refine wp_seq_k fun _ hK17 => ?_
 refine wp_region_list ?_
 refine op_mv hf rfl rfl fun a hf => ?_
 refine wpList_nil ?_
 refine nor_then (hK17 _ _ ?_)
 refine wp_block ?_
 refine wp_seq_k fun _ hK18 => ?_
 refine wp_region_list ?_
 refine op_val (ex_eql_b (b := r9.1) (c := 40) hf rfl rfl) rfl hf rfl rfl fun a hf => ?_
 refine op_as hf rfl rfl fun a hf => ?_
 refine wpList_nil ?_
 refine nor_then (hK18 _ _ ?_)
 refine wp_cond_cut hf rfl (fun hc19 => ?_) (fun hc19 => ?_)
 have hm := it hc19 hm
 refine wp_region_list ?_
 refine op_mv hf rfl rfl fun a hf => ?_
 obtain ⟨i20, hi20, hm⟩ := ob hm
 refine op_val (ex_add hf rfl rfl hi20) rfl hf rfl rfl fun a hf => ?_
 refine op_as hf rfl rfl fun a hf => ?_
 refine wpList_nil ?_
 refine nor_block ?_
 refine nor_block ?_
 refine nor_then ?_
 exact ⟨_, Nat.lt_succ_self _, r15.2.f_s, r15.2.f_at, i20, (hf.cons rfl (hf.cons rfl hf.nil)), (hO.choose [1, 0, 2] rfl), hm⟩
 have hm := ie hc19 hm
 refine wp_seq_k fun _ hK21 => ?_
 refine wp_region_list ?_
 refine op_val (ex_eql_b (b := r9.1) (c := 41) hf rfl rfl) rfl hf rfl rfl fun a hf => ?_
 refine op_as hf rfl rfl fun a hf => ?_
 refine wpList_nil ?_
 refine nor_then (hK21 _ _ ?_)
 refine wp_cond_cut hf rfl (fun hc22 => ?_) (fun hc22 => ?_)
 have hm := it hc22 hm
 refine wp_region_list ?_
 refine op_mv hf rfl rfl fun a hf => ?_
 obtain ⟨i23, hi23, hm⟩ := ob hm
 refine op_val (ex_sub hf rfl rfl hi23) rfl hf rfl rfl fun a hf => ?_
 refine op_as hf rfl rfl fun a hf => ?_
 refine wpList_nil ?_
 refine nor_block ?_
 refine nor_block ?_
 refine nor_then ?_
 exact ⟨_, Nat.lt_succ_self _, r15.2.f_s, r15.2.f_at, i23, (hf.cons rfl (hf.cons rfl hf.nil)), (hO.choose [1, 0, 2] rfl), hm⟩
 have hm := ie hc22 hm
 refine wp_seq_k fun _ hK24 => ?_
 refine wp_region_list ?_
 refine op_val (ex_eql_b (b := r9.1) (c := 92) hf rfl rfl) rfl hf rfl rfl fun a hf => ?_
 refine op_as hf rfl rfl fun a hf => ?_
 refine wpList_nil ?_
 refine nor_then (hK24 _ _ ?_)
 refine wp_cond_cut hf rfl (fun hc25 => ?_) (fun hc25 => ?_)
 have hm := it hc25 hm
 refine wp_seq_k fun _ hK27 => ?_
 refine wp_region_list ?_
 refine op_mv hf rfl rfl fun a hf => ?_
 refine op_val (ex_nilCheck hf rfl) rfl hf rfl rfl fun a hf => ?_
 refine op_val (ex_field fa_134_0 hf rfl) rfl hf rfl rfl fun a hf => ?_
 refine op_val (ex_load1 (o := 0) ag_105 (hO.blkSees (i := 1) rfl) rfl hf rfl) rfl hf rfl rfl fun a hf => ?_
 obtain ⟨r26, hr26, hm⟩ := ob hm
 refine op_enter (ex_call c_125 hf (vs := [ptr x_p_b1 0]) rfl) rfl hf rfl rfl (w_scan_Scanner_Peek r15.2 r26 _ (hG.own hF hO) (hO.blkSees (i := 0) rfl) hr26) ?_
 rintro e w' ⟨he, hb⟩
 refine ⟨_, he, fun a hf => ?_⟩
 have hO := hO.grow hb
 refine op_mv hf rfl rfl fun a hf => ?_
 refine op_val (ex_extract hf rfl rfl) rfl hf rfl rfl fun a hf => ?_
 refine op_val (ex_extract hf rfl rfl) rfl hf rfl rfl fun a hf => ?_
 refine op_as hf rfl rfl fun a hf => ?_
 refine op_as hf rfl rfl fun a hf => ?_
 refine wpList_nil ?_
 refine nor_then (hK27 _ _ ?_)
 refine wp_seq_k fun _ hK28 => ?_
 refine wp_region_list ?_
 refine op_mv hf rfl rfl fun a hf => ?_
 refine wpList_nil ?_
 refine nor_then (hK28 _ _ ?_)
 refine wp_cond_cut hf rfl (fun hc29 => ?_) (fun hc29 => ?_)
 have hm := it hc29 hm
 refine wp_region_list ?_
 refine op_mv hf rfl rfl fun a hf => ?_
 refine op_val (ex_nilCheck hf rfl) rfl hf rfl rfl fun a hf => ?_
 refine op_val (ex_field fa_134_0 hf rfl) rfl hf rfl rfl fun a hf => ?_
 refine op_val (ex_load1 (o := 0) ag_105 (hO.blkSees (i := 1) rfl) rfl hf rfl) rfl hf rfl rfl fun a hf => ?_
 refine op_mv hf rfl rfl fun a hf => ?_
 obtain ⟨r30, hr30, hm⟩ := ob hm
 refine op_enter (ex_call c_70 hf (vs := [ptr x_p_b1 0, byte r26.1]) rfl) rfl hf rfl rfl (w_scan_Scanner_Byte r15.2 r26.1 r30 _ (hG.own hF hO) (Dk.Own.far (show Dk.Own w0 F _ ([.blk x_p_b1 [str r15.2.f_s, int r15.2.f_at] 151] ++ [.blk x_p_b0 [ptr x_p_b1 0, .slice x_p_p2 x_p.f_out.length x_p_c2, int x_p.f_from, str x_p.f_s] 134, .row (.slice x_p_p2 x_p.f_out.length x_p_c2) 9 1 x_p.f_out.length (cells enc_str x_p.f_out)]) from hO) rfl hF hG.size) ((show Dk.Own w0 F _ ([.blk x_p_b1 [str r15.2.f_s, int r15.2.f_at] 151] ++ [.blk x_p_b0 [ptr x_p_b1 0, .slice x_p_p2 x_p.f_out.length x_p_c2, int x_p.f_from, str x_p.f_s] 134, .row (.slice x_p_p2 x_p.f_out.length x_p_c2) 9 1 x_p.f_out.length (cells enc_str x_p.f_out)]) from hO).lend rfl trivial) hr30) ?_
 rintro e w' ⟨he, hO'⟩
 refine ⟨_, he, fun a hf => ?_⟩
 have hO := (show Dk.Own w0 F _ ([.blk x_p_b1 [str r15.2.f_s, int r15.2.f_at] 151] ++ [.blk x_p_b0 [ptr x_p_b1 0, .slice x_p_p2 x_p.f_out.length x_p_c2, int x_p.f_from, str x_p.f_s] 134, .row (.slice x_p_p2 x_p.f_out.length x_p_c2) 9 1 x_p.f_out.length (cells enc_str x_p.f_out)]) from hO).back rfl hO' rfl
 refine wpList_nil ?_
 refine nor_block ?_
 refine nor_block ?_
 refine nor_then ?_
 exact ⟨_, Nat.lt_succ_self _, r30.2.f_s, r30.2.f_at, i5, (hf.cons rfl (hf.cons rfl hf.nil)), (hO.choose [1, 0, 2] rfl), hm⟩
 have hm := ie hc29 hm
 refine wp_skip ?_
 refine nor_block ?_
 refine nor_block ?_
 refine nor_then ?_
 exact ⟨_, Nat.lt_succ_self _, r15.2.f_s, r15.2.f_at, i5, (hf.cons rfl (hf.cons rfl hf.nil)), (hO.choose [1, 0, 2] rfl), hm⟩
 have hm := ie hc25 hm
 refine wp_skip ?_
 refine nor_block ?_
 refine nor_block ?_
 refine nor_then ?_
 exact ⟨_, Nat.lt_succ_self _, r15.2.f_s, r15.2.f_at, i5, (hf.cons rfl (hf.cons rfl hf.nil)), (hO.choose [1, 0, 2] rfl), hm⟩
 have hm := ie hc7 hm
 refine wp_exit ?_
 refine exit_then ?_
 refine exit_then ?_
 refine exit_here ?_
 refine nor_then ?_
 exact ⟨s3, i4, hf.nil, hO, hm⟩
 exact ⟨x_p.Scanner.f_s, x_p.Scanner.f_at, 1, (hf.cons rfl (hf.cons rfl hf.nil)), hO, hm⟩
 rintro a w ⟨s31, i32, hf, hO, hm⟩
 rw [commas_splitter_comment_j2] at hm
 refine wp_seq_k fun _ hK33 => ?_
 refine wp_region_list ?_
 refine op_as hf rfl rfl fun a hf => ?_
 refine wpList_nil ?_
 refine nor_then (hK33 _ _ ?_)
 refine wp_ret ?_
 obtain rfl := Option.some.inj hm
 exact post_ret Tryz.results145 hf (.tmp rfl .nil) ⟨x_p_p2, x_p_c2, rfl, hO⟩

set_option maxHeartbeats 1000000 in
theorem w_quoted_reader_next (x_r : quoted_reader) (R : Bool × quoted_reader) (w0 : World) (hG : Glob w0) {x_r_b0 : Nat} {x_r_b1 : Nat} {x_r_p2 : Option Addr} {x_r_c2 : Nat} {F : List Nat} (hF : Away F) (hO : Dk.Own w0 F w0 [.blk x_r_b0 [ptr x_r_b1 0, .slice x_r_p2 x_r.f_out.length x_r_c2] 195, .blk x_r_b1 [str x_r.Scanner.f_s, int x_r.Scanner.f_at] 151, .row (.slice x_r_p2 x_r.f_out.length x_r_c2) 5 1 x_r.f_out.length (cells enc_byte x_r.f_out)]) (hm : quoted_reader_next x_r = some R) :
    Calls Tryz.prog 187 #[ptr x_r_b0 0] w0 fun e w' => ∃ (p0 : Option Addr) (c0 : Nat), e = .returned (.bool R.1) ∧ Dk.Own w0 F w' [.blk x_r_b0 [ptr x_r_b1 0, .slice p0 R.2.f_out.length c0] 195, .blk x_r_b1 [str R.2.Scanner.f_s, int R.2.Scanner.f_at] 151, .row (.slice p0 R.2.f_out.length c0) 5 1 R.2.f_out.length (cells enc_byte R.2.f_out)] := by
 rw [quoted_reader_next] at hm
 refine calls_enter (vs := [ptr x_r_b0 0]) Tryz.func187 rfl Tryz.ntmps187 rfl fun a hf => ?_
 refine wp_seq_k fun _ hK1 => ?_
 refine wp_region_list ?_
 refine op_as hf rfl rfl fun a hf => ?_
 refine wpList_nil ?_
 refine nor_then (hK1 _ _ ?_)
 refine wp_seq_k fun _ hK3 => ?_
 refine wp_region_list ?_
 refine op_mv hf rfl rfl fun a hf => ?_
 refine op_val (ex_nilCheck hf rfl) rfl hf rfl rfl fun a hf => ?_
 refine op_val (ex_field fa_195_0 hf rfl) rfl hf rfl rfl fun a hf => ?_
 refine op_val (ex_load1 (o := 0) ag_105 (hO.blkSees (i := 0) rfl) rfl hf rfl) rfl hf rfl rfl fun a hf => ?_
 obtain ⟨r2, hr2, hm⟩ := ob hm
 refine op_enter (ex_call c_70 hf (vs := [ptr x_r_b1 0, byte 92]) rfl) rfl hf rfl rfl (w_scan_Scanner_Byte x_r.Scanner 92 r2 _ (hG.own hF hO) (Dk.Own.far (show Dk.Own w0 F _ ([.blk x_r_b1 [str x_r.Scanner.f_s, int x_r.Scanner.f_at] 151] ++ [.blk x_r_b0 [ptr x_r_b1 0, .slice x_r_p2 x_r.f_out.length x_r_c2] 195, .row (.slice x_r_p2 x_r.f_out.length x_r_c2) 5 1 x_r.f_out.length (cells enc_byte x_r.f_out)]) from hO.choose [1, 0, 2] rfl) rfl hF hG.size) ((show Dk.Own w0 F _ ([.blk x_r_b1 [str x_r.Scanner.f_s, int x_r.Scanner.f_at] 151] ++ [.blk x_r_b0 [ptr x_r_b1 0, .slice x_r_p2 x_r.f_out.length x_r_c2] 195, .row (.slice x_r_p2 x_r.f_out.length x_r_c2) 5 1 x_r.f_out.length (cells enc_byte x_r.f_out)]) from hO.choose [1, 0, 2] rfl).lend rfl trivial) hr2) ?_
 rintro e w' ⟨he, hO'⟩
 refine ⟨_, he, fun a hf => ?_⟩
 have hO := (show Dk.Own w0 F _ ([.blk x_r_b1 [str x_r.Scanner.f_s, int x_r.Scanner.f_at] 151] ++ [.blk x_r_b0 [ptr x_r_b1 0, .slice x_r_p2 x_r.f_out.length x_r_c2] 195, .row (.slice x_r_p2 x_r.f_out.length x_r_c2) 5 1 x_r.f_out.length (cells enc_byte x_r.f_out)]) from hO.choose [1, 0, 2] rfl).back rfl hO' rfl
 refine wpList_nil ?_
 refine nor_then (hK3 _ _ ?_)
 refine wp_seq_k fun _ hK5 => ?_
 refine wp_region_list ?_
 refine op_mv hf rfl rfl fun a hf => ?_
 refine op_val (ex_nilCheck hf rfl) rfl hf rfl rfl fun a hf => ?_
 refine op_val (ex_field fa_195_0 hf rfl) rfl hf rfl rfl fun a hf => ?_
 refine op_val (ex_load1 (o := 0) ag_105 (hO.blkSees (i := 1) rfl) rfl hf rfl) rfl hf rfl rfl fun a hf => ?_
 obtain ⟨r4, hr4, hm⟩ := ob hm
 refine op_enter (ex_call c_125 hf (vs := [ptr x_r_b1 0]) rfl) rfl hf rfl rfl (w_scan_Scanner_Peek r2.2 r4 _ (hG.own hF hO) (hO.blkSees (i := 0) rfl) hr4) ?_
 rintro e w' ⟨he, hb⟩
 refine ⟨_, he, fun a hf => ?_⟩
 have hO := hO.grow hb
 refine op_mv hf rfl rfl fun a hf => ?_
 refine op_val (ex_extract hf rfl rfl) rfl hf rfl rfl fun a hf => ?_
 refine op_val (ex_extract hf rfl rfl) rfl hf rfl rfl fun a hf => ?_
 refine op_as hf rfl rfl fun a hf => ?_
 refine op_as hf rfl rfl fun a hf => ?_
 refine wpList_nil ?_
 refine nor_then (hK5 _ _ ?_)
 refine wp_seq_k fun _ hK11 => ?_
 refine wp_seq_cut (fun a w => ∃ (t8 : Bool), Fits 41 [(0, ptr x_r_b0 0), (3, byte r4.1), (24, .bool t8)] a ∧ Dk.Own w0 F w [.blk x_r_b1 [str r2.2.f_s, int r2.2.f_at] 151, .blk x_r_b0 [ptr x_r_b1 0, .slice x_r_p2 x_r.f_out.length x_r_c2] 195, .row (.slice x_r_p2 x_r.f_out.length x_r_c2) 5 1 x_r.f_out.length (cells enc_byte x_r.f_out)] ∧ quoted_reader_next_j1 x_r r2 r4 t8 = some R) ?_ ?_
 refine wp_region_list ?_
 refine op_mv hf rfl rfl fun a hf => ?_
 refine op_val (ex_not hf rfl) rfl hf rfl rfl fun a hf => ?_
 refine op_mv hf rfl rfl fun a hf => ?_
 rcases bcase (!r4.2) with hc6 | hc6
 have hm := it hc6 hm
 refine op_pass rfl hf rfl rfl (hc6) rfl rfl fun a hf => ?_
 refine op_pass rfl hf rfl rfl (hc6) rfl rfl fun a hf => ?_
 refine op_pass rfl hf rfl rfl (hc6) rfl rfl fun a hf => ?_
 refine op_val (ex_pick_t hf rfl hc6 rfl) rfl hf rfl rfl fun a hf => ?_
 refine wpList_nil ?_
 refine nor_then ?_
 exact ⟨true, (hf.cons rfl (hf.cons rfl (hf.cons rfl hf.nil))), hO, hm⟩
 have hm := ie hc6 hm
 refine op_guard rfl hf rfl rfl (hc6) ?_
 refine op_mv hf rfl rfl fun a hf => ?_
 refine op_guard rfl hf rfl rfl (hc6) ?_
 obtain ⟨r7, hr7, hm⟩ := ob hm
 refine op_enter (ex_call c_80 hf (vs := [byte r4.1]) rfl) rfl hf rfl rfl (w_octet_IsValue r4.1 r7 _ (hG.own hF hO) hr7) ?_
 rintro e w' ⟨he, hb⟩
 refine ⟨_, he, fun a hf => ?_⟩
 have hO := hO.grow hb
 refine op_guard rfl hf rfl rfl (hc6) ?_
 refine op_val (ex_not hf rfl) rfl hf rfl rfl fun a hf => ?_
 refine op_val (ex_pick_f hf rfl hc6 rfl) rfl hf rfl rfl fun a hf => ?_
 refine wpList_nil ?_
 refine nor_then ?_
 exact ⟨!r7, (hf.cons rfl (hf.cons rfl (hf.cons rfl hf.nil))), hO, hm⟩
 rintro a w ⟨t8, hf, hO, hm⟩
 rw [quoted_reader_next_j1] at hm
 refine wp_cond_cut hf rfl (fun hc9 => ?_) (fun hc9 => ?_)
 have hm := it hc9 hm
 refine wp_seq_k fun _ hK10 => ?_
 refine wp_region_list ?_
 refine op_as hf rfl rfl fun a hf => ?_
 refine wpList_nil ?_
 refine nor_then (hK10 _ _ ?_)
 refine wp_ret ?_
 refine ret_then ?_
 obtain rfl := Option.some.inj hm
 exact post_ret Tryz.results187 hf (.tmp rfl .nil) ⟨x_r_p2, x_r_c2, rfl, (hO.choose [1, 0, 2] rfl)⟩
 have hm := ie hc9 hm
 refine wp_skip ?_
 refine nor_then (hK11 _ _ ?_)
 refine wp_seq_k fun _ hK16 => ?_
 refine wp_region_list ?_
 refine op_mv hf rfl rfl fun a hf => ?_
 refine op_mv hf rfl rfl fun a hf => ?_
 refine op_val (ex_nilCheck hf rfl) rfl hf rfl rfl fun a hf => ?_
 refine op_val (ex_field fa_195_1 hf rfl) rfl hf rfl rfl fun a hf => ?_
 refine op_val (ex_load1 (o := 1) ag_49 (hO.blkSees (i := 1) rfl) rfl hf rfl) rfl hf rfl rfl fun a hf => ?_
 refine op_mv hf rfl rfl fun a hf => ?_
 refine op_buildSlice (vs := [(0, byte r4.1)]) (cs := [byte r4.1]) (e := 5) (sz := 1) hf rfl rfl (fun w => by kernel_rfl) rfl rfl hO fun a b12 w hf hO => ?_
 obtain ⟨hg15, hm⟩ := og hm
 refine op_appendT el_49 (enc := enc_byte) (xs := x_r.f_out) (ys := [r4.1]) (i := 3) (fun _ => rfl) rfl (hO.rowSees (i := 0) rfl) (by simp [cells, enc_byte, Value.oneCell']) hg15 hf rfl rfl rfl hO fun a p13 c14 w hf hO => ?_
 refine op_val (ex_nilCheck hf rfl) rfl hf rfl rfl fun a hf => ?_
 refine op_val (ex_field fa_195_1 hf rfl) rfl hf rfl rfl fun a hf => ?_
 refine op_store1 (i := 2) (o := 1) (v := .slice p13 ((x_r.f_out ++ [r4.1]).length) c14) sz_49 rfl rfl rfl rfl hf rfl rfl hO fun w hO => ?_
 refine wpList_nil ?_
 refine nor_then (hK16 _ _ ?_)
 refine wp_seq_k fun _ hK18 => ?_
 refine wp_region_list ?_
 refine op_mv hf rfl rfl fun a hf => ?_
 refine op_val (ex_nilCheck hf rfl) rfl hf rfl rfl fun a hf => ?_
 refine op_val (ex_field fa_195_0 hf rfl) rfl hf rfl rfl fun a hf => ?_
 refine op_val (ex_load1 (o := 0) ag_105 (hO.blkSees (i := 2) rfl) rfl hf rfl) rfl hf rfl rfl fun a hf => ?_
 refine op_mv hf rfl rfl fun a hf => ?_
 obtain ⟨r17, hr17, hm⟩ := ob hm
 refine op_enter (ex_call c_70 hf (vs := [ptr x_r_b1 0, byte r4.1]) rfl) rfl hf rfl rfl (w_scan_Scanner_Byte r2.2 r4.1 r17 _ (hG.own hF hO) (Dk.Own.far (show Dk.Own w0 F _ ([.blk x_r_b1 [str r2.2.f_s, int r2.2.f_at] 151] ++ [.row (.slice (some ⟨b12, 0, none⟩) ([r4.1].length) 1) 5 1 ([r4.1].length) (cells enc_byte [r4.1]), .blk x_r_b0 [ptr x_r_b1 0, .slice p13 ((x_r.f_out ++ [r4.1]).length) c14] 195, .row (.slice p13 ((x_r.f_out ++ [r4.1]).length) c14) 5 1 ((x_r.f_out ++ [r4.1]).length) (cells enc_byte (x_r.f_out ++ [r4.1]))]) from hO.choose [1, 0, 2, 3] rfl) rfl hF hG.size) ((show Dk.Own w0 F _ ([.blk x_r_b1 [str r2.2.f_s, int r2.2.f_at] 151] ++ [.row (.slice (some ⟨b12, 0, none⟩) ([r4.1].length) 1) 5 1 ([r4.1].length) (cells enc_byte [r4.1]), .blk x_r_b0 [ptr x_r_b1 0, .slice p13 ((x_r.f_out ++ [r4.1]).length) c14] 195, .row (.slice p13 ((x_r.f_out ++ [r4.1]).length) c14) 5 1 ((x_r.f_out ++ [r4.1]).length) (cells enc_byte (x_r.f_out ++ [r4.1]))]) from hO.choose [1, 0, 2, 3] rfl).lend rfl trivial) hr17) ?_
 rintro e w' ⟨he, hO'⟩
 refine ⟨_, he, fun a hf => ?_⟩
 have hO := (show Dk.Own w0 F _ ([.blk x_r_b1 [str r2.2.f_s, int r2.2.f_at] 151] ++ [.row (.slice (some ⟨b12, 0, none⟩) ([r4.1].length) 1) 5 1 ([r4.1].length) (cells enc_byte [r4.1]), .blk x_r_b0 [ptr x_r_b1 0, .slice p13 ((x_r.f_out ++ [r4.1]).length) c14] 195, .row (.slice p13 ((x_r.f_out ++ [r4.1]).length) c14) 5 1 ((x_r.f_out ++ [r4.1]).length) (cells enc_byte (x_r.f_out ++ [r4.1]))]) from hO.choose [1, 0, 2, 3] rfl).back rfl hO' rfl
 refine op_as hf rfl rfl fun a hf => ?_
 refine wpList_nil ?_
 refine nor_then (hK18 _ _ ?_)
 refine wp_ret ?_
 obtain rfl := Option.some.inj hm
 exact post_ret Tryz.results187 hf (.tmp rfl .nil) ⟨p13, c14, rfl, (hO.choose [2, 0, 3] rfl)⟩

set_option maxHeartbeats 1000000 in
theorem w_scan_Scanner_Back (x_c : scan_Scanner) (x_at : Int) (R : Bool × scan_Scanner) (w0 : World) (hG : Glob w0) {x_c_b0 : Nat} {F : List Nat} (hF : Away F) (hO : Dk.Own w0 F w0 [.blk x_c_b0 [str x_c.f_s, int x_c.f_at] 151]) (hm : scan_Scanner_Back x_c x_at = some R) :
    Calls Tryz.prog 188 #[ptr x_c_b0 0, int x_at] w0 fun e w' => e = .returned (.bool R.1) ∧ Dk.Own w0 F w' [.blk x_c_b0 [str R.2.f_s, int R.2.f_at] 151] := by
 rw [scan_Scanner_Back] at hm
 refine calls_enter (vs := [ptr x_c_b0 0, int x_at]) Tryz.func188 rfl Tryz.ntmps188 rfl fun a hf => ?_
 refine wp_seq_k fun _ hK1 => ?_
 refine wp_region_list ?_
 refine op_as hf rfl rfl fun a hf => ?_
 refine wpList_nil ?_
 refine nor_then (hK1 _ _ ?_)
 refine wp_seq_k fun _ hK7 => ?_
 refine wp_seq_cut (fun a w => ∃ (t4 : Bool), Fits 19 [(0, ptr x_c_b0 0), (1, int x_at), (12, .bool t4)] a ∧ Dk.Own w0 F w [.blk x_c_b0 [str x_c.f_s, int x_c.f_at] 151] ∧ scan_Scanner_Back_j1 x_c x_at t4 = some R) ?_ ?_
 refine wp_region_list ?_
 refine op_mv hf rfl rfl fun a hf => ?_
 refine op_val (ex_lss (m := x_at) (n := 0) hf rfl rfl) rfl hf rfl rfl fun a hf => ?_
 refine op_mv hf rfl rfl fun a hf => ?_
 rcases bcase (decide (x_at < 0)) with hc2 | hc2
 have hm := it hc2 hm
 refine op_pass rfl hf rfl rfl (hc2) rfl rfl fun a hf => ?_
 refine op_pass rfl hf rfl rfl (hc2) rfl rfl fun a hf => ?_
 refine op_pass rfl hf rfl rfl (hc2) rfl rfl fun a hf => ?_
 refine op_pass rfl hf rfl rfl (hc2) rfl rfl fun a hf => ?_
 refine op_val (ex_pick_t hf rfl hc2 rfl) rfl hf rfl rfl fun a hf => ?_
 refine wpList_nil ?_
 refine nor_then ?_
 exact ⟨true, (hf.cons rfl (hf.cons rfl (hf.cons rfl hf.nil))), hO, hm⟩
 have hm := ie hc2 hm
 refine op_guard rfl hf rfl rfl (hc2) ?_
 refine op_mv hf rfl rfl fun a hf => ?_
 refine op_guard rfl hf rfl rfl (hc2) ?_
 refine op_mv hf rfl rfl fun a hf => ?_
 refine op_guard rfl hf rfl rfl (hc2) ?_
 obtain ⟨r3, hr3, hm⟩ := ob hm
 refine op_enter (ex_call c_126 hf (vs := [ptr x_c_b0 0]) rfl) rfl hf rfl rfl (w_scan_Scanner_At x_c r3 _ (hG.own hF hO) (hO.blkSees (i := 0) rfl) hr3) ?_
 rintro e w' ⟨he, hb⟩
 refine ⟨_, he, fun a hf => ?_⟩
 have hO := hO.grow hb
 refine op_guard rfl hf rfl rfl (hc2) ?_
 refine op_val (ex_gtr (m := x_at) (n := r3) hf rfl rfl) rfl hf rfl rfl fun a hf => ?_
 refine op_val (ex_pick_f hf rfl hc2 rfl) rfl hf rfl rfl fun a hf => ?_
 refine wpList_nil ?_
 refine nor_then ?_
 exact ⟨decide (r3 < x_at), (hf.cons rfl (hf.cons rfl (hf.cons rfl hf.nil))), hO, hm⟩
 rintro a w ⟨t4, hf, hO, hm⟩
 rw [scan_Scanner_Back_j1] at hm
 refine wp_cond_cut hf rfl (fun hc5 => ?_) (fun hc5 => ?_)
 have hm := it hc5 hm
 refine wp_seq_k fun _ hK6 => ?_
 refine wp_region_list ?_
 refine op_as hf rfl rfl fun a hf => ?_
 refine wpList_nil ?_
 refine nor_then (hK6 _ _ ?_)
 refine wp_ret ?_
 refine ret_then ?_
 obtain rfl := Option.some.inj hm
 exact post_ret Tryz.results188 hf (.tmp rfl .nil) ⟨rfl, hO⟩
 have hm := ie hc5 hm
 refine wp_skip ?_
 refine nor_then (hK7 _ _ ?_)
 refine wp_seq_k fun _ hK9 => ?_
 refine wp_seq_k fun _ hK8 => ?_
 refine wp_region_list ?_
 refine op_mv hf rfl rfl fun a hf => ?_
 refine op_val (ex_neq_pn Tryz.underlying105 hf rfl rfl) rfl hf rfl rfl fun a hf => ?_
 refine wpList_nil ?_
 refine nor_then (hK8 _ _ ?_)
 refine wp_cond_t hf rfl rfl ?_
 refine wp_region_list ?_
 refine op_mv hf rfl rfl fun a hf => ?_
 refine op_mv hf rfl rfl fun a hf => ?_
 refine op_val (ex_nilCheck hf rfl) rfl hf rfl rfl fun a hf => ?_
 refine op_val (ex_field fa_151_1 hf rfl) rfl hf rfl rfl fun a hf => ?_
 refine op_store1 (i := 0) (o := 1) (v := int x_at) sz_3 rfl rfl rfl rfl hf rfl rfl hO fun w hO => ?_
 refine wpList_nil ?_
 refine nor_then (hK9 _ _ ?_)
 refine wp_seq_k fun _ hK10 => ?_
 refine wp_region_list ?_
 refine op_as hf rfl rfl fun a hf => ?_
 refine wpList_nil ?_
 refine nor_then (hK10 _ _ ?_)
 refine wp_ret ?_
 obtain rfl := Option.some.inj hm
 exact post_ret Tryz.results188 hf (.tmp rfl .nil) ⟨rfl, hO⟩

set_option maxHeartbeats 1000000 in
theorem w_quoted_Read (x_c : scan_Scanner) (R : Str × Bool × scan_Scanner) (w0 : World) (hG : Glob w0) {x_c_b0 : Nat} {F : List Nat} (hF : Away F) (hO : Dk.Own w0 F w0 [.blk x_c_b0 [str x_c.f_s, int x_c.f_at] 151]) (hm : quoted_Read x_c = some R) :
    Calls Tryz.prog 146 #[ptr x_c_b0 0] w0 fun e w' => e = .returned (.tuple #[str R.1, .bool R.2.1]) ∧ Dk.Own w0 F w' [.blk x_c_b0 [str R.2.2.f_s, int R.2.2.f_at] 151] := by
 rw [quoted_Read] at hm
 refine calls_enter (vs := [ptr x_c_b0 0]) Tryz.func146 rfl Tryz.ntmps146 rfl fun a hf => ?_
 refine wp_seq_k fun _ hK1 => ?_
 refine wp_region_list ?_
 refine op_as hf rfl rfl fun a hf => ?_
 refine op_as hf rfl rfl fun a hf => ?_
 refine wpList_nil ?_
 refine nor_then (hK1 _ _ ?_)
 refine wp_seq_k fun _ hK3 => ?_
 refine wp_region_list ?_
 refine op_mv hf rfl rfl fun a hf => ?_
 obtain ⟨r2, hr2, hm⟩ := ob hm
 refine op_enter (ex_call c_126 hf (vs := [ptr x_c_b0 0]) rfl) rfl hf rfl rfl (w_scan_Scanner_At x_c r2 _ (hG.own hF hO) (hO.blkSees (i := 0) rfl) hr2) ?_
 rintro e w' ⟨he, hb⟩
 refine ⟨_, he, fun a hf => ?_⟩
 have hO := hO.grow hb
 refine op_as hf rfl rfl fun a hf => ?_
 refine wpList_nil ?_
 refine nor_then (hK3 _ _ ?_)
 refine wp_seq_k fun _ hK5 => ?_
 refine wp_region_list ?_
 refine op_mv hf rfl rfl fun a hf => ?_
 refine op_val (ex_build (vs := [(0, ptr x_c_b0 0)]) (v := .agg #[ptr x_c_b0 0, .slice none 0 0]) hf rfl (by kernel_rfl)) rfl hf rfl rfl fun a hf => ?_
 refine op_box (v := .agg #[ptr x_c_b0 0, .slice none 0 0]) (cs := [ptr x_c_b0 0, .slice none 0 0]) rfl hf rfl rfl hO fun a b4 w hf hO => ?_
 have hO := hO.nilRow 5 1
 refine op_as hf rfl rfl fun a hf => ?_
 refine wpList_nil ?_
 refine nor_then (hK5 _ _ ?_)
 refine wp_seq_k fun _ hK7 => ?_
 refine wp_region_list ?_
 refine op_mv hf rfl rfl fun a hf => ?_
 refine op_val (ex_nilCheck hf rfl) rfl hf rfl rfl fun a hf => ?_
 refine op_val (ex_field fa_195_0 hf rfl) rfl hf rfl rfl fun a hf => ?_
 refine op_val (ex_load1 (o := 0) ag_105 (hO.blkSees (i := 1) rfl) rfl hf rfl) rfl hf rfl rfl fun a hf => ?_
 obtain ⟨r6, hr6, hm⟩ := ob hm
 refine op_enter (ex_call c_70 hf (vs := [ptr x_c_b0 0, byte 34]) rfl) rfl hf rfl rfl (w_scan_Scanner_Byte x_c 34 r6 _ (hG.own hF hO) (Dk.Own.far (show Dk.Own w0 F _ ([.blk x_c_b0 [str x_c.f_s, int x_c.f_at] 151] ++ [.row (.slice none 0 0) 5 1 0 (cells enc_byte []), .blk b4 [ptr x_c_b0 0, .slice none 0 0] 195]) from hO.choose [2, 0, 1] rfl) rfl hF hG.size) ((show Dk.Own w0 F _ ([.blk x_c_b0 [str x_c.f_s, int x_c.f_at] 151] ++ [.row (.slice none 0 0) 5 1 0 (cells enc_byte []), .blk b4 [ptr x_c_b0 0, .slice none 0 0] 195]) from hO.choose [2, 0, 1] rfl).lend rfl trivial) hr6) ?_
 rintro e w' ⟨he, hO'⟩
 refine ⟨_, he, fun a hf => ?_⟩
 have hO := (show Dk.Own w0 F _ ([.blk x_c_b0 [str x_c.f_s, int x_c.f_at] 151] ++ [.row (.slice none 0 0) 5 1 0 (cells enc_byte []), .blk b4 [ptr x_c_b0 0, .slice none 0 0] 195]) from hO.choose [2, 0, 1] rfl).back rfl hO' rfl
 refine op_as hf rfl rfl fun a hf => ?_
 refine wpList_nil ?_
 refine nor_then (hK7 _ _ ?_)
 refine wp_seq_cut (fun a w => ∃ (t24 : Bool) (s25 : Str) (i26 : Int) (p27 : Option Addr) (c28 : Nat) (l29 : List UInt8), Fits 41 [(4, int r2), (5, ptr b4 0), (6, .bool t24)] a ∧ Dk.Own w0 F w [.blk x_c_b0 [str s25, int i26] 151, .row (.slice p27 l29.length c28) 5 1 l29.length (cells enc_byte l29), .blk b4 [ptr x_c_b0 0, .slice p27 l29.length c28] 195] ∧ quoted_Read_j3 r2 t24 s25 i26 l29 = some R) ?_ ?_
 refine wp_block ?_
 refine wp_loop_n (fun k a w => ∃ (s8 : Str) (i9 : Int) (p10 : Option Addr) (c11 : Nat) (l12 : List UInt8) (t13 : Bool), Fits 41 [(4, int r2), (5, ptr b4 0), (6, .bool t13)] a ∧ Dk.Own w0 F w [.blk x_c_b0 [str s8, int i9] 151, .row (.slice p10 l12.length c11) 5 1 l12.length (cells enc_byte l12), .blk b4 [ptr x_c_b0 0, .slice p10 l12.length c11] 195] ∧ quoted_Read_L1 r2 k s8 i9 l12 t13 = some R) ?_ fuel ?_
 rintro n1 a w ⟨s8, i9, p10, c11, l12, t13, hf, hO, hm⟩
 obtain _ | n1 := n1
 rw [quoted_Read_L1] at hm
 cases hm
 rw [quoted_Read_L1] at hm
 refine wp_seq_k fun _ hK20 => ?_
 refine wp_seq_cut (fun a w => ∃ (t16 : Bool) (s17 : Str) (i18 : Int), Fits 41 [(4, int r2), (5, ptr b4 0), (6, .bool t13), (25, .bool t16)] a ∧ Dk.Own w0 F w [.blk x_c_b0 [str s17, int i18] 151, .row (.slice p10 l12.length c11) 5 1 l12.length (cells enc_byte l12), .blk b4 [ptr x_c_b0 0, .slice p10 l12.length c11] 195] ∧ quoted_Read_j2 (quoted_Read_L1 r2 n1) r2 l12 t13 t16 s17 i18 = some R) ?_ ?_
 refine wp_region_list ?_
 refine op_mv hf rfl rfl fun a hf => ?_
 refine op_mv hf rfl rfl fun a hf => ?_
 rcases bcase (t13) with hc14 | hc14
 have hm := it hc14 hm
 refine op_guard rfl hf rfl rfl (hc14) ?_
 refine op_mv hf rfl rfl fun a hf => ?_
 refine op_guard rfl hf rfl rfl (hc14) ?_
 refine op_val (ex_nilCheck hf rfl) rfl hf rfl rfl fun a hf => ?_
 refine op_guard rfl hf rfl rfl (hc14) ?_
 refine op_val (ex_field fa_195_0 hf rfl) rfl hf rfl rfl fun a hf => ?_
 refine op_guard rfl hf rfl rfl (hc14) ?_
 refine op_val (ex_load1 (o := 0) ag_105 (hO.blkSees (i := 2) rfl) rfl hf rfl) rfl hf rfl rfl fun a hf => ?_
 refine op_guard rfl hf rfl rfl (hc14) ?_
 obtain ⟨r15, hr15, hm⟩ := ob hm
 refine op_enter (ex_call c_70 hf (vs := [ptr x_c_b0 0, byte 34]) rfl) rfl hf rfl rfl (w_scan_Scanner_Byte (⟨s8, i9⟩ : scan_Scanner) 34 r15 _ (hG.own hF hO) (Dk.Own.far (show Dk.Own w0 F _ ([.blk x_c_b0 [str s8, int i9] 151] ++ [.row (.slice p10 l12.length c11) 5 1 l12.length (cells enc_byte l12), .blk b4 [ptr x_c_b0 0, .slice p10 l12.length c11] 195]) from hO) rfl hF hG.size) ((show Dk.Own w0 F _ ([.blk x_c_b0 [str s8, int i9] 151] ++ [.row (.slice p10 l12.length c11) 5 1 l12.length (cells enc_byte l12), .blk b4 [ptr x_c_b0 0, .slice p10 l12.length c11] 195]) from hO).lend rfl trivial) hr15) ?_
 rintro e w' ⟨he, hO'⟩
 refine ⟨_, he, fun a hf => ?_⟩
 have hO := (show Dk.Own w0 F _ ([.blk x_c_b0 [str s8, int i9] 151] ++ [.row (.slice p10 l12.length c11) 5 1 l12.length (cells enc_byte l12), .blk b4 [ptr x_c_b0 0, .slice p10 l12.length c11] 195]) from hO).back rfl hO' rfl
 refine op_guard rfl hf rfl rfl (hc14) ?_
 refine op_val (ex_not hf rfl) rfl hf rfl rfl fun a hf => ?_
 refine op_val (ex_pick_t hf rfl hc14 rfl) rfl hf rfl rfl fun a hf => ?_
 refine wpList_nil ?_
 refine nor_then ?_
 exact ⟨!r15.1, r15.2.f_s, r15.2.f_at, (hf.cons rfl (hf.cons rfl (hf.cons rfl (hf.cons rfl hf.nil)))), hO, hm⟩
 have hm := ie hc14 hm
 refine op_pass rfl hf rfl rfl (hc14) rfl rfl fun a hf => ?_
 refine op_pass rfl hf rfl rfl (hc14) rfl rfl fun a hf => ?_
 refine op_pass rfl hf rfl rfl (hc14) rfl rfl fun a hf => ?_
 refine op_pass rfl hf rfl rfl (hc14) rfl rfl fun a hf => ?_
 refine op_pass rfl hf rfl rfl (hc14) rfl rfl fun a hf => ?_
 refine op_pass rfl hf rfl rfl (hc14) rfl rfl fun a hf => ?_
 refine op_val (ex_pick_f hf rfl hc14 rfl) rfl hf rfl rfl fun a hf => ?_
 refine wpList_nil ?_
 refine nor_then ?_
 exact ⟨false, s8, i9, (hf.cons rfl (hf.cons rfl (hf.cons rfl (hf.cons rfl hf.nil)))), hO, hm⟩
 rintro a w ⟨t16, s17, i18, hf, hO, hm⟩
 rw [quoted_Read_j2] at hm
 refine wp_cond_cut hf rfl (fun hc19 => ?_) (fun hc19 => ?_)
 have hm := it hc19 hm
 refine wp_skip ?_
 refine nor_then (hK20 _ _ ?_)
 refine wp_block ?_
 refine wp_region_list ?_
 refine op_mv hf rfl rfl fun a hf => ?_
 obtain ⟨r21, hr21, hm⟩ := ob hm
 refine op_enter (ex_call c_187 hf (vs := [ptr b4 0]) rfl) rfl hf rfl rfl (w_quoted_reader_next ((⟨(⟨s17, i18⟩ : scan_Scanner), l12⟩ : quoted_reader)) r21 _ (hG.own hF hO) (Dk.Own.far (show Dk.Own w0 F _ ([.blk b4 [ptr x_c_b0 0, .slice p10 l12.length c11] 195, .blk x_c_b0 [str s17, int i18] 151, .row (.slice p10 l12.length c11) 5 1 l12.length (cells enc_byte l12)] ++ []) from hO.choose [2, 0, 1] rfl) rfl hF hG.size) ((show Dk.Own w0 F _ ([.blk b4 [ptr x_c_b0 0, .slice p10 l12.length c11] 195, .blk x_c_b0 [str s17, int i18] 151, .row (.slice p10 l12.length c11) 5 1 l12.length (cells enc_byte l12)] ++ []) from hO.choose [2, 0, 1] rfl).lend rfl trivial) hr21) ?_
 rintro e w' ⟨p22, c23, he, hO'⟩
 refine ⟨_, he, fun a hf => ?_⟩
 have hO := (show Dk.Own w0 F _ ([.blk b4 [ptr x_c_b0 0, .slice p10 l12.length c11] 195, .blk x_c_b0 [str s17, int i18] 151, .row (.slice p10 l12.length c11) 5 1 l12.length (cells enc_byte l12)] ++ []) from hO.choose [2, 0, 1] rfl).back rfl hO' rfl
 refine op_as hf rfl rfl fun a hf => ?_
 refine wpList_nil ?_
 refine nor_block ?_
 refine nor_then ?_
 exact ⟨_, Nat.lt_succ_self _, r21.2.Scanner.f_s, r21.2.Scanner.f_at, p22, c23, r21.2.f_out, r21.1, (hf.cons rfl (hf.cons rfl (hf.cons rfl hf.nil))), (hO.choose [1, 2, 0] rfl), hm⟩
 have hm := ie hc19 hm
 refine wp_exit ?_
 refine exit_then ?_
 refine exit_then ?_
 refine exit_here ?_
 refine nor_then ?_
 exact ⟨t13, s17, i18, p10, c11, l12, (hf.cons rfl (hf.cons rfl (hf.cons rfl hf.nil))), hO, hm⟩
 exact ⟨r6.2.f_s, r6.2.f_at, none, 0, [], r6.1, (hf.cons rfl (hf.cons rfl (hf.cons rfl hf.nil))), hO, hm⟩
 rintro a w ⟨t24, s25, i26, p27, c28, l29, hf, hO, hm⟩
 rw [quoted_Read_j3] at hm
 refine wp_seq_k fun _ hK35 => ?_
 refine wp_seq_k fun _ hK30 => ?_
 refine wp_region_list ?_
 refine op_mv hf rfl rfl fun a hf => ?_
 refine op_val (ex_not hf rfl) rfl hf rfl rfl fun a hf => ?_
 refine wpList_nil ?_
 refine nor_then (hK30 _ _ ?_)
 refine wp_cond_cut hf rfl (fun hc31 => ?_) (fun hc31 => ?_)
 have hm := it hc31 hm
 refine wp_seq_k fun _ hK33 => ?_
 refine wp_region_list ?_
 refine op_mv hf rfl rfl fun a hf => ?_
 refine op_val (ex_nilCheck hf rfl) rfl hf rfl rfl fun a hf => ?_
 refine op_val (ex_field fa_195_0 hf rfl) rfl hf rfl rfl fun a hf => ?_
 refine op_val (ex_load1 (o := 0) ag_105 (hO.blkSees (i := 2) rfl) rfl hf rfl) rfl hf rfl rfl fun a hf => ?_
 refine op_mv hf rfl rfl fun a hf => ?_
 obtain ⟨r32, hr32, hm⟩ := ob hm
 refine op_enter (ex_call c_188 hf (vs := [ptr x_c_b0 0, int r2]) rfl) rfl hf rfl rfl (w_scan_Scanner_Back (⟨s25, i26⟩ : scan_Scanner) r2 r32 _ (hG.own hF hO) (Dk.Own.far (show Dk.Own w0 F _ ([.blk x_c_b0 [str s25, int i26] 151] ++ [.row (.slice p27 l29.length c28) 5 1 l29.length (cells enc_byte l29), .blk b4 [ptr x_c_b0 0, .slice p27 l29.length c28] 195]) from hO) rfl hF hG.size) ((show Dk.Own w0 F _ ([.blk x_c_b0 [str s25, int i26] 151] ++ [.row (.slice p27 l29.length c28) 5 1 l29.length (cells enc_byte l29), .blk b4 [ptr x_c_b0 0, .slice p27 l29.length c28] 195]) from hO).lend rfl trivial) hr32) ?_
 rintro e w' ⟨he, hO'⟩
 refine ⟨_, he, fun a hf => ?_⟩
 have hO := (show Dk.Own w0 F _ ([.blk x_c_b0 [str s25, int i26] 151] ++ [.row (.slice p27 l29.length c28) 5 1 l29.length (cells enc_byte l29), .blk b4 [ptr x_c_b0 0, .slice p27 l29.length c28] 195]) from hO).back rfl hO' rfl
 refine wpList_nil ?_
 refine nor_then (hK33 _ _ ?_)
 refine wp_seq_k fun _ hK34 => ?_
 refine wp_region_list ?_
 refine op_as hf rfl rfl fun a hf => ?_
 refine op_as hf rfl rfl fun a hf => ?_
 refine wpList_nil ?_
 refine nor_then (hK34 _ _ ?_)
 refine wp_ret ?_
 refine ret_then ?_
 obtain rfl := Option.some.inj hm
 exact post_ret Tryz.results146 hf (.tmp rfl (.tmp rfl .nil)) ⟨rfl, (hO.sub (.cons_cons _ (.cons _ (.cons _ .slnil))))⟩
 have hm := ie hc31 hm
 refine wp_skip ?_
 refine nor_then (hK35 _ _ ?_)
 refine wp_seq_k fun _ hK36 => ?_
 refine wp_region_list ?_
 refine op_mv hf rfl rfl fun a hf => ?_
 refine op_val (ex_nilCheck hf rfl) rfl hf rfl rfl fun a hf => ?_
 refine op_val (ex_field fa_195_1 hf rfl) rfl hf rfl rfl fun a hf => ?_
 refine op_val (ex_load1 (o := 1) ag_49 (hO.blkSees (i := 2) rfl) rfl hf rfl) rfl hf rfl rfl fun a hf => ?_
 refine op_val (ex_conv_bs (en := enc_byte) (l := l29) (fun _ => rfl) Tryz.underlying9 Tryz.underlying49 Tryz.underlying5 (hO.rowSees (i := 1) rfl) hf rfl) rfl hf rfl rfl fun a hf => ?_
 refine op_as hf rfl rfl fun a hf => ?_
 refine op_as hf rfl rfl fun a hf => ?_
 refine wpList_nil ?_
 refine nor_then (hK36 _ _ ?_)
 refine wp_ret ?_
 obtain rfl := Option.some.inj hm
 exact post_ret Tryz.results146 hf (.tmp rfl (.tmp rfl .nil)) ⟨rfl, (hO.sub (.cons_cons _ (.cons _ (.cons _ .slnil))))⟩

set_option maxHeartbeats 1000000 in
theorem w_commas_splitter_step (x_p : commas_splitter) (R : Bool × commas_splitter) (w0 : World) (hG : Glob w0) {x_p_b0 : Nat} {x_p_b1 : Nat} {x_p_p2 : Option Addr} {x_p_c2 : Nat} {F : List Nat} (hF : Away F) (hO : Dk.Own w0 F w0 [.blk x_p_b0 [ptr x_p_b1 0, .slice x_p_p2 x_p.f_out.length x_p_c2, int x_p.f_from, str x_p.f_s] 134, .blk x_p_b1 [str x_p.Scanner.f_s, int x_p.Scanner.f_at] 151, .row (.slice x_p_p2 x_p.f_out.length x_p_c2) 9 1 x_p.f_out.length (cells enc_str x_p.f_out)]) (hm : commas_splitter_step x_p = some R) :
    Calls Tryz.prog 96 #[ptr x_p_b0 0] w0 fun e w' => ∃ (p0 : Option Addr) (c0 : Nat), e = .returned (.bool R.1) ∧ Dk.Own w0 F w' [.blk x_p_b0 [ptr x_p_b1 0, .slice p0 R.2.f_out.length c0, int R.2.f_from, str R.2.f_s] 134, .blk x_p_b1 [str R.2.Scanner.f_s, int R.2.Scanner.f_at] 151, .row (.slice p0 R.2.f_out.length c0) 9 1 R.2.f_out.length (cells enc_str R.2.f_out)] := by
 rw [commas_splitter_step] at hm
 refine calls_enter (vs := [ptr x_p_b0 0]) Tryz.func96 rfl Tryz.ntmps96 rfl fun a hf => ?_
 refine wp_seq_k fun _ hK1 => ?_
 refine wp_region_list ?_
 refine op_as hf rfl rfl fun a hf => ?_
 refine wpList_nil ?_
 refine nor_then (hK1 _ _ ?_)
 refine wp_seq_k fun _ hK3 => ?_
 refine wp_region_list ?_
 refine op_mv hf rfl rfl fun a hf => ?_
 refine op_val (ex_nilCheck hf rfl) rfl hf rfl rfl fun a hf => ?_
 refine op_val (ex_field fa_134_0 hf rfl) rfl hf rfl rfl fun a hf => ?_
 refine op_val (ex_load1 (o := 0) ag_105 (hO.blkSees (i := 0) rfl) rfl hf rfl) rfl hf rfl rfl fun a hf => ?_
 obtain ⟨r2, hr2, hm⟩ := ob hm
 refine op_enter (ex_call c_126 hf (vs := [ptr x_p_b1 0]) rfl) rfl hf rfl rfl (w_scan_Scanner_At x_p.Scanner r2 _ (hG.own hF hO) (hO.blkSees (i := 1) rfl) hr2) ?_
 rintro e w' ⟨he, hb⟩
 refine ⟨_, he, fun a hf => ?_⟩
 have hO := hO.grow hb
 refine op_as hf rfl rfl fun a hf => ?_
 refine wpList_nil ?_
 refine nor_then (hK3 _ _ ?_)
 refine wp_seq_cut (fun a w => ∃ (p26 : Option Addr) (c27 : Nat) (l28 : List Str) (i29 : Int) (s30 : Str) (s31 : Str) (i32 : Int), Fits 55 [] a ∧ Dk.Own w0 F w [.blk x_p_b0 [ptr x_p_b1 0, .slice p26 l28.length c27, int i29, str s30] 134, .blk x_p_b1 [str s31, int i32] 151, .row (.slice p26 l28.length c27) 9 1 l28.length (cells enc_str l28)] ∧ commas_splitter_step_j1 l28 i29 s30 s31 i32 = some R) ?_ ?_
 refine wp_block ?_
 refine wp_seq_k fun _ hK5 => ?_
 refine wp_region_list ?_
 refine op_mv hf rfl rfl fun a hf => ?_
 refine op_val (ex_nilCheck hf rfl) rfl hf rfl rfl fun a hf => ?_
 refine op_val (ex_field fa_134_0 hf rfl) rfl hf rfl rfl fun a hf => ?_
 refine op_val (ex_load1 (o := 0) ag_105 (hO.blkSees (i := 0) rfl) rfl hf rfl) rfl hf rfl rfl fun a hf => ?_
 obtain ⟨r4, hr4, hm⟩ := ob hm
 refine op_enter (ex_call c_70 hf (vs := [ptr x_p_b1 0, byte 44]) rfl) rfl hf rfl rfl (w_scan_Scanner_Byte x_p.Scanner 44 r4 _ (hG.own hF hO) (Dk.Own.far (show Dk.Own w0 F _ ([.blk x_p_b1 [str x_p.Scanner.f_s, int x_p.Scanner.f_at] 151] ++ [.blk x_p_b0 [ptr x_p_b1 0, .slice x_p_p2 x_p.f_out.length x_p_c2, int x_p.f_from, str x_p.f_s] 134, .row (.slice x_p_p2 x_p.f_out.length x_p_c2) 9 1 x_p.f_out.length (cells enc_str x_p.f_out)]) from hO.choose [1, 0, 2] rfl) rfl hF hG.size) ((show Dk.Own w0 F _ ([.blk x_p_b1 [str x_p.Scanner.f_s, int x_p.Scanner.f_at] 151] ++ [.blk x_p_b0 [ptr x_p_b1 0, .slice x_p_p2 x_p.f_out.length x_p_c2, int x_p.f_from, str x_p.f_s] 134, .row (.slice x_p_p2 x_p.f_out.length x_p_c2) 9 1 x_p.f_out.length (cells enc_str x_p.f_out)]) from hO.choose [1, 0, 2] rfl).lend rfl trivial) hr4) ?_
 rintro e w' ⟨he, hO'⟩
 refine ⟨_, he, fun a hf => ?_⟩
 have hO := (show Dk.Own w0 F _ ([.blk x_p_b1 [str x_p.Scanner.f_s, int x_p.Scanner.f_at] 151] ++ [.blk x_p_b0 [ptr x_p_b1 0, .slice x_p_p2 x_p.f_out.length x_p_c2, int x_p.f_from, str x_p.f_s] 134, .row (.slice x_p_p2 x_p.f_out.length x_p_c2) 9 1 x_p.f_out.length (cells enc_str x_p.f_out)]) from hO.choose [1, 0, 2] rfl).back rfl hO' rfl
 refine op_as hf rfl rfl fun a hf => ?_
 refine wpList_nil ?_
 refine nor_then (hK5 _ _ ?_)
 refine wp_cond_cut hf rfl (fun hc6 => ?_) (fun hc6 => ?_)
 have hm := it hc6 hm
 refine wp_region_list ?_
 refine op_mv hf rfl rfl fun a hf => ?_
 refine op_mv hf rfl rfl fun a hf => ?_
 obtain ⟨r7, hr7, hm⟩ := ob hm
 refine op_enter (ex_call c_97 hf (vs := [ptr x_p_b0 0, int r2]) rfl) rfl hf rfl rfl (w_commas_splitter_end (⟨r4.2, x_p.f_out, x_p.f_from, x_p.f_s⟩ : commas_splitter) r2 r7 _ (hG.own hF hO) (Dk.Own.far (show Dk.Own w0 F _ ([.blk x_p_b0 [ptr x_p_b1 0, .slice x_p_p2 x_p.f_out.length x_p_c2, int x_p.f_from, str x_p.f_s] 134, .blk x_p_b1 [str r4.2.f_s, int r4.2.f_at] 151, .row (.slice x_p_p2 x_p.f_out.length x_p_c2) 9 1 x_p.f_out.length (cells enc_str x_p.f_out)] ++ []) from hO.choose [1, 0, 2] rfl) rfl hF hG.size) ((show Dk.Own w0 F _ ([.blk x_p_b0 [ptr x_p_b1 0, .slice x_p_p2 x_p.f_out.length x_p_c2, int x_p.f_from, str x_p.f_s] 134, .blk x_p_b1 [str r4.2.f_s, int r4.2.f_at] 151, .row (.slice x_p_p2 x_p.f_out.length x_p_c2) 9 1 x_p.f_out.length (cells enc_str x_p.f_out)] ++ []) from hO.choose [1, 0, 2] rfl).lend rfl trivial) hr7) ?_
 rintro e w' ⟨p8, c9, he, hO'⟩
 refine ⟨_, he, fun a hf => ?_⟩
 have hO := (show Dk.Own w0 F _ ([.blk x_p_b0 [ptr x_p_b1 0, .slice x_p_p2 x_p.f_out.length x_p_c2, int x_p.f_from, str x_p.f_s] 134, .blk x_p_b1 [str r4.2.f_s, int r4.2.f_at] 151, .row (.slice x_p_p2 x_p.f_out.length x_p_c2) 9 1 x_p.f_out.length (cells enc_str x_p.f_out)] ++ []) from hO.choose [1, 0, 2] rfl).back rfl hO' rfl
 refine wpList_nil ?_
 refine nor_block ?_
 refine nor_then ?_
 exact ⟨p8, c9, r7.f_out, r7.f_from, r7.f_s, r7.Scanner.f_s, r7.Scanner.f_at, hf.nil, hO, hm⟩
 have hm := ie hc6 hm
 refine wp_seq_k fun _ hK11 => ?_
 refine wp_region_list ?_
 refine op_mv hf rfl rfl fun a hf => ?_
 refine op_val (ex_nilCheck hf rfl) rfl hf rfl rfl fun a hf => ?_
 refine op_val (ex_field fa_134_0 hf rfl) rfl hf rfl rfl fun a hf => ?_
 refine op_val (ex_load1 (o := 0) ag_105 (hO.blkSees (i := 1) rfl) rfl hf rfl) rfl hf rfl rfl fun a hf => ?_
 obtain ⟨r10, hr10, hm⟩ := ob hm
 refine op_enter (ex_call c_70 hf (vs := [ptr x_p_b1 0, byte 40]) rfl) rfl hf rfl rfl (w_scan_Scanner_Byte r4.2 40 r10 _ (hG.own hF hO) (Dk.Own.far (show Dk.Own w0 F _ ([.blk x_p_b1 [str r4.2.f_s, int r4.2.f_at] 151] ++ [.blk x_p_b0 [ptr x_p_b1 0, .slice x_p_p2 x_p.f_out.length x_p_c2, int x_p.f_from, str x_p.f_s] 134, .row (.slice x_p_p2 x_p.f_out.length x_p_c2) 9 1 x_p.f_out.length (cells enc_str x_p.f_out)]) from hO) rfl hF hG.size) ((show Dk.Own w0 F _ ([.blk x_p_b1 [str r4.2.f_s, int r4.2.f_at] 151] ++ [.blk x_p_b0 [ptr x_p_b1 0, .slice x_p_p2 x_p.f_out.length x_p_c2, int x_p.f_from, str x_p.f_s] 134, .row (.slice x_p_p2 x_p.f_out.length x_p_c2) 9 1 x_p.f_out.length (cells enc_str x_p.f_out)]) from hO).lend rfl trivial) hr10) ?_
 rintro e w' ⟨he, hO'⟩
 refine ⟨_, he, fun a hf => ?_⟩
 have hO := (show Dk.Own w0 F _ ([.blk x_p_b1 [str r4.2.f_s, int r4.2.f_at] 151] ++ [.blk x_p_b0 [ptr x_p_b1 0, .slice x_p_p2 x_p.f_out.length x_p_c2, int x_p.f_from, str x_p.f_s] 134, .row (.slice x_p_p2 x_p.f_out.length x_p_c2) 9 1 x_p.f_out.length (cells enc_str x_p.f_out)]) from hO).back rfl hO' rfl
 refine op_as hf rfl rfl fun a hf => ?_
 refine wpList_nil ?_
 refine nor_then (hK11 _ _ ?_)
 refine wp_cond_cut hf rfl (fun hc12 => ?_) (fun hc12 => ?_)
 have hm := it hc12 hm
 refine wp_seq_k fun _ hK16 => ?_
 refine wp_region_list ?_
 refine op_mv hf rfl rfl fun a hf => ?_
 obtain ⟨r13, hr13, hm⟩ := ob hm
 refine op_enter (ex_call c_145 hf (vs := [ptr x_p_b0 0]) rfl) rfl hf rfl rfl (w_commas_splitter_comment (⟨r10.2, x_p.f_out, x_p.f_from, x_p.f_s⟩ : commas_splitter) r13 _ (hG.own hF hO) (Dk.Own.far (show Dk.Own w0 F _ ([.blk x_p_b0 [ptr x_p_b1 0, .slice x_p_p2 x_p.f_out.length x_p_c2, int x_p.f_from, str x_p.f_s] 134, .blk x_p_b1 [str r10.2.f_s, int r10.2.f_at] 151, .row (.slice x_p_p2 x_p.f_out.length x_p_c2) 9 1 x_p.f_out.length (cells enc_str x_p.f_out)] ++ []) from hO.choose [1, 0, 2] rfl) rfl hF hG.size) ((show Dk.Own w0 F _ ([.blk x_p_b0 [ptr x_p_b1 0, .slice x_p_p2 x_p.f_out.length x_p_c2, int x_p.f_from, str x_p.f_s] 134, .blk x_p_b1 [str r10.2.f_s, int r10.2.f_at] 151, .row (.slice x_p_p2 x_p.f_out.length x_p_c2) 9 1 x_p.f_out.length (cells enc_str x_p.f_out)] ++ []) from hO.choose [1, 0, 2] rfl).lend rfl trivial) hr13) ?_
 rintro e w' ⟨p14, c15, he, hO'⟩
 refine ⟨_, he, fun a hf => ?_⟩
 have hO := (show Dk.Own w0 F _ ([.blk x_p_b0 [ptr x_p_b1 0, .slice x_p_p2 x_p.f_out.length x_p_c2, int x_p.f_from, str x_p.f_s] 134, .blk x_p_b1 [str r10.2.f_s, int r10.2.f_at] 151, .row (.slice x_p_p2 x_p.f_out.length x_p_c2) 9 1 x_p.f_out.length (cells enc_str x_p.f_out)] ++ []) from hO.choose [1, 0, 2] rfl).back rfl hO' rfl
 refine op_as hf rfl rfl fun a hf => ?_
 refine wpList_nil ?_
 refine nor_then (hK16 _ _ ?_)
 refine wp_ret ?_
 refine ret_block ?_
 refine ret_then ?_
 obtain rfl := Option.some.inj hm
 exact post_ret Tryz.results96 hf (.tmp rfl .nil) ⟨p14, c15, rfl, hO⟩
 have hm := ie hc12 hm
 refine wp_seq_k fun _ hK18 => ?_
 refine wp_region_list ?_
 refine op_mv hf rfl rfl fun a hf => ?_
 refine op_val (ex_nilCheck hf rfl) rfl hf rfl rfl fun a hf => ?_
 refine op_val (ex_field fa_134_0 hf rfl) rfl hf rfl rfl fun a hf => ?_
 refine op_val (ex_load1 (o := 0) ag_105 (hO.blkSees (i := 1) rfl) rfl hf rfl) rfl hf rfl rfl fun a hf => ?_
 obtain ⟨r17, hr17, hm⟩ := ob hm
 refine op_enter (ex_call c_125 hf (vs := [ptr x_p_b1 0]) rfl) rfl hf rfl rfl (w_scan_Scanner_Peek r10.2 r17 _ (hG.own hF hO) (hO.blkSees (i := 0) rfl) hr17) ?_
 rintro e w' ⟨he, hb⟩
 refine ⟨_, he, fun a hf => ?_⟩
 have hO := hO.grow hb
 refine op_mv hf rfl rfl fun a hf => ?_
 refine op_val (ex_extract hf rfl rfl) rfl hf rfl rfl fun a hf => ?_
 refine op_val (ex_extract hf rfl rfl) rfl hf rfl rfl fun a hf => ?_
 refine op_as hf rfl rfl fun a hf => ?_
 refine op_as hf rfl rfl fun a hf => ?_
 refine wpList_nil ?_
 refine nor_then (hK18 _ _ ?_)
 refine wp_seq_k fun _ hK24 => ?_
 refine wp_seq_k fun _ hK19 => ?_
 refine wp_region_list ?_
 refine op_mv hf rfl rfl fun a hf => ?_
 refine op_val (ex_eql_b (b := r17.1) (c := 34) hf rfl rfl) rfl hf rfl rfl fun a hf => ?_
 refine wpList_nil ?_
 refine nor_then (hK19 _ _ ?_)
 refine wp_cond_cut hf rfl (fun hc20 => ?_) (fun hc20 => ?_)
 have hm := it hc20 hm
 refine wp_seq_k fun _ hK22 => ?_
 refine wp_region_list ?_
 refine op_mv hf rfl rfl fun a hf => ?_
 refine op_val (ex_nilCheck hf rfl) rfl hf rfl rfl fun a hf => ?_
 refine op_val (ex_field fa_134_0 hf rfl) rfl hf rfl rfl fun a hf => ?_
 refine op_val (ex_load1 (o := 0) ag_105 (hO.blkSees (i := 1) rfl) rfl hf rfl) rfl hf rfl rfl fun a hf => ?_
 obtain ⟨r21, hr21, hm⟩ := ob hm
 refine op_enter (ex_call c_146 hf (vs := [ptr x_p_b1 0]) rfl) rfl hf rfl rfl (w_quoted_Read r10.2 r21 _ (hG.own hF hO) (Dk.Own.far (show Dk.Own w0 F _ ([.blk x_p_b1 [str r10.2.f_s, int r10.2.f_at] 151] ++ [.blk x_p_b0 [ptr x_p_b1 0, .slice x_p_p2 x_p.f_out.length x_p_c2, int x_p.f_from, str x_p.f_s] 134, .row (.slice x_p_p2 x_p.f_out.length x_p_c2) 9 1 x_p.f_out.length (cells enc_str x_p.f_out)]) from hO) rfl hF hG.size) ((show Dk.Own w0 F _ ([.blk x_p_b1 [str r10.2.f_s, int r10.2.f_at] 151] ++ [.blk x_p_b0 [ptr x_p_b1 0, .slice x_p_p2 x_p.f_out.length x_p_c2, int x_p.f_from, str x_p.f_s] 134, .row (.slice x_p_p2 x_p.f_out.length x_p_c2) 9 1 x_p.f_out.length (cells enc_str x_p.f_out)]) from hO).lend rfl trivial) hr21) ?_
 rintro e w' ⟨he, hO'⟩
 refine ⟨_, he, fun a hf => ?_⟩
 have hO := (show Dk.Own w0 F _ ([.blk x_p_b1 [str r10.2.f_s, int r10.2.f_at] 151] ++ [.blk x_p_b0 [ptr x_p_b1 0, .slice x_p_p2 x_p.f_out.length x_p_c2, int x_p.f_from, str x_p.f_s] 134, .row (.slice x_p_p2 x_p.f_out.length x_p_c2) 9 1 x_p.f_out.length (cells enc_str x_p.f_out)]) from hO).back rfl hO' rfl
 refine op_mv hf rfl rfl fun a hf => ?_
 refine op_val (ex_extract hf rfl rfl) rfl hf rfl rfl fun a hf => ?_
 refine op_val (ex_extract hf rfl rfl) rfl hf rfl rfl fun a hf => ?_
 refine op_as hf rfl rfl fun a hf => ?_
 refine op_as hf rfl rfl fun a hf => ?_
 refine wpList_nil ?_
 refine nor_then (hK22 _ _ ?_)
 refine wp_seq_k fun _ hK23 => ?_
 refine wp_region_list ?_
 refine op_mv hf rfl rfl fun a hf => ?_
 refine op_as hf rfl rfl fun a hf => ?_
 refine wpList_nil ?_
 refine nor_then (hK23 _ _ ?_)
 refine wp_ret ?_
 refine ret_then ?_
 refine ret_block ?_
 refine ret_then ?_
 obtain rfl := Option.some.inj hm
 exact post_ret Tryz.results96 hf (.tmp rfl .nil) ⟨x_p_p2, x_p_c2, rfl, (hO.choose [1, 0, 2] rfl)⟩
 have hm := ie hc20 hm
 refine wp_skip ?_
 refine nor_then (hK24 _ _ ?_)
 refine wp_region_list ?_
 refine op_mv hf rfl rfl fun a hf => ?_
 refine op_val (ex_nilCheck hf rfl) rfl hf rfl rfl fun a hf => ?_
 refine op_val (ex_field fa_134_0 hf rfl) rfl hf rfl rfl fun a hf => ?_
 refine op_val (ex_load1 (o := 0) ag_105 (hO.blkSees (i := 1) rfl) rfl hf rfl) rfl hf rfl rfl fun a hf => ?_
 refine op_mv hf rfl rfl fun a hf => ?_
 obtain ⟨r25, hr25, hm⟩ := ob hm
 refine op_enter (ex_call c_70 hf (vs := [ptr x_p_b1 0, byte r17.1]) rfl) rfl hf rfl rfl (w_scan_Scanner_Byte r10.2 r17.1 r25 _ (hG.own hF hO) (Dk.Own.far (show Dk.Own w0 F _ ([.blk x_p_b1 [str r10.2.f_s, int r10.2.f_at] 151] ++ [.blk x_p_b0 [ptr x_p_b1 0, .slice x_p_p2 x_p.f_out.length x_p_c2, int x_p.f_from, str x_p.f_s] 134, .row (.slice x_p_p2 x_p.f_out.length x_p_c2) 9 1 x_p.f_out.length (cells enc_str x_p.f_out)]) from hO) rfl hF hG.size) ((show Dk.Own w0 F _ ([.blk x_p_b1 [str r10.2.f_s, int r10.2.f_at] 151] ++ [.blk x_p_b0 [ptr x_p_b1 0, .slice x_p_p2 x_p.f_out.length x_p_c2, int x_p.f_from, str x_p.f_s] 134, .row (.slice x_p_p2 x_p.f_out.length x_p_c2) 9 1 x_p.f_out.length (cells enc_str x_p.f_out)]) from hO).lend rfl trivial) hr25) ?_
 rintro e w' ⟨he, hO'⟩
 refine ⟨_, he, fun a hf => ?_⟩
 have hO := (show Dk.Own w0 F _ ([.blk x_p_b1 [str r10.2.f_s, int r10.2.f_at] 151] ++ [.blk x_p_b0 [ptr x_p_b1 0, .slice x_p_p2 x_p.f_out.length x_p_c2, int x_p.f_from, str x_p.f_s] 134, .row (.slice x_p_p2 x_p.f_out.length x_p_c2) 9 1 x_p.f_out.length (cells enc_str x_p.f_out)]) from hO).back rfl hO' rfl
 refine wpList_nil ?_
 refine nor_block ?_
 refine nor_then ?_
 exact ⟨x_p_p2, x_p_c2, x_p.f_out, x_p.f_from, x_p.f_s, r25.2.f_s, r25.2.f_at, hf.nil, (hO.choose [1, 0, 2] rfl), hm⟩
 rintro a w ⟨p26, c27, l28, i29, s30, s31, i32, hf, hO, hm⟩
 rw [commas_splitter_step_j1] at hm
 refine wp_seq_k fun _ hK33 => ?_
 refine wp_region_list ?_
 refine op_as hf rfl rfl fun a hf => ?_
 refine wpList_nil ?_
 refine nor_then (hK33 _ _ ?_)
 refine wp_ret ?_
 obtain rfl := Option.some.inj hm
 exact post_ret Tryz.results96 hf (.tmp rfl .nil) ⟨p26, c27, rfl, hO⟩

set_option maxHeartbeats 1000000 in
theorem w_commas_Split (x_s : Str) (R : List Str × Int) (w0 : World) (hG : Glob w0) (hm : commas_Split x_s = some R) :
    Calls Tryz.prog 47 #[str x_s] w0 fun e w' => ∃ (p0 : Option Addr) (c0 : Nat), e = .returned (.tuple #[.slice p0 R.1.length c0, int R.2]) ∧ Dk.Own w0 [] w' [.row (.slice p0 R.1.length c0) 9 1 R.1.length (cells enc_str R.1)] := by
 rw [commas_Split] at hm
 refine calls_enter (vs := [str x_s]) Tryz.func47 rfl Tryz.ntmps47 rfl fun a hf => ?_
 have hF : Away [] := away_nil
 have hO : Dk.Own w0 [] w0 [] := Dk.Own.refl w0
 refine wp_seq_k fun _ hK1 => ?_
 refine wp_region_list ?_
 have hO := hO.nilRow 9 1
 refine op_as hf rfl rfl fun a hf => ?_
 refine op_as hf rfl rfl fun a hf => ?_
 refine wpList_nil ?_
 refine nor_then (hK1 _ _ ?_)
 refine wp_seq_k fun _ hK5 => ?_
 refine wp_region_list ?_
 refine op_mv hf rfl rfl fun a hf => ?_
 obtain ⟨r2, hr2, hm⟩ := ob hm
 refine op_enter (ex_call c_68 hf (vs := [str x_s]) rfl) rfl hf rfl rfl (w_scan_New x_s r2 _ (hG.own hF hO) hr2) ?_
 rintro e w' ⟨b3, he, hO'⟩
 refine ⟨_, he, fun a hf => ?_⟩
 have hO := hO.call hO' (by simp [Res.shared])
 refine op_mv hf rfl rfl fun a hf => ?_
 refine op_val (ex_build (vs := [(0, ptr b3 0), (3, str x_s)]) (v := .agg #[ptr b3 0, .slice none 0 0, int 0, str x_s]) hf rfl (by kernel_rfl)) rfl hf rfl rfl fun a hf => ?_
 refine op_box (v := .agg #[ptr b3 0, .slice none 0 0, int 0, str x_s]) (cs := [ptr b3 0, .slice none 0 0, int 0, str x_s]) rfl hf rfl rfl hO fun a b4 w hf hO => ?_
 have hO := hO.nilRow 9 1
 refine op_as hf rfl rfl fun a hf => ?_
 refine wpList_nil ?_
 refine nor_then (hK5 _ _ ?_)
 refine wp_seq_cut (fun a w => ∃ (p23 : Option Addr) (c24 : Nat) (l25 : List Str) (i26 : Int) (s27 : Str) (s28 : Str) (i29 : Int), Fits 27 [(0, str x_s), (4, ptr b4 0)] a ∧ Dk.Own w0 [] w [.row (.slice p23 l25.length c24) 9 1 l25.length (cells enc_str l25), .blk b4 [ptr b3 0, .slice p23 l25.length c24, int i26, str s27] 134, .blk b3 [str s28, int i29] 151, .row (.slice none 0 0) 9 1 0 (cells enc_str [])] ∧ commas_Split_j2 x_s l25 i26 s27 s28 i29 = some R) ?_ ?_
 refine wp_block ?_
 refine wp_loop_n (fun k a w => ∃ (p6 : Option Addr) (c7 : Nat) (l8 : List Str) (i9 : Int) (s10 : Str) (s11 : Str) (i12 : Int), Fits 27 [(0, str x_s), (4, ptr b4 0)] a ∧ Dk.Own w0 [] w [.row (.slice p6 l8.length c7) 9 1 l8.length (cells enc_str l8), .blk b4 [ptr b3 0, .slice p6 l8.length c7, int i9, str s10] 134, .blk b3 [str s11, int i12] 151, .row (.slice none 0 0) 9 1 0 (cells enc_str [])] ∧ commas_Split_L1 x_s k l8 i9 s10 s11 i12 = some R) ?_ fuel ?_
 rintro n1 a w ⟨p6, c7, l8, i9, s10, s11, i12, hf, hO, hm⟩
 obtain _ | n1 := n1
 rw [commas_Split_L1] at hm
 cases hm
 rw [commas_Split_L1] at hm
 refine wp_seq_k fun _ hK16 => ?_
 refine wp_seq_k fun _ hK14 => ?_
 refine wp_region_list ?_
 refine op_mv hf rfl rfl fun a hf => ?_
 refine op_val (ex_nilCheck hf rfl) rfl hf rfl rfl fun a hf => ?_
 refine op_val (ex_field fa_134_0 hf rfl) rfl hf rfl rfl fun a hf => ?_
 refine op_val (ex_load1 (o := 0) ag_105 (hO.blkSees (i := 1) rfl) rfl hf rfl) rfl hf rfl rfl fun a hf => ?_
 obtain ⟨r13, hr13, hm⟩ := ob hm
 refine op_enter (ex_call c_75 hf (vs := [ptr b3 0]) rfl) rfl hf rfl rfl (w_scan_Scanner_End (⟨s11, i12⟩ : scan_Scanner) r13 _ (hG.own hF hO) (hO.blkSees (i := 2) rfl) hr13) ?_
 rintro e w' ⟨he, hb⟩
 refine ⟨_, he, fun a hf => ?_⟩
 have hO := hO.grow hb
 refine op_val (ex_not hf rfl) rfl hf rfl rfl fun a hf => ?_
 refine wpList_nil ?_
 refine nor_then (hK14 _ _ ?_)
 refine wp_cond_cut hf rfl (fun hc15 => ?_) (fun hc15 => ?_)
 have hm := it hc15 hm
 refine wp_skip ?_
 refine nor_then (hK16 _ _ ?_)
 refine wp_block ?_
 refine wp_seq_k fun _ hK20 => ?_
 refine wp_region_list ?_
 refine op_mv hf rfl rfl fun a hf => ?_
 obtain ⟨r17, hr17, hm⟩ := ob hm
 refine op_enter (ex_call c_96 hf (vs := [ptr b4 0]) rfl) rfl hf rfl rfl (w_commas_splitter_step ((⟨(⟨s11, i12⟩ : scan_Scanner), l8, i9, s10⟩ : commas_splitter)) r17 _ (hG.own hF hO) (Dk.Own.far (show Dk.Own w0 [] _ ([.blk b4 [ptr b3 0, .slice p6 l8.length c7, int i9, str s10] 134, .blk b3 [str s11, int i12] 151, .row (.slice p6 l8.length c7) 9 1 l8.length (cells enc_str l8)] ++ [.row (.slice none 0 0) 9 1 0 (cells enc_str [])]) from hO.choose [1, 2, 0, 3] rfl) rfl hF hG.size) ((show Dk.Own w0 [] _ ([.blk b4 [ptr b3 0, .slice p6 l8.length c7, int i9, str s10] 134, .blk b3 [str s11, int i12] 151, .row (.slice p6 l8.length c7) 9 1 l8.length (cells enc_str l8)] ++ [.row (.slice none 0 0) 9 1 0 (cells enc_str [])]) from hO.choose [1, 2, 0, 3] rfl).lend rfl trivial) hr17) ?_
 rintro e w' ⟨p18, c19, he, hO'⟩
 refine ⟨_, he, fun a hf => ?_⟩
 have hO := (show Dk.Own w0 [] _ ([.blk b4 [ptr b3 0, .slice p6 l8.length c7, int i9, str s10] 134, .blk b3 [str s11, int i12] 151, .row (.slice p6 l8.length c7) 9 1 l8.length (cells enc_str l8)] ++ [.row (.slice none 0 0) 9 1 0 (cells enc_str [])]) from hO.choose [1, 2, 0, 3] rfl).back rfl hO' rfl
 refine op_val (ex_not hf rfl) rfl hf rfl rfl fun a hf => ?_
 refine wpList_nil ?_
 refine nor_then (hK20 _ _ ?_)
 refine wp_cond_cut hf rfl (fun hc21 => ?_) (fun hc21 => ?_)
 have hm := it hc21 hm
 refine wp_seq_k fun _ hK22 => ?_
 refine wp_region_list ?_
 have hO := hO.nilRow 9 1
 refine op_as hf rfl rfl fun a hf => ?_
 refine op_as hf rfl rfl fun a hf => ?_
 refine wpList_nil ?_
 refine nor_then (hK22 _ _ ?_)
 refine wp_ret ?_
 refine ret_block ?_
 refine ret_then ?_
 refine ret_block ?_
 refine ret_then ?_
 obtain rfl := Option.some.inj hm
 exact post_ret Tryz.results47 hf (.tmp rfl (.tmp rfl .nil)) ⟨none, 0, rfl, (hO.sub (.cons_cons _ (.cons _ (.cons _ (.cons _ (.cons _ .slnil))))))⟩
 have hm := ie hc21 hm
 refine wp_skip ?_
 refine nor_block ?_
 refine nor_then ?_
 exact ⟨_, Nat.lt_succ_self _, p18, c19, r17.2.f_out, r17.2.f_from, r17.2.f_s, r17.2.Scanner.f_s, r17.2.Scanner.f_at, (hf.cons rfl (hf.cons rfl hf.nil)), (hO.choose [2, 0, 1, 3] rfl), hm⟩
 have hm := ie hc15 hm
 refine wp_exit ?_
 refine exit_then ?_
 refine exit_then ?_
 refine exit_here ?_
 refine nor_then ?_
 exact ⟨p6, c7, l8, i9, s10, s11, i12, (hf.cons rfl (hf.cons rfl hf.nil)), hO, hm⟩
 exact ⟨none, 0, [], 0, x_s, r2.f_s, r2.f_at, (hf.cons rfl (hf.cons rfl hf.nil)), hO, hm⟩
 rintro a w ⟨p23, c24, l25, i26, s27, s28, i29, hf, hO, hm⟩
 rw [commas_Split_j2] at hm
 refine wp_seq_k fun _ hK33 => ?_
 refine wp_region_list ?_
 refine op_mv hf rfl rfl fun a hf => ?_
 refine op_mv hf rfl rfl fun a hf => ?_
 refine op_val (ex_len_s (l := x_s) Tryz.underlying9 hf rfl) rfl hf rfl rfl fun a hf => ?_
 obtain ⟨r30, hr30, hm⟩ := ob hm
 refine op_enter (ex_call c_97 hf (vs := [ptr b4 0, int (x_s.length : Int)]) rfl) rfl hf rfl rfl (w_commas_splitter_end ((⟨(⟨s28, i29⟩ : scan_Scanner), l25, i26, s27⟩ : commas_splitter)) (x_s.length : Int) r30 _ (hG.own hF hO) (Dk.Own.far (show Dk.Own w0 [] _ ([.blk b4 [ptr b3 0, .slice p23 l25.length c24, int i26, str s27] 134, .blk b3 [str s28, int i29] 151, .row (.slice p23 l25.length c24) 9 1 l25.length (cells enc_str l25)] ++ [.row (.slice none 0 0) 9 1 0 (cells enc_str [])]) from hO.choose [1, 2, 0, 3] rfl) rfl hF hG.size) ((show Dk.Own w0 [] _ ([.blk b4 [ptr b3 0, .slice p23 l25.length c24, int i26, str s27] 134, .blk b3 [str s28, int i29] 151, .row (.slice p23 l25.length c24) 9 1 l25.length (cells enc_str l25)] ++ [.row (.slice none 0 0) 9 1 0 (cells enc_str [])]) from hO.choose [1, 2, 0, 3] rfl).lend rfl trivial) hr30) ?_
 rintro e w' ⟨p31, c32, he, hO'⟩
 refine ⟨_, he, fun a hf => ?_⟩
 have hO := (show Dk.Own w0 [] _ ([.blk b4 [ptr b3 0, .slice p23 l25.length c24, int i26, str s27] 134, .blk b3 [str s28, int i29] 151, .row (.slice p23 l25.length c24) 9 1 l25.length (cells enc_str l25)] ++ [.row (.slice none 0 0) 9 1 0 (cells enc_str [])]) from hO.choose [1, 2, 0, 3] rfl).back rfl hO' rfl
 refine wpList_nil ?_
 refine nor_then (hK33 _ _ ?_)
 refine wp_seq_k fun _ hK34 => ?_
 refine wp_region_list ?_
 refine op_mv hf rfl rfl fun a hf => ?_
 refine op_val (ex_nilCheck hf rfl) rfl hf rfl rfl fun a hf => ?_
 refine op_val (ex_field fa_134_1 hf rfl) rfl hf rfl rfl fun a hf => ?_
 refine op_val (ex_load1 (o := 1) ag_40 (hO.blkSees (i := 0) rfl) rfl hf rfl) rfl hf rfl rfl fun a hf => ?_
 refine op_as hf rfl rfl fun a hf => ?_
 refine op_as hf rfl rfl fun a hf => ?_
 refine wpList_nil ?_
 refine nor_then (hK34 _ _ ?_)
 refine wp_ret ?_
 obtain rfl := Option.some.inj hm
 exact post_ret Tryz.results47 hf (.tmp rfl (.tmp rfl .nil)) ⟨p31, c32, rfl, (hO.sub (.cons _ (.cons _ (.cons_cons _ (.cons _ .slnil)))))⟩

set_option maxHeartbeats 1000000 in
theorem w_stringslite_CutPrefix (x_s : Str) (x_prefix : Str) (R : Str × Bool) (w0 : World) (hG : Glob w0) (hm : stringslite_CutPrefix x_s x_prefix = some R) :
    Calls Tryz.prog 100 #[str x_s, str x_prefix] w0 fun e w' => e = .returned (.tuple #[str R.1, .bool R.2]) ∧ Below w0.heap.size w0 w' := by
 rw [stringslite_CutPrefix] at hm
 refine calls_enter (vs := [str x_s, str x_prefix]) Tryz.func100 rfl Tryz.ntmps100 rfl fun a hf => ?_
 have hF : Away [] := away_nil
 have hO : Dk.Own w0 [] w0 [] := Dk.Own.refl w0
 refine wp_seq_k fun _ hK1 => ?_
 refine wp_region_list ?_
 refine op_as hf rfl rfl fun a hf => ?_
 refine op_as hf rfl rfl fun a hf => ?_
 refine wpList_nil ?_
 refine nor_then (hK1 _ _ ?_)
 refine wp_seq_k fun _ hK6 => ?_
 refine wp_seq_k fun _ hK3 => ?_
 refine wp_region_list ?_
 refine op_mv hf rfl rfl fun a hf => ?_
 refine op_mv hf rfl rfl fun a hf => ?_
 obtain ⟨r2, hr2, hm⟩ := ob hm
 refine op_enter (ex_call c_148 hf (vs := [str x_s, str x_prefix]) rfl) rfl hf rfl rfl (w_stringslite_HasPrefix x_s x_prefix r2 _ (hG.own hF hO) hr2) ?_
 rintro e w' ⟨he, hb⟩
 refine ⟨_, he, fun a hf => ?_⟩
 have hO := hO.grow hb
 refine op_val (ex_not hf rfl) rfl hf rfl rfl fun a hf => ?_
 refine wpList_nil ?_
 refine nor_then (hK3 _ _ ?_)
 refine wp_cond_cut hf rfl (fun hc4 => ?_) (fun hc4 => ?_)
 have hm := it hc4 hm
 refine wp_seq_k fun _ hK5 => ?_
 refine wp_region_list ?_
 refine op_mv hf rfl rfl fun a hf => ?_
 refine op_as hf rfl rfl fun a hf => ?_
 refine op_as hf rfl rfl fun a hf => ?_
 refine wpList_nil ?_
 refine nor_then (hK5 _ _ ?_)
 refine wp_ret ?_
 refine ret_then ?_
 obtain rfl := Option.some.inj hm
 exact post_ret Tryz.results100 hf (.tmp rfl (.tmp rfl .nil)) ⟨rfl, hO.below⟩
 have hm := ie hc4 hm
 refine wp_skip ?_
 refine nor_then (hK6 _ _ ?_)
 refine wp_seq_k fun _ hK8 => ?_
 refine wp_region_list ?_
 refine op_mv hf rfl rfl fun a hf => ?_
 refine op_mv hf rfl rfl fun a hf => ?_
 refine op_val (ex_len_s (l := x_prefix) Tryz.underlying9 hf rfl) rfl hf rfl rfl fun a hf => ?_
 obtain ⟨s7, hs7, hm⟩ := ob hm
 refine op_val (ex_from_s (l := x_s) Tryz.underlying9 hf rfl rfl hs7) rfl hf rfl rfl fun a hf => ?_
 refine op_as hf rfl rfl fun a hf => ?_
 refine op_as hf rfl rfl fun a hf => ?_
 refine wpList_nil ?_
 refine nor_then (hK8 _ _ ?_)
 refine wp_ret ?_
 obtain rfl := Option.some.inj hm
 exact post_ret Tryz.results100 hf (.tmp rfl (.tmp rfl .nil)) ⟨rfl, hO.below⟩

set_option maxHeartbeats 1000000 in
theorem w_strings_CutPrefix (x_s : Str) (x_prefix : Str) (R : Str × Bool) (w0 : World) (hG : Glob w0) (hm : strings_CutPrefix x_s x_prefix = some R) :
    Calls Tryz.prog 49 #[str x_s, str x_prefix] w0 fun e w' => e = .returned (.tuple #[str R.1, .bool R.2]) ∧ Below w0.heap.size w0 w' := by
 rw [strings_CutPrefix] at hm
 refine calls_enter (vs := [str x_s, str x_prefix]) Tryz.func49 rfl Tryz.ntmps49 rfl fun a hf => ?_
 have hF : Away [] := away_nil
 have hO : Dk.Own w0 [] w0 [] := Dk.Own.refl w0
 refine wp_seq_k fun _ hK1 => ?_
 refine wp_region_list ?_
 refine op_as hf rfl rfl fun a hf => ?_
 refine op_as hf rfl rfl fun a hf => ?_
 refine wpList_nil ?_
 refine nor_then (hK1 _ _ ?_)
 refine wp_seq_k fun _ hK3 => ?_
 refine wp_region_list ?_
 refine op_mv hf rfl rfl fun a hf => ?_
 refine op_mv hf rfl rfl fun a hf => ?_
 obtain ⟨r2, hr2, hm⟩ := ob hm
 refine op_enter (ex_call c_100 hf (vs := [str x_s, str x_prefix]) rfl) rfl hf rfl rfl (w_stringslite_CutPrefix x_s x_prefix r2 _ (hG.own hF hO) hr2) ?_
 rintro e w' ⟨he, hb⟩
 refine ⟨_, he, fun a hf => ?_⟩
 have hO := hO.grow hb
 refine op_val (ex_extract hf rfl rfl) rfl hf rfl rfl fun a hf => ?_
 refine op_val (ex_extract hf rfl rfl) rfl hf rfl rfl fun a hf => ?_
 refine op_as hf rfl rfl fun a hf => ?_
 refine op_as hf rfl rfl fun a hf => ?_
 refine wpList_nil ?_
 refine nor_then (hK3 _ _ ?_)
 refine wp_ret ?_
 obtain rfl := Option.some.inj hm
 exact post_ret Tryz.results49 hf (.tmp rfl (.tmp rfl .nil)) ⟨rfl, hO.below⟩

set_option maxHeartbeats 1000000 in
theorem w_stringslite_HasSuffix (x_s : Str) (x_suffix : Str) (R : Bool) (w0 : World) (hG : Glob w0) (hm : stringslite_HasSuffix x_s x_suffix = some R) :
    Calls Tryz.prog 149 #[str x_s, str x_suffix] w0 fun e w' => e = .returned (.bool R) ∧ Below w0.heap.size w0 w' := by
 rw [stringslite_HasSuffix] at hm
 refine calls_enter (vs := [str x_s, str x_suffix]) Tryz.func149 rfl Tryz.ntmps149 rfl fun a hf => ?_
 have hF : Away [] := away_nil
 have hO : Dk.Own w0 [] w0 [] := Dk.Own.refl w0
 refine wp_seq_k fun _ hK1 => ?_
 refine wp_region_list ?_
 refine op_as hf rfl rfl fun a hf => ?_
 refine wpList_nil ?_
 refine nor_then (hK1 _ _ ?_)
 refine wp_seq_cut (fun a w => ∃ (t5 : Bool), Fits 21 [(4, .bool t5)] a ∧ Dk.Own w0 [] w [] ∧ stringslite_HasSuffix_j1 t5 = some R) ?_ ?_
 refine wp_region_list ?_
 refine op_mv hf rfl rfl fun a hf => ?_
 refine op_val (ex_len_s (l := x_s) Tryz.underlying9 hf rfl) rfl hf rfl rfl fun a hf => ?_
 refine op_mv hf rfl rfl fun a hf => ?_
 refine op_val (ex_len_s (l := x_suffix) Tryz.underlying9 hf rfl) rfl hf rfl rfl fun a hf => ?_
 refine op_val (ex_geq (m := (x_s.length : Int)) (n := (x_suffix.length : Int)) hf rfl rfl) rfl hf rfl rfl fun a hf => ?_
 refine op_mv hf rfl rfl fun a hf => ?_
 rcases bcase (decide ((x_suffix.length : Int) ≤ (x_s.length : Int))) with hc2 | hc2
 have hm := it hc2 hm
 refine op_guard rfl hf rfl rfl (hc2) ?_
 refine op_mv hf rfl rfl fun a hf => ?_
 refine op_guard rfl hf rfl rfl (hc2) ?_
 refine op_mv hf rfl rfl fun a hf => ?_
 refine op_guard rfl hf rfl rfl (hc2) ?_
 refine op_val (ex_len_s (l := x_s) Tryz.underlying9 hf rfl) rfl hf rfl rfl fun a hf => ?_
 refine op_guard rfl hf rfl rfl (hc2) ?_
 refine op_mv hf rfl rfl fun a hf => ?_
 refine op_guard rfl hf rfl rfl (hc2) ?_
 refine op_val (ex_len_s (l := x_suffix) Tryz.underlying9 hf rfl) rfl hf rfl rfl fun a hf => ?_
 refine op_guard rfl hf rfl rfl (hc2) ?_
 obtain ⟨i3, hi3, hm⟩ := ob hm
 refine op_val (ex_sub hf rfl rfl hi3) rfl hf rfl rfl fun a hf => ?_
 refine op_guard rfl hf rfl rfl (hc2) ?_
 obtain ⟨s4, hs4, hm⟩ := ob hm
 refine op_val (ex_from_s (l := x_s) Tryz.underlying9 hf rfl rfl hs4) rfl hf rfl rfl fun a hf => ?_
 refine op_guard rfl hf rfl rfl (hc2) ?_
 refine op_mv hf rfl rfl fun a hf => ?_
 refine op_guard rfl hf rfl rfl (hc2) ?_
 refine op_val (ex_eql_s (l := s4) (m := x_suffix) hf rfl rfl) rfl hf rfl rfl fun a hf => ?_
 refine op_val (ex_pick_t hf rfl hc2 rfl) rfl hf rfl rfl fun a hf => ?_
 refine op_as hf rfl rfl fun a hf => ?_
 refine wpList_nil ?_
 refine nor_then ?_
 exact ⟨s4 == x_suffix, (hf.cons rfl hf.nil), hO, hm⟩
 have hm := ie hc2 hm
 refine op_pass rfl hf rfl rfl (hc2) rfl rfl fun a hf => ?_
 refine op_pass rfl hf rfl rfl (hc2) rfl rfl fun a hf => ?_
 refine op_pass rfl hf rfl rfl (hc2) rfl rfl fun a hf => ?_
 refine op_pass rfl hf rfl rfl (hc2) rfl rfl fun a hf => ?_
 refine op_pass rfl hf rfl rfl (hc2) rfl rfl fun a hf => ?_
 refine op_pass rfl hf rfl rfl (hc2) rfl rfl fun a hf => ?_
 refine op_pass rfl hf rfl rfl (hc2) rfl rfl fun a hf => ?_
 refine op_pass rfl hf rfl rfl (hc2) rfl rfl fun a hf => ?_
 refine op_pass rfl hf rfl rfl (hc2) rfl rfl fun a hf => ?_
 refine op_val (ex_pick_f hf rfl hc2 rfl) rfl hf rfl rfl fun a hf => ?_
 refine op_as hf rfl rfl fun a hf => ?_
 refine wpList_nil ?_
 refine nor_then ?_
 exact ⟨false, (hf.cons rfl hf.nil), hO, hm⟩
 rintro a w ⟨t5, hf, hO, hm⟩
 rw [stringslite_HasSuffix_j1] at hm
 refine wp_ret ?_
 obtain rfl := Option.some.inj hm
 exact post_ret Tryz.results149 hf (.tmp rfl .nil) ⟨rfl, hO.below⟩

set_option maxHeartbeats 1000000 in
theorem w_stringslite_CutSuffix (x_s : Str) (x_suffix : Str) (R : Str × Bool) (w0 : World) (hG : Glob w0) (hm : stringslite_CutSuffix x_s x_suffix = some R) :
    Calls Tryz.prog 101 #[str x_s, str x_suffix] w0 fun e w' => e = .returned (.tuple #[str R.1, .bool R.2]) ∧ Below w0.heap.size w0 w' := by
 rw [stringslite_CutSuffix] at hm
 refine calls_enter (vs := [str x_s, str x_suffix]) Tryz.func101 rfl Tryz.ntmps101 rfl fun a hf => ?_
 have hF : Away [] := away_nil
 have hO : Dk.Own w0 [] w0 [] := Dk.Own.refl w0
 refine wp_seq_k fun _ hK1 => ?_
 refine wp_region_list ?_
 refine op_as hf rfl rfl fun a hf => ?_
 refine op_as hf rfl rfl fun a hf => ?_
 refine wpList_nil ?_
 refine nor_then (hK1 _ _ ?_)
 refine wp_seq_k fun _ hK6 => ?_
 refine wp_seq_k fun _ hK3 => ?_
 refine wp_region_list ?_
 refine op_mv hf rfl rfl fun a hf => ?_
 refine op_mv hf rfl rfl fun a hf => ?_
 obtain ⟨r2, hr2, hm⟩ := ob hm
 refine op_enter (ex_call c_149 hf (vs := [str x_s, str x_suffix]) rfl) rfl hf rfl rfl (w_stringslite_HasSuffix x_s x_suffix r2 _ (hG.own hF hO) hr2) ?_
 rintro e w' ⟨he, hb⟩
 refine ⟨_, he, fun a hf => ?_⟩
 have hO := hO.grow hb
 refine op_val (ex_not hf rfl) rfl hf rfl rfl fun a hf => ?_
 refine wpList_nil ?_
 refine nor_then (hK3 _ _ ?_)
 refine wp_cond_cut hf rfl (fun hc4 => ?_) (fun hc4 => ?_)
 have hm := it hc4 hm
 refine wp_seq_k fun _ hK5 => ?_
 refine wp_region_list ?_
 refine op_mv hf rfl rfl fun a hf => ?_
 refine op_as hf rfl rfl fun a hf => ?_
 refine op_as hf rfl rfl fun a hf => ?_
 refine wpList_nil ?_
 refine nor_then (hK5 _ _ ?_)
 refine wp_ret ?_
 refine ret_then ?_
 obtain rfl := Option.some.inj hm
 exact post_ret Tryz.results101 hf (.tmp rfl (.tmp rfl .nil)) ⟨rfl, hO.below⟩
 have hm := ie hc4 hm
 refine wp_skip ?_
 refine nor_then (hK6 _ _ ?_)
 refine wp_seq_k fun _ hK9 => ?_
 refine wp_region_list ?_
 refine op_mv hf rfl rfl fun a hf => ?_
 refine op_mv hf rfl rfl fun a hf => ?_
 refine op_val (ex_len_s (l := x_s) Tryz.underlying9 hf rfl) rfl hf rfl rfl fun a hf => ?_
 refine op_mv hf rfl rfl fun a hf => ?_
 refine op_val (ex_len_s (l := x_suffix) Tryz.underlying9 hf rfl) rfl hf rfl rfl fun a hf => ?_
 obtain ⟨i7, hi7, hm⟩ := ob hm
 refine op_val (ex_sub hf rfl rfl hi7) rfl hf rfl rfl fun a hf => ?_
 obtain ⟨s8, hs8, hm⟩ := ob hm
 refine op_val (ex_to_s (l := x_s) Tryz.underlying9 hf rfl rfl hs8) rfl hf rfl rfl fun a hf => ?_
 refine op_as hf rfl rfl fun a hf => ?_
 refine op_as hf rfl rfl fun a hf => ?_
 refine wpList_nil ?_
 refine nor_then (hK9 _ _ ?_)
 refine wp_ret ?_
 obtain rfl := Option.some.inj hm
 exact post_ret Tryz.results101 hf (.tmp rfl (.tmp rfl .nil)) ⟨rfl, hO.below⟩

end Go.Proofs
