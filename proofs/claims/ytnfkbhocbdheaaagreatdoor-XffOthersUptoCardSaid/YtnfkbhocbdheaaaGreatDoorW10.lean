/-
  Walks, written by a program (wip/gen): what its model says, the function returns; what was there before is as it was.
-/
import Derived.Test.YtnfkbhocbdheaaaGreatDoorLib
import Derived.Test.YtnfkbhocbdheaaaGreatDoorW2
import Derived.Test.YtnfkbhocbdheaaaGreatDoorW5
import Derived.Test.YtnfkbhocbdheaaaGreatDoorW9
set_option linter.unusedVariables false
set_option linter.unusedSimpArgs false
set_option maxRecDepth 100000
namespace Go.Proofs
open Go.Dk Go.Dm Go.RowKit

set_option maxHeartbeats 1000000 in
theorem w_bag_Bag_Behind (x_b : bag_Bag) (x_name : Str) (x_element : Str) (R : bag_Bag) (w0 : World) (hG : Glob w0) {x_b_b0 : Nat} {x_b_p1 : Option Addr} {x_b_c1 : Nat} {F : List Nat} (hF : Away F) (hO : Dk.Own w0 F w0 [.blk x_b_b0 [.slice x_b_p1 x_b.f_l.length x_b_c1] 114, .row (.slice x_b_p1 x_b.f_l.length x_b_c1) 63 2 x_b.f_l.length (cells enc_api_Field x_b.f_l)]) (hm : bag_Bag_Behind x_b x_name x_element = some R) :
    Calls Tryz.prog 47 #[ptr x_b_b0 0, str x_name, str x_element] w0 fun e w' => ∃ (p0 : Option Addr) (c0 : Nat), e = .returned (.tuple #[]) ∧ Dk.Own w0 F w' [.blk x_b_b0 [.slice p0 R.f_l.length c0] 114, .row (.slice p0 R.f_l.length c0) 63 2 R.f_l.length (cells enc_api_Field R.f_l)] := by
  rw [bag_Bag_Behind] at hm
  refine calls_enter (vs := [ptr x_b_b0 0, str x_name, str x_element]) Tryz.func47 rfl Tryz.ntmps47 rfl fun a hf => ?_
  refine wp_seq_k fun _ hK2 => ?_
  refine wp_seq_k fun _ hK1 => ?_
  refine wp_region_list ?_
  refine op_val (ex_move hf rfl) rfl hf rfl rfl fun a hf => ?_
  refine op_val (ex_eql_pn Tryz.underlying76 hf rfl rfl) rfl hf rfl rfl fun a hf => ?_
  refine wpList_nil ?_
  refine nor_then (hK1 _ _ ?_)
  refine wp_cond_f hf rfl rfl ?_
  refine wp_skip ?_
  refine nor_then (hK2 _ _ ?_)
  refine wp_seq_k fun _ hK27 => ?_
  refine wp_seq_k fun _ hK4 => ?_
  refine wp_region_list ?_
  refine op_val (ex_move hf rfl) rfl hf rfl rfl fun a hf => ?_
  refine op_val (ex_nilCheck hf rfl) rfl hf rfl rfl fun a hf => ?_
  refine op_val (ex_field fa_114_0 hf rfl) rfl hf rfl rfl fun a hf => ?_
  refine op_val (ex_load1 (o := 0) ag_43 (hO.blkSees (i := 0) rfl) rfl hf rfl) rfl hf rfl rfl fun a hf => ?_
  refine op_val (ex_len_l Tryz.underlying43 hf rfl) rfl hf rfl rfl fun a hf => ?_
  obtain ⟨i3, hi3, hm⟩ := ob hm
  refine op_val (ex_sub hf rfl rfl hi3) rfl hf rfl rfl fun a hf => ?_
  refine op_val (ex_assign hf rfl) rfl hf rfl rfl fun a hf => ?_
  refine wpList_nil ?_
  refine nor_then (hK4 _ _ ?_)
  refine wp_block ?_
  refine wp_loop_n (fun k a w => ∃ (i5 : Int), Fits 53 [(0, ptr x_b_b0 0), (1, str x_name), (2, str x_element), (6, int i5)] a ∧ Dk.Own w0 F w [.blk x_b_b0 [.slice x_b_p1 x_b.f_l.length x_b_c1] 114, .row (.slice x_b_p1 x_b.f_l.length x_b_c1) 63 2 x_b.f_l.length (cells enc_api_Field x_b.f_l)] ∧ bag_Bag_Behind_L1 x_b x_name x_element k i5 = some R) ?_ fuel ?_
  · rintro n1 a w ⟨i5, hf, hO, hm⟩
    obtain _ | n1 := n1
    · rw [bag_Bag_Behind_L1] at hm
      cases hm
    · rw [bag_Bag_Behind_L1] at hm
      refine wp_seq_k fun _ hK8 => ?_
      refine wp_seq_k fun _ hK6 => ?_
      refine wp_region_list ?_
      refine op_val (ex_move hf rfl) rfl hf rfl rfl fun a hf => ?_
      refine op_val (ex_geq (m := i5) (n := 0) hf rfl rfl) rfl hf rfl rfl fun a hf => ?_
      refine wpList_nil ?_
      refine nor_then (hK6 _ _ ?_)
      refine wp_cond_cut hf rfl (fun hc7 => ?_) (fun hc7 => ?_)
      · have hm := it hc7 hm
        refine wp_skip ?_
        refine nor_then (hK8 _ _ ?_)
        refine wp_seq_k fun _ hK25 => ?_
        refine wp_block ?_
        refine wp_seq_k fun _ hK13 => ?_
        refine wp_region_list ?_
        refine op_val (ex_move hf rfl) rfl hf rfl rfl fun a hf => ?_
        refine op_val (ex_nilCheck hf rfl) rfl hf rfl rfl fun a hf => ?_
        refine op_val (ex_field fa_114_0 hf rfl) rfl hf rfl rfl fun a hf => ?_
        refine op_val (ex_load1 (o := 0) ag_43 (hO.blkSees (i := 0) rfl) rfl hf rfl) rfl hf rfl rfl fun a hf => ?_
        refine op_val (ex_move hf rfl) rfl hf rfl rfl fun a hf => ?_
        obtain ⟨x9, hx9, hm⟩ := ob hm
        obtain ⟨b10, o11, hix9, hSx9, hAx9⟩ := elemAtRow (enc := enc_api_Field) (sz := 2) (xs := x_b.f_l) 43 Tryz.underlying43 sz_63 (by decide) (fun _ => rfl) hO (i := 1) rfl hx9
        refine op_val (ex_indexAddr hix9 hf rfl rfl) rfl hf rfl rfl fun a hf => ?_
        refine op_val (ex_field fa_63_0 hf rfl) rfl hf rfl rfl fun a hf => ?_
        refine op_val (ex_load1 (o := 0) ag_9 (hSx9 _ (hO.rowSees (i := 1) rfl)) rfl hf rfl) rfl hf rfl rfl fun a hf => ?_
        refine op_val (ex_move hf rfl) rfl hf rfl rfl fun a hf => ?_
        obtain ⟨r12, hr12, hm⟩ := ob hm
        refine op_enter (ex_call c_57 hf (vs := [str x9.Name, str x_name]) rfl) rfl hf rfl rfl (w_octet_Same x9.Name x_name r12 _ (hG.own hF hO) hr12) ?_
        rintro e w' ⟨he, hb⟩
        refine ⟨_, he, fun a hf => ?_⟩
        have hO := hO.grow hb
        refine wpList_nil ?_
        refine nor_then (hK13 _ _ ?_)
        refine wp_cond_cut hf rfl (fun hc14 => ?_) (fun hc14 => ?_)
        · have hm := it hc14 hm
          refine wp_seq_k fun _ hK24 => ?_
          obtain ⟨x15, hx15, hm⟩ := ob hm
          obtain ⟨b16, o17, hix15, hSx15, hAx15⟩ := elemAtRow (enc := enc_api_Field) (sz := 2) (xs := x_b.f_l) 43 Tryz.underlying43 sz_63 (by decide) (fun _ => rfl) hO (i := 1) rfl hx15
          obtain ⟨r19, hr19, hm⟩ := ob hm
          obtain ⟨x20, hx20, hm⟩ := ob hm
          obtain ⟨b21, o22, hix20, hSx20, hAx20⟩ := elemAtRow (enc := enc_api_Field) (sz := 2) (xs := x_b.f_l) 43 Tryz.underlying43 sz_63 (by decide) (fun _ => rfl) hO (i := 1) rfl hx20
          obtain ⟨l23, hl23, hm⟩ := ob hm
          have hlnl23 := lSet_len hl23
          refine wp_drawS' (S := Nat) (E0 := [(0, ptr x_b_b0 0), (2, str x_element), (6, int i5)]) (by kernel_rfl) (fun k σ w => match k with | 0 => Dk.Own w0 F w [.blk x_b_b0 [.slice x_b_p1 x_b.f_l.length x_b_c1] 114, .row (.slice x_b_p1 x_b.f_l.length x_b_c1) 63 2 x_b.f_l.length (cells enc_api_Field x_b.f_l)] | 1 => Dk.Own w0 F w [.row (.slice (some ⟨σ, 0, none⟩) ([x_element].length) 1) 9 1 ([x_element].length) (cells enc_str [x_element]), .blk x_b_b0 [.slice x_b_p1 x_b.f_l.length x_b_c1] 114, .row (.slice x_b_p1 x_b.f_l.length x_b_c1) 63 2 x_b.f_l.length (cells enc_api_Field x_b.f_l)] | 2 => Dk.Own w0 F w [.row (.slice (some ⟨σ, 0, none⟩) ([x_element].length) 1) 9 1 ([x_element].length) (cells enc_str [x_element]), .blk x_b_b0 [.slice x_b_p1 x_b.f_l.length x_b_c1] 114, .row (.slice x_b_p1 x_b.f_l.length x_b_c1) 63 2 x_b.f_l.length (cells enc_api_Field x_b.f_l)] | _ => Dk.Own w0 F w [.row (.slice (some ⟨σ, 0, none⟩) ([x_element].length) 1) 9 1 ([x_element].length) (cells enc_str [x_element]), .blk x_b_b0 [.slice x_b_p1 x_b.f_l.length x_b_c1] 114, .row (.slice x_b_p1 x_b.f_l.length x_b_c1) 63 2 x_b.f_l.length (cells enc_api_Field l23)]) (fun σ => [⟨[(0, ptr x_b_b0 0)], some (29, ptr x_b_b0 0)⟩, ⟨[(29, ptr x_b_b0 0)], some (30, ptr x_b_b0 0)⟩, ⟨[(30, ptr x_b_b0 0)], some (31, ptr x_b_b0 0)⟩, ⟨[(31, ptr x_b_b0 0)], some (32, .slice x_b_p1 x_b.f_l.length x_b_c1)⟩, ⟨[(6, int i5)], some (33, int i5)⟩, ⟨[(0, ptr x_b_b0 0)], some (34, ptr x_b_b0 0)⟩, ⟨[(34, ptr x_b_b0 0)], some (35, ptr x_b_b0 0)⟩, ⟨[(35, ptr x_b_b0 0)], some (36, ptr x_b_b0 0)⟩, ⟨[(36, ptr x_b_b0 0)], some (37, .slice x_b_p1 x_b.f_l.length x_b_c1)⟩, ⟨[(6, int i5)], some (38, int i5)⟩, ⟨[(37, .slice x_b_p1 x_b.f_l.length x_b_c1), (38, int i5)], some (39, ptr b16 o17)⟩, ⟨[(39, ptr b16 o17)], some (40, ptr b16 (o17 + 1))⟩, ⟨[(40, ptr b16 (o17 + 1))], some (41, str x15.Value)⟩, ⟨[(2, str x_element)], some (42, str x_element)⟩, ⟨[(42, str x_element)], some (43, .slice (some ⟨σ, 0, none⟩) ([x_element].length) 1)⟩, ⟨[(41, str x15.Value), (43, .slice (some ⟨σ, 0, none⟩) ([x_element].length) 1)], some (44, str r19)⟩, ⟨[(32, .slice x_b_p1 x_b.f_l.length x_b_c1), (33, int i5)], some (45, ptr b21 o22)⟩, ⟨[(45, ptr b21 o22)], some (46, ptr b21 (o22 + 1))⟩, ⟨[(44, str r19), (46, ptr b21 (o22 + 1))], none⟩]) (0) [14, 15, 18] rfl (fun _ => rfl) (fun _ => rfl) (fun _ => rfl) rfl rfl (by decide) rfl hO.drew (hf.cons rfl (hf.cons rfl (hf.cons rfl hf.nil))) (fun σ => ⟨⟨rfl, trivial⟩, ⟨⟨rfl, trivial⟩, ⟨⟨rfl, trivial⟩, ⟨⟨rfl, trivial⟩, ⟨⟨rfl, trivial⟩, ⟨⟨rfl, trivial⟩, ⟨⟨rfl, trivial⟩, ⟨⟨rfl, trivial⟩, ⟨⟨rfl, trivial⟩, ⟨⟨rfl, trivial⟩, ⟨⟨rfl, ⟨rfl, trivial⟩⟩, ⟨⟨rfl, trivial⟩, ⟨⟨rfl, trivial⟩, ⟨⟨rfl, trivial⟩, ⟨⟨rfl, trivial⟩, ⟨⟨rfl, ⟨rfl, trivial⟩⟩, ⟨⟨rfl, ⟨rfl, trivial⟩⟩, ⟨⟨rfl, trivial⟩, ⟨⟨rfl, ⟨rfl, trivial⟩⟩, trivial⟩⟩⟩⟩⟩⟩⟩⟩⟩⟩⟩⟩⟩⟩⟩⟩⟩⟩⟩) ⟨sS_pure rfl (fun σ => rfl) (fun σ => rfl) (fun σ a w k _ _ _ _ hf => ex_move hf rfl), ⟨sS_pure rfl (fun σ => rfl) (fun σ => rfl) (fun σ a w k _ _ _ _ hf => ex_nilCheck hf rfl), ⟨sS_pure rfl (fun σ => rfl) (fun σ => rfl) (fun σ a w k _ _ _ _ hf => ex_field fa_114_0 hf rfl), ⟨sS_pure rfl (fun σ => rfl) (fun σ => rfl) (fun σ a w k hk hlo hup hst hf => match k, hk, hlo, hup, hst, hf with | 0, _, _, _, hst, hf => have hO : Dk.Own w0 F w [.blk x_b_b0 [.slice x_b_p1 x_b.f_l.length x_b_c1] 114, .row (.slice x_b_p1 x_b.f_l.length x_b_c1) 63 2 x_b.f_l.length (cells enc_api_Field x_b.f_l)] := hst; ex_load1 (o := 0) ag_43 (hO.blkSees (i := 0) rfl) rfl hf rfl | 1, _, _, _, hst, hf => have hO : Dk.Own w0 F w [.row (.slice (some ⟨σ, 0, none⟩) ([x_element].length) 1) 9 1 ([x_element].length) (cells enc_str [x_element]), .blk x_b_b0 [.slice x_b_p1 x_b.f_l.length x_b_c1] 114, .row (.slice x_b_p1 x_b.f_l.length x_b_c1) 63 2 x_b.f_l.length (cells enc_api_Field x_b.f_l)] := hst; ex_load1 (o := 0) ag_43 (hO.blkSees (i := 1) rfl) rfl hf rfl | 2, _, _, _, hst, hf => have hO : Dk.Own w0 F w [.row (.slice (some ⟨σ, 0, none⟩) ([x_element].length) 1) 9 1 ([x_element].length) (cells enc_str [x_element]), .blk x_b_b0 [.slice x_b_p1 x_b.f_l.length x_b_c1] 114, .row (.slice x_b_p1 x_b.f_l.length x_b_c1) 63 2 x_b.f_l.length (cells enc_api_Field x_b.f_l)] := hst; ex_load1 (o := 0) ag_43 (hO.blkSees (i := 1) rfl) rfl hf rfl | 3, _, _, _, hst, hf => have hO : Dk.Own w0 F w [.row (.slice (some ⟨σ, 0, none⟩) ([x_element].length) 1) 9 1 ([x_element].length) (cells enc_str [x_element]), .blk x_b_b0 [.slice x_b_p1 x_b.f_l.length x_b_c1] 114, .row (.slice x_b_p1 x_b.f_l.length x_b_c1) 63 2 x_b.f_l.length (cells enc_api_Field l23)] := hst; ex_load1 (o := 0) ag_43 (hO.blkSees (i := 1) rfl) rfl hf rfl | k + 4, hk, _, _, _, _ => absurd hk (by simp)), ⟨sS_pure rfl (fun σ => rfl) (fun σ => rfl) (fun σ a w k _ _ _ _ hf => ex_move hf rfl), ⟨sS_pure rfl (fun σ => rfl) (fun σ => rfl) (fun σ a w k _ _ _ _ hf => ex_move hf rfl), ⟨sS_pure rfl (fun σ => rfl) (fun σ => rfl) (fun σ a w k _ _ _ _ hf => ex_nilCheck hf rfl), ⟨sS_pure rfl (fun σ => rfl) (fun σ => rfl) (fun σ a w k _ _ _ _ hf => ex_field fa_114_0 hf rfl), ⟨sS_pure rfl (fun σ => rfl) (fun σ => rfl) (fun σ a w k hk hlo hup hst hf => match k, hk, hlo, hup, hst, hf with | 0, _, _, _, hst, hf => have hO : Dk.Own w0 F w [.blk x_b_b0 [.slice x_b_p1 x_b.f_l.length x_b_c1] 114, .row (.slice x_b_p1 x_b.f_l.length x_b_c1) 63 2 x_b.f_l.length (cells enc_api_Field x_b.f_l)] := hst; ex_load1 (o := 0) ag_43 (hO.blkSees (i := 0) rfl) rfl hf rfl | 1, _, _, _, hst, hf => have hO : Dk.Own w0 F w [.row (.slice (some ⟨σ, 0, none⟩) ([x_element].length) 1) 9 1 ([x_element].length) (cells enc_str [x_element]), .blk x_b_b0 [.slice x_b_p1 x_b.f_l.length x_b_c1] 114, .row (.slice x_b_p1 x_b.f_l.length x_b_c1) 63 2 x_b.f_l.length (cells enc_api_Field x_b.f_l)] := hst; ex_load1 (o := 0) ag_43 (hO.blkSees (i := 1) rfl) rfl hf rfl | 2, _, _, _, hst, hf => have hO : Dk.Own w0 F w [.row (.slice (some ⟨σ, 0, none⟩) ([x_element].length) 1) 9 1 ([x_element].length) (cells enc_str [x_element]), .blk x_b_b0 [.slice x_b_p1 x_b.f_l.length x_b_c1] 114, .row (.slice x_b_p1 x_b.f_l.length x_b_c1) 63 2 x_b.f_l.length (cells enc_api_Field x_b.f_l)] := hst; ex_load1 (o := 0) ag_43 (hO.blkSees (i := 1) rfl) rfl hf rfl | 3, _, _, _, hst, hf => have hO : Dk.Own w0 F w [.row (.slice (some ⟨σ, 0, none⟩) ([x_element].length) 1) 9 1 ([x_element].length) (cells enc_str [x_element]), .blk x_b_b0 [.slice x_b_p1 x_b.f_l.length x_b_c1] 114, .row (.slice x_b_p1 x_b.f_l.length x_b_c1) 63 2 x_b.f_l.length (cells enc_api_Field l23)] := hst; ex_load1 (o := 0) ag_43 (hO.blkSees (i := 1) rfl) rfl hf rfl | k + 4, hk, _, _, _, _ => absurd hk (by simp)), ⟨sS_pure rfl (fun σ => rfl) (fun σ => rfl) (fun σ a w k _ _ _ _ hf => ex_move hf rfl), ⟨sS_pure rfl (fun σ => rfl) (fun σ => rfl) (fun σ a w k _ _ _ _ hf => ex_indexAddr hix15 hf rfl rfl), ⟨sS_pure rfl (fun σ => rfl) (fun σ => rfl) (fun σ a w k _ _ _ _ hf => ex_field fa_63_1 hf rfl), ⟨sS_pure rfl (fun σ => rfl) (fun σ => rfl) (fun σ a w k hk hlo hup hst hf => match k, hk, hlo, hup, hst, hf with | 0, _, _, _, hst, hf => have hO : Dk.Own w0 F w [.blk x_b_b0 [.slice x_b_p1 x_b.f_l.length x_b_c1] 114, .row (.slice x_b_p1 x_b.f_l.length x_b_c1) 63 2 x_b.f_l.length (cells enc_api_Field x_b.f_l)] := hst; ex_load1 (o := 1) ag_9 (hSx15 _ (hO.rowSees (i := 1) rfl)) rfl hf rfl | 1, _, _, _, hst, hf => have hO : Dk.Own w0 F w [.row (.slice (some ⟨σ, 0, none⟩) ([x_element].length) 1) 9 1 ([x_element].length) (cells enc_str [x_element]), .blk x_b_b0 [.slice x_b_p1 x_b.f_l.length x_b_c1] 114, .row (.slice x_b_p1 x_b.f_l.length x_b_c1) 63 2 x_b.f_l.length (cells enc_api_Field x_b.f_l)] := hst; ex_load1 (o := 1) ag_9 (hSx15 _ (hO.rowSees (i := 2) rfl)) rfl hf rfl | 2, _, _, _, hst, hf => have hO : Dk.Own w0 F w [.row (.slice (some ⟨σ, 0, none⟩) ([x_element].length) 1) 9 1 ([x_element].length) (cells enc_str [x_element]), .blk x_b_b0 [.slice x_b_p1 x_b.f_l.length x_b_c1] 114, .row (.slice x_b_p1 x_b.f_l.length x_b_c1) 63 2 x_b.f_l.length (cells enc_api_Field x_b.f_l)] := hst; ex_load1 (o := 1) ag_9 (hSx15 _ (hO.rowSees (i := 2) rfl)) rfl hf rfl | 3, _, _, hup, _, _ => absurd (hup 1 (by decide) (by kernel_rfl)) (by decide) | k + 4, hk, _, _, _, _ => absurd hk (by simp)), ⟨sS_pure rfl (fun σ => rfl) (fun σ => rfl) (fun σ a w k _ _ _ _ hf => ex_move hf rfl), ⟨sS_val rfl (fun σ => rfl) (fun σ => rfl) rfl (fun σ w (hO : Dk.Own w0 F w [.blk x_b_b0 [.slice x_b_p1 x_b.f_l.length x_b_c1] 114, .row (.slice x_b_p1 x_b.f_l.length x_b_c1) 63 2 x_b.f_l.length (cells enc_api_Field x_b.f_l)]) => by obtain ⟨b18, w', hO', hr⟩ := ef_buildSlice (E := [(42, str x_element)]) (parts := #[(0, (.tmp 42))]) (t' := 54) (n := 1) (vs := [(0, str x_element)]) (cs := [str x_element]) (e := 9) (sz := 1) (fun w => by kernel_rfl) rfl rfl hO rfl; exact ⟨(b18), w', hO', ⟨.inr rfl, ⟨.inr rfl, ⟨.inr rfl, ⟨.inr rfl, ⟨.inr rfl, ⟨.inr rfl, ⟨.inr rfl, ⟨.inr rfl, ⟨.inr rfl, ⟨.inr rfl, ⟨.inr rfl, ⟨.inr rfl, ⟨.inr rfl, ⟨.inr rfl, ⟨.inl rfl, ⟨.inl rfl, ⟨.inr rfl, ⟨.inr rfl, ⟨.inr rfl, trivial⟩⟩⟩⟩⟩⟩⟩⟩⟩⟩⟩⟩⟩⟩⟩⟩⟩⟩⟩, hr⟩), ⟨sS_call rfl (fun σ => rfl) (fun σ => rfl) rfl (fun σ a w (_ : _) hf => ex_call c_89 hf (vs := [str x15.Value, .slice (some ⟨σ, 0, none⟩) ([x_element].length) 1]) rfl) (fun σ w (hO : Dk.Own w0 F w [.row (.slice (some ⟨σ, 0, none⟩) ([x_element].length) 1) 9 1 ([x_element].length) (cells enc_str [x_element]), .blk x_b_b0 [.slice x_b_p1 x_b.f_l.length x_b_c1] 114, .row (.slice x_b_p1 x_b.f_l.length x_b_c1) 63 2 x_b.f_l.length (cells enc_api_Field x_b.f_l)]) => (w_commas_Append x15.Value [x_element] r19 _ (hG.own hF hO) (hO.rowSees (i := 0) rfl) (hO.rowCap (i := 0) rfl) hr19).mono fun e w' h => by obtain ⟨he, hb⟩ := h; exact ⟨(σ), he, hO.grow hb, ⟨.inr rfl, ⟨.inr rfl, ⟨.inr rfl, ⟨.inr rfl, ⟨.inr rfl, ⟨.inr rfl, ⟨.inr rfl, ⟨.inr rfl, ⟨.inr rfl, ⟨.inr rfl, ⟨.inr rfl, ⟨.inr rfl, ⟨.inr rfl, ⟨.inr rfl, ⟨.inr rfl, ⟨.inr rfl, ⟨.inr rfl, ⟨.inr rfl, ⟨.inr rfl, trivial⟩⟩⟩⟩⟩⟩⟩⟩⟩⟩⟩⟩⟩⟩⟩⟩⟩⟩⟩⟩), ⟨sS_pure rfl (fun σ => rfl) (fun σ => rfl) (fun σ a w k _ _ _ _ hf => ex_indexAddr hix20 hf rfl rfl), ⟨sS_pure rfl (fun σ => rfl) (fun σ => rfl) (fun σ a w k _ _ _ _ hf => ex_field fa_63_1 hf rfl), ⟨sS_skip rfl (fun σ => rfl) (fun σ => rfl) rfl (fun σ w (hO : Dk.Own w0 F w [.row (.slice (some ⟨σ, 0, none⟩) ([x_element].length) 1) 9 1 ([x_element].length) (cells enc_str [x_element]), .blk x_b_b0 [.slice x_b_p1 x_b.f_l.length x_b_c1] 114, .row (.slice x_b_p1 x_b.f_l.length x_b_c1) 63 2 x_b.f_l.length (cells enc_api_Field x_b.f_l)]) => by obtain ⟨w', hO', hr⟩ := ef_storeRow (x := (.tmp 46)) (y := (.tmp 44)) (E := [(44, str r19), (46, ptr b21 (o22 + 1))]) (enc := enc_api_Field) (i := 2) (rel := 1) (xs := x_b.f_l) (v := str r19) sz_9 (fun _ => rfl) rfl hAx20 hx20 hl23 rfl (by decide) rfl rfl hO rfl rfl; exact ⟨(σ), w', hO', ⟨.inr rfl, ⟨.inr rfl, ⟨.inr rfl, ⟨.inr rfl, ⟨.inr rfl, ⟨.inr rfl, ⟨.inr rfl, ⟨.inr rfl, ⟨.inr rfl, ⟨.inr rfl, ⟨.inr rfl, ⟨.inr rfl, ⟨.inr rfl, ⟨.inr rfl, ⟨.inr rfl, ⟨.inr rfl, ⟨.inr rfl, ⟨.inr rfl, ⟨.inr rfl, trivial⟩⟩⟩⟩⟩⟩⟩⟩⟩⟩⟩⟩⟩⟩⟩⟩⟩⟩⟩, hr⟩), trivial⟩⟩⟩⟩⟩⟩⟩⟩⟩⟩⟩⟩⟩⟩⟩⟩⟩⟩⟩ ?_
          rintro b18 a w hf hO
          have hO : Dk.Own w0 F w [.row (.slice (some ⟨b18, 0, none⟩) ([x_element].length) 1) 9 1 ([x_element].length) (cells enc_str [x_element]), .blk x_b_b0 [.slice x_b_p1 x_b.f_l.length x_b_c1] 114, .row (.slice x_b_p1 x_b.f_l.length x_b_c1) 63 2 x_b.f_l.length (cells enc_api_Field l23)] := hO
          have hf : Fits 53 [] a := hf.nil
          have hf : Fits 53 [] a := by first | exact hf | (simp only [hlnl23]; exact hf)
          have hO : Dk.Own w0 F w [.row (.slice (some ⟨b18, 0, none⟩) ([x_element].length) 1) 9 1 ([x_element].length) (cells enc_str [x_element]), .blk x_b_b0 [.slice x_b_p1 l23.length x_b_c1] 114, .row (.slice x_b_p1 l23.length x_b_c1) 63 2 l23.length (cells enc_api_Field l23)] := by first | exact hO | (simp only [hlnl23]; exact hO)
          refine nor_then (hK24 _ _ ?_)
          refine wp_ret ?_
          refine ret_block ?_
          refine ret_then ?_
          refine ret_then ?_
          refine ret_block ?_
          refine ret_then ?_
          obtain rfl := Option.some.inj hm
          exact post_ret Tryz.results47 hf .nil ⟨x_b_p1, x_b_c1, rfl, (hO.sub (.cons _ (.cons_cons _ (.cons_cons _ .slnil))))⟩
        · have hm := ie hc14 hm
          refine wp_skip ?_
          refine nor_block ?_
          refine nor_then (hK25 _ _ ?_)
          refine wp_region_list ?_
          refine op_val (ex_move hf rfl) rfl hf rfl rfl fun a hf => ?_
          obtain ⟨i26, hi26, hm⟩ := ob hm
          refine op_val (ex_sub hf rfl rfl hi26) rfl hf rfl rfl fun a hf => ?_
          refine op_val (ex_assign hf rfl) rfl hf rfl rfl fun a hf => ?_
          refine wpList_nil ?_
          refine nor_then ?_
          exact ⟨_, Nat.lt_succ_self _, i26, (hf.cons rfl (hf.cons rfl (hf.cons rfl (hf.cons rfl hf.nil)))), hO, hm⟩
      · have hm := ie hc7 hm
        refine wp_exit ?_
        refine exit_then ?_
        refine exit_then ?_
        refine exit_here ?_
        refine nor_then (hK27 _ _ ?_)
        refine wp_region_list ?_
        refine op_val (ex_move hf rfl) rfl hf rfl rfl fun a hf => ?_
        refine op_val (ex_move hf rfl) rfl hf rfl rfl fun a hf => ?_
        refine op_val (ex_move hf rfl) rfl hf rfl rfl fun a hf => ?_
        refine op_val (ex_build (vs := [(0, str x_name), (1, str x_element)]) (v := .agg #[str x_name, str x_element]) hf rfl (by kernel_rfl)) rfl hf rfl rfl fun a hf => ?_
        refine op_buildSlice (vs := [(0, .agg #[str x_name, str x_element])]) (cs := [str x_name, str x_element]) (e := 63) (sz := 2) hf rfl rfl (fun w => by kernel_rfl) rfl rfl hO fun a b28 w hf hO => ?_
        obtain ⟨r29, hr29, hm⟩ := ob hm
        refine op_enter (ex_call c_90 hf (vs := [ptr x_b_b0 0, .slice (some ⟨b28, 0, none⟩) (([(⟨x_name, x_element⟩ : api_Field)]).length) 1]) rfl) rfl hf rfl rfl (w_bag_Bag_Add x_b ([(⟨x_name, x_element⟩ : api_Field)]) r29 _ (hG.own hF hO) (Dk.Own.far (show Dk.Own w0 F _ ([.blk x_b_b0 [.slice x_b_p1 x_b.f_l.length x_b_c1] 114, .row (.slice x_b_p1 x_b.f_l.length x_b_c1) 63 2 x_b.f_l.length (cells enc_api_Field x_b.f_l)] ++ [.row (.slice (some ⟨b28, 0, none⟩) (([(⟨x_name, x_element⟩ : api_Field)]).length) 1) 63 2 (([(⟨x_name, x_element⟩ : api_Field)]).length) (cells enc_api_Field ([(⟨x_name, x_element⟩ : api_Field)]))]) from hO.choose [1, 2, 0] rfl) rfl hF hG.size) ((show Dk.Own w0 F _ ([.blk x_b_b0 [.slice x_b_p1 x_b.f_l.length x_b_c1] 114, .row (.slice x_b_p1 x_b.f_l.length x_b_c1) 63 2 x_b.f_l.length (cells enc_api_Field x_b.f_l)] ++ [.row (.slice (some ⟨b28, 0, none⟩) (([(⟨x_name, x_element⟩ : api_Field)]).length) 1) 63 2 (([(⟨x_name, x_element⟩ : api_Field)]).length) (cells enc_api_Field ([(⟨x_name, x_element⟩ : api_Field)]))]) from hO.choose [1, 2, 0] rfl).lend rfl ⟨lent_row (hO.rowSees (i := 0) rfl) (List.mem_of_getElem? (i := 0) rfl), trivial⟩) (hO.rowCap (i := 0) rfl) hr29) ?_
        rintro e w' ⟨p30, c31, he, hO'⟩
        refine ⟨_, he, fun a hf => ?_⟩
        have hO := (show Dk.Own w0 F _ ([.blk x_b_b0 [.slice x_b_p1 x_b.f_l.length x_b_c1] 114, .row (.slice x_b_p1 x_b.f_l.length x_b_c1) 63 2 x_b.f_l.length (cells enc_api_Field x_b.f_l)] ++ [.row (.slice (some ⟨b28, 0, none⟩) (([(⟨x_name, x_element⟩ : api_Field)]).length) 1) 63 2 (([(⟨x_name, x_element⟩ : api_Field)]).length) (cells enc_api_Field ([(⟨x_name, x_element⟩ : api_Field)]))]) from hO.choose [1, 2, 0] rfl).back rfl hO' rfl
        refine wpList_nil ?_
        obtain rfl := Option.some.inj hm
        exact post_end Tryz.results47 hf .nil ⟨p30, c31, rfl, (hO.sub (.cons_cons _ (.cons_cons _ (.cons _ .slnil))))⟩
  · exact ⟨i3, (hf.cons rfl (hf.cons rfl (hf.cons rfl (hf.cons rfl hf.nil)))), hO, hm⟩

set_option maxHeartbeats 1000000 in
theorem w_bag_Bag_List (x_b : bag_Bag) (R : List api_Field) (w0 : World) (hG : Glob w0) {x_b_b0 : Nat} {x_b_p1 : Option Addr} {x_b_c1 : Nat} (hs0 : Sees w0 (some ⟨x_b_b0, 0, none⟩) [.slice x_b_p1 x_b.f_l.length x_b_c1]) (hs1 : Sees w0 x_b_p1 (cells enc_api_Field x_b.f_l)) (hc1 : x_b.f_l.length ≤ x_b_c1) (hm : bag_Bag_List x_b = some R) :
    Calls Tryz.prog 48 #[ptr x_b_b0 0] w0 fun e w' => ∃ (p0 : Option Addr) (c0 : Nat), e = .returned (.slice p0 R.length c0) ∧ Dk.Own w0 [] w' [.row (.slice p0 R.length c0) 63 2 R.length (cells enc_api_Field R)] := by
  rw [bag_Bag_List] at hm
  refine calls_enter (vs := [ptr x_b_b0 0]) Tryz.func48 rfl Tryz.ntmps48 rfl fun a hf => ?_
  have hF : Away [] := away_nil
  have hO : Dk.Own w0 [] w0 [] := Dk.Own.refl w0
  have hO := hO.addShr hs0 (by simp [Res.shared])
  have hO := hO.addShr hs1 (by simp [Res.shared])
  refine wp_seq_k fun _ hK1 => ?_
  refine wp_region_list ?_
  have hO := hO.nilRow 63 2
  refine op_val (ex_assign hf rfl) rfl hf rfl rfl fun a hf => ?_
  refine wpList_nil ?_
  refine nor_then (hK1 _ _ ?_)
  refine wp_seq_k fun _ hK3 => ?_
  refine wp_seq_k fun _ hK2 => ?_
  refine wp_region_list ?_
  refine op_val (ex_move hf rfl) rfl hf rfl rfl fun a hf => ?_
  refine op_val (ex_eql_pn Tryz.underlying76 hf rfl rfl) rfl hf rfl rfl fun a hf => ?_
  refine wpList_nil ?_
  refine nor_then (hK2 _ _ ?_)
  refine wp_cond_f hf rfl rfl ?_
  refine wp_skip ?_
  refine nor_then (hK3 _ _ ?_)
  refine wp_seq_k fun _ hK7 => ?_
  refine wp_region_list ?_
  refine op_val (ex_move hf rfl) rfl hf rfl rfl fun a hf => ?_
  refine op_val (ex_nilCheck hf rfl) rfl hf rfl rfl fun a hf => ?_
  refine op_val (ex_field fa_114_0 hf rfl) rfl hf rfl rfl fun a hf => ?_
  refine op_val (ex_load1 (o := 0) ag_43 (hO.sees (i := 2) rfl) rfl hf rfl) rfl hf rfl rfl fun a hf => ?_
  obtain ⟨r4, hr4, hm⟩ := ob hm
  refine op_enter (ex_call c_88 hf (vs := [.slice x_b_p1 x_b.f_l.length x_b_c1]) rfl) rfl hf rfl rfl (w_slices_Clone_gapi_Field_api_Field_ x_b.f_l r4 _ (hG.own hF hO) (hO.sees (i := 1) rfl) hc1 hr4) ?_
  rintro e w' ⟨p5, c6, he, hO'⟩
  refine ⟨_, he, fun a hf => ?_⟩
  have hO := hO.call hO' (by simp [Res.shared])
  refine op_val (ex_assign hf rfl) rfl hf rfl rfl fun a hf => ?_
  refine wpList_nil ?_
  refine nor_then (hK7 _ _ ?_)
  refine wp_ret ?_
  obtain rfl := Option.some.inj hm
  exact post_ret Tryz.results48 hf (.tmp rfl .nil) ⟨p5, c6, rfl, (hO.sub (.cons_cons _ (.cons _ (.cons _ (.cons _ .slnil)))))⟩

set_option maxHeartbeats 1000000 in
theorem w_xff_Append (x_client : Str) (x_l : List api_Field) (R : List api_Field) (w0 : World) (hG : GlobT w0) {x_l_p0 : Option Addr} {x_l_c0 : Nat} (hs0 : Sees w0 x_l_p0 (cells enc_api_Field x_l)) (hc0 : x_l.length ≤ x_l_c0) (hm : xff_Append x_client x_l = some R) :
    Calls Tryz.prog 22 #[str x_client, .slice x_l_p0 x_l.length x_l_c0] w0 fun e w' => ∃ (p0 : Option Addr) (c0 : Nat), e = .returned (.slice p0 R.length c0) ∧ Dk.Own w0 [] w' [.row (.slice p0 R.length c0) 63 2 R.length (cells enc_api_Field R)] := by
  rw [xff_Append] at hm
  refine calls_enter (vs := [str x_client, .slice x_l_p0 x_l.length x_l_c0]) Tryz.func22 rfl Tryz.ntmps22 rfl fun a hf => ?_
  have hF : Away [] := away_nil
  have hO : Dk.Own w0 [] w0 [] := Dk.Own.refl w0
  have hO := hO.addShr hs0 (by simp [Res.shared])
  refine wp_seq_k fun _ hK1 => ?_
  refine wp_region_list ?_
  have hO := hO.nilRow 63 2
  refine op_val (ex_assign hf rfl) rfl hf rfl rfl fun a hf => ?_
  refine wpList_nil ?_
  refine nor_then (hK1 _ _ ?_)
  refine wp_seq_cut (fun a w => ∃ (s5 : Str), Fits 16 [(0, str s5), (1, .slice x_l_p0 x_l.length x_l_c0)] a ∧ Dk.Own w0 [] w [.row (.slice none 0 0) 63 2 0 (cells enc_api_Field []), .shr x_l_p0 (cells enc_api_Field x_l)] ∧ xff_Append_j1 x_l s5 = some R) ?_ ?_
  · refine wp_seq_k fun _ hK3 => ?_
    refine wp_region_list ?_
    refine op_val (ex_move hf rfl) rfl hf rfl rfl fun a hf => ?_
    obtain ⟨r2, hr2, hm⟩ := ob hm
    refine op_enter (ex_call c_45 hf (vs := [str x_client]) rfl) rfl hf rfl rfl (w_xff_bare x_client r2 _ (hG.own hF hO) hr2) ?_
    rintro e w' ⟨he, hb⟩
    refine ⟨_, he, fun a hf => ?_⟩
    have hO := hO.grow hb
    refine op_val (ex_not hf rfl) rfl hf rfl rfl fun a hf => ?_
    refine wpList_nil ?_
    refine nor_then (hK3 _ _ ?_)
    refine wp_cond_cut hf rfl (fun hc4 => ?_) (fun hc4 => ?_)
    · have hm := it hc4 hm
      refine wp_region_list ?_
      refine op_val (ex_assign hf rfl) rfl hf rfl rfl fun a hf => ?_
      refine wpList_nil ?_
      refine nor_then ?_
      exact ⟨[117, 110, 107, 110, 111, 119, 110], (hf.cons rfl (hf.cons rfl hf.nil)), hO, hm⟩
    · have hm := ie hc4 hm
      refine wp_skip ?_
      refine nor_then ?_
      exact ⟨x_client, (hf.cons rfl (hf.cons rfl hf.nil)), hO, hm⟩
  · rintro a w ⟨s5, hf, hO, hm⟩
    rw [xff_Append_j1] at hm
    refine wp_seq_k fun _ hK10 => ?_
    refine wp_region_list ?_
    refine op_val (ex_move hf rfl) rfl hf rfl rfl fun a hf => ?_
    obtain ⟨r6, hr6, hm⟩ := ob hm
    refine op_enter (ex_call c_46 hf (vs := [.slice x_l_p0 x_l.length x_l_c0]) rfl) rfl hf rfl rfl (w_bag_New x_l r6 _ (hG.own hF hO).1 (hO.sees (i := 1) rfl) hc0 hr6) ?_
    rintro e w' ⟨b7, p8, c9, he, hO'⟩
    refine ⟨_, he, fun a hf => ?_⟩
    have hO := hO.call hO' (by simp [Res.shared])
    refine op_val (ex_assign hf rfl) rfl hf rfl rfl fun a hf => ?_
    refine wpList_nil ?_
    refine nor_then (hK10 _ _ ?_)
    refine wp_seq_k fun _ hK14 => ?_
    refine wp_region_list ?_
    refine op_val (ex_move hf rfl) rfl hf rfl rfl fun a hf => ?_
    refine op_val (ex_move hf rfl) rfl hf rfl rfl fun a hf => ?_
    obtain ⟨r11, hr11, hm⟩ := ob hm
    refine op_enter (ex_call c_47 hf (vs := [ptr b7 0, str [88, 45, 70, 111, 114, 119, 97, 114, 100, 101, 100, 45, 70, 111, 114], str s5]) rfl) rfl hf rfl rfl (w_bag_Bag_Behind r6 [88, 45, 70, 111, 114, 119, 97, 114, 100, 101, 100, 45, 70, 111, 114] s5 r11 _ (hG.own hF hO).1 (Dk.Own.far (show Dk.Own w0 [] _ ([.blk b7 [.slice p8 r6.f_l.length c9] 114, .row (.slice p8 r6.f_l.length c9) 63 2 r6.f_l.length (cells enc_api_Field r6.f_l)] ++ [.row (.slice none 0 0) 63 2 0 (cells enc_api_Field []), .shr x_l_p0 (cells enc_api_Field x_l)]) from hO) rfl hF hG.size) ((show Dk.Own w0 [] _ ([.blk b7 [.slice p8 r6.f_l.length c9] 114, .row (.slice p8 r6.f_l.length c9) 63 2 r6.f_l.length (cells enc_api_Field r6.f_l)] ++ [.row (.slice none 0 0) 63 2 0 (cells enc_api_Field []), .shr x_l_p0 (cells enc_api_Field x_l)]) from hO).lend rfl trivial) hr11) ?_
    rintro e w' ⟨p12, c13, he, hO'⟩
    refine ⟨_, he, fun a hf => ?_⟩
    have hO := (show Dk.Own w0 [] _ ([.blk b7 [.slice p8 r6.f_l.length c9] 114, .row (.slice p8 r6.f_l.length c9) 63 2 r6.f_l.length (cells enc_api_Field r6.f_l)] ++ [.row (.slice none 0 0) 63 2 0 (cells enc_api_Field []), .shr x_l_p0 (cells enc_api_Field x_l)]) from hO).back rfl hO' rfl
    refine wpList_nil ?_
    refine nor_then (hK14 _ _ ?_)
    refine wp_seq_k fun _ hK18 => ?_
    refine wp_region_list ?_
    refine op_val (ex_move hf rfl) rfl hf rfl rfl fun a hf => ?_
    obtain ⟨r15, hr15, hm⟩ := ob hm
    refine op_enter (ex_call c_48 hf (vs := [ptr b7 0]) rfl) rfl hf rfl rfl (w_bag_Bag_List r11 r15 _ (hG.own hF hO).1 (hO.blkSees (i := 0) rfl) (hO.rowSees (i := 1) rfl) (hO.rowCap (i := 1) rfl) hr15) ?_
    rintro e w' ⟨p16, c17, he, hO'⟩
    refine ⟨_, he, fun a hf => ?_⟩
    have hO := hO.call hO' (by simp [Res.shared])
    refine op_val (ex_assign hf rfl) rfl hf rfl rfl fun a hf => ?_
    refine wpList_nil ?_
    refine nor_then (hK18 _ _ ?_)
    refine wp_ret ?_
    obtain rfl := Option.some.inj hm
    exact post_ret Tryz.results22 hf (.tmp rfl .nil) ⟨p16, c17, rfl, (hO.sub (.cons_cons _ (.cons _ (.cons _ (.cons _ (.cons _ .slnil))))))⟩

set_option maxHeartbeats 1000000 in
theorem w_ref06_Same (x_a : List Str) (x_b : List Str) (R : Bool) (w0 : World) (hG : Glob w0) {x_a_p0 : Option Addr} {x_a_c0 : Nat} (hs0 : Sees w0 x_a_p0 (cells enc_str x_a)) (hc0 : x_a.length ≤ x_a_c0) {x_b_p1 : Option Addr} {x_b_c1 : Nat} (hs1 : Sees w0 x_b_p1 (cells enc_str x_b)) (hc1 : x_b.length ≤ x_b_c1) (hm : ref06_Same x_a x_b = some R) :
    Calls Tryz.prog 28 #[.slice x_a_p0 x_a.length x_a_c0, .slice x_b_p1 x_b.length x_b_c1] w0 fun e w' => e = .returned (.bool R) ∧ Below w0.heap.size w0 w' := by
  rw [ref06_Same] at hm
  refine calls_enter (vs := [.slice x_a_p0 x_a.length x_a_c0, .slice x_b_p1 x_b.length x_b_c1]) Tryz.func28 rfl Tryz.ntmps28 rfl fun a hf => ?_
  have hF : Away [] := away_nil
  have hO : Dk.Own w0 [] w0 [] := Dk.Own.refl w0
  have hO := hO.addShr hs0 (by simp [Res.shared])
  have hO := hO.addShr hs1 (by simp [Res.shared])
  refine wp_seq_k fun _ hK1 => ?_
  refine wp_region_list ?_
  refine op_val (ex_assign hf rfl) rfl hf rfl rfl fun a hf => ?_
  refine wpList_nil ?_
  refine nor_then (hK1 _ _ ?_)
  refine wp_seq_k fun _ hK5 => ?_
  refine wp_seq_k fun _ hK2 => ?_
  refine wp_region_list ?_
  refine op_val (ex_move hf rfl) rfl hf rfl rfl fun a hf => ?_
  refine op_val (ex_len_l Tryz.underlying54 hf rfl) rfl hf rfl rfl fun a hf => ?_
  refine op_val (ex_move hf rfl) rfl hf rfl rfl fun a hf => ?_
  refine op_val (ex_len_l Tryz.underlying54 hf rfl) rfl hf rfl rfl fun a hf => ?_
  refine op_val (ex_neq (m := (x_a.length : Int)) (n := (x_b.length : Int)) hf rfl rfl) rfl hf rfl rfl fun a hf => ?_
  refine wpList_nil ?_
  refine nor_then (hK2 _ _ ?_)
  refine wp_cond_cut hf rfl (fun hc3 => ?_) (fun hc3 => ?_)
  · have hm := it hc3 hm
    refine wp_seq_k fun _ hK4 => ?_
    refine wp_region_list ?_
    refine op_val (ex_assign hf rfl) rfl hf rfl rfl fun a hf => ?_
    refine wpList_nil ?_
    refine nor_then (hK4 _ _ ?_)
    refine wp_ret ?_
    refine ret_then ?_
    obtain rfl := Option.some.inj hm
    exact post_ret Tryz.results28 hf (.tmp rfl .nil) ⟨rfl, hO.below⟩
  · have hm := ie hc3 hm
    refine wp_skip ?_
    refine nor_then (hK5 _ _ ?_)
    refine wp_seq_k fun _ hK22 => ?_
    refine wp_seq_k fun _ hK6 => ?_
    refine wp_region_list ?_
    refine op_val (ex_assign hf rfl) rfl hf rfl rfl fun a hf => ?_
    refine wpList_nil ?_
    refine nor_then (hK6 _ _ ?_)
    refine wp_block ?_
    refine wp_loop_n (fun k a w => ∃ (i7 : Int), Fits 26 [(0, .slice x_a_p0 x_a.length x_a_c0), (1, .slice x_b_p1 x_b.length x_b_c1), (5, int i7)] a ∧ Dk.Own w0 [] w [.shr x_b_p1 (cells enc_str x_b), .shr x_a_p0 (cells enc_str x_a)] ∧ ref06_Same_L1 x_a x_b k i7 = some R) ?_ fuel ?_
    · rintro n1 a w ⟨i7, hf, hO, hm⟩
      obtain _ | n1 := n1
      · rw [ref06_Same_L1] at hm
        cases hm
      · rw [ref06_Same_L1] at hm
        refine wp_seq_k fun _ hK10 => ?_
        refine wp_seq_k fun _ hK8 => ?_
        refine wp_region_list ?_
        refine op_val (ex_move hf rfl) rfl hf rfl rfl fun a hf => ?_
        refine op_val (ex_move hf rfl) rfl hf rfl rfl fun a hf => ?_
        refine op_val (ex_len_l Tryz.underlying54 hf rfl) rfl hf rfl rfl fun a hf => ?_
        refine op_val (ex_lss (m := i7) (n := (x_a.length : Int)) hf rfl rfl) rfl hf rfl rfl fun a hf => ?_
        refine wpList_nil ?_
        refine nor_then (hK8 _ _ ?_)
        refine wp_cond_cut hf rfl (fun hc9 => ?_) (fun hc9 => ?_)
        · have hm := it hc9 hm
          refine wp_skip ?_
          refine nor_then (hK10 _ _ ?_)
          refine wp_seq_k fun _ hK20 => ?_
          refine wp_block ?_
          refine wp_seq_k fun _ hK17 => ?_
          refine wp_quiet (by kernel_rfl) (by kernel_rfl) hO ?_
          refine q_val (fun w hO => ex_move hf rfl) rfl hf rfl rfl fun a hf => ?_
          refine q_val (fun w hO => ex_move hf rfl) rfl hf rfl rfl fun a hf => ?_
          obtain ⟨x11, hx11, hm⟩ := ob hm
          obtain ⟨b12, o13, hix11, hSx11⟩ := elemAt (enc := enc_str) (sz := 1) (xs := x_a) 54 Tryz.underlying54 sz_9 (by decide) (fun _ => rfl) (hO.sees (i := 1) rfl) hx11
          refine q_val (fun w hO => ex_indexAddr hix11 hf rfl rfl) rfl hf rfl rfl fun a hf => ?_
          refine q_val (fun w hO => ex_load1 (o := 0) ag_9 (hSx11 _ (hO.sees (i := 1) rfl)) rfl hf rfl) rfl hf rfl rfl fun a hf => ?_
          refine q_val (fun w hO => ex_move hf rfl) rfl hf rfl rfl fun a hf => ?_
          refine q_val (fun w hO => ex_move hf rfl) rfl hf rfl rfl fun a hf => ?_
          obtain ⟨x14, hx14, hm⟩ := ob hm
          obtain ⟨b15, o16, hix14, hSx14⟩ := elemAt (enc := enc_str) (sz := 1) (xs := x_b) 54 Tryz.underlying54 sz_9 (by decide) (fun _ => rfl) (hO.sees (i := 0) rfl) hx14
          refine q_val (fun w hO => ex_indexAddr hix14 hf rfl rfl) rfl hf rfl rfl fun a hf => ?_
          refine q_val (fun w hO => ex_load1 (o := 0) ag_9 (hSx14 _ (hO.sees (i := 0) rfl)) rfl hf rfl) rfl hf rfl rfl fun a hf => ?_
          refine q_val (fun w hO => ex_neq_s (l := x11) (m := x14) hf rfl rfl) rfl hf rfl rfl fun a hf => ?_
          refine wpQuiet_nil ?_
          intro w hO
          refine nor_then (hK17 _ _ ?_)
          refine wp_cond_cut hf rfl (fun hc18 => ?_) (fun hc18 => ?_)
          · have hm := it hc18 hm
            refine wp_seq_k fun _ hK19 => ?_
            refine wp_region_list ?_
            refine op_val (ex_assign hf rfl) rfl hf rfl rfl fun a hf => ?_
            refine wpList_nil ?_
            refine nor_then (hK19 _ _ ?_)
            refine wp_ret ?_
            refine ret_block ?_
            refine ret_then ?_
            refine ret_then ?_
            refine ret_block ?_
            refine ret_then ?_
            obtain rfl := Option.some.inj hm
            exact post_ret Tryz.results28 hf (.tmp rfl .nil) ⟨rfl, hO.below⟩
          · have hm := ie hc18 hm
            refine wp_skip ?_
            refine nor_block ?_
            refine nor_then (hK20 _ _ ?_)
            refine wp_region_list ?_
            refine op_val (ex_move hf rfl) rfl hf rfl rfl fun a hf => ?_
            obtain ⟨i21, hi21, hm⟩ := ob hm
            refine op_val (ex_add hf rfl rfl hi21) rfl hf rfl rfl fun a hf => ?_
            refine op_val (ex_assign hf rfl) rfl hf rfl rfl fun a hf => ?_
            refine wpList_nil ?_
            refine nor_then ?_
            exact ⟨_, Nat.lt_succ_self _, i21, (hf.cons rfl (hf.cons rfl (hf.cons rfl hf.nil))), hO, hm⟩
        · have hm := ie hc9 hm
          refine wp_exit ?_
          refine exit_then ?_
          refine exit_then ?_
          refine exit_here ?_
          refine nor_then (hK22 _ _ ?_)
          refine wp_seq_k fun _ hK23 => ?_
          refine wp_region_list ?_
          refine op_val (ex_assign hf rfl) rfl hf rfl rfl fun a hf => ?_
          refine wpList_nil ?_
          refine nor_then (hK23 _ _ ?_)
          refine wp_ret ?_
          obtain rfl := Option.some.inj hm
          exact post_ret Tryz.results28 hf (.tmp rfl .nil) ⟨rfl, hO.below⟩
    · exact ⟨0, (hf.cons rfl (hf.cons rfl (hf.cons rfl hf.nil))), hO, hm⟩

set_option maxHeartbeats 1000000 in
theorem w_law27_awake (R : Bool) (w0 : World) (hG : GlobT w0) (hm : law27_awake = some R) :
    Calls Tryz.prog 20 #[] w0 fun e w' => e = .returned (.bool R) ∧ Below w0.heap.size w0 w' := by
  rw [law27_awake] at hm
  refine calls_enter (vs := []) Tryz.func20 rfl Tryz.ntmps20 rfl fun a hf => ?_
  have hF : Away [] := away_nil
  have hO : Dk.Own w0 [] w0 [] := Dk.Own.refl w0
  refine wp_seq_k fun _ hK1 => ?_
  refine wp_region_list ?_
  refine op_val (ex_assign hf rfl) rfl hf rfl rfl fun a hf => ?_
  refine wpList_nil ?_
  refine nor_then (hK1 _ _ ?_)
  refine wp_seq_k fun _ hK6 => ?_
  refine wp_region_list ?_
  refine op_buildSlice (vs := [(0, str [49, 46, 50, 46, 51, 46, 52, 44, 32, 58, 58, 49])]) (cs := [str [49, 46, 50, 46, 51, 46, 52, 44, 32, 58, 58, 49]]) (e := 9) (sz := 1) hf rfl rfl (fun w => by kernel_rfl) rfl rfl hO fun a b2 w hf hO => ?_
  obtain ⟨r3, hr3, hm⟩ := ob hm
  refine op_enter (ex_call c_26 hf (vs := [.slice (some ⟨b2, 0, none⟩) (([[49, 46, 50, 46, 51, 46, 52, 44, 32, 58, 58, 49]]).length) 1]) rfl) rfl hf rfl rfl (w_xff_List ([[49, 46, 50, 46, 51, 46, 52, 44, 32, 58, 58, 49]]) r3 _ (hG.own hF hO) (hO.rowSees (i := 0) rfl) (hO.rowCap (i := 0) rfl) hr3) ?_
  rintro e w' ⟨p4, c5, he, hO'⟩
  refine ⟨_, he, fun a hf => ?_⟩
  have hO := hO.call hO' (by simp [Res.shared])
  refine op_val (ex_move hf rfl) rfl hf rfl rfl fun a hf => ?_
  refine op_val (ex_extract hf rfl rfl) rfl hf rfl rfl fun a hf => ?_
  refine op_val (ex_extract hf rfl rfl) rfl hf rfl rfl fun a hf => ?_
  refine op_val (ex_assign hf rfl) rfl hf rfl rfl fun a hf => ?_
  refine op_val (ex_assign hf rfl) rfl hf rfl rfl fun a hf => ?_
  refine wpList_nil ?_
  refine nor_then (hK6 _ _ ?_)
  refine wp_seq_k fun _ hK10 => ?_
  refine wp_region_list ?_
  obtain ⟨r7, hr7, hm⟩ := ob hm
  refine op_enter (ex_call c_22 hf (vs := [str [120], .slice none 0 0]) rfl) rfl hf rfl rfl (w_xff_Append [120] [] r7 _ (hG.own hF hO) (Sees.nil _) (Nat.zero_le _) hr7) ?_
  rintro e w' ⟨p8, c9, he, hO'⟩
  refine ⟨_, he, fun a hf => ?_⟩
  have hO := hO.call hO' (by simp [Res.shared])
  refine op_val (ex_assign hf rfl) rfl hf rfl rfl fun a hf => ?_
  refine wpList_nil ?_
  refine nor_then (hK10 _ _ ?_)
  refine wp_seq_cut (fun a w => ∃ (t19 : Bool), Fits 29 [(0, .bool t19)] a ∧ Dk.Own w0 [] w [.row (.slice p8 r7.length c9) 63 2 r7.length (cells enc_api_Field r7), .row (.slice p4 r3.1.length c5) 9 1 r3.1.length (cells enc_str r3.1), .row (.slice (some ⟨b2, 0, none⟩) (([[49, 46, 50, 46, 51, 46, 52, 44, 32, 58, 58, 49]]).length) 1) 9 1 (([[49, 46, 50, 46, 51, 46, 52, 44, 32, 58, 58, 49]]).length) (cells enc_str ([[49, 46, 50, 46, 51, 46, 52, 44, 32, 58, 58, 49]]))] ∧ law27_awake_j1 t19 = some R) ?_ ?_
  · refine wp_region_list ?_
    refine op_val (ex_move hf rfl) rfl hf rfl rfl fun a hf => ?_
    refine op_val (ex_eql (m := r3.2) (n := 0) hf rfl rfl) rfl hf rfl rfl fun a hf => ?_
    refine op_val (ex_move hf rfl) rfl hf rfl rfl fun a hf => ?_
    rcases bcase (r3.2 == 0) with hc11 | hc11
    · have hm := it hc11 hm
      refine op_guard rfl hf rfl rfl (hc11) ?_
      refine op_val (ex_move hf rfl) rfl hf rfl rfl fun a hf => ?_
      refine op_guard rfl hf rfl rfl (hc11) ?_
      refine op_buildSlice (vs := [(0, str [49, 46, 50, 46, 51, 46, 52]), (1, str [58, 58, 49])]) (cs := [str [49, 46, 50, 46, 51, 46, 52], str [58, 58, 49]]) (e := 9) (sz := 1) hf rfl rfl (fun w => by kernel_rfl) rfl rfl hO fun a b12 w hf hO => ?_
      refine op_guard rfl hf rfl rfl (hc11) ?_
      obtain ⟨r13, hr13, hm⟩ := ob hm
      refine op_enter (ex_call c_28 hf (vs := [.slice p4 r3.1.length c5, .slice (some ⟨b12, 0, none⟩) (([[49, 46, 50, 46, 51, 46, 52], [58, 58, 49]]).length) 2]) rfl) rfl hf rfl rfl (w_ref06_Same r3.1 ([[49, 46, 50, 46, 51, 46, 52], [58, 58, 49]]) r13 _ (hG.own hF hO).1 (hO.rowSees (i := 2) rfl) (hO.rowCap (i := 2) rfl) (hO.rowSees (i := 0) rfl) (hO.rowCap (i := 0) rfl) hr13) ?_
      rintro e w' ⟨he, hb⟩
      refine ⟨_, he, fun a hf => ?_⟩
      have hO := hO.grow hb
      refine op_val (ex_pick_t hf rfl hc11 rfl) rfl hf rfl rfl fun a hf => ?_
      refine op_val (ex_move hf rfl) rfl hf rfl rfl fun a hf => ?_
      rcases bcase (r13) with hc14 | hc14
      · have hm := it hc14 hm
        refine op_guard rfl hf rfl rfl (hc14) ?_
        refine op_val (ex_move hf rfl) rfl hf rfl rfl fun a hf => ?_
        refine op_guard rfl hf rfl rfl (hc14) ?_
        refine op_val (ex_len_l Tryz.underlying43 hf rfl) rfl hf rfl rfl fun a hf => ?_
        refine op_guard rfl hf rfl rfl (hc14) ?_
        refine op_val (ex_eql (m := (r7.length : Int)) (n := 1) hf rfl rfl) rfl hf rfl rfl fun a hf => ?_
        refine op_val (ex_pick_t hf rfl hc14 rfl) rfl hf rfl rfl fun a hf => ?_
        refine op_val (ex_move hf rfl) rfl hf rfl rfl fun a hf => ?_
        rcases bcase ((r7.length : Int) == 1) with hc15 | hc15
        · have hm := it hc15 hm
          refine op_guard rfl hf rfl rfl (hc15) ?_
          refine op_val (ex_move hf rfl) rfl hf rfl rfl fun a hf => ?_
          refine op_guard rfl hf rfl rfl (hc15) ?_
          obtain ⟨x16, hx16, hm⟩ := ob hm
          obtain ⟨b17, o18, hix16, hSx16, hAx16⟩ := elemAtRow (enc := enc_api_Field) (sz := 2) (xs := r7) 43 Tryz.underlying43 sz_63 (by decide) (fun _ => rfl) hO (i := 1) rfl hx16
          refine op_val (ex_indexAddr hix16 hf rfl rfl) rfl hf rfl rfl fun a hf => ?_
          refine op_guard rfl hf rfl rfl (hc15) ?_
          refine op_val (ex_loadN (o := 0) (vs := [str x16.Name, str x16.Value]) ag_63 sz_63 (hSx16 _ (hO.rowSees (i := 1) rfl)) rfl rfl hf rfl) rfl hf rfl rfl fun a hf => ?_
          refine op_guard rfl hf rfl rfl (hc15) ?_
          refine op_val (ex_build (vs := [(0, str [88, 45, 70, 111, 114, 119, 97, 114, 100, 101, 100, 45, 70, 111, 114]), (1, str [117, 110, 107, 110, 111, 119, 110])]) (v := .agg #[str [88, 45, 70, 111, 114, 119, 97, 114, 100, 101, 100, 45, 70, 111, 114], str [117, 110, 107, 110, 111, 119, 110]]) hf rfl (by kernel_rfl)) rfl hf rfl rfl fun a hf => ?_
          refine op_guard rfl hf rfl rfl (hc15) ?_
          refine op_val (ex_eql_t (by kernel_rfl) (eq_63 x16 (⟨[88, 45, 70, 111, 114, 119, 97, 114, 100, 101, 100, 45, 70, 111, 114], [117, 110, 107, 110, 111, 119, 110]⟩ : api_Field)) hf rfl rfl) rfl hf rfl rfl fun a hf => ?_
          refine op_val (ex_pick_t hf rfl hc15 rfl) rfl hf rfl rfl fun a hf => ?_
          refine op_val (ex_assign hf rfl) rfl hf rfl rfl fun a hf => ?_
          refine wpList_nil ?_
          refine nor_then ?_
          exact ⟨x16 == (⟨[88, 45, 70, 111, 114, 119, 97, 114, 100, 101, 100, 45, 70, 111, 114], [117, 110, 107, 110, 111, 119, 110]⟩ : api_Field), (hf.cons rfl hf.nil), (hO.sub (.cons _ (.cons_cons _ (.cons_cons _ (.cons_cons _ .slnil))))), hm⟩
        · have hm := ie hc15 hm
          refine op_pass rfl hf rfl rfl (hc15) rfl rfl fun a hf => ?_
          refine op_pass rfl hf rfl rfl (hc15) rfl rfl fun a hf => ?_
          refine op_pass rfl hf rfl rfl (hc15) rfl rfl fun a hf => ?_
          refine op_pass rfl hf rfl rfl (hc15) rfl rfl fun a hf => ?_
          refine op_pass rfl hf rfl rfl (hc15) rfl rfl fun a hf => ?_
          refine op_val (ex_pick_f hf rfl hc15 rfl) rfl hf rfl rfl fun a hf => ?_
          refine op_val (ex_assign hf rfl) rfl hf rfl rfl fun a hf => ?_
          refine wpList_nil ?_
          refine nor_then ?_
          exact ⟨false, (hf.cons rfl hf.nil), (hO.sub (.cons _ (.cons_cons _ (.cons_cons _ (.cons_cons _ .slnil))))), hm⟩
      · have hm := ie hc14 hm
        refine op_pass rfl hf rfl rfl (hc14) rfl rfl fun a hf => ?_
        refine op_pass rfl hf rfl rfl (hc14) rfl rfl fun a hf => ?_
        refine op_pass rfl hf rfl rfl (hc14) rfl rfl fun a hf => ?_
        refine op_val (ex_pick_f hf rfl hc14 rfl) rfl hf rfl rfl fun a hf => ?_
        refine op_val (ex_move hf rfl) rfl hf rfl rfl fun a hf => ?_
        refine op_pass rfl hf rfl rfl (rfl) rfl rfl fun a hf => ?_
        refine op_pass rfl hf rfl rfl (rfl) rfl rfl fun a hf => ?_
        refine op_pass rfl hf rfl rfl (rfl) rfl rfl fun a hf => ?_
        refine op_pass rfl hf rfl rfl (rfl) rfl rfl fun a hf => ?_
        refine op_pass rfl hf rfl rfl (rfl) rfl rfl fun a hf => ?_
        refine op_val (ex_pick_f hf rfl rfl rfl) rfl hf rfl rfl fun a hf => ?_
        refine op_val (ex_assign hf rfl) rfl hf rfl rfl fun a hf => ?_
        refine wpList_nil ?_
        refine nor_then ?_
        exact ⟨false, (hf.cons rfl hf.nil), (hO.sub (.cons _ (.cons_cons _ (.cons_cons _ (.cons_cons _ .slnil))))), hm⟩
    · have hm := ie hc11 hm
      refine op_pass rfl hf rfl rfl (hc11) rfl rfl fun a hf => ?_
      refine op_pass rfl hf rfl rfl (hc11) rfl rfl fun a hf => ?_
      refine op_pass rfl hf rfl rfl (hc11) rfl rfl fun a hf => ?_
      refine op_val (ex_pick_f hf rfl hc11 rfl) rfl hf rfl rfl fun a hf => ?_
      refine op_val (ex_move hf rfl) rfl hf rfl rfl fun a hf => ?_
      refine op_pass rfl hf rfl rfl (rfl) rfl rfl fun a hf => ?_
      refine op_pass rfl hf rfl rfl (rfl) rfl rfl fun a hf => ?_
      refine op_pass rfl hf rfl rfl (rfl) rfl rfl fun a hf => ?_
      refine op_val (ex_pick_f hf rfl rfl rfl) rfl hf rfl rfl fun a hf => ?_
      refine op_val (ex_move hf rfl) rfl hf rfl rfl fun a hf => ?_
      refine op_pass rfl hf rfl rfl (rfl) rfl rfl fun a hf => ?_
      refine op_pass rfl hf rfl rfl (rfl) rfl rfl fun a hf => ?_
      refine op_pass rfl hf rfl rfl (rfl) rfl rfl fun a hf => ?_
      refine op_pass rfl hf rfl rfl (rfl) rfl rfl fun a hf => ?_
      refine op_pass rfl hf rfl rfl (rfl) rfl rfl fun a hf => ?_
      refine op_val (ex_pick_f hf rfl rfl rfl) rfl hf rfl rfl fun a hf => ?_
      refine op_val (ex_assign hf rfl) rfl hf rfl rfl fun a hf => ?_
      refine wpList_nil ?_
      refine nor_then ?_
      exact ⟨false, (hf.cons rfl hf.nil), hO, hm⟩
  · rintro a w ⟨t19, hf, hO, hm⟩
    rw [law27_awake_j1] at hm
    refine wp_ret ?_
    obtain rfl := Option.some.inj hm
    exact post_ret Tryz.results20 hf (.tmp rfl .nil) ⟨rfl, hO.below⟩

set_option maxHeartbeats 1000000 in
theorem w_law15_few (x_s : Str) (R : Str) (w0 : World) (hG : Glob w0) (hm : law15_few x_s = some R) :
    Calls Tryz.prog 44 #[str x_s] w0 fun e w' => e = .returned (str R) ∧ Below w0.heap.size w0 w' := by
  rw [law15_few] at hm
  refine calls_enter (vs := [str x_s]) Tryz.func44 rfl Tryz.ntmps44 rfl fun a hf => ?_
  have hF : Away [] := away_nil
  have hO : Dk.Own w0 [] w0 [] := Dk.Own.refl w0
  refine wp_seq_k fun _ hK1 => ?_
  refine wp_region_list ?_
  refine op_val (ex_assign hf rfl) rfl hf rfl rfl fun a hf => ?_
  refine wpList_nil ?_
  refine nor_then (hK1 _ _ ?_)
  refine wp_seq_k fun _ hK3 => ?_
  refine wp_region_list ?_
  refine op_val (ex_move hf rfl) rfl hf rfl rfl fun a hf => ?_
  refine op_val (ex_move hf rfl) rfl hf rfl rfl fun a hf => ?_
  refine op_val (ex_len_s (l := x_s) Tryz.underlying9 hf rfl) rfl hf rfl rfl fun a hf => ?_
  refine op_val (ex_min (m := (x_s.length : Int)) (n := 400) hf rfl rfl) rfl hf rfl rfl fun a hf => ?_
  obtain ⟨s2, hs2, hm⟩ := ob hm
  refine op_val (ex_to_s (l := x_s) Tryz.underlying9 hf rfl rfl hs2) rfl hf rfl rfl fun a hf => ?_
  refine op_val (ex_assign hf rfl) rfl hf rfl rfl fun a hf => ?_
  refine wpList_nil ?_
  refine nor_then (hK3 _ _ ?_)
  refine wp_ret ?_
  obtain rfl := Option.some.inj hm
  exact post_ret Tryz.results44 hf (.tmp rfl .nil) ⟨rfl, hO.below⟩

set_option maxHeartbeats 1000000 in
theorem w_law15_Few (x_h : api_Head) (R : api_Head) (w0 : World) (hG : Glob w0) {x_h_p0 : Option Addr} {x_h_c0 : Nat} (hs0 : Sees w0 x_h_p0 (cells enc_api_Field x_h.Fields)) (hc0 : x_h.Fields.length ≤ x_h_c0) (hm : law15_Few x_h = some R) :
    Calls Tryz.prog 21 #[.agg #[int x_h.Kind, str x_h.Method, str x_h.Target, int x_h.Code, str x_h.Reason, int x_h.Minor, .slice x_h_p0 x_h.Fields.length x_h_c0]] w0 fun e w' => ∃ (p0 : Option Addr) (c0 : Nat), e = .returned (.agg #[int R.Kind, str R.Method, str R.Target, int R.Code, str R.Reason, int R.Minor, .slice p0 R.Fields.length c0]) ∧ Dk.Own w0 [] w' [.row (.slice p0 R.Fields.length c0) 63 2 R.Fields.length (cells enc_api_Field R.Fields)] := by
  rw [law15_Few] at hm
  refine calls_enter (vs := [.agg #[int x_h.Kind, str x_h.Method, str x_h.Target, int x_h.Code, str x_h.Reason, int x_h.Minor, .slice x_h_p0 x_h.Fields.length x_h_c0]]) Tryz.func21 rfl Tryz.ntmps21 rfl fun a hf => ?_
  have hF : Away [] := away_nil
  have hO : Dk.Own w0 [] w0 [] := Dk.Own.refl w0
  have hO := hO.addShr hs0 (by simp [Res.shared])
  refine wp_seq_k fun _ hK3 => ?_
  refine wp_region_list ?_
  refine op_box (v := .agg #[int x_h.Kind, str x_h.Method, str x_h.Target, int x_h.Code, str x_h.Reason, int x_h.Minor, .slice x_h_p0 x_h.Fields.length x_h_c0]) (cs := [int x_h.Kind, str x_h.Method, str x_h.Target, int x_h.Code, str x_h.Reason, int x_h.Minor, .slice x_h_p0 x_h.Fields.length x_h_c0]) rfl hf rfl rfl hO fun a b1 w hf hO => ?_
  refine op_alloc al_45 hf rfl hO fun a b2 w hf hO => ?_
  have hO := hO.nilRow 63 2
  refine wpList_nil ?_
  refine nor_then (hK3 _ _ ?_)
  refine wp_seq_k fun _ hK5 => ?_
  refine wp_region_list ?_
  refine op_val (ex_field fa_45_1 hf rfl) rfl hf rfl rfl fun a hf => ?_
  refine op_val (ex_load1 (o := 1) ag_9 (hO.blkSees (i := 2) rfl) rfl hf rfl) rfl hf rfl rfl fun a hf => ?_
  obtain ⟨r4, hr4, hm⟩ := ob hm
  refine op_enter (ex_call c_44 hf (vs := [str x_h.Method]) rfl) rfl hf rfl rfl (w_law15_few x_h.Method r4 _ (hG.own hF hO) hr4) ?_
  rintro e w' ⟨he, hb⟩
  refine ⟨_, he, fun a hf => ?_⟩
  have hO := hO.grow hb
  refine op_val (ex_field fa_45_1 hf rfl) rfl hf rfl rfl fun a hf => ?_
  refine op_store1 (i := 2) (o := 1) (v := str r4) sz_9 rfl rfl rfl rfl hf rfl rfl hO fun w hO => ?_
  refine wpList_nil ?_
  refine nor_then (hK5 _ _ ?_)
  refine wp_seq_k fun _ hK7 => ?_
  refine wp_region_list ?_
  refine op_val (ex_field fa_45_2 hf rfl) rfl hf rfl rfl fun a hf => ?_
  refine op_val (ex_load1 (o := 2) ag_9 (hO.blkSees (i := 2) rfl) rfl hf rfl) rfl hf rfl rfl fun a hf => ?_
  obtain ⟨r6, hr6, hm⟩ := ob hm
  refine op_enter (ex_call c_44 hf (vs := [str x_h.Target]) rfl) rfl hf rfl rfl (w_law15_few x_h.Target r6 _ (hG.own hF hO) hr6) ?_
  rintro e w' ⟨he, hb⟩
  refine ⟨_, he, fun a hf => ?_⟩
  have hO := hO.grow hb
  refine op_val (ex_field fa_45_2 hf rfl) rfl hf rfl rfl fun a hf => ?_
  refine op_store1 (i := 2) (o := 2) (v := str r6) sz_9 rfl rfl rfl rfl hf rfl rfl hO fun w hO => ?_
  refine wpList_nil ?_
  refine nor_then (hK7 _ _ ?_)
  refine wp_seq_k fun _ hK9 => ?_
  refine wp_region_list ?_
  refine op_val (ex_field fa_45_4 hf rfl) rfl hf rfl rfl fun a hf => ?_
  refine op_val (ex_load1 (o := 4) ag_9 (hO.blkSees (i := 2) rfl) rfl hf rfl) rfl hf rfl rfl fun a hf => ?_
  obtain ⟨r8, hr8, hm⟩ := ob hm
  refine op_enter (ex_call c_44 hf (vs := [str x_h.Reason]) rfl) rfl hf rfl rfl (w_law15_few x_h.Reason r8 _ (hG.own hF hO) hr8) ?_
  rintro e w' ⟨he, hb⟩
  refine ⟨_, he, fun a hf => ?_⟩
  have hO := hO.grow hb
  refine op_val (ex_field fa_45_4 hf rfl) rfl hf rfl rfl fun a hf => ?_
  refine op_store1 (i := 2) (o := 4) (v := str r8) sz_9 rfl rfl rfl rfl hf rfl rfl hO fun w hO => ?_
  refine wpList_nil ?_
  refine nor_then (hK9 _ _ ?_)
  refine wp_seq_k fun _ hK10 => ?_
  refine wp_region_list ?_
  have hO := hO.nilRow 63 2
  refine op_val (ex_assign hf rfl) rfl hf rfl rfl fun a hf => ?_
  refine wpList_nil ?_
  refine nor_then (hK10 _ _ ?_)
  refine wp_seq_k fun _ hK34 => ?_
  refine wp_seq_k fun _ hK11 => ?_
  refine wp_region_list ?_
  refine op_val (ex_assign hf rfl) rfl hf rfl rfl fun a hf => ?_
  refine wpList_nil ?_
  refine nor_then (hK11 _ _ ?_)
  refine wp_block ?_
  refine wp_loop_n (fun k a w => ∃ (p12 : Option Addr) (c13 : Nat) (l14 : List api_Field) (i15 : Int), Fits 49 [(1, ptr b1 0), (2, ptr b2 0), (3, .slice p12 l14.length c13), (4, int i15)] a ∧ Dk.Own w0 [] w [.row (.slice p12 l14.length c13) 63 2 l14.length (cells enc_api_Field l14), .row (.slice none 0 0) 63 2 0 (cells enc_api_Field []), .blk b2 [int 0, str [], str [], int 0, str [], int 0, .slice none 0 0] 45, .blk b1 [int x_h.Kind, str r4, str r6, int x_h.Code, str r8, int x_h.Minor, .slice x_h_p0 x_h.Fields.length x_h_c0] 45, .shr x_h_p0 (cells enc_api_Field x_h.Fields)] ∧ law15_Few_L1 x_h r4 r6 r8 k l14 i15 = some R) ?_ fuel ?_
  · rintro n1 a w ⟨p12, c13, l14, i15, hf, hO, hm⟩
    obtain _ | n1 := n1
    · rw [law15_Few_L1] at hm
      cases hm
    · rw [law15_Few_L1] at hm
      refine wp_seq_k fun _ hK19 => ?_
      refine wp_seq_cut (fun a w => ∃ (t17 : Bool), Fits 49 [(1, ptr b1 0), (2, ptr b2 0), (3, .slice p12 l14.length c13), (4, int i15), (25, .bool t17)] a ∧ Dk.Own w0 [] w [.row (.slice p12 l14.length c13) 63 2 l14.length (cells enc_api_Field l14), .row (.slice none 0 0) 63 2 0 (cells enc_api_Field []), .blk b2 [int 0, str [], str [], int 0, str [], int 0, .slice none 0 0] 45, .blk b1 [int x_h.Kind, str r4, str r6, int x_h.Code, str r8, int x_h.Minor, .slice x_h_p0 x_h.Fields.length x_h_c0] 45, .shr x_h_p0 (cells enc_api_Field x_h.Fields)] ∧ law15_Few_j2 (law15_Few_L1 x_h r4 r6 r8 n1) x_h r4 r6 r8 l14 i15 t17 = some R) ?_ ?_
      · refine wp_region_list ?_
        refine op_val (ex_move hf rfl) rfl hf rfl rfl fun a hf => ?_
        refine op_val (ex_field fa_45_6 hf rfl) rfl hf rfl rfl fun a hf => ?_
        refine op_val (ex_load1 (o := 6) ag_43 (hO.blkSees (i := 3) rfl) rfl hf rfl) rfl hf rfl rfl fun a hf => ?_
        refine op_val (ex_len_l Tryz.underlying43 hf rfl) rfl hf rfl rfl fun a hf => ?_
        refine op_val (ex_lss (m := i15) (n := (x_h.Fields.length : Int)) hf rfl rfl) rfl hf rfl rfl fun a hf => ?_
        refine op_val (ex_move hf rfl) rfl hf rfl rfl fun a hf => ?_
        rcases bcase (decide (i15 < (x_h.Fields.length : Int))) with hc16 | hc16
        · have hm := it hc16 hm
          refine op_guard rfl hf rfl rfl (hc16) ?_
          refine op_val (ex_move hf rfl) rfl hf rfl rfl fun a hf => ?_
          refine op_guard rfl hf rfl rfl (hc16) ?_
          refine op_val (ex_lss (m := i15) (n := 120) hf rfl rfl) rfl hf rfl rfl fun a hf => ?_
          refine op_val (ex_pick_t hf rfl hc16 rfl) rfl hf rfl rfl fun a hf => ?_
          refine wpList_nil ?_
          refine nor_then ?_
          exact ⟨decide (i15 < 120), (hf.cons rfl (hf.cons rfl (hf.cons rfl (hf.cons rfl (hf.cons rfl hf.nil))))), hO, hm⟩
        · have hm := ie hc16 hm
          refine op_pass rfl hf rfl rfl (hc16) rfl rfl fun a hf => ?_
          refine op_pass rfl hf rfl rfl (hc16) rfl rfl fun a hf => ?_
          refine op_val (ex_pick_f hf rfl hc16 rfl) rfl hf rfl rfl fun a hf => ?_
          refine wpList_nil ?_
          refine nor_then ?_
          exact ⟨false, (hf.cons rfl (hf.cons rfl (hf.cons rfl (hf.cons rfl (hf.cons rfl hf.nil))))), hO, hm⟩
      · rintro a w ⟨t17, hf, hO, hm⟩
        rw [law15_Few_j2] at hm
        refine wp_cond_cut hf rfl (fun hc18 => ?_) (fun hc18 => ?_)
        · have hm := it hc18 hm
          refine wp_skip ?_
          refine nor_then (hK19 _ _ ?_)
          refine wp_seq_k fun _ hK32 => ?_
          refine wp_block ?_
          obtain ⟨x20, hx20, hm⟩ := ob hm
          obtain ⟨b21, o22, hix20, hSx20⟩ := elemAt (enc := enc_api_Field) (sz := 2) (xs := x_h.Fields) 43 Tryz.underlying43 sz_63 (by decide) (fun _ => rfl) (hO.sees (i := 4) rfl) hx20
          obtain ⟨r23, hr23, hm⟩ := ob hm
          obtain ⟨x24, hx24, hm⟩ := ob hm
          obtain ⟨b25, o26, hix24, hSx24⟩ := elemAt (enc := enc_api_Field) (sz := 2) (xs := x_h.Fields) 43 Tryz.underlying43 sz_63 (by decide) (fun _ => rfl) (hO.sees (i := 4) rfl) hx24
          obtain ⟨r27, hr27, hm⟩ := ob hm
          obtain ⟨hg31, hm⟩ := og hm
          refine wp_drawS' (S := Nat × Option Addr × Nat) (E0 := [(1, ptr b1 0), (2, ptr b2 0), (3, .slice p12 l14.length c13), (4, int i15)]) (by kernel_rfl) (fun k σ w => match k with | 0 => Dk.Own w0 [] w [.row (.slice p12 l14.length c13) 63 2 l14.length (cells enc_api_Field l14), .row (.slice none 0 0) 63 2 0 (cells enc_api_Field []), .blk b2 [int 0, str [], str [], int 0, str [], int 0, .slice none 0 0] 45, .blk b1 [int x_h.Kind, str r4, str r6, int x_h.Code, str r8, int x_h.Minor, .slice x_h_p0 x_h.Fields.length x_h_c0] 45, .shr x_h_p0 (cells enc_api_Field x_h.Fields)] | 1 => Dk.Own w0 [] w [.row (.slice p12 l14.length c13) 63 2 l14.length (cells enc_api_Field l14), .row (.slice none 0 0) 63 2 0 (cells enc_api_Field []), .blk b2 [int 0, str [], str [], int 0, str [], int 0, .slice none 0 0] 45, .blk b1 [int x_h.Kind, str r4, str r6, int x_h.Code, str r8, int x_h.Minor, .slice x_h_p0 x_h.Fields.length x_h_c0] 45, .shr x_h_p0 (cells enc_api_Field x_h.Fields)] | 2 => Dk.Own w0 [] w [.row (.slice p12 l14.length c13) 63 2 l14.length (cells enc_api_Field l14), .row (.slice none 0 0) 63 2 0 (cells enc_api_Field []), .blk b2 [int 0, str [], str [], int 0, str [], int 0, .slice none 0 0] 45, .blk b1 [int x_h.Kind, str r4, str r6, int x_h.Code, str r8, int x_h.Minor, .slice x_h_p0 x_h.Fields.length x_h_c0] 45, .shr x_h_p0 (cells enc_api_Field x_h.Fields)] | 3 => Dk.Own w0 [] w [.row (.slice (some ⟨(σ.1), 0, none⟩) (([(⟨r23, r27⟩ : api_Field)]).length) 1) 63 2 (([(⟨r23, r27⟩ : api_Field)]).length) (cells enc_api_Field ([(⟨r23, r27⟩ : api_Field)])), .row (.slice p12 l14.length c13) 63 2 l14.length (cells enc_api_Field l14), .row (.slice none 0 0) 63 2 0 (cells enc_api_Field []), .blk b2 [int 0, str [], str [], int 0, str [], int 0, .slice none 0 0] 45, .blk b1 [int x_h.Kind, str r4, str r6, int x_h.Code, str r8, int x_h.Minor, .slice x_h_p0 x_h.Fields.length x_h_c0] 45, .shr x_h_p0 (cells enc_api_Field x_h.Fields)] | _ => Dk.Own w0 [] w [.row (.slice (some ⟨(σ.1), 0, none⟩) (([(⟨r23, r27⟩ : api_Field)]).length) 1) 63 2 (([(⟨r23, r27⟩ : api_Field)]).length) (cells enc_api_Field ([(⟨r23, r27⟩ : api_Field)])), .row (.slice (σ.2.1) ((l14 ++ [(⟨r23, r27⟩ : api_Field)]).length) (σ.2.2)) 63 2 ((l14 ++ [(⟨r23, r27⟩ : api_Field)]).length) (cells enc_api_Field (l14 ++ [(⟨r23, r27⟩ : api_Field)])), .row (.slice none 0 0) 63 2 0 (cells enc_api_Field []), .blk b2 [int 0, str [], str [], int 0, str [], int 0, .slice none 0 0] 45, .blk b1 [int x_h.Kind, str r4, str r6, int x_h.Code, str r8, int x_h.Minor, .slice x_h_p0 x_h.Fields.length x_h_c0] 45, .shr x_h_p0 (cells enc_api_Field x_h.Fields)]) (fun σ => [⟨[(3, .slice p12 l14.length c13)], some (28, .slice p12 l14.length c13)⟩, ⟨[(1, ptr b1 0)], some (29, ptr b1 6)⟩, ⟨[(29, ptr b1 6)], some (30, .slice x_h_p0 x_h.Fields.length x_h_c0)⟩, ⟨[(4, int i15)], some (31, int i15)⟩, ⟨[(30, .slice x_h_p0 x_h.Fields.length x_h_c0), (31, int i15)], some (32, ptr b21 o22)⟩, ⟨[(32, ptr b21 o22)], some (33, ptr b21 o22)⟩, ⟨[(33, ptr b21 o22)], some (34, str x20.Name)⟩, ⟨[(34, str x20.Name)], some (35, str r23)⟩, ⟨[(1, ptr b1 0)], some (36, ptr b1 6)⟩, ⟨[(36, ptr b1 6)], some (37, .slice x_h_p0 x_h.Fields.length x_h_c0)⟩, ⟨[(4, int i15)], some (38, int i15)⟩, ⟨[(37, .slice x_h_p0 x_h.Fields.length x_h_c0), (38, int i15)], some (39, ptr b25 o26)⟩, ⟨[(39, ptr b25 o26)], some (40, ptr b25 (o26 + 1))⟩, ⟨[(40, ptr b25 (o26 + 1))], some (41, str x24.Value)⟩, ⟨[(41, str x24.Value)], some (42, str r27)⟩, ⟨[(35, str r23), (42, str r27)], some (43, .agg #[str r23, str r27])⟩, ⟨[(43, .agg #[str r23, str r27])], some (44, .slice (some ⟨(σ.1), 0, none⟩) (([(⟨r23, r27⟩ : api_Field)]).length) 1)⟩, ⟨[(28, .slice p12 l14.length c13), (44, .slice (some ⟨(σ.1), 0, none⟩) (([(⟨r23, r27⟩ : api_Field)]).length) 1)], some (45, .slice (σ.2.1) ((l14 ++ [(⟨r23, r27⟩ : api_Field)]).length) (σ.2.2))⟩, ⟨[(45, .slice (σ.2.1) ((l14 ++ [(⟨r23, r27⟩ : api_Field)]).length) (σ.2.2))], some (3, .slice (σ.2.1) ((l14 ++ [(⟨r23, r27⟩ : api_Field)]).length) (σ.2.2))⟩]) (0, none, 0) [7, 14, 16, 17] rfl (fun _ => rfl) (fun _ => rfl) (fun _ => rfl) rfl rfl (by decide) rfl hO.drew (hf.cons rfl (hf.cons rfl (hf.cons rfl (hf.cons rfl hf.nil)))) (fun σ => ⟨⟨rfl, trivial⟩, ⟨⟨rfl, trivial⟩, ⟨⟨rfl, trivial⟩, ⟨⟨rfl, trivial⟩, ⟨⟨rfl, ⟨rfl, trivial⟩⟩, ⟨⟨rfl, trivial⟩, ⟨⟨rfl, trivial⟩, ⟨⟨rfl, trivial⟩, ⟨⟨rfl, trivial⟩, ⟨⟨rfl, trivial⟩, ⟨⟨rfl, trivial⟩, ⟨⟨rfl, ⟨rfl, trivial⟩⟩, ⟨⟨rfl, trivial⟩, ⟨⟨rfl, trivial⟩, ⟨⟨rfl, trivial⟩, ⟨⟨rfl, ⟨rfl, trivial⟩⟩, ⟨⟨rfl, trivial⟩, ⟨⟨rfl, ⟨rfl, trivial⟩⟩, ⟨⟨rfl, trivial⟩, trivial⟩⟩⟩⟩⟩⟩⟩⟩⟩⟩⟩⟩⟩⟩⟩⟩⟩⟩⟩) ⟨sS_pure rfl (fun σ => rfl) (fun σ => rfl) (fun σ a w k _ _ _ _ hf => ex_move hf rfl), ⟨sS_pure rfl (fun σ => rfl) (fun σ => rfl) (fun σ a w k _ _ _ _ hf => ex_field fa_45_6 hf rfl), ⟨sS_pure rfl (fun σ => rfl) (fun σ => rfl) (fun σ a w k hk hlo hup hst hf => match k, hk, hlo, hup, hst, hf with | 0, _, _, _, hst, hf => have hO : Dk.Own w0 [] w [.row (.slice p12 l14.length c13) 63 2 l14.length (cells enc_api_Field l14), .row (.slice none 0 0) 63 2 0 (cells enc_api_Field []), .blk b2 [int 0, str [], str [], int 0, str [], int 0, .slice none 0 0] 45, .blk b1 [int x_h.Kind, str r4, str r6, int x_h.Code, str r8, int x_h.Minor, .slice x_h_p0 x_h.Fields.length x_h_c0] 45, .shr x_h_p0 (cells enc_api_Field x_h.Fields)] := hst; ex_load1 (o := 6) ag_43 (hO.blkSees (i := 3) rfl) rfl hf rfl | 1, _, _, _, hst, hf => have hO : Dk.Own w0 [] w [.row (.slice p12 l14.length c13) 63 2 l14.length (cells enc_api_Field l14), .row (.slice none 0 0) 63 2 0 (cells enc_api_Field []), .blk b2 [int 0, str [], str [], int 0, str [], int 0, .slice none 0 0] 45, .blk b1 [int x_h.Kind, str r4, str r6, int x_h.Code, str r8, int x_h.Minor, .slice x_h_p0 x_h.Fields.length x_h_c0] 45, .shr x_h_p0 (cells enc_api_Field x_h.Fields)] := hst; ex_load1 (o := 6) ag_43 (hO.blkSees (i := 3) rfl) rfl hf rfl | 2, _, _, _, hst, hf => have hO : Dk.Own w0 [] w [.row (.slice p12 l14.length c13) 63 2 l14.length (cells enc_api_Field l14), .row (.slice none 0 0) 63 2 0 (cells enc_api_Field []), .blk b2 [int 0, str [], str [], int 0, str [], int 0, .slice none 0 0] 45, .blk b1 [int x_h.Kind, str r4, str r6, int x_h.Code, str r8, int x_h.Minor, .slice x_h_p0 x_h.Fields.length x_h_c0] 45, .shr x_h_p0 (cells enc_api_Field x_h.Fields)] := hst; ex_load1 (o := 6) ag_43 (hO.blkSees (i := 3) rfl) rfl hf rfl | 3, _, _, _, hst, hf => have hO : Dk.Own w0 [] w [.row (.slice (some ⟨(σ.1), 0, none⟩) (([(⟨r23, r27⟩ : api_Field)]).length) 1) 63 2 (([(⟨r23, r27⟩ : api_Field)]).length) (cells enc_api_Field ([(⟨r23, r27⟩ : api_Field)])), .row (.slice p12 l14.length c13) 63 2 l14.length (cells enc_api_Field l14), .row (.slice none 0 0) 63 2 0 (cells enc_api_Field []), .blk b2 [int 0, str [], str [], int 0, str [], int 0, .slice none 0 0] 45, .blk b1 [int x_h.Kind, str r4, str r6, int x_h.Code, str r8, int x_h.Minor, .slice x_h_p0 x_h.Fields.length x_h_c0] 45, .shr x_h_p0 (cells enc_api_Field x_h.Fields)] := hst; ex_load1 (o := 6) ag_43 (hO.blkSees (i := 4) rfl) rfl hf rfl | 4, _, _, _, hst, hf => have hO : Dk.Own w0 [] w [.row (.slice (some ⟨(σ.1), 0, none⟩) (([(⟨r23, r27⟩ : api_Field)]).length) 1) 63 2 (([(⟨r23, r27⟩ : api_Field)]).length) (cells enc_api_Field ([(⟨r23, r27⟩ : api_Field)])), .row (.slice (σ.2.1) ((l14 ++ [(⟨r23, r27⟩ : api_Field)]).length) (σ.2.2)) 63 2 ((l14 ++ [(⟨r23, r27⟩ : api_Field)]).length) (cells enc_api_Field (l14 ++ [(⟨r23, r27⟩ : api_Field)])), .row (.slice none 0 0) 63 2 0 (cells enc_api_Field []), .blk b2 [int 0, str [], str [], int 0, str [], int 0, .slice none 0 0] 45, .blk b1 [int x_h.Kind, str r4, str r6, int x_h.Code, str r8, int x_h.Minor, .slice x_h_p0 x_h.Fields.length x_h_c0] 45, .shr x_h_p0 (cells enc_api_Field x_h.Fields)] := hst; ex_load1 (o := 6) ag_43 (hO.blkSees (i := 4) rfl) rfl hf rfl | k + 5, hk, _, _, _, _ => absurd hk (by simp)), ⟨sS_pure rfl (fun σ => rfl) (fun σ => rfl) (fun σ a w k _ _ _ _ hf => ex_move hf rfl), ⟨sS_pure rfl (fun σ => rfl) (fun σ => rfl) (fun σ a w k _ _ _ _ hf => ex_indexAddr hix20 hf rfl rfl), ⟨sS_pure rfl (fun σ => rfl) (fun σ => rfl) (fun σ a w k _ _ _ _ hf => ex_field fa_63_0 hf rfl), ⟨sS_pure rfl (fun σ => rfl) (fun σ => rfl) (fun σ a w k hk hlo hup hst hf => match k, hk, hlo, hup, hst, hf with | 0, _, _, _, hst, hf => have hO : Dk.Own w0 [] w [.row (.slice p12 l14.length c13) 63 2 l14.length (cells enc_api_Field l14), .row (.slice none 0 0) 63 2 0 (cells enc_api_Field []), .blk b2 [int 0, str [], str [], int 0, str [], int 0, .slice none 0 0] 45, .blk b1 [int x_h.Kind, str r4, str r6, int x_h.Code, str r8, int x_h.Minor, .slice x_h_p0 x_h.Fields.length x_h_c0] 45, .shr x_h_p0 (cells enc_api_Field x_h.Fields)] := hst; ex_load1 (o := 0) ag_9 (hSx20 _ (hO.sees (i := 4) rfl)) rfl hf rfl | 1, _, _, _, hst, hf => have hO : Dk.Own w0 [] w [.row (.slice p12 l14.length c13) 63 2 l14.length (cells enc_api_Field l14), .row (.slice none 0 0) 63 2 0 (cells enc_api_Field []), .blk b2 [int 0, str [], str [], int 0, str [], int 0, .slice none 0 0] 45, .blk b1 [int x_h.Kind, str r4, str r6, int x_h.Code, str r8, int x_h.Minor, .slice x_h_p0 x_h.Fields.length x_h_c0] 45, .shr x_h_p0 (cells enc_api_Field x_h.Fields)] := hst; ex_load1 (o := 0) ag_9 (hSx20 _ (hO.sees (i := 4) rfl)) rfl hf rfl | 2, _, _, _, hst, hf => have hO : Dk.Own w0 [] w [.row (.slice p12 l14.length c13) 63 2 l14.length (cells enc_api_Field l14), .row (.slice none 0 0) 63 2 0 (cells enc_api_Field []), .blk b2 [int 0, str [], str [], int 0, str [], int 0, .slice none 0 0] 45, .blk b1 [int x_h.Kind, str r4, str r6, int x_h.Code, str r8, int x_h.Minor, .slice x_h_p0 x_h.Fields.length x_h_c0] 45, .shr x_h_p0 (cells enc_api_Field x_h.Fields)] := hst; ex_load1 (o := 0) ag_9 (hSx20 _ (hO.sees (i := 4) rfl)) rfl hf rfl | 3, _, _, _, hst, hf => have hO : Dk.Own w0 [] w [.row (.slice (some ⟨(σ.1), 0, none⟩) (([(⟨r23, r27⟩ : api_Field)]).length) 1) 63 2 (([(⟨r23, r27⟩ : api_Field)]).length) (cells enc_api_Field ([(⟨r23, r27⟩ : api_Field)])), .row (.slice p12 l14.length c13) 63 2 l14.length (cells enc_api_Field l14), .row (.slice none 0 0) 63 2 0 (cells enc_api_Field []), .blk b2 [int 0, str [], str [], int 0, str [], int 0, .slice none 0 0] 45, .blk b1 [int x_h.Kind, str r4, str r6, int x_h.Code, str r8, int x_h.Minor, .slice x_h_p0 x_h.Fields.length x_h_c0] 45, .shr x_h_p0 (cells enc_api_Field x_h.Fields)] := hst; ex_load1 (o := 0) ag_9 (hSx20 _ (hO.sees (i := 5) rfl)) rfl hf rfl | 4, _, _, _, hst, hf => have hO : Dk.Own w0 [] w [.row (.slice (some ⟨(σ.1), 0, none⟩) (([(⟨r23, r27⟩ : api_Field)]).length) 1) 63 2 (([(⟨r23, r27⟩ : api_Field)]).length) (cells enc_api_Field ([(⟨r23, r27⟩ : api_Field)])), .row (.slice (σ.2.1) ((l14 ++ [(⟨r23, r27⟩ : api_Field)]).length) (σ.2.2)) 63 2 ((l14 ++ [(⟨r23, r27⟩ : api_Field)]).length) (cells enc_api_Field (l14 ++ [(⟨r23, r27⟩ : api_Field)])), .row (.slice none 0 0) 63 2 0 (cells enc_api_Field []), .blk b2 [int 0, str [], str [], int 0, str [], int 0, .slice none 0 0] 45, .blk b1 [int x_h.Kind, str r4, str r6, int x_h.Code, str r8, int x_h.Minor, .slice x_h_p0 x_h.Fields.length x_h_c0] 45, .shr x_h_p0 (cells enc_api_Field x_h.Fields)] := hst; ex_load1 (o := 0) ag_9 (hSx20 _ (hO.sees (i := 5) rfl)) rfl hf rfl | k + 5, hk, _, _, _, _ => absurd hk (by simp)), ⟨sS_call rfl (fun σ => rfl) (fun σ => rfl) rfl (fun σ a w (_ : _) hf => ex_call c_44 hf (vs := [str x20.Name]) rfl) (fun σ w (hO : Dk.Own w0 [] w [.row (.slice p12 l14.length c13) 63 2 l14.length (cells enc_api_Field l14), .row (.slice none 0 0) 63 2 0 (cells enc_api_Field []), .blk b2 [int 0, str [], str [], int 0, str [], int 0, .slice none 0 0] 45, .blk b1 [int x_h.Kind, str r4, str r6, int x_h.Code, str r8, int x_h.Minor, .slice x_h_p0 x_h.Fields.length x_h_c0] 45, .shr x_h_p0 (cells enc_api_Field x_h.Fields)]) => (w_law15_few x20.Name r23 _ (hG.own hF hO) hr23).mono fun e w' h => by obtain ⟨he, hb⟩ := h; exact ⟨((σ.1), (σ.2.1), (σ.2.2)), he, hO.grow hb, ⟨.inr rfl, ⟨.inr rfl, ⟨.inr rfl, ⟨.inr rfl, ⟨.inr rfl, ⟨.inr rfl, ⟨.inr rfl, ⟨.inr rfl, ⟨.inr rfl, ⟨.inr rfl, ⟨.inr rfl, ⟨.inr rfl, ⟨.inr rfl, ⟨.inr rfl, ⟨.inr rfl, ⟨.inr rfl, ⟨.inr rfl, ⟨.inr rfl, ⟨.inr rfl, trivial⟩⟩⟩⟩⟩⟩⟩⟩⟩⟩⟩⟩⟩⟩⟩⟩⟩⟩⟩⟩), ⟨sS_pure rfl (fun σ => rfl) (fun σ => rfl) (fun σ a w k _ _ _ _ hf => ex_field fa_45_6 hf rfl), ⟨sS_pure rfl (fun σ => rfl) (fun σ => rfl) (fun σ a w k hk hlo hup hst hf => match k, hk, hlo, hup, hst, hf with | 0, _, _, _, hst, hf => have hO : Dk.Own w0 [] w [.row (.slice p12 l14.length c13) 63 2 l14.length (cells enc_api_Field l14), .row (.slice none 0 0) 63 2 0 (cells enc_api_Field []), .blk b2 [int 0, str [], str [], int 0, str [], int 0, .slice none 0 0] 45, .blk b1 [int x_h.Kind, str r4, str r6, int x_h.Code, str r8, int x_h.Minor, .slice x_h_p0 x_h.Fields.length x_h_c0] 45, .shr x_h_p0 (cells enc_api_Field x_h.Fields)] := hst; ex_load1 (o := 6) ag_43 (hO.blkSees (i := 3) rfl) rfl hf rfl | 1, _, _, _, hst, hf => have hO : Dk.Own w0 [] w [.row (.slice p12 l14.length c13) 63 2 l14.length (cells enc_api_Field l14), .row (.slice none 0 0) 63 2 0 (cells enc_api_Field []), .blk b2 [int 0, str [], str [], int 0, str [], int 0, .slice none 0 0] 45, .blk b1 [int x_h.Kind, str r4, str r6, int x_h.Code, str r8, int x_h.Minor, .slice x_h_p0 x_h.Fields.length x_h_c0] 45, .shr x_h_p0 (cells enc_api_Field x_h.Fields)] := hst; ex_load1 (o := 6) ag_43 (hO.blkSees (i := 3) rfl) rfl hf rfl | 2, _, _, _, hst, hf => have hO : Dk.Own w0 [] w [.row (.slice p12 l14.length c13) 63 2 l14.length (cells enc_api_Field l14), .row (.slice none 0 0) 63 2 0 (cells enc_api_Field []), .blk b2 [int 0, str [], str [], int 0, str [], int 0, .slice none 0 0] 45, .blk b1 [int x_h.Kind, str r4, str r6, int x_h.Code, str r8, int x_h.Minor, .slice x_h_p0 x_h.Fields.length x_h_c0] 45, .shr x_h_p0 (cells enc_api_Field x_h.Fields)] := hst; ex_load1 (o := 6) ag_43 (hO.blkSees (i := 3) rfl) rfl hf rfl | 3, _, _, _, hst, hf => have hO : Dk.Own w0 [] w [.row (.slice (some ⟨(σ.1), 0, none⟩) (([(⟨r23, r27⟩ : api_Field)]).length) 1) 63 2 (([(⟨r23, r27⟩ : api_Field)]).length) (cells enc_api_Field ([(⟨r23, r27⟩ : api_Field)])), .row (.slice p12 l14.length c13) 63 2 l14.length (cells enc_api_Field l14), .row (.slice none 0 0) 63 2 0 (cells enc_api_Field []), .blk b2 [int 0, str [], str [], int 0, str [], int 0, .slice none 0 0] 45, .blk b1 [int x_h.Kind, str r4, str r6, int x_h.Code, str r8, int x_h.Minor, .slice x_h_p0 x_h.Fields.length x_h_c0] 45, .shr x_h_p0 (cells enc_api_Field x_h.Fields)] := hst; ex_load1 (o := 6) ag_43 (hO.blkSees (i := 4) rfl) rfl hf rfl | 4, _, _, _, hst, hf => have hO : Dk.Own w0 [] w [.row (.slice (some ⟨(σ.1), 0, none⟩) (([(⟨r23, r27⟩ : api_Field)]).length) 1) 63 2 (([(⟨r23, r27⟩ : api_Field)]).length) (cells enc_api_Field ([(⟨r23, r27⟩ : api_Field)])), .row (.slice (σ.2.1) ((l14 ++ [(⟨r23, r27⟩ : api_Field)]).length) (σ.2.2)) 63 2 ((l14 ++ [(⟨r23, r27⟩ : api_Field)]).length) (cells enc_api_Field (l14 ++ [(⟨r23, r27⟩ : api_Field)])), .row (.slice none 0 0) 63 2 0 (cells enc_api_Field []), .blk b2 [int 0, str [], str [], int 0, str [], int 0, .slice none 0 0] 45, .blk b1 [int x_h.Kind, str r4, str r6, int x_h.Code, str r8, int x_h.Minor, .slice x_h_p0 x_h.Fields.length x_h_c0] 45, .shr x_h_p0 (cells enc_api_Field x_h.Fields)] := hst; ex_load1 (o := 6) ag_43 (hO.blkSees (i := 4) rfl) rfl hf rfl | k + 5, hk, _, _, _, _ => absurd hk (by simp)), ⟨sS_pure rfl (fun σ => rfl) (fun σ => rfl) (fun σ a w k _ _ _ _ hf => ex_move hf rfl), ⟨sS_pure rfl (fun σ => rfl) (fun σ => rfl) (fun σ a w k _ _ _ _ hf => ex_indexAddr hix24 hf rfl rfl), ⟨sS_pure rfl (fun σ => rfl) (fun σ => rfl) (fun σ a w k _ _ _ _ hf => ex_field fa_63_1 hf rfl), ⟨sS_pure rfl (fun σ => rfl) (fun σ => rfl) (fun σ a w k hk hlo hup hst hf => match k, hk, hlo, hup, hst, hf with | 0, _, _, _, hst, hf => have hO : Dk.Own w0 [] w [.row (.slice p12 l14.length c13) 63 2 l14.length (cells enc_api_Field l14), .row (.slice none 0 0) 63 2 0 (cells enc_api_Field []), .blk b2 [int 0, str [], str [], int 0, str [], int 0, .slice none 0 0] 45, .blk b1 [int x_h.Kind, str r4, str r6, int x_h.Code, str r8, int x_h.Minor, .slice x_h_p0 x_h.Fields.length x_h_c0] 45, .shr x_h_p0 (cells enc_api_Field x_h.Fields)] := hst; ex_load1 (o := 1) ag_9 (hSx24 _ (hO.sees (i := 4) rfl)) rfl hf rfl | 1, _, _, _, hst, hf => have hO : Dk.Own w0 [] w [.row (.slice p12 l14.length c13) 63 2 l14.length (cells enc_api_Field l14), .row (.slice none 0 0) 63 2 0 (cells enc_api_Field []), .blk b2 [int 0, str [], str [], int 0, str [], int 0, .slice none 0 0] 45, .blk b1 [int x_h.Kind, str r4, str r6, int x_h.Code, str r8, int x_h.Minor, .slice x_h_p0 x_h.Fields.length x_h_c0] 45, .shr x_h_p0 (cells enc_api_Field x_h.Fields)] := hst; ex_load1 (o := 1) ag_9 (hSx24 _ (hO.sees (i := 4) rfl)) rfl hf rfl | 2, _, _, _, hst, hf => have hO : Dk.Own w0 [] w [.row (.slice p12 l14.length c13) 63 2 l14.length (cells enc_api_Field l14), .row (.slice none 0 0) 63 2 0 (cells enc_api_Field []), .blk b2 [int 0, str [], str [], int 0, str [], int 0, .slice none 0 0] 45, .blk b1 [int x_h.Kind, str r4, str r6, int x_h.Code, str r8, int x_h.Minor, .slice x_h_p0 x_h.Fields.length x_h_c0] 45, .shr x_h_p0 (cells enc_api_Field x_h.Fields)] := hst; ex_load1 (o := 1) ag_9 (hSx24 _ (hO.sees (i := 4) rfl)) rfl hf rfl | 3, _, _, _, hst, hf => have hO : Dk.Own w0 [] w [.row (.slice (some ⟨(σ.1), 0, none⟩) (([(⟨r23, r27⟩ : api_Field)]).length) 1) 63 2 (([(⟨r23, r27⟩ : api_Field)]).length) (cells enc_api_Field ([(⟨r23, r27⟩ : api_Field)])), .row (.slice p12 l14.length c13) 63 2 l14.length (cells enc_api_Field l14), .row (.slice none 0 0) 63 2 0 (cells enc_api_Field []), .blk b2 [int 0, str [], str [], int 0, str [], int 0, .slice none 0 0] 45, .blk b1 [int x_h.Kind, str r4, str r6, int x_h.Code, str r8, int x_h.Minor, .slice x_h_p0 x_h.Fields.length x_h_c0] 45, .shr x_h_p0 (cells enc_api_Field x_h.Fields)] := hst; ex_load1 (o := 1) ag_9 (hSx24 _ (hO.sees (i := 5) rfl)) rfl hf rfl | 4, _, _, _, hst, hf => have hO : Dk.Own w0 [] w [.row (.slice (some ⟨(σ.1), 0, none⟩) (([(⟨r23, r27⟩ : api_Field)]).length) 1) 63 2 (([(⟨r23, r27⟩ : api_Field)]).length) (cells enc_api_Field ([(⟨r23, r27⟩ : api_Field)])), .row (.slice (σ.2.1) ((l14 ++ [(⟨r23, r27⟩ : api_Field)]).length) (σ.2.2)) 63 2 ((l14 ++ [(⟨r23, r27⟩ : api_Field)]).length) (cells enc_api_Field (l14 ++ [(⟨r23, r27⟩ : api_Field)])), .row (.slice none 0 0) 63 2 0 (cells enc_api_Field []), .blk b2 [int 0, str [], str [], int 0, str [], int 0, .slice none 0 0] 45, .blk b1 [int x_h.Kind, str r4, str r6, int x_h.Code, str r8, int x_h.Minor, .slice x_h_p0 x_h.Fields.length x_h_c0] 45, .shr x_h_p0 (cells enc_api_Field x_h.Fields)] := hst; ex_load1 (o := 1) ag_9 (hSx24 _ (hO.sees (i := 5) rfl)) rfl hf rfl | k + 5, hk, _, _, _, _ => absurd hk (by simp)), ⟨sS_call rfl (fun σ => rfl) (fun σ => rfl) rfl (fun σ a w (_ : _) hf => ex_call c_44 hf (vs := [str x24.Value]) rfl) (fun σ w (hO : Dk.Own w0 [] w [.row (.slice p12 l14.length c13) 63 2 l14.length (cells enc_api_Field l14), .row (.slice none 0 0) 63 2 0 (cells enc_api_Field []), .blk b2 [int 0, str [], str [], int 0, str [], int 0, .slice none 0 0] 45, .blk b1 [int x_h.Kind, str r4, str r6, int x_h.Code, str r8, int x_h.Minor, .slice x_h_p0 x_h.Fields.length x_h_c0] 45, .shr x_h_p0 (cells enc_api_Field x_h.Fields)]) => (w_law15_few x24.Value r27 _ (hG.own hF hO) hr27).mono fun e w' h => by obtain ⟨he, hb⟩ := h; exact ⟨((σ.1), (σ.2.1), (σ.2.2)), he, hO.grow hb, ⟨.inr rfl, ⟨.inr rfl, ⟨.inr rfl, ⟨.inr rfl, ⟨.inr rfl, ⟨.inr rfl, ⟨.inr rfl, ⟨.inr rfl, ⟨.inr rfl, ⟨.inr rfl, ⟨.inr rfl, ⟨.inr rfl, ⟨.inr rfl, ⟨.inr rfl, ⟨.inr rfl, ⟨.inr rfl, ⟨.inr rfl, ⟨.inr rfl, ⟨.inr rfl, trivial⟩⟩⟩⟩⟩⟩⟩⟩⟩⟩⟩⟩⟩⟩⟩⟩⟩⟩⟩⟩), ⟨sS_pure rfl (fun σ => rfl) (fun σ => rfl) (fun σ a w k _ _ _ _ hf => ex_build (vs := [(0, str r23), (1, str r27)]) (v := .agg #[str r23, str r27]) hf rfl (by kernel_rfl)), ⟨sS_val rfl (fun σ => rfl) (fun σ => rfl) rfl (fun σ w (hO : Dk.Own w0 [] w [.row (.slice p12 l14.length c13) 63 2 l14.length (cells enc_api_Field l14), .row (.slice none 0 0) 63 2 0 (cells enc_api_Field []), .blk b2 [int 0, str [], str [], int 0, str [], int 0, .slice none 0 0] 45, .blk b1 [int x_h.Kind, str r4, str r6, int x_h.Code, str r8, int x_h.Minor, .slice x_h_p0 x_h.Fields.length x_h_c0] 45, .shr x_h_p0 (cells enc_api_Field x_h.Fields)]) => by obtain ⟨b28, w', hO', hr⟩ := ef_buildSlice (E := [(43, .agg #[str r23, str r27])]) (parts := #[(0, (.tmp 43))]) (t' := 43) (n := 1) (vs := [(0, .agg #[str r23, str r27])]) (cs := [str r23, str r27]) (e := 63) (sz := 2) (fun w => by kernel_rfl) rfl rfl hO rfl; exact ⟨(b28, (σ.2.1), (σ.2.2)), w', hO', ⟨.inr rfl, ⟨.inr rfl, ⟨.inr rfl, ⟨.inr rfl, ⟨.inr rfl, ⟨.inr rfl, ⟨.inr rfl, ⟨.inr rfl, ⟨.inr rfl, ⟨.inr rfl, ⟨.inr rfl, ⟨.inr rfl, ⟨.inr rfl, ⟨.inr rfl, ⟨.inr rfl, ⟨.inr rfl, ⟨.inl rfl, ⟨.inl rfl, ⟨.inr rfl, trivial⟩⟩⟩⟩⟩⟩⟩⟩⟩⟩⟩⟩⟩⟩⟩⟩⟩⟩⟩, hr⟩), ⟨sS_val rfl (fun σ => rfl) (fun σ => rfl) rfl (fun σ w (hO : Dk.Own w0 [] w [.row (.slice (some ⟨(σ.1), 0, none⟩) (([(⟨r23, r27⟩ : api_Field)]).length) 1) 63 2 (([(⟨r23, r27⟩ : api_Field)]).length) (cells enc_api_Field ([(⟨r23, r27⟩ : api_Field)])), .row (.slice p12 l14.length c13) 63 2 l14.length (cells enc_api_Field l14), .row (.slice none 0 0) 63 2 0 (cells enc_api_Field []), .blk b2 [int 0, str [], str [], int 0, str [], int 0, .slice none 0 0] 45, .blk b1 [int x_h.Kind, str r4, str r6, int x_h.Code, str r8, int x_h.Minor, .slice x_h_p0 x_h.Fields.length x_h_c0] 45, .shr x_h_p0 (cells enc_api_Field x_h.Fields)]) => by obtain ⟨p29, c30, w', hO', hr⟩ := ef_append (E := [(28, .slice p12 l14.length c13), (44, .slice (some ⟨(σ.1), 0, none⟩) (([(⟨r23, r27⟩ : api_Field)]).length) 1)]) (x := (.tmp 28)) (y := (.tmp 44)) el_43 (enc := enc_api_Field) (xs := l14) (ys := [(⟨r23, r27⟩ : api_Field)]) (i := 1) (fun _ => rfl) rfl (hO.rowSees (i := 0) rfl) (by simp [cells, enc_api_Field, Value.oneCell']) hg31 hO rfl rfl; exact ⟨((σ.1), p29, c30), w', hO', ⟨.inr rfl, ⟨.inr rfl, ⟨.inr rfl, ⟨.inr rfl, ⟨.inr rfl, ⟨.inr rfl, ⟨.inr rfl, ⟨.inr rfl, ⟨.inr rfl, ⟨.inr rfl, ⟨.inr rfl, ⟨.inr rfl, ⟨.inr rfl, ⟨.inr rfl, ⟨.inr rfl, ⟨.inr rfl, ⟨.inr rfl, ⟨.inl rfl, ⟨.inl rfl, trivial⟩⟩⟩⟩⟩⟩⟩⟩⟩⟩⟩⟩⟩⟩⟩⟩⟩⟩⟩, hr⟩), ⟨sS_pure rfl (fun σ => rfl) (fun σ => rfl) (fun σ a w k _ _ _ _ hf => ex_assign hf rfl), trivial⟩⟩⟩⟩⟩⟩⟩⟩⟩⟩⟩⟩⟩⟩⟩⟩⟩⟩⟩ ?_
          rintro ⟨b28, p29, c30⟩ a w hf hO
          have hO : Dk.Own w0 [] w [.row (.slice (some ⟨b28, 0, none⟩) (([(⟨r23, r27⟩ : api_Field)]).length) 1) 63 2 (([(⟨r23, r27⟩ : api_Field)]).length) (cells enc_api_Field ([(⟨r23, r27⟩ : api_Field)])), .row (.slice p29 ((l14 ++ [(⟨r23, r27⟩ : api_Field)]).length) c30) 63 2 ((l14 ++ [(⟨r23, r27⟩ : api_Field)]).length) (cells enc_api_Field (l14 ++ [(⟨r23, r27⟩ : api_Field)])), .row (.slice none 0 0) 63 2 0 (cells enc_api_Field []), .blk b2 [int 0, str [], str [], int 0, str [], int 0, .slice none 0 0] 45, .blk b1 [int x_h.Kind, str r4, str r6, int x_h.Code, str r8, int x_h.Minor, .slice x_h_p0 x_h.Fields.length x_h_c0] 45, .shr x_h_p0 (cells enc_api_Field x_h.Fields)] := hO
          have hf : Fits 49 [(1, ptr b1 0), (2, ptr b2 0), (3, .slice p29 ((l14 ++ [(⟨r23, r27⟩ : api_Field)]).length) c30), (4, int i15)] a := (hf.cons rfl (hf.cons rfl (hf.cons rfl (hf.cons rfl hf.nil))))
          refine nor_block ?_
          refine nor_then (hK32 _ _ ?_)
          refine wp_region_list ?_
          refine op_val (ex_move hf rfl) rfl hf rfl rfl fun a hf => ?_
          obtain ⟨i33, hi33, hm⟩ := ob hm
          refine op_val (ex_add hf rfl rfl hi33) rfl hf rfl rfl fun a hf => ?_
          refine op_val (ex_assign hf rfl) rfl hf rfl rfl fun a hf => ?_
          refine wpList_nil ?_
          refine nor_then ?_
          exact ⟨_, Nat.lt_succ_self _, p29, c30, l14 ++ [(⟨r23, r27⟩ : api_Field)], i33, (hf.cons rfl (hf.cons rfl (hf.cons rfl (hf.cons rfl hf.nil)))), (hO.sub (.cons _ (.cons_cons _ (.cons_cons _ (.cons_cons _ (.cons_cons _ (.cons_cons _ .slnil))))))), hm⟩
        · have hm := ie hc18 hm
          refine wp_exit ?_
          refine exit_then ?_
          refine exit_then ?_
          refine exit_here ?_
          refine nor_then (hK34 _ _ ?_)
          refine wp_seq_k fun _ hK35 => ?_
          refine wp_region_list ?_
          refine op_val (ex_move hf rfl) rfl hf rfl rfl fun a hf => ?_
          refine op_val (ex_field fa_45_6 hf rfl) rfl hf rfl rfl fun a hf => ?_
          refine op_store1 (i := 3) (o := 6) (v := .slice p12 l14.length c13) sz_43 rfl rfl rfl rfl hf rfl rfl hO fun w hO => ?_
          refine wpList_nil ?_
          refine nor_then (hK35 _ _ ?_)
          refine wp_seq_k fun _ hK36 => ?_
          refine wp_region_list ?_
          refine op_val (ex_loadN (o := 0) (vs := [int x_h.Kind, str r4, str r6, int x_h.Code, str r8, int x_h.Minor, .slice p12 l14.length c13]) ag_45 sz_45 (hO.blkSees (i := 3) rfl) rfl rfl hf rfl) rfl hf rfl rfl fun a hf => ?_
          refine op_storeN (i := 2) (n := 7) sz_45 rfl rfl rfl (by simp [Value.oneCell']) hf rfl rfl hO fun w hO => ?_
          refine wpList_nil ?_
          refine nor_then (hK36 _ _ ?_)
          refine wp_ret ?_
          obtain rfl := Option.some.inj hm
          exact post_ret Tryz.results21 hf (.cell rfl (run_loadVarN (n := 7) (vs := [int x_h.Kind, str r4, str r6, int x_h.Code, str r8, int x_h.Minor, .slice p12 l14.length c13]) ag_45 sz_45 rfl ((hO.blkSees (i := 2) rfl).cells (o := 0) (n := 7) rfl)) .nil) ⟨p12, c13, rfl, (hO.sub (.cons_cons _ (.cons _ (.cons _ (.cons _ (.cons _ .slnil))))))⟩
  · exact ⟨none, 0, [], 0, (hf.cons rfl (hf.cons rfl (hf.cons rfl (hf.cons rfl hf.nil)))), hO, hm⟩

set_option maxHeartbeats 1000000 in
theorem w_ref13_Of (x_f : api_Field) (x_name : Str) (R : Bool) (w0 : World) (hG : Glob w0) (hm : ref13_Of x_f x_name = some R) :
    Calls Tryz.prog 51 #[.agg #[str x_f.Name, str x_f.Value], str x_name] w0 fun e w' => e = .returned (.bool R) ∧ Below w0.heap.size w0 w' := by
  rw [ref13_Of] at hm
  refine calls_enter (vs := [.agg #[str x_f.Name, str x_f.Value], str x_name]) Tryz.func51 rfl Tryz.ntmps51 rfl fun a hf => ?_
  have hF : Away [] := away_nil
  have hO : Dk.Own w0 [] w0 [] := Dk.Own.refl w0
  refine wp_seq_k fun _ hK2 => ?_
  refine wp_region_list ?_
  refine op_box (v := .agg #[str x_f.Name, str x_f.Value]) (cs := [str x_f.Name, str x_f.Value]) rfl hf rfl rfl hO fun a b1 w hf hO => ?_
  refine op_val (ex_assign hf rfl) rfl hf rfl rfl fun a hf => ?_
  refine wpList_nil ?_
  refine nor_then (hK2 _ _ ?_)
  refine wp_seq_k fun _ hK5 => ?_
  refine wp_region_list ?_
  refine op_val (ex_field fa_63_0 hf rfl) rfl hf rfl rfl fun a hf => ?_
  refine op_val (ex_load1 (o := 0) ag_9 (hO.blkSees (i := 0) rfl) rfl hf rfl) rfl hf rfl rfl fun a hf => ?_
  obtain ⟨r3, hr3, hm⟩ := ob hm
  refine op_enter (ex_call c_35 hf (vs := [str x_f.Name]) rfl) rfl hf rfl rfl (w_ref01_Fold x_f.Name r3 _ (hG.own hF hO) hr3) ?_
  rintro e w' ⟨he, hb⟩
  refine ⟨_, he, fun a hf => ?_⟩
  have hO := hO.grow hb
  refine op_val (ex_move hf rfl) rfl hf rfl rfl fun a hf => ?_
  obtain ⟨r4, hr4, hm⟩ := ob hm
  refine op_enter (ex_call c_35 hf (vs := [str x_name]) rfl) rfl hf rfl rfl (w_ref01_Fold x_name r4 _ (hG.own hF hO) hr4) ?_
  rintro e w' ⟨he, hb⟩
  refine ⟨_, he, fun a hf => ?_⟩
  have hO := hO.grow hb
  refine op_val (ex_eql_s (l := r3) (m := r4) hf rfl rfl) rfl hf rfl rfl fun a hf => ?_
  refine op_val (ex_assign hf rfl) rfl hf rfl rfl fun a hf => ?_
  refine wpList_nil ?_
  refine nor_then (hK5 _ _ ?_)
  refine wp_ret ?_
  obtain rfl := Option.some.inj hm
  exact post_ret Tryz.results51 hf (.tmp rfl .nil) ⟨rfl, hO.below⟩

end Go.Proofs
