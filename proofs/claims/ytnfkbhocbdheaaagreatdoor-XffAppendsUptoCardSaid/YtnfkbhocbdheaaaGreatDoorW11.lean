/-
  Walks, written by a program (wip/gen): what its model says, the function returns; what was there before is as it was.
-/
import Derived.Test.YtnfkbhocbdheaaaGreatDoorLib
import Derived.Test.YtnfkbhocbdheaaaGreatDoorW9
import Derived.Test.YtnfkbhocbdheaaaGreatDoorW10
set_option linter.unusedVariables false
set_option linter.unusedSimpArgs false
set_option maxRecDepth 100000
namespace Go.Proofs
open Go.Dk Go.Dm Go.RowKit

set_option maxHeartbeats 1000000 in
theorem w_ref13_Behind (x_l : List api_Field) (x_name : Str) (x_s : Str) (R : List api_Field) (w0 : World) (hG : Glob w0) {x_l_p0 : Option Addr} {x_l_c0 : Nat} (hs0 : Sees w0 x_l_p0 (cells enc_api_Field x_l)) (hc0 : x_l.length ≤ x_l_c0) (hm : ref13_Behind x_l x_name x_s = some R) :
    Calls Tryz.prog 25 #[.slice x_l_p0 x_l.length x_l_c0, str x_name, str x_s] w0 fun e w' => ∃ (p0 : Option Addr) (c0 : Nat), e = .returned (.slice p0 R.length c0) ∧ Dk.Own w0 [] w' [.row (.slice p0 R.length c0) 63 2 R.length (cells enc_api_Field R)] := by
  rw [ref13_Behind] at hm
  refine calls_enter (vs := [.slice x_l_p0 x_l.length x_l_c0, str x_name, str x_s]) Tryz.func25 rfl Tryz.ntmps25 rfl fun a hf => ?_
  have hF : Away [] := away_nil
  have hO : Dk.Own w0 [] w0 [] := Dk.Own.refl w0
  have hO := hO.addShr hs0 (by simp [Res.shared])
  refine wp_seq_k fun _ hK1 => ?_
  refine wp_region_list ?_
  have hO := hO.nilRow 63 2
  refine op_val (ex_assign hf rfl) rfl hf rfl rfl fun a hf => ?_
  refine wpList_nil ?_
  refine nor_then (hK1 _ _ ?_)
  refine wp_seq_k fun _ hK2 => ?_
  refine wp_region_list ?_
  refine op_val (ex_assign hf rfl) rfl hf rfl rfl fun a hf => ?_
  refine wpList_nil ?_
  refine nor_then (hK2 _ _ ?_)
  refine wp_seq_k fun _ hK17 => ?_
  refine wp_seq_k fun _ hK3 => ?_
  refine wp_region_list ?_
  refine op_val (ex_assign hf rfl) rfl hf rfl rfl fun a hf => ?_
  refine wpList_nil ?_
  refine nor_then (hK3 _ _ ?_)
  refine wp_block ?_
  refine wp_loop_n (fun k a w => ∃ (i4 : Int) (i5 : Int), Fits 57 [(0, .slice x_l_p0 x_l.length x_l_c0), (1, str x_name), (2, str x_s), (7, int i4), (8, int i5)] a ∧ Dk.Own w0 [] w [.row (.slice none 0 0) 63 2 0 (cells enc_api_Field []), .shr x_l_p0 (cells enc_api_Field x_l)] ∧ ref13_Behind_L1 x_l x_name x_s k i4 i5 = some R) ?_ fuel ?_
  · rintro n1 a w ⟨i4, i5, hf, hO, hm⟩
    obtain _ | n1 := n1
    · rw [ref13_Behind_L1] at hm
      cases hm
    · rw [ref13_Behind_L1] at hm
      refine wp_seq_k fun _ hK8 => ?_
      refine wp_seq_k fun _ hK6 => ?_
      refine wp_region_list ?_
      refine op_val (ex_move hf rfl) rfl hf rfl rfl fun a hf => ?_
      refine op_val (ex_move hf rfl) rfl hf rfl rfl fun a hf => ?_
      refine op_val (ex_len_l Tryz.underlying43 hf rfl) rfl hf rfl rfl fun a hf => ?_
      refine op_val (ex_lss (m := i5) (n := (x_l.length : Int)) hf rfl rfl) rfl hf rfl rfl fun a hf => ?_
      refine wpList_nil ?_
      refine nor_then (hK6 _ _ ?_)
      refine wp_cond_cut hf rfl (fun hc7 => ?_) (fun hc7 => ?_)
      · have hm := it hc7 hm
        refine wp_skip ?_
        refine nor_then (hK8 _ _ ?_)
        refine wp_seq_cut (fun a w => ∃ (i15 : Int), Fits 57 [(0, .slice x_l_p0 x_l.length x_l_c0), (1, str x_name), (2, str x_s), (7, int i15), (8, int i5)] a ∧ Dk.Own w0 [] w [.row (.slice none 0 0) 63 2 0 (cells enc_api_Field []), .shr x_l_p0 (cells enc_api_Field x_l)] ∧ ref13_Behind_j2 (ref13_Behind_L1 x_l x_name x_s n1) i5 i15 = some R) ?_ ?_
        · refine wp_block ?_
          refine wp_seq_k fun _ hK13 => ?_
          refine wp_region_list ?_
          refine op_val (ex_move hf rfl) rfl hf rfl rfl fun a hf => ?_
          refine op_val (ex_move hf rfl) rfl hf rfl rfl fun a hf => ?_
          obtain ⟨x9, hx9, hm⟩ := ob hm
          obtain ⟨b10, o11, hix9, hSx9⟩ := elemAt (enc := enc_api_Field) (sz := 2) (xs := x_l) 43 Tryz.underlying43 sz_63 (by decide) (fun _ => rfl) (hO.sees (i := 1) rfl) hx9
          refine op_val (ex_indexAddr hix9 hf rfl rfl) rfl hf rfl rfl fun a hf => ?_
          refine op_val (ex_loadN (o := 0) (vs := [str x9.Name, str x9.Value]) ag_63 sz_63 (hSx9 _ (hO.sees (i := 1) rfl)) rfl rfl hf rfl) rfl hf rfl rfl fun a hf => ?_
          refine op_val (ex_move hf rfl) rfl hf rfl rfl fun a hf => ?_
          obtain ⟨r12, hr12, hm⟩ := ob hm
          refine op_enter (ex_call c_51 hf (vs := [.agg #[str x9.Name, str x9.Value], str x_name]) rfl) rfl hf rfl rfl (w_ref13_Of x9 x_name r12 _ (hG.own hF hO) hr12) ?_
          rintro e w' ⟨he, hb⟩
          refine ⟨_, he, fun a hf => ?_⟩
          have hO := hO.grow hb
          refine wpList_nil ?_
          refine nor_then (hK13 _ _ ?_)
          refine wp_cond_cut hf rfl (fun hc14 => ?_) (fun hc14 => ?_)
          · have hm := it hc14 hm
            refine wp_region_list ?_
            refine op_val (ex_move hf rfl) rfl hf rfl rfl fun a hf => ?_
            refine op_val (ex_assign hf rfl) rfl hf rfl rfl fun a hf => ?_
            refine wpList_nil ?_
            refine nor_block ?_
            refine nor_then ?_
            exact ⟨i5, (hf.cons rfl (hf.cons rfl (hf.cons rfl (hf.cons rfl (hf.cons rfl hf.nil))))), hO, hm⟩
          · have hm := ie hc14 hm
            refine wp_skip ?_
            refine nor_block ?_
            refine nor_then ?_
            exact ⟨i4, (hf.cons rfl (hf.cons rfl (hf.cons rfl (hf.cons rfl (hf.cons rfl hf.nil))))), hO, hm⟩
        · rintro a w ⟨i15, hf, hO, hm⟩
          rw [ref13_Behind_j2] at hm
          refine wp_region_list ?_
          refine op_val (ex_move hf rfl) rfl hf rfl rfl fun a hf => ?_
          obtain ⟨i16, hi16, hm⟩ := ob hm
          refine op_val (ex_add hf rfl rfl hi16) rfl hf rfl rfl fun a hf => ?_
          refine op_val (ex_assign hf rfl) rfl hf rfl rfl fun a hf => ?_
          refine wpList_nil ?_
          refine nor_then ?_
          exact ⟨_, Nat.lt_succ_self _, i15, i16, (hf.cons rfl (hf.cons rfl (hf.cons rfl (hf.cons rfl (hf.cons rfl hf.nil))))), hO, hm⟩
      · have hm := ie hc7 hm
        refine wp_exit ?_
        refine exit_then ?_
        refine exit_then ?_
        refine exit_here ?_
        refine nor_then (hK17 _ _ ?_)
        refine wp_seq_k fun _ hK18 => ?_
        refine wp_region_list ?_
        have hO := hO.nilRow 63 2
        refine op_val (ex_assign hf rfl) rfl hf rfl rfl fun a hf => ?_
        refine wpList_nil ?_
        refine nor_then (hK18 _ _ ?_)
        refine wp_seq_k fun _ hK43 => ?_
        refine wp_seq_k fun _ hK19 => ?_
        refine wp_region_list ?_
        refine op_val (ex_assign hf rfl) rfl hf rfl rfl fun a hf => ?_
        refine wpList_nil ?_
        refine nor_then (hK19 _ _ ?_)
        refine wp_block ?_
        refine wp_loop_n (fun k a w => ∃ (p20 : Option Addr) (c21 : Nat) (l22 : List api_Field) (i23 : Int), Fits 57 [(0, .slice x_l_p0 x_l.length x_l_c0), (1, str x_name), (2, str x_s), (7, int i4), (9, .slice p20 l22.length c21), (10, int i23)] a ∧ Dk.Own w0 [] w [.row (.slice p20 l22.length c21) 63 2 l22.length (cells enc_api_Field l22), .row (.slice none 0 0) 63 2 0 (cells enc_api_Field []), .shr x_l_p0 (cells enc_api_Field x_l)] ∧ ref13_Behind_L3 x_l x_name x_s i4 k l22 i23 = some R) ?_ fuel ?_
        · rintro n3 a w ⟨p20, c21, l22, i23, hf, hO, hm⟩
          obtain _ | n3 := n3
          · rw [ref13_Behind_L3] at hm
            cases hm
          · rw [ref13_Behind_L3] at hm
            refine wp_seq_k fun _ hK26 => ?_
            refine wp_seq_k fun _ hK24 => ?_
            refine wp_region_list ?_
            refine op_val (ex_move hf rfl) rfl hf rfl rfl fun a hf => ?_
            refine op_val (ex_move hf rfl) rfl hf rfl rfl fun a hf => ?_
            refine op_val (ex_len_l Tryz.underlying43 hf rfl) rfl hf rfl rfl fun a hf => ?_
            refine op_val (ex_lss (m := i23) (n := (x_l.length : Int)) hf rfl rfl) rfl hf rfl rfl fun a hf => ?_
            refine wpList_nil ?_
            refine nor_then (hK24 _ _ ?_)
            refine wp_cond_cut hf rfl (fun hc25 => ?_) (fun hc25 => ?_)
            · have hm := it hc25 hm
              refine wp_skip ?_
              refine nor_then (hK26 _ _ ?_)
              refine wp_seq_k fun _ hK41 => ?_
              refine wp_block ?_
              refine wp_seq_k fun _ hK31 => ?_
              refine wp_region_list ?_
              refine op_val (ex_move hf rfl) rfl hf rfl rfl fun a hf => ?_
              refine op_val (ex_move hf rfl) rfl hf rfl rfl fun a hf => ?_
              obtain ⟨x27, hx27, hm⟩ := ob hm
              obtain ⟨b28, o29, hix27, hSx27⟩ := elemAt (enc := enc_api_Field) (sz := 2) (xs := x_l) 43 Tryz.underlying43 sz_63 (by decide) (fun _ => rfl) (hO.sees (i := 2) rfl) hx27
              refine op_val (ex_indexAddr hix27 hf rfl rfl) rfl hf rfl rfl fun a hf => ?_
              refine op_val (ex_loadN (o := 0) (vs := [str x27.Name, str x27.Value]) ag_63 sz_63 (hSx27 _ (hO.sees (i := 2) rfl)) rfl rfl hf rfl) rfl hf rfl rfl fun a hf => ?_
              refine op_alloc al_63 hf rfl hO fun a b30 w hf hO => ?_
              refine op_storeN (i := 0) (n := 2) sz_63 rfl rfl rfl (by simp [Value.oneCell']) hf rfl rfl hO fun w hO => ?_
              refine wpList_nil ?_
              refine nor_then (hK31 _ _ ?_)
              refine wp_seq_cut (fun a w => ∃ (s36 : Str), Fits 57 [(0, .slice x_l_p0 x_l.length x_l_c0), (1, str x_name), (2, str x_s), (7, int i4), (9, .slice p20 l22.length c21), (10, int i23), (11, ptr b30 0)] a ∧ Dk.Own w0 [] w [.blk b30 [str x27.Name, str s36] 63, .row (.slice p20 l22.length c21) 63 2 l22.length (cells enc_api_Field l22), .row (.slice none 0 0) 63 2 0 (cells enc_api_Field []), .shr x_l_p0 (cells enc_api_Field x_l)] ∧ ref13_Behind_j4 (ref13_Behind_L3 x_l x_name x_s i4 n3) l22 i23 x27 s36 = some R) ?_ ?_
              · refine wp_seq_k fun _ hK32 => ?_
                refine wp_region_list ?_
                refine op_val (ex_move hf rfl) rfl hf rfl rfl fun a hf => ?_
                refine op_val (ex_move hf rfl) rfl hf rfl rfl fun a hf => ?_
                refine op_val (ex_eql (m := i23) (n := i4) hf rfl rfl) rfl hf rfl rfl fun a hf => ?_
                refine wpList_nil ?_
                refine nor_then (hK32 _ _ ?_)
                refine wp_cond_cut hf rfl (fun hc33 => ?_) (fun hc33 => ?_)
                · have hm := it hc33 hm
                  refine wp_region_list ?_
                  refine op_val (ex_field fa_63_1 hf rfl) rfl hf rfl rfl fun a hf => ?_
                  refine op_val (ex_load1 (o := 1) ag_9 (hO.blkSees (i := 0) rfl) rfl hf rfl) rfl hf rfl rfl fun a hf => ?_
                  refine op_val (ex_move hf rfl) rfl hf rfl rfl fun a hf => ?_
                  refine op_buildSlice (vs := [(0, str x_s)]) (cs := [str x_s]) (e := 9) (sz := 1) hf rfl rfl (fun w => by kernel_rfl) rfl rfl hO fun a b34 w hf hO => ?_
                  obtain ⟨r35, hr35, hm⟩ := ob hm
                  refine op_enter (ex_call c_52 hf (vs := [str x27.Value, .slice (some ⟨b34, 0, none⟩) ([x_s].length) 1]) rfl) rfl hf rfl rfl (w_ref06_Append x27.Value [x_s] r35 _ (hG.own hF hO) (hO.rowSees (i := 0) rfl) (hO.rowCap (i := 0) rfl) hr35) ?_
                  rintro e w' ⟨he, hb⟩
                  refine ⟨_, he, fun a hf => ?_⟩
                  have hO := hO.grow hb
                  refine op_val (ex_field fa_63_1 hf rfl) rfl hf rfl rfl fun a hf => ?_
                  refine op_store1 (i := 1) (o := 1) (v := str r35) sz_9 rfl rfl rfl rfl hf rfl rfl hO fun w hO => ?_
                  refine wpList_nil ?_
                  refine nor_then ?_
                  exact ⟨r35, (hf.cons rfl (hf.cons rfl (hf.cons rfl (hf.cons rfl (hf.cons rfl (hf.cons rfl (hf.cons rfl hf.nil))))))), (hO.sub (.cons _ (.cons_cons _ (.cons_cons _ (.cons_cons _ (.cons_cons _ .slnil)))))), hm⟩
                · have hm := ie hc33 hm
                  refine wp_skip ?_
                  refine nor_then ?_
                  exact ⟨x27.Value, (hf.cons rfl (hf.cons rfl (hf.cons rfl (hf.cons rfl (hf.cons rfl (hf.cons rfl (hf.cons rfl hf.nil))))))), hO, hm⟩
              · rintro a w ⟨s36, hf, hO, hm⟩
                rw [ref13_Behind_j4] at hm
                refine wp_region_list ?_
                refine op_val (ex_move hf rfl) rfl hf rfl rfl fun a hf => ?_
                refine op_val (ex_loadN (o := 0) (vs := [str x27.Name, str s36]) ag_63 sz_63 (hO.blkSees (i := 0) rfl) rfl rfl hf rfl) rfl hf rfl rfl fun a hf => ?_
                refine op_buildSlice (vs := [(0, .agg #[str x27.Name, str s36])]) (cs := [str x27.Name, str s36]) (e := 63) (sz := 2) hf rfl rfl (fun w => by kernel_rfl) rfl rfl hO fun a b37 w hf hO => ?_
                obtain ⟨hg40, hm⟩ := og hm
                refine op_appendT el_43 (enc := enc_api_Field) (xs := l22) (ys := [(⟨x27.Name, s36⟩ : api_Field)]) (i := 2) (fun _ => rfl) rfl (hO.rowSees (i := 0) rfl) (by simp [cells, enc_api_Field, Value.oneCell']) hg40 hf rfl rfl rfl hO fun a p38 c39 w hf hO => ?_
                refine op_val (ex_assign hf rfl) rfl hf rfl rfl fun a hf => ?_
                refine wpList_nil ?_
                refine nor_block ?_
                refine nor_then (hK41 _ _ ?_)
                refine wp_region_list ?_
                refine op_val (ex_move hf rfl) rfl hf rfl rfl fun a hf => ?_
                obtain ⟨i42, hi42, hm⟩ := ob hm
                refine op_val (ex_add hf rfl rfl hi42) rfl hf rfl rfl fun a hf => ?_
                refine op_val (ex_assign hf rfl) rfl hf rfl rfl fun a hf => ?_
                refine wpList_nil ?_
                refine nor_then ?_
                exact ⟨_, Nat.lt_succ_self _, p38, c39, l22 ++ [(⟨x27.Name, s36⟩ : api_Field)], i42, (hf.cons rfl (hf.cons rfl (hf.cons rfl (hf.cons rfl (hf.cons rfl (hf.cons rfl hf.nil)))))), (hO.sub (.cons _ (.cons _ (.cons_cons _ (.cons_cons _ (.cons_cons _ .slnil)))))), hm⟩
            · have hm := ie hc25 hm
              refine wp_exit ?_
              refine exit_then ?_
              refine exit_then ?_
              refine exit_here ?_
              refine nor_then (hK43 _ _ ?_)
              refine wp_seq_cut (fun a w => ∃ (p50 : Option Addr) (c51 : Nat) (l52 : List api_Field), Fits 57 [(9, .slice p50 l52.length c51)] a ∧ Dk.Own w0 [] w [.row (.slice p50 l52.length c51) 63 2 l52.length (cells enc_api_Field l52), .row (.slice none 0 0) 63 2 0 (cells enc_api_Field []), .shr x_l_p0 (cells enc_api_Field x_l)] ∧ ref13_Behind_j5 l52 = some R) ?_ ?_
              · refine wp_seq_k fun _ hK44 => ?_
                refine wp_region_list ?_
                refine op_val (ex_move hf rfl) rfl hf rfl rfl fun a hf => ?_
                refine op_val (ex_lss (m := i4) (n := 0) hf rfl rfl) rfl hf rfl rfl fun a hf => ?_
                refine wpList_nil ?_
                refine nor_then (hK44 _ _ ?_)
                refine wp_cond_cut hf rfl (fun hc45 => ?_) (fun hc45 => ?_)
                · have hm := it hc45 hm
                  refine wp_region_list ?_
                  refine op_val (ex_move hf rfl) rfl hf rfl rfl fun a hf => ?_
                  refine op_val (ex_move hf rfl) rfl hf rfl rfl fun a hf => ?_
                  refine op_val (ex_move hf rfl) rfl hf rfl rfl fun a hf => ?_
                  refine op_val (ex_build (vs := [(0, str x_name), (1, str x_s)]) (v := .agg #[str x_name, str x_s]) hf rfl (by kernel_rfl)) rfl hf rfl rfl fun a hf => ?_
                  refine op_buildSlice (vs := [(0, .agg #[str x_name, str x_s])]) (cs := [str x_name, str x_s]) (e := 63) (sz := 2) hf rfl rfl (fun w => by kernel_rfl) rfl rfl hO fun a b46 w hf hO => ?_
                  obtain ⟨hg49, hm⟩ := og hm
                  refine op_appendT el_43 (enc := enc_api_Field) (xs := l22) (ys := [(⟨x_name, x_s⟩ : api_Field)]) (i := 1) (fun _ => rfl) rfl (hO.rowSees (i := 0) rfl) (by simp [cells, enc_api_Field, Value.oneCell']) hg49 hf rfl rfl rfl hO fun a p47 c48 w hf hO => ?_
                  refine op_val (ex_assign hf rfl) rfl hf rfl rfl fun a hf => ?_
                  refine wpList_nil ?_
                  refine nor_then ?_
                  exact ⟨p47, c48, l22 ++ [(⟨x_name, x_s⟩ : api_Field)], (hf.cons rfl hf.nil), (hO.sub (.cons _ (.cons_cons _ (.cons_cons _ (.cons_cons _ .slnil))))), hm⟩
                · have hm := ie hc45 hm
                  refine wp_skip ?_
                  refine nor_then ?_
                  exact ⟨p20, c21, l22, (hf.cons rfl hf.nil), hO, hm⟩
              · rintro a w ⟨p50, c51, l52, hf, hO, hm⟩
                rw [ref13_Behind_j5] at hm
                refine wp_seq_k fun _ hK53 => ?_
                refine wp_region_list ?_
                refine op_val (ex_move hf rfl) rfl hf rfl rfl fun a hf => ?_
                refine op_val (ex_assign hf rfl) rfl hf rfl rfl fun a hf => ?_
                refine wpList_nil ?_
                refine nor_then (hK53 _ _ ?_)
                refine wp_ret ?_
                obtain rfl := Option.some.inj hm
                exact post_ret Tryz.results25 hf (.tmp rfl .nil) ⟨p50, c51, rfl, (hO.sub (.cons_cons _ (.cons _ (.cons _ .slnil))))⟩
        · exact ⟨none, 0, [], 0, (hf.cons rfl (hf.cons rfl (hf.cons rfl (hf.cons rfl (hf.cons rfl (hf.cons rfl hf.nil)))))), hO, hm⟩
  · exact ⟨(-1), 0, (hf.cons rfl (hf.cons rfl (hf.cons rfl (hf.cons rfl (hf.cons rfl hf.nil))))), hO, hm⟩

set_option maxHeartbeats 1000000 in
theorem w_ref12_Same (x_a : List api_Field) (x_b : List api_Field) (R : Bool) (w0 : World) (hG : Glob w0) {x_a_p0 : Option Addr} {x_a_c0 : Nat} (hs0 : Sees w0 x_a_p0 (cells enc_api_Field x_a)) (hc0 : x_a.length ≤ x_a_c0) {x_b_p1 : Option Addr} {x_b_c1 : Nat} (hs1 : Sees w0 x_b_p1 (cells enc_api_Field x_b)) (hc1 : x_b.length ≤ x_b_c1) (hm : ref12_Same x_a x_b = some R) :
    Calls Tryz.prog 24 #[.slice x_a_p0 x_a.length x_a_c0, .slice x_b_p1 x_b.length x_b_c1] w0 fun e w' => e = .returned (.bool R) ∧ Below w0.heap.size w0 w' := by
  rw [ref12_Same] at hm
  refine calls_enter (vs := [.slice x_a_p0 x_a.length x_a_c0, .slice x_b_p1 x_b.length x_b_c1]) Tryz.func24 rfl Tryz.ntmps24 rfl fun a hf => ?_
  have hF : Away [] := away_nil
  have hO : Dk.Own w0 [] w0 [] := Dk.Own.refl w0
  have hO := hO.addShr hs0 (by simp [Res.shared])
  have hO := hO.addShr hs1 (by simp [Res.shared])
  refine wp_seq_k fun _ hK1 => ?_
  refine wp_region_list ?_
  refine op_val (ex_assign hf rfl) rfl hf rfl rfl fun a hf => ?_
  refine wpList_nil ?_
  refine nor_then (hK1 _ _ ?_)
  refine wp_seq_k fun _ hK5 => ?_
  refine wp_seq_k fun _ hK2 => ?_
  refine wp_region_list ?_
  refine op_val (ex_move hf rfl) rfl hf rfl rfl fun a hf => ?_
  refine op_val (ex_len_l Tryz.underlying43 hf rfl) rfl hf rfl rfl fun a hf => ?_
  refine op_val (ex_move hf rfl) rfl hf rfl rfl fun a hf => ?_
  refine op_val (ex_len_l Tryz.underlying43 hf rfl) rfl hf rfl rfl fun a hf => ?_
  refine op_val (ex_neq (m := (x_a.length : Int)) (n := (x_b.length : Int)) hf rfl rfl) rfl hf rfl rfl fun a hf => ?_
  refine wpList_nil ?_
  refine nor_then (hK2 _ _ ?_)
  refine wp_cond_cut hf rfl (fun hc3 => ?_) (fun hc3 => ?_)
  · have hm := it hc3 hm
    refine wp_seq_k fun _ hK4 => ?_
    refine wp_region_list ?_
    refine op_val (ex_assign hf rfl) rfl hf rfl rfl fun a hf => ?_
    refine wpList_nil ?_
    refine nor_then (hK4 _ _ ?_)
    refine wp_ret ?_
    refine ret_then ?_
    obtain rfl := Option.some.inj hm
    exact post_ret Tryz.results24 hf (.tmp rfl .nil) ⟨rfl, hO.below⟩
  · have hm := ie hc3 hm
    refine wp_skip ?_
    refine nor_then (hK5 _ _ ?_)
    refine wp_seq_k fun _ hK22 => ?_
    refine wp_seq_k fun _ hK6 => ?_
    refine wp_region_list ?_
    refine op_val (ex_assign hf rfl) rfl hf rfl rfl fun a hf => ?_
    refine wpList_nil ?_
    refine nor_then (hK6 _ _ ?_)
    refine wp_block ?_
    refine wp_loop_n (fun k a w => ∃ (i7 : Int), Fits 26 [(0, .slice x_a_p0 x_a.length x_a_c0), (1, .slice x_b_p1 x_b.length x_b_c1), (5, int i7)] a ∧ Dk.Own w0 [] w [.shr x_b_p1 (cells enc_api_Field x_b), .shr x_a_p0 (cells enc_api_Field x_a)] ∧ ref12_Same_L1 x_a x_b k i7 = some R) ?_ fuel ?_
    · rintro n1 a w ⟨i7, hf, hO, hm⟩
      obtain _ | n1 := n1
      · rw [ref12_Same_L1] at hm
        cases hm
      · rw [ref12_Same_L1] at hm
        refine wp_seq_k fun _ hK10 => ?_
        refine wp_seq_k fun _ hK8 => ?_
        refine wp_region_list ?_
        refine op_val (ex_move hf rfl) rfl hf rfl rfl fun a hf => ?_
        refine op_val (ex_move hf rfl) rfl hf rfl rfl fun a hf => ?_
        refine op_val (ex_len_l Tryz.underlying43 hf rfl) rfl hf rfl rfl fun a hf => ?_
        refine op_val (ex_lss (m := i7) (n := (x_a.length : Int)) hf rfl rfl) rfl hf rfl rfl fun a hf => ?_
        refine wpList_nil ?_
        refine nor_then (hK8 _ _ ?_)
        refine wp_cond_cut hf rfl (fun hc9 => ?_) (fun hc9 => ?_)
        · have hm := it hc9 hm
          refine wp_skip ?_
          refine nor_then (hK10 _ _ ?_)
          refine wp_seq_k fun _ hK20 => ?_
          refine wp_block ?_
          refine wp_seq_k fun _ hK17 => ?_
          refine wp_quiet (by kernel_rfl) (by kernel_rfl) hO ?_
          refine q_val (fun w hO => ex_move hf rfl) rfl hf rfl rfl fun a hf => ?_
          refine q_val (fun w hO => ex_move hf rfl) rfl hf rfl rfl fun a hf => ?_
          obtain ⟨x11, hx11, hm⟩ := ob hm
          obtain ⟨b12, o13, hix11, hSx11⟩ := elemAt (enc := enc_api_Field) (sz := 2) (xs := x_a) 43 Tryz.underlying43 sz_63 (by decide) (fun _ => rfl) (hO.sees (i := 1) rfl) hx11
          refine q_val (fun w hO => ex_indexAddr hix11 hf rfl rfl) rfl hf rfl rfl fun a hf => ?_
          refine q_val (fun w hO => ex_loadN (o := 0) (vs := [str x11.Name, str x11.Value]) ag_63 sz_63 (hSx11 _ (hO.sees (i := 1) rfl)) rfl rfl hf rfl) rfl hf rfl rfl fun a hf => ?_
          refine q_val (fun w hO => ex_move hf rfl) rfl hf rfl rfl fun a hf => ?_
          refine q_val (fun w hO => ex_move hf rfl) rfl hf rfl rfl fun a hf => ?_
          obtain ⟨x14, hx14, hm⟩ := ob hm
          obtain ⟨b15, o16, hix14, hSx14⟩ := elemAt (enc := enc_api_Field) (sz := 2) (xs := x_b) 43 Tryz.underlying43 sz_63 (by decide) (fun _ => rfl) (hO.sees (i := 0) rfl) hx14
          refine q_val (fun w hO => ex_indexAddr hix14 hf rfl rfl) rfl hf rfl rfl fun a hf => ?_
          refine q_val (fun w hO => ex_loadN (o := 0) (vs := [str x14.Name, str x14.Value]) ag_63 sz_63 (hSx14 _ (hO.sees (i := 0) rfl)) rfl rfl hf rfl) rfl hf rfl rfl fun a hf => ?_
          refine q_val (fun w hO => ex_neq_t (by kernel_rfl) (eq_63 x11 x14) hf rfl rfl) rfl hf rfl rfl fun a hf => ?_
          refine wpQuiet_nil ?_
          intro w hO
          refine nor_then (hK17 _ _ ?_)
          refine wp_cond_cut hf rfl (fun hc18 => ?_) (fun hc18 => ?_)
          · have hm := it hc18 hm
            refine wp_seq_k fun _ hK19 => ?_
            refine wp_region_list ?_
            refine op_val (ex_assign hf rfl) rfl hf rfl rfl fun a hf => ?_
            refine wpList_nil ?_
            refine nor_then (hK19 _ _ ?_)
            refine wp_ret ?_
            refine ret_block ?_
            refine ret_then ?_
            refine ret_then ?_
            refine ret_block ?_
            refine ret_then ?_
            obtain rfl := Option.some.inj hm
            exact post_ret Tryz.results24 hf (.tmp rfl .nil) ⟨rfl, hO.below⟩
          · have hm := ie hc18 hm
            refine wp_skip ?_
            refine nor_block ?_
            refine nor_then (hK20 _ _ ?_)
            refine wp_region_list ?_
            refine op_val (ex_move hf rfl) rfl hf rfl rfl fun a hf => ?_
            obtain ⟨i21, hi21, hm⟩ := ob hm
            refine op_val (ex_add hf rfl rfl hi21) rfl hf rfl rfl fun a hf => ?_
            refine op_val (ex_assign hf rfl) rfl hf rfl rfl fun a hf => ?_
            refine wpList_nil ?_
            refine nor_then ?_
            exact ⟨_, Nat.lt_succ_self _, i21, (hf.cons rfl (hf.cons rfl (hf.cons rfl hf.nil))), hO, hm⟩
        · have hm := ie hc9 hm
          refine wp_exit ?_
          refine exit_then ?_
          refine exit_then ?_
          refine exit_here ?_
          refine nor_then (hK22 _ _ ?_)
          refine wp_seq_k fun _ hK23 => ?_
          refine wp_region_list ?_
          refine op_val (ex_assign hf rfl) rfl hf rfl rfl fun a hf => ?_
          refine wpList_nil ?_
          refine nor_then (hK23 _ _ ?_)
          refine wp_ret ?_
          obtain rfl := Option.some.inj hm
          exact post_ret Tryz.results24 hf (.tmp rfl .nil) ⟨rfl, hO.below⟩
    · exact ⟨0, (hf.cons rfl (hf.cons rfl (hf.cons rfl hf.nil))), hO, hm⟩

set_option maxHeartbeats 1000000 in
theorem w_ref13_Values (x_l : List api_Field) (x_name : Str) (R : List Str) (w0 : World) (hG : Glob w0) {x_l_p0 : Option Addr} {x_l_c0 : Nat} (hs0 : Sees w0 x_l_p0 (cells enc_api_Field x_l)) (hc0 : x_l.length ≤ x_l_c0) (hm : ref13_Values x_l x_name = some R) :
    Calls Tryz.prog 27 #[.slice x_l_p0 x_l.length x_l_c0, str x_name] w0 fun e w' => ∃ (p0 : Option Addr) (c0 : Nat), e = .returned (.slice p0 R.length c0) ∧ Dk.Own w0 [] w' [.row (.slice p0 R.length c0) 9 1 R.length (cells enc_str R)] := by
  rw [ref13_Values] at hm
  refine calls_enter (vs := [.slice x_l_p0 x_l.length x_l_c0, str x_name]) Tryz.func27 rfl Tryz.ntmps27 rfl fun a hf => ?_
  have hF : Away [] := away_nil
  have hO : Dk.Own w0 [] w0 [] := Dk.Own.refl w0
  have hO := hO.addShr hs0 (by simp [Res.shared])
  refine wp_seq_k fun _ hK1 => ?_
  refine wp_region_list ?_
  have hO := hO.nilRow 9 1
  refine op_val (ex_assign hf rfl) rfl hf rfl rfl fun a hf => ?_
  refine wpList_nil ?_
  refine nor_then (hK1 _ _ ?_)
  refine wp_seq_k fun _ hK2 => ?_
  refine wp_region_list ?_
  have hO := hO.nilRow 9 1
  refine op_val (ex_assign hf rfl) rfl hf rfl rfl fun a hf => ?_
  refine wpList_nil ?_
  refine nor_then (hK2 _ _ ?_)
  refine wp_seq_k fun _ hK28 => ?_
  refine wp_seq_k fun _ hK3 => ?_
  refine wp_region_list ?_
  refine op_val (ex_assign hf rfl) rfl hf rfl rfl fun a hf => ?_
  refine wpList_nil ?_
  refine nor_then (hK3 _ _ ?_)
  refine wp_block ?_
  refine wp_loop_n (fun k a w => ∃ (p4 : Option Addr) (c5 : Nat) (l6 : List Str) (i7 : Int), Fits 28 [(0, .slice x_l_p0 x_l.length x_l_c0), (1, str x_name), (5, .slice p4 l6.length c5), (6, int i7)] a ∧ Dk.Own w0 [] w [.row (.slice p4 l6.length c5) 9 1 l6.length (cells enc_str l6), .row (.slice none 0 0) 9 1 0 (cells enc_str []), .shr x_l_p0 (cells enc_api_Field x_l)] ∧ ref13_Values_L1 x_l x_name k l6 i7 = some R) ?_ fuel ?_
  · rintro n1 a w ⟨p4, c5, l6, i7, hf, hO, hm⟩
    obtain _ | n1 := n1
    · rw [ref13_Values_L1] at hm
      cases hm
    · rw [ref13_Values_L1] at hm
      refine wp_seq_k fun _ hK10 => ?_
      refine wp_seq_k fun _ hK8 => ?_
      refine wp_region_list ?_
      refine op_val (ex_move hf rfl) rfl hf rfl rfl fun a hf => ?_
      refine op_val (ex_move hf rfl) rfl hf rfl rfl fun a hf => ?_
      refine op_val (ex_len_l Tryz.underlying43 hf rfl) rfl hf rfl rfl fun a hf => ?_
      refine op_val (ex_lss (m := i7) (n := (x_l.length : Int)) hf rfl rfl) rfl hf rfl rfl fun a hf => ?_
      refine wpList_nil ?_
      refine nor_then (hK8 _ _ ?_)
      refine wp_cond_cut hf rfl (fun hc9 => ?_) (fun hc9 => ?_)
      · have hm := it hc9 hm
        refine wp_skip ?_
        refine nor_then (hK10 _ _ ?_)
        refine wp_seq_cut (fun a w => ∃ (p24 : Option Addr) (c25 : Nat) (l26 : List Str), Fits 28 [(0, .slice x_l_p0 x_l.length x_l_c0), (1, str x_name), (5, .slice p24 l26.length c25), (6, int i7)] a ∧ Dk.Own w0 [] w [.row (.slice p24 l26.length c25) 9 1 l26.length (cells enc_str l26), .row (.slice none 0 0) 9 1 0 (cells enc_str []), .shr x_l_p0 (cells enc_api_Field x_l)] ∧ ref13_Values_j2 (ref13_Values_L1 x_l x_name n1) i7 l26 = some R) ?_ ?_
        · refine wp_block ?_
          refine wp_seq_k fun _ hK15 => ?_
          refine wp_region_list ?_
          refine op_val (ex_move hf rfl) rfl hf rfl rfl fun a hf => ?_
          refine op_val (ex_move hf rfl) rfl hf rfl rfl fun a hf => ?_
          obtain ⟨x11, hx11, hm⟩ := ob hm
          obtain ⟨b12, o13, hix11, hSx11⟩ := elemAt (enc := enc_api_Field) (sz := 2) (xs := x_l) 43 Tryz.underlying43 sz_63 (by decide) (fun _ => rfl) (hO.sees (i := 2) rfl) hx11
          refine op_val (ex_indexAddr hix11 hf rfl rfl) rfl hf rfl rfl fun a hf => ?_
          refine op_val (ex_loadN (o := 0) (vs := [str x11.Name, str x11.Value]) ag_63 sz_63 (hSx11 _ (hO.sees (i := 2) rfl)) rfl rfl hf rfl) rfl hf rfl rfl fun a hf => ?_
          refine op_val (ex_move hf rfl) rfl hf rfl rfl fun a hf => ?_
          obtain ⟨r14, hr14, hm⟩ := ob hm
          refine op_enter (ex_call c_51 hf (vs := [.agg #[str x11.Name, str x11.Value], str x_name]) rfl) rfl hf rfl rfl (w_ref13_Of x11 x_name r14 _ (hG.own hF hO) hr14) ?_
          rintro e w' ⟨he, hb⟩
          refine ⟨_, he, fun a hf => ?_⟩
          have hO := hO.grow hb
          refine wpList_nil ?_
          refine nor_then (hK15 _ _ ?_)
          refine wp_cond_cut hf rfl (fun hc16 => ?_) (fun hc16 => ?_)
          · have hm := it hc16 hm
            refine wp_region_list ?_
            refine op_val (ex_move hf rfl) rfl hf rfl rfl fun a hf => ?_
            refine op_val (ex_move hf rfl) rfl hf rfl rfl fun a hf => ?_
            refine op_val (ex_move hf rfl) rfl hf rfl rfl fun a hf => ?_
            obtain ⟨x17, hx17, hm⟩ := ob hm
            obtain ⟨b18, o19, hix17, hSx17⟩ := elemAt (enc := enc_api_Field) (sz := 2) (xs := x_l) 43 Tryz.underlying43 sz_63 (by decide) (fun _ => rfl) (hO.sees (i := 2) rfl) hx17
            refine op_val (ex_indexAddr hix17 hf rfl rfl) rfl hf rfl rfl fun a hf => ?_
            refine op_val (ex_field fa_63_1 hf rfl) rfl hf rfl rfl fun a hf => ?_
            refine op_val (ex_load1 (o := 1) ag_9 (hSx17 _ (hO.sees (i := 2) rfl)) rfl hf rfl) rfl hf rfl rfl fun a hf => ?_
            refine op_buildSlice (vs := [(0, str x17.Value)]) (cs := [str x17.Value]) (e := 9) (sz := 1) hf rfl rfl (fun w => by kernel_rfl) rfl rfl hO fun a b20 w hf hO => ?_
            obtain ⟨hg23, hm⟩ := og hm
            refine op_appendT el_54 (enc := enc_str) (xs := l6) (ys := [x17.Value]) (i := 1) (fun _ => rfl) rfl (hO.rowSees (i := 0) rfl) (by simp [cells, enc_str, Value.oneCell']) hg23 hf rfl rfl rfl hO fun a p21 c22 w hf hO => ?_
            refine op_val (ex_assign hf rfl) rfl hf rfl rfl fun a hf => ?_
            refine wpList_nil ?_
            refine nor_block ?_
            refine nor_then ?_
            exact ⟨p21, c22, l6 ++ [x17.Value], (hf.cons rfl (hf.cons rfl (hf.cons rfl (hf.cons rfl hf.nil)))), (hO.sub (.cons _ (.cons_cons _ (.cons_cons _ (.cons_cons _ .slnil))))), hm⟩
          · have hm := ie hc16 hm
            refine wp_skip ?_
            refine nor_block ?_
            refine nor_then ?_
            exact ⟨p4, c5, l6, (hf.cons rfl (hf.cons rfl (hf.cons rfl (hf.cons rfl hf.nil)))), hO, hm⟩
        · rintro a w ⟨p24, c25, l26, hf, hO, hm⟩
          rw [ref13_Values_j2] at hm
          refine wp_region_list ?_
          refine op_val (ex_move hf rfl) rfl hf rfl rfl fun a hf => ?_
          obtain ⟨i27, hi27, hm⟩ := ob hm
          refine op_val (ex_add hf rfl rfl hi27) rfl hf rfl rfl fun a hf => ?_
          refine op_val (ex_assign hf rfl) rfl hf rfl rfl fun a hf => ?_
          refine wpList_nil ?_
          refine nor_then ?_
          exact ⟨_, Nat.lt_succ_self _, p24, c25, l26, i27, (hf.cons rfl (hf.cons rfl (hf.cons rfl (hf.cons rfl hf.nil)))), hO, hm⟩
      · have hm := ie hc9 hm
        refine wp_exit ?_
        refine exit_then ?_
        refine exit_then ?_
        refine exit_here ?_
        refine nor_then (hK28 _ _ ?_)
        refine wp_seq_k fun _ hK29 => ?_
        refine wp_region_list ?_
        refine op_val (ex_move hf rfl) rfl hf rfl rfl fun a hf => ?_
        refine op_val (ex_assign hf rfl) rfl hf rfl rfl fun a hf => ?_
        refine wpList_nil ?_
        refine nor_then (hK29 _ _ ?_)
        refine wp_ret ?_
        obtain rfl := Option.some.inj hm
        exact post_ret Tryz.results27 hf (.tmp rfl .nil) ⟨p4, c5, rfl, (hO.sub (.cons_cons _ (.cons _ (.cons _ .slnil))))⟩
  · exact ⟨none, 0, [], 0, (hf.cons rfl (hf.cons rfl (hf.cons rfl (hf.cons rfl hf.nil)))), hO, hm⟩

set_option maxHeartbeats 1000000 in
theorem w_law27_XffAppends (x_client : Str) (x_l : List api_Field) (R : Bool) (w0 : World) (hG : GlobT w0) {x_l_p0 : Option Addr} {x_l_c0 : Nat} (hs0 : Sees w0 x_l_p0 (cells enc_api_Field x_l)) (hc0 : x_l.length ≤ x_l_c0) (hm : law27_XffAppends x_client x_l = some R) :
    Calls Tryz.prog 6 #[str x_client, .slice x_l_p0 x_l.length x_l_c0] w0 fun e w' => e = .returned (.bool R) ∧ Below w0.heap.size w0 w' := by
  rw [law27_XffAppends] at hm
  refine calls_enter (vs := [str x_client, .slice x_l_p0 x_l.length x_l_c0]) Tryz.func6 rfl Tryz.ntmps6 rfl fun a hf => ?_
  have hF : Away [] := away_nil
  have hO : Dk.Own w0 [] w0 [] := Dk.Own.refl w0
  have hO := hO.addShr hs0 (by simp [Res.shared])
  refine wp_seq_k fun _ hK1 => ?_
  refine wp_region_list ?_
  refine op_val (ex_assign hf rfl) rfl hf rfl rfl fun a hf => ?_
  refine wpList_nil ?_
  refine nor_then (hK1 _ _ ?_)
  refine wp_seq_k fun _ hK6 => ?_
  refine wp_seq_k fun _ hK3 => ?_
  refine wp_region_list ?_
  obtain ⟨r2, hr2, hm⟩ := ob hm
  refine op_enter (ex_call c_20 hf (vs := []) rfl) rfl hf rfl rfl (w_law27_awake r2 _ (hG.own hF hO) hr2) ?_
  rintro e w' ⟨he, hb⟩
  refine ⟨_, he, fun a hf => ?_⟩
  have hO := hO.grow hb
  refine op_val (ex_not hf rfl) rfl hf rfl rfl fun a hf => ?_
  refine wpList_nil ?_
  refine nor_then (hK3 _ _ ?_)
  refine wp_cond_cut hf rfl (fun hc4 => ?_) (fun hc4 => ?_)
  · have hm := it hc4 hm
    refine wp_seq_k fun _ hK5 => ?_
    refine wp_region_list ?_
    refine op_val (ex_assign hf rfl) rfl hf rfl rfl fun a hf => ?_
    refine wpList_nil ?_
    refine nor_then (hK5 _ _ ?_)
    refine wp_ret ?_
    refine ret_then ?_
    obtain rfl := Option.some.inj hm
    exact post_ret Tryz.results6 hf (.tmp rfl .nil) ⟨rfl, hO.below⟩
  · have hm := ie hc4 hm
    refine wp_skip ?_
    refine nor_then (hK6 _ _ ?_)
    refine wp_seq_k fun _ hK11 => ?_
    obtain ⟨s7, hs7, hm⟩ := ob hm
    obtain ⟨r8, hr8, hm⟩ := ob hm
    refine wp_drawS' (S := Option Addr × Nat) (E0 := [(0, str x_client), (1, .slice x_l_p0 x_l.length x_l_c0)]) (by kernel_rfl) (fun k σ w => match k with | 0 => Dk.Own w0 [] w [.shr x_l_p0 (cells enc_api_Field x_l)] | _ => Dk.Own w0 [] w [.row (.slice (σ.1) r8.Fields.length (σ.2)) 63 2 r8.Fields.length (cells enc_api_Field r8.Fields), .shr x_l_p0 (cells enc_api_Field x_l)]) (fun σ => [⟨[(0, str x_client)], some (13, str x_client)⟩, ⟨[(0, str x_client)], some (14, str x_client)⟩, ⟨[(14, str x_client)], some (15, int (x_client.length : Int))⟩, ⟨[(15, int (x_client.length : Int))], some (16, int (min (x_client.length : Int) 100))⟩, ⟨[(13, str x_client), (16, int (min (x_client.length : Int) 100))], some (17, str s7)⟩, ⟨[(1, .slice x_l_p0 x_l.length x_l_c0)], some (18, .slice x_l_p0 x_l.length x_l_c0)⟩, ⟨[(18, .slice x_l_p0 x_l.length x_l_c0)], some (19, .agg #[int 0, str [], str [], int 0, str [], int 0, .slice x_l_p0 x_l.length x_l_c0])⟩, ⟨[(19, .agg #[int 0, str [], str [], int 0, str [], int 0, .slice x_l_p0 x_l.length x_l_c0])], some (20, .agg #[int r8.Kind, str r8.Method, str r8.Target, int r8.Code, str r8.Reason, int r8.Minor, .slice (σ.1) r8.Fields.length (σ.2)])⟩, ⟨[(20, .agg #[int r8.Kind, str r8.Method, str r8.Target, int r8.Code, str r8.Reason, int r8.Minor, .slice (σ.1) r8.Fields.length (σ.2)])], some (21, .slice (σ.1) r8.Fields.length (σ.2))⟩, ⟨[(17, str s7)], some (0, str s7)⟩, ⟨[(21, .slice (σ.1) r8.Fields.length (σ.2))], some (1, .slice (σ.1) r8.Fields.length (σ.2))⟩]) (none, 0) [7] rfl (fun _ => rfl) (fun _ => rfl) (fun _ => rfl) rfl rfl (by decide) rfl hO.drew (hf.cons rfl (hf.cons rfl hf.nil)) (fun σ => ⟨⟨rfl, trivial⟩, ⟨⟨rfl, trivial⟩, ⟨⟨rfl, trivial⟩, ⟨⟨rfl, trivial⟩, ⟨⟨rfl, ⟨rfl, trivial⟩⟩, ⟨⟨rfl, trivial⟩, ⟨⟨rfl, trivial⟩, ⟨⟨rfl, trivial⟩, ⟨⟨rfl, trivial⟩, ⟨⟨rfl, trivial⟩, ⟨⟨rfl, trivial⟩, trivial⟩⟩⟩⟩⟩⟩⟩⟩⟩⟩⟩) ⟨sS_pure rfl (fun σ => rfl) (fun σ => rfl) (fun σ a w k _ _ _ _ hf => ex_move hf rfl), ⟨sS_pure rfl (fun σ => rfl) (fun σ => rfl) (fun σ a w k _ _ _ _ hf => ex_move hf rfl), ⟨sS_pure rfl (fun σ => rfl) (fun σ => rfl) (fun σ a w k _ _ _ _ hf => ex_len_s (l := x_client) Tryz.underlying9 hf rfl), ⟨sS_pure rfl (fun σ => rfl) (fun σ => rfl) (fun σ a w k _ _ _ _ hf => ex_min (m := (x_client.length : Int)) (n := 100) hf rfl rfl), ⟨sS_pure rfl (fun σ => rfl) (fun σ => rfl) (fun σ a w k _ _ _ _ hf => ex_to_s (l := x_client) Tryz.underlying9 hf rfl rfl hs7), ⟨sS_pure rfl (fun σ => rfl) (fun σ => rfl) (fun σ a w k _ _ _ _ hf => ex_move hf rfl), ⟨sS_pure rfl (fun σ => rfl) (fun σ => rfl) (fun σ a w k _ _ _ _ hf => ex_build (vs := [(6, .slice x_l_p0 x_l.length x_l_c0)]) (v := .agg #[int 0, str [], str [], int 0, str [], int 0, .slice x_l_p0 x_l.length x_l_c0]) hf rfl (by kernel_rfl)), ⟨sS_call rfl (fun σ => rfl) (fun σ => rfl) rfl (fun σ a w (_ : _) hf => ex_call c_21 hf (vs := [.agg #[int 0, str [], str [], int 0, str [], int 0, .slice x_l_p0 x_l.length x_l_c0]]) rfl) (fun σ w (hO : Dk.Own w0 [] w [.shr x_l_p0 (cells enc_api_Field x_l)]) => (w_law15_Few (⟨0, [], [], 0, [], 0, x_l⟩ : api_Head) r8 _ (hG.own hF hO).1 (hO.sees (i := 0) rfl) hc0 hr8).mono fun e w' h => by obtain ⟨p9, c10, he, hO'⟩ := h; exact ⟨(p9, c10), he, hO.call hO' (by simp [Res.shared]), ⟨.inr rfl, ⟨.inr rfl, ⟨.inr rfl, ⟨.inr rfl, ⟨.inr rfl, ⟨.inr rfl, ⟨.inr rfl, ⟨.inl rfl, ⟨.inl rfl, ⟨.inr rfl, ⟨.inl rfl, trivial⟩⟩⟩⟩⟩⟩⟩⟩⟩⟩⟩⟩), ⟨sS_pure rfl (fun σ => rfl) (fun σ => rfl) (fun σ a w k _ _ _ _ hf => ex_fieldv (v := .slice (σ.1) r8.Fields.length (σ.2)) hf rfl (by kernel_rfl)), ⟨sS_pure rfl (fun σ => rfl) (fun σ => rfl) (fun σ a w k _ _ _ _ hf => ex_assign hf rfl), ⟨sS_pure rfl (fun σ => rfl) (fun σ => rfl) (fun σ a w k _ _ _ _ hf => ex_assign hf rfl), trivial⟩⟩⟩⟩⟩⟩⟩⟩⟩⟩⟩ ?_
    rintro ⟨p9, c10⟩ a w hf hO
    have hO : Dk.Own w0 [] w [.row (.slice p9 r8.Fields.length c10) 63 2 r8.Fields.length (cells enc_api_Field r8.Fields), .shr x_l_p0 (cells enc_api_Field x_l)] := hO
    have hf : Fits 60 [(0, str s7), (1, .slice p9 r8.Fields.length c10)] a := (hf.cons rfl (hf.cons rfl hf.nil))
    refine nor_then (hK11 _ _ ?_)
    refine wp_seq_k fun _ hK15 => ?_
    refine wp_region_list ?_
    refine op_val (ex_move hf rfl) rfl hf rfl rfl fun a hf => ?_
    refine op_val (ex_move hf rfl) rfl hf rfl rfl fun a hf => ?_
    obtain ⟨r12, hr12, hm⟩ := ob hm
    refine op_enter (ex_call c_22 hf (vs := [str s7, .slice p9 r8.Fields.length c10]) rfl) rfl hf rfl rfl (w_xff_Append s7 r8.Fields r12 _ (hG.own hF hO) (hO.rowSees (i := 0) rfl) (hO.rowCap (i := 0) rfl) hr12) ?_
    rintro e w' ⟨p13, c14, he, hO'⟩
    refine ⟨_, he, fun a hf => ?_⟩
    have hO := hO.call hO' (by simp [Res.shared])
    refine op_val (ex_assign hf rfl) rfl hf rfl rfl fun a hf => ?_
    refine wpList_nil ?_
    refine nor_then (hK15 _ _ ?_)
    refine wp_seq_k fun _ hK17 => ?_
    refine wp_region_list ?_
    refine op_val (ex_move hf rfl) rfl hf rfl rfl fun a hf => ?_
    obtain ⟨r16, hr16, hm⟩ := ob hm
    refine op_enter (ex_call c_23 hf (vs := [str s7]) rfl) rfl hf rfl rfl (w_ref27_Own s7 r16 _ (hG.own hF hO).1 hr16) ?_
    rintro e w' ⟨he, hb⟩
    refine ⟨_, he, fun a hf => ?_⟩
    have hO := hO.grow hb
    refine op_val (ex_assign hf rfl) rfl hf rfl rfl fun a hf => ?_
    refine wpList_nil ?_
    refine nor_then (hK17 _ _ ?_)
    refine wp_seq_k fun _ hK25 => ?_
    refine wp_seq_k fun _ hK22 => ?_
    refine wp_region_list ?_
    refine op_val (ex_move hf rfl) rfl hf rfl rfl fun a hf => ?_
    refine op_val (ex_move hf rfl) rfl hf rfl rfl fun a hf => ?_
    refine op_val (ex_move hf rfl) rfl hf rfl rfl fun a hf => ?_
    obtain ⟨r18, hr18, hm⟩ := ob hm
    refine op_enter (ex_call c_25 hf (vs := [.slice p9 r8.Fields.length c10, str [88, 45, 70, 111, 114, 119, 97, 114, 100, 101, 100, 45, 70, 111, 114], str r16]) rfl) rfl hf rfl rfl (w_ref13_Behind r8.Fields [88, 45, 70, 111, 114, 119, 97, 114, 100, 101, 100, 45, 70, 111, 114] r16 r18 _ (hG.own hF hO).1 (hO.rowSees (i := 1) rfl) (hO.rowCap (i := 1) rfl) hr18) ?_
    rintro e w' ⟨p19, c20, he, hO'⟩
    refine ⟨_, he, fun a hf => ?_⟩
    have hO := hO.call hO' (by simp [Res.shared])
    obtain ⟨r21, hr21, hm⟩ := ob hm
    refine op_enter (ex_call c_24 hf (vs := [.slice p13 r12.length c14, .slice p19 r18.length c20]) rfl) rfl hf rfl rfl (w_ref12_Same r12 r18 r21 _ (hG.own hF hO).1 (hO.rowSees (i := 1) rfl) (hO.rowCap (i := 1) rfl) (hO.rowSees (i := 0) rfl) (hO.rowCap (i := 0) rfl) hr21) ?_
    rintro e w' ⟨he, hb⟩
    refine ⟨_, he, fun a hf => ?_⟩
    have hO := hO.grow hb
    refine op_val (ex_not hf rfl) rfl hf rfl rfl fun a hf => ?_
    refine wpList_nil ?_
    refine nor_then (hK22 _ _ ?_)
    refine wp_cond_cut hf rfl (fun hc23 => ?_) (fun hc23 => ?_)
    · have hm := it hc23 hm
      refine wp_seq_k fun _ hK24 => ?_
      refine wp_region_list ?_
      refine op_val (ex_assign hf rfl) rfl hf rfl rfl fun a hf => ?_
      refine wpList_nil ?_
      refine nor_then (hK24 _ _ ?_)
      refine wp_ret ?_
      refine ret_then ?_
      obtain rfl := Option.some.inj hm
      exact post_ret Tryz.results6 hf (.tmp rfl .nil) ⟨rfl, hO.below⟩
    · have hm := ie hc23 hm
      refine wp_skip ?_
      refine nor_then (hK25 _ _ ?_)
      refine wp_seq_k fun _ hK32 => ?_
      refine wp_region_list ?_
      refine op_val (ex_move hf rfl) rfl hf rfl rfl fun a hf => ?_
      obtain ⟨r26, hr26, hm⟩ := ob hm
      refine op_enter (ex_call c_27 hf (vs := [.slice p9 r8.Fields.length c10, str [120, 45, 102, 111, 114, 119, 97, 114, 100, 101, 100, 45, 102, 111, 114]]) rfl) rfl hf rfl rfl (w_ref13_Values r8.Fields [120, 45, 102, 111, 114, 119, 97, 114, 100, 101, 100, 45, 102, 111, 114] r26 _ (hG.own hF hO).1 (hO.rowSees (i := 2) rfl) (hO.rowCap (i := 2) rfl) hr26) ?_
      rintro e w' ⟨p27, c28, he, hO'⟩
      refine ⟨_, he, fun a hf => ?_⟩
      have hO := hO.call hO' (by simp [Res.shared])
      obtain ⟨r29, hr29, hm⟩ := ob hm
      refine op_enter (ex_call c_26 hf (vs := [.slice p27 r26.length c28]) rfl) rfl hf rfl rfl (w_xff_List r26 r29 _ (hG.own hF hO) (hO.rowSees (i := 0) rfl) (hO.rowCap (i := 0) rfl) hr29) ?_
      rintro e w' ⟨p30, c31, he, hO'⟩
      refine ⟨_, he, fun a hf => ?_⟩
      have hO := hO.call hO' (by simp [Res.shared])
      refine op_val (ex_move hf rfl) rfl hf rfl rfl fun a hf => ?_
      refine op_val (ex_extract hf rfl rfl) rfl hf rfl rfl fun a hf => ?_
      refine op_val (ex_extract hf rfl rfl) rfl hf rfl rfl fun a hf => ?_
      refine op_val (ex_assign hf rfl) rfl hf rfl rfl fun a hf => ?_
      refine op_val (ex_assign hf rfl) rfl hf rfl rfl fun a hf => ?_
      refine wpList_nil ?_
      refine nor_then (hK32 _ _ ?_)
      refine wp_seq_k fun _ hK39 => ?_
      refine wp_region_list ?_
      refine op_val (ex_move hf rfl) rfl hf rfl rfl fun a hf => ?_
      obtain ⟨r33, hr33, hm⟩ := ob hm
      refine op_enter (ex_call c_27 hf (vs := [.slice p13 r12.length c14, str [120, 45, 102, 111, 114, 119, 97, 114, 100, 101, 100, 45, 102, 111, 114]]) rfl) rfl hf rfl rfl (w_ref13_Values r12 [120, 45, 102, 111, 114, 119, 97, 114, 100, 101, 100, 45, 102, 111, 114] r33 _ (hG.own hF hO).1 (hO.rowSees (i := 3) rfl) (hO.rowCap (i := 3) rfl) hr33) ?_
      rintro e w' ⟨p34, c35, he, hO'⟩
      refine ⟨_, he, fun a hf => ?_⟩
      have hO := hO.call hO' (by simp [Res.shared])
      obtain ⟨r36, hr36, hm⟩ := ob hm
      refine op_enter (ex_call c_26 hf (vs := [.slice p34 r33.length c35]) rfl) rfl hf rfl rfl (w_xff_List r33 r36 _ (hG.own hF hO) (hO.rowSees (i := 0) rfl) (hO.rowCap (i := 0) rfl) hr36) ?_
      rintro e w' ⟨p37, c38, he, hO'⟩
      refine ⟨_, he, fun a hf => ?_⟩
      have hO := hO.call hO' (by simp [Res.shared])
      refine op_val (ex_move hf rfl) rfl hf rfl rfl fun a hf => ?_
      refine op_val (ex_extract hf rfl rfl) rfl hf rfl rfl fun a hf => ?_
      refine op_val (ex_extract hf rfl rfl) rfl hf rfl rfl fun a hf => ?_
      refine op_val (ex_assign hf rfl) rfl hf rfl rfl fun a hf => ?_
      refine op_val (ex_assign hf rfl) rfl hf rfl rfl fun a hf => ?_
      refine wpList_nil ?_
      refine nor_then (hK39 _ _ ?_)
      refine wp_seq_k fun _ hK44 => ?_
      refine wp_region_list ?_
      refine op_val (ex_move hf rfl) rfl hf rfl rfl fun a hf => ?_
      refine op_val (ex_move hf rfl) rfl hf rfl rfl fun a hf => ?_
      refine op_buildSlice (vs := [(0, str r16)]) (cs := [str r16]) (e := 9) (sz := 1) hf rfl rfl (fun w => by kernel_rfl) rfl rfl hO fun a b40 w hf hO => ?_
      obtain ⟨hg43, hm⟩ := og hm
      refine op_appendT el_54 (enc := enc_str) (xs := r29.1) (ys := [r16]) (i := 3) (fun _ => rfl) rfl (hO.rowSees (i := 0) rfl) (by simp [cells, enc_str, Value.oneCell']) hg43 hf rfl rfl rfl hO fun a p41 c42 w hf hO => ?_
      refine op_val (ex_assign hf rfl) rfl hf rfl rfl fun a hf => ?_
      refine wpList_nil ?_
      refine nor_then (hK44 _ _ ?_)
      refine wp_seq_cut (fun a w => ∃ (t48 : Bool), Fits 60 [(4, .bool t48)] a ∧ Dk.Own w0 [] w [.row (.slice (some ⟨b40, 0, none⟩) ([r16].length) 1) 9 1 ([r16].length) (cells enc_str [r16]), .row (.slice p37 r36.1.length c38) 9 1 r36.1.length (cells enc_str r36.1), .row (.slice p34 r33.length c35) 9 1 r33.length (cells enc_str r33), .row (.slice p41 ((r29.1 ++ [r16]).length) c42) 9 1 ((r29.1 ++ [r16]).length) (cells enc_str (r29.1 ++ [r16])), .row (.slice p27 r26.length c28) 9 1 r26.length (cells enc_str r26), .row (.slice p19 r18.length c20) 63 2 r18.length (cells enc_api_Field r18), .row (.slice p13 r12.length c14) 63 2 r12.length (cells enc_api_Field r12), .row (.slice p9 r8.Fields.length c10) 63 2 r8.Fields.length (cells enc_api_Field r8.Fields), .shr x_l_p0 (cells enc_api_Field x_l)] ∧ law27_XffAppends_j1 t48 = some R) ?_ ?_
      · refine wp_region_list ?_
        refine op_val (ex_move hf rfl) rfl hf rfl rfl fun a hf => ?_
        refine op_val (ex_neq (m := r29.2) (n := 0) hf rfl rfl) rfl hf rfl rfl fun a hf => ?_
        refine op_val (ex_move hf rfl) rfl hf rfl rfl fun a hf => ?_
        rcases bcase (!(r29.2 == 0)) with hc45 | hc45
        · have hm := it hc45 hm
          refine op_pass rfl hf rfl rfl (hc45) rfl rfl fun a hf => ?_
          refine op_pass rfl hf rfl rfl (hc45) rfl rfl fun a hf => ?_
          refine op_pass rfl hf rfl rfl (hc45) rfl rfl fun a hf => ?_
          refine op_passu rfl hf rfl rfl rfl rfl fun a hf => ?_
          refine op_passu rfl hf rfl rfl rfl rfl fun a hf => ?_
          refine op_passu rfl hf rfl rfl rfl rfl fun a hf => ?_
          refine op_pass rfl hf rfl rfl (hc45) rfl rfl fun a hf => ?_
          refine op_val (ex_pick_t hf rfl hc45 rfl) rfl hf rfl rfl fun a hf => ?_
          refine op_val (ex_assign hf rfl) rfl hf rfl rfl fun a hf => ?_
          refine wpList_nil ?_
          refine nor_then ?_
          exact ⟨true, (hf.cons rfl hf.nil), hO, hm⟩
        · have hm := ie hc45 hm
          refine op_guard rfl hf rfl rfl (hc45) ?_
          refine op_val (ex_move hf rfl) rfl hf rfl rfl fun a hf => ?_
          refine op_guard rfl hf rfl rfl (hc45) ?_
          refine op_val (ex_eql (m := r36.2) (n := 0) hf rfl rfl) rfl hf rfl rfl fun a hf => ?_
          refine op_guard rfl hf rfl rfl (hc45) ?_
          refine op_val (ex_move hf rfl) rfl hf rfl rfl fun a hf => ?_
          rcases bcase (r36.2 == 0) with hc46 | hc46
          · have hm := it hc46 hm
            refine op_guard rfl hf rfl rfl (hc46) ?_
            refine op_val (ex_move hf rfl) rfl hf rfl rfl fun a hf => ?_
            refine op_guard rfl hf rfl rfl (hc46) ?_
            refine op_val (ex_move hf rfl) rfl hf rfl rfl fun a hf => ?_
            refine op_guard rfl hf rfl rfl (hc46) ?_
            obtain ⟨r47, hr47, hm⟩ := ob hm
            refine op_enter (ex_call c_28 hf (vs := [.slice p37 r36.1.length c38, .slice p41 ((r29.1 ++ [r16]).length) c42]) rfl) rfl hf rfl rfl (w_ref06_Same r36.1 (r29.1 ++ [r16]) r47 _ (hG.own hF hO).1 (hO.rowSees (i := 1) rfl) (hO.rowCap (i := 1) rfl) (hO.rowSees (i := 3) rfl) (hO.rowCap (i := 3) rfl) hr47) ?_
            rintro e w' ⟨he, hb⟩
            refine ⟨_, he, fun a hf => ?_⟩
            have hO := hO.grow hb
            refine op_guard rfl hf rfl rfl (hc45) ?_
            refine op_val (ex_pick_t hf rfl hc46 rfl) rfl hf rfl rfl fun a hf => ?_
            refine op_val (ex_pick_f hf rfl hc45 rfl) rfl hf rfl rfl fun a hf => ?_
            refine op_val (ex_assign hf rfl) rfl hf rfl rfl fun a hf => ?_
            refine wpList_nil ?_
            refine nor_then ?_
            exact ⟨r47, (hf.cons rfl hf.nil), hO, hm⟩
          · have hm := ie hc46 hm
            refine op_pass rfl hf rfl rfl (hc46) rfl rfl fun a hf => ?_
            refine op_pass rfl hf rfl rfl (hc46) rfl rfl fun a hf => ?_
            refine op_pass rfl hf rfl rfl (hc46) rfl rfl fun a hf => ?_
            refine op_guard rfl hf rfl rfl (hc45) ?_
            refine op_val (ex_pick_f hf rfl hc46 rfl) rfl hf rfl rfl fun a hf => ?_
            refine op_val (ex_pick_f hf rfl hc45 rfl) rfl hf rfl rfl fun a hf => ?_
            refine op_val (ex_assign hf rfl) rfl hf rfl rfl fun a hf => ?_
            refine wpList_nil ?_
            refine nor_then ?_
            exact ⟨false, (hf.cons rfl hf.nil), hO, hm⟩
      · rintro a w ⟨t48, hf, hO, hm⟩
        rw [law27_XffAppends_j1] at hm
        refine wp_ret ?_
        obtain rfl := Option.some.inj hm
        exact post_ret Tryz.results6 hf (.tmp rfl .nil) ⟨rfl, hO.below⟩

end Go.Proofs
