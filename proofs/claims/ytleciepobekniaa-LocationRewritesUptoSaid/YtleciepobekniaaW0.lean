/-
  Walks, written by a program (wip/gen): what its model says, the function returns; what was there before is as it was.
-/
import Derived.Test.YtleciepobekniaaLib
set_option linter.unusedVariables false
set_option linter.unusedSimpArgs false
set_option maxRecDepth 100000
namespace Go.Proofs
open Go.Dk Go.Dm Go.RowKit

set_option maxHeartbeats 1000000 in
theorem w_stringslite_HasPrefix (x_s : Str) (x_prefix : Str) (R : Bool) (w0 : World) (hG : Glob w0) (hm : stringslite_HasPrefix x_s x_prefix = some R) :
    Calls Try.prog 32 #[str x_s, str x_prefix] w0 fun e w' => e = .returned (.bool R) ∧ Below w0.heap.size w0 w' := by
  rw [stringslite_HasPrefix] at hm
  refine calls_enter (vs := [str x_s, str x_prefix]) Try.func32 rfl Try.ntmps32 rfl fun a hf => ?_
  have hO : Own w0 [] w0 [] := Own.refl w0
  refine wp_seq_k fun _ hK1 => ?_
  refine wp_region_list ?_
  refine op_val (ex_assign hf rfl) rfl hf rfl rfl fun a hf => ?_
  refine wpList_nil ?_
  refine nor_then (hK1 _ _ ?_)
  refine wp_seq_cut (fun a w => ∃ (t4 : Bool), Fits 18 [(4, .bool t4)] a ∧ Own w0 [] w [] ∧ stringslite_HasPrefix_j1 t4 = some R) ?_ ?_
  · refine wp_region_list ?_
    refine op_val (ex_move hf rfl) rfl hf rfl rfl fun a hf => ?_
    refine op_val (ex_len_s (l := x_s) Try.underlying9 hf rfl) rfl hf rfl rfl fun a hf => ?_
    refine op_val (ex_move hf rfl) rfl hf rfl rfl fun a hf => ?_
    refine op_val (ex_len_s (l := x_prefix) Try.underlying9 hf rfl) rfl hf rfl rfl fun a hf => ?_
    refine op_val (ex_geq (m := (x_s.length : Int)) (n := (x_prefix.length : Int)) hf rfl rfl) rfl hf rfl rfl fun a hf => ?_
    refine op_val (ex_move hf rfl) rfl hf rfl rfl fun a hf => ?_
    rcases bcase (decide ((x_prefix.length : Int) ≤ (x_s.length : Int))) with hc2 | hc2
    · have hm := it hc2 hm
      refine op_guard rfl hf rfl rfl (hc2) ?_
      refine op_val (ex_move hf rfl) rfl hf rfl rfl fun a hf => ?_
      refine op_guard rfl hf rfl rfl (hc2) ?_
      refine op_val (ex_move hf rfl) rfl hf rfl rfl fun a hf => ?_
      refine op_guard rfl hf rfl rfl (hc2) ?_
      refine op_val (ex_len_s (l := x_prefix) Try.underlying9 hf rfl) rfl hf rfl rfl fun a hf => ?_
      refine op_guard rfl hf rfl rfl (hc2) ?_
      obtain ⟨s3, hs3, hm⟩ := ob hm
      refine op_val (ex_to_s (l := x_s) Try.underlying9 hf rfl rfl hs3) rfl hf rfl rfl fun a hf => ?_
      refine op_guard rfl hf rfl rfl (hc2) ?_
      refine op_val (ex_move hf rfl) rfl hf rfl rfl fun a hf => ?_
      refine op_guard rfl hf rfl rfl (hc2) ?_
      refine op_val (ex_eql_s (l := s3) (m := x_prefix) hf rfl rfl) rfl hf rfl rfl fun a hf => ?_
      refine op_val (ex_pick_t hf rfl hc2 rfl) rfl hf rfl rfl fun a hf => ?_
      refine op_val (ex_assign hf rfl) rfl hf rfl rfl fun a hf => ?_
      refine wpList_nil ?_
      refine nor_then ?_
      exact ⟨s3 == x_prefix, (hf.cons rfl hf.nil), hO, hm⟩
    · have hm := ie hc2 hm
      refine op_pass rfl hf rfl rfl (hc2) rfl rfl fun a hf => ?_
      refine op_pass rfl hf rfl rfl (hc2) rfl rfl fun a hf => ?_
      refine op_pass rfl hf rfl rfl (hc2) rfl rfl fun a hf => ?_
      refine op_pass rfl hf rfl rfl (hc2) rfl rfl fun a hf => ?_
      refine op_pass rfl hf rfl rfl (hc2) rfl rfl fun a hf => ?_
      refine op_pass rfl hf rfl rfl (hc2) rfl rfl fun a hf => ?_
      refine op_val (ex_pick_f hf rfl hc2 rfl) rfl hf rfl rfl fun a hf => ?_
      refine op_val (ex_assign hf rfl) rfl hf rfl rfl fun a hf => ?_
      refine wpList_nil ?_
      refine nor_then ?_
      exact ⟨false, (hf.cons rfl hf.nil), hO, hm⟩
  · rintro a w ⟨t4, hf, hO, hm⟩
    rw [stringslite_HasPrefix_j1] at hm
    refine wp_ret ?_
    obtain rfl := Option.some.inj hm
    exact post_ret Try.results32 hf (.tmp rfl .nil) ⟨rfl, hO.below⟩

set_option maxHeartbeats 1000000 in
theorem w_stringslite_CutPrefix (x_s : Str) (x_prefix : Str) (R : Str × Bool) (w0 : World) (hG : Glob w0) (hm : stringslite_CutPrefix x_s x_prefix = some R) :
    Calls Try.prog 25 #[str x_s, str x_prefix] w0 fun e w' => e = .returned (.tuple #[str R.1, .bool R.2]) ∧ Below w0.heap.size w0 w' := by
  rw [stringslite_CutPrefix] at hm
  refine calls_enter (vs := [str x_s, str x_prefix]) Try.func25 rfl Try.ntmps25 rfl fun a hf => ?_
  have hO : Own w0 [] w0 [] := Own.refl w0
  refine wp_seq_k fun _ hK1 => ?_
  refine wp_region_list ?_
  refine op_val (ex_assign hf rfl) rfl hf rfl rfl fun a hf => ?_
  refine op_val (ex_assign hf rfl) rfl hf rfl rfl fun a hf => ?_
  refine wpList_nil ?_
  refine nor_then (hK1 _ _ ?_)
  refine wp_seq_k fun _ hK6 => ?_
  refine wp_seq_k fun _ hK3 => ?_
  refine wp_region_list ?_
  refine op_val (ex_move hf rfl) rfl hf rfl rfl fun a hf => ?_
  refine op_val (ex_move hf rfl) rfl hf rfl rfl fun a hf => ?_
  obtain ⟨r2, hr2, hm⟩ := ob hm
  refine op_enter (ex_call c_32 hf (vs := [str x_s, str x_prefix]) rfl) rfl hf rfl rfl (w_stringslite_HasPrefix x_s x_prefix r2 _ (hG.own hO) hr2) ?_
  rintro e w' ⟨he, hb⟩
  refine ⟨_, he, fun a hf => ?_⟩
  have hO := hO.grow hb
  refine op_val (ex_not hf rfl) rfl hf rfl rfl fun a hf => ?_
  refine wpList_nil ?_
  refine nor_then (hK3 _ _ ?_)
  refine wp_cond_cut hf rfl (fun hc4 => ?_) (fun hc4 => ?_)
  · have hm := it hc4 hm
    refine wp_seq_k fun _ hK5 => ?_
    refine wp_region_list ?_
    refine op_val (ex_move hf rfl) rfl hf rfl rfl fun a hf => ?_
    refine op_val (ex_assign hf rfl) rfl hf rfl rfl fun a hf => ?_
    refine op_val (ex_assign hf rfl) rfl hf rfl rfl fun a hf => ?_
    refine wpList_nil ?_
    refine nor_then (hK5 _ _ ?_)
    refine wp_ret ?_
    refine ret_then ?_
    obtain rfl := Option.some.inj hm
    exact post_ret Try.results25 hf (.tmp rfl (.tmp rfl .nil)) ⟨rfl, hO.below⟩
  · have hm := ie hc4 hm
    refine wp_skip ?_
    refine nor_then (hK6 _ _ ?_)
    refine wp_seq_k fun _ hK8 => ?_
    refine wp_region_list ?_
    refine op_val (ex_move hf rfl) rfl hf rfl rfl fun a hf => ?_
    refine op_val (ex_move hf rfl) rfl hf rfl rfl fun a hf => ?_
    refine op_val (ex_len_s (l := x_prefix) Try.underlying9 hf rfl) rfl hf rfl rfl fun a hf => ?_
    obtain ⟨s7, hs7, hm⟩ := ob hm
    refine op_val (ex_from_s (l := x_s) Try.underlying9 hf rfl rfl hs7) rfl hf rfl rfl fun a hf => ?_
    refine op_val (ex_assign hf rfl) rfl hf rfl rfl fun a hf => ?_
    refine op_val (ex_assign hf rfl) rfl hf rfl rfl fun a hf => ?_
    refine wpList_nil ?_
    refine nor_then (hK8 _ _ ?_)
    refine wp_ret ?_
    obtain rfl := Option.some.inj hm
    exact post_ret Try.results25 hf (.tmp rfl (.tmp rfl .nil)) ⟨rfl, hO.below⟩

set_option maxHeartbeats 1000000 in
theorem w_strings_CutPrefix (x_s : Str) (x_prefix : Str) (R : Str × Bool) (w0 : World) (hG : Glob w0) (hm : strings_CutPrefix x_s x_prefix = some R) :
    Calls Try.prog 17 #[str x_s, str x_prefix] w0 fun e w' => e = .returned (.tuple #[str R.1, .bool R.2]) ∧ Below w0.heap.size w0 w' := by
  rw [strings_CutPrefix] at hm
  refine calls_enter (vs := [str x_s, str x_prefix]) Try.func17 rfl Try.ntmps17 rfl fun a hf => ?_
  have hO : Own w0 [] w0 [] := Own.refl w0
  refine wp_seq_k fun _ hK1 => ?_
  refine wp_region_list ?_
  refine op_val (ex_assign hf rfl) rfl hf rfl rfl fun a hf => ?_
  refine op_val (ex_assign hf rfl) rfl hf rfl rfl fun a hf => ?_
  refine wpList_nil ?_
  refine nor_then (hK1 _ _ ?_)
  refine wp_seq_k fun _ hK3 => ?_
  refine wp_region_list ?_
  refine op_val (ex_move hf rfl) rfl hf rfl rfl fun a hf => ?_
  refine op_val (ex_move hf rfl) rfl hf rfl rfl fun a hf => ?_
  obtain ⟨r2, hr2, hm⟩ := ob hm
  refine op_enter (ex_call c_25 hf (vs := [str x_s, str x_prefix]) rfl) rfl hf rfl rfl (w_stringslite_CutPrefix x_s x_prefix r2 _ (hG.own hO) hr2) ?_
  rintro e w' ⟨he, hb⟩
  refine ⟨_, he, fun a hf => ?_⟩
  have hO := hO.grow hb
  refine op_val (ex_extract hf rfl rfl) rfl hf rfl rfl fun a hf => ?_
  refine op_val (ex_extract hf rfl rfl) rfl hf rfl rfl fun a hf => ?_
  refine op_val (ex_assign hf rfl) rfl hf rfl rfl fun a hf => ?_
  refine op_val (ex_assign hf rfl) rfl hf rfl rfl fun a hf => ?_
  refine wpList_nil ?_
  refine nor_then (hK3 _ _ ?_)
  refine wp_ret ?_
  obtain rfl := Option.some.inj hm
  exact post_ret Try.results17 hf (.tmp rfl (.tmp rfl .nil)) ⟨rfl, hO.below⟩

set_option maxHeartbeats 1000000 in
theorem w_stringslite_HasSuffix (x_s : Str) (x_suffix : Str) (R : Bool) (w0 : World) (hG : Glob w0) (hm : stringslite_HasSuffix x_s x_suffix = some R) :
    Calls Try.prog 26 #[str x_s, str x_suffix] w0 fun e w' => e = .returned (.bool R) ∧ Below w0.heap.size w0 w' := by
  rw [stringslite_HasSuffix] at hm
  refine calls_enter (vs := [str x_s, str x_suffix]) Try.func26 rfl Try.ntmps26 rfl fun a hf => ?_
  have hO : Own w0 [] w0 [] := Own.refl w0
  refine wp_seq_k fun _ hK1 => ?_
  refine wp_region_list ?_
  refine op_val (ex_assign hf rfl) rfl hf rfl rfl fun a hf => ?_
  refine wpList_nil ?_
  refine nor_then (hK1 _ _ ?_)
  refine wp_seq_cut (fun a w => ∃ (t5 : Bool), Fits 21 [(4, .bool t5)] a ∧ Own w0 [] w [] ∧ stringslite_HasSuffix_j1 t5 = some R) ?_ ?_
  · refine wp_region_list ?_
    refine op_val (ex_move hf rfl) rfl hf rfl rfl fun a hf => ?_
    refine op_val (ex_len_s (l := x_s) Try.underlying9 hf rfl) rfl hf rfl rfl fun a hf => ?_
    refine op_val (ex_move hf rfl) rfl hf rfl rfl fun a hf => ?_
    refine op_val (ex_len_s (l := x_suffix) Try.underlying9 hf rfl) rfl hf rfl rfl fun a hf => ?_
    refine op_val (ex_geq (m := (x_s.length : Int)) (n := (x_suffix.length : Int)) hf rfl rfl) rfl hf rfl rfl fun a hf => ?_
    refine op_val (ex_move hf rfl) rfl hf rfl rfl fun a hf => ?_
    rcases bcase (decide ((x_suffix.length : Int) ≤ (x_s.length : Int))) with hc2 | hc2
    · have hm := it hc2 hm
      refine op_guard rfl hf rfl rfl (hc2) ?_
      refine op_val (ex_move hf rfl) rfl hf rfl rfl fun a hf => ?_
      refine op_guard rfl hf rfl rfl (hc2) ?_
      refine op_val (ex_move hf rfl) rfl hf rfl rfl fun a hf => ?_
      refine op_guard rfl hf rfl rfl (hc2) ?_
      refine op_val (ex_len_s (l := x_s) Try.underlying9 hf rfl) rfl hf rfl rfl fun a hf => ?_
      refine op_guard rfl hf rfl rfl (hc2) ?_
      refine op_val (ex_move hf rfl) rfl hf rfl rfl fun a hf => ?_
      refine op_guard rfl hf rfl rfl (hc2) ?_
      refine op_val (ex_len_s (l := x_suffix) Try.underlying9 hf rfl) rfl hf rfl rfl fun a hf => ?_
      refine op_guard rfl hf rfl rfl (hc2) ?_
      obtain ⟨i3, hi3, hm⟩ := ob hm
      refine op_val (ex_sub hf rfl rfl hi3) rfl hf rfl rfl fun a hf => ?_
      refine op_guard rfl hf rfl rfl (hc2) ?_
      obtain ⟨s4, hs4, hm⟩ := ob hm
      refine op_val (ex_from_s (l := x_s) Try.underlying9 hf rfl rfl hs4) rfl hf rfl rfl fun a hf => ?_
      refine op_guard rfl hf rfl rfl (hc2) ?_
      refine op_val (ex_move hf rfl) rfl hf rfl rfl fun a hf => ?_
      refine op_guard rfl hf rfl rfl (hc2) ?_
      refine op_val (ex_eql_s (l := s4) (m := x_suffix) hf rfl rfl) rfl hf rfl rfl fun a hf => ?_
      refine op_val (ex_pick_t hf rfl hc2 rfl) rfl hf rfl rfl fun a hf => ?_
      refine op_val (ex_assign hf rfl) rfl hf rfl rfl fun a hf => ?_
      refine wpList_nil ?_
      refine nor_then ?_
      exact ⟨s4 == x_suffix, (hf.cons rfl hf.nil), hO, hm⟩
    · have hm := ie hc2 hm
      refine op_pass rfl hf rfl rfl (hc2) rfl rfl fun a hf => ?_
      refine op_pass rfl hf rfl rfl (hc2) rfl rfl fun a hf => ?_
      refine op_pass rfl hf rfl rfl (hc2) rfl rfl fun a hf => ?_
      refine op_pass rfl hf rfl rfl (hc2) rfl rfl fun a hf => ?_
      refine op_pass rfl hf rfl rfl (hc2) rfl rfl fun a hf => ?_
      refine op_pass rfl hf rfl rfl (hc2) rfl rfl fun a hf => ?_
      refine op_pass rfl hf rfl rfl (hc2) rfl rfl fun a hf => ?_
      refine op_pass rfl hf rfl rfl (hc2) rfl rfl fun a hf => ?_
      refine op_pass rfl hf rfl rfl (hc2) rfl rfl fun a hf => ?_
      refine op_val (ex_pick_f hf rfl hc2 rfl) rfl hf rfl rfl fun a hf => ?_
      refine op_val (ex_assign hf rfl) rfl hf rfl rfl fun a hf => ?_
      refine wpList_nil ?_
      refine nor_then ?_
      exact ⟨false, (hf.cons rfl hf.nil), hO, hm⟩
  · rintro a w ⟨t5, hf, hO, hm⟩
    rw [stringslite_HasSuffix_j1] at hm
    refine wp_ret ?_
    obtain rfl := Option.some.inj hm
    exact post_ret Try.results26 hf (.tmp rfl .nil) ⟨rfl, hO.below⟩

set_option maxHeartbeats 1000000 in
theorem w_strings_HasSuffix (x_s : Str) (x_suffix : Str) (R : Bool) (w0 : World) (hG : Glob w0) (hm : strings_HasSuffix x_s x_suffix = some R) :
    Calls Try.prog 18 #[str x_s, str x_suffix] w0 fun e w' => e = .returned (.bool R) ∧ Below w0.heap.size w0 w' := by
  rw [strings_HasSuffix] at hm
  refine calls_enter (vs := [str x_s, str x_suffix]) Try.func18 rfl Try.ntmps18 rfl fun a hf => ?_
  have hO : Own w0 [] w0 [] := Own.refl w0
  refine wp_seq_k fun _ hK1 => ?_
  refine wp_region_list ?_
  refine op_val (ex_assign hf rfl) rfl hf rfl rfl fun a hf => ?_
  refine wpList_nil ?_
  refine nor_then (hK1 _ _ ?_)
  refine wp_seq_k fun _ hK3 => ?_
  refine wp_region_list ?_
  refine op_val (ex_move hf rfl) rfl hf rfl rfl fun a hf => ?_
  refine op_val (ex_move hf rfl) rfl hf rfl rfl fun a hf => ?_
  obtain ⟨r2, hr2, hm⟩ := ob hm
  refine op_enter (ex_call c_26 hf (vs := [str x_s, str x_suffix]) rfl) rfl hf rfl rfl (w_stringslite_HasSuffix x_s x_suffix r2 _ (hG.own hO) hr2) ?_
  rintro e w' ⟨he, hb⟩
  refine ⟨_, he, fun a hf => ?_⟩
  have hO := hO.grow hb
  refine op_val (ex_assign hf rfl) rfl hf rfl rfl fun a hf => ?_
  refine wpList_nil ?_
  refine nor_then (hK3 _ _ ?_)
  refine wp_ret ?_
  obtain rfl := Option.some.inj hm
  exact post_ret Try.results18 hf (.tmp rfl .nil) ⟨rfl, hO.below⟩

set_option maxHeartbeats 1000000 in
theorem w_uriref_Swap (x_s : Str) (x_l : List api_Swap) (R : Str × Bool) (w0 : World) (hG : Glob w0) {x_l_p0 : Option Addr} {x_l_c0 : Nat} (hs0 : Sees w0 x_l_p0 (cells enc_api_Swap x_l)) (hm : uriref_Swap x_s x_l = some R) :
    Calls Try.prog 11 #[str x_s, .slice x_l_p0 x_l.length x_l_c0] w0 fun e w' => e = .returned (.tuple #[str R.1, .bool R.2]) ∧ Below w0.heap.size w0 w' := by
  rw [uriref_Swap] at hm
  refine calls_enter (vs := [str x_s, .slice x_l_p0 x_l.length x_l_c0]) Try.func11 rfl Try.ntmps11 rfl fun a hf => ?_
  have hO : Own w0 [] w0 [] := Own.refl w0
  have hO := hO.addShr hs0 (by simp [Res.shared])
  refine wp_seq_k fun _ hK1 => ?_
  refine wp_region_list ?_
  refine op_val (ex_assign hf rfl) rfl hf rfl rfl fun a hf => ?_
  refine op_val (ex_assign hf rfl) rfl hf rfl rfl fun a hf => ?_
  refine wpList_nil ?_
  refine nor_then (hK1 _ _ ?_)
  refine wp_seq_k fun _ hK28 => ?_
  refine wp_seq_k fun _ hK2 => ?_
  refine wp_region_list ?_
  refine op_val (ex_move hf rfl) rfl hf rfl rfl fun a hf => ?_
  refine op_val (ex_len_l Try.underlying22 hf rfl) rfl hf rfl rfl fun a hf => ?_
  refine op_val (ex_move hf rfl) rfl hf rfl rfl fun a hf => ?_
  refine wpList_nil ?_
  refine nor_then (hK2 _ _ ?_)
  refine wp_block ?_
  refine wp_loop_n (fun k a w => ∃ (i3 : Int), Fits 49 [(0, str x_s), (10, .slice x_l_p0 x_l.length x_l_c0), (11, int (x_l.length : Int)), (12, int i3)] a ∧ Own w0 [] w [.shr x_l_p0 (cells enc_api_Swap x_l)] ∧ uriref_Swap_L1 x_s x_l k i3 = some R) ?_ fuel ?_
  · rintro n1 a w ⟨i3, hf, hO, hm⟩
    obtain _ | n1 := n1
    · rw [uriref_Swap_L1] at hm
      cases hm
    · rw [uriref_Swap_L1] at hm
      refine wp_seq_k fun _ hK4 => ?_
      refine wp_region_list ?_
      refine op_val (ex_lss (m := i3) (n := (x_l.length : Int)) hf rfl rfl) rfl hf rfl rfl fun a hf => ?_
      refine wpList_nil ?_
      refine nor_then (hK4 _ _ ?_)
      refine wp_seq_k fun _ hK6 => ?_
      refine wp_cond_cut hf rfl (fun hc5 => ?_) (fun hc5 => ?_)
      · have hm := it hc5 hm
        refine wp_skip ?_
        refine nor_then (hK6 _ _ ?_)
        refine wp_seq_cut (fun a w => Fits 49 [(0, str x_s), (10, .slice x_l_p0 x_l.length x_l_c0), (11, int (x_l.length : Int)), (12, int i3)] a ∧ Own w0 [] w [.shr x_l_p0 (cells enc_api_Swap x_l)] ∧ uriref_Swap_j4 (uriref_Swap_L1 x_s x_l n1) i3 = some R) ?_ ?_
        · refine wp_block ?_
          refine wp_seq_k fun _ hK11 => ?_
          refine wp_region_list ?_
          obtain ⟨x7, hx7, hm⟩ := ob hm
          obtain ⟨b8, o9, hix7, hSx7⟩ := elemAt (enc := enc_api_Swap) (sz := 2) (xs := x_l) 22 Try.underlying22 sz_36 (by decide) (fun _ => rfl) (hO.sees (i := 0) rfl) hx7
          refine op_val (ex_indexAddr hix7 hf rfl rfl) rfl hf rfl rfl fun a hf => ?_
          refine op_val (ex_loadN (o := 0) (vs := [str x7.From, str x7.To]) ag_36 sz_36 (hSx7 _ (hO.sees (i := 0) rfl)) rfl rfl hf rfl) rfl hf rfl rfl fun a hf => ?_
          refine op_alloc al_36 hf rfl hO fun a b10 w hf hO => ?_
          refine op_storeN (i := 0) (n := 2) sz_36 rfl rfl rfl (by simp [Value.oneCell']) hf rfl rfl hO fun w hO => ?_
          refine wpList_nil ?_
          refine nor_then (hK11 _ _ ?_)
          refine wp_seq_k fun _ hK13 => ?_
          refine wp_region_list ?_
          refine op_val (ex_move hf rfl) rfl hf rfl rfl fun a hf => ?_
          refine op_val (ex_field fa_36_0 hf rfl) rfl hf rfl rfl fun a hf => ?_
          refine op_val (ex_load1 (o := 0) ag_9 (hO.blkSees (i := 0) rfl) rfl hf rfl) rfl hf rfl rfl fun a hf => ?_
          obtain ⟨r12, hr12, hm⟩ := ob hm
          refine op_enter (ex_call c_17 hf (vs := [str x_s, str x7.From]) rfl) rfl hf rfl rfl (w_strings_CutPrefix x_s x7.From r12 _ (hG.own hO) hr12) ?_
          rintro e w' ⟨he, hb⟩
          refine ⟨_, he, fun a hf => ?_⟩
          have hO := hO.grow hb
          refine op_val (ex_move hf rfl) rfl hf rfl rfl fun a hf => ?_
          refine op_val (ex_extract hf rfl rfl) rfl hf rfl rfl fun a hf => ?_
          refine op_val (ex_extract hf rfl rfl) rfl hf rfl rfl fun a hf => ?_
          refine op_val (ex_assign hf rfl) rfl hf rfl rfl fun a hf => ?_
          refine op_val (ex_assign hf rfl) rfl hf rfl rfl fun a hf => ?_
          refine wpList_nil ?_
          refine nor_then (hK13 _ _ ?_)
          refine wp_seq_k fun _ hK17 => ?_
          refine wp_seq_cut (fun a w => ∃ (t15 : Bool), Fits 49 [(0, str x_s), (7, ptr b10 0), (8, str r12.1), (10, .slice x_l_p0 x_l.length x_l_c0), (11, int (x_l.length : Int)), (12, int i3), (29, .bool t15)] a ∧ Own w0 [] w [.blk b10 [str x7.From, str x7.To] 36, .shr x_l_p0 (cells enc_api_Swap x_l)] ∧ uriref_Swap_j2 (uriref_Swap_L1 x_s x_l n1) i3 x7 r12 t15 = some R) ?_ ?_
          · refine wp_region_list ?_
            refine op_val (ex_move hf rfl) rfl hf rfl rfl fun a hf => ?_
            refine op_val (ex_not hf rfl) rfl hf rfl rfl fun a hf => ?_
            refine op_val (ex_move hf rfl) rfl hf rfl rfl fun a hf => ?_
            rcases bcase (!r12.2) with hc14 | hc14
            · have hm := it hc14 hm
              refine op_pass rfl hf rfl rfl (hc14) rfl rfl fun a hf => ?_
              refine op_pass rfl hf rfl rfl (hc14) rfl rfl fun a hf => ?_
              refine op_pass rfl hf rfl rfl (hc14) rfl rfl fun a hf => ?_
              refine op_val (ex_pick_t hf rfl hc14 rfl) rfl hf rfl rfl fun a hf => ?_
              refine wpList_nil ?_
              refine nor_then ?_
              exact ⟨true, (hf.cons rfl (hf.cons rfl (hf.cons rfl (hf.cons rfl (hf.cons rfl (hf.cons rfl (hf.cons rfl hf.nil))))))), hO, hm⟩
            · have hm := ie hc14 hm
              refine op_guard rfl hf rfl rfl (hc14) ?_
              refine op_val (ex_field fa_36_0 hf rfl) rfl hf rfl rfl fun a hf => ?_
              refine op_guard rfl hf rfl rfl (hc14) ?_
              refine op_val (ex_load1 (o := 0) ag_9 (hO.blkSees (i := 0) rfl) rfl hf rfl) rfl hf rfl rfl fun a hf => ?_
              refine op_guard rfl hf rfl rfl (hc14) ?_
              refine op_val (ex_eql_s (l := x7.From) (m := []) hf rfl rfl) rfl hf rfl rfl fun a hf => ?_
              refine op_val (ex_pick_f hf rfl hc14 rfl) rfl hf rfl rfl fun a hf => ?_
              refine wpList_nil ?_
              refine nor_then ?_
              exact ⟨x7.From == [], (hf.cons rfl (hf.cons rfl (hf.cons rfl (hf.cons rfl (hf.cons rfl (hf.cons rfl (hf.cons rfl hf.nil))))))), hO, hm⟩
          · rintro a w ⟨t15, hf, hO, hm⟩
            rw [uriref_Swap_j2] at hm
            refine wp_cond_cut hf rfl (fun hc16 => ?_) (fun hc16 => ?_)
            · have hm := it hc16 hm
              refine wp_exit ?_
              refine exit_then ?_
              refine exit_here ?_
              refine nor_then ?_
              exact ⟨(hf.cons rfl (hf.cons rfl (hf.cons rfl (hf.cons rfl hf.nil)))), (hO.sub (.cons _ (.cons_cons _ .slnil))), hm⟩
            · have hm := ie hc16 hm
              refine wp_skip ?_
              refine nor_then (hK17 _ _ ?_)
              refine wp_seq_cut (fun a w => ∃ (t23 : Bool), Fits 49 [(0, str x_s), (7, ptr b10 0), (8, str r12.1), (10, .slice x_l_p0 x_l.length x_l_c0), (11, int (x_l.length : Int)), (12, int i3), (42, .bool t23)] a ∧ Own w0 [] w [.blk b10 [str x7.From, str x7.To] 36, .shr x_l_p0 (cells enc_api_Swap x_l)] ∧ uriref_Swap_j3 (uriref_Swap_L1 x_s x_l n1) i3 x7 r12 t23 = some R) ?_ ?_
              · refine wp_region_list ?_
                refine op_val (ex_move hf rfl) rfl hf rfl rfl fun a hf => ?_
                refine op_val (ex_eql_s (l := r12.1) (m := []) hf rfl rfl) rfl hf rfl rfl fun a hf => ?_
                refine op_val (ex_move hf rfl) rfl hf rfl rfl fun a hf => ?_
                rcases bcase (r12.1 == []) with hc18 | hc18
                · have hm := it hc18 hm
                  refine op_pass rfl hf rfl rfl (hc18) rfl rfl fun a hf => ?_
                  refine op_pass rfl hf rfl rfl (hc18) rfl rfl fun a hf => ?_
                  refine op_pass rfl hf rfl rfl (hc18) rfl rfl fun a hf => ?_
                  refine op_val (ex_pick_t hf rfl hc18 rfl) rfl hf rfl rfl fun a hf => ?_
                  refine op_val (ex_move hf rfl) rfl hf rfl rfl fun a hf => ?_
                  refine op_pass rfl hf rfl rfl (rfl) rfl rfl fun a hf => ?_
                  refine op_pass rfl hf rfl rfl (rfl) rfl rfl fun a hf => ?_
                  refine op_pass rfl hf rfl rfl (rfl) rfl rfl fun a hf => ?_
                  refine op_pass rfl hf rfl rfl (rfl) rfl rfl fun a hf => ?_
                  refine op_val (ex_pick_t hf rfl rfl rfl) rfl hf rfl rfl fun a hf => ?_
                  refine wpList_nil ?_
                  refine nor_then ?_
                  exact ⟨true, (hf.cons rfl (hf.cons rfl (hf.cons rfl (hf.cons rfl (hf.cons rfl (hf.cons rfl (hf.cons rfl hf.nil))))))), hO, hm⟩
                · have hm := ie hc18 hm
                  refine op_guard rfl hf rfl rfl (hc18) ?_
                  refine op_val (ex_field fa_36_0 hf rfl) rfl hf rfl rfl fun a hf => ?_
                  refine op_guard rfl hf rfl rfl (hc18) ?_
                  refine op_val (ex_load1 (o := 0) ag_9 (hO.blkSees (i := 0) rfl) rfl hf rfl) rfl hf rfl rfl fun a hf => ?_
                  refine op_guard rfl hf rfl rfl (hc18) ?_
                  obtain ⟨r19, hr19, hm⟩ := ob hm
                  refine op_enter (ex_call c_18 hf (vs := [str x7.From, str [47]]) rfl) rfl hf rfl rfl (w_strings_HasSuffix x7.From [47] r19 _ (hG.own hO) hr19) ?_
                  rintro e w' ⟨he, hb⟩
                  refine ⟨_, he, fun a hf => ?_⟩
                  have hO := hO.grow hb
                  refine op_val (ex_pick_f hf rfl hc18 rfl) rfl hf rfl rfl fun a hf => ?_
                  refine op_val (ex_move hf rfl) rfl hf rfl rfl fun a hf => ?_
                  rcases bcase (r19) with hc20 | hc20
                  · have hm := it hc20 hm
                    refine op_pass rfl hf rfl rfl (hc20) rfl rfl fun a hf => ?_
                    refine op_pass rfl hf rfl rfl (hc20) rfl rfl fun a hf => ?_
                    refine op_pass rfl hf rfl rfl (hc20) rfl rfl fun a hf => ?_
                    refine op_pass rfl hf rfl rfl (hc20) rfl rfl fun a hf => ?_
                    refine op_val (ex_pick_t hf rfl hc20 rfl) rfl hf rfl rfl fun a hf => ?_
                    refine wpList_nil ?_
                    refine nor_then ?_
                    exact ⟨true, (hf.cons rfl (hf.cons rfl (hf.cons rfl (hf.cons rfl (hf.cons rfl (hf.cons rfl (hf.cons rfl hf.nil))))))), hO, hm⟩
                  · have hm := ie hc20 hm
                    refine op_guard rfl hf rfl rfl (hc20) ?_
                    refine op_val (ex_move hf rfl) rfl hf rfl rfl fun a hf => ?_
                    refine op_guard rfl hf rfl rfl (hc20) ?_
                    obtain ⟨b21, hb21, hm⟩ := ob hm
                    refine op_val (ex_index (l := r12.1) Try.underlying9 hf rfl rfl hb21) rfl hf rfl rfl fun a hf => ?_
                    refine op_guard rfl hf rfl rfl (hc20) ?_
                    obtain ⟨r22, hr22, hm⟩ := ob hm
                    refine op_enter (ex_call c_19 hf (vs := [str [47, 63, 35], byte b21]) rfl) rfl hf rfl rfl (w_strings_IndexByte [47, 63, 35] b21 r22 _ (hG.own hO) hr22) ?_
                    rintro e w' ⟨he, hb⟩
                    refine ⟨_, he, fun a hf => ?_⟩
                    have hO := hO.grow hb
                    refine op_guard rfl hf rfl rfl (hc20) ?_
                    refine op_val (ex_geq (m := r22) (n := 0) hf rfl rfl) rfl hf rfl rfl fun a hf => ?_
                    refine op_val (ex_pick_f hf rfl hc20 rfl) rfl hf rfl rfl fun a hf => ?_
                    refine wpList_nil ?_
                    refine nor_then ?_
                    exact ⟨decide (0 ≤ r22), (hf.cons rfl (hf.cons rfl (hf.cons rfl (hf.cons rfl (hf.cons rfl (hf.cons rfl (hf.cons rfl hf.nil))))))), hO, hm⟩
              · rintro a w ⟨t23, hf, hO, hm⟩
                rw [uriref_Swap_j3] at hm
                refine wp_cond_cut hf rfl (fun hc24 => ?_) (fun hc24 => ?_)
                · have hm := it hc24 hm
                  refine wp_seq_k fun _ hK26 => ?_
                  refine wp_region_list ?_
                  refine op_val (ex_field fa_36_1 hf rfl) rfl hf rfl rfl fun a hf => ?_
                  refine op_val (ex_load1 (o := 1) ag_9 (hO.blkSees (i := 0) rfl) rfl hf rfl) rfl hf rfl rfl fun a hf => ?_
                  refine op_val (ex_move hf rfl) rfl hf rfl rfl fun a hf => ?_
                  obtain ⟨s25, hs25, hm⟩ := ob hm
                  refine op_val (ex_cat (l := x7.To) (m := r12.1) hf rfl rfl hs25) rfl hf rfl rfl fun a hf => ?_
                  refine op_val (ex_assign hf rfl) rfl hf rfl rfl fun a hf => ?_
                  refine op_val (ex_assign hf rfl) rfl hf rfl rfl fun a hf => ?_
                  refine wpList_nil ?_
                  refine nor_then (hK26 _ _ ?_)
                  refine wp_ret ?_
                  refine ret_block ?_
                  refine ret_then ?_
                  refine ret_then ?_
                  refine ret_block ?_
                  refine ret_then ?_
                  obtain rfl := Option.some.inj hm
                  exact post_ret Try.results11 hf (.tmp rfl (.tmp rfl .nil)) ⟨rfl, hO.below⟩
                · have hm := ie hc24 hm
                  refine wp_skip ?_
                  refine nor_block ?_
                  refine nor_then ?_
                  exact ⟨(hf.cons rfl (hf.cons rfl (hf.cons rfl (hf.cons rfl hf.nil)))), (hO.sub (.cons _ (.cons_cons _ .slnil))), hm⟩
        · rintro a w ⟨hf, hO, hm⟩
          rw [uriref_Swap_j4] at hm
          refine wp_region_list ?_
          obtain ⟨i27, hi27, hm⟩ := ob hm
          refine op_val (ex_add hf rfl rfl hi27) rfl hf rfl rfl fun a hf => ?_
          refine op_val (ex_move hf rfl) rfl hf rfl rfl fun a hf => ?_
          refine wpList_nil ?_
          refine nor_then ?_
          exact ⟨_, Nat.lt_succ_self _, i27, (hf.cons rfl (hf.cons rfl (hf.cons rfl (hf.cons rfl hf.nil)))), hO, hm⟩
      · have hm := ie hc5 hm
        refine wp_exit ?_
        refine exit_then ?_
        refine exit_then ?_
        refine exit_here ?_
        refine nor_then (hK28 _ _ ?_)
        refine wp_seq_k fun _ hK29 => ?_
        refine wp_region_list ?_
        refine op_val (ex_move hf rfl) rfl hf rfl rfl fun a hf => ?_
        refine op_val (ex_assign hf rfl) rfl hf rfl rfl fun a hf => ?_
        refine op_val (ex_assign hf rfl) rfl hf rfl rfl fun a hf => ?_
        refine wpList_nil ?_
        refine nor_then (hK29 _ _ ?_)
        refine wp_ret ?_
        obtain rfl := Option.some.inj hm
        exact post_ret Try.results11 hf (.tmp rfl (.tmp rfl .nil)) ⟨rfl, hO.below⟩
  · exact ⟨0, (hf.cons rfl (hf.cons rfl (hf.cons rfl (hf.cons rfl hf.nil)))), hO, hm⟩

set_option maxHeartbeats 1000000 in
theorem w_octet_Lower (x_b : UInt8) (R : UInt8) (w0 : World) (hG : Glob w0) (hm : octet_Lower x_b = some R) :
    Calls Try.prog 49 #[byte x_b] w0 fun e w' => e = .returned (byte R) ∧ Below w0.heap.size w0 w' := by
  rw [octet_Lower] at hm
  refine calls_enter (vs := [byte x_b]) Try.func49 rfl Try.ntmps49 rfl fun a hf => ?_
  have hO : Own w0 [] w0 [] := Own.refl w0
  refine wp_seq_k fun _ hK1 => ?_
  refine wp_region_list ?_
  refine op_val (ex_assign hf rfl) rfl hf rfl rfl fun a hf => ?_
  refine wpList_nil ?_
  refine nor_then (hK1 _ _ ?_)
  refine wp_seq_k fun _ hK6 => ?_
  refine wp_seq_cut (fun a w => ∃ (t3 : Bool), Fits 12 [(0, byte x_b), (8, .bool t3)] a ∧ Own w0 [] w [] ∧ octet_Lower_j1 x_b t3 = some R) ?_ ?_
  · refine wp_region_list ?_
    refine op_val (ex_move hf rfl) rfl hf rfl rfl fun a hf => ?_
    refine op_val (ex_geq_b (b := x_b) (c := 65) hf rfl rfl) rfl hf rfl rfl fun a hf => ?_
    refine op_val (ex_move hf rfl) rfl hf rfl rfl fun a hf => ?_
    rcases bcase (decide (65 ≤ x_b)) with hc2 | hc2
    · have hm := it hc2 hm
      refine op_guard rfl hf rfl rfl (hc2) ?_
      refine op_val (ex_move hf rfl) rfl hf rfl rfl fun a hf => ?_
      refine op_guard rfl hf rfl rfl (hc2) ?_
      refine op_val (ex_leq_b (b := x_b) (c := 90) hf rfl rfl) rfl hf rfl rfl fun a hf => ?_
      refine op_val (ex_pick_t hf rfl hc2 rfl) rfl hf rfl rfl fun a hf => ?_
      refine wpList_nil ?_
      refine nor_then ?_
      exact ⟨decide (x_b ≤ 90), (hf.cons rfl (hf.cons rfl hf.nil)), hO, hm⟩
    · have hm := ie hc2 hm
      refine op_pass rfl hf rfl rfl (hc2) rfl rfl fun a hf => ?_
      refine op_pass rfl hf rfl rfl (hc2) rfl rfl fun a hf => ?_
      refine op_val (ex_pick_f hf rfl hc2 rfl) rfl hf rfl rfl fun a hf => ?_
      refine wpList_nil ?_
      refine nor_then ?_
      exact ⟨false, (hf.cons rfl (hf.cons rfl hf.nil)), hO, hm⟩
  · rintro a w ⟨t3, hf, hO, hm⟩
    rw [octet_Lower_j1] at hm
    refine wp_cond_cut hf rfl (fun hc4 => ?_) (fun hc4 => ?_)
    · have hm := it hc4 hm
      refine wp_seq_k fun _ hK5 => ?_
      refine wp_region_list ?_
      refine op_val (ex_move hf rfl) rfl hf rfl rfl fun a hf => ?_
      refine op_val (ex_add_b (b := x_b) (c := 32) hf rfl rfl) rfl hf rfl rfl fun a hf => ?_
      refine op_val (ex_assign hf rfl) rfl hf rfl rfl fun a hf => ?_
      refine wpList_nil ?_
      refine nor_then (hK5 _ _ ?_)
      refine wp_ret ?_
      refine ret_then ?_
      obtain rfl := Option.some.inj hm
      exact post_ret Try.results49 hf (.tmp rfl .nil) ⟨rfl, hO.below⟩
    · have hm := ie hc4 hm
      refine wp_skip ?_
      refine nor_then (hK6 _ _ ?_)
      refine wp_seq_k fun _ hK7 => ?_
      refine wp_region_list ?_
      refine op_val (ex_move hf rfl) rfl hf rfl rfl fun a hf => ?_
      refine op_val (ex_assign hf rfl) rfl hf rfl rfl fun a hf => ?_
      refine wpList_nil ?_
      refine nor_then (hK7 _ _ ?_)
      refine wp_ret ?_
      obtain rfl := Option.some.inj hm
      exact post_ret Try.results49 hf (.tmp rfl .nil) ⟨rfl, hO.below⟩

set_option maxHeartbeats 1000000 in
theorem w_octet_IsAlpha (x_b : UInt8) (R : Bool) (w0 : World) (hG : Glob w0) (hm : octet_IsAlpha x_b = some R) :
    Calls Try.prog 42 #[byte x_b] w0 fun e w' => e = .returned (.bool R) ∧ Below w0.heap.size w0 w' := by
  rw [octet_IsAlpha] at hm
  refine calls_enter (vs := [byte x_b]) Try.func42 rfl Try.ntmps42 rfl fun a hf => ?_
  have hO : Own w0 [] w0 [] := Own.refl w0
  refine wp_seq_k fun _ hK1 => ?_
  refine wp_region_list ?_
  refine op_val (ex_assign hf rfl) rfl hf rfl rfl fun a hf => ?_
  refine wpList_nil ?_
  refine nor_then (hK1 _ _ ?_)
  refine wp_seq_cut (fun a w => ∃ (t5 : Bool), Fits 11 [(2, .bool t5)] a ∧ Own w0 [] w [] ∧ octet_IsAlpha_j1 t5 = some R) ?_ ?_
  · refine wp_region_list ?_
    refine op_val (ex_move hf rfl) rfl hf rfl rfl fun a hf => ?_
    obtain ⟨r2, hr2, hm⟩ := ob hm
    refine op_enter (ex_call c_49 hf (vs := [byte x_b]) rfl) rfl hf rfl rfl (w_octet_Lower x_b r2 _ (hG.own hO) hr2) ?_
    rintro e w' ⟨he, hb⟩
    refine ⟨_, he, fun a hf => ?_⟩
    have hO := hO.grow hb
    refine op_val (ex_geq_b (b := r2) (c := 97) hf rfl rfl) rfl hf rfl rfl fun a hf => ?_
    refine op_val (ex_move hf rfl) rfl hf rfl rfl fun a hf => ?_
    rcases bcase (decide (97 ≤ r2)) with hc3 | hc3
    · have hm := it hc3 hm
      refine op_guard rfl hf rfl rfl (hc3) ?_
      refine op_val (ex_move hf rfl) rfl hf rfl rfl fun a hf => ?_
      refine op_guard rfl hf rfl rfl (hc3) ?_
      obtain ⟨r4, hr4, hm⟩ := ob hm
      refine op_enter (ex_call c_49 hf (vs := [byte x_b]) rfl) rfl hf rfl rfl (w_octet_Lower x_b r4 _ (hG.own hO) hr4) ?_
      rintro e w' ⟨he, hb⟩
      refine ⟨_, he, fun a hf => ?_⟩
      have hO := hO.grow hb
      refine op_guard rfl hf rfl rfl (hc3) ?_
      refine op_val (ex_leq_b (b := r4) (c := 122) hf rfl rfl) rfl hf rfl rfl fun a hf => ?_
      refine op_val (ex_pick_t hf rfl hc3 rfl) rfl hf rfl rfl fun a hf => ?_
      refine op_val (ex_assign hf rfl) rfl hf rfl rfl fun a hf => ?_
      refine wpList_nil ?_
      refine nor_then ?_
      exact ⟨decide (r4 ≤ 122), (hf.cons rfl hf.nil), hO, hm⟩
    · have hm := ie hc3 hm
      refine op_pass rfl hf rfl rfl (hc3) rfl rfl fun a hf => ?_
      refine op_pass rfl hf rfl rfl (hc3) rfl rfl fun a hf => ?_
      refine op_pass rfl hf rfl rfl (hc3) rfl rfl fun a hf => ?_
      refine op_val (ex_pick_f hf rfl hc3 rfl) rfl hf rfl rfl fun a hf => ?_
      refine op_val (ex_assign hf rfl) rfl hf rfl rfl fun a hf => ?_
      refine wpList_nil ?_
      refine nor_then ?_
      exact ⟨false, (hf.cons rfl hf.nil), hO, hm⟩
  · rintro a w ⟨t5, hf, hO, hm⟩
    rw [octet_IsAlpha_j1] at hm
    refine wp_ret ?_
    obtain rfl := Option.some.inj hm
    exact post_ret Try.results42 hf (.tmp rfl .nil) ⟨rfl, hO.below⟩

set_option maxHeartbeats 1000000 in
theorem w_octet_IsDigit (x_b : UInt8) (R : Bool) (w0 : World) (hG : Glob w0) (hm : octet_IsDigit x_b = some R) :
    Calls Try.prog 43 #[byte x_b] w0 fun e w' => e = .returned (.bool R) ∧ Below w0.heap.size w0 w' := by
  rw [octet_IsDigit] at hm
  refine calls_enter (vs := [byte x_b]) Try.func43 rfl Try.ntmps43 rfl fun a hf => ?_
  have hO : Own w0 [] w0 [] := Own.refl w0
  refine wp_seq_k fun _ hK1 => ?_
  refine wp_region_list ?_
  refine op_val (ex_assign hf rfl) rfl hf rfl rfl fun a hf => ?_
  refine wpList_nil ?_
  refine nor_then (hK1 _ _ ?_)
  refine wp_seq_cut (fun a w => ∃ (t3 : Bool), Fits 9 [(2, .bool t3)] a ∧ Own w0 [] w [] ∧ octet_IsDigit_j1 t3 = some R) ?_ ?_
  · refine wp_region_list ?_
    refine op_val (ex_move hf rfl) rfl hf rfl rfl fun a hf => ?_
    refine op_val (ex_geq_b (b := x_b) (c := 48) hf rfl rfl) rfl hf rfl rfl fun a hf => ?_
    refine op_val (ex_move hf rfl) rfl hf rfl rfl fun a hf => ?_
    rcases bcase (decide (48 ≤ x_b)) with hc2 | hc2
    · have hm := it hc2 hm
      refine op_guard rfl hf rfl rfl (hc2) ?_
      refine op_val (ex_move hf rfl) rfl hf rfl rfl fun a hf => ?_
      refine op_guard rfl hf rfl rfl (hc2) ?_
      refine op_val (ex_leq_b (b := x_b) (c := 57) hf rfl rfl) rfl hf rfl rfl fun a hf => ?_
      refine op_val (ex_pick_t hf rfl hc2 rfl) rfl hf rfl rfl fun a hf => ?_
      refine op_val (ex_assign hf rfl) rfl hf rfl rfl fun a hf => ?_
      refine wpList_nil ?_
      refine nor_then ?_
      exact ⟨decide (x_b ≤ 57), (hf.cons rfl hf.nil), hO, hm⟩
    · have hm := ie hc2 hm
      refine op_pass rfl hf rfl rfl (hc2) rfl rfl fun a hf => ?_
      refine op_pass rfl hf rfl rfl (hc2) rfl rfl fun a hf => ?_
      refine op_val (ex_pick_f hf rfl hc2 rfl) rfl hf rfl rfl fun a hf => ?_
      refine op_val (ex_assign hf rfl) rfl hf rfl rfl fun a hf => ?_
      refine wpList_nil ?_
      refine nor_then ?_
      exact ⟨false, (hf.cons rfl hf.nil), hO, hm⟩
  · rintro a w ⟨t3, hf, hO, hm⟩
    rw [octet_IsDigit_j1] at hm
    refine wp_ret ?_
    obtain rfl := Option.some.inj hm
    exact post_ret Try.results43 hf (.tmp rfl .nil) ⟨rfl, hO.below⟩

set_option maxHeartbeats 1000000 in
theorem w_uriref_scheme_1 (x_b : UInt8) (R : Bool) (w0 : World) (hG : Glob w0) (hm : uriref_scheme_1 x_b = some R) :
    Calls Try.prog 41 #[byte x_b] w0 fun e w' => e = .returned (.bool R) ∧ Below w0.heap.size w0 w' := by
  rw [uriref_scheme_1] at hm
  refine calls_enter (vs := [byte x_b]) Try.func41 rfl Try.ntmps41 rfl fun a hf => ?_
  have hO : Own w0 [] w0 [] := Own.refl w0
  refine wp_seq_k fun _ hK1 => ?_
  refine wp_region_list ?_
  refine op_val (ex_assign hf rfl) rfl hf rfl rfl fun a hf => ?_
  refine wpList_nil ?_
  refine nor_then (hK1 _ _ ?_)
  refine wp_seq_cut (fun a w => ∃ (t8 : Bool), Fits 21 [(2, .bool t8)] a ∧ Own w0 [] w [] ∧ uriref_scheme_1_j1 t8 = some R) ?_ ?_
  · refine wp_region_list ?_
    refine op_val (ex_move hf rfl) rfl hf rfl rfl fun a hf => ?_
    obtain ⟨r2, hr2, hm⟩ := ob hm
    refine op_enter (ex_call c_42 hf (vs := [byte x_b]) rfl) rfl hf rfl rfl (w_octet_IsAlpha x_b r2 _ (hG.own hO) hr2) ?_
    rintro e w' ⟨he, hb⟩
    refine ⟨_, he, fun a hf => ?_⟩
    have hO := hO.grow hb
    refine op_val (ex_move hf rfl) rfl hf rfl rfl fun a hf => ?_
    rcases bcase (r2) with hc3 | hc3
    · have hm := it hc3 hm
      refine op_pass rfl hf rfl rfl (hc3) rfl rfl fun a hf => ?_
      refine op_pass rfl hf rfl rfl (hc3) rfl rfl fun a hf => ?_
      refine op_val (ex_pick_t hf rfl hc3 rfl) rfl hf rfl rfl fun a hf => ?_
      refine op_val (ex_move hf rfl) rfl hf rfl rfl fun a hf => ?_
      refine op_pass rfl hf rfl rfl (rfl) rfl rfl fun a hf => ?_
      refine op_pass rfl hf rfl rfl (rfl) rfl rfl fun a hf => ?_
      refine op_val (ex_pick_t hf rfl rfl rfl) rfl hf rfl rfl fun a hf => ?_
      refine op_val (ex_move hf rfl) rfl hf rfl rfl fun a hf => ?_
      refine op_pass rfl hf rfl rfl (rfl) rfl rfl fun a hf => ?_
      refine op_pass rfl hf rfl rfl (rfl) rfl rfl fun a hf => ?_
      refine op_val (ex_pick_t hf rfl rfl rfl) rfl hf rfl rfl fun a hf => ?_
      refine op_val (ex_move hf rfl) rfl hf rfl rfl fun a hf => ?_
      refine op_pass rfl hf rfl rfl (rfl) rfl rfl fun a hf => ?_
      refine op_pass rfl hf rfl rfl (rfl) rfl rfl fun a hf => ?_
      refine op_val (ex_pick_t hf rfl rfl rfl) rfl hf rfl rfl fun a hf => ?_
      refine op_val (ex_assign hf rfl) rfl hf rfl rfl fun a hf => ?_
      refine wpList_nil ?_
      refine nor_then ?_
      exact ⟨true, (hf.cons rfl hf.nil), hO, hm⟩
    · have hm := ie hc3 hm
      refine op_guard rfl hf rfl rfl (hc3) ?_
      refine op_val (ex_move hf rfl) rfl hf rfl rfl fun a hf => ?_
      refine op_guard rfl hf rfl rfl (hc3) ?_
      obtain ⟨r4, hr4, hm⟩ := ob hm
      refine op_enter (ex_call c_43 hf (vs := [byte x_b]) rfl) rfl hf rfl rfl (w_octet_IsDigit x_b r4 _ (hG.own hO) hr4) ?_
      rintro e w' ⟨he, hb⟩
      refine ⟨_, he, fun a hf => ?_⟩
      have hO := hO.grow hb
      refine op_val (ex_pick_f hf rfl hc3 rfl) rfl hf rfl rfl fun a hf => ?_
      refine op_val (ex_move hf rfl) rfl hf rfl rfl fun a hf => ?_
      rcases bcase (r4) with hc5 | hc5
      · have hm := it hc5 hm
        refine op_pass rfl hf rfl rfl (hc5) rfl rfl fun a hf => ?_
        refine op_pass rfl hf rfl rfl (hc5) rfl rfl fun a hf => ?_
        refine op_val (ex_pick_t hf rfl hc5 rfl) rfl hf rfl rfl fun a hf => ?_
        refine op_val (ex_move hf rfl) rfl hf rfl rfl fun a hf => ?_
        refine op_pass rfl hf rfl rfl (rfl) rfl rfl fun a hf => ?_
        refine op_pass rfl hf rfl rfl (rfl) rfl rfl fun a hf => ?_
        refine op_val (ex_pick_t hf rfl rfl rfl) rfl hf rfl rfl fun a hf => ?_
        refine op_val (ex_move hf rfl) rfl hf rfl rfl fun a hf => ?_
        refine op_pass rfl hf rfl rfl (rfl) rfl rfl fun a hf => ?_
        refine op_pass rfl hf rfl rfl (rfl) rfl rfl fun a hf => ?_
        refine op_val (ex_pick_t hf rfl rfl rfl) rfl hf rfl rfl fun a hf => ?_
        refine op_val (ex_assign hf rfl) rfl hf rfl rfl fun a hf => ?_
        refine wpList_nil ?_
        refine nor_then ?_
        exact ⟨true, (hf.cons rfl hf.nil), hO, hm⟩
      · have hm := ie hc5 hm
        refine op_guard rfl hf rfl rfl (hc5) ?_
        refine op_val (ex_move hf rfl) rfl hf rfl rfl fun a hf => ?_
        refine op_guard rfl hf rfl rfl (hc5) ?_
        refine op_val (ex_eql_b (b := x_b) (c := 43) hf rfl rfl) rfl hf rfl rfl fun a hf => ?_
        refine op_val (ex_pick_f hf rfl hc5 rfl) rfl hf rfl rfl fun a hf => ?_
        refine op_val (ex_move hf rfl) rfl hf rfl rfl fun a hf => ?_
        rcases bcase (x_b == 43) with hc6 | hc6
        · have hm := it hc6 hm
          refine op_pass rfl hf rfl rfl (hc6) rfl rfl fun a hf => ?_
          refine op_pass rfl hf rfl rfl (hc6) rfl rfl fun a hf => ?_
          refine op_val (ex_pick_t hf rfl hc6 rfl) rfl hf rfl rfl fun a hf => ?_
          refine op_val (ex_move hf rfl) rfl hf rfl rfl fun a hf => ?_
          refine op_pass rfl hf rfl rfl (rfl) rfl rfl fun a hf => ?_
          refine op_pass rfl hf rfl rfl (rfl) rfl rfl fun a hf => ?_
          refine op_val (ex_pick_t hf rfl rfl rfl) rfl hf rfl rfl fun a hf => ?_
          refine op_val (ex_assign hf rfl) rfl hf rfl rfl fun a hf => ?_
          refine wpList_nil ?_
          refine nor_then ?_
          exact ⟨true, (hf.cons rfl hf.nil), hO, hm⟩
        · have hm := ie hc6 hm
          refine op_guard rfl hf rfl rfl (hc6) ?_
          refine op_val (ex_move hf rfl) rfl hf rfl rfl fun a hf => ?_
          refine op_guard rfl hf rfl rfl (hc6) ?_
          refine op_val (ex_eql_b (b := x_b) (c := 45) hf rfl rfl) rfl hf rfl rfl fun a hf => ?_
          refine op_val (ex_pick_f hf rfl hc6 rfl) rfl hf rfl rfl fun a hf => ?_
          refine op_val (ex_move hf rfl) rfl hf rfl rfl fun a hf => ?_
          rcases bcase (x_b == 45) with hc7 | hc7
          · have hm := it hc7 hm
            refine op_pass rfl hf rfl rfl (hc7) rfl rfl fun a hf => ?_
            refine op_pass rfl hf rfl rfl (hc7) rfl rfl fun a hf => ?_
            refine op_val (ex_pick_t hf rfl hc7 rfl) rfl hf rfl rfl fun a hf => ?_
            refine op_val (ex_assign hf rfl) rfl hf rfl rfl fun a hf => ?_
            refine wpList_nil ?_
            refine nor_then ?_
            exact ⟨true, (hf.cons rfl hf.nil), hO, hm⟩
          · have hm := ie hc7 hm
            refine op_guard rfl hf rfl rfl (hc7) ?_
            refine op_val (ex_move hf rfl) rfl hf rfl rfl fun a hf => ?_
            refine op_guard rfl hf rfl rfl (hc7) ?_
            refine op_val (ex_eql_b (b := x_b) (c := 46) hf rfl rfl) rfl hf rfl rfl fun a hf => ?_
            refine op_val (ex_pick_f hf rfl hc7 rfl) rfl hf rfl rfl fun a hf => ?_
            refine op_val (ex_assign hf rfl) rfl hf rfl rfl fun a hf => ?_
            refine wpList_nil ?_
            refine nor_then ?_
            exact ⟨x_b == 46, (hf.cons rfl hf.nil), hO, hm⟩
  · rintro a w ⟨t8, hf, hO, hm⟩
    rw [uriref_scheme_1_j1] at hm
    refine wp_ret ?_
    obtain rfl := Option.some.inj hm
    exact post_ret Try.results41 hf (.tmp rfl .nil) ⟨rfl, hO.below⟩

end Go.Proofs
