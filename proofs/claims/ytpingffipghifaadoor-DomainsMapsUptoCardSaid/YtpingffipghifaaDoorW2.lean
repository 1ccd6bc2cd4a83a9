/-
  Walks, written by a program (wip/gen): what its model says, the function returns; what was there before is as it was.
-/
import Derived.Test.YtpingffipghifaaDoorLib
import Derived.Test.YtpingffipghifaaDoorW1
set_option linter.unusedVariables false
set_option linter.unusedSimpArgs false
set_option maxRecDepth 100000
namespace Go.Proofs
open Go.Dk Go.Dm Go.RowKit

set_option maxHeartbeats 1000000 in
theorem w_stringslite_CutPrefix (x_s : Str) (x_prefix : Str) (R : Str × Bool) (w0 : World) (hG : Glob w0) (hm : stringslite_CutPrefix x_s x_prefix = some R) :
    Calls Tryd.prog 88 #[str x_s, str x_prefix] w0 fun e w' => e = .returned (.tuple #[str R.1, .bool R.2]) ∧ Below w0.heap.size w0 w' := by
  rw [stringslite_CutPrefix] at hm
  refine calls_enter (vs := [str x_s, str x_prefix]) Tryd.func88 rfl Tryd.ntmps88 rfl fun a hf => ?_
  have hF : Away [] := away_nil
  have hO : Dk.Own w0 [] w0 [] := Dk.Own.refl w0
  refine wp_seq_k fun _ hK1 => ?_
  refine wp_region_list ?_
  refine op_val (ex_assign hf rfl) rfl hf rfl rfl fun a hf => ?_
  refine op_val (ex_assign hf rfl) rfl hf rfl rfl fun a hf => ?_
  refine wpList_nil ?_
  refine nor_then (hK1 _ _ ?_)
  refine wp_seq_k fun _ hK6 => ?_
  refine wp_seq_k fun _ hK3 => ?_
  refine wp_region_list ?_
  refine op_val (ex_move hf rfl) rfl hf rfl rfl fun a hf => ?_
  refine op_val (ex_move hf rfl) rfl hf rfl rfl fun a hf => ?_
  obtain ⟨r2, hr2, hm⟩ := ob hm
  refine op_enter (ex_call c_96 hf (vs := [str x_s, str x_prefix]) rfl) rfl hf rfl rfl (w_stringslite_HasPrefix x_s x_prefix r2 _ (hG.own hF hO) hr2) ?_
  rintro e w' ⟨he, hb⟩
  refine ⟨_, he, fun a hf => ?_⟩
  have hO := hO.grow hb
  refine op_val (ex_not hf rfl) rfl hf rfl rfl fun a hf => ?_
  refine wpList_nil ?_
  refine nor_then (hK3 _ _ ?_)
  refine wp_cond_cut hf rfl (fun hc4 => ?_) (fun hc4 => ?_)
  · have hm := it hc4 hm
    refine wp_seq_k fun _ hK5 => ?_
    refine wp_region_list ?_
    refine op_val (ex_move hf rfl) rfl hf rfl rfl fun a hf => ?_
    refine op_val (ex_assign hf rfl) rfl hf rfl rfl fun a hf => ?_
    refine op_val (ex_assign hf rfl) rfl hf rfl rfl fun a hf => ?_
    refine wpList_nil ?_
    refine nor_then (hK5 _ _ ?_)
    refine wp_ret ?_
    refine ret_then ?_
    obtain rfl := Option.some.inj hm
    exact post_ret Tryd.results88 hf (.tmp rfl (.tmp rfl .nil)) ⟨rfl, hO.below⟩
  · have hm := ie hc4 hm
    refine wp_skip ?_
    refine nor_then (hK6 _ _ ?_)
    refine wp_seq_k fun _ hK8 => ?_
    refine wp_region_list ?_
    refine op_val (ex_move hf rfl) rfl hf rfl rfl fun a hf => ?_
    refine op_val (ex_move hf rfl) rfl hf rfl rfl fun a hf => ?_
    refine op_val (ex_len_s (l := x_prefix) Tryd.underlying9 hf rfl) rfl hf rfl rfl fun a hf => ?_
    obtain ⟨s7, hs7, hm⟩ := ob hm
    refine op_val (ex_from_s (l := x_s) Tryd.underlying9 hf rfl rfl hs7) rfl hf rfl rfl fun a hf => ?_
    refine op_val (ex_assign hf rfl) rfl hf rfl rfl fun a hf => ?_
    refine op_val (ex_assign hf rfl) rfl hf rfl rfl fun a hf => ?_
    refine wpList_nil ?_
    refine nor_then (hK8 _ _ ?_)
    refine wp_ret ?_
    obtain rfl := Option.some.inj hm
    exact post_ret Tryd.results88 hf (.tmp rfl (.tmp rfl .nil)) ⟨rfl, hO.below⟩

set_option maxHeartbeats 1000000 in
theorem w_strings_CutPrefix (x_s : Str) (x_prefix : Str) (R : Str × Bool) (w0 : World) (hG : Glob w0) (hm : strings_CutPrefix x_s x_prefix = some R) :
    Calls Tryd.prog 55 #[str x_s, str x_prefix] w0 fun e w' => e = .returned (.tuple #[str R.1, .bool R.2]) ∧ Below w0.heap.size w0 w' := by
  rw [strings_CutPrefix] at hm
  refine calls_enter (vs := [str x_s, str x_prefix]) Tryd.func55 rfl Tryd.ntmps55 rfl fun a hf => ?_
  have hF : Away [] := away_nil
  have hO : Dk.Own w0 [] w0 [] := Dk.Own.refl w0
  refine wp_seq_k fun _ hK1 => ?_
  refine wp_region_list ?_
  refine op_val (ex_assign hf rfl) rfl hf rfl rfl fun a hf => ?_
  refine op_val (ex_assign hf rfl) rfl hf rfl rfl fun a hf => ?_
  refine wpList_nil ?_
  refine nor_then (hK1 _ _ ?_)
  refine wp_seq_k fun _ hK3 => ?_
  refine wp_region_list ?_
  refine op_val (ex_move hf rfl) rfl hf rfl rfl fun a hf => ?_
  refine op_val (ex_move hf rfl) rfl hf rfl rfl fun a hf => ?_
  obtain ⟨r2, hr2, hm⟩ := ob hm
  refine op_enter (ex_call c_88 hf (vs := [str x_s, str x_prefix]) rfl) rfl hf rfl rfl (w_stringslite_CutPrefix x_s x_prefix r2 _ (hG.own hF hO) hr2) ?_
  rintro e w' ⟨he, hb⟩
  refine ⟨_, he, fun a hf => ?_⟩
  have hO := hO.grow hb
  refine op_val (ex_extract hf rfl rfl) rfl hf rfl rfl fun a hf => ?_
  refine op_val (ex_extract hf rfl rfl) rfl hf rfl rfl fun a hf => ?_
  refine op_val (ex_assign hf rfl) rfl hf rfl rfl fun a hf => ?_
  refine op_val (ex_assign hf rfl) rfl hf rfl rfl fun a hf => ?_
  refine wpList_nil ?_
  refine nor_then (hK3 _ _ ?_)
  refine wp_ret ?_
  obtain rfl := Option.some.inj hm
  exact post_ret Tryd.results55 hf (.tmp rfl (.tmp rfl .nil)) ⟨rfl, hO.below⟩

set_option maxHeartbeats 1000000 in
theorem w_stringslite_HasSuffix (x_s : Str) (x_suffix : Str) (R : Bool) (w0 : World) (hG : Glob w0) (hm : stringslite_HasSuffix x_s x_suffix = some R) :
    Calls Tryd.prog 102 #[str x_s, str x_suffix] w0 fun e w' => e = .returned (.bool R) ∧ Below w0.heap.size w0 w' := by
  rw [stringslite_HasSuffix] at hm
  refine calls_enter (vs := [str x_s, str x_suffix]) Tryd.func102 rfl Tryd.ntmps102 rfl fun a hf => ?_
  have hF : Away [] := away_nil
  have hO : Dk.Own w0 [] w0 [] := Dk.Own.refl w0
  refine wp_seq_k fun _ hK1 => ?_
  refine wp_region_list ?_
  refine op_val (ex_assign hf rfl) rfl hf rfl rfl fun a hf => ?_
  refine wpList_nil ?_
  refine nor_then (hK1 _ _ ?_)
  refine wp_seq_cut (fun a w => ∃ (t5 : Bool), Fits 21 [(4, .bool t5)] a ∧ Dk.Own w0 [] w [] ∧ stringslite_HasSuffix_j1 t5 = some R) ?_ ?_
  · refine wp_region_list ?_
    refine op_val (ex_move hf rfl) rfl hf rfl rfl fun a hf => ?_
    refine op_val (ex_len_s (l := x_s) Tryd.underlying9 hf rfl) rfl hf rfl rfl fun a hf => ?_
    refine op_val (ex_move hf rfl) rfl hf rfl rfl fun a hf => ?_
    refine op_val (ex_len_s (l := x_suffix) Tryd.underlying9 hf rfl) rfl hf rfl rfl fun a hf => ?_
    refine op_val (ex_geq (m := (x_s.length : Int)) (n := (x_suffix.length : Int)) hf rfl rfl) rfl hf rfl rfl fun a hf => ?_
    refine op_val (ex_move hf rfl) rfl hf rfl rfl fun a hf => ?_
    rcases bcase (decide ((x_suffix.length : Int) ≤ (x_s.length : Int))) with hc2 | hc2
    · have hm := it hc2 hm
      refine op_guard rfl hf rfl rfl (hc2) ?_
      refine op_val (ex_move hf rfl) rfl hf rfl rfl fun a hf => ?_
      refine op_guard rfl hf rfl rfl (hc2) ?_
      refine op_val (ex_move hf rfl) rfl hf rfl rfl fun a hf => ?_
      refine op_guard rfl hf rfl rfl (hc2) ?_
      refine op_val (ex_len_s (l := x_s) Tryd.underlying9 hf rfl) rfl hf rfl rfl fun a hf => ?_
      refine op_guard rfl hf rfl rfl (hc2) ?_
      refine op_val (ex_move hf rfl) rfl hf rfl rfl fun a hf => ?_
      refine op_guard rfl hf rfl rfl (hc2) ?_
      refine op_val (ex_len_s (l := x_suffix) Tryd.underlying9 hf rfl) rfl hf rfl rfl fun a hf => ?_
      refine op_guard rfl hf rfl rfl (hc2) ?_
      obtain ⟨i3, hi3, hm⟩ := ob hm
      refine op_val (ex_sub hf rfl rfl hi3) rfl hf rfl rfl fun a hf => ?_
      refine op_guard rfl hf rfl rfl (hc2) ?_
      obtain ⟨s4, hs4, hm⟩ := ob hm
      refine op_val (ex_from_s (l := x_s) Tryd.underlying9 hf rfl rfl hs4) rfl hf rfl rfl fun a hf => ?_
      refine op_guard rfl hf rfl rfl (hc2) ?_
      refine op_val (ex_move hf rfl) rfl hf rfl rfl fun a hf => ?_
      refine op_guard rfl hf rfl rfl (hc2) ?_
      refine op_val (ex_eql_s (l := s4) (m := x_suffix) hf rfl rfl) rfl hf rfl rfl fun a hf => ?_
      refine op_val (ex_pick_t hf rfl hc2 rfl) rfl hf rfl rfl fun a hf => ?_
      refine op_val (ex_assign hf rfl) rfl hf rfl rfl fun a hf => ?_
      refine wpList_nil ?_
      refine nor_then ?_
      exact ⟨s4 == x_suffix, (hf.cons rfl hf.nil), hO, hm⟩
    · have hm := ie hc2 hm
      refine op_pass rfl hf rfl rfl (hc2) rfl rfl fun a hf => ?_
      refine op_pass rfl hf rfl rfl (hc2) rfl rfl fun a hf => ?_
      refine op_pass rfl hf rfl rfl (hc2) rfl rfl fun a hf => ?_
      refine op_pass rfl hf rfl rfl (hc2) rfl rfl fun a hf => ?_
      refine op_pass rfl hf rfl rfl (hc2) rfl rfl fun a hf => ?_
      refine op_pass rfl hf rfl rfl (hc2) rfl rfl fun a hf => ?_
      refine op_pass rfl hf rfl rfl (hc2) rfl rfl fun a hf => ?_
      refine op_pass rfl hf rfl rfl (hc2) rfl rfl fun a hf => ?_
      refine op_pass rfl hf rfl rfl (hc2) rfl rfl fun a hf => ?_
      refine op_val (ex_pick_f hf rfl hc2 rfl) rfl hf rfl rfl fun a hf => ?_
      refine op_val (ex_assign hf rfl) rfl hf rfl rfl fun a hf => ?_
      refine wpList_nil ?_
      refine nor_then ?_
      exact ⟨false, (hf.cons rfl hf.nil), hO, hm⟩
  · rintro a w ⟨t5, hf, hO, hm⟩
    rw [stringslite_HasSuffix_j1] at hm
    refine wp_ret ?_
    obtain rfl := Option.some.inj hm
    exact post_ret Tryd.results102 hf (.tmp rfl .nil) ⟨rfl, hO.below⟩

set_option maxHeartbeats 1000000 in
theorem w_stringslite_CutSuffix (x_s : Str) (x_suffix : Str) (R : Str × Bool) (w0 : World) (hG : Glob w0) (hm : stringslite_CutSuffix x_s x_suffix = some R) :
    Calls Tryd.prog 89 #[str x_s, str x_suffix] w0 fun e w' => e = .returned (.tuple #[str R.1, .bool R.2]) ∧ Below w0.heap.size w0 w' := by
  rw [stringslite_CutSuffix] at hm
  refine calls_enter (vs := [str x_s, str x_suffix]) Tryd.func89 rfl Tryd.ntmps89 rfl fun a hf => ?_
  have hF : Away [] := away_nil
  have hO : Dk.Own w0 [] w0 [] := Dk.Own.refl w0
  refine wp_seq_k fun _ hK1 => ?_
  refine wp_region_list ?_
  refine op_val (ex_assign hf rfl) rfl hf rfl rfl fun a hf => ?_
  refine op_val (ex_assign hf rfl) rfl hf rfl rfl fun a hf => ?_
  refine wpList_nil ?_
  refine nor_then (hK1 _ _ ?_)
  refine wp_seq_k fun _ hK6 => ?_
  refine wp_seq_k fun _ hK3 => ?_
  refine wp_region_list ?_
  refine op_val (ex_move hf rfl) rfl hf rfl rfl fun a hf => ?_
  refine op_val (ex_move hf rfl) rfl hf rfl rfl fun a hf => ?_
  obtain ⟨r2, hr2, hm⟩ := ob hm
  refine op_enter (ex_call c_102 hf (vs := [str x_s, str x_suffix]) rfl) rfl hf rfl rfl (w_stringslite_HasSuffix x_s x_suffix r2 _ (hG.own hF hO) hr2) ?_
  rintro e w' ⟨he, hb⟩
  refine ⟨_, he, fun a hf => ?_⟩
  have hO := hO.grow hb
  refine op_val (ex_not hf rfl) rfl hf rfl rfl fun a hf => ?_
  refine wpList_nil ?_
  refine nor_then (hK3 _ _ ?_)
  refine wp_cond_cut hf rfl (fun hc4 => ?_) (fun hc4 => ?_)
  · have hm := it hc4 hm
    refine wp_seq_k fun _ hK5 => ?_
    refine wp_region_list ?_
    refine op_val (ex_move hf rfl) rfl hf rfl rfl fun a hf => ?_
    refine op_val (ex_assign hf rfl) rfl hf rfl rfl fun a hf => ?_
    refine op_val (ex_assign hf rfl) rfl hf rfl rfl fun a hf => ?_
    refine wpList_nil ?_
    refine nor_then (hK5 _ _ ?_)
    refine wp_ret ?_
    refine ret_then ?_
    obtain rfl := Option.some.inj hm
    exact post_ret Tryd.results89 hf (.tmp rfl (.tmp rfl .nil)) ⟨rfl, hO.below⟩
  · have hm := ie hc4 hm
    refine wp_skip ?_
    refine nor_then (hK6 _ _ ?_)
    refine wp_seq_k fun _ hK9 => ?_
    refine wp_region_list ?_
    refine op_val (ex_move hf rfl) rfl hf rfl rfl fun a hf => ?_
    refine op_val (ex_move hf rfl) rfl hf rfl rfl fun a hf => ?_
    refine op_val (ex_len_s (l := x_s) Tryd.underlying9 hf rfl) rfl hf rfl rfl fun a hf => ?_
    refine op_val (ex_move hf rfl) rfl hf rfl rfl fun a hf => ?_
    refine op_val (ex_len_s (l := x_suffix) Tryd.underlying9 hf rfl) rfl hf rfl rfl fun a hf => ?_
    obtain ⟨i7, hi7, hm⟩ := ob hm
    refine op_val (ex_sub hf rfl rfl hi7) rfl hf rfl rfl fun a hf => ?_
    obtain ⟨s8, hs8, hm⟩ := ob hm
    refine op_val (ex_to_s (l := x_s) Tryd.underlying9 hf rfl rfl hs8) rfl hf rfl rfl fun a hf => ?_
    refine op_val (ex_assign hf rfl) rfl hf rfl rfl fun a hf => ?_
    refine op_val (ex_assign hf rfl) rfl hf rfl rfl fun a hf => ?_
    refine wpList_nil ?_
    refine nor_then (hK9 _ _ ?_)
    refine wp_ret ?_
    obtain rfl := Option.some.inj hm
    exact post_ret Tryd.results89 hf (.tmp rfl (.tmp rfl .nil)) ⟨rfl, hO.below⟩

set_option maxHeartbeats 1000000 in
theorem w_strings_CutSuffix (x_s : Str) (x_suffix : Str) (R : Str × Bool) (w0 : World) (hG : Glob w0) (hm : strings_CutSuffix x_s x_suffix = some R) :
    Calls Tryd.prog 56 #[str x_s, str x_suffix] w0 fun e w' => e = .returned (.tuple #[str R.1, .bool R.2]) ∧ Below w0.heap.size w0 w' := by
  rw [strings_CutSuffix] at hm
  refine calls_enter (vs := [str x_s, str x_suffix]) Tryd.func56 rfl Tryd.ntmps56 rfl fun a hf => ?_
  have hF : Away [] := away_nil
  have hO : Dk.Own w0 [] w0 [] := Dk.Own.refl w0
  refine wp_seq_k fun _ hK1 => ?_
  refine wp_region_list ?_
  refine op_val (ex_assign hf rfl) rfl hf rfl rfl fun a hf => ?_
  refine op_val (ex_assign hf rfl) rfl hf rfl rfl fun a hf => ?_
  refine wpList_nil ?_
  refine nor_then (hK1 _ _ ?_)
  refine wp_seq_k fun _ hK3 => ?_
  refine wp_region_list ?_
  refine op_val (ex_move hf rfl) rfl hf rfl rfl fun a hf => ?_
  refine op_val (ex_move hf rfl) rfl hf rfl rfl fun a hf => ?_
  obtain ⟨r2, hr2, hm⟩ := ob hm
  refine op_enter (ex_call c_89 hf (vs := [str x_s, str x_suffix]) rfl) rfl hf rfl rfl (w_stringslite_CutSuffix x_s x_suffix r2 _ (hG.own hF hO) hr2) ?_
  rintro e w' ⟨he, hb⟩
  refine ⟨_, he, fun a hf => ?_⟩
  have hO := hO.grow hb
  refine op_val (ex_extract hf rfl rfl) rfl hf rfl rfl fun a hf => ?_
  refine op_val (ex_extract hf rfl rfl) rfl hf rfl rfl fun a hf => ?_
  refine op_val (ex_assign hf rfl) rfl hf rfl rfl fun a hf => ?_
  refine op_val (ex_assign hf rfl) rfl hf rfl rfl fun a hf => ?_
  refine wpList_nil ?_
  refine nor_then (hK3 _ _ ?_)
  refine wp_ret ?_
  obtain rfl := Option.some.inj hm
  exact post_ret Tryd.results56 hf (.tmp rfl (.tmp rfl .nil)) ⟨rfl, hO.below⟩

set_option maxHeartbeats 1000000 in
theorem w_cookie_plain (x_b : UInt8) (R : Bool) (w0 : World) (hG : Glob w0) (hm : cookie_plain x_b = some R) :
    Calls Tryd.prog 57 #[byte x_b] w0 fun e w' => e = .returned (.bool R) ∧ Below w0.heap.size w0 w' := by
  rw [cookie_plain] at hm
  refine calls_enter (vs := [byte x_b]) Tryd.func57 rfl Tryd.ntmps57 rfl fun a hf => ?_
  have hF : Away [] := away_nil
  have hO : Dk.Own w0 [] w0 [] := Dk.Own.refl w0
  refine wp_seq_k fun _ hK1 => ?_
  refine wp_region_list ?_
  refine op_val (ex_assign hf rfl) rfl hf rfl rfl fun a hf => ?_
  refine wpList_nil ?_
  refine nor_then (hK1 _ _ ?_)
  refine wp_seq_cut (fun a w => ∃ (t5 : Bool), Fits 10 [(2, .bool t5)] a ∧ Dk.Own w0 [] w [] ∧ cookie_plain_j1 t5 = some R) ?_ ?_
  · refine wp_region_list ?_
    refine op_val (ex_move hf rfl) rfl hf rfl rfl fun a hf => ?_
    obtain ⟨r2, hr2, hm⟩ := ob hm
    refine op_enter (ex_call c_86 hf (vs := [byte x_b]) rfl) rfl hf rfl rfl (w_octet_IsVisible x_b r2 _ (hG.own hF hO) hr2) ?_
    rintro e w' ⟨he, hb⟩
    refine ⟨_, he, fun a hf => ?_⟩
    have hO := hO.grow hb
    refine op_val (ex_move hf rfl) rfl hf rfl rfl fun a hf => ?_
    rcases bcase (r2) with hc3 | hc3
    · have hm := it hc3 hm
      refine op_guard rfl hf rfl rfl (hc3) ?_
      refine op_val (ex_move hf rfl) rfl hf rfl rfl fun a hf => ?_
      refine op_guard rfl hf rfl rfl (hc3) ?_
      obtain ⟨r4, hr4, hm⟩ := ob hm
      refine op_enter (ex_call c_90 hf (vs := [str [34, 44, 59, 92], byte x_b]) rfl) rfl hf rfl rfl (w_strings_IndexByte [34, 44, 59, 92] x_b r4 _ (hG.own hF hO) hr4) ?_
      rintro e w' ⟨he, hb⟩
      refine ⟨_, he, fun a hf => ?_⟩
      have hO := hO.grow hb
      refine op_guard rfl hf rfl rfl (hc3) ?_
      refine op_val (ex_lss (m := r4) (n := 0) hf rfl rfl) rfl hf rfl rfl fun a hf => ?_
      refine op_val (ex_pick_t hf rfl hc3 rfl) rfl hf rfl rfl fun a hf => ?_
      refine op_val (ex_assign hf rfl) rfl hf rfl rfl fun a hf => ?_
      refine wpList_nil ?_
      refine nor_then ?_
      exact ⟨decide (r4 < 0), (hf.cons rfl hf.nil), hO, hm⟩
    · have hm := ie hc3 hm
      refine op_pass rfl hf rfl rfl (hc3) rfl rfl fun a hf => ?_
      refine op_pass rfl hf rfl rfl (hc3) rfl rfl fun a hf => ?_
      refine op_pass rfl hf rfl rfl (hc3) rfl rfl fun a hf => ?_
      refine op_val (ex_pick_f hf rfl hc3 rfl) rfl hf rfl rfl fun a hf => ?_
      refine op_val (ex_assign hf rfl) rfl hf rfl rfl fun a hf => ?_
      refine wpList_nil ?_
      refine nor_then ?_
      exact ⟨false, (hf.cons rfl hf.nil), hO, hm⟩
  · rintro a w ⟨t5, hf, hO, hm⟩
    rw [cookie_plain_j1] at hm
    refine wp_ret ?_
    obtain rfl := Option.some.inj hm
    exact post_ret Tryd.results57 hf (.tmp rfl .nil) ⟨rfl, hO.below⟩

set_option maxHeartbeats 1000000 in
theorem w_cookie_value (x_s : Str) (R : Bool) (w0 : World) (hG : Glob w0) (hm : cookie_value x_s = some R) :
    Calls Tryd.prog 31 #[str x_s] w0 fun e w' => e = .returned (.bool R) ∧ Below w0.heap.size w0 w' := by
  rw [cookie_value] at hm
  refine calls_enter (vs := [str x_s]) Tryd.func31 rfl Tryd.ntmps31 rfl fun a hf => ?_
  have hF : Away [] := away_nil
  have hO : Dk.Own w0 [] w0 [] := Dk.Own.refl w0
  refine wp_seq_k fun _ hK1 => ?_
  refine wp_region_list ?_
  refine op_val (ex_assign hf rfl) rfl hf rfl rfl fun a hf => ?_
  refine wpList_nil ?_
  refine nor_then (hK1 _ _ ?_)
  refine wp_seq_k fun _ hK3 => ?_
  refine wp_region_list ?_
  refine op_val (ex_move hf rfl) rfl hf rfl rfl fun a hf => ?_
  obtain ⟨r2, hr2, hm⟩ := ob hm
  refine op_enter (ex_call c_55 hf (vs := [str x_s, str [34]]) rfl) rfl hf rfl rfl (w_strings_CutPrefix x_s [34] r2 _ (hG.own hF hO) hr2) ?_
  rintro e w' ⟨he, hb⟩
  refine ⟨_, he, fun a hf => ?_⟩
  have hO := hO.grow hb
  refine op_val (ex_move hf rfl) rfl hf rfl rfl fun a hf => ?_
  refine op_val (ex_extract hf rfl rfl) rfl hf rfl rfl fun a hf => ?_
  refine op_val (ex_extract hf rfl rfl) rfl hf rfl rfl fun a hf => ?_
  refine op_val (ex_assign hf rfl) rfl hf rfl rfl fun a hf => ?_
  refine op_val (ex_assign hf rfl) rfl hf rfl rfl fun a hf => ?_
  refine wpList_nil ?_
  refine nor_then (hK3 _ _ ?_)
  refine wp_seq_k fun _ hK5 => ?_
  refine wp_region_list ?_
  refine op_val (ex_move hf rfl) rfl hf rfl rfl fun a hf => ?_
  obtain ⟨r4, hr4, hm⟩ := ob hm
  refine op_enter (ex_call c_56 hf (vs := [str r2.1, str [34]]) rfl) rfl hf rfl rfl (w_strings_CutSuffix r2.1 [34] r4 _ (hG.own hF hO) hr4) ?_
  rintro e w' ⟨he, hb⟩
  refine ⟨_, he, fun a hf => ?_⟩
  have hO := hO.grow hb
  refine op_val (ex_move hf rfl) rfl hf rfl rfl fun a hf => ?_
  refine op_val (ex_extract hf rfl rfl) rfl hf rfl rfl fun a hf => ?_
  refine op_val (ex_extract hf rfl rfl) rfl hf rfl rfl fun a hf => ?_
  refine op_val (ex_assign hf rfl) rfl hf rfl rfl fun a hf => ?_
  refine op_val (ex_assign hf rfl) rfl hf rfl rfl fun a hf => ?_
  refine wpList_nil ?_
  refine nor_then (hK5 _ _ ?_)
  refine wp_seq_cut (fun a w => ∃ (t9 : Bool), Fits 24 [(2, .bool t9)] a ∧ Dk.Own w0 [] w [] ∧ cookie_value_j1 t9 = some R) ?_ ?_
  · refine wp_region_list ?_
    refine op_val (ex_move hf rfl) rfl hf rfl rfl fun a hf => ?_
    refine op_val (ex_move hf rfl) rfl hf rfl rfl fun a hf => ?_
    refine op_val (ex_eql_o Tryd.underlying4 hf rfl rfl) rfl hf rfl rfl fun a hf => ?_
    refine op_val (ex_move hf rfl) rfl hf rfl rfl fun a hf => ?_
    rcases bcase (r2.2 == r4.2) with hc6 | hc6
    · have hm := it hc6 hm
      refine op_guard rfl hf rfl rfl (hc6) ?_
      refine op_val (ex_move hf rfl) rfl hf rfl rfl fun a hf => ?_
      refine op_guard rfl hf rfl rfl (hc6) ?_
      refine op_buildSlice (vs := [(0, str r4.1)]) (cs := [str r4.1]) (e := 9) (sz := 1) hf rfl rfl (fun w => by kernel_rfl) rfl rfl hO fun a b7 w hf hO => ?_
      refine op_guard rfl hf rfl rfl (hc6) ?_
      obtain ⟨r8, hr8, hm⟩ := ob hm
      refine op_enter (ex_call c_53 hf (vs := [.func (.func 57) #[] #[], .slice (some ⟨b7, 0, none⟩) ([r4.1].length) 1]) rfl) rfl hf rfl rfl (w_octet_All cookie_plain [r4.1] r8 _ (hG.own hF hO) c_57 (fun y0 r w hG h => callsE (w_cookie_plain y0 r w hG h)) (hO.rowSees (i := 0) rfl) (hO.rowCap (i := 0) rfl) hr8) ?_
      rintro e w' ⟨he, hb⟩
      refine ⟨_, he, fun a hf => ?_⟩
      have hO := hO.grow hb
      refine op_val (ex_pick_t hf rfl hc6 rfl) rfl hf rfl rfl fun a hf => ?_
      refine op_val (ex_assign hf rfl) rfl hf rfl rfl fun a hf => ?_
      refine wpList_nil ?_
      refine nor_then ?_
      exact ⟨r8, (hf.cons rfl hf.nil), (hO.sub (.cons _ .slnil)), hm⟩
    · have hm := ie hc6 hm
      refine op_pass rfl hf rfl rfl (hc6) rfl rfl fun a hf => ?_
      refine op_pass rfl hf rfl rfl (hc6) rfl rfl fun a hf => ?_
      refine op_pass rfl hf rfl rfl (hc6) rfl rfl fun a hf => ?_
      refine op_val (ex_pick_f hf rfl hc6 rfl) rfl hf rfl rfl fun a hf => ?_
      refine op_val (ex_assign hf rfl) rfl hf rfl rfl fun a hf => ?_
      refine wpList_nil ?_
      refine nor_then ?_
      exact ⟨false, (hf.cons rfl hf.nil), hO, hm⟩
  · rintro a w ⟨t9, hf, hO, hm⟩
    rw [cookie_value_j1] at hm
    refine wp_ret ?_
    obtain rfl := Option.some.inj hm
    exact post_ret Tryd.results31 hf (.tmp rfl .nil) ⟨rfl, hO.below⟩

set_option maxHeartbeats 1000000 in
theorem w_cookie_Parse (x_s : Str) (R : api_Cookie × Int) (w0 : World) (hG : Glob w0) (hm : cookie_Parse x_s = some R) :
    Calls Tryd.prog 14 #[str x_s] w0 fun e w' => ∃ (p0 : Option Addr) (c0 : Nat), e = .returned (.tuple #[.agg #[str R.1.Name, str R.1.Value, .slice p0 R.1.Attrs.length c0], int R.2]) ∧ Dk.Own w0 [] w' [.row (.slice p0 R.1.Attrs.length c0) 31 3 R.1.Attrs.length (cells enc_api_Attr R.1.Attrs)] := by
  rw [cookie_Parse] at hm
  refine calls_enter (vs := [str x_s]) Tryd.func14 rfl Tryd.ntmps14 rfl fun a hf => ?_
  have hF : Away [] := away_nil
  have hO : Dk.Own w0 [] w0 [] := Dk.Own.refl w0
  refine wp_seq_k fun _ hK2 => ?_
  refine wp_region_list ?_
  refine op_alloc al_24 hf rfl hO fun a b1 w hf hO => ?_
  have hO := hO.nilRow 31 3
  refine op_val (ex_assign hf rfl) rfl hf rfl rfl fun a hf => ?_
  refine wpList_nil ?_
  refine nor_then (hK2 _ _ ?_)
  refine wp_seq_k fun _ hK6 => ?_
  refine wp_region_list ?_
  refine op_val (ex_move hf rfl) rfl hf rfl rfl fun a hf => ?_
  obtain ⟨r3, hr3, hm⟩ := ob hm
  refine op_enter (ex_call c_29 hf (vs := [str x_s, str [59]]) rfl) rfl hf rfl rfl (w_strings_Split x_s [59] r3 _ (hG.own hF hO) hr3) ?_
  rintro e w' ⟨p4, c5, he, hO'⟩
  refine ⟨_, he, fun a hf => ?_⟩
  have hO := hO.call hO' (by simp [Res.shared])
  refine op_val (ex_assign hf rfl) rfl hf rfl rfl fun a hf => ?_
  refine wpList_nil ?_
  refine nor_then (hK6 _ _ ?_)
  refine wp_seq_k fun _ hK12 => ?_
  refine wp_region_list ?_
  refine op_val (ex_move hf rfl) rfl hf rfl rfl fun a hf => ?_
  obtain ⟨x7, hx7, hm⟩ := ob hm
  obtain ⟨b8, o9, hix7, hSx7, hAx7⟩ := elemAtRow (enc := enc_str) (sz := 1) (xs := r3) 55 Tryd.underlying55 sz_9 (by decide) (fun _ => rfl) hO (i := 0) rfl hx7
  refine op_val (ex_indexAddr hix7 hf rfl rfl) rfl hf rfl rfl fun a hf => ?_
  refine op_val (ex_load1 (o := 0) ag_9 (hSx7 _ (hO.rowSees (i := 0) rfl)) rfl hf rfl) rfl hf rfl rfl fun a hf => ?_
  obtain ⟨r10, hr10, hm⟩ := ob hm
  refine op_enter (ex_call c_30 hf (vs := [str x7]) rfl) rfl hf rfl rfl (w_cookie_part x7 r10 _ (hG.own hF hO) hr10) ?_
  rintro e w' ⟨he, hb⟩
  refine ⟨_, he, fun a hf => ?_⟩
  have hO := hO.grow hb
  refine op_val (ex_move hf rfl) rfl hf rfl rfl fun a hf => ?_
  refine op_val (ex_extract hf rfl rfl) rfl hf rfl rfl fun a hf => ?_
  refine op_val (ex_extract hf rfl rfl) rfl hf rfl rfl fun a hf => ?_
  refine op_alloc al_31 hf rfl hO fun a b11 w hf hO => ?_
  refine op_storeN (i := 0) (n := 3) sz_31 rfl rfl rfl (by simp [Value.oneCell']) hf rfl rfl hO fun w hO => ?_
  refine op_val (ex_assign hf rfl) rfl hf rfl rfl fun a hf => ?_
  refine wpList_nil ?_
  refine nor_then (hK12 _ _ ?_)
  refine wp_seq_k fun _ hK19 => ?_
  refine wp_seq_cut (fun a w => ∃ (t16 : Bool), Fits 63 [(2, ptr b1 0), (4, .slice p4 r3.length c5), (5, ptr b11 0), (33, .bool t16)] a ∧ Dk.Own w0 [] w [.blk b11 [str r10.1.Name, str r10.1.Value, .bool r10.1.Has] 31, .row (.slice p4 r3.length c5) 9 1 r3.length (cells enc_str r3), .row (.slice none 0 0) 31 3 0 (cells enc_api_Attr []), .blk b1 [str [], str [], .slice none 0 0] 24] ∧ cookie_Parse_j1 r3 r10 t16 = some R) ?_ ?_
  · refine wp_region_list ?_
    refine op_val (ex_move hf rfl) rfl hf rfl rfl fun a hf => ?_
    refine op_val (ex_not hf rfl) rfl hf rfl rfl fun a hf => ?_
    refine op_val (ex_move hf rfl) rfl hf rfl rfl fun a hf => ?_
    rcases bcase (!r10.2) with hc13 | hc13
    · have hm := it hc13 hm
      refine op_pass rfl hf rfl rfl (hc13) rfl rfl fun a hf => ?_
      refine op_pass rfl hf rfl rfl (hc13) rfl rfl fun a hf => ?_
      refine op_pass rfl hf rfl rfl (hc13) rfl rfl fun a hf => ?_
      refine op_val (ex_pick_t hf rfl hc13 rfl) rfl hf rfl rfl fun a hf => ?_
      refine op_val (ex_move hf rfl) rfl hf rfl rfl fun a hf => ?_
      refine op_pass rfl hf rfl rfl (rfl) rfl rfl fun a hf => ?_
      refine op_pass rfl hf rfl rfl (rfl) rfl rfl fun a hf => ?_
      refine op_pass rfl hf rfl rfl (rfl) rfl rfl fun a hf => ?_
      refine op_pass rfl hf rfl rfl (rfl) rfl rfl fun a hf => ?_
      refine op_val (ex_pick_t hf rfl rfl rfl) rfl hf rfl rfl fun a hf => ?_
      refine wpList_nil ?_
      refine nor_then ?_
      exact ⟨true, (hf.cons rfl (hf.cons rfl (hf.cons rfl (hf.cons rfl hf.nil)))), hO, hm⟩
    · have hm := ie hc13 hm
      refine op_guard rfl hf rfl rfl (hc13) ?_
      refine op_val (ex_field fa_31_2 hf rfl) rfl hf rfl rfl fun a hf => ?_
      refine op_guard rfl hf rfl rfl (hc13) ?_
      refine op_val (ex_load1 (o := 2) ag_4 (hO.blkSees (i := 0) rfl) rfl hf rfl) rfl hf rfl rfl fun a hf => ?_
      refine op_guard rfl hf rfl rfl (hc13) ?_
      refine op_val (ex_not hf rfl) rfl hf rfl rfl fun a hf => ?_
      refine op_val (ex_pick_f hf rfl hc13 rfl) rfl hf rfl rfl fun a hf => ?_
      refine op_val (ex_move hf rfl) rfl hf rfl rfl fun a hf => ?_
      rcases bcase (!r10.1.Has) with hc14 | hc14
      · have hm := it hc14 hm
        refine op_pass rfl hf rfl rfl (hc14) rfl rfl fun a hf => ?_
        refine op_pass rfl hf rfl rfl (hc14) rfl rfl fun a hf => ?_
        refine op_pass rfl hf rfl rfl (hc14) rfl rfl fun a hf => ?_
        refine op_pass rfl hf rfl rfl (hc14) rfl rfl fun a hf => ?_
        refine op_val (ex_pick_t hf rfl hc14 rfl) rfl hf rfl rfl fun a hf => ?_
        refine wpList_nil ?_
        refine nor_then ?_
        exact ⟨true, (hf.cons rfl (hf.cons rfl (hf.cons rfl (hf.cons rfl hf.nil)))), hO, hm⟩
      · have hm := ie hc14 hm
        refine op_guard rfl hf rfl rfl (hc14) ?_
        refine op_val (ex_field fa_31_1 hf rfl) rfl hf rfl rfl fun a hf => ?_
        refine op_guard rfl hf rfl rfl (hc14) ?_
        refine op_val (ex_load1 (o := 1) ag_9 (hO.blkSees (i := 0) rfl) rfl hf rfl) rfl hf rfl rfl fun a hf => ?_
        refine op_guard rfl hf rfl rfl (hc14) ?_
        obtain ⟨r15, hr15, hm⟩ := ob hm
        refine op_enter (ex_call c_31 hf (vs := [str r10.1.Value]) rfl) rfl hf rfl rfl (w_cookie_value r10.1.Value r15 _ (hG.own hF hO) hr15) ?_
        rintro e w' ⟨he, hb⟩
        refine ⟨_, he, fun a hf => ?_⟩
        have hO := hO.grow hb
        refine op_guard rfl hf rfl rfl (hc14) ?_
        refine op_val (ex_not hf rfl) rfl hf rfl rfl fun a hf => ?_
        refine op_val (ex_pick_f hf rfl hc14 rfl) rfl hf rfl rfl fun a hf => ?_
        refine wpList_nil ?_
        refine nor_then ?_
        exact ⟨!r15, (hf.cons rfl (hf.cons rfl (hf.cons rfl (hf.cons rfl hf.nil)))), hO, hm⟩
  · rintro a w ⟨t16, hf, hO, hm⟩
    rw [cookie_Parse_j1] at hm
    refine wp_cond_cut hf rfl (fun hc17 => ?_) (fun hc17 => ?_)
    · have hm := it hc17 hm
      refine wp_seq_k fun _ hK18 => ?_
      refine wp_region_list ?_
      refine op_val (ex_build (vs := []) (v := .agg #[str [], str [], .slice none 0 0]) hf rfl (by kernel_rfl)) rfl hf rfl rfl fun a hf => ?_
      refine op_storeN (i := 3) (n := 3) sz_24 rfl rfl rfl (by simp [Value.oneCell']) hf rfl rfl hO fun w hO => ?_
      have hO := hO.nilRow 31 3
      refine op_val (ex_assign hf rfl) rfl hf rfl rfl fun a hf => ?_
      refine wpList_nil ?_
      refine nor_then (hK18 _ _ ?_)
      refine wp_ret ?_
      refine ret_then ?_
      obtain rfl := Option.some.inj hm
      exact post_ret Tryd.results14 hf (.cell rfl (run_loadVarN (n := 3) (vs := [str [], str [], .slice none 0 0]) ag_24 sz_24 rfl ((hO.blkSees (i := 4) rfl).cells (o := 0) (n := 3) rfl)) (.tmp rfl .nil)) ⟨none, 0, rfl, (hO.sub (.cons_cons _ (.cons _ (.cons _ (.cons _ (.cons _ .slnil))))))⟩
    · have hm := ie hc17 hm
      refine wp_skip ?_
      refine nor_then (hK19 _ _ ?_)
      refine wp_seq_k fun _ hK21 => ?_
      refine wp_region_list ?_
      refine op_val (ex_field fa_31_0 hf rfl) rfl hf rfl rfl fun a hf => ?_
      refine op_val (ex_load1 (o := 0) ag_9 (hO.blkSees (i := 0) rfl) rfl hf rfl) rfl hf rfl rfl fun a hf => ?_
      refine op_val (ex_field fa_31_1 hf rfl) rfl hf rfl rfl fun a hf => ?_
      refine op_val (ex_load1 (o := 1) ag_9 (hO.blkSees (i := 0) rfl) rfl hf rfl) rfl hf rfl rfl fun a hf => ?_
      refine op_val (ex_build (vs := [(0, str r10.1.Name), (1, str r10.1.Value)]) (v := .agg #[str r10.1.Name, str r10.1.Value, .slice none 0 0]) hf rfl (by kernel_rfl)) rfl hf rfl rfl fun a hf => ?_
      refine op_alloc al_24 hf rfl hO fun a b20 w hf hO => ?_
      have hO := hO.nilRow 31 3
      refine op_storeN (i := 1) (n := 3) sz_24 rfl rfl rfl (by simp [Value.oneCell']) hf rfl rfl hO fun w hO => ?_
      have hO := hO.nilRow 31 3
      refine wpList_nil ?_
      refine nor_then (hK21 _ _ ?_)
      refine wp_seq_cut (fun a w => ∃ (p53 : Option Addr) (c54 : Nat) (l55 : List api_Attr) (s56 : Str) (s57 : Str), Fits 63 [(2, ptr b1 0), (7, ptr b20 0)] a ∧ Dk.Own w0 [] w [.row (.slice p53 l55.length c54) 31 3 l55.length (cells enc_api_Attr l55), .row (.slice none 0 0) 31 3 0 (cells enc_api_Attr []), .blk b20 [str s56, str s57, .slice p53 l55.length c54] 24, .blk b11 [str r10.1.Name, str r10.1.Value, .bool r10.1.Has] 31, .shr p4 (cells enc_str r3), .row (.slice none 0 0) 31 3 0 (cells enc_api_Attr []), .blk b1 [str [], str [], .slice none 0 0] 24] ∧ cookie_Parse_j3 l55 s56 s57 = some R) ?_ ?_
      · refine wp_seq_k fun _ hK26 => ?_
        refine wp_region_list ?_
        refine op_val (ex_move hf rfl) rfl hf rfl rfl fun a hf => ?_
        obtain ⟨l23, hl23, hm⟩ := ob hm
        have hcr22 := hO.rowCap (i := 4) rfl
        have hO := hO.giveRow (i := 4) rfl
        obtain ⟨p24, c25, hrl23, hVl23, hCl23, hPl23⟩ := sliceFrom (enc := enc_str) (xs := r3) 55 Tryd.underlying55 sz_9 (fun _ => rfl) (hO.sees (i := 4) rfl) hcr22 hl23
        have hO := hO.share (i := 4) rfl hPl23 (hVl23 _ (hO.sees (i := 4) rfl))
        refine op_val (ex_sliceFrom Tryd.underlying55 hrl23 hf rfl rfl) rfl hf rfl rfl fun a hf => ?_
        refine op_val (ex_len_l Tryd.underlying55 hf rfl) rfl hf rfl rfl fun a hf => ?_
        refine op_val (ex_move hf rfl) rfl hf rfl rfl fun a hf => ?_
        refine wpList_nil ?_
        refine nor_then (hK26 _ _ ?_)
        refine wp_block ?_
        refine wp_loop_n (fun k a w => ∃ (p27 : Option Addr) (c28 : Nat) (l29 : List api_Attr) (s30 : Str) (s31 : Str) (i32 : Int), Fits 63 [(2, ptr b1 0), (7, ptr b20 0), (41, .slice p24 l23.length c25), (42, int (l23.length : Int)), (43, int i32)] a ∧ Dk.Own w0 [] w [.shr p24 (cells enc_str l23), .row (.slice p27 l29.length c28) 31 3 l29.length (cells enc_api_Attr l29), .row (.slice none 0 0) 31 3 0 (cells enc_api_Attr []), .blk b20 [str s30, str s31, .slice p27 l29.length c28] 24, .blk b11 [str r10.1.Name, str r10.1.Value, .bool r10.1.Has] 31, .shr p4 (cells enc_str r3), .row (.slice none 0 0) 31 3 0 (cells enc_api_Attr []), .blk b1 [str [], str [], .slice none 0 0] 24] ∧ cookie_Parse_L2 l23 k l29 s30 s31 i32 = some R) ?_ fuel ?_
        · rintro n2 a w ⟨p27, c28, l29, s30, s31, i32, hf, hO, hm⟩
          obtain _ | n2 := n2
          · rw [cookie_Parse_L2] at hm
            cases hm
          · rw [cookie_Parse_L2] at hm
            refine wp_seq_k fun _ hK33 => ?_
            refine wp_region_list ?_
            refine op_val (ex_lss (m := i32) (n := (l23.length : Int)) hf rfl rfl) rfl hf rfl rfl fun a hf => ?_
            refine wpList_nil ?_
            refine nor_then (hK33 _ _ ?_)
            refine wp_seq_k fun _ hK35 => ?_
            refine wp_cond_cut hf rfl (fun hc34 => ?_) (fun hc34 => ?_)
            · have hm := it hc34 hm
              refine wp_skip ?_
              refine nor_then (hK35 _ _ ?_)
              refine wp_seq_k fun _ hK51 => ?_
              refine wp_block ?_
              refine wp_seq_k fun _ hK39 => ?_
              refine wp_region_list ?_
              obtain ⟨x36, hx36, hm⟩ := ob hm
              obtain ⟨b37, o38, hix36, hSx36⟩ := elemAt (enc := enc_str) (sz := 1) (xs := l23) 55 Tryd.underlying55 sz_9 (by decide) (fun _ => rfl) (hO.sees (i := 0) rfl) hx36
              refine op_val (ex_indexAddr hix36 hf rfl rfl) rfl hf rfl rfl fun a hf => ?_
              refine op_val (ex_load1 (o := 0) ag_9 (hSx36 _ (hO.sees (i := 0) rfl)) rfl hf rfl) rfl hf rfl rfl fun a hf => ?_
              refine op_val (ex_assign hf rfl) rfl hf rfl rfl fun a hf => ?_
              refine wpList_nil ?_
              refine nor_then (hK39 _ _ ?_)
              refine wp_seq_k fun _ hK42 => ?_
              refine wp_region_list ?_
              refine op_val (ex_move hf rfl) rfl hf rfl rfl fun a hf => ?_
              obtain ⟨r40, hr40, hm⟩ := ob hm
              refine op_enter (ex_call c_30 hf (vs := [str x36]) rfl) rfl hf rfl rfl (w_cookie_part x36 r40 _ (hG.own hF hO) hr40) ?_
              rintro e w' ⟨he, hb⟩
              refine ⟨_, he, fun a hf => ?_⟩
              have hO := hO.grow hb
              refine op_val (ex_move hf rfl) rfl hf rfl rfl fun a hf => ?_
              refine op_val (ex_extract hf rfl rfl) rfl hf rfl rfl fun a hf => ?_
              refine op_val (ex_extract hf rfl rfl) rfl hf rfl rfl fun a hf => ?_
              refine op_alloc al_31 hf rfl hO fun a b41 w hf hO => ?_
              refine op_storeN (i := 0) (n := 3) sz_31 rfl rfl rfl (by simp [Value.oneCell']) hf rfl rfl hO fun w hO => ?_
              refine op_val (ex_assign hf rfl) rfl hf rfl rfl fun a hf => ?_
              refine wpList_nil ?_
              refine nor_then (hK42 _ _ ?_)
              refine wp_seq_k fun _ hK46 => ?_
              refine wp_seq_k fun _ hK43 => ?_
              refine wp_region_list ?_
              refine op_val (ex_move hf rfl) rfl hf rfl rfl fun a hf => ?_
              refine op_val (ex_not hf rfl) rfl hf rfl rfl fun a hf => ?_
              refine wpList_nil ?_
              refine nor_then (hK43 _ _ ?_)
              refine wp_cond_cut hf rfl (fun hc44 => ?_) (fun hc44 => ?_)
              · have hm := it hc44 hm
                refine wp_seq_k fun _ hK45 => ?_
                refine wp_region_list ?_
                refine op_val (ex_build (vs := []) (v := .agg #[str [], str [], .slice none 0 0]) hf rfl (by kernel_rfl)) rfl hf rfl rfl fun a hf => ?_
                refine op_storeN (i := 8) (n := 3) sz_24 rfl rfl rfl (by simp [Value.oneCell']) hf rfl rfl hO fun w hO => ?_
                have hO := hO.nilRow 31 3
                refine op_val (ex_assign hf rfl) rfl hf rfl rfl fun a hf => ?_
                refine wpList_nil ?_
                refine nor_then (hK45 _ _ ?_)
                refine wp_ret ?_
                refine ret_then ?_
                refine ret_block ?_
                refine ret_then ?_
                refine ret_then ?_
                refine ret_block ?_
                refine ret_then ?_
                obtain rfl := Option.some.inj hm
                exact post_ret Tryd.results14 hf (.cell rfl (run_loadVarN (n := 3) (vs := [str [], str [], .slice none 0 0]) ag_24 sz_24 rfl ((hO.blkSees (i := 9) rfl).cells (o := 0) (n := 3) rfl)) (.tmp rfl .nil)) ⟨none, 0, rfl, (hO.sub (.cons_cons _ (.cons _ (.cons _ (.cons _ (.cons _ (.cons _ (.cons _ (.cons _ (.cons _ (.cons _ .slnil)))))))))))⟩
              · have hm := ie hc44 hm
                refine wp_skip ?_
                refine nor_then (hK46 _ _ ?_)
                refine wp_region_list ?_
                refine op_val (ex_field fa_24_2 hf rfl) rfl hf rfl rfl fun a hf => ?_
                refine op_val (ex_load1 (o := 2) ag_22 (hO.blkSees (i := 4) rfl) rfl hf rfl) rfl hf rfl rfl fun a hf => ?_
                refine op_val (ex_loadN (o := 0) (vs := [str r40.1.Name, str r40.1.Value, .bool r40.1.Has]) ag_31 sz_31 (hO.blkSees (i := 0) rfl) rfl rfl hf rfl) rfl hf rfl rfl fun a hf => ?_
                refine op_buildSlice (vs := [(0, .agg #[str r40.1.Name, str r40.1.Value, .bool r40.1.Has])]) (cs := [str r40.1.Name, str r40.1.Value, .bool r40.1.Has]) (e := 31) (sz := 3) hf rfl rfl (fun w => by kernel_rfl) rfl rfl hO fun a b47 w hf hO => ?_
                obtain ⟨hg50, hm⟩ := og hm
                refine op_appendT el_22 (enc := enc_api_Attr) (xs := l29) (ys := [r40.1]) (i := 3) (fun _ => rfl) rfl (hO.rowSees (i := 0) rfl) (by simp [cells, enc_api_Attr, Value.oneCell']) hg50 hf rfl rfl rfl hO fun a p48 c49 w hf hO => ?_
                refine op_val (ex_field fa_24_2 hf rfl) rfl hf rfl rfl fun a hf => ?_
                refine op_store1 (i := 5) (o := 2) (v := .slice p48 ((l29 ++ [r40.1]).length) c49) sz_22 rfl rfl rfl rfl hf rfl rfl hO fun w hO => ?_
                refine wpList_nil ?_
                refine nor_block ?_
                refine nor_then (hK51 _ _ ?_)
                refine wp_region_list ?_
                obtain ⟨i52, hi52, hm⟩ := ob hm
                refine op_val (ex_add hf rfl rfl hi52) rfl hf rfl rfl fun a hf => ?_
                refine op_val (ex_move hf rfl) rfl hf rfl rfl fun a hf => ?_
                refine wpList_nil ?_
                refine nor_then ?_
                exact ⟨_, Nat.lt_succ_self _, p48, c49, l29 ++ [r40.1], s30, s31, i52, (hf.cons rfl (hf.cons rfl (hf.cons rfl (hf.cons rfl (hf.cons rfl hf.nil))))), (hO.sub (.cons _ (.cons _ (.cons_cons _ (.cons_cons _ (.cons_cons _ (.cons_cons _ (.cons_cons _ (.cons_cons _ (.cons_cons _ (.cons_cons _ .slnil))))))))))), hm⟩
            · have hm := ie hc34 hm
              refine wp_exit ?_
              refine exit_then ?_
              refine exit_then ?_
              refine exit_here ?_
              refine nor_then ?_
              exact ⟨p27, c28, l29, s30, s31, (hf.cons rfl (hf.cons rfl hf.nil)), (hO.sub (.cons _ (.cons_cons _ (.cons_cons _ (.cons_cons _ (.cons_cons _ (.cons_cons _ (.cons_cons _ (.cons_cons _ .slnil))))))))), hm⟩
        · exact ⟨none, 0, [], r10.1.Name, r10.1.Value, 0, (hf.cons rfl (hf.cons rfl (hf.cons rfl (hf.cons rfl (hf.cons rfl hf.nil))))), hO, hm⟩
      · rintro a w ⟨p53, c54, l55, s56, s57, hf, hO, hm⟩
        rw [cookie_Parse_j3] at hm
        refine wp_seq_k fun _ hK58 => ?_
        refine wp_region_list ?_
        refine op_val (ex_loadN (o := 0) (vs := [str s56, str s57, .slice p53 l55.length c54]) ag_24 sz_24 (hO.blkSees (i := 2) rfl) rfl rfl hf rfl) rfl hf rfl rfl fun a hf => ?_
        refine op_storeN (i := 6) (n := 3) sz_24 rfl rfl rfl (by simp [Value.oneCell']) hf rfl rfl hO fun w hO => ?_
        refine op_val (ex_assign hf rfl) rfl hf rfl rfl fun a hf => ?_
        refine wpList_nil ?_
        refine nor_then (hK58 _ _ ?_)
        refine wp_ret ?_
        obtain rfl := Option.some.inj hm
        exact post_ret Tryd.results14 hf (.cell rfl (run_loadVarN (n := 3) (vs := [str s56, str s57, .slice p53 l55.length c54]) ag_24 sz_24 rfl ((hO.blkSees (i := 6) rfl).cells (o := 0) (n := 3) rfl)) (.tmp rfl .nil)) ⟨p53, c54, rfl, (hO.sub (.cons_cons _ (.cons _ (.cons _ (.cons _ (.cons _ (.cons _ (.cons _ .slnil))))))))⟩

set_option maxHeartbeats 1000000 in
theorem w_ref18_Same (x_a : List api_Attr) (x_b : List api_Attr) (R : Bool) (w0 : World) (hG : Glob w0) {x_a_p0 : Option Addr} {x_a_c0 : Nat} (hs0 : Sees w0 x_a_p0 (cells enc_api_Attr x_a)) (hc0 : x_a.length ≤ x_a_c0) {x_b_p1 : Option Addr} {x_b_c1 : Nat} (hs1 : Sees w0 x_b_p1 (cells enc_api_Attr x_b)) (hc1 : x_b.length ≤ x_b_c1) (hm : ref18_Same x_a x_b = some R) :
    Calls Tryd.prog 28 #[.slice x_a_p0 x_a.length x_a_c0, .slice x_b_p1 x_b.length x_b_c1] w0 fun e w' => e = .returned (.bool R) ∧ Below w0.heap.size w0 w' := by
  rw [ref18_Same] at hm
  refine calls_enter (vs := [.slice x_a_p0 x_a.length x_a_c0, .slice x_b_p1 x_b.length x_b_c1]) Tryd.func28 rfl Tryd.ntmps28 rfl fun a hf => ?_
  have hF : Away [] := away_nil
  have hO : Dk.Own w0 [] w0 [] := Dk.Own.refl w0
  have hO := hO.addShr hs0 (by simp [Res.shared])
  have hO := hO.addShr hs1 (by simp [Res.shared])
  refine wp_seq_k fun _ hK1 => ?_
  refine wp_region_list ?_
  refine op_val (ex_assign hf rfl) rfl hf rfl rfl fun a hf => ?_
  refine wpList_nil ?_
  refine nor_then (hK1 _ _ ?_)
  refine wp_seq_k fun _ hK5 => ?_
  refine wp_seq_k fun _ hK2 => ?_
  refine wp_region_list ?_
  refine op_val (ex_move hf rfl) rfl hf rfl rfl fun a hf => ?_
  refine op_val (ex_len_l Tryd.underlying22 hf rfl) rfl hf rfl rfl fun a hf => ?_
  refine op_val (ex_move hf rfl) rfl hf rfl rfl fun a hf => ?_
  refine op_val (ex_len_l Tryd.underlying22 hf rfl) rfl hf rfl rfl fun a hf => ?_
  refine op_val (ex_neq (m := (x_a.length : Int)) (n := (x_b.length : Int)) hf rfl rfl) rfl hf rfl rfl fun a hf => ?_
  refine wpList_nil ?_
  refine nor_then (hK2 _ _ ?_)
  refine wp_cond_cut hf rfl (fun hc3 => ?_) (fun hc3 => ?_)
  · have hm := it hc3 hm
    refine wp_seq_k fun _ hK4 => ?_
    refine wp_region_list ?_
    refine op_val (ex_assign hf rfl) rfl hf rfl rfl fun a hf => ?_
    refine wpList_nil ?_
    refine nor_then (hK4 _ _ ?_)
    refine wp_ret ?_
    refine ret_then ?_
    obtain rfl := Option.some.inj hm
    exact post_ret Tryd.results28 hf (.tmp rfl .nil) ⟨rfl, hO.below⟩
  · have hm := ie hc3 hm
    refine wp_skip ?_
    refine nor_then (hK5 _ _ ?_)
    refine wp_seq_k fun _ hK22 => ?_
    refine wp_seq_k fun _ hK6 => ?_
    refine wp_region_list ?_
    refine op_val (ex_assign hf rfl) rfl hf rfl rfl fun a hf => ?_
    refine wpList_nil ?_
    refine nor_then (hK6 _ _ ?_)
    refine wp_block ?_
    refine wp_loop_n (fun k a w => ∃ (i7 : Int), Fits 26 [(0, .slice x_a_p0 x_a.length x_a_c0), (1, .slice x_b_p1 x_b.length x_b_c1), (5, int i7)] a ∧ Dk.Own w0 [] w [.shr x_b_p1 (cells enc_api_Attr x_b), .shr x_a_p0 (cells enc_api_Attr x_a)] ∧ ref18_Same_L1 x_a x_b k i7 = some R) ?_ fuel ?_
    · rintro n1 a w ⟨i7, hf, hO, hm⟩
      obtain _ | n1 := n1
      · rw [ref18_Same_L1] at hm
        cases hm
      · rw [ref18_Same_L1] at hm
        refine wp_seq_k fun _ hK10 => ?_
        refine wp_seq_k fun _ hK8 => ?_
        refine wp_region_list ?_
        refine op_val (ex_move hf rfl) rfl hf rfl rfl fun a hf => ?_
        refine op_val (ex_move hf rfl) rfl hf rfl rfl fun a hf => ?_
        refine op_val (ex_len_l Tryd.underlying22 hf rfl) rfl hf rfl rfl fun a hf => ?_
        refine op_val (ex_lss (m := i7) (n := (x_a.length : Int)) hf rfl rfl) rfl hf rfl rfl fun a hf => ?_
        refine wpList_nil ?_
        refine nor_then (hK8 _ _ ?_)
        refine wp_cond_cut hf rfl (fun hc9 => ?_) (fun hc9 => ?_)
        · have hm := it hc9 hm
          refine wp_skip ?_
          refine nor_then (hK10 _ _ ?_)
          refine wp_seq_k fun _ hK20 => ?_
          refine wp_block ?_
          refine wp_seq_k fun _ hK17 => ?_
          refine wp_quiet (by kernel_rfl) (by kernel_rfl) hO ?_
          refine q_val (fun w hO => ex_move hf rfl) rfl hf rfl rfl fun a hf => ?_
          refine q_val (fun w hO => ex_move hf rfl) rfl hf rfl rfl fun a hf => ?_
          obtain ⟨x11, hx11, hm⟩ := ob hm
          obtain ⟨b12, o13, hix11, hSx11⟩ := elemAt (enc := enc_api_Attr) (sz := 3) (xs := x_a) 22 Tryd.underlying22 sz_31 (by decide) (fun _ => rfl) (hO.sees (i := 1) rfl) hx11
          refine q_val (fun w hO => ex_indexAddr hix11 hf rfl rfl) rfl hf rfl rfl fun a hf => ?_
          refine q_val (fun w hO => ex_loadN (o := 0) (vs := [str x11.Name, str x11.Value, .bool x11.Has]) ag_31 sz_31 (hSx11 _ (hO.sees (i := 1) rfl)) rfl rfl hf rfl) rfl hf rfl rfl fun a hf => ?_
          refine q_val (fun w hO => ex_move hf rfl) rfl hf rfl rfl fun a hf => ?_
          refine q_val (fun w hO => ex_move hf rfl) rfl hf rfl rfl fun a hf => ?_
          obtain ⟨x14, hx14, hm⟩ := ob hm
          obtain ⟨b15, o16, hix14, hSx14⟩ := elemAt (enc := enc_api_Attr) (sz := 3) (xs := x_b) 22 Tryd.underlying22 sz_31 (by decide) (fun _ => rfl) (hO.sees (i := 0) rfl) hx14
          refine q_val (fun w hO => ex_indexAddr hix14 hf rfl rfl) rfl hf rfl rfl fun a hf => ?_
          refine q_val (fun w hO => ex_loadN (o := 0) (vs := [str x14.Name, str x14.Value, .bool x14.Has]) ag_31 sz_31 (hSx14 _ (hO.sees (i := 0) rfl)) rfl rfl hf rfl) rfl hf rfl rfl fun a hf => ?_
          refine q_val (fun w hO => ex_neq_t (by kernel_rfl) (eq_31 x11 x14) hf rfl rfl) rfl hf rfl rfl fun a hf => ?_
          refine wpQuiet_nil ?_
          intro w hO
          refine nor_then (hK17 _ _ ?_)
          refine wp_cond_cut hf rfl (fun hc18 => ?_) (fun hc18 => ?_)
          · have hm := it hc18 hm
            refine wp_seq_k fun _ hK19 => ?_
            refine wp_region_list ?_
            refine op_val (ex_assign hf rfl) rfl hf rfl rfl fun a hf => ?_
            refine wpList_nil ?_
            refine nor_then (hK19 _ _ ?_)
            refine wp_ret ?_
            refine ret_block ?_
            refine ret_then ?_
            refine ret_then ?_
            refine ret_block ?_
            refine ret_then ?_
            obtain rfl := Option.some.inj hm
            exact post_ret Tryd.results28 hf (.tmp rfl .nil) ⟨rfl, hO.below⟩
          · have hm := ie hc18 hm
            refine wp_skip ?_
            refine nor_block ?_
            refine nor_then (hK20 _ _ ?_)
            refine wp_region_list ?_
            refine op_val (ex_move hf rfl) rfl hf rfl rfl fun a hf => ?_
            obtain ⟨i21, hi21, hm⟩ := ob hm
            refine op_val (ex_add hf rfl rfl hi21) rfl hf rfl rfl fun a hf => ?_
            refine op_val (ex_assign hf rfl) rfl hf rfl rfl fun a hf => ?_
            refine wpList_nil ?_
            refine nor_then ?_
            exact ⟨_, Nat.lt_succ_self _, i21, (hf.cons rfl (hf.cons rfl (hf.cons rfl hf.nil))), hO, hm⟩
        · have hm := ie hc9 hm
          refine wp_exit ?_
          refine exit_then ?_
          refine exit_then ?_
          refine exit_here ?_
          refine nor_then (hK22 _ _ ?_)
          refine wp_seq_k fun _ hK23 => ?_
          refine wp_region_list ?_
          refine op_val (ex_assign hf rfl) rfl hf rfl rfl fun a hf => ?_
          refine wpList_nil ?_
          refine nor_then (hK23 _ _ ?_)
          refine wp_ret ?_
          obtain rfl := Option.some.inj hm
          exact post_ret Tryd.results28 hf (.tmp rfl .nil) ⟨rfl, hO.below⟩
    · exact ⟨0, (hf.cons rfl (hf.cons rfl (hf.cons rfl hf.nil))), hO, hm⟩

set_option maxHeartbeats 1000000 in
theorem w_ref28_Same (x_a : api_Cookie) (x_b : api_Cookie) (R : Bool) (w0 : World) (hG : Glob w0) {x_a_p0 : Option Addr} {x_a_c0 : Nat} (hs0 : Sees w0 x_a_p0 (cells enc_api_Attr x_a.Attrs)) (hc0 : x_a.Attrs.length ≤ x_a_c0) {x_b_p1 : Option Addr} {x_b_c1 : Nat} (hs1 : Sees w0 x_b_p1 (cells enc_api_Attr x_b.Attrs)) (hc1 : x_b.Attrs.length ≤ x_b_c1) (hm : ref28_Same x_a x_b = some R) :
    Calls Tryd.prog 12 #[.agg #[str x_a.Name, str x_a.Value, .slice x_a_p0 x_a.Attrs.length x_a_c0], .agg #[str x_b.Name, str x_b.Value, .slice x_b_p1 x_b.Attrs.length x_b_c1]] w0 fun e w' => e = .returned (.bool R) ∧ Below w0.heap.size w0 w' := by
  rw [ref28_Same] at hm
  refine calls_enter (vs := [.agg #[str x_a.Name, str x_a.Value, .slice x_a_p0 x_a.Attrs.length x_a_c0], .agg #[str x_b.Name, str x_b.Value, .slice x_b_p1 x_b.Attrs.length x_b_c1]]) Tryd.func12 rfl Tryd.ntmps12 rfl fun a hf => ?_
  have hF : Away [] := away_nil
  have hO : Dk.Own w0 [] w0 [] := Dk.Own.refl w0
  have hO := hO.addShr hs0 (by simp [Res.shared])
  have hO := hO.addShr hs1 (by simp [Res.shared])
  refine wp_seq_k fun _ hK3 => ?_
  refine wp_region_list ?_
  refine op_box (v := .agg #[str x_a.Name, str x_a.Value, .slice x_a_p0 x_a.Attrs.length x_a_c0]) (cs := [str x_a.Name, str x_a.Value, .slice x_a_p0 x_a.Attrs.length x_a_c0]) rfl hf rfl rfl hO fun a b1 w hf hO => ?_
  refine op_box (v := .agg #[str x_b.Name, str x_b.Value, .slice x_b_p1 x_b.Attrs.length x_b_c1]) (cs := [str x_b.Name, str x_b.Value, .slice x_b_p1 x_b.Attrs.length x_b_c1]) rfl hf rfl rfl hO fun a b2 w hf hO => ?_
  refine op_val (ex_assign hf rfl) rfl hf rfl rfl fun a hf => ?_
  refine wpList_nil ?_
  refine nor_then (hK3 _ _ ?_)
  refine wp_seq_cut (fun a w => ∃ (t7 : Bool), Fits 24 [(4, .bool t7)] a ∧ Dk.Own w0 [] w [.blk b2 [str x_b.Name, str x_b.Value, .slice x_b_p1 x_b.Attrs.length x_b_c1] 24, .blk b1 [str x_a.Name, str x_a.Value, .slice x_a_p0 x_a.Attrs.length x_a_c0] 24, .shr x_b_p1 (cells enc_api_Attr x_b.Attrs), .shr x_a_p0 (cells enc_api_Attr x_a.Attrs)] ∧ ref28_Same_j1 t7 = some R) ?_ ?_
  · refine wp_region_list ?_
    refine op_val (ex_field fa_24_0 hf rfl) rfl hf rfl rfl fun a hf => ?_
    refine op_val (ex_load1 (o := 0) ag_9 (hO.blkSees (i := 1) rfl) rfl hf rfl) rfl hf rfl rfl fun a hf => ?_
    refine op_val (ex_field fa_24_0 hf rfl) rfl hf rfl rfl fun a hf => ?_
    refine op_val (ex_load1 (o := 0) ag_9 (hO.blkSees (i := 0) rfl) rfl hf rfl) rfl hf rfl rfl fun a hf => ?_
    refine op_val (ex_eql_s (l := x_a.Name) (m := x_b.Name) hf rfl rfl) rfl hf rfl rfl fun a hf => ?_
    refine op_val (ex_move hf rfl) rfl hf rfl rfl fun a hf => ?_
    rcases bcase (x_a.Name == x_b.Name) with hc4 | hc4
    · have hm := it hc4 hm
      refine op_guard rfl hf rfl rfl (hc4) ?_
      refine op_val (ex_field fa_24_1 hf rfl) rfl hf rfl rfl fun a hf => ?_
      refine op_guard rfl hf rfl rfl (hc4) ?_
      refine op_val (ex_load1 (o := 1) ag_9 (hO.blkSees (i := 1) rfl) rfl hf rfl) rfl hf rfl rfl fun a hf => ?_
      refine op_guard rfl hf rfl rfl (hc4) ?_
      refine op_val (ex_field fa_24_1 hf rfl) rfl hf rfl rfl fun a hf => ?_
      refine op_guard rfl hf rfl rfl (hc4) ?_
      refine op_val (ex_load1 (o := 1) ag_9 (hO.blkSees (i := 0) rfl) rfl hf rfl) rfl hf rfl rfl fun a hf => ?_
      refine op_guard rfl hf rfl rfl (hc4) ?_
      refine op_val (ex_eql_s (l := x_a.Value) (m := x_b.Value) hf rfl rfl) rfl hf rfl rfl fun a hf => ?_
      refine op_val (ex_pick_t hf rfl hc4 rfl) rfl hf rfl rfl fun a hf => ?_
      refine op_val (ex_move hf rfl) rfl hf rfl rfl fun a hf => ?_
      rcases bcase (x_a.Value == x_b.Value) with hc5 | hc5
      · have hm := it hc5 hm
        refine op_guard rfl hf rfl rfl (hc5) ?_
        refine op_val (ex_field fa_24_2 hf rfl) rfl hf rfl rfl fun a hf => ?_
        refine op_guard rfl hf rfl rfl (hc5) ?_
        refine op_val (ex_load1 (o := 2) ag_22 (hO.blkSees (i := 1) rfl) rfl hf rfl) rfl hf rfl rfl fun a hf => ?_
        refine op_guard rfl hf rfl rfl (hc5) ?_
        refine op_val (ex_field fa_24_2 hf rfl) rfl hf rfl rfl fun a hf => ?_
        refine op_guard rfl hf rfl rfl (hc5) ?_
        refine op_val (ex_load1 (o := 2) ag_22 (hO.blkSees (i := 0) rfl) rfl hf rfl) rfl hf rfl rfl fun a hf => ?_
        refine op_guard rfl hf rfl rfl (hc5) ?_
        obtain ⟨r6, hr6, hm⟩ := ob hm
        refine op_enter (ex_call c_28 hf (vs := [.slice x_a_p0 x_a.Attrs.length x_a_c0, .slice x_b_p1 x_b.Attrs.length x_b_c1]) rfl) rfl hf rfl rfl (w_ref18_Same x_a.Attrs x_b.Attrs r6 _ (hG.own hF hO) (hO.sees (i := 3) rfl) hc0 (hO.sees (i := 2) rfl) hc1 hr6) ?_
        rintro e w' ⟨he, hb⟩
        refine ⟨_, he, fun a hf => ?_⟩
        have hO := hO.grow hb
        refine op_val (ex_pick_t hf rfl hc5 rfl) rfl hf rfl rfl fun a hf => ?_
        refine op_val (ex_assign hf rfl) rfl hf rfl rfl fun a hf => ?_
        refine wpList_nil ?_
        refine nor_then ?_
        exact ⟨r6, (hf.cons rfl hf.nil), hO, hm⟩
      · have hm := ie hc5 hm
        refine op_pass rfl hf rfl rfl (hc5) rfl rfl fun a hf => ?_
        refine op_pass rfl hf rfl rfl (hc5) rfl rfl fun a hf => ?_
        refine op_pass rfl hf rfl rfl (hc5) rfl rfl fun a hf => ?_
        refine op_pass rfl hf rfl rfl (hc5) rfl rfl fun a hf => ?_
        refine op_pass rfl hf rfl rfl (hc5) rfl rfl fun a hf => ?_
        refine op_val (ex_pick_f hf rfl hc5 rfl) rfl hf rfl rfl fun a hf => ?_
        refine op_val (ex_assign hf rfl) rfl hf rfl rfl fun a hf => ?_
        refine wpList_nil ?_
        refine nor_then ?_
        exact ⟨false, (hf.cons rfl hf.nil), hO, hm⟩
    · have hm := ie hc4 hm
      refine op_pass rfl hf rfl rfl (hc4) rfl rfl fun a hf => ?_
      refine op_pass rfl hf rfl rfl (hc4) rfl rfl fun a hf => ?_
      refine op_pass rfl hf rfl rfl (hc4) rfl rfl fun a hf => ?_
      refine op_pass rfl hf rfl rfl (hc4) rfl rfl fun a hf => ?_
      refine op_pass rfl hf rfl rfl (hc4) rfl rfl fun a hf => ?_
      refine op_val (ex_pick_f hf rfl hc4 rfl) rfl hf rfl rfl fun a hf => ?_
      refine op_val (ex_move hf rfl) rfl hf rfl rfl fun a hf => ?_
      refine op_pass rfl hf rfl rfl (rfl) rfl rfl fun a hf => ?_
      refine op_pass rfl hf rfl rfl (rfl) rfl rfl fun a hf => ?_
      refine op_pass rfl hf rfl rfl (rfl) rfl rfl fun a hf => ?_
      refine op_pass rfl hf rfl rfl (rfl) rfl rfl fun a hf => ?_
      refine op_pass rfl hf rfl rfl (rfl) rfl rfl fun a hf => ?_
      refine op_val (ex_pick_f hf rfl rfl rfl) rfl hf rfl rfl fun a hf => ?_
      refine op_val (ex_assign hf rfl) rfl hf rfl rfl fun a hf => ?_
      refine wpList_nil ?_
      refine nor_then ?_
      exact ⟨false, (hf.cons rfl hf.nil), hO, hm⟩
  · rintro a w ⟨t7, hf, hO, hm⟩
    rw [ref28_Same_j1] at hm
    refine wp_ret ?_
    obtain rfl := Option.some.inj hm
    exact post_ret Tryd.results12 hf (.tmp rfl .nil) ⟨rfl, hO.below⟩

end Go.Proofs
