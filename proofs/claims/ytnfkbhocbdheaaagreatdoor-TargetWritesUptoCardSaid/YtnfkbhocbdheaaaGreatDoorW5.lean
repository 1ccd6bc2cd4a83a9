/-
  Walks, written by a program (wip/gen): what its model says, the function returns; what was there before is as it was.
-/
import Derived.Test.YtnfkbhocbdheaaaGreatDoorLib
import Derived.Test.YtnfkbhocbdheaaaGreatDoorW0
import Derived.Test.YtnfkbhocbdheaaaGreatDoorW1
import Derived.Test.YtnfkbhocbdheaaaGreatDoorW2
import Derived.Test.YtnfkbhocbdheaaaGreatDoorW3
import Derived.Test.YtnfkbhocbdheaaaGreatDoorW4
set_option linter.unusedVariables false
set_option linter.unusedSimpArgs false
set_option maxRecDepth 100000
namespace Go.Proofs
open Go.Dk Go.Dm Go.RowKit

set_option maxHeartbeats 1000000 in
theorem w_ref09_Path (x_s : Str) (R : Bool) (w0 : World) (hG : Glob w0) (hm : ref09_Path x_s = some R) :
    Calls Tryz.prog 68 #[str x_s] w0 fun e w' => e = .returned (.bool R) ∧ Below w0.heap.size w0 w' := by
  rw [ref09_Path] at hm
  refine calls_enter (vs := [str x_s]) Tryz.func68 rfl Tryz.ntmps68 rfl fun a hf => ?_
  have hF : Away [] := away_nil
  have hO : Dk.Own w0 [] w0 [] := Dk.Own.refl w0
  refine wp_seq_k fun _ hK1 => ?_
  refine wp_region_list ?_
  refine op_val (ex_assign hf rfl) rfl hf rfl rfl fun a hf => ?_
  refine wpList_nil ?_
  refine nor_then (hK1 _ _ ?_)
  refine wp_seq_cut (fun a w => ∃ (t6 : Bool), Fits 15 [(2, .bool t6)] a ∧ Dk.Own w0 [] w [] ∧ ref09_Path_j1 t6 = some R) ?_ ?_
  · refine wp_region_list ?_
    refine op_val (ex_move hf rfl) rfl hf rfl rfl fun a hf => ?_
    refine op_val (ex_len_s (l := x_s) Tryz.underlying9 hf rfl) rfl hf rfl rfl fun a hf => ?_
    refine op_val (ex_gtr (m := (x_s.length : Int)) (n := 0) hf rfl rfl) rfl hf rfl rfl fun a hf => ?_
    refine op_val (ex_move hf rfl) rfl hf rfl rfl fun a hf => ?_
    rcases bcase (decide (0 < (x_s.length : Int))) with hc2 | hc2
    · have hm := it hc2 hm
      refine op_guard rfl hf rfl rfl (hc2) ?_
      refine op_val (ex_move hf rfl) rfl hf rfl rfl fun a hf => ?_
      refine op_guard rfl hf rfl rfl (hc2) ?_
      obtain ⟨b3, hb3, hm⟩ := ob hm
      refine op_val (ex_index (l := x_s) Tryz.underlying9 hf rfl rfl hb3) rfl hf rfl rfl fun a hf => ?_
      refine op_guard rfl hf rfl rfl (hc2) ?_
      refine op_val (ex_eql_b (b := b3) (c := 47) hf rfl rfl) rfl hf rfl rfl fun a hf => ?_
      refine op_val (ex_pick_t hf rfl hc2 rfl) rfl hf rfl rfl fun a hf => ?_
      refine op_val (ex_move hf rfl) rfl hf rfl rfl fun a hf => ?_
      rcases bcase (b3 == 47) with hc4 | hc4
      · have hm := it hc4 hm
        refine op_guard rfl hf rfl rfl (hc4) ?_
        refine op_val (ex_move hf rfl) rfl hf rfl rfl fun a hf => ?_
        refine op_guard rfl hf rfl rfl (hc4) ?_
        obtain ⟨r5, hr5, hm⟩ := ob hm
        refine op_enter (ex_call c_69 hf (vs := [str x_s, str [47]]) rfl) rfl hf rfl rfl (w_ref09_Of x_s [47] r5 _ (hG.own hF hO) hr5) ?_
        rintro e w' ⟨he, hb⟩
        refine ⟨_, he, fun a hf => ?_⟩
        have hO := hO.grow hb
        refine op_val (ex_pick_t hf rfl hc4 rfl) rfl hf rfl rfl fun a hf => ?_
        refine op_val (ex_assign hf rfl) rfl hf rfl rfl fun a hf => ?_
        refine wpList_nil ?_
        refine nor_then ?_
        exact ⟨r5, (hf.cons rfl hf.nil), hO, hm⟩
      · have hm := ie hc4 hm
        refine op_pass rfl hf rfl rfl (hc4) rfl rfl fun a hf => ?_
        refine op_pass rfl hf rfl rfl (hc4) rfl rfl fun a hf => ?_
        refine op_val (ex_pick_f hf rfl hc4 rfl) rfl hf rfl rfl fun a hf => ?_
        refine op_val (ex_assign hf rfl) rfl hf rfl rfl fun a hf => ?_
        refine wpList_nil ?_
        refine nor_then ?_
        exact ⟨false, (hf.cons rfl hf.nil), hO, hm⟩
    · have hm := ie hc2 hm
      refine op_pass rfl hf rfl rfl (hc2) rfl rfl fun a hf => ?_
      refine op_pass rfl hf rfl rfl (hc2) rfl rfl fun a hf => ?_
      refine op_pass rfl hf rfl rfl (hc2) rfl rfl fun a hf => ?_
      refine op_val (ex_pick_f hf rfl hc2 rfl) rfl hf rfl rfl fun a hf => ?_
      refine op_val (ex_move hf rfl) rfl hf rfl rfl fun a hf => ?_
      refine op_pass rfl hf rfl rfl (rfl) rfl rfl fun a hf => ?_
      refine op_pass rfl hf rfl rfl (rfl) rfl rfl fun a hf => ?_
      refine op_val (ex_pick_f hf rfl rfl rfl) rfl hf rfl rfl fun a hf => ?_
      refine op_val (ex_assign hf rfl) rfl hf rfl rfl fun a hf => ?_
      refine wpList_nil ?_
      refine nor_then ?_
      exact ⟨false, (hf.cons rfl hf.nil), hO, hm⟩
  · rintro a w ⟨t6, hf, hO, hm⟩
    rw [ref09_Path_j1] at hm
    refine wp_ret ?_
    obtain rfl := Option.some.inj hm
    exact post_ret Tryz.results68 hf (.tmp rfl .nil) ⟨rfl, hO.below⟩

set_option maxHeartbeats 1000000 in
theorem w_ref09_Query (x_s : Str) (R : Bool) (w0 : World) (hG : Glob w0) (hm : ref09_Query x_s = some R) :
    Calls Tryz.prog 36 #[str x_s] w0 fun e w' => e = .returned (.bool R) ∧ Below w0.heap.size w0 w' := by
  rw [ref09_Query] at hm
  refine calls_enter (vs := [str x_s]) Tryz.func36 rfl Tryz.ntmps36 rfl fun a hf => ?_
  have hF : Away [] := away_nil
  have hO : Dk.Own w0 [] w0 [] := Dk.Own.refl w0
  refine wp_seq_k fun _ hK1 => ?_
  refine wp_region_list ?_
  refine op_val (ex_assign hf rfl) rfl hf rfl rfl fun a hf => ?_
  refine wpList_nil ?_
  refine nor_then (hK1 _ _ ?_)
  refine wp_seq_k fun _ hK3 => ?_
  refine wp_region_list ?_
  refine op_val (ex_move hf rfl) rfl hf rfl rfl fun a hf => ?_
  obtain ⟨r2, hr2, hm⟩ := ob hm
  refine op_enter (ex_call c_69 hf (vs := [str x_s, str [47, 63]]) rfl) rfl hf rfl rfl (w_ref09_Of x_s [47, 63] r2 _ (hG.own hF hO) hr2) ?_
  rintro e w' ⟨he, hb⟩
  refine ⟨_, he, fun a hf => ?_⟩
  have hO := hO.grow hb
  refine op_val (ex_assign hf rfl) rfl hf rfl rfl fun a hf => ?_
  refine wpList_nil ?_
  refine nor_then (hK3 _ _ ?_)
  refine wp_ret ?_
  obtain rfl := Option.some.inj hm
  exact post_ret Tryz.results36 hf (.tmp rfl .nil) ⟨rfl, hO.below⟩

set_option maxHeartbeats 1000000 in
theorem w_ref10_origin (x_t : api_Target) (x_s : Str) (R : api_Target × Bool) (w0 : World) (hG : Glob w0) (hm : ref10_origin x_t x_s = some R) :
    Calls Tryz.prog 34 #[.agg #[int x_t.Kind, str x_t.Scheme, int x_t.Host.Kind, str x_t.Host.Name, int x_t.Host.Port, str x_t.Path, str x_t.Query, .bool x_t.HasQuery], str x_s] w0 fun e w' => e = .returned (.tuple #[.agg #[int R.1.Kind, str R.1.Scheme, int R.1.Host.Kind, str R.1.Host.Name, int R.1.Host.Port, str R.1.Path, str R.1.Query, .bool R.1.HasQuery], .bool R.2]) ∧ Below w0.heap.size w0 w' := by
  rw [ref10_origin] at hm
  refine calls_enter (vs := [.agg #[int x_t.Kind, str x_t.Scheme, int x_t.Host.Kind, str x_t.Host.Name, int x_t.Host.Port, str x_t.Path, str x_t.Query, .bool x_t.HasQuery], str x_s]) Tryz.func34 rfl Tryz.ntmps34 rfl fun a hf => ?_
  have hF : Away [] := away_nil
  have hO : Dk.Own w0 [] w0 [] := Dk.Own.refl w0
  refine wp_seq_k fun _ hK3 => ?_
  refine wp_region_list ?_
  refine op_box (v := .agg #[int x_t.Kind, str x_t.Scheme, int x_t.Host.Kind, str x_t.Host.Name, int x_t.Host.Port, str x_t.Path, str x_t.Query, .bool x_t.HasQuery]) (cs := [int x_t.Kind, str x_t.Scheme, int x_t.Host.Kind, str x_t.Host.Name, int x_t.Host.Port, str x_t.Path, str x_t.Query, .bool x_t.HasQuery]) rfl hf rfl rfl hO fun a b1 w hf hO => ?_
  refine op_alloc al_29 hf rfl hO fun a b2 w hf hO => ?_
  refine op_val (ex_assign hf rfl) rfl hf rfl rfl fun a hf => ?_
  refine wpList_nil ?_
  refine nor_then (hK3 _ _ ?_)
  refine wp_seq_k fun _ hK5 => ?_
  refine wp_region_list ?_
  refine op_val (ex_move hf rfl) rfl hf rfl rfl fun a hf => ?_
  obtain ⟨r4, hr4, hm⟩ := ob hm
  refine op_enter (ex_call c_67 hf (vs := [str x_s]) rfl) rfl hf rfl rfl (w_ref09_Mark x_s r4 _ (hG.own hF hO) hr4) ?_
  rintro e w' ⟨he, hb⟩
  refine ⟨_, he, fun a hf => ?_⟩
  have hO := hO.grow hb
  refine op_val (ex_assign hf rfl) rfl hf rfl rfl fun a hf => ?_
  refine wpList_nil ?_
  refine nor_then (hK5 _ _ ?_)
  refine wp_seq_k fun _ hK7 => ?_
  refine wp_region_list ?_
  refine op_val (ex_move hf rfl) rfl hf rfl rfl fun a hf => ?_
  refine op_val (ex_move hf rfl) rfl hf rfl rfl fun a hf => ?_
  obtain ⟨s6, hs6, hm⟩ := ob hm
  refine op_val (ex_to_s (l := x_s) Tryz.underlying9 hf rfl rfl hs6) rfl hf rfl rfl fun a hf => ?_
  refine op_val (ex_field fa_29_3 hf rfl) rfl hf rfl rfl fun a hf => ?_
  refine op_store1 (i := 1) (o := 5) (v := str s6) sz_9 rfl rfl rfl rfl hf rfl rfl hO fun w hO => ?_
  refine wpList_nil ?_
  refine nor_then (hK7 _ _ ?_)
  refine wp_seq_k fun _ hK8 => ?_
  refine wp_region_list ?_
  refine op_val (ex_move hf rfl) rfl hf rfl rfl fun a hf => ?_
  refine op_val (ex_move hf rfl) rfl hf rfl rfl fun a hf => ?_
  refine op_val (ex_len_s (l := x_s) Tryz.underlying9 hf rfl) rfl hf rfl rfl fun a hf => ?_
  refine op_val (ex_lss (m := r4) (n := (x_s.length : Int)) hf rfl rfl) rfl hf rfl rfl fun a hf => ?_
  refine op_val (ex_field fa_29_5 hf rfl) rfl hf rfl rfl fun a hf => ?_
  refine op_store1 (i := 1) (o := 7) (v := .bool (decide (r4 < (x_s.length : Int)))) sz_4 rfl rfl rfl rfl hf rfl rfl hO fun w hO => ?_
  refine wpList_nil ?_
  refine nor_then (hK8 _ _ ?_)
  refine wp_seq_cut (fun a w => ∃ (s13 : Str), Fits 34 [(2, ptr b1 0), (4, ptr b2 0)] a ∧ Dk.Own w0 [] w [.blk b2 [int 0, str [], int 0, str [], int 0, str [], str [], .bool false] 29, .blk b1 [int x_t.Kind, str x_t.Scheme, int x_t.Host.Kind, str x_t.Host.Name, int x_t.Host.Port, str s6, str s13, .bool (decide (r4 < (x_s.length : Int)))] 29] ∧ ref10_origin_j1 x_t x_s r4 s6 s13 = some R) ?_ ?_
  · refine wp_seq_k fun _ hK9 => ?_
    refine wp_region_list ?_
    refine op_val (ex_field fa_29_5 hf rfl) rfl hf rfl rfl fun a hf => ?_
    refine op_val (ex_load1 (o := 7) ag_4 (hO.blkSees (i := 1) rfl) rfl hf rfl) rfl hf rfl rfl fun a hf => ?_
    refine wpList_nil ?_
    refine nor_then (hK9 _ _ ?_)
    refine wp_cond_cut hf rfl (fun hc10 => ?_) (fun hc10 => ?_)
    · have hm := it hc10 hm
      refine wp_region_list ?_
      refine op_val (ex_move hf rfl) rfl hf rfl rfl fun a hf => ?_
      refine op_val (ex_move hf rfl) rfl hf rfl rfl fun a hf => ?_
      obtain ⟨i11, hi11, hm⟩ := ob hm
      refine op_val (ex_add hf rfl rfl hi11) rfl hf rfl rfl fun a hf => ?_
      obtain ⟨s12, hs12, hm⟩ := ob hm
      refine op_val (ex_from_s (l := x_s) Tryz.underlying9 hf rfl rfl hs12) rfl hf rfl rfl fun a hf => ?_
      refine op_val (ex_field fa_29_4 hf rfl) rfl hf rfl rfl fun a hf => ?_
      refine op_store1 (i := 1) (o := 6) (v := str s12) sz_9 rfl rfl rfl rfl hf rfl rfl hO fun w hO => ?_
      refine wpList_nil ?_
      refine nor_then ?_
      exact ⟨s12, (hf.cons rfl (hf.cons rfl hf.nil)), hO, hm⟩
    · have hm := ie hc10 hm
      refine wp_skip ?_
      refine nor_then ?_
      exact ⟨x_t.Query, (hf.cons rfl (hf.cons rfl hf.nil)), hO, hm⟩
  · rintro a w ⟨s13, hf, hO, hm⟩
    rw [ref10_origin_j1] at hm
    refine wp_seq_cut (fun a w => ∃ (t17 : Bool), Fits 34 [(4, ptr b2 0), (5, .bool t17)] a ∧ Dk.Own w0 [] w [.blk b2 [int x_t.Kind, str x_t.Scheme, int x_t.Host.Kind, str x_t.Host.Name, int x_t.Host.Port, str s6, str s13, .bool (decide (r4 < (x_s.length : Int)))] 29, .blk b1 [int x_t.Kind, str x_t.Scheme, int x_t.Host.Kind, str x_t.Host.Name, int x_t.Host.Port, str s6, str s13, .bool (decide (r4 < (x_s.length : Int)))] 29] ∧ ref10_origin_j2 x_t x_s r4 s6 s13 t17 = some R) ?_ ?_
    · obtain ⟨r14, hr14, hm⟩ := ob hm
      rcases bcase (r14) with hc15 | hc15
      · have hm := it hc15 hm
        obtain ⟨r16, hr16, hm⟩ := ob hm
        refine wp_drawG' (S := Unit) (E0 := [(2, ptr b1 0), (4, ptr b2 0)]) (by kernel_rfl) (fun k σ w => match k with | 0 => Dk.Own w0 [] w [.blk b2 [int 0, str [], int 0, str [], int 0, str [], str [], .bool false] 29, .blk b1 [int x_t.Kind, str x_t.Scheme, int x_t.Host.Kind, str x_t.Host.Name, int x_t.Host.Port, str s6, str s13, .bool (decide (r4 < (x_s.length : Int)))] 29] | 1 => Dk.Own w0 [] w [.blk b2 [int 0, str [], int 0, str [], int 0, str [], str [], .bool false] 29, .blk b1 [int x_t.Kind, str x_t.Scheme, int x_t.Host.Kind, str x_t.Host.Name, int x_t.Host.Port, str s6, str s13, .bool (decide (r4 < (x_s.length : Int)))] 29] | 2 => Dk.Own w0 [] w [.blk b2 [int 0, str [], int 0, str [], int 0, str [], str [], .bool false] 29, .blk b1 [int x_t.Kind, str x_t.Scheme, int x_t.Host.Kind, str x_t.Host.Name, int x_t.Host.Port, str s6, str s13, .bool (decide (r4 < (x_s.length : Int)))] 29] | _ => Dk.Own w0 [] w [.blk b2 [int x_t.Kind, str x_t.Scheme, int x_t.Host.Kind, str x_t.Host.Name, int x_t.Host.Port, str s6, str s13, .bool (decide (r4 < (x_s.length : Int)))] 29, .blk b1 [int x_t.Kind, str x_t.Scheme, int x_t.Host.Kind, str x_t.Host.Name, int x_t.Host.Port, str s6, str s13, .bool (decide (r4 < (x_s.length : Int)))] 29]) (fun σ => [⟨[(2, ptr b1 0)], some (25, .agg #[int x_t.Kind, str x_t.Scheme, int x_t.Host.Kind, str x_t.Host.Name, int x_t.Host.Port, str s6, str s13, .bool (decide (r4 < (x_s.length : Int)))])⟩, ⟨[(2, ptr b1 0)], some (26, ptr b1 5)⟩, ⟨[(26, ptr b1 5)], some (27, str s6)⟩, ⟨[(27, str s6)], some (28, .bool r14)⟩, ⟨[(28, .bool r14)], some (29, .bool r14)⟩, ⟨[(2, ptr b1 0), (29, .bool r14)], some (30, ptr b1 6)⟩, ⟨[(30, ptr b1 6), (29, .bool r14)], some (31, str s13)⟩, ⟨[(31, str s13), (29, .bool r14)], some (32, .bool r16)⟩, ⟨[(29, .bool r14), (32, .bool r16)], some (33, .bool r16)⟩, ⟨[(4, ptr b2 0), (25, .agg #[int x_t.Kind, str x_t.Scheme, int x_t.Host.Kind, str x_t.Host.Name, int x_t.Host.Port, str s6, str s13, .bool (decide (r4 < (x_s.length : Int)))])], none⟩, ⟨[(33, .bool r16)], some (5, .bool r16)⟩]) () [3, 7, 9] [] ⟨g_none rfl rfl, ⟨g_none rfl rfl, ⟨g_none rfl rfl, ⟨g_none rfl rfl, ⟨g_none rfl rfl, ⟨g_some (u := fun σ => r14) rfl (fun σ => rfl) rfl (fun σ => rfl) (fun σ => by rw [hc15] <;> rfl), ⟨g_some (u := fun σ => r14) rfl (fun σ => rfl) rfl (fun σ => rfl) (fun σ => by rw [hc15] <;> rfl), ⟨g_some (u := fun σ => r14) rfl (fun σ => rfl) rfl (fun σ => rfl) (fun σ => by rw [hc15] <;> rfl), ⟨g_none rfl rfl, ⟨g_none rfl rfl, ⟨g_none rfl rfl, trivial⟩⟩⟩⟩⟩⟩⟩⟩⟩⟩⟩ (fun σ => ⟨.inl rfl, ⟨.inl rfl, ⟨.inl rfl, ⟨.inl rfl, ⟨.inl rfl, ⟨.inl rfl, ⟨.inl rfl, ⟨.inl rfl, ⟨.inl rfl, ⟨.inl rfl, ⟨.inl rfl, trivial⟩⟩⟩⟩⟩⟩⟩⟩⟩⟩⟩) (fun _ => rfl) (fun _ => rfl) (fun _ => rfl) rfl rfl (by decide) rfl hO.drew (hf.cons rfl (hf.cons rfl hf.nil)) (fun σ => ⟨⟨rfl, trivial⟩, ⟨⟨rfl, trivial⟩, ⟨⟨rfl, trivial⟩, ⟨⟨rfl, trivial⟩, ⟨⟨rfl, trivial⟩, ⟨⟨rfl, ⟨rfl, trivial⟩⟩, ⟨⟨rfl, ⟨rfl, trivial⟩⟩, ⟨⟨rfl, ⟨rfl, trivial⟩⟩, ⟨⟨rfl, ⟨rfl, trivial⟩⟩, ⟨⟨rfl, ⟨rfl, trivial⟩⟩, ⟨⟨rfl, trivial⟩, trivial⟩⟩⟩⟩⟩⟩⟩⟩⟩⟩⟩) ⟨.inr ⟨rfl, sS_pure rfl (fun σ => rfl) (fun σ => rfl) (fun σ a w k hk hlo hup hst hf => match k, hk, hlo, hup, hst, hf with | 0, _, _, _, hst, hf => have hO : Dk.Own w0 [] w [.blk b2 [int 0, str [], int 0, str [], int 0, str [], str [], .bool false] 29, .blk b1 [int x_t.Kind, str x_t.Scheme, int x_t.Host.Kind, str x_t.Host.Name, int x_t.Host.Port, str s6, str s13, .bool (decide (r4 < (x_s.length : Int)))] 29] := hst; ex_loadN (o := 0) (vs := [int x_t.Kind, str x_t.Scheme, int x_t.Host.Kind, str x_t.Host.Name, int x_t.Host.Port, str s6, str s13, .bool (decide (r4 < (x_s.length : Int)))]) ag_29 sz_29 (hO.blkSees (i := 1) rfl) rfl rfl hf rfl | 1, _, _, _, hst, hf => have hO : Dk.Own w0 [] w [.blk b2 [int 0, str [], int 0, str [], int 0, str [], str [], .bool false] 29, .blk b1 [int x_t.Kind, str x_t.Scheme, int x_t.Host.Kind, str x_t.Host.Name, int x_t.Host.Port, str s6, str s13, .bool (decide (r4 < (x_s.length : Int)))] 29] := hst; ex_loadN (o := 0) (vs := [int x_t.Kind, str x_t.Scheme, int x_t.Host.Kind, str x_t.Host.Name, int x_t.Host.Port, str s6, str s13, .bool (decide (r4 < (x_s.length : Int)))]) ag_29 sz_29 (hO.blkSees (i := 1) rfl) rfl rfl hf rfl | 2, _, _, _, hst, hf => have hO : Dk.Own w0 [] w [.blk b2 [int 0, str [], int 0, str [], int 0, str [], str [], .bool false] 29, .blk b1 [int x_t.Kind, str x_t.Scheme, int x_t.Host.Kind, str x_t.Host.Name, int x_t.Host.Port, str s6, str s13, .bool (decide (r4 < (x_s.length : Int)))] 29] := hst; ex_loadN (o := 0) (vs := [int x_t.Kind, str x_t.Scheme, int x_t.Host.Kind, str x_t.Host.Name, int x_t.Host.Port, str s6, str s13, .bool (decide (r4 < (x_s.length : Int)))]) ag_29 sz_29 (hO.blkSees (i := 1) rfl) rfl rfl hf rfl | 3, _, _, _, hst, hf => have hO : Dk.Own w0 [] w [.blk b2 [int x_t.Kind, str x_t.Scheme, int x_t.Host.Kind, str x_t.Host.Name, int x_t.Host.Port, str s6, str s13, .bool (decide (r4 < (x_s.length : Int)))] 29, .blk b1 [int x_t.Kind, str x_t.Scheme, int x_t.Host.Kind, str x_t.Host.Name, int x_t.Host.Port, str s6, str s13, .bool (decide (r4 < (x_s.length : Int)))] 29] := hst; ex_loadN (o := 0) (vs := [int x_t.Kind, str x_t.Scheme, int x_t.Host.Kind, str x_t.Host.Name, int x_t.Host.Port, str s6, str s13, .bool (decide (r4 < (x_s.length : Int)))]) ag_29 sz_29 (hO.blkSees (i := 1) rfl) rfl rfl hf rfl | k + 4, hk, _, _, _, _ => absurd hk (by simp))⟩, ⟨.inr ⟨rfl, sS_pure rfl (fun σ => rfl) (fun σ => rfl) (fun σ a w k _ _ _ _ hf => ex_field fa_29_3 hf rfl)⟩, ⟨.inr ⟨rfl, sS_pure rfl (fun σ => rfl) (fun σ => rfl) (fun σ a w k hk hlo hup hst hf => match k, hk, hlo, hup, hst, hf with | 0, _, _, _, hst, hf => have hO : Dk.Own w0 [] w [.blk b2 [int 0, str [], int 0, str [], int 0, str [], str [], .bool false] 29, .blk b1 [int x_t.Kind, str x_t.Scheme, int x_t.Host.Kind, str x_t.Host.Name, int x_t.Host.Port, str s6, str s13, .bool (decide (r4 < (x_s.length : Int)))] 29] := hst; ex_load1 (o := 5) ag_9 (hO.blkSees (i := 1) rfl) rfl hf rfl | 1, _, _, _, hst, hf => have hO : Dk.Own w0 [] w [.blk b2 [int 0, str [], int 0, str [], int 0, str [], str [], .bool false] 29, .blk b1 [int x_t.Kind, str x_t.Scheme, int x_t.Host.Kind, str x_t.Host.Name, int x_t.Host.Port, str s6, str s13, .bool (decide (r4 < (x_s.length : Int)))] 29] := hst; ex_load1 (o := 5) ag_9 (hO.blkSees (i := 1) rfl) rfl hf rfl | 2, _, _, _, hst, hf => have hO : Dk.Own w0 [] w [.blk b2 [int 0, str [], int 0, str [], int 0, str [], str [], .bool false] 29, .blk b1 [int x_t.Kind, str x_t.Scheme, int x_t.Host.Kind, str x_t.Host.Name, int x_t.Host.Port, str s6, str s13, .bool (decide (r4 < (x_s.length : Int)))] 29] := hst; ex_load1 (o := 5) ag_9 (hO.blkSees (i := 1) rfl) rfl hf rfl | 3, _, _, _, hst, hf => have hO : Dk.Own w0 [] w [.blk b2 [int x_t.Kind, str x_t.Scheme, int x_t.Host.Kind, str x_t.Host.Name, int x_t.Host.Port, str s6, str s13, .bool (decide (r4 < (x_s.length : Int)))] 29, .blk b1 [int x_t.Kind, str x_t.Scheme, int x_t.Host.Kind, str x_t.Host.Name, int x_t.Host.Port, str s6, str s13, .bool (decide (r4 < (x_s.length : Int)))] 29] := hst; ex_load1 (o := 5) ag_9 (hO.blkSees (i := 1) rfl) rfl hf rfl | k + 4, hk, _, _, _, _ => absurd hk (by simp))⟩, ⟨.inr ⟨rfl, sS_call rfl (fun σ => rfl) (fun σ => rfl) rfl (fun σ a w (_ : _) hf => ex_call c_68 hf (vs := [str s6]) rfl) (fun σ w (hO : Dk.Own w0 [] w [.blk b2 [int 0, str [], int 0, str [], int 0, str [], str [], .bool false] 29, .blk b1 [int x_t.Kind, str x_t.Scheme, int x_t.Host.Kind, str x_t.Host.Name, int x_t.Host.Port, str s6, str s13, .bool (decide (r4 < (x_s.length : Int)))] 29]) => (w_ref09_Path s6 r14 _ (hG.own hF hO) hr14).mono fun e w' h => by obtain ⟨he, hb⟩ := h; exact ⟨(), he, hO.grow hb, ⟨.inr rfl, ⟨.inr rfl, ⟨.inr rfl, ⟨.inr rfl, ⟨.inr rfl, ⟨.inr rfl, ⟨.inr rfl, ⟨.inr rfl, ⟨.inr rfl, ⟨.inr rfl, ⟨.inr rfl, trivial⟩⟩⟩⟩⟩⟩⟩⟩⟩⟩⟩⟩)⟩, ⟨.inr ⟨rfl, sS_pure rfl (fun σ => rfl) (fun σ => rfl) (fun σ a w k _ _ _ _ hf => ex_move hf rfl)⟩, ⟨.inr ⟨rfl, sS_pure rfl (fun σ => rfl) (fun σ => rfl) (fun σ a w k _ _ _ _ hf => ex_field fa_29_4 hf rfl)⟩, ⟨.inr ⟨rfl, sS_pure rfl (fun σ => rfl) (fun σ => rfl) (fun σ a w k hk hlo hup hst hf => match k, hk, hlo, hup, hst, hf with | 0, _, _, _, hst, hf => have hO : Dk.Own w0 [] w [.blk b2 [int 0, str [], int 0, str [], int 0, str [], str [], .bool false] 29, .blk b1 [int x_t.Kind, str x_t.Scheme, int x_t.Host.Kind, str x_t.Host.Name, int x_t.Host.Port, str s6, str s13, .bool (decide (r4 < (x_s.length : Int)))] 29] := hst; ex_load1 (o := 6) ag_9 (hO.blkSees (i := 1) rfl) rfl hf rfl | 1, _, _, _, hst, hf => have hO : Dk.Own w0 [] w [.blk b2 [int 0, str [], int 0, str [], int 0, str [], str [], .bool false] 29, .blk b1 [int x_t.Kind, str x_t.Scheme, int x_t.Host.Kind, str x_t.Host.Name, int x_t.Host.Port, str s6, str s13, .bool (decide (r4 < (x_s.length : Int)))] 29] := hst; ex_load1 (o := 6) ag_9 (hO.blkSees (i := 1) rfl) rfl hf rfl | 2, _, _, _, hst, hf => have hO : Dk.Own w0 [] w [.blk b2 [int 0, str [], int 0, str [], int 0, str [], str [], .bool false] 29, .blk b1 [int x_t.Kind, str x_t.Scheme, int x_t.Host.Kind, str x_t.Host.Name, int x_t.Host.Port, str s6, str s13, .bool (decide (r4 < (x_s.length : Int)))] 29] := hst; ex_load1 (o := 6) ag_9 (hO.blkSees (i := 1) rfl) rfl hf rfl | 3, _, _, _, hst, hf => have hO : Dk.Own w0 [] w [.blk b2 [int x_t.Kind, str x_t.Scheme, int x_t.Host.Kind, str x_t.Host.Name, int x_t.Host.Port, str s6, str s13, .bool (decide (r4 < (x_s.length : Int)))] 29, .blk b1 [int x_t.Kind, str x_t.Scheme, int x_t.Host.Kind, str x_t.Host.Name, int x_t.Host.Port, str s6, str s13, .bool (decide (r4 < (x_s.length : Int)))] 29] := hst; ex_load1 (o := 6) ag_9 (hO.blkSees (i := 1) rfl) rfl hf rfl | k + 4, hk, _, _, _, _ => absurd hk (by simp))⟩, ⟨.inr ⟨rfl, sS_call rfl (fun σ => rfl) (fun σ => rfl) rfl (fun σ a w (_ : _) hf => ex_call c_36 hf (vs := [str s13]) rfl) (fun σ w (hO : Dk.Own w0 [] w [.blk b2 [int 0, str [], int 0, str [], int 0, str [], str [], .bool false] 29, .blk b1 [int x_t.Kind, str x_t.Scheme, int x_t.Host.Kind, str x_t.Host.Name, int x_t.Host.Port, str s6, str s13, .bool (decide (r4 < (x_s.length : Int)))] 29]) => (w_ref09_Query s13 r16 _ (hG.own hF hO) hr16).mono fun e w' h => by obtain ⟨he, hb⟩ := h; exact ⟨(), he, hO.grow hb, ⟨.inr rfl, ⟨.inr rfl, ⟨.inr rfl, ⟨.inr rfl, ⟨.inr rfl, ⟨.inr rfl, ⟨.inr rfl, ⟨.inr rfl, ⟨.inr rfl, ⟨.inr rfl, ⟨.inr rfl, trivial⟩⟩⟩⟩⟩⟩⟩⟩⟩⟩⟩⟩)⟩, ⟨.inr ⟨rfl, sS_pure rfl (fun σ => rfl) (fun σ => rfl) (fun σ a w k _ _ _ _ hf => ex_pick_t hf rfl hc15 rfl)⟩, ⟨.inr ⟨rfl, sS_skip rfl (fun σ => rfl) (fun σ => rfl) rfl (fun σ w (hO : Dk.Own w0 [] w [.blk b2 [int 0, str [], int 0, str [], int 0, str [], str [], .bool false] 29, .blk b1 [int x_t.Kind, str x_t.Scheme, int x_t.Host.Kind, str x_t.Host.Name, int x_t.Host.Port, str s6, str s13, .bool (decide (r4 < (x_s.length : Int)))] 29]) => by obtain ⟨w', hO', hr⟩ := ef_storeN (x := (.tmp 4)) (y := (.tmp 25)) (E := [(4, ptr b2 0), (25, .agg #[int x_t.Kind, str x_t.Scheme, int x_t.Host.Kind, str x_t.Host.Name, int x_t.Host.Port, str s6, str s13, .bool (decide (r4 < (x_s.length : Int)))])]) (i := 0) (n := 8) (vs := [int x_t.Kind, str x_t.Scheme, int x_t.Host.Kind, str x_t.Host.Name, int x_t.Host.Port, str s6, str s13, .bool (decide (r4 < (x_s.length : Int)))]) sz_29 rfl rfl rfl (by simp [Value.oneCell']) hO rfl rfl; exact ⟨(), w', hO', ⟨.inr rfl, ⟨.inr rfl, ⟨.inr rfl, ⟨.inr rfl, ⟨.inr rfl, ⟨.inr rfl, ⟨.inr rfl, ⟨.inr rfl, ⟨.inr rfl, ⟨.inr rfl, ⟨.inr rfl, trivial⟩⟩⟩⟩⟩⟩⟩⟩⟩⟩⟩, hr⟩)⟩, ⟨.inr ⟨rfl, sS_pure rfl (fun σ => rfl) (fun σ => rfl) (fun σ a w k _ _ _ _ hf => ex_assign hf rfl)⟩, trivial⟩⟩⟩⟩⟩⟩⟩⟩⟩⟩⟩ ?_
        rintro _ a w hf hO
        have hO : Dk.Own w0 [] w [.blk b2 [int x_t.Kind, str x_t.Scheme, int x_t.Host.Kind, str x_t.Host.Name, int x_t.Host.Port, str s6, str s13, .bool (decide (r4 < (x_s.length : Int)))] 29, .blk b1 [int x_t.Kind, str x_t.Scheme, int x_t.Host.Kind, str x_t.Host.Name, int x_t.Host.Port, str s6, str s13, .bool (decide (r4 < (x_s.length : Int)))] 29] := hO
        have hf : Fits 34 [(4, ptr b2 0), (5, .bool r16)] a := (hf.cons rfl (hf.cons rfl hf.nil))
        refine nor_then ?_
        exact ⟨r16, (hf.cons rfl (hf.cons rfl hf.nil)), hO, hm⟩
      · have hm := ie hc15 hm
        refine wp_drawG' (S := Unit) (E0 := [(2, ptr b1 0), (4, ptr b2 0)]) (by kernel_rfl) (fun k σ w => match k with | 0 => Dk.Own w0 [] w [.blk b2 [int 0, str [], int 0, str [], int 0, str [], str [], .bool false] 29, .blk b1 [int x_t.Kind, str x_t.Scheme, int x_t.Host.Kind, str x_t.Host.Name, int x_t.Host.Port, str s6, str s13, .bool (decide (r4 < (x_s.length : Int)))] 29] | 1 => Dk.Own w0 [] w [.blk b2 [int 0, str [], int 0, str [], int 0, str [], str [], .bool false] 29, .blk b1 [int x_t.Kind, str x_t.Scheme, int x_t.Host.Kind, str x_t.Host.Name, int x_t.Host.Port, str s6, str s13, .bool (decide (r4 < (x_s.length : Int)))] 29] | _ => Dk.Own w0 [] w [.blk b2 [int x_t.Kind, str x_t.Scheme, int x_t.Host.Kind, str x_t.Host.Name, int x_t.Host.Port, str s6, str s13, .bool (decide (r4 < (x_s.length : Int)))] 29, .blk b1 [int x_t.Kind, str x_t.Scheme, int x_t.Host.Kind, str x_t.Host.Name, int x_t.Host.Port, str s6, str s13, .bool (decide (r4 < (x_s.length : Int)))] 29]) (fun σ => [⟨[(2, ptr b1 0)], some (25, .agg #[int x_t.Kind, str x_t.Scheme, int x_t.Host.Kind, str x_t.Host.Name, int x_t.Host.Port, str s6, str s13, .bool (decide (r4 < (x_s.length : Int)))])⟩, ⟨[(2, ptr b1 0)], some (26, ptr b1 5)⟩, ⟨[(26, ptr b1 5)], some (27, str s6)⟩, ⟨[(27, str s6)], some (28, .bool r14)⟩, ⟨[(28, .bool r14)], some (29, .bool r14)⟩, ⟨[(29, .bool r14)], some (30, undef)⟩, ⟨[(29, .bool r14)], some (31, undef)⟩, ⟨[(29, .bool r14)], some (32, undef)⟩, ⟨[(29, .bool r14), (32, undef)], some (33, .bool false)⟩, ⟨[(4, ptr b2 0), (25, .agg #[int x_t.Kind, str x_t.Scheme, int x_t.Host.Kind, str x_t.Host.Name, int x_t.Host.Port, str s6, str s13, .bool (decide (r4 < (x_s.length : Int)))])], none⟩, ⟨[(33, .bool false)], some (5, .bool false)⟩]) () [3, 9] [5, 6, 7] ⟨g_none rfl rfl, ⟨g_none rfl rfl, ⟨g_none rfl rfl, ⟨g_none rfl rfl, ⟨g_none rfl rfl, ⟨g_some (u := fun σ => r14) rfl (fun σ => rfl) rfl (fun σ => rfl) (fun σ => by rw [hc15] <;> rfl), ⟨g_some (u := fun σ => r14) rfl (fun σ => rfl) rfl (fun σ => rfl) (fun σ => by rw [hc15] <;> rfl), ⟨g_some (u := fun σ => r14) rfl (fun σ => rfl) rfl (fun σ => rfl) (fun σ => by rw [hc15] <;> rfl), ⟨g_none rfl rfl, ⟨g_none rfl rfl, ⟨g_none rfl rfl, trivial⟩⟩⟩⟩⟩⟩⟩⟩⟩⟩⟩ (fun σ => ⟨.inl rfl, ⟨.inl rfl, ⟨.inl rfl, ⟨.inl rfl, ⟨.inl rfl, ⟨.inr ⟨rfl, rfl⟩, ⟨.inr ⟨rfl, rfl⟩, ⟨.inr ⟨rfl, rfl⟩, ⟨.inl rfl, ⟨.inl rfl, ⟨.inl rfl, trivial⟩⟩⟩⟩⟩⟩⟩⟩⟩⟩⟩) (fun _ => rfl) (fun _ => rfl) (fun _ => rfl) rfl rfl (by decide) rfl hO.drew (hf.cons rfl (hf.cons rfl hf.nil)) (fun σ => ⟨⟨rfl, trivial⟩, ⟨⟨rfl, trivial⟩, ⟨⟨rfl, trivial⟩, ⟨⟨rfl, trivial⟩, ⟨⟨rfl, trivial⟩, ⟨⟨rfl, trivial⟩, ⟨⟨rfl, trivial⟩, ⟨⟨rfl, trivial⟩, ⟨⟨rfl, ⟨rfl, trivial⟩⟩, ⟨⟨rfl, ⟨rfl, trivial⟩⟩, ⟨⟨rfl, trivial⟩, trivial⟩⟩⟩⟩⟩⟩⟩⟩⟩⟩⟩) ⟨.inr ⟨rfl, sS_pure rfl (fun σ => rfl) (fun σ => rfl) (fun σ a w k hk hlo hup hst hf => match k, hk, hlo, hup, hst, hf with | 0, _, _, _, hst, hf => have hO : Dk.Own w0 [] w [.blk b2 [int 0, str [], int 0, str [], int 0, str [], str [], .bool false] 29, .blk b1 [int x_t.Kind, str x_t.Scheme, int x_t.Host.Kind, str x_t.Host.Name, int x_t.Host.Port, str s6, str s13, .bool (decide (r4 < (x_s.length : Int)))] 29] := hst; ex_loadN (o := 0) (vs := [int x_t.Kind, str x_t.Scheme, int x_t.Host.Kind, str x_t.Host.Name, int x_t.Host.Port, str s6, str s13, .bool (decide (r4 < (x_s.length : Int)))]) ag_29 sz_29 (hO.blkSees (i := 1) rfl) rfl rfl hf rfl | 1, _, _, _, hst, hf => have hO : Dk.Own w0 [] w [.blk b2 [int 0, str [], int 0, str [], int 0, str [], str [], .bool false] 29, .blk b1 [int x_t.Kind, str x_t.Scheme, int x_t.Host.Kind, str x_t.Host.Name, int x_t.Host.Port, str s6, str s13, .bool (decide (r4 < (x_s.length : Int)))] 29] := hst; ex_loadN (o := 0) (vs := [int x_t.Kind, str x_t.Scheme, int x_t.Host.Kind, str x_t.Host.Name, int x_t.Host.Port, str s6, str s13, .bool (decide (r4 < (x_s.length : Int)))]) ag_29 sz_29 (hO.blkSees (i := 1) rfl) rfl rfl hf rfl | 2, _, _, _, hst, hf => have hO : Dk.Own w0 [] w [.blk b2 [int x_t.Kind, str x_t.Scheme, int x_t.Host.Kind, str x_t.Host.Name, int x_t.Host.Port, str s6, str s13, .bool (decide (r4 < (x_s.length : Int)))] 29, .blk b1 [int x_t.Kind, str x_t.Scheme, int x_t.Host.Kind, str x_t.Host.Name, int x_t.Host.Port, str s6, str s13, .bool (decide (r4 < (x_s.length : Int)))] 29] := hst; ex_loadN (o := 0) (vs := [int x_t.Kind, str x_t.Scheme, int x_t.Host.Kind, str x_t.Host.Name, int x_t.Host.Port, str s6, str s13, .bool (decide (r4 < (x_s.length : Int)))]) ag_29 sz_29 (hO.blkSees (i := 1) rfl) rfl rfl hf rfl | k + 3, hk, _, _, _, _ => absurd hk (by simp))⟩, ⟨.inr ⟨rfl, sS_pure rfl (fun σ => rfl) (fun σ => rfl) (fun σ a w k _ _ _ _ hf => ex_field fa_29_3 hf rfl)⟩, ⟨.inr ⟨rfl, sS_pure rfl (fun σ => rfl) (fun σ => rfl) (fun σ a w k hk hlo hup hst hf => match k, hk, hlo, hup, hst, hf with | 0, _, _, _, hst, hf => have hO : Dk.Own w0 [] w [.blk b2 [int 0, str [], int 0, str [], int 0, str [], str [], .bool false] 29, .blk b1 [int x_t.Kind, str x_t.Scheme, int x_t.Host.Kind, str x_t.Host.Name, int x_t.Host.Port, str s6, str s13, .bool (decide (r4 < (x_s.length : Int)))] 29] := hst; ex_load1 (o := 5) ag_9 (hO.blkSees (i := 1) rfl) rfl hf rfl | 1, _, _, _, hst, hf => have hO : Dk.Own w0 [] w [.blk b2 [int 0, str [], int 0, str [], int 0, str [], str [], .bool false] 29, .blk b1 [int x_t.Kind, str x_t.Scheme, int x_t.Host.Kind, str x_t.Host.Name, int x_t.Host.Port, str s6, str s13, .bool (decide (r4 < (x_s.length : Int)))] 29] := hst; ex_load1 (o := 5) ag_9 (hO.blkSees (i := 1) rfl) rfl hf rfl | 2, _, _, _, hst, hf => have hO : Dk.Own w0 [] w [.blk b2 [int x_t.Kind, str x_t.Scheme, int x_t.Host.Kind, str x_t.Host.Name, int x_t.Host.Port, str s6, str s13, .bool (decide (r4 < (x_s.length : Int)))] 29, .blk b1 [int x_t.Kind, str x_t.Scheme, int x_t.Host.Kind, str x_t.Host.Name, int x_t.Host.Port, str s6, str s13, .bool (decide (r4 < (x_s.length : Int)))] 29] := hst; ex_load1 (o := 5) ag_9 (hO.blkSees (i := 1) rfl) rfl hf rfl | k + 3, hk, _, _, _, _ => absurd hk (by simp))⟩, ⟨.inr ⟨rfl, sS_call rfl (fun σ => rfl) (fun σ => rfl) rfl (fun σ a w (_ : _) hf => ex_call c_68 hf (vs := [str s6]) rfl) (fun σ w (hO : Dk.Own w0 [] w [.blk b2 [int 0, str [], int 0, str [], int 0, str [], str [], .bool false] 29, .blk b1 [int x_t.Kind, str x_t.Scheme, int x_t.Host.Kind, str x_t.Host.Name, int x_t.Host.Port, str s6, str s13, .bool (decide (r4 < (x_s.length : Int)))] 29]) => (w_ref09_Path s6 r14 _ (hG.own hF hO) hr14).mono fun e w' h => by obtain ⟨he, hb⟩ := h; exact ⟨(), he, hO.grow hb, ⟨.inr rfl, ⟨.inr rfl, ⟨.inr rfl, ⟨.inr rfl, ⟨.inr rfl, ⟨.inr rfl, ⟨.inr rfl, ⟨.inr rfl, ⟨.inr rfl, ⟨.inr rfl, ⟨.inr rfl, trivial⟩⟩⟩⟩⟩⟩⟩⟩⟩⟩⟩⟩)⟩, ⟨.inr ⟨rfl, sS_pure rfl (fun σ => rfl) (fun σ => rfl) (fun σ a w k _ _ _ _ hf => ex_move hf rfl)⟩, ⟨.inl rfl, ⟨.inl rfl, ⟨.inl rfl, ⟨.inr ⟨rfl, sS_pure rfl (fun σ => rfl) (fun σ => rfl) (fun σ a w k _ _ _ _ hf => ex_pick_f hf rfl hc15 rfl)⟩, ⟨.inr ⟨rfl, sS_skip rfl (fun σ => rfl) (fun σ => rfl) rfl (fun σ w (hO : Dk.Own w0 [] w [.blk b2 [int 0, str [], int 0, str [], int 0, str [], str [], .bool false] 29, .blk b1 [int x_t.Kind, str x_t.Scheme, int x_t.Host.Kind, str x_t.Host.Name, int x_t.Host.Port, str s6, str s13, .bool (decide (r4 < (x_s.length : Int)))] 29]) => by obtain ⟨w', hO', hr⟩ := ef_storeN (x := (.tmp 4)) (y := (.tmp 25)) (E := [(4, ptr b2 0), (25, .agg #[int x_t.Kind, str x_t.Scheme, int x_t.Host.Kind, str x_t.Host.Name, int x_t.Host.Port, str s6, str s13, .bool (decide (r4 < (x_s.length : Int)))])]) (i := 0) (n := 8) (vs := [int x_t.Kind, str x_t.Scheme, int x_t.Host.Kind, str x_t.Host.Name, int x_t.Host.Port, str s6, str s13, .bool (decide (r4 < (x_s.length : Int)))]) sz_29 rfl rfl rfl (by simp [Value.oneCell']) hO rfl rfl; exact ⟨(), w', hO', ⟨.inr rfl, ⟨.inr rfl, ⟨.inr rfl, ⟨.inr rfl, ⟨.inr rfl, ⟨.inr rfl, ⟨.inr rfl, ⟨.inr rfl, ⟨.inr rfl, ⟨.inr rfl, ⟨.inr rfl, trivial⟩⟩⟩⟩⟩⟩⟩⟩⟩⟩⟩, hr⟩)⟩, ⟨.inr ⟨rfl, sS_pure rfl (fun σ => rfl) (fun σ => rfl) (fun σ a w k _ _ _ _ hf => ex_assign hf rfl)⟩, trivial⟩⟩⟩⟩⟩⟩⟩⟩⟩⟩⟩ ?_
        rintro _ a w hf hO
        have hO : Dk.Own w0 [] w [.blk b2 [int x_t.Kind, str x_t.Scheme, int x_t.Host.Kind, str x_t.Host.Name, int x_t.Host.Port, str s6, str s13, .bool (decide (r4 < (x_s.length : Int)))] 29, .blk b1 [int x_t.Kind, str x_t.Scheme, int x_t.Host.Kind, str x_t.Host.Name, int x_t.Host.Port, str s6, str s13, .bool (decide (r4 < (x_s.length : Int)))] 29] := hO
        have hf : Fits 34 [(4, ptr b2 0), (5, .bool false)] a := (hf.cons rfl (hf.cons rfl hf.nil))
        refine nor_then ?_
        exact ⟨false, (hf.cons rfl (hf.cons rfl hf.nil)), hO, hm⟩
    · rintro a w ⟨t17, hf, hO, hm⟩
      rw [ref10_origin_j2] at hm
      refine wp_ret ?_
      obtain rfl := Option.some.inj hm
      exact post_ret Tryz.results34 hf (.cell rfl (run_loadVarN (n := 8) (vs := [int x_t.Kind, str x_t.Scheme, int x_t.Host.Kind, str x_t.Host.Name, int x_t.Host.Port, str s6, str s13, .bool (decide (r4 < (x_s.length : Int)))]) ag_29 sz_29 rfl ((hO.blkSees (i := 0) rfl).cells (o := 0) (n := 8) rfl)) (.tmp rfl .nil)) ⟨rfl, hO.below⟩

set_option maxHeartbeats 1000000 in
theorem w_ref01_Fold (x_s : Str) (R : Str) (w0 : World) (hG : Glob w0) (hm : ref01_Fold x_s = some R) :
    Calls Tryz.prog 35 #[str x_s] w0 fun e w' => e = .returned (str R) ∧ Below w0.heap.size w0 w' := by
  rw [ref01_Fold] at hm
  refine calls_enter (vs := [str x_s]) Tryz.func35 rfl Tryz.ntmps35 rfl fun a hf => ?_
  have hF : Away [] := away_nil
  have hO : Dk.Own w0 [] w0 [] := Dk.Own.refl w0
  refine wp_seq_k fun _ hK1 => ?_
  refine wp_region_list ?_
  refine op_val (ex_assign hf rfl) rfl hf rfl rfl fun a hf => ?_
  refine wpList_nil ?_
  refine nor_then (hK1 _ _ ?_)
  refine wp_seq_k fun _ hK2 => ?_
  refine wp_region_list ?_
  refine op_val (ex_assign hf rfl) rfl hf rfl rfl fun a hf => ?_
  refine wpList_nil ?_
  refine nor_then (hK2 _ _ ?_)
  refine wp_seq_k fun _ hK30 => ?_
  refine wp_seq_k fun _ hK3 => ?_
  refine wp_region_list ?_
  refine op_val (ex_assign hf rfl) rfl hf rfl rfl fun a hf => ?_
  refine wpList_nil ?_
  refine nor_then (hK3 _ _ ?_)
  refine wp_block ?_
  refine wp_loop_n (fun k a w => ∃ (s4 : Str) (i5 : Int), Fits 36 [(0, str x_s), (3, str s4), (4, int i5)] a ∧ Dk.Own w0 [] w [] ∧ ref01_Fold_L1 x_s k s4 i5 = some R) ?_ fuel ?_
  · rintro n1 a w ⟨s4, i5, hf, hO, hm⟩
    obtain _ | n1 := n1
    · rw [ref01_Fold_L1] at hm
      cases hm
    · rw [ref01_Fold_L1] at hm
      refine wp_seq_k fun _ hK8 => ?_
      refine wp_seq_k fun _ hK6 => ?_
      refine wp_region_list ?_
      refine op_val (ex_move hf rfl) rfl hf rfl rfl fun a hf => ?_
      refine op_val (ex_move hf rfl) rfl hf rfl rfl fun a hf => ?_
      refine op_val (ex_len_s (l := x_s) Tryz.underlying9 hf rfl) rfl hf rfl rfl fun a hf => ?_
      refine op_val (ex_lss (m := i5) (n := (x_s.length : Int)) hf rfl rfl) rfl hf rfl rfl fun a hf => ?_
      refine wpList_nil ?_
      refine nor_then (hK6 _ _ ?_)
      refine wp_cond_cut hf rfl (fun hc7 => ?_) (fun hc7 => ?_)
      · have hm := it hc7 hm
        refine wp_skip ?_
        refine nor_then (hK8 _ _ ?_)
        refine wp_seq_k fun _ hK28 => ?_
        refine wp_block ?_
        refine wp_seq_k fun _ hK11 => ?_
        refine wp_region_list ?_
        refine op_val (ex_move hf rfl) rfl hf rfl rfl fun a hf => ?_
        refine op_val (ex_move hf rfl) rfl hf rfl rfl fun a hf => ?_
        refine op_val (ex_move hf rfl) rfl hf rfl rfl fun a hf => ?_
        obtain ⟨i9, hi9, hm⟩ := ob hm
        refine op_val (ex_add hf rfl rfl hi9) rfl hf rfl rfl fun a hf => ?_
        obtain ⟨s10, hs10, hm⟩ := ob hm
        refine op_val (ex_sub_s (l := x_s) Tryz.underlying9 hf rfl rfl rfl hs10) rfl hf rfl rfl fun a hf => ?_
        refine op_val (ex_assign hf rfl) rfl hf rfl rfl fun a hf => ?_
        refine wpList_nil ?_
        refine nor_then (hK11 _ _ ?_)
        refine wp_seq_k fun _ hK26 => ?_
        refine wp_seq_k fun _ hK12 => ?_
        refine wp_region_list ?_
        refine op_val (ex_assign hf rfl) rfl hf rfl rfl fun a hf => ?_
        refine wpList_nil ?_
        refine nor_then (hK12 _ _ ?_)
        refine wp_block ?_
        refine wp_loop_n (fun k a w => ∃ (s13 : Str) (i14 : Int), Fits 36 [(0, str x_s), (3, str s4), (4, int i5), (5, str s13), (6, int i14)] a ∧ Dk.Own w0 [] w [] ∧ ref01_Fold_L2 (ref01_Fold_L1 x_s n1) x_s s4 i5 k s13 i14 = some R) ?_ fuel ?_
        · rintro n2 a w ⟨s13, i14, hf, hO, hm⟩
          obtain _ | n2 := n2
          · rw [ref01_Fold_L2] at hm
            cases hm
          · rw [ref01_Fold_L2] at hm
            refine wp_seq_k fun _ hK17 => ?_
            refine wp_seq_k fun _ hK15 => ?_
            refine wp_region_list ?_
            refine op_val (ex_move hf rfl) rfl hf rfl rfl fun a hf => ?_
            refine op_val (ex_lss (m := i14) (n := 26) hf rfl rfl) rfl hf rfl rfl fun a hf => ?_
            refine wpList_nil ?_
            refine nor_then (hK15 _ _ ?_)
            refine wp_cond_cut hf rfl (fun hc16 => ?_) (fun hc16 => ?_)
            · have hm := it hc16 hm
              refine wp_skip ?_
              refine nor_then (hK17 _ _ ?_)
              refine wp_seq_cut (fun a w => ∃ (s24 : Str), Fits 36 [(0, str x_s), (3, str s4), (4, int i5), (5, str s24), (6, int i14)] a ∧ Dk.Own w0 [] w [] ∧ ref01_Fold_j3 (ref01_Fold_L2 (ref01_Fold_L1 x_s n1) x_s s4 i5 n2) i14 s24 = some R) ?_ ?_
              · refine wp_block ?_
                refine wp_seq_k fun _ hK20 => ?_
                refine wp_quiet (by kernel_rfl) (by kernel_rfl) hO ?_
                refine q_val (fun w hO => ex_move hf rfl) rfl hf rfl rfl fun a hf => ?_
                obtain ⟨b18, hb18, hm⟩ := ob hm
                refine q_val (fun w hO => ex_index (l := [65, 66, 67, 68, 69, 70, 71, 72, 73, 74, 75, 76, 77, 78, 79, 80, 81, 82, 83, 84, 85, 86, 87, 88, 89, 90]) Tryz.underlying9 hf rfl rfl hb18) rfl hf rfl rfl fun a hf => ?_
                refine q_val (fun w hO => ex_move hf rfl) rfl hf rfl rfl fun a hf => ?_
                refine q_val (fun w hO => ex_move hf rfl) rfl hf rfl rfl fun a hf => ?_
                obtain ⟨b19, hb19, hm⟩ := ob hm
                refine q_val (fun w hO => ex_index (l := x_s) Tryz.underlying9 hf rfl rfl hb19) rfl hf rfl rfl fun a hf => ?_
                refine q_val (fun w hO => ex_eql_b (b := b18) (c := b19) hf rfl rfl) rfl hf rfl rfl fun a hf => ?_
                refine wpQuiet_nil ?_
                intro w hO
                refine nor_then (hK20 _ _ ?_)
                refine wp_cond_cut hf rfl (fun hc21 => ?_) (fun hc21 => ?_)
                · have hm := it hc21 hm
                  refine wp_region_list ?_
                  refine op_val (ex_move hf rfl) rfl hf rfl rfl fun a hf => ?_
                  refine op_val (ex_move hf rfl) rfl hf rfl rfl fun a hf => ?_
                  obtain ⟨i22, hi22, hm⟩ := ob hm
                  refine op_val (ex_add hf rfl rfl hi22) rfl hf rfl rfl fun a hf => ?_
                  obtain ⟨s23, hs23, hm⟩ := ob hm
                  refine op_val (ex_sub_s (l := [97, 98, 99, 100, 101, 102, 103, 104, 105, 106, 107, 108, 109, 110, 111, 112, 113, 114, 115, 116, 117, 118, 119, 120, 121, 122]) Tryz.underlying9 hf rfl rfl rfl hs23) rfl hf rfl rfl fun a hf => ?_
                  refine op_val (ex_assign hf rfl) rfl hf rfl rfl fun a hf => ?_
                  refine wpList_nil ?_
                  refine nor_block ?_
                  refine nor_then ?_
                  exact ⟨s23, (hf.cons rfl (hf.cons rfl (hf.cons rfl (hf.cons rfl (hf.cons rfl hf.nil))))), hO, hm⟩
                · have hm := ie hc21 hm
                  refine wp_skip ?_
                  refine nor_block ?_
                  refine nor_then ?_
                  exact ⟨s13, (hf.cons rfl (hf.cons rfl (hf.cons rfl (hf.cons rfl (hf.cons rfl hf.nil))))), hO, hm⟩
              · rintro a w ⟨s24, hf, hO, hm⟩
                rw [ref01_Fold_j3] at hm
                refine wp_region_list ?_
                refine op_val (ex_move hf rfl) rfl hf rfl rfl fun a hf => ?_
                obtain ⟨i25, hi25, hm⟩ := ob hm
                refine op_val (ex_add hf rfl rfl hi25) rfl hf rfl rfl fun a hf => ?_
                refine op_val (ex_assign hf rfl) rfl hf rfl rfl fun a hf => ?_
                refine wpList_nil ?_
                refine nor_then ?_
                exact ⟨_, Nat.lt_succ_self _, s24, i25, (hf.cons rfl (hf.cons rfl (hf.cons rfl (hf.cons rfl (hf.cons rfl hf.nil))))), hO, hm⟩
            · have hm := ie hc16 hm
              refine wp_exit ?_
              refine exit_then ?_
              refine exit_then ?_
              refine exit_here ?_
              refine nor_then (hK26 _ _ ?_)
              refine wp_region_list ?_
              refine op_val (ex_move hf rfl) rfl hf rfl rfl fun a hf => ?_
              refine op_val (ex_move hf rfl) rfl hf rfl rfl fun a hf => ?_
              obtain ⟨s27, hs27, hm⟩ := ob hm
              refine op_val (ex_cat (l := s4) (m := s13) hf rfl rfl hs27) rfl hf rfl rfl fun a hf => ?_
              refine op_val (ex_assign hf rfl) rfl hf rfl rfl fun a hf => ?_
              refine wpList_nil ?_
              refine nor_block ?_
              refine nor_then (hK28 _ _ ?_)
              refine wp_region_list ?_
              refine op_val (ex_move hf rfl) rfl hf rfl rfl fun a hf => ?_
              obtain ⟨i29, hi29, hm⟩ := ob hm
              refine op_val (ex_add hf rfl rfl hi29) rfl hf rfl rfl fun a hf => ?_
              refine op_val (ex_assign hf rfl) rfl hf rfl rfl fun a hf => ?_
              refine wpList_nil ?_
              refine nor_then ?_
              exact ⟨_, Nat.lt_succ_self _, s27, i29, (hf.cons rfl (hf.cons rfl (hf.cons rfl hf.nil))), hO, hm⟩
        · exact ⟨s10, 0, (hf.cons rfl (hf.cons rfl (hf.cons rfl (hf.cons rfl (hf.cons rfl hf.nil))))), hO, hm⟩
      · have hm := ie hc7 hm
        refine wp_exit ?_
        refine exit_then ?_
        refine exit_then ?_
        refine exit_here ?_
        refine nor_then (hK30 _ _ ?_)
        refine wp_seq_k fun _ hK31 => ?_
        refine wp_region_list ?_
        refine op_val (ex_move hf rfl) rfl hf rfl rfl fun a hf => ?_
        refine op_val (ex_assign hf rfl) rfl hf rfl rfl fun a hf => ?_
        refine wpList_nil ?_
        refine nor_then (hK31 _ _ ?_)
        refine wp_ret ?_
        obtain rfl := Option.some.inj hm
        exact post_ret Tryz.results35 hf (.tmp rfl .nil) ⟨rfl, hO.below⟩
  · exact ⟨[], 0, (hf.cons rfl (hf.cons rfl (hf.cons rfl hf.nil))), hO, hm⟩

set_option maxHeartbeats 1000000 in
theorem w_ref10_Parse (x_a0 : Str) (x_a1 : Str) (R : api_Target × Int) (w0 : World) (hG : Glob w0) (hm : ref10_Parse x_a0 x_a1 = some R) :
    Calls Tryz.prog 11 #[str x_a0, str x_a1] w0 fun e w' => e = .returned (.tuple #[.agg #[int R.1.Kind, str R.1.Scheme, int R.1.Host.Kind, str R.1.Host.Name, int R.1.Host.Port, str R.1.Path, str R.1.Query, .bool R.1.HasQuery], int R.2]) ∧ Below w0.heap.size w0 w' := by
  rw [ref10_Parse] at hm
  refine calls_enter (vs := [str x_a0, str x_a1]) Tryz.func11 rfl Tryz.ntmps11 rfl fun a hf => ?_
  have hF : Away [] := away_nil
  have hO : Dk.Own w0 [] w0 [] := Dk.Own.refl w0
  refine wp_seq_k fun _ hK2 => ?_
  refine wp_region_list ?_
  refine op_alloc al_29 hf rfl hO fun a b1 w hf hO => ?_
  refine op_val (ex_assign hf rfl) rfl hf rfl rfl fun a hf => ?_
  refine wpList_nil ?_
  refine nor_then (hK2 _ _ ?_)
  refine wp_seq_k fun _ hK14 => ?_
  refine wp_seq_k fun _ hK3 => ?_
  refine wp_region_list ?_
  refine op_val (ex_move hf rfl) rfl hf rfl rfl fun a hf => ?_
  refine op_val (ex_eql_s (l := x_a0) (m := [67, 79, 78, 78, 69, 67, 84]) hf rfl rfl) rfl hf rfl rfl fun a hf => ?_
  refine wpList_nil ?_
  refine nor_then (hK3 _ _ ?_)
  refine wp_cond_cut hf rfl (fun hc4 => ?_) (fun hc4 => ?_)
  · have hm := it hc4 hm
    refine wp_seq_k fun _ hK7 => ?_
    refine wp_region_list ?_
    refine op_val (ex_move hf rfl) rfl hf rfl rfl fun a hf => ?_
    obtain ⟨r5, hr5, hm⟩ := ob hm
    refine op_enter (ex_call c_33 hf (vs := [str x_a1]) rfl) rfl hf rfl rfl (w_ref08_Parse x_a1 r5 _ (hG.own hF hO) hr5) ?_
    rintro e w' ⟨he, hb⟩
    refine ⟨_, he, fun a hf => ?_⟩
    have hO := hO.grow hb
    refine op_val (ex_move hf rfl) rfl hf rfl rfl fun a hf => ?_
    refine op_val (ex_extract hf rfl rfl) rfl hf rfl rfl fun a hf => ?_
    refine op_val (ex_extract hf rfl rfl) rfl hf rfl rfl fun a hf => ?_
    refine op_alloc al_27 hf rfl hO fun a b6 w hf hO => ?_
    refine op_storeN (i := 0) (n := 3) sz_27 rfl rfl rfl (by simp [Value.oneCell']) hf rfl rfl hO fun w hO => ?_
    refine op_val (ex_assign hf rfl) rfl hf rfl rfl fun a hf => ?_
    refine wpList_nil ?_
    refine nor_then (hK7 _ _ ?_)
    refine wp_seq_k fun _ hK12 => ?_
    refine wp_seq_cut (fun a w => ∃ (t9 : Bool), Fits 137 [(4, ptr b1 0), (6, ptr b6 0), (30, .bool t9)] a ∧ Dk.Own w0 [] w [.blk b6 [int r5.1.Kind, str r5.1.Name, int r5.1.Port] 27, .blk b1 [int 0, str [], int 0, str [], int 0, str [], str [], .bool false] 29] ∧ ref10_Parse_j1 r5 t9 = some R) ?_ ?_
    · refine wp_region_list ?_
      refine op_val (ex_move hf rfl) rfl hf rfl rfl fun a hf => ?_
      refine op_val (ex_neq (m := r5.2) (n := 0) hf rfl rfl) rfl hf rfl rfl fun a hf => ?_
      refine op_val (ex_move hf rfl) rfl hf rfl rfl fun a hf => ?_
      rcases bcase (!(r5.2 == 0)) with hc8 | hc8
      · have hm := it hc8 hm
        refine op_pass rfl hf rfl rfl (hc8) rfl rfl fun a hf => ?_
        refine op_pass rfl hf rfl rfl (hc8) rfl rfl fun a hf => ?_
        refine op_pass rfl hf rfl rfl (hc8) rfl rfl fun a hf => ?_
        refine op_val (ex_pick_t hf rfl hc8 rfl) rfl hf rfl rfl fun a hf => ?_
        refine wpList_nil ?_
        refine nor_then ?_
        exact ⟨true, (hf.cons rfl (hf.cons rfl (hf.cons rfl hf.nil))), hO, hm⟩
      · have hm := ie hc8 hm
        refine op_guard rfl hf rfl rfl (hc8) ?_
        refine op_val (ex_field fa_27_2 hf rfl) rfl hf rfl rfl fun a hf => ?_
        refine op_guard rfl hf rfl rfl (hc8) ?_
        refine op_val (ex_load1 (o := 2) ag_3 (hO.blkSees (i := 0) rfl) rfl hf rfl) rfl hf rfl rfl fun a hf => ?_
        refine op_guard rfl hf rfl rfl (hc8) ?_
        refine op_val (ex_lss (m := r5.1.Port) (n := 0) hf rfl rfl) rfl hf rfl rfl fun a hf => ?_
        refine op_val (ex_pick_f hf rfl hc8 rfl) rfl hf rfl rfl fun a hf => ?_
        refine wpList_nil ?_
        refine nor_then ?_
        exact ⟨decide (r5.1.Port < 0), (hf.cons rfl (hf.cons rfl (hf.cons rfl hf.nil))), hO, hm⟩
    · rintro a w ⟨t9, hf, hO, hm⟩
      rw [ref10_Parse_j1] at hm
      refine wp_cond_cut hf rfl (fun hc10 => ?_) (fun hc10 => ?_)
      · have hm := it hc10 hm
        refine wp_seq_k fun _ hK11 => ?_
        refine wp_region_list ?_
        refine op_val (ex_build (vs := []) (v := .agg #[int 0, str [], int 0, str [], int 0, str [], str [], .bool false]) hf rfl (by kernel_rfl)) rfl hf rfl rfl fun a hf => ?_
        refine op_storeN (i := 1) (n := 8) sz_29 rfl rfl rfl (by simp [Value.oneCell']) hf rfl rfl hO fun w hO => ?_
        refine op_val (ex_assign hf rfl) rfl hf rfl rfl fun a hf => ?_
        refine wpList_nil ?_
        refine nor_then (hK11 _ _ ?_)
        refine wp_ret ?_
        refine ret_then ?_
        refine ret_then ?_
        obtain rfl := Option.some.inj hm
        exact post_ret Tryz.results11 hf (.cell rfl (run_loadVarN (n := 8) (vs := [int 0, str [], int 0, str [], int 0, str [], str [], .bool false]) ag_29 sz_29 rfl ((hO.blkSees (i := 1) rfl).cells (o := 0) (n := 8) rfl)) (.tmp rfl .nil)) ⟨rfl, hO.below⟩
      · have hm := ie hc10 hm
        refine wp_skip ?_
        refine nor_then (hK12 _ _ ?_)
        refine wp_seq_k fun _ hK13 => ?_
        refine wp_region_list ?_
        refine op_val (ex_loadN (o := 0) (vs := [int r5.1.Kind, str r5.1.Name, int r5.1.Port]) ag_27 sz_27 (hO.blkSees (i := 0) rfl) rfl rfl hf rfl) rfl hf rfl rfl fun a hf => ?_
        refine op_val (ex_build (vs := [(0, int 3), (2, .agg #[int r5.1.Kind, str r5.1.Name, int r5.1.Port])]) (v := .agg #[int 3, str [], int r5.1.Kind, str r5.1.Name, int r5.1.Port, str [], str [], .bool false]) hf rfl (by kernel_rfl)) rfl hf rfl rfl fun a hf => ?_
        refine op_storeN (i := 1) (n := 8) sz_29 rfl rfl rfl (by simp [Value.oneCell']) hf rfl rfl hO fun w hO => ?_
        refine op_val (ex_assign hf rfl) rfl hf rfl rfl fun a hf => ?_
        refine wpList_nil ?_
        refine nor_then (hK13 _ _ ?_)
        refine wp_ret ?_
        refine ret_then ?_
        obtain rfl := Option.some.inj hm
        exact post_ret Tryz.results11 hf (.cell rfl (run_loadVarN (n := 8) (vs := [int 3, str [], int r5.1.Kind, str r5.1.Name, int r5.1.Port, str [], str [], .bool false]) ag_29 sz_29 rfl ((hO.blkSees (i := 1) rfl).cells (o := 0) (n := 8) rfl)) (.tmp rfl .nil)) ⟨rfl, hO.below⟩
  · have hm := ie hc4 hm
    refine wp_skip ?_
    refine nor_then (hK14 _ _ ?_)
    refine wp_seq_k fun _ hK19 => ?_
    refine wp_seq_cut (fun a w => ∃ (t16 : Bool), Fits 137 [(1, str x_a1), (4, ptr b1 0), (39, .bool t16)] a ∧ Dk.Own w0 [] w [.blk b1 [int 0, str [], int 0, str [], int 0, str [], str [], .bool false] 29] ∧ ref10_Parse_j2 x_a1 t16 = some R) ?_ ?_
    · refine wp_region_list ?_
      refine op_val (ex_move hf rfl) rfl hf rfl rfl fun a hf => ?_
      refine op_val (ex_eql_s (l := x_a1) (m := [42]) hf rfl rfl) rfl hf rfl rfl fun a hf => ?_
      refine op_val (ex_move hf rfl) rfl hf rfl rfl fun a hf => ?_
      rcases bcase (x_a1 == [42]) with hc15 | hc15
      · have hm := it hc15 hm
        refine op_guard rfl hf rfl rfl (hc15) ?_
        refine op_val (ex_move hf rfl) rfl hf rfl rfl fun a hf => ?_
        refine op_guard rfl hf rfl rfl (hc15) ?_
        refine op_val (ex_eql_s (l := x_a0) (m := [79, 80, 84, 73, 79, 78, 83]) hf rfl rfl) rfl hf rfl rfl fun a hf => ?_
        refine op_val (ex_pick_t hf rfl hc15 rfl) rfl hf rfl rfl fun a hf => ?_
        refine wpList_nil ?_
        refine nor_then ?_
        exact ⟨x_a0 == [79, 80, 84, 73, 79, 78, 83], (hf.cons rfl (hf.cons rfl (hf.cons rfl hf.nil))), hO, hm⟩
      · have hm := ie hc15 hm
        refine op_pass rfl hf rfl rfl (hc15) rfl rfl fun a hf => ?_
        refine op_pass rfl hf rfl rfl (hc15) rfl rfl fun a hf => ?_
        refine op_val (ex_pick_f hf rfl hc15 rfl) rfl hf rfl rfl fun a hf => ?_
        refine wpList_nil ?_
        refine nor_then ?_
        exact ⟨false, (hf.cons rfl (hf.cons rfl (hf.cons rfl hf.nil))), hO, hm⟩
    · rintro a w ⟨t16, hf, hO, hm⟩
      rw [ref10_Parse_j2] at hm
      refine wp_cond_cut hf rfl (fun hc17 => ?_) (fun hc17 => ?_)
      · have hm := it hc17 hm
        refine wp_seq_k fun _ hK18 => ?_
        refine wp_region_list ?_
        refine op_val (ex_build (vs := [(0, int 4)]) (v := .agg #[int 4, str [], int 0, str [], int 0, str [], str [], .bool false]) hf rfl (by kernel_rfl)) rfl hf rfl rfl fun a hf => ?_
        refine op_storeN (i := 0) (n := 8) sz_29 rfl rfl rfl (by simp [Value.oneCell']) hf rfl rfl hO fun w hO => ?_
        refine op_val (ex_assign hf rfl) rfl hf rfl rfl fun a hf => ?_
        refine wpList_nil ?_
        refine nor_then (hK18 _ _ ?_)
        refine wp_ret ?_
        refine ret_then ?_
        obtain rfl := Option.some.inj hm
        exact post_ret Tryz.results11 hf (.cell rfl (run_loadVarN (n := 8) (vs := [int 4, str [], int 0, str [], int 0, str [], str [], .bool false]) ag_29 sz_29 rfl ((hO.blkSees (i := 0) rfl).cells (o := 0) (n := 8) rfl)) (.tmp rfl .nil)) ⟨rfl, hO.below⟩
      · have hm := ie hc17 hm
        refine wp_skip ?_
        refine nor_then (hK19 _ _ ?_)
        refine wp_seq_k fun _ hK22 => ?_
        refine wp_region_list ?_
        refine op_val (ex_build (vs := [(0, int 1)]) (v := .agg #[int 1, str [], int 0, str [], int 0, str [], str [], .bool false]) hf rfl (by kernel_rfl)) rfl hf rfl rfl fun a hf => ?_
        refine op_val (ex_move hf rfl) rfl hf rfl rfl fun a hf => ?_
        obtain ⟨r20, hr20, hm⟩ := ob hm
        refine op_enter (ex_call c_34 hf (vs := [.agg #[int 1, str [], int 0, str [], int 0, str [], str [], .bool false], str x_a1]) rfl) rfl hf rfl rfl (w_ref10_origin ((⟨1, [], (⟨0, [], 0⟩ : api_Host), [], [], false⟩ : api_Target)) x_a1 r20 _ (hG.own hF hO) hr20) ?_
        rintro e w' ⟨he, hb⟩
        refine ⟨_, he, fun a hf => ?_⟩
        have hO := hO.grow hb
        refine op_val (ex_move hf rfl) rfl hf rfl rfl fun a hf => ?_
        refine op_val (ex_extract hf rfl rfl) rfl hf rfl rfl fun a hf => ?_
        refine op_val (ex_extract hf rfl rfl) rfl hf rfl rfl fun a hf => ?_
        refine op_alloc al_29 hf rfl hO fun a b21 w hf hO => ?_
        refine op_storeN (i := 0) (n := 8) sz_29 rfl rfl rfl (by simp [Value.oneCell']) hf rfl rfl hO fun w hO => ?_
        refine op_val (ex_assign hf rfl) rfl hf rfl rfl fun a hf => ?_
        refine wpList_nil ?_
        refine nor_then (hK22 _ _ ?_)
        refine wp_seq_k fun _ hK26 => ?_
        refine wp_seq_k fun _ hK23 => ?_
        refine wp_region_list ?_
        refine op_val (ex_move hf rfl) rfl hf rfl rfl fun a hf => ?_
        refine wpList_nil ?_
        refine nor_then (hK23 _ _ ?_)
        refine wp_cond_cut hf rfl (fun hc24 => ?_) (fun hc24 => ?_)
        · have hm := it hc24 hm
          refine wp_seq_k fun _ hK25 => ?_
          refine wp_region_list ?_
          refine op_val (ex_loadN (o := 0) (vs := [int r20.1.Kind, str r20.1.Scheme, int r20.1.Host.Kind, str r20.1.Host.Name, int r20.1.Host.Port, str r20.1.Path, str r20.1.Query, .bool r20.1.HasQuery]) ag_29 sz_29 (hO.blkSees (i := 0) rfl) rfl rfl hf rfl) rfl hf rfl rfl fun a hf => ?_
          refine op_storeN (i := 1) (n := 8) sz_29 rfl rfl rfl (by simp [Value.oneCell']) hf rfl rfl hO fun w hO => ?_
          refine op_val (ex_assign hf rfl) rfl hf rfl rfl fun a hf => ?_
          refine wpList_nil ?_
          refine nor_then (hK25 _ _ ?_)
          refine wp_ret ?_
          refine ret_then ?_
          obtain rfl := Option.some.inj hm
          exact post_ret Tryz.results11 hf (.cell rfl (run_loadVarN (n := 8) (vs := [int r20.1.Kind, str r20.1.Scheme, int r20.1.Host.Kind, str r20.1.Host.Name, int r20.1.Host.Port, str r20.1.Path, str r20.1.Query, .bool r20.1.HasQuery]) ag_29 sz_29 rfl ((hO.blkSees (i := 1) rfl).cells (o := 0) (n := 8) rfl)) (.tmp rfl .nil)) ⟨rfl, hO.below⟩
        · have hm := ie hc24 hm
          refine wp_skip ?_
          refine nor_then (hK26 _ _ ?_)
          refine wp_seq_k fun _ hK100 => ?_
          refine wp_seq_k fun _ hK28 => ?_
          refine wp_region_list ?_
          refine op_buildSlice (vs := [(0, str [104, 116, 116, 112]), (1, str [104, 116, 116, 112, 115])]) (cs := [str [104, 116, 116, 112], str [104, 116, 116, 112, 115]]) (e := 9) (sz := 1) hf rfl rfl (fun w => by kernel_rfl) rfl rfl hO fun a b27 w hf hO => ?_
          refine op_val (ex_len_l Tryz.underlying54 hf rfl) rfl hf rfl rfl fun a hf => ?_
          refine op_val (ex_move hf rfl) rfl hf rfl rfl fun a hf => ?_
          refine wpList_nil ?_
          refine nor_then (hK28 _ _ ?_)
          refine wp_block ?_
          refine wp_loop_n (fun k a w => ∃ (s29 : Str) (i30 : Int), Fits 137 [(1, str s29), (4, ptr b1 0), (49, .slice (some ⟨b27, 0, none⟩) (([[104, 116, 116, 112], [104, 116, 116, 112, 115]]).length) 2), (50, int ((([[104, 116, 116, 112], [104, 116, 116, 112, 115]]).length : Int))), (51, int i30)] a ∧ Dk.Own w0 [] w [.row (.slice (some ⟨b27, 0, none⟩) (([[104, 116, 116, 112], [104, 116, 116, 112, 115]]).length) 2) 9 1 (([[104, 116, 116, 112], [104, 116, 116, 112, 115]]).length) (cells enc_str ([[104, 116, 116, 112], [104, 116, 116, 112, 115]])), .blk b21 [int r20.1.Kind, str r20.1.Scheme, int r20.1.Host.Kind, str r20.1.Host.Name, int r20.1.Host.Port, str r20.1.Path, str r20.1.Query, .bool r20.1.HasQuery] 29, .blk b1 [int 0, str [], int 0, str [], int 0, str [], str [], .bool false] 29] ∧ ref10_Parse_L3 k s29 i30 = some R) ?_ fuel ?_
          · rintro n3 a w ⟨s29, i30, hf, hO, hm⟩
            obtain _ | n3 := n3
            · rw [ref10_Parse_L3] at hm
              cases hm
            · rw [ref10_Parse_L3] at hm
              refine wp_seq_k fun _ hK31 => ?_
              refine wp_region_list ?_
              refine op_val (ex_lss (m := i30) (n := (([[104, 116, 116, 112], [104, 116, 116, 112, 115]]).length : Int)) hf rfl rfl) rfl hf rfl rfl fun a hf => ?_
              refine wpList_nil ?_
              refine nor_then (hK31 _ _ ?_)
              refine wp_seq_k fun _ hK33 => ?_
              refine wp_cond_cut hf rfl (fun hc32 => ?_) (fun hc32 => ?_)
              · have hm := it hc32 hm
                refine wp_skip ?_
                refine nor_then (hK33 _ _ ?_)
                refine wp_seq_k fun _ hK98 => ?_
                refine wp_block ?_
                refine wp_seq_k fun _ hK37 => ?_
                refine wp_region_list ?_
                obtain ⟨x34, hx34, hm⟩ := ob hm
                obtain ⟨b35, o36, hix34, hSx34, hAx34⟩ := elemAtRow (enc := enc_str) (sz := 1) (xs := [[104, 116, 116, 112], [104, 116, 116, 112, 115]]) 54 Tryz.underlying54 sz_9 (by decide) (fun _ => rfl) hO (i := 0) rfl hx34
                refine op_val (ex_indexAddr hix34 hf rfl rfl) rfl hf rfl rfl fun a hf => ?_
                refine op_val (ex_load1 (o := 0) ag_9 (hSx34 _ (hO.rowSees (i := 0) rfl)) rfl hf rfl) rfl hf rfl rfl fun a hf => ?_
                refine op_val (ex_assign hf rfl) rfl hf rfl rfl fun a hf => ?_
                refine wpList_nil ?_
                refine nor_then (hK37 _ _ ?_)
                refine wp_seq_k fun _ hK39 => ?_
                refine wp_region_list ?_
                refine op_val (ex_move hf rfl) rfl hf rfl rfl fun a hf => ?_
                refine op_val (ex_len_s (l := x34) Tryz.underlying9 hf rfl) rfl hf rfl rfl fun a hf => ?_
                obtain ⟨i38, hi38, hm⟩ := ob hm
                refine op_val (ex_add hf rfl rfl hi38) rfl hf rfl rfl fun a hf => ?_
                refine op_val (ex_assign hf rfl) rfl hf rfl rfl fun a hf => ?_
                refine wpList_nil ?_
                refine nor_then (hK39 _ _ ?_)
                refine wp_seq_k fun _ hK46 => ?_
                refine wp_seq_cut (fun a w => ∃ (t44 : Bool), Fits 137 [(1, str s29), (4, ptr b1 0), (11, str x34), (12, int i38), (49, .slice (some ⟨b27, 0, none⟩) (([[104, 116, 116, 112], [104, 116, 116, 112, 115]]).length) 2), (50, int ((([[104, 116, 116, 112], [104, 116, 116, 112, 115]]).length : Int))), (51, int i30), (70, .bool t44)] a ∧ Dk.Own w0 [] w [.row (.slice (some ⟨b27, 0, none⟩) (([[104, 116, 116, 112], [104, 116, 116, 112, 115]]).length) 2) 9 1 (([[104, 116, 116, 112], [104, 116, 116, 112, 115]]).length) (cells enc_str ([[104, 116, 116, 112], [104, 116, 116, 112, 115]])), .blk b21 [int r20.1.Kind, str r20.1.Scheme, int r20.1.Host.Kind, str r20.1.Host.Name, int r20.1.Host.Port, str r20.1.Path, str r20.1.Query, .bool r20.1.HasQuery] 29, .blk b1 [int 0, str [], int 0, str [], int 0, str [], str [], .bool false] 29] ∧ ref10_Parse_j4 (ref10_Parse_L3 n3) s29 i30 x34 i38 t44 = some R) ?_ ?_
                · refine wp_region_list ?_
                  refine op_val (ex_move hf rfl) rfl hf rfl rfl fun a hf => ?_
                  refine op_val (ex_len_s (l := s29) Tryz.underlying9 hf rfl) rfl hf rfl rfl fun a hf => ?_
                  refine op_val (ex_move hf rfl) rfl hf rfl rfl fun a hf => ?_
                  refine op_val (ex_lss (m := (s29.length : Int)) (n := i38) hf rfl rfl) rfl hf rfl rfl fun a hf => ?_
                  refine op_val (ex_move hf rfl) rfl hf rfl rfl fun a hf => ?_
                  rcases bcase (decide ((s29.length : Int) < i38)) with hc40 | hc40
                  · have hm := it hc40 hm
                    refine op_pass rfl hf rfl rfl (hc40) rfl rfl fun a hf => ?_
                    refine op_pass rfl hf rfl rfl (hc40) rfl rfl fun a hf => ?_
                    refine op_pass rfl hf rfl rfl (hc40) rfl rfl fun a hf => ?_
                    refine op_pass rfl hf rfl rfl (hc40) rfl rfl fun a hf => ?_
                    refine op_pass rfl hf rfl rfl (hc40) rfl rfl fun a hf => ?_
                    refine op_pass rfl hf rfl rfl (hc40) rfl rfl fun a hf => ?_
                    refine op_pass rfl hf rfl rfl (hc40) rfl rfl fun a hf => ?_
                    refine op_val (ex_pick_t hf rfl hc40 rfl) rfl hf rfl rfl fun a hf => ?_
                    refine wpList_nil ?_
                    refine nor_then ?_
                    exact ⟨true, (hf.cons rfl (hf.cons rfl (hf.cons rfl (hf.cons rfl (hf.cons rfl (hf.cons rfl (hf.cons rfl (hf.cons rfl hf.nil)))))))), hO, hm⟩
                  · have hm := ie hc40 hm
                    refine op_guard rfl hf rfl rfl (hc40) ?_
                    refine op_val (ex_move hf rfl) rfl hf rfl rfl fun a hf => ?_
                    refine op_guard rfl hf rfl rfl (hc40) ?_
                    refine op_val (ex_move hf rfl) rfl hf rfl rfl fun a hf => ?_
                    refine op_guard rfl hf rfl rfl (hc40) ?_
                    obtain ⟨s41, hs41, hm⟩ := ob hm
                    refine op_val (ex_to_s (l := s29) Tryz.underlying9 hf rfl rfl hs41) rfl hf rfl rfl fun a hf => ?_
                    refine op_guard rfl hf rfl rfl (hc40) ?_
                    obtain ⟨r42, hr42, hm⟩ := ob hm
                    refine op_enter (ex_call c_35 hf (vs := [str s41]) rfl) rfl hf rfl rfl (w_ref01_Fold s41 r42 _ (hG.own hF hO) hr42) ?_
                    rintro e w' ⟨he, hb⟩
                    refine ⟨_, he, fun a hf => ?_⟩
                    have hO := hO.grow hb
                    refine op_guard rfl hf rfl rfl (hc40) ?_
                    refine op_val (ex_move hf rfl) rfl hf rfl rfl fun a hf => ?_
                    refine op_guard rfl hf rfl rfl (hc40) ?_
                    obtain ⟨s43, hs43, hm⟩ := ob hm
                    refine op_val (ex_cat (l := x34) (m := [58, 47, 47]) hf rfl rfl hs43) rfl hf rfl rfl fun a hf => ?_
                    refine op_guard rfl hf rfl rfl (hc40) ?_
                    refine op_val (ex_neq_s (l := r42) (m := s43) hf rfl rfl) rfl hf rfl rfl fun a hf => ?_
                    refine op_val (ex_pick_f hf rfl hc40 rfl) rfl hf rfl rfl fun a hf => ?_
                    refine wpList_nil ?_
                    refine nor_then ?_
                    exact ⟨!(r42 == s43), (hf.cons rfl (hf.cons rfl (hf.cons rfl (hf.cons rfl (hf.cons rfl (hf.cons rfl (hf.cons rfl (hf.cons rfl hf.nil)))))))), hO, hm⟩
                · rintro a w ⟨t44, hf, hO, hm⟩
                  rw [ref10_Parse_j4] at hm
                  refine wp_cond_cut hf rfl (fun hc45 => ?_) (fun hc45 => ?_)
                  · have hm := it hc45 hm
                    refine wp_exit ?_
                    refine exit_then ?_
                    refine exit_here ?_
                    refine nor_then (hK98 _ _ ?_)
                    refine wp_region_list ?_
                    obtain ⟨i99, hi99, hm⟩ := ob hm
                    refine op_val (ex_add hf rfl rfl hi99) rfl hf rfl rfl fun a hf => ?_
                    refine op_val (ex_move hf rfl) rfl hf rfl rfl fun a hf => ?_
                    refine wpList_nil ?_
                    refine nor_then ?_
                    exact ⟨_, Nat.lt_succ_self _, s29, i99, (hf.cons rfl (hf.cons rfl (hf.cons rfl (hf.cons rfl (hf.cons rfl hf.nil))))), hO, hm⟩
                  · have hm := ie hc45 hm
                    refine wp_skip ?_
                    refine nor_then (hK46 _ _ ?_)
                    refine wp_seq_k fun _ hK48 => ?_
                    refine wp_region_list ?_
                    refine op_val (ex_move hf rfl) rfl hf rfl rfl fun a hf => ?_
                    refine op_val (ex_move hf rfl) rfl hf rfl rfl fun a hf => ?_
                    obtain ⟨s47, hs47, hm⟩ := ob hm
                    refine op_val (ex_from_s (l := s29) Tryz.underlying9 hf rfl rfl hs47) rfl hf rfl rfl fun a hf => ?_
                    refine op_val (ex_assign hf rfl) rfl hf rfl rfl fun a hf => ?_
                    refine wpList_nil ?_
                    refine nor_then (hK48 _ _ ?_)
                    refine wp_seq_k fun _ hK49 => ?_
                    refine wp_region_list ?_
                    refine op_val (ex_assign hf rfl) rfl hf rfl rfl fun a hf => ?_
                    refine wpList_nil ?_
                    refine nor_then (hK49 _ _ ?_)
                    refine wp_seq_k fun _ hK59 => ?_
                    refine wp_block ?_
                    refine wp_loop_n (fun k a w => ∃ (i50 : Int), Fits 137 [(1, str s47), (4, ptr b1 0), (11, str x34), (13, int i50)] a ∧ Dk.Own w0 [] w [.row (.slice (some ⟨b27, 0, none⟩) (([[104, 116, 116, 112], [104, 116, 116, 112, 115]]).length) 2) 9 1 (([[104, 116, 116, 112], [104, 116, 116, 112, 115]]).length) (cells enc_str ([[104, 116, 116, 112], [104, 116, 116, 112, 115]])), .blk b21 [int r20.1.Kind, str r20.1.Scheme, int r20.1.Host.Kind, str r20.1.Host.Name, int r20.1.Host.Port, str r20.1.Path, str r20.1.Query, .bool r20.1.HasQuery] 29, .blk b1 [int 0, str [], int 0, str [], int 0, str [], str [], .bool false] 29] ∧ ref10_Parse_L5 x34 s47 k i50 = some R) ?_ fuel ?_
                    · rintro n5 a w ⟨i50, hf, hO, hm⟩
                      obtain _ | n5 := n5
                      · rw [ref10_Parse_L5] at hm
                        cases hm
                      · rw [ref10_Parse_L5] at hm
                        refine wp_seq_k fun _ hK57 => ?_
                        refine wp_seq_cut (fun a w => ∃ (t55 : Bool), Fits 137 [(1, str s47), (4, ptr b1 0), (11, str x34), (13, int i50), (89, .bool t55)] a ∧ Dk.Own w0 [] w [.row (.slice (some ⟨b27, 0, none⟩) (([[104, 116, 116, 112], [104, 116, 116, 112, 115]]).length) 2) 9 1 (([[104, 116, 116, 112], [104, 116, 116, 112, 115]]).length) (cells enc_str ([[104, 116, 116, 112], [104, 116, 116, 112, 115]])), .blk b21 [int r20.1.Kind, str r20.1.Scheme, int r20.1.Host.Kind, str r20.1.Host.Name, int r20.1.Host.Port, str r20.1.Path, str r20.1.Query, .bool r20.1.HasQuery] 29, .blk b1 [int 0, str [], int 0, str [], int 0, str [], str [], .bool false] 29] ∧ ref10_Parse_j6 (ref10_Parse_L5 x34 s47 n5) x34 s47 i50 t55 = some R) ?_ ?_
                        · refine wp_region_list ?_
                          refine op_val (ex_move hf rfl) rfl hf rfl rfl fun a hf => ?_
                          refine op_val (ex_move hf rfl) rfl hf rfl rfl fun a hf => ?_
                          refine op_val (ex_len_s (l := s47) Tryz.underlying9 hf rfl) rfl hf rfl rfl fun a hf => ?_
                          refine op_val (ex_lss (m := i50) (n := (s47.length : Int)) hf rfl rfl) rfl hf rfl rfl fun a hf => ?_
                          refine op_val (ex_move hf rfl) rfl hf rfl rfl fun a hf => ?_
                          rcases bcase (decide (i50 < (s47.length : Int))) with hc51 | hc51
                          · have hm := it hc51 hm
                            refine op_guard rfl hf rfl rfl (hc51) ?_
                            refine op_val (ex_move hf rfl) rfl hf rfl rfl fun a hf => ?_
                            refine op_guard rfl hf rfl rfl (hc51) ?_
                            refine op_val (ex_move hf rfl) rfl hf rfl rfl fun a hf => ?_
                            refine op_guard rfl hf rfl rfl (hc51) ?_
                            obtain ⟨b52, hb52, hm⟩ := ob hm
                            refine op_val (ex_index (l := s47) Tryz.underlying9 hf rfl rfl hb52) rfl hf rfl rfl fun a hf => ?_
                            refine op_guard rfl hf rfl rfl (hc51) ?_
                            refine op_val (ex_neq_b (b := b52) (c := 47) hf rfl rfl) rfl hf rfl rfl fun a hf => ?_
                            refine op_val (ex_pick_t hf rfl hc51 rfl) rfl hf rfl rfl fun a hf => ?_
                            refine op_val (ex_move hf rfl) rfl hf rfl rfl fun a hf => ?_
                            rcases bcase (!(b52 == 47)) with hc53 | hc53
                            · have hm := it hc53 hm
                              refine op_guard rfl hf rfl rfl (hc53) ?_
                              refine op_val (ex_move hf rfl) rfl hf rfl rfl fun a hf => ?_
                              refine op_guard rfl hf rfl rfl (hc53) ?_
                              refine op_val (ex_move hf rfl) rfl hf rfl rfl fun a hf => ?_
                              refine op_guard rfl hf rfl rfl (hc53) ?_
                              obtain ⟨b54, hb54, hm⟩ := ob hm
                              refine op_val (ex_index (l := s47) Tryz.underlying9 hf rfl rfl hb54) rfl hf rfl rfl fun a hf => ?_
                              refine op_guard rfl hf rfl rfl (hc53) ?_
                              refine op_val (ex_neq_b (b := b54) (c := 63) hf rfl rfl) rfl hf rfl rfl fun a hf => ?_
                              refine op_val (ex_pick_t hf rfl hc53 rfl) rfl hf rfl rfl fun a hf => ?_
                              refine wpList_nil ?_
                              refine nor_then ?_
                              exact ⟨!(b54 == 63), (hf.cons rfl (hf.cons rfl (hf.cons rfl (hf.cons rfl (hf.cons rfl hf.nil))))), hO, hm⟩
                            · have hm := ie hc53 hm
                              refine op_pass rfl hf rfl rfl (hc53) rfl rfl fun a hf => ?_
                              refine op_pass rfl hf rfl rfl (hc53) rfl rfl fun a hf => ?_
                              refine op_pass rfl hf rfl rfl (hc53) rfl rfl fun a hf => ?_
                              refine op_pass rfl hf rfl rfl (hc53) rfl rfl fun a hf => ?_
                              refine op_val (ex_pick_f hf rfl hc53 rfl) rfl hf rfl rfl fun a hf => ?_
                              refine wpList_nil ?_
                              refine nor_then ?_
                              exact ⟨false, (hf.cons rfl (hf.cons rfl (hf.cons rfl (hf.cons rfl (hf.cons rfl hf.nil))))), hO, hm⟩
                          · have hm := ie hc51 hm
                            refine op_pass rfl hf rfl rfl (hc51) rfl rfl fun a hf => ?_
                            refine op_pass rfl hf rfl rfl (hc51) rfl rfl fun a hf => ?_
                            refine op_pass rfl hf rfl rfl (hc51) rfl rfl fun a hf => ?_
                            refine op_pass rfl hf rfl rfl (hc51) rfl rfl fun a hf => ?_
                            refine op_val (ex_pick_f hf rfl hc51 rfl) rfl hf rfl rfl fun a hf => ?_
                            refine op_val (ex_move hf rfl) rfl hf rfl rfl fun a hf => ?_
                            refine op_pass rfl hf rfl rfl (rfl) rfl rfl fun a hf => ?_
                            refine op_pass rfl hf rfl rfl (rfl) rfl rfl fun a hf => ?_
                            refine op_pass rfl hf rfl rfl (rfl) rfl rfl fun a hf => ?_
                            refine op_pass rfl hf rfl rfl (rfl) rfl rfl fun a hf => ?_
                            refine op_val (ex_pick_f hf rfl rfl rfl) rfl hf rfl rfl fun a hf => ?_
                            refine wpList_nil ?_
                            refine nor_then ?_
                            exact ⟨false, (hf.cons rfl (hf.cons rfl (hf.cons rfl (hf.cons rfl (hf.cons rfl hf.nil))))), hO, hm⟩
                        · rintro a w ⟨t55, hf, hO, hm⟩
                          rw [ref10_Parse_j6] at hm
                          refine wp_cond_cut hf rfl (fun hc56 => ?_) (fun hc56 => ?_)
                          · have hm := it hc56 hm
                            refine wp_skip ?_
                            refine nor_then (hK57 _ _ ?_)
                            refine wp_block ?_
                            refine wp_region_list ?_
                            refine op_val (ex_move hf rfl) rfl hf rfl rfl fun a hf => ?_
                            obtain ⟨i58, hi58, hm⟩ := ob hm
                            refine op_val (ex_add hf rfl rfl hi58) rfl hf rfl rfl fun a hf => ?_
                            refine op_val (ex_assign hf rfl) rfl hf rfl rfl fun a hf => ?_
                            refine wpList_nil ?_
                            refine nor_block ?_
                            refine nor_then ?_
                            exact ⟨_, Nat.lt_succ_self _, i58, (hf.cons rfl (hf.cons rfl (hf.cons rfl (hf.cons rfl hf.nil)))), hO, hm⟩
                          · have hm := ie hc56 hm
                            refine wp_exit ?_
                            refine exit_then ?_
                            refine exit_then ?_
                            refine exit_here ?_
                            refine nor_then (hK59 _ _ ?_)
                            refine wp_seq_k fun _ hK63 => ?_
                            refine wp_region_list ?_
                            refine op_val (ex_move hf rfl) rfl hf rfl rfl fun a hf => ?_
                            refine op_val (ex_move hf rfl) rfl hf rfl rfl fun a hf => ?_
                            obtain ⟨s60, hs60, hm⟩ := ob hm
                            refine op_val (ex_to_s (l := s47) Tryz.underlying9 hf rfl rfl hs60) rfl hf rfl rfl fun a hf => ?_
                            obtain ⟨r61, hr61, hm⟩ := ob hm
                            refine op_enter (ex_call c_33 hf (vs := [str s60]) rfl) rfl hf rfl rfl (w_ref08_Parse s60 r61 _ (hG.own hF hO) hr61) ?_
                            rintro e w' ⟨he, hb⟩
                            refine ⟨_, he, fun a hf => ?_⟩
                            have hO := hO.grow hb
                            refine op_val (ex_move hf rfl) rfl hf rfl rfl fun a hf => ?_
                            refine op_val (ex_extract hf rfl rfl) rfl hf rfl rfl fun a hf => ?_
                            refine op_val (ex_extract hf rfl rfl) rfl hf rfl rfl fun a hf => ?_
                            refine op_alloc al_27 hf rfl hO fun a b62 w hf hO => ?_
                            refine op_storeN (i := 0) (n := 3) sz_27 rfl rfl rfl (by simp [Value.oneCell']) hf rfl rfl hO fun w hO => ?_
                            refine op_val (ex_assign hf rfl) rfl hf rfl rfl fun a hf => ?_
                            refine wpList_nil ?_
                            refine nor_then (hK63 _ _ ?_)
                            refine wp_seq_k fun _ hK67 => ?_
                            refine wp_seq_k fun _ hK64 => ?_
                            refine wp_region_list ?_
                            refine op_val (ex_move hf rfl) rfl hf rfl rfl fun a hf => ?_
                            refine op_val (ex_neq (m := r61.2) (n := 0) hf rfl rfl) rfl hf rfl rfl fun a hf => ?_
                            refine wpList_nil ?_
                            refine nor_then (hK64 _ _ ?_)
                            refine wp_cond_cut hf rfl (fun hc65 => ?_) (fun hc65 => ?_)
                            · have hm := it hc65 hm
                              refine wp_seq_k fun _ hK66 => ?_
                              refine wp_region_list ?_
                              refine op_val (ex_build (vs := []) (v := .agg #[int 0, str [], int 0, str [], int 0, str [], str [], .bool false]) hf rfl (by kernel_rfl)) rfl hf rfl rfl fun a hf => ?_
                              refine op_storeN (i := 3) (n := 8) sz_29 rfl rfl rfl (by simp [Value.oneCell']) hf rfl rfl hO fun w hO => ?_
                              refine op_val (ex_assign hf rfl) rfl hf rfl rfl fun a hf => ?_
                              refine wpList_nil ?_
                              refine nor_then (hK66 _ _ ?_)
                              refine wp_ret ?_
                              refine ret_then ?_
                              refine ret_block ?_
                              refine ret_then ?_
                              refine ret_then ?_
                              refine ret_block ?_
                              refine ret_then ?_
                              obtain rfl := Option.some.inj hm
                              exact post_ret Tryz.results11 hf (.cell rfl (run_loadVarN (n := 8) (vs := [int 0, str [], int 0, str [], int 0, str [], str [], .bool false]) ag_29 sz_29 rfl ((hO.blkSees (i := 3) rfl).cells (o := 0) (n := 8) rfl)) (.tmp rfl .nil)) ⟨rfl, hO.below⟩
                            · have hm := ie hc65 hm
                              refine wp_skip ?_
                              refine nor_then (hK67 _ _ ?_)
                              refine wp_seq_k fun _ hK69 => ?_
                              refine wp_region_list ?_
                              refine op_val (ex_move hf rfl) rfl hf rfl rfl fun a hf => ?_
                              refine op_val (ex_loadN (o := 0) (vs := [int r61.1.Kind, str r61.1.Name, int r61.1.Port]) ag_27 sz_27 (hO.blkSees (i := 0) rfl) rfl rfl hf rfl) rfl hf rfl rfl fun a hf => ?_
                              refine op_val (ex_build (vs := [(0, int 2), (1, str x34), (2, .agg #[int r61.1.Kind, str r61.1.Name, int r61.1.Port])]) (v := .agg #[int 2, str x34, int r61.1.Kind, str r61.1.Name, int r61.1.Port, str [], str [], .bool false]) hf rfl (by kernel_rfl)) rfl hf rfl rfl fun a hf => ?_
                              refine op_alloc al_29 hf rfl hO fun a b68 w hf hO => ?_
                              refine op_storeN (i := 0) (n := 8) sz_29 rfl rfl rfl (by simp [Value.oneCell']) hf rfl rfl hO fun w hO => ?_
                              refine wpList_nil ?_
                              refine nor_then (hK69 _ _ ?_)
                              refine wp_seq_k fun _ hK73 => ?_
                              refine wp_seq_k fun _ hK70 => ?_
                              refine wp_region_list ?_
                              refine op_val (ex_move hf rfl) rfl hf rfl rfl fun a hf => ?_
                              refine op_val (ex_move hf rfl) rfl hf rfl rfl fun a hf => ?_
                              refine op_val (ex_len_s (l := s47) Tryz.underlying9 hf rfl) rfl hf rfl rfl fun a hf => ?_
                              refine op_val (ex_eql (m := i50) (n := (s47.length : Int)) hf rfl rfl) rfl hf rfl rfl fun a hf => ?_
                              refine wpList_nil ?_
                              refine nor_then (hK70 _ _ ?_)
                              refine wp_cond_cut hf rfl (fun hc71 => ?_) (fun hc71 => ?_)
                              · have hm := it hc71 hm
                                refine wp_seq_k fun _ hK72 => ?_
                                refine wp_region_list ?_
                                refine op_val (ex_loadN (o := 0) (vs := [int 2, str x34, int r61.1.Kind, str r61.1.Name, int r61.1.Port, str [], str [], .bool false]) ag_29 sz_29 (hO.blkSees (i := 0) rfl) rfl rfl hf rfl) rfl hf rfl rfl fun a hf => ?_
                                refine op_storeN (i := 4) (n := 8) sz_29 rfl rfl rfl (by simp [Value.oneCell']) hf rfl rfl hO fun w hO => ?_
                                refine op_val (ex_assign hf rfl) rfl hf rfl rfl fun a hf => ?_
                                refine wpList_nil ?_
                                refine nor_then (hK72 _ _ ?_)
                                refine wp_ret ?_
                                refine ret_then ?_
                                refine ret_block ?_
                                refine ret_then ?_
                                refine ret_then ?_
                                refine ret_block ?_
                                refine ret_then ?_
                                obtain rfl := Option.some.inj hm
                                exact post_ret Tryz.results11 hf (.cell rfl (run_loadVarN (n := 8) (vs := [int 2, str x34, int r61.1.Kind, str r61.1.Name, int r61.1.Port, str [], str [], .bool false]) ag_29 sz_29 rfl ((hO.blkSees (i := 4) rfl).cells (o := 0) (n := 8) rfl)) (.tmp rfl .nil)) ⟨rfl, hO.below⟩
                              · have hm := ie hc71 hm
                                refine wp_skip ?_
                                refine nor_then (hK73 _ _ ?_)
                                refine wp_seq_cut (fun a w => ∃ (t84 : Bool) (i85 : Int) (s86 : Str) (i87 : Int) (s88 : Str) (i89 : Int) (s90 : Str) (s91 : Str) (t92 : Bool), Fits 137 [(4, ptr b1 0), (9, .bool t84), (16, ptr b68 0)] a ∧ Dk.Own w0 [] w [.blk b68 [int i85, str s86, int i87, str s88, int i89, str s90, str s91, .bool t92] 29, .blk b62 [int r61.1.Kind, str r61.1.Name, int r61.1.Port] 27, .row (.slice (some ⟨b27, 0, none⟩) (([[104, 116, 116, 112], [104, 116, 116, 112, 115]]).length) 2) 9 1 (([[104, 116, 116, 112], [104, 116, 116, 112, 115]]).length) (cells enc_str ([[104, 116, 116, 112], [104, 116, 116, 112, 115]])), .blk b21 [int r20.1.Kind, str r20.1.Scheme, int r20.1.Host.Kind, str r20.1.Host.Name, int r20.1.Host.Port, str r20.1.Path, str r20.1.Query, .bool r20.1.HasQuery] 29, .blk b1 [int 0, str [], int 0, str [], int 0, str [], str [], .bool false] 29] ∧ ref10_Parse_j7 t84 i85 s86 i87 s88 i89 s90 s91 t92 = some R) ?_ ?_
                                · refine wp_seq_k fun _ hK75 => ?_
                                  refine wp_region_list ?_
                                  refine op_val (ex_move hf rfl) rfl hf rfl rfl fun a hf => ?_
                                  refine op_val (ex_move hf rfl) rfl hf rfl rfl fun a hf => ?_
                                  obtain ⟨b74, hb74, hm⟩ := ob hm
                                  refine op_val (ex_index (l := s47) Tryz.underlying9 hf rfl rfl hb74) rfl hf rfl rfl fun a hf => ?_
                                  refine op_val (ex_eql_b (b := b74) (c := 63) hf rfl rfl) rfl hf rfl rfl fun a hf => ?_
                                  refine wpList_nil ?_
                                  refine nor_then (hK75 _ _ ?_)
                                  refine wp_cond_cut hf rfl (fun hc76 => ?_) (fun hc76 => ?_)
                                  · have hm := it hc76 hm
                                    refine wp_seq_k fun _ hK77 => ?_
                                    refine wp_region_list ?_
                                    refine op_val (ex_field fa_29_5 hf rfl) rfl hf rfl rfl fun a hf => ?_
                                    refine op_store1 (i := 0) (o := 7) (v := .bool true) sz_4 rfl rfl rfl rfl hf rfl rfl hO fun w hO => ?_
                                    refine wpList_nil ?_
                                    refine nor_then (hK77 _ _ ?_)
                                    refine wp_seq_k fun _ hK80 => ?_
                                    refine wp_region_list ?_
                                    refine op_val (ex_move hf rfl) rfl hf rfl rfl fun a hf => ?_
                                    refine op_val (ex_move hf rfl) rfl hf rfl rfl fun a hf => ?_
                                    obtain ⟨i78, hi78, hm⟩ := ob hm
                                    refine op_val (ex_add hf rfl rfl hi78) rfl hf rfl rfl fun a hf => ?_
                                    obtain ⟨s79, hs79, hm⟩ := ob hm
                                    refine op_val (ex_from_s (l := s47) Tryz.underlying9 hf rfl rfl hs79) rfl hf rfl rfl fun a hf => ?_
                                    refine op_val (ex_field fa_29_4 hf rfl) rfl hf rfl rfl fun a hf => ?_
                                    refine op_store1 (i := 0) (o := 6) (v := str s79) sz_9 rfl rfl rfl rfl hf rfl rfl hO fun w hO => ?_
                                    refine wpList_nil ?_
                                    refine nor_then (hK80 _ _ ?_)
                                    refine wp_region_list ?_
                                    refine op_val (ex_field fa_29_4 hf rfl) rfl hf rfl rfl fun a hf => ?_
                                    refine op_val (ex_load1 (o := 6) ag_9 (hO.blkSees (i := 0) rfl) rfl hf rfl) rfl hf rfl rfl fun a hf => ?_
                                    obtain ⟨r81, hr81, hm⟩ := ob hm
                                    refine op_enter (ex_call c_36 hf (vs := [str s79]) rfl) rfl hf rfl rfl (w_ref09_Query s79 r81 _ (hG.own hF hO) hr81) ?_
                                    rintro e w' ⟨he, hb⟩
                                    refine ⟨_, he, fun a hf => ?_⟩
                                    have hO := hO.grow hb
                                    refine op_val (ex_assign hf rfl) rfl hf rfl rfl fun a hf => ?_
                                    refine wpList_nil ?_
                                    refine nor_then ?_
                                    exact ⟨r81, 2, x34, r61.1.Kind, r61.1.Name, r61.1.Port, [], s79, true, (hf.cons rfl (hf.cons rfl (hf.cons rfl hf.nil))), hO, hm⟩
                                  · have hm := ie hc76 hm
                                    obtain ⟨s82, hs82, hm⟩ := ob hm
                                    obtain ⟨r83, hr83, hm⟩ := ob hm
                                    refine wp_drawS' (S := Unit) (E0 := [(1, str s47), (4, ptr b1 0), (13, int i50), (16, ptr b68 0)]) (by kernel_rfl) (fun k σ w => match k with | 0 => Dk.Own w0 [] w [.blk b68 [int 2, str x34, int r61.1.Kind, str r61.1.Name, int r61.1.Port, str [], str [], .bool false] 29, .blk b62 [int r61.1.Kind, str r61.1.Name, int r61.1.Port] 27, .row (.slice (some ⟨b27, 0, none⟩) (([[104, 116, 116, 112], [104, 116, 116, 112, 115]]).length) 2) 9 1 (([[104, 116, 116, 112], [104, 116, 116, 112, 115]]).length) (cells enc_str ([[104, 116, 116, 112], [104, 116, 116, 112, 115]])), .blk b21 [int r20.1.Kind, str r20.1.Scheme, int r20.1.Host.Kind, str r20.1.Host.Name, int r20.1.Host.Port, str r20.1.Path, str r20.1.Query, .bool r20.1.HasQuery] 29, .blk b1 [int 0, str [], int 0, str [], int 0, str [], str [], .bool false] 29] | 1 => Dk.Own w0 [] w [.blk b68 [int 2, str x34, int r61.1.Kind, str r61.1.Name, int r61.1.Port, str [], str [], .bool false] 29, .blk b62 [int r61.1.Kind, str r61.1.Name, int r61.1.Port] 27, .row (.slice (some ⟨b27, 0, none⟩) (([[104, 116, 116, 112], [104, 116, 116, 112, 115]]).length) 2) 9 1 (([[104, 116, 116, 112], [104, 116, 116, 112, 115]]).length) (cells enc_str ([[104, 116, 116, 112], [104, 116, 116, 112, 115]])), .blk b21 [int r20.1.Kind, str r20.1.Scheme, int r20.1.Host.Kind, str r20.1.Host.Name, int r20.1.Host.Port, str r20.1.Path, str r20.1.Query, .bool r20.1.HasQuery] 29, .blk b1 [int 0, str [], int 0, str [], int 0, str [], str [], .bool false] 29] | _ => Dk.Own w0 [] w [.blk b68 [int r83.1.Kind, str r83.1.Scheme, int r83.1.Host.Kind, str r83.1.Host.Name, int r83.1.Host.Port, str r83.1.Path, str r83.1.Query, .bool r83.1.HasQuery] 29, .blk b62 [int r61.1.Kind, str r61.1.Name, int r61.1.Port] 27, .row (.slice (some ⟨b27, 0, none⟩) (([[104, 116, 116, 112], [104, 116, 116, 112, 115]]).length) 2) 9 1 (([[104, 116, 116, 112], [104, 116, 116, 112, 115]]).length) (cells enc_str ([[104, 116, 116, 112], [104, 116, 116, 112, 115]])), .blk b21 [int r20.1.Kind, str r20.1.Scheme, int r20.1.Host.Kind, str r20.1.Host.Name, int r20.1.Host.Port, str r20.1.Path, str r20.1.Query, .bool r20.1.HasQuery] 29, .blk b1 [int 0, str [], int 0, str [], int 0, str [], str [], .bool false] 29]) (fun σ => [⟨[(16, ptr b68 0)], some (124, .agg #[int 2, str x34, int r61.1.Kind, str r61.1.Name, int r61.1.Port, str [], str [], .bool false])⟩, ⟨[(1, str s47)], some (125, str s47)⟩, ⟨[(13, int i50)], some (126, int i50)⟩, ⟨[(125, str s47), (126, int i50)], some (127, str s82)⟩, ⟨[(124, .agg #[int 2, str x34, int r61.1.Kind, str r61.1.Name, int r61.1.Port, str [], str [], .bool false]), (127, str s82)], some (128, .tuple #[.agg #[int r83.1.Kind, str r83.1.Scheme, int r83.1.Host.Kind, str r83.1.Host.Name, int r83.1.Host.Port, str r83.1.Path, str r83.1.Query, .bool r83.1.HasQuery], .bool r83.2])⟩, ⟨[(128, .tuple #[.agg #[int r83.1.Kind, str r83.1.Scheme, int r83.1.Host.Kind, str r83.1.Host.Name, int r83.1.Host.Port, str r83.1.Path, str r83.1.Query, .bool r83.1.HasQuery], .bool r83.2])], some (123, .tuple #[.agg #[int r83.1.Kind, str r83.1.Scheme, int r83.1.Host.Kind, str r83.1.Host.Name, int r83.1.Host.Port, str r83.1.Path, str r83.1.Query, .bool r83.1.HasQuery], .bool r83.2])⟩, ⟨[(123, .tuple #[.agg #[int r83.1.Kind, str r83.1.Scheme, int r83.1.Host.Kind, str r83.1.Host.Name, int r83.1.Host.Port, str r83.1.Path, str r83.1.Query, .bool r83.1.HasQuery], .bool r83.2])], some (129, .agg #[int r83.1.Kind, str r83.1.Scheme, int r83.1.Host.Kind, str r83.1.Host.Name, int r83.1.Host.Port, str r83.1.Path, str r83.1.Query, .bool r83.1.HasQuery])⟩, ⟨[(123, .tuple #[.agg #[int r83.1.Kind, str r83.1.Scheme, int r83.1.Host.Kind, str r83.1.Host.Name, int r83.1.Host.Port, str r83.1.Path, str r83.1.Query, .bool r83.1.HasQuery], .bool r83.2])], some (130, .bool r83.2)⟩, ⟨[(16, ptr b68 0), (129, .agg #[int r83.1.Kind, str r83.1.Scheme, int r83.1.Host.Kind, str r83.1.Host.Name, int r83.1.Host.Port, str r83.1.Path, str r83.1.Query, .bool r83.1.HasQuery])], none⟩, ⟨[(130, .bool r83.2)], some (9, .bool r83.2)⟩]) () [4, 8] rfl (fun _ => rfl) (fun _ => rfl) (fun _ => rfl) rfl rfl (by decide) rfl hO.drew (hf.cons rfl (hf.cons rfl (hf.cons rfl (hf.cons rfl hf.nil)))) (fun σ => ⟨⟨rfl, trivial⟩, ⟨⟨rfl, trivial⟩, ⟨⟨rfl, trivial⟩, ⟨⟨rfl, ⟨rfl, trivial⟩⟩, ⟨⟨rfl, ⟨rfl, trivial⟩⟩, ⟨⟨rfl, trivial⟩, ⟨⟨rfl, trivial⟩, ⟨⟨rfl, trivial⟩, ⟨⟨rfl, ⟨rfl, trivial⟩⟩, ⟨⟨rfl, trivial⟩, trivial⟩⟩⟩⟩⟩⟩⟩⟩⟩⟩) ⟨sS_pure rfl (fun σ => rfl) (fun σ => rfl) (fun σ a w k hk hlo hup hst hf => match k, hk, hlo, hup, hst, hf with | 0, _, _, _, hst, hf => have hO : Dk.Own w0 [] w [.blk b68 [int 2, str x34, int r61.1.Kind, str r61.1.Name, int r61.1.Port, str [], str [], .bool false] 29, .blk b62 [int r61.1.Kind, str r61.1.Name, int r61.1.Port] 27, .row (.slice (some ⟨b27, 0, none⟩) (([[104, 116, 116, 112], [104, 116, 116, 112, 115]]).length) 2) 9 1 (([[104, 116, 116, 112], [104, 116, 116, 112, 115]]).length) (cells enc_str ([[104, 116, 116, 112], [104, 116, 116, 112, 115]])), .blk b21 [int r20.1.Kind, str r20.1.Scheme, int r20.1.Host.Kind, str r20.1.Host.Name, int r20.1.Host.Port, str r20.1.Path, str r20.1.Query, .bool r20.1.HasQuery] 29, .blk b1 [int 0, str [], int 0, str [], int 0, str [], str [], .bool false] 29] := hst; ex_loadN (o := 0) (vs := [int 2, str x34, int r61.1.Kind, str r61.1.Name, int r61.1.Port, str [], str [], .bool false]) ag_29 sz_29 (hO.blkSees (i := 0) rfl) rfl rfl hf rfl | 1, _, _, _, hst, hf => have hO : Dk.Own w0 [] w [.blk b68 [int 2, str x34, int r61.1.Kind, str r61.1.Name, int r61.1.Port, str [], str [], .bool false] 29, .blk b62 [int r61.1.Kind, str r61.1.Name, int r61.1.Port] 27, .row (.slice (some ⟨b27, 0, none⟩) (([[104, 116, 116, 112], [104, 116, 116, 112, 115]]).length) 2) 9 1 (([[104, 116, 116, 112], [104, 116, 116, 112, 115]]).length) (cells enc_str ([[104, 116, 116, 112], [104, 116, 116, 112, 115]])), .blk b21 [int r20.1.Kind, str r20.1.Scheme, int r20.1.Host.Kind, str r20.1.Host.Name, int r20.1.Host.Port, str r20.1.Path, str r20.1.Query, .bool r20.1.HasQuery] 29, .blk b1 [int 0, str [], int 0, str [], int 0, str [], str [], .bool false] 29] := hst; ex_loadN (o := 0) (vs := [int 2, str x34, int r61.1.Kind, str r61.1.Name, int r61.1.Port, str [], str [], .bool false]) ag_29 sz_29 (hO.blkSees (i := 0) rfl) rfl rfl hf rfl | 2, _, _, hup, _, _ => absurd (hup 0 (by decide) (by kernel_rfl)) (by decide) | k + 3, hk, _, _, _, _ => absurd hk (by simp)), ⟨sS_pure rfl (fun σ => rfl) (fun σ => rfl) (fun σ a w k _ _ _ _ hf => ex_move hf rfl), ⟨sS_pure rfl (fun σ => rfl) (fun σ => rfl) (fun σ a w k _ _ _ _ hf => ex_move hf rfl), ⟨sS_pure rfl (fun σ => rfl) (fun σ => rfl) (fun σ a w k _ _ _ _ hf => ex_from_s (l := s47) Tryz.underlying9 hf rfl rfl hs82), ⟨sS_call rfl (fun σ => rfl) (fun σ => rfl) rfl (fun σ a w (_ : _) hf => ex_call c_34 hf (vs := [.agg #[int 2, str x34, int r61.1.Kind, str r61.1.Name, int r61.1.Port, str [], str [], .bool false], str s82]) rfl) (fun σ w (hO : Dk.Own w0 [] w [.blk b68 [int 2, str x34, int r61.1.Kind, str r61.1.Name, int r61.1.Port, str [], str [], .bool false] 29, .blk b62 [int r61.1.Kind, str r61.1.Name, int r61.1.Port] 27, .row (.slice (some ⟨b27, 0, none⟩) (([[104, 116, 116, 112], [104, 116, 116, 112, 115]]).length) 2) 9 1 (([[104, 116, 116, 112], [104, 116, 116, 112, 115]]).length) (cells enc_str ([[104, 116, 116, 112], [104, 116, 116, 112, 115]])), .blk b21 [int r20.1.Kind, str r20.1.Scheme, int r20.1.Host.Kind, str r20.1.Host.Name, int r20.1.Host.Port, str r20.1.Path, str r20.1.Query, .bool r20.1.HasQuery] 29, .blk b1 [int 0, str [], int 0, str [], int 0, str [], str [], .bool false] 29]) => (w_ref10_origin (⟨2, x34, r61.1, [], [], false⟩ : api_Target) s82 r83 _ (hG.own hF hO) hr83).mono fun e w' h => by obtain ⟨he, hb⟩ := h; exact ⟨(), he, hO.grow hb, ⟨.inr rfl, ⟨.inr rfl, ⟨.inr rfl, ⟨.inr rfl, ⟨.inr rfl, ⟨.inr rfl, ⟨.inr rfl, ⟨.inr rfl, ⟨.inr rfl, ⟨.inr rfl, trivial⟩⟩⟩⟩⟩⟩⟩⟩⟩⟩⟩), ⟨sS_pure rfl (fun σ => rfl) (fun σ => rfl) (fun σ a w k _ _ _ _ hf => ex_move hf rfl), ⟨sS_pure rfl (fun σ => rfl) (fun σ => rfl) (fun σ a w k _ _ _ _ hf => ex_extract hf rfl rfl), ⟨sS_pure rfl (fun σ => rfl) (fun σ => rfl) (fun σ a w k _ _ _ _ hf => ex_extract hf rfl rfl), ⟨sS_skip rfl (fun σ => rfl) (fun σ => rfl) rfl (fun σ w (hO : Dk.Own w0 [] w [.blk b68 [int 2, str x34, int r61.1.Kind, str r61.1.Name, int r61.1.Port, str [], str [], .bool false] 29, .blk b62 [int r61.1.Kind, str r61.1.Name, int r61.1.Port] 27, .row (.slice (some ⟨b27, 0, none⟩) (([[104, 116, 116, 112], [104, 116, 116, 112, 115]]).length) 2) 9 1 (([[104, 116, 116, 112], [104, 116, 116, 112, 115]]).length) (cells enc_str ([[104, 116, 116, 112], [104, 116, 116, 112, 115]])), .blk b21 [int r20.1.Kind, str r20.1.Scheme, int r20.1.Host.Kind, str r20.1.Host.Name, int r20.1.Host.Port, str r20.1.Path, str r20.1.Query, .bool r20.1.HasQuery] 29, .blk b1 [int 0, str [], int 0, str [], int 0, str [], str [], .bool false] 29]) => by obtain ⟨w', hO', hr⟩ := ef_storeN (x := (.tmp 16)) (y := (.tmp 129)) (E := [(16, ptr b68 0), (129, .agg #[int r83.1.Kind, str r83.1.Scheme, int r83.1.Host.Kind, str r83.1.Host.Name, int r83.1.Host.Port, str r83.1.Path, str r83.1.Query, .bool r83.1.HasQuery])]) (i := 0) (n := 8) (vs := [int r83.1.Kind, str r83.1.Scheme, int r83.1.Host.Kind, str r83.1.Host.Name, int r83.1.Host.Port, str r83.1.Path, str r83.1.Query, .bool r83.1.HasQuery]) sz_29 rfl rfl rfl (by simp [Value.oneCell']) hO rfl rfl; exact ⟨(), w', hO', ⟨.inr rfl, ⟨.inr rfl, ⟨.inr rfl, ⟨.inr rfl, ⟨.inr rfl, ⟨.inr rfl, ⟨.inr rfl, ⟨.inr rfl, ⟨.inr rfl, ⟨.inr rfl, trivial⟩⟩⟩⟩⟩⟩⟩⟩⟩⟩, hr⟩), ⟨sS_pure rfl (fun σ => rfl) (fun σ => rfl) (fun σ a w k _ _ _ _ hf => ex_assign hf rfl), trivial⟩⟩⟩⟩⟩⟩⟩⟩⟩⟩ ?_
                                    rintro _ a w hf hO
                                    have hO : Dk.Own w0 [] w [.blk b68 [int r83.1.Kind, str r83.1.Scheme, int r83.1.Host.Kind, str r83.1.Host.Name, int r83.1.Host.Port, str r83.1.Path, str r83.1.Query, .bool r83.1.HasQuery] 29, .blk b62 [int r61.1.Kind, str r61.1.Name, int r61.1.Port] 27, .row (.slice (some ⟨b27, 0, none⟩) (([[104, 116, 116, 112], [104, 116, 116, 112, 115]]).length) 2) 9 1 (([[104, 116, 116, 112], [104, 116, 116, 112, 115]]).length) (cells enc_str ([[104, 116, 116, 112], [104, 116, 116, 112, 115]])), .blk b21 [int r20.1.Kind, str r20.1.Scheme, int r20.1.Host.Kind, str r20.1.Host.Name, int r20.1.Host.Port, str r20.1.Path, str r20.1.Query, .bool r20.1.HasQuery] 29, .blk b1 [int 0, str [], int 0, str [], int 0, str [], str [], .bool false] 29] := hO
                                    have hf : Fits 137 [(4, ptr b1 0), (9, .bool r83.2), (16, ptr b68 0)] a := (hf.cons rfl (hf.cons rfl (hf.cons rfl hf.nil)))
                                    refine nor_then ?_
                                    exact ⟨r83.2, r83.1.Kind, r83.1.Scheme, r83.1.Host.Kind, r83.1.Host.Name, r83.1.Host.Port, r83.1.Path, r83.1.Query, r83.1.HasQuery, (hf.cons rfl (hf.cons rfl (hf.cons rfl hf.nil))), hO, hm⟩
                                · rintro a w ⟨t84, i85, s86, i87, s88, i89, s90, s91, t92, hf, hO, hm⟩
                                  rw [ref10_Parse_j7] at hm
                                  refine wp_seq_k fun _ hK96 => ?_
                                  refine wp_seq_k fun _ hK93 => ?_
                                  refine wp_region_list ?_
                                  refine op_val (ex_move hf rfl) rfl hf rfl rfl fun a hf => ?_
                                  refine op_val (ex_not hf rfl) rfl hf rfl rfl fun a hf => ?_
                                  refine wpList_nil ?_
                                  refine nor_then (hK93 _ _ ?_)
                                  refine wp_cond_cut hf rfl (fun hc94 => ?_) (fun hc94 => ?_)
                                  · have hm := it hc94 hm
                                    refine wp_seq_k fun _ hK95 => ?_
                                    refine wp_region_list ?_
                                    refine op_val (ex_build (vs := []) (v := .agg #[int 0, str [], int 0, str [], int 0, str [], str [], .bool false]) hf rfl (by kernel_rfl)) rfl hf rfl rfl fun a hf => ?_
                                    refine op_storeN (i := 4) (n := 8) sz_29 rfl rfl rfl (by simp [Value.oneCell']) hf rfl rfl hO fun w hO => ?_
                                    refine op_val (ex_assign hf rfl) rfl hf rfl rfl fun a hf => ?_
                                    refine wpList_nil ?_
                                    refine nor_then (hK95 _ _ ?_)
                                    refine wp_ret ?_
                                    refine ret_then ?_
                                    refine ret_block ?_
                                    refine ret_then ?_
                                    refine ret_then ?_
                                    refine ret_block ?_
                                    refine ret_then ?_
                                    obtain rfl := Option.some.inj hm
                                    exact post_ret Tryz.results11 hf (.cell rfl (run_loadVarN (n := 8) (vs := [int 0, str [], int 0, str [], int 0, str [], str [], .bool false]) ag_29 sz_29 rfl ((hO.blkSees (i := 4) rfl).cells (o := 0) (n := 8) rfl)) (.tmp rfl .nil)) ⟨rfl, hO.below⟩
                                  · have hm := ie hc94 hm
                                    refine wp_skip ?_
                                    refine nor_then (hK96 _ _ ?_)
                                    refine wp_seq_k fun _ hK97 => ?_
                                    refine wp_region_list ?_
                                    refine op_val (ex_loadN (o := 0) (vs := [int i85, str s86, int i87, str s88, int i89, str s90, str s91, .bool t92]) ag_29 sz_29 (hO.blkSees (i := 0) rfl) rfl rfl hf rfl) rfl hf rfl rfl fun a hf => ?_
                                    refine op_storeN (i := 4) (n := 8) sz_29 rfl rfl rfl (by simp [Value.oneCell']) hf rfl rfl hO fun w hO => ?_
                                    refine op_val (ex_assign hf rfl) rfl hf rfl rfl fun a hf => ?_
                                    refine wpList_nil ?_
                                    refine nor_then (hK97 _ _ ?_)
                                    refine wp_ret ?_
                                    refine ret_block ?_
                                    refine ret_then ?_
                                    refine ret_then ?_
                                    refine ret_block ?_
                                    refine ret_then ?_
                                    obtain rfl := Option.some.inj hm
                                    exact post_ret Tryz.results11 hf (.cell rfl (run_loadVarN (n := 8) (vs := [int i85, str s86, int i87, str s88, int i89, str s90, str s91, .bool t92]) ag_29 sz_29 rfl ((hO.blkSees (i := 4) rfl).cells (o := 0) (n := 8) rfl)) (.tmp rfl .nil)) ⟨rfl, hO.below⟩
                    · exact ⟨0, (hf.cons rfl (hf.cons rfl (hf.cons rfl (hf.cons rfl hf.nil)))), hO, hm⟩
              · have hm := ie hc32 hm
                refine wp_exit ?_
                refine exit_then ?_
                refine exit_then ?_
                refine exit_here ?_
                refine nor_then (hK100 _ _ ?_)
                refine wp_seq_k fun _ hK101 => ?_
                refine wp_region_list ?_
                refine op_val (ex_build (vs := []) (v := .agg #[int 0, str [], int 0, str [], int 0, str [], str [], .bool false]) hf rfl (by kernel_rfl)) rfl hf rfl rfl fun a hf => ?_
                refine op_storeN (i := 2) (n := 8) sz_29 rfl rfl rfl (by simp [Value.oneCell']) hf rfl rfl hO fun w hO => ?_
                refine op_val (ex_assign hf rfl) rfl hf rfl rfl fun a hf => ?_
                refine wpList_nil ?_
                refine nor_then (hK101 _ _ ?_)
                refine wp_ret ?_
                obtain rfl := Option.some.inj hm
                exact post_ret Tryz.results11 hf (.cell rfl (run_loadVarN (n := 8) (vs := [int 0, str [], int 0, str [], int 0, str [], str [], .bool false]) ag_29 sz_29 rfl ((hO.blkSees (i := 2) rfl).cells (o := 0) (n := 8) rfl)) (.tmp rfl .nil)) ⟨rfl, hO.below⟩
          · exact ⟨x_a1, 0, (hf.cons rfl (hf.cons rfl (hf.cons rfl (hf.cons rfl (hf.cons rfl hf.nil))))), hO, hm⟩

set_option maxHeartbeats 1000000 in
theorem w_quill_Join (x_sep : Str) (x_l : List Str) (R : Str) (w0 : World) (hG : Glob w0) {x_l_p0 : Option Addr} {x_l_c0 : Nat} (hs0 : Sees w0 x_l_p0 (cells enc_str x_l)) (hc0 : x_l.length ≤ x_l_c0) (hm : quill_Join x_sep x_l = some R) :
    Calls Tryz.prog 39 #[str x_sep, .slice x_l_p0 x_l.length x_l_c0] w0 fun e w' => e = .returned (str R) ∧ Below w0.heap.size w0 w' := by
  rw [quill_Join] at hm
  refine calls_enter (vs := [str x_sep, .slice x_l_p0 x_l.length x_l_c0]) Tryz.func39 rfl Tryz.ntmps39 rfl fun a hf => ?_
  have hF : Away [] := away_nil
  have hO : Dk.Own w0 [] w0 [] := Dk.Own.refl w0
  have hO := hO.addShr hs0 (by simp [Res.shared])
  refine wp_seq_k fun _ hK1 => ?_
  refine wp_region_list ?_
  refine op_val (ex_assign hf rfl) rfl hf rfl rfl fun a hf => ?_
  refine wpList_nil ?_
  refine nor_then (hK1 _ _ ?_)
  refine wp_seq_k fun _ hK3 => ?_
  refine wp_region_list ?_
  refine op_val (ex_move hf rfl) rfl hf rfl rfl fun a hf => ?_
  refine op_val (ex_move hf rfl) rfl hf rfl rfl fun a hf => ?_
  obtain ⟨r2, hr2, hm⟩ := ob hm
  refine op_enter (ex_call c_71 hf (vs := [.slice x_l_p0 x_l.length x_l_c0, str x_sep]) rfl) rfl hf rfl rfl (w_strings_Join x_l x_sep r2 _ (hG.own hF hO) (hO.sees (i := 0) rfl) hc0 hr2) ?_
  rintro e w' ⟨he, hb⟩
  refine ⟨_, he, fun a hf => ?_⟩
  have hO := hO.grow hb
  refine op_val (ex_assign hf rfl) rfl hf rfl rfl fun a hf => ?_
  refine wpList_nil ?_
  refine nor_then (hK3 _ _ ?_)
  refine wp_ret ?_
  obtain rfl := Option.some.inj hm
  exact post_ret Tryz.results39 hf (.tmp rfl .nil) ⟨rfl, hO.below⟩

set_option maxHeartbeats 1000000 in
theorem w_hostport_Text (x_h : api_Host) (R : Str × Int) (w0 : World) (hG : GlobT w0) (hm : hostport_Text x_h = some R) :
    Calls Tryz.prog 37 #[.agg #[int x_h.Kind, str x_h.Name, int x_h.Port]] w0 fun e w' => e = .returned (.tuple #[str R.1, int R.2]) ∧ Below w0.heap.size w0 w' := by
  rw [hostport_Text] at hm
  refine calls_enter (vs := [.agg #[int x_h.Kind, str x_h.Name, int x_h.Port]]) Tryz.func37 rfl Tryz.ntmps37 rfl fun a hf => ?_
  have hF : Away [] := away_nil
  have hO : Dk.Own w0 [] w0 [] := Dk.Own.refl w0
  refine wp_seq_k fun _ hK2 => ?_
  refine wp_region_list ?_
  refine op_box (v := .agg #[int x_h.Kind, str x_h.Name, int x_h.Port]) (cs := [int x_h.Kind, str x_h.Name, int x_h.Port]) rfl hf rfl rfl hO fun a b1 w hf hO => ?_
  refine op_val (ex_assign hf rfl) rfl hf rfl rfl fun a hf => ?_
  refine op_val (ex_assign hf rfl) rfl hf rfl rfl fun a hf => ?_
  refine wpList_nil ?_
  refine nor_then (hK2 _ _ ?_)
  refine wp_seq_k fun _ hK4 => ?_
  refine wp_region_list ?_
  refine op_val (ex_field fa_27_1 hf rfl) rfl hf rfl rfl fun a hf => ?_
  refine op_val (ex_load1 (o := 1) ag_9 (hO.blkSees (i := 0) rfl) rfl hf rfl) rfl hf rfl rfl fun a hf => ?_
  refine op_buildSlice (vs := [(0, str x_h.Name)]) (cs := [str x_h.Name]) (e := 9) (sz := 1) hf rfl rfl (fun w => by kernel_rfl) rfl rfl hO fun a b3 w hf hO => ?_
  refine op_val (ex_assign hf rfl) rfl hf rfl rfl fun a hf => ?_
  refine wpList_nil ?_
  refine nor_then (hK4 _ _ ?_)
  refine wp_seq_cut (fun a w => ∃ (p8 : Option Addr) (c9 : Nat) (l10 : List Str), Fits 41 [(1, ptr b1 0), (4, .slice p8 l10.length c9)] a ∧ Dk.Own w0 [] w [.blk b1 [int x_h.Kind, str x_h.Name, int x_h.Port] 27, .row (.slice p8 l10.length c9) 9 1 l10.length (cells enc_str l10)] ∧ hostport_Text_j1 x_h l10 = some R) ?_ ?_
  · refine wp_seq_k fun _ hK5 => ?_
    refine wp_region_list ?_
    refine op_val (ex_field fa_27_0 hf rfl) rfl hf rfl rfl fun a hf => ?_
    refine op_val (ex_load1 (o := 0) ag_25 (hO.blkSees (i := 1) rfl) rfl hf rfl) rfl hf rfl rfl fun a hf => ?_
    refine op_val (ex_eql (m := x_h.Kind) (n := 3) hf rfl rfl) rfl hf rfl rfl fun a hf => ?_
    refine wpList_nil ?_
    refine nor_then (hK5 _ _ ?_)
    refine wp_cond_cut hf rfl (fun hc6 => ?_) (fun hc6 => ?_)
    · have hm := it hc6 hm
      refine wp_region_list ?_
      refine op_val (ex_field fa_27_1 hf rfl) rfl hf rfl rfl fun a hf => ?_
      refine op_val (ex_load1 (o := 1) ag_9 (hO.blkSees (i := 1) rfl) rfl hf rfl) rfl hf rfl rfl fun a hf => ?_
      refine op_buildSlice (vs := [(0, str [91]), (1, str x_h.Name), (2, str [93])]) (cs := [str [91], str x_h.Name, str [93]]) (e := 9) (sz := 1) hf rfl rfl (fun w => by kernel_rfl) rfl rfl hO fun a b7 w hf hO => ?_
      refine op_val (ex_assign hf rfl) rfl hf rfl rfl fun a hf => ?_
      refine wpList_nil ?_
      refine nor_then ?_
      exact ⟨some ⟨b7, 0, none⟩, 3, [[91], x_h.Name, [93]], (hf.cons rfl (hf.cons rfl hf.nil)), (hO.choose [2, 0] rfl), hm⟩
    · have hm := ie hc6 hm
      refine wp_skip ?_
      refine nor_then ?_
      exact ⟨some ⟨b3, 0, none⟩, 1, [x_h.Name], (hf.cons rfl (hf.cons rfl hf.nil)), (hO.choose [1, 0] rfl), hm⟩
  · rintro a w ⟨p8, c9, l10, hf, hO, hm⟩
    rw [hostport_Text_j1] at hm
    refine wp_seq_cut (fun a w => ∃ (p18 : Option Addr) (c19 : Nat) (l20 : List Str), Fits 41 [(1, ptr b1 0), (4, .slice p18 l20.length c19)] a ∧ Dk.Own w0 [] w [.blk b1 [int x_h.Kind, str x_h.Name, int x_h.Port] 27, .row (.slice p18 l20.length c19) 9 1 l20.length (cells enc_str l20)] ∧ hostport_Text_j2 x_h l20 = some R) ?_ ?_
    · refine wp_seq_k fun _ hK11 => ?_
      refine wp_region_list ?_
      refine op_val (ex_field fa_27_2 hf rfl) rfl hf rfl rfl fun a hf => ?_
      refine op_val (ex_load1 (o := 2) ag_3 (hO.blkSees (i := 0) rfl) rfl hf rfl) rfl hf rfl rfl fun a hf => ?_
      refine op_val (ex_neq (m := x_h.Port) (n := (-1)) hf rfl rfl) rfl hf rfl rfl fun a hf => ?_
      refine wpList_nil ?_
      refine nor_then (hK11 _ _ ?_)
      refine wp_cond_cut hf rfl (fun hc12 => ?_) (fun hc12 => ?_)
      · have hm := it hc12 hm
        refine wp_region_list ?_
        refine op_val (ex_move hf rfl) rfl hf rfl rfl fun a hf => ?_
        refine op_val (ex_field fa_27_2 hf rfl) rfl hf rfl rfl fun a hf => ?_
        refine op_val (ex_load1 (o := 2) ag_3 (hO.blkSees (i := 0) rfl) rfl hf rfl) rfl hf rfl rfl fun a hf => ?_
        obtain ⟨r13, hr13, hm⟩ := ob hm
        refine op_enter (ex_call c_70 hf (vs := [int x_h.Port]) rfl) rfl hf rfl rfl (w_numeral_Text x_h.Port r13 _ (hG.own hF hO) hr13) ?_
        rintro e w' ⟨he, hb⟩
        refine ⟨_, he, fun a hf => ?_⟩
        have hO := hO.grow hb
        refine op_buildSlice (vs := [(0, str [58]), (1, str r13)]) (cs := [str [58], str r13]) (e := 9) (sz := 1) hf rfl rfl (fun w => by kernel_rfl) rfl rfl hO fun a b14 w hf hO => ?_
        obtain ⟨hg17, hm⟩ := og hm
        refine op_appendT el_54 (enc := enc_str) (xs := l10) (ys := [[58], r13]) (i := 2) (fun _ => rfl) rfl (hO.rowSees (i := 0) rfl) (by simp [cells, enc_str, Value.oneCell']) hg17 hf rfl rfl rfl hO fun a p15 c16 w hf hO => ?_
        refine op_val (ex_assign hf rfl) rfl hf rfl rfl fun a hf => ?_
        refine wpList_nil ?_
        refine nor_then ?_
        exact ⟨p15, c16, l10 ++ [[58], r13], (hf.cons rfl (hf.cons rfl hf.nil)), (hO.sub (.cons _ (.cons_cons _ (.cons_cons _ .slnil)))), hm⟩
      · have hm := ie hc12 hm
        refine wp_skip ?_
        refine nor_then ?_
        exact ⟨p8, c9, l10, (hf.cons rfl (hf.cons rfl hf.nil)), hO, hm⟩
    · rintro a w ⟨p18, c19, l20, hf, hO, hm⟩
      rw [hostport_Text_j2] at hm
      refine wp_seq_k fun _ hK22 => ?_
      refine wp_region_list ?_
      refine op_val (ex_move hf rfl) rfl hf rfl rfl fun a hf => ?_
      obtain ⟨r21, hr21, hm⟩ := ob hm
      refine op_enter (ex_call c_39 hf (vs := [str [], .slice p18 l20.length c19]) rfl) rfl hf rfl rfl (w_quill_Join [] l20 r21 _ (hG.own hF hO).1 (hO.rowSees (i := 1) rfl) (hO.rowCap (i := 1) rfl) hr21) ?_
      rintro e w' ⟨he, hb⟩
      refine ⟨_, he, fun a hf => ?_⟩
      have hO := hO.grow hb
      refine op_val (ex_assign hf rfl) rfl hf rfl rfl fun a hf => ?_
      refine wpList_nil ?_
      refine nor_then (hK22 _ _ ?_)
      refine wp_seq_k fun _ hK30 => ?_
      refine wp_seq_k fun _ hK25 => ?_
      refine wp_region_list ?_
      refine op_val (ex_move hf rfl) rfl hf rfl rfl fun a hf => ?_
      obtain ⟨r23, hr23, hm⟩ := ob hm
      refine op_enter (ex_call c_31 hf (vs := [str r21]) rfl) rfl hf rfl rfl (w_hostport_Parse r21 r23 _ (hG.own hF hO) hr23) ?_
      rintro e w' ⟨he, hb⟩
      refine ⟨_, he, fun a hf => ?_⟩
      have hO := hO.grow hb
      refine op_val (ex_move hf rfl) rfl hf rfl rfl fun a hf => ?_
      refine op_val (ex_extract hf rfl rfl) rfl hf rfl rfl fun a hf => ?_
      refine op_val (ex_extract hf rfl rfl) rfl hf rfl rfl fun a hf => ?_
      refine op_alloc al_27 hf rfl hO fun a b24 w hf hO => ?_
      refine op_storeN (i := 0) (n := 3) sz_27 rfl rfl rfl (by simp [Value.oneCell']) hf rfl rfl hO fun w hO => ?_
      refine op_val (ex_assign hf rfl) rfl hf rfl rfl fun a hf => ?_
      refine wpList_nil ?_
      refine nor_then (hK25 _ _ ?_)
      refine wp_seq_cut (fun a w => ∃ (t27 : Bool), Fits 41 [(5, str r21), (39, .bool t27)] a ∧ Dk.Own w0 [] w [.blk b24 [int r23.1.Kind, str r23.1.Name, int r23.1.Port] 27, .blk b1 [int x_h.Kind, str x_h.Name, int x_h.Port] 27, .row (.slice p18 l20.length c19) 9 1 l20.length (cells enc_str l20)] ∧ hostport_Text_j3 r21 t27 = some R) ?_ ?_
      · refine wp_region_list ?_
        refine op_val (ex_move hf rfl) rfl hf rfl rfl fun a hf => ?_
        refine op_val (ex_neq (m := r23.2) (n := 0) hf rfl rfl) rfl hf rfl rfl fun a hf => ?_
        refine op_val (ex_move hf rfl) rfl hf rfl rfl fun a hf => ?_
        rcases bcase (!(r23.2 == 0)) with hc26 | hc26
        · have hm := it hc26 hm
          refine op_pass rfl hf rfl rfl (hc26) rfl rfl fun a hf => ?_
          refine op_pass rfl hf rfl rfl (hc26) rfl rfl fun a hf => ?_
          refine op_pass rfl hf rfl rfl (hc26) rfl rfl fun a hf => ?_
          refine op_val (ex_pick_t hf rfl hc26 rfl) rfl hf rfl rfl fun a hf => ?_
          refine wpList_nil ?_
          refine nor_then ?_
          exact ⟨true, (hf.cons rfl (hf.cons rfl hf.nil)), hO, hm⟩
        · have hm := ie hc26 hm
          refine op_guard rfl hf rfl rfl (hc26) ?_
          refine op_val (ex_loadN (o := 0) (vs := [int r23.1.Kind, str r23.1.Name, int r23.1.Port]) ag_27 sz_27 (hO.blkSees (i := 0) rfl) rfl rfl hf rfl) rfl hf rfl rfl fun a hf => ?_
          refine op_guard rfl hf rfl rfl (hc26) ?_
          refine op_val (ex_loadN (o := 0) (vs := [int x_h.Kind, str x_h.Name, int x_h.Port]) ag_27 sz_27 (hO.blkSees (i := 1) rfl) rfl rfl hf rfl) rfl hf rfl rfl fun a hf => ?_
          refine op_guard rfl hf rfl rfl (hc26) ?_
          refine op_val (ex_neq_t (by kernel_rfl) (eq_27 r23.1 x_h) hf rfl rfl) rfl hf rfl rfl fun a hf => ?_
          refine op_val (ex_pick_f hf rfl hc26 rfl) rfl hf rfl rfl fun a hf => ?_
          refine wpList_nil ?_
          refine nor_then ?_
          exact ⟨!(r23.1 == x_h), (hf.cons rfl (hf.cons rfl hf.nil)), hO, hm⟩
      · rintro a w ⟨t27, hf, hO, hm⟩
        rw [hostport_Text_j3] at hm
        refine wp_cond_cut hf rfl (fun hc28 => ?_) (fun hc28 => ?_)
        · have hm := it hc28 hm
          refine wp_seq_k fun _ hK29 => ?_
          refine wp_region_list ?_
          refine op_val (ex_assign hf rfl) rfl hf rfl rfl fun a hf => ?_
          refine op_val (ex_assign hf rfl) rfl hf rfl rfl fun a hf => ?_
          refine wpList_nil ?_
          refine nor_then (hK29 _ _ ?_)
          refine wp_ret ?_
          refine ret_then ?_
          obtain rfl := Option.some.inj hm
          exact post_ret Tryz.results37 hf (.tmp rfl (.tmp rfl .nil)) ⟨rfl, hO.below⟩
        · have hm := ie hc28 hm
          refine wp_skip ?_
          refine nor_then (hK30 _ _ ?_)
          refine wp_seq_k fun _ hK31 => ?_
          refine wp_region_list ?_
          refine op_val (ex_move hf rfl) rfl hf rfl rfl fun a hf => ?_
          refine op_val (ex_assign hf rfl) rfl hf rfl rfl fun a hf => ?_
          refine op_val (ex_assign hf rfl) rfl hf rfl rfl fun a hf => ?_
          refine wpList_nil ?_
          refine nor_then (hK31 _ _ ?_)
          refine wp_ret ?_
          obtain rfl := Option.some.inj hm
          exact post_ret Tryz.results37 hf (.tmp rfl (.tmp rfl .nil)) ⟨rfl, hO.below⟩

set_option maxHeartbeats 1000000 in
theorem w_target_Text (x_t : api_Target) (R : Str × Int) (w0 : World) (hG : GlobT w0) (hm : target_Text x_t = some R) :
    Calls Tryz.prog 12 #[.agg #[int x_t.Kind, str x_t.Scheme, int x_t.Host.Kind, str x_t.Host.Name, int x_t.Host.Port, str x_t.Path, str x_t.Query, .bool x_t.HasQuery]] w0 fun e w' => e = .returned (.tuple #[str R.1, int R.2]) ∧ Below w0.heap.size w0 w' := by
  rw [target_Text] at hm
  refine calls_enter (vs := [.agg #[int x_t.Kind, str x_t.Scheme, int x_t.Host.Kind, str x_t.Host.Name, int x_t.Host.Port, str x_t.Path, str x_t.Query, .bool x_t.HasQuery]]) Tryz.func12 rfl Tryz.ntmps12 rfl fun a hf => ?_
  have hF : Away [] := away_nil
  have hO : Dk.Own w0 [] w0 [] := Dk.Own.refl w0
  refine wp_seq_k fun _ hK2 => ?_
  refine wp_region_list ?_
  refine op_box (v := .agg #[int x_t.Kind, str x_t.Scheme, int x_t.Host.Kind, str x_t.Host.Name, int x_t.Host.Port, str x_t.Path, str x_t.Query, .bool x_t.HasQuery]) (cs := [int x_t.Kind, str x_t.Scheme, int x_t.Host.Kind, str x_t.Host.Name, int x_t.Host.Port, str x_t.Path, str x_t.Query, .bool x_t.HasQuery]) rfl hf rfl rfl hO fun a b1 w hf hO => ?_
  refine op_val (ex_assign hf rfl) rfl hf rfl rfl fun a hf => ?_
  refine op_val (ex_assign hf rfl) rfl hf rfl rfl fun a hf => ?_
  refine wpList_nil ?_
  refine nor_then (hK2 _ _ ?_)
  refine wp_seq_k fun _ hK3 => ?_
  refine wp_region_list ?_
  refine op_val (ex_assign hf rfl) rfl hf rfl rfl fun a hf => ?_
  refine wpList_nil ?_
  refine nor_then (hK3 _ _ ?_)
  refine wp_seq_k fun _ hK5 => ?_
  refine wp_region_list ?_
  refine op_val (ex_field fa_29_2 hf rfl) rfl hf rfl rfl fun a hf => ?_
  refine op_val (ex_loadN (o := 2) (vs := [int x_t.Host.Kind, str x_t.Host.Name, int x_t.Host.Port]) ag_27 sz_27 (hO.blkSees (i := 0) rfl) rfl rfl hf rfl) rfl hf rfl rfl fun a hf => ?_
  obtain ⟨r4, hr4, hm⟩ := ob hm
  refine op_enter (ex_call c_37 hf (vs := [.agg #[int x_t.Host.Kind, str x_t.Host.Name, int x_t.Host.Port]]) rfl) rfl hf rfl rfl (w_hostport_Text x_t.Host r4 _ (hG.own hF hO) hr4) ?_
  rintro e w' ⟨he, hb⟩
  refine ⟨_, he, fun a hf => ?_⟩
  have hO := hO.grow hb
  refine op_val (ex_move hf rfl) rfl hf rfl rfl fun a hf => ?_
  refine op_val (ex_extract hf rfl rfl) rfl hf rfl rfl fun a hf => ?_
  refine op_val (ex_extract hf rfl rfl) rfl hf rfl rfl fun a hf => ?_
  refine op_val (ex_assign hf rfl) rfl hf rfl rfl fun a hf => ?_
  refine op_val (ex_assign hf rfl) rfl hf rfl rfl fun a hf => ?_
  refine wpList_nil ?_
  refine nor_then (hK5 _ _ ?_)
  refine wp_seq_k fun _ hK7 => ?_
  refine wp_region_list ?_
  refine op_val (ex_field fa_29_3 hf rfl) rfl hf rfl rfl fun a hf => ?_
  refine op_val (ex_load1 (o := 5) ag_9 (hO.blkSees (i := 0) rfl) rfl hf rfl) rfl hf rfl rfl fun a hf => ?_
  refine op_val (ex_field fa_29_4 hf rfl) rfl hf rfl rfl fun a hf => ?_
  refine op_val (ex_load1 (o := 6) ag_9 (hO.blkSees (i := 0) rfl) rfl hf rfl) rfl hf rfl rfl fun a hf => ?_
  refine op_val (ex_field fa_29_5 hf rfl) rfl hf rfl rfl fun a hf => ?_
  refine op_val (ex_load1 (o := 7) ag_4 (hO.blkSees (i := 0) rfl) rfl hf rfl) rfl hf rfl rfl fun a hf => ?_
  obtain ⟨r6, hr6, hm⟩ := ob hm
  refine op_enter (ex_call c_38 hf (vs := [str x_t.Path, str x_t.Query, .bool x_t.HasQuery]) rfl) rfl hf rfl rfl (w_pathq_Join x_t.Path x_t.Query x_t.HasQuery r6 _ (hG.own hF hO).1 hr6) ?_
  rintro e w' ⟨he, hb⟩
  refine ⟨_, he, fun a hf => ?_⟩
  have hO := hO.grow hb
  refine op_val (ex_assign hf rfl) rfl hf rfl rfl fun a hf => ?_
  refine wpList_nil ?_
  refine nor_then (hK7 _ _ ?_)
  refine wp_seq_cut (fun a w => ∃ (s17 : Str) (s18 : Str), Fits 52 [(1, ptr b1 0), (4, str s17), (7, str s18)] a ∧ Dk.Own w0 [] w [.blk b1 [int x_t.Kind, str x_t.Scheme, int x_t.Host.Kind, str x_t.Host.Name, int x_t.Host.Port, str x_t.Path, str x_t.Query, .bool x_t.HasQuery] 29] ∧ target_Text_j1 x_t s17 s18 = some R) ?_ ?_
  · refine wp_seq_k fun _ hK8 => ?_
    refine wp_region_list ?_
    refine op_val (ex_field fa_29_0 hf rfl) rfl hf rfl rfl fun a hf => ?_
    refine op_val (ex_load1 (o := 0) ag_24 (hO.blkSees (i := 0) rfl) rfl hf rfl) rfl hf rfl rfl fun a hf => ?_
    refine wpList_nil ?_
    refine nor_then (hK8 _ _ ?_)
    refine wp_block ?_
    refine wp_seq_k fun _ hK9 => ?_
    refine wp_region_list ?_
    refine op_val (ex_eql (m := x_t.Kind) (n := 2) hf rfl rfl) rfl hf rfl rfl fun a hf => ?_
    refine op_val (ex_assign hf rfl) rfl hf rfl rfl fun a hf => ?_
    refine wpList_nil ?_
    refine nor_then (hK9 _ _ ?_)
    refine wp_cond_cut hf rfl (fun hc10 => ?_) (fun hc10 => ?_)
    · have hm := it hc10 hm
      refine wp_region_list ?_
      refine op_val (ex_field fa_29_1 hf rfl) rfl hf rfl rfl fun a hf => ?_
      refine op_val (ex_load1 (o := 1) ag_9 (hO.blkSees (i := 0) rfl) rfl hf rfl) rfl hf rfl rfl fun a hf => ?_
      refine op_val (ex_move hf rfl) rfl hf rfl rfl fun a hf => ?_
      refine op_val (ex_move hf rfl) rfl hf rfl rfl fun a hf => ?_
      refine op_buildSlice (vs := [(0, str x_t.Scheme), (1, str [58, 47, 47]), (2, str r4.1), (3, str r6)]) (cs := [str x_t.Scheme, str [58, 47, 47], str r4.1, str r6]) (e := 9) (sz := 1) hf rfl rfl (fun w => by kernel_rfl) rfl rfl hO fun a b11 w hf hO => ?_
      obtain ⟨r12, hr12, hm⟩ := ob hm
      refine op_enter (ex_call c_39 hf (vs := [str [], .slice (some ⟨b11, 0, none⟩) (([x_t.Scheme, [58, 47, 47], r4.1, r6]).length) 4]) rfl) rfl hf rfl rfl (w_quill_Join [] ([x_t.Scheme, [58, 47, 47], r4.1, r6]) r12 _ (hG.own hF hO).1 (hO.rowSees (i := 0) rfl) (hO.rowCap (i := 0) rfl) hr12) ?_
      rintro e w' ⟨he, hb⟩
      refine ⟨_, he, fun a hf => ?_⟩
      have hO := hO.grow hb
      refine op_val (ex_assign hf rfl) rfl hf rfl rfl fun a hf => ?_
      refine wpList_nil ?_
      refine nor_block ?_
      refine nor_then ?_
      exact ⟨[79, 80, 84, 73, 79, 78, 83], r12, (hf.cons rfl (hf.cons rfl (hf.cons rfl hf.nil))), (hO.sub (.cons _ (.cons_cons _ .slnil))), hm⟩
    · have hm := ie hc10 hm
      refine wp_seq_k fun _ hK13 => ?_
      refine wp_region_list ?_
      refine op_val (ex_eql (m := x_t.Kind) (n := 3) hf rfl rfl) rfl hf rfl rfl fun a hf => ?_
      refine op_val (ex_assign hf rfl) rfl hf rfl rfl fun a hf => ?_
      refine wpList_nil ?_
      refine nor_then (hK13 _ _ ?_)
      refine wp_cond_cut hf rfl (fun hc14 => ?_) (fun hc14 => ?_)
      · have hm := it hc14 hm
        refine wp_region_list ?_
        refine op_val (ex_move hf rfl) rfl hf rfl rfl fun a hf => ?_
        refine op_val (ex_assign hf rfl) rfl hf rfl rfl fun a hf => ?_
        refine op_val (ex_assign hf rfl) rfl hf rfl rfl fun a hf => ?_
        refine wpList_nil ?_
        refine nor_block ?_
        refine nor_then ?_
        exact ⟨[67, 79, 78, 78, 69, 67, 84], r4.1, (hf.cons rfl (hf.cons rfl (hf.cons rfl hf.nil))), hO, hm⟩
      · have hm := ie hc14 hm
        refine wp_seq_k fun _ hK15 => ?_
        refine wp_region_list ?_
        refine op_val (ex_eql (m := x_t.Kind) (n := 4) hf rfl rfl) rfl hf rfl rfl fun a hf => ?_
        refine op_val (ex_assign hf rfl) rfl hf rfl rfl fun a hf => ?_
        refine wpList_nil ?_
        refine nor_then (hK15 _ _ ?_)
        refine wp_cond_cut hf rfl (fun hc16 => ?_) (fun hc16 => ?_)
        · have hm := it hc16 hm
          refine wp_region_list ?_
          refine op_val (ex_assign hf rfl) rfl hf rfl rfl fun a hf => ?_
          refine wpList_nil ?_
          refine nor_block ?_
          refine nor_then ?_
          exact ⟨[79, 80, 84, 73, 79, 78, 83], [42], (hf.cons rfl (hf.cons rfl (hf.cons rfl hf.nil))), hO, hm⟩
        · have hm := ie hc16 hm
          refine wp_skip ?_
          refine nor_block ?_
          refine nor_then ?_
          exact ⟨[79, 80, 84, 73, 79, 78, 83], r6, (hf.cons rfl (hf.cons rfl (hf.cons rfl hf.nil))), hO, hm⟩
  · rintro a w ⟨s17, s18, hf, hO, hm⟩
    rw [target_Text_j1] at hm
    refine wp_seq_k fun _ hK26 => ?_
    refine wp_seq_k fun _ hK21 => ?_
    refine wp_region_list ?_
    refine op_val (ex_move hf rfl) rfl hf rfl rfl fun a hf => ?_
    refine op_val (ex_move hf rfl) rfl hf rfl rfl fun a hf => ?_
    obtain ⟨r19, hr19, hm⟩ := ob hm
    refine op_enter (ex_call c_10 hf (vs := [str s17, str s18]) rfl) rfl hf rfl rfl (w_target_Parse s17 s18 r19 _ (hG.own hF hO) hr19) ?_
    rintro e w' ⟨he, hb⟩
    refine ⟨_, he, fun a hf => ?_⟩
    have hO := hO.grow hb
    refine op_val (ex_move hf rfl) rfl hf rfl rfl fun a hf => ?_
    refine op_val (ex_extract hf rfl rfl) rfl hf rfl rfl fun a hf => ?_
    refine op_val (ex_extract hf rfl rfl) rfl hf rfl rfl fun a hf => ?_
    refine op_alloc al_29 hf rfl hO fun a b20 w hf hO => ?_
    refine op_storeN (i := 0) (n := 8) sz_29 rfl rfl rfl (by simp [Value.oneCell']) hf rfl rfl hO fun w hO => ?_
    refine op_val (ex_assign hf rfl) rfl hf rfl rfl fun a hf => ?_
    refine wpList_nil ?_
    refine nor_then (hK21 _ _ ?_)
    refine wp_seq_cut (fun a w => ∃ (t23 : Bool), Fits 52 [(7, str s18), (50, .bool t23)] a ∧ Dk.Own w0 [] w [.blk b20 [int r19.1.Kind, str r19.1.Scheme, int r19.1.Host.Kind, str r19.1.Host.Name, int r19.1.Host.Port, str r19.1.Path, str r19.1.Query, .bool r19.1.HasQuery] 29, .blk b1 [int x_t.Kind, str x_t.Scheme, int x_t.Host.Kind, str x_t.Host.Name, int x_t.Host.Port, str x_t.Path, str x_t.Query, .bool x_t.HasQuery] 29] ∧ target_Text_j2 s18 t23 = some R) ?_ ?_
    · refine wp_region_list ?_
      refine op_val (ex_move hf rfl) rfl hf rfl rfl fun a hf => ?_
      refine op_val (ex_neq (m := r19.2) (n := 0) hf rfl rfl) rfl hf rfl rfl fun a hf => ?_
      refine op_val (ex_move hf rfl) rfl hf rfl rfl fun a hf => ?_
      rcases bcase (!(r19.2 == 0)) with hc22 | hc22
      · have hm := it hc22 hm
        refine op_pass rfl hf rfl rfl (hc22) rfl rfl fun a hf => ?_
        refine op_pass rfl hf rfl rfl (hc22) rfl rfl fun a hf => ?_
        refine op_pass rfl hf rfl rfl (hc22) rfl rfl fun a hf => ?_
        refine op_val (ex_pick_t hf rfl hc22 rfl) rfl hf rfl rfl fun a hf => ?_
        refine wpList_nil ?_
        refine nor_then ?_
        exact ⟨true, (hf.cons rfl (hf.cons rfl hf.nil)), hO, hm⟩
      · have hm := ie hc22 hm
        refine op_guard rfl hf rfl rfl (hc22) ?_
        refine op_val (ex_loadN (o := 0) (vs := [int r19.1.Kind, str r19.1.Scheme, int r19.1.Host.Kind, str r19.1.Host.Name, int r19.1.Host.Port, str r19.1.Path, str r19.1.Query, .bool r19.1.HasQuery]) ag_29 sz_29 (hO.blkSees (i := 0) rfl) rfl rfl hf rfl) rfl hf rfl rfl fun a hf => ?_
        refine op_guard rfl hf rfl rfl (hc22) ?_
        refine op_val (ex_loadN (o := 0) (vs := [int x_t.Kind, str x_t.Scheme, int x_t.Host.Kind, str x_t.Host.Name, int x_t.Host.Port, str x_t.Path, str x_t.Query, .bool x_t.HasQuery]) ag_29 sz_29 (hO.blkSees (i := 1) rfl) rfl rfl hf rfl) rfl hf rfl rfl fun a hf => ?_
        refine op_guard rfl hf rfl rfl (hc22) ?_
        refine op_val (ex_neq_t (by kernel_rfl) (eq_29 r19.1 x_t) hf rfl rfl) rfl hf rfl rfl fun a hf => ?_
        refine op_val (ex_pick_f hf rfl hc22 rfl) rfl hf rfl rfl fun a hf => ?_
        refine wpList_nil ?_
        refine nor_then ?_
        exact ⟨!(r19.1 == x_t), (hf.cons rfl (hf.cons rfl hf.nil)), hO, hm⟩
    · rintro a w ⟨t23, hf, hO, hm⟩
      rw [target_Text_j2] at hm
      refine wp_cond_cut hf rfl (fun hc24 => ?_) (fun hc24 => ?_)
      · have hm := it hc24 hm
        refine wp_seq_k fun _ hK25 => ?_
        refine wp_region_list ?_
        refine op_val (ex_assign hf rfl) rfl hf rfl rfl fun a hf => ?_
        refine op_val (ex_assign hf rfl) rfl hf rfl rfl fun a hf => ?_
        refine wpList_nil ?_
        refine nor_then (hK25 _ _ ?_)
        refine wp_ret ?_
        refine ret_then ?_
        obtain rfl := Option.some.inj hm
        exact post_ret Tryz.results12 hf (.tmp rfl (.tmp rfl .nil)) ⟨rfl, hO.below⟩
      · have hm := ie hc24 hm
        refine wp_skip ?_
        refine nor_then (hK26 _ _ ?_)
        refine wp_seq_k fun _ hK27 => ?_
        refine wp_region_list ?_
        refine op_val (ex_move hf rfl) rfl hf rfl rfl fun a hf => ?_
        refine op_val (ex_assign hf rfl) rfl hf rfl rfl fun a hf => ?_
        refine op_val (ex_assign hf rfl) rfl hf rfl rfl fun a hf => ?_
        refine wpList_nil ?_
        refine nor_then (hK27 _ _ ?_)
        refine wp_ret ?_
        obtain rfl := Option.some.inj hm
        exact post_ret Tryz.results12 hf (.tmp rfl (.tmp rfl .nil)) ⟨rfl, hO.below⟩

set_option maxHeartbeats 1000000 in
theorem w_ref10_Origin (x_t : api_Target) (R : Str) (w0 : World) (hG : Glob w0) (hm : ref10_Origin x_t = some R) :
    Calls Tryz.prog 14 #[.agg #[int x_t.Kind, str x_t.Scheme, int x_t.Host.Kind, str x_t.Host.Name, int x_t.Host.Port, str x_t.Path, str x_t.Query, .bool x_t.HasQuery]] w0 fun e w' => e = .returned (str R) ∧ Below w0.heap.size w0 w' := by
  rw [ref10_Origin] at hm
  refine calls_enter (vs := [.agg #[int x_t.Kind, str x_t.Scheme, int x_t.Host.Kind, str x_t.Host.Name, int x_t.Host.Port, str x_t.Path, str x_t.Query, .bool x_t.HasQuery]]) Tryz.func14 rfl Tryz.ntmps14 rfl fun a hf => ?_
  have hF : Away [] := away_nil
  have hO : Dk.Own w0 [] w0 [] := Dk.Own.refl w0
  refine wp_seq_k fun _ hK2 => ?_
  refine wp_region_list ?_
  refine op_box (v := .agg #[int x_t.Kind, str x_t.Scheme, int x_t.Host.Kind, str x_t.Host.Name, int x_t.Host.Port, str x_t.Path, str x_t.Query, .bool x_t.HasQuery]) (cs := [int x_t.Kind, str x_t.Scheme, int x_t.Host.Kind, str x_t.Host.Name, int x_t.Host.Port, str x_t.Path, str x_t.Query, .bool x_t.HasQuery]) rfl hf rfl rfl hO fun a b1 w hf hO => ?_
  refine op_val (ex_assign hf rfl) rfl hf rfl rfl fun a hf => ?_
  refine wpList_nil ?_
  refine nor_then (hK2 _ _ ?_)
  refine wp_seq_k fun _ hK6 => ?_
  refine wp_seq_k fun _ hK3 => ?_
  refine wp_region_list ?_
  refine op_val (ex_field fa_29_0 hf rfl) rfl hf rfl rfl fun a hf => ?_
  refine op_val (ex_load1 (o := 0) ag_24 (hO.blkSees (i := 0) rfl) rfl hf rfl) rfl hf rfl rfl fun a hf => ?_
  refine op_val (ex_eql (m := x_t.Kind) (n := 4) hf rfl rfl) rfl hf rfl rfl fun a hf => ?_
  refine wpList_nil ?_
  refine nor_then (hK3 _ _ ?_)
  refine wp_cond_cut hf rfl (fun hc4 => ?_) (fun hc4 => ?_)
  · have hm := it hc4 hm
    refine wp_seq_k fun _ hK5 => ?_
    refine wp_region_list ?_
    refine op_val (ex_assign hf rfl) rfl hf rfl rfl fun a hf => ?_
    refine wpList_nil ?_
    refine nor_then (hK5 _ _ ?_)
    refine wp_ret ?_
    refine ret_then ?_
    obtain rfl := Option.some.inj hm
    exact post_ret Tryz.results14 hf (.tmp rfl .nil) ⟨rfl, hO.below⟩
  · have hm := ie hc4 hm
    refine wp_skip ?_
    refine nor_then (hK6 _ _ ?_)
    refine wp_seq_k fun _ hK10 => ?_
    refine wp_seq_k fun _ hK7 => ?_
    refine wp_region_list ?_
    refine op_val (ex_field fa_29_0 hf rfl) rfl hf rfl rfl fun a hf => ?_
    refine op_val (ex_load1 (o := 0) ag_24 (hO.blkSees (i := 0) rfl) rfl hf rfl) rfl hf rfl rfl fun a hf => ?_
    refine op_val (ex_eql (m := x_t.Kind) (n := 3) hf rfl rfl) rfl hf rfl rfl fun a hf => ?_
    refine wpList_nil ?_
    refine nor_then (hK7 _ _ ?_)
    refine wp_cond_cut hf rfl (fun hc8 => ?_) (fun hc8 => ?_)
    · have hm := it hc8 hm
      refine wp_seq_k fun _ hK9 => ?_
      refine wp_region_list ?_
      refine op_val (ex_assign hf rfl) rfl hf rfl rfl fun a hf => ?_
      refine wpList_nil ?_
      refine nor_then (hK9 _ _ ?_)
      refine wp_ret ?_
      refine ret_then ?_
      obtain rfl := Option.some.inj hm
      exact post_ret Tryz.results14 hf (.tmp rfl .nil) ⟨rfl, hO.below⟩
    · have hm := ie hc8 hm
      refine wp_skip ?_
      refine nor_then (hK10 _ _ ?_)
      refine wp_seq_k fun _ hK11 => ?_
      refine wp_region_list ?_
      refine op_val (ex_field fa_29_3 hf rfl) rfl hf rfl rfl fun a hf => ?_
      refine op_val (ex_load1 (o := 5) ag_9 (hO.blkSees (i := 0) rfl) rfl hf rfl) rfl hf rfl rfl fun a hf => ?_
      refine op_val (ex_assign hf rfl) rfl hf rfl rfl fun a hf => ?_
      refine wpList_nil ?_
      refine nor_then (hK11 _ _ ?_)
      refine wp_seq_cut (fun a w => ∃ (s14 : Str), Fits 22 [(1, ptr b1 0), (3, str s14)] a ∧ Dk.Own w0 [] w [.blk b1 [int x_t.Kind, str x_t.Scheme, int x_t.Host.Kind, str x_t.Host.Name, int x_t.Host.Port, str x_t.Path, str x_t.Query, .bool x_t.HasQuery] 29] ∧ ref10_Origin_j1 x_t s14 = some R) ?_ ?_
      · refine wp_seq_k fun _ hK12 => ?_
        refine wp_region_list ?_
        refine op_val (ex_move hf rfl) rfl hf rfl rfl fun a hf => ?_
        refine op_val (ex_eql_s (l := x_t.Path) (m := []) hf rfl rfl) rfl hf rfl rfl fun a hf => ?_
        refine wpList_nil ?_
        refine nor_then (hK12 _ _ ?_)
        refine wp_cond_cut hf rfl (fun hc13 => ?_) (fun hc13 => ?_)
        · have hm := it hc13 hm
          refine wp_region_list ?_
          refine op_val (ex_assign hf rfl) rfl hf rfl rfl fun a hf => ?_
          refine wpList_nil ?_
          refine nor_then ?_
          exact ⟨[47], (hf.cons rfl (hf.cons rfl hf.nil)), hO, hm⟩
        · have hm := ie hc13 hm
          refine wp_skip ?_
          refine nor_then ?_
          exact ⟨x_t.Path, (hf.cons rfl (hf.cons rfl hf.nil)), hO, hm⟩
      · rintro a w ⟨s14, hf, hO, hm⟩
        rw [ref10_Origin_j1] at hm
        refine wp_seq_cut (fun a w => ∃ (s19 : Str), Fits 22 [(3, str s19)] a ∧ Dk.Own w0 [] w [.blk b1 [int x_t.Kind, str x_t.Scheme, int x_t.Host.Kind, str x_t.Host.Name, int x_t.Host.Port, str x_t.Path, str x_t.Query, .bool x_t.HasQuery] 29] ∧ ref10_Origin_j2 s19 = some R) ?_ ?_
        · refine wp_seq_k fun _ hK15 => ?_
          refine wp_region_list ?_
          refine op_val (ex_field fa_29_5 hf rfl) rfl hf rfl rfl fun a hf => ?_
          refine op_val (ex_load1 (o := 7) ag_4 (hO.blkSees (i := 0) rfl) rfl hf rfl) rfl hf rfl rfl fun a hf => ?_
          refine wpList_nil ?_
          refine nor_then (hK15 _ _ ?_)
          refine wp_cond_cut hf rfl (fun hc16 => ?_) (fun hc16 => ?_)
          · have hm := it hc16 hm
            refine wp_region_list ?_
            refine op_val (ex_move hf rfl) rfl hf rfl rfl fun a hf => ?_
            obtain ⟨s17, hs17, hm⟩ := ob hm
            refine op_val (ex_cat (l := s14) (m := [63]) hf rfl rfl hs17) rfl hf rfl rfl fun a hf => ?_
            refine op_val (ex_field fa_29_4 hf rfl) rfl hf rfl rfl fun a hf => ?_
            refine op_val (ex_load1 (o := 6) ag_9 (hO.blkSees (i := 0) rfl) rfl hf rfl) rfl hf rfl rfl fun a hf => ?_
            obtain ⟨s18, hs18, hm⟩ := ob hm
            refine op_val (ex_cat (l := s17) (m := x_t.Query) hf rfl rfl hs18) rfl hf rfl rfl fun a hf => ?_
            refine op_val (ex_assign hf rfl) rfl hf rfl rfl fun a hf => ?_
            refine wpList_nil ?_
            refine nor_then ?_
            exact ⟨s18, (hf.cons rfl hf.nil), hO, hm⟩
          · have hm := ie hc16 hm
            refine wp_skip ?_
            refine nor_then ?_
            exact ⟨s14, (hf.cons rfl hf.nil), hO, hm⟩
        · rintro a w ⟨s19, hf, hO, hm⟩
          rw [ref10_Origin_j2] at hm
          refine wp_seq_k fun _ hK20 => ?_
          refine wp_region_list ?_
          refine op_val (ex_move hf rfl) rfl hf rfl rfl fun a hf => ?_
          refine op_val (ex_assign hf rfl) rfl hf rfl rfl fun a hf => ?_
          refine wpList_nil ?_
          refine nor_then (hK20 _ _ ?_)
          refine wp_ret ?_
          obtain rfl := Option.some.inj hm
          exact post_ret Tryz.results14 hf (.tmp rfl .nil) ⟨rfl, hO.below⟩

set_option maxHeartbeats 1000000 in
theorem w_ref08_Text (x_h : api_Host) (R : Str × Int) (w0 : World) (hG : Glob w0) (hm : ref08_Text x_h = some R) :
    Calls Tryz.prog 40 #[.agg #[int x_h.Kind, str x_h.Name, int x_h.Port]] w0 fun e w' => e = .returned (.tuple #[str R.1, int R.2]) ∧ Below w0.heap.size w0 w' := by
  rw [ref08_Text] at hm
  refine calls_enter (vs := [.agg #[int x_h.Kind, str x_h.Name, int x_h.Port]]) Tryz.func40 rfl Tryz.ntmps40 rfl fun a hf => ?_
  have hF : Away [] := away_nil
  have hO : Dk.Own w0 [] w0 [] := Dk.Own.refl w0
  refine wp_seq_k fun _ hK2 => ?_
  refine wp_region_list ?_
  refine op_box (v := .agg #[int x_h.Kind, str x_h.Name, int x_h.Port]) (cs := [int x_h.Kind, str x_h.Name, int x_h.Port]) rfl hf rfl rfl hO fun a b1 w hf hO => ?_
  refine op_val (ex_assign hf rfl) rfl hf rfl rfl fun a hf => ?_
  refine op_val (ex_assign hf rfl) rfl hf rfl rfl fun a hf => ?_
  refine wpList_nil ?_
  refine nor_then (hK2 _ _ ?_)
  refine wp_seq_k fun _ hK3 => ?_
  refine wp_region_list ?_
  refine op_val (ex_field fa_27_1 hf rfl) rfl hf rfl rfl fun a hf => ?_
  refine op_val (ex_load1 (o := 1) ag_9 (hO.blkSees (i := 0) rfl) rfl hf rfl) rfl hf rfl rfl fun a hf => ?_
  refine op_val (ex_assign hf rfl) rfl hf rfl rfl fun a hf => ?_
  refine wpList_nil ?_
  refine nor_then (hK3 _ _ ?_)
  refine wp_seq_cut (fun a w => ∃ (s8 : Str), Fits 37 [(1, ptr b1 0), (4, str s8)] a ∧ Dk.Own w0 [] w [.blk b1 [int x_h.Kind, str x_h.Name, int x_h.Port] 27] ∧ ref08_Text_j1 x_h s8 = some R) ?_ ?_
  · refine wp_seq_k fun _ hK4 => ?_
    refine wp_region_list ?_
    refine op_val (ex_field fa_27_0 hf rfl) rfl hf rfl rfl fun a hf => ?_
    refine op_val (ex_load1 (o := 0) ag_25 (hO.blkSees (i := 0) rfl) rfl hf rfl) rfl hf rfl rfl fun a hf => ?_
    refine op_val (ex_eql (m := x_h.Kind) (n := 3) hf rfl rfl) rfl hf rfl rfl fun a hf => ?_
    refine wpList_nil ?_
    refine nor_then (hK4 _ _ ?_)
    refine wp_cond_cut hf rfl (fun hc5 => ?_) (fun hc5 => ?_)
    · have hm := it hc5 hm
      refine wp_region_list ?_
      refine op_val (ex_move hf rfl) rfl hf rfl rfl fun a hf => ?_
      obtain ⟨s6, hs6, hm⟩ := ob hm
      refine op_val (ex_cat (l := [91]) (m := x_h.Name) hf rfl rfl hs6) rfl hf rfl rfl fun a hf => ?_
      obtain ⟨s7, hs7, hm⟩ := ob hm
      refine op_val (ex_cat (l := s6) (m := [93]) hf rfl rfl hs7) rfl hf rfl rfl fun a hf => ?_
      refine op_val (ex_assign hf rfl) rfl hf rfl rfl fun a hf => ?_
      refine wpList_nil ?_
      refine nor_then ?_
      exact ⟨s7, (hf.cons rfl (hf.cons rfl hf.nil)), hO, hm⟩
    · have hm := ie hc5 hm
      refine wp_skip ?_
      refine nor_then ?_
      exact ⟨x_h.Name, (hf.cons rfl (hf.cons rfl hf.nil)), hO, hm⟩
  · rintro a w ⟨s8, hf, hO, hm⟩
    rw [ref08_Text_j1] at hm
    refine wp_seq_cut (fun a w => ∃ (s14 : Str), Fits 37 [(1, ptr b1 0), (4, str s14)] a ∧ Dk.Own w0 [] w [.blk b1 [int x_h.Kind, str x_h.Name, int x_h.Port] 27] ∧ ref08_Text_j2 x_h s14 = some R) ?_ ?_
    · refine wp_seq_k fun _ hK9 => ?_
      refine wp_region_list ?_
      refine op_val (ex_field fa_27_2 hf rfl) rfl hf rfl rfl fun a hf => ?_
      refine op_val (ex_load1 (o := 2) ag_3 (hO.blkSees (i := 0) rfl) rfl hf rfl) rfl hf rfl rfl fun a hf => ?_
      refine op_val (ex_neq (m := x_h.Port) (n := (-1)) hf rfl rfl) rfl hf rfl rfl fun a hf => ?_
      refine wpList_nil ?_
      refine nor_then (hK9 _ _ ?_)
      refine wp_cond_cut hf rfl (fun hc10 => ?_) (fun hc10 => ?_)
      · have hm := it hc10 hm
        refine wp_region_list ?_
        refine op_val (ex_move hf rfl) rfl hf rfl rfl fun a hf => ?_
        obtain ⟨s11, hs11, hm⟩ := ob hm
        refine op_val (ex_cat (l := s8) (m := [58]) hf rfl rfl hs11) rfl hf rfl rfl fun a hf => ?_
        refine op_val (ex_field fa_27_2 hf rfl) rfl hf rfl rfl fun a hf => ?_
        refine op_val (ex_load1 (o := 2) ag_3 (hO.blkSees (i := 0) rfl) rfl hf rfl) rfl hf rfl rfl fun a hf => ?_
        obtain ⟨r12, hr12, hm⟩ := ob hm
        refine op_enter (ex_call c_72 hf (vs := [int x_h.Port, int 10]) rfl) rfl hf rfl rfl (w_ref03_Text x_h.Port 10 r12 _ (hG.own hF hO) hr12) ?_
        rintro e w' ⟨he, hb⟩
        refine ⟨_, he, fun a hf => ?_⟩
        have hO := hO.grow hb
        obtain ⟨s13, hs13, hm⟩ := ob hm
        refine op_val (ex_cat (l := s11) (m := r12) hf rfl rfl hs13) rfl hf rfl rfl fun a hf => ?_
        refine op_val (ex_assign hf rfl) rfl hf rfl rfl fun a hf => ?_
        refine wpList_nil ?_
        refine nor_then ?_
        exact ⟨s13, (hf.cons rfl (hf.cons rfl hf.nil)), hO, hm⟩
      · have hm := ie hc10 hm
        refine wp_skip ?_
        refine nor_then ?_
        exact ⟨s8, (hf.cons rfl (hf.cons rfl hf.nil)), hO, hm⟩
    · rintro a w ⟨s14, hf, hO, hm⟩
      rw [ref08_Text_j2] at hm
      refine wp_seq_k fun _ hK17 => ?_
      refine wp_region_list ?_
      refine op_val (ex_move hf rfl) rfl hf rfl rfl fun a hf => ?_
      obtain ⟨r15, hr15, hm⟩ := ob hm
      refine op_enter (ex_call c_33 hf (vs := [str s14]) rfl) rfl hf rfl rfl (w_ref08_Parse s14 r15 _ (hG.own hF hO) hr15) ?_
      rintro e w' ⟨he, hb⟩
      refine ⟨_, he, fun a hf => ?_⟩
      have hO := hO.grow hb
      refine op_val (ex_move hf rfl) rfl hf rfl rfl fun a hf => ?_
      refine op_val (ex_extract hf rfl rfl) rfl hf rfl rfl fun a hf => ?_
      refine op_val (ex_extract hf rfl rfl) rfl hf rfl rfl fun a hf => ?_
      refine op_alloc al_27 hf rfl hO fun a b16 w hf hO => ?_
      refine op_storeN (i := 0) (n := 3) sz_27 rfl rfl rfl (by simp [Value.oneCell']) hf rfl rfl hO fun w hO => ?_
      refine op_val (ex_assign hf rfl) rfl hf rfl rfl fun a hf => ?_
      refine wpList_nil ?_
      refine nor_then (hK17 _ _ ?_)
      refine wp_seq_k fun _ hK22 => ?_
      refine wp_seq_cut (fun a w => ∃ (t19 : Bool), Fits 37 [(4, str s14), (35, .bool t19)] a ∧ Dk.Own w0 [] w [.blk b16 [int r15.1.Kind, str r15.1.Name, int r15.1.Port] 27, .blk b1 [int x_h.Kind, str x_h.Name, int x_h.Port] 27] ∧ ref08_Text_j3 s14 t19 = some R) ?_ ?_
      · refine wp_region_list ?_
        refine op_val (ex_move hf rfl) rfl hf rfl rfl fun a hf => ?_
        refine op_val (ex_neq (m := r15.2) (n := 0) hf rfl rfl) rfl hf rfl rfl fun a hf => ?_
        refine op_val (ex_move hf rfl) rfl hf rfl rfl fun a hf => ?_
        rcases bcase (!(r15.2 == 0)) with hc18 | hc18
        · have hm := it hc18 hm
          refine op_pass rfl hf rfl rfl (hc18) rfl rfl fun a hf => ?_
          refine op_pass rfl hf rfl rfl (hc18) rfl rfl fun a hf => ?_
          refine op_pass rfl hf rfl rfl (hc18) rfl rfl fun a hf => ?_
          refine op_val (ex_pick_t hf rfl hc18 rfl) rfl hf rfl rfl fun a hf => ?_
          refine wpList_nil ?_
          refine nor_then ?_
          exact ⟨true, (hf.cons rfl (hf.cons rfl hf.nil)), hO, hm⟩
        · have hm := ie hc18 hm
          refine op_guard rfl hf rfl rfl (hc18) ?_
          refine op_val (ex_loadN (o := 0) (vs := [int r15.1.Kind, str r15.1.Name, int r15.1.Port]) ag_27 sz_27 (hO.blkSees (i := 0) rfl) rfl rfl hf rfl) rfl hf rfl rfl fun a hf => ?_
          refine op_guard rfl hf rfl rfl (hc18) ?_
          refine op_val (ex_loadN (o := 0) (vs := [int x_h.Kind, str x_h.Name, int x_h.Port]) ag_27 sz_27 (hO.blkSees (i := 1) rfl) rfl rfl hf rfl) rfl hf rfl rfl fun a hf => ?_
          refine op_guard rfl hf rfl rfl (hc18) ?_
          refine op_val (ex_neq_t (by kernel_rfl) (eq_27 r15.1 x_h) hf rfl rfl) rfl hf rfl rfl fun a hf => ?_
          refine op_val (ex_pick_f hf rfl hc18 rfl) rfl hf rfl rfl fun a hf => ?_
          refine wpList_nil ?_
          refine nor_then ?_
          exact ⟨!(r15.1 == x_h), (hf.cons rfl (hf.cons rfl hf.nil)), hO, hm⟩
      · rintro a w ⟨t19, hf, hO, hm⟩
        rw [ref08_Text_j3] at hm
        refine wp_cond_cut hf rfl (fun hc20 => ?_) (fun hc20 => ?_)
        · have hm := it hc20 hm
          refine wp_seq_k fun _ hK21 => ?_
          refine wp_region_list ?_
          refine op_val (ex_assign hf rfl) rfl hf rfl rfl fun a hf => ?_
          refine op_val (ex_assign hf rfl) rfl hf rfl rfl fun a hf => ?_
          refine wpList_nil ?_
          refine nor_then (hK21 _ _ ?_)
          refine wp_ret ?_
          refine ret_then ?_
          obtain rfl := Option.some.inj hm
          exact post_ret Tryz.results40 hf (.tmp rfl (.tmp rfl .nil)) ⟨rfl, hO.below⟩
        · have hm := ie hc20 hm
          refine wp_skip ?_
          refine nor_then (hK22 _ _ ?_)
          refine wp_seq_k fun _ hK23 => ?_
          refine wp_region_list ?_
          refine op_val (ex_move hf rfl) rfl hf rfl rfl fun a hf => ?_
          refine op_val (ex_assign hf rfl) rfl hf rfl rfl fun a hf => ?_
          refine op_val (ex_assign hf rfl) rfl hf rfl rfl fun a hf => ?_
          refine wpList_nil ?_
          refine nor_then (hK23 _ _ ?_)
          refine wp_ret ?_
          obtain rfl := Option.some.inj hm
          exact post_ret Tryz.results40 hf (.tmp rfl (.tmp rfl .nil)) ⟨rfl, hO.below⟩

set_option maxHeartbeats 1000000 in
theorem w_ref10_Text (x_t : api_Target) (R : Str × Int) (w0 : World) (hG : Glob w0) (hm : ref10_Text x_t = some R) :
    Calls Tryz.prog 15 #[.agg #[int x_t.Kind, str x_t.Scheme, int x_t.Host.Kind, str x_t.Host.Name, int x_t.Host.Port, str x_t.Path, str x_t.Query, .bool x_t.HasQuery]] w0 fun e w' => e = .returned (.tuple #[str R.1, int R.2]) ∧ Below w0.heap.size w0 w' := by
  rw [ref10_Text] at hm
  refine calls_enter (vs := [.agg #[int x_t.Kind, str x_t.Scheme, int x_t.Host.Kind, str x_t.Host.Name, int x_t.Host.Port, str x_t.Path, str x_t.Query, .bool x_t.HasQuery]]) Tryz.func15 rfl Tryz.ntmps15 rfl fun a hf => ?_
  have hF : Away [] := away_nil
  have hO : Dk.Own w0 [] w0 [] := Dk.Own.refl w0
  refine wp_seq_k fun _ hK2 => ?_
  refine wp_region_list ?_
  refine op_box (v := .agg #[int x_t.Kind, str x_t.Scheme, int x_t.Host.Kind, str x_t.Host.Name, int x_t.Host.Port, str x_t.Path, str x_t.Query, .bool x_t.HasQuery]) (cs := [int x_t.Kind, str x_t.Scheme, int x_t.Host.Kind, str x_t.Host.Name, int x_t.Host.Port, str x_t.Path, str x_t.Query, .bool x_t.HasQuery]) rfl hf rfl rfl hO fun a b1 w hf hO => ?_
  refine op_val (ex_assign hf rfl) rfl hf rfl rfl fun a hf => ?_
  refine op_val (ex_assign hf rfl) rfl hf rfl rfl fun a hf => ?_
  refine wpList_nil ?_
  refine nor_then (hK2 _ _ ?_)
  refine wp_seq_k fun _ hK4 => ?_
  refine wp_region_list ?_
  refine op_val (ex_field fa_29_2 hf rfl) rfl hf rfl rfl fun a hf => ?_
  refine op_val (ex_loadN (o := 2) (vs := [int x_t.Host.Kind, str x_t.Host.Name, int x_t.Host.Port]) ag_27 sz_27 (hO.blkSees (i := 0) rfl) rfl rfl hf rfl) rfl hf rfl rfl fun a hf => ?_
  obtain ⟨r3, hr3, hm⟩ := ob hm
  refine op_enter (ex_call c_40 hf (vs := [.agg #[int x_t.Host.Kind, str x_t.Host.Name, int x_t.Host.Port]]) rfl) rfl hf rfl rfl (w_ref08_Text x_t.Host r3 _ (hG.own hF hO) hr3) ?_
  rintro e w' ⟨he, hb⟩
  refine ⟨_, he, fun a hf => ?_⟩
  have hO := hO.grow hb
  refine op_val (ex_move hf rfl) rfl hf rfl rfl fun a hf => ?_
  refine op_val (ex_extract hf rfl rfl) rfl hf rfl rfl fun a hf => ?_
  refine op_val (ex_extract hf rfl rfl) rfl hf rfl rfl fun a hf => ?_
  refine op_val (ex_assign hf rfl) rfl hf rfl rfl fun a hf => ?_
  refine op_val (ex_assign hf rfl) rfl hf rfl rfl fun a hf => ?_
  refine wpList_nil ?_
  refine nor_then (hK4 _ _ ?_)
  refine wp_seq_k fun _ hK5 => ?_
  refine wp_region_list ?_
  refine op_val (ex_field fa_29_3 hf rfl) rfl hf rfl rfl fun a hf => ?_
  refine op_val (ex_load1 (o := 5) ag_9 (hO.blkSees (i := 0) rfl) rfl hf rfl) rfl hf rfl rfl fun a hf => ?_
  refine op_val (ex_assign hf rfl) rfl hf rfl rfl fun a hf => ?_
  refine wpList_nil ?_
  refine nor_then (hK5 _ _ ?_)
  refine wp_seq_cut (fun a w => ∃ (s10 : Str), Fits 56 [(1, ptr b1 0), (4, str r3.1), (6, str s10)] a ∧ Dk.Own w0 [] w [.blk b1 [int x_t.Kind, str x_t.Scheme, int x_t.Host.Kind, str x_t.Host.Name, int x_t.Host.Port, str x_t.Path, str x_t.Query, .bool x_t.HasQuery] 29] ∧ ref10_Text_j1 x_t r3 s10 = some R) ?_ ?_
  · refine wp_seq_k fun _ hK6 => ?_
    refine wp_region_list ?_
    refine op_val (ex_field fa_29_5 hf rfl) rfl hf rfl rfl fun a hf => ?_
    refine op_val (ex_load1 (o := 7) ag_4 (hO.blkSees (i := 0) rfl) rfl hf rfl) rfl hf rfl rfl fun a hf => ?_
    refine wpList_nil ?_
    refine nor_then (hK6 _ _ ?_)
    refine wp_cond_cut hf rfl (fun hc7 => ?_) (fun hc7 => ?_)
    · have hm := it hc7 hm
      refine wp_region_list ?_
      refine op_val (ex_move hf rfl) rfl hf rfl rfl fun a hf => ?_
      obtain ⟨s8, hs8, hm⟩ := ob hm
      refine op_val (ex_cat (l := x_t.Path) (m := [63]) hf rfl rfl hs8) rfl hf rfl rfl fun a hf => ?_
      refine op_val (ex_field fa_29_4 hf rfl) rfl hf rfl rfl fun a hf => ?_
      refine op_val (ex_load1 (o := 6) ag_9 (hO.blkSees (i := 0) rfl) rfl hf rfl) rfl hf rfl rfl fun a hf => ?_
      obtain ⟨s9, hs9, hm⟩ := ob hm
      refine op_val (ex_cat (l := s8) (m := x_t.Query) hf rfl rfl hs9) rfl hf rfl rfl fun a hf => ?_
      refine op_val (ex_assign hf rfl) rfl hf rfl rfl fun a hf => ?_
      refine wpList_nil ?_
      refine nor_then ?_
      exact ⟨s9, (hf.cons rfl (hf.cons rfl (hf.cons rfl hf.nil))), hO, hm⟩
    · have hm := ie hc7 hm
      refine wp_skip ?_
      refine nor_then ?_
      exact ⟨x_t.Path, (hf.cons rfl (hf.cons rfl (hf.cons rfl hf.nil))), hO, hm⟩
  · rintro a w ⟨s10, hf, hO, hm⟩
    rw [ref10_Text_j1] at hm
    refine wp_seq_cut (fun a w => ∃ (s16 : Str), Fits 56 [(1, ptr b1 0), (4, str r3.1), (6, str s16)] a ∧ Dk.Own w0 [] w [.blk b1 [int x_t.Kind, str x_t.Scheme, int x_t.Host.Kind, str x_t.Host.Name, int x_t.Host.Port, str x_t.Path, str x_t.Query, .bool x_t.HasQuery] 29] ∧ ref10_Text_j2 x_t r3 s16 = some R) ?_ ?_
    · refine wp_seq_k fun _ hK11 => ?_
      refine wp_region_list ?_
      refine op_val (ex_field fa_29_0 hf rfl) rfl hf rfl rfl fun a hf => ?_
      refine op_val (ex_load1 (o := 0) ag_24 (hO.blkSees (i := 0) rfl) rfl hf rfl) rfl hf rfl rfl fun a hf => ?_
      refine op_val (ex_eql (m := x_t.Kind) (n := 2) hf rfl rfl) rfl hf rfl rfl fun a hf => ?_
      refine wpList_nil ?_
      refine nor_then (hK11 _ _ ?_)
      refine wp_cond_cut hf rfl (fun hc12 => ?_) (fun hc12 => ?_)
      · have hm := it hc12 hm
        refine wp_region_list ?_
        refine op_val (ex_field fa_29_1 hf rfl) rfl hf rfl rfl fun a hf => ?_
        refine op_val (ex_load1 (o := 1) ag_9 (hO.blkSees (i := 0) rfl) rfl hf rfl) rfl hf rfl rfl fun a hf => ?_
        obtain ⟨s13, hs13, hm⟩ := ob hm
        refine op_val (ex_cat (l := x_t.Scheme) (m := [58, 47, 47]) hf rfl rfl hs13) rfl hf rfl rfl fun a hf => ?_
        refine op_val (ex_move hf rfl) rfl hf rfl rfl fun a hf => ?_
        obtain ⟨s14, hs14, hm⟩ := ob hm
        refine op_val (ex_cat (l := s13) (m := r3.1) hf rfl rfl hs14) rfl hf rfl rfl fun a hf => ?_
        refine op_val (ex_move hf rfl) rfl hf rfl rfl fun a hf => ?_
        obtain ⟨s15, hs15, hm⟩ := ob hm
        refine op_val (ex_cat (l := s14) (m := s10) hf rfl rfl hs15) rfl hf rfl rfl fun a hf => ?_
        refine op_val (ex_assign hf rfl) rfl hf rfl rfl fun a hf => ?_
        refine wpList_nil ?_
        refine nor_then ?_
        exact ⟨s15, (hf.cons rfl (hf.cons rfl (hf.cons rfl hf.nil))), hO, hm⟩
      · have hm := ie hc12 hm
        refine wp_skip ?_
        refine nor_then ?_
        exact ⟨s10, (hf.cons rfl (hf.cons rfl (hf.cons rfl hf.nil))), hO, hm⟩
    · rintro a w ⟨s16, hf, hO, hm⟩
      rw [ref10_Text_j2] at hm
      refine wp_seq_cut (fun a w => ∃ (s19 : Str), Fits 56 [(1, ptr b1 0), (4, str r3.1), (6, str s19)] a ∧ Dk.Own w0 [] w [.blk b1 [int x_t.Kind, str x_t.Scheme, int x_t.Host.Kind, str x_t.Host.Name, int x_t.Host.Port, str x_t.Path, str x_t.Query, .bool x_t.HasQuery] 29] ∧ ref10_Text_j3 x_t r3 s19 = some R) ?_ ?_
      · refine wp_seq_k fun _ hK17 => ?_
        refine wp_region_list ?_
        refine op_val (ex_field fa_29_0 hf rfl) rfl hf rfl rfl fun a hf => ?_
        refine op_val (ex_load1 (o := 0) ag_24 (hO.blkSees (i := 0) rfl) rfl hf rfl) rfl hf rfl rfl fun a hf => ?_
        refine op_val (ex_eql (m := x_t.Kind) (n := 4) hf rfl rfl) rfl hf rfl rfl fun a hf => ?_
        refine wpList_nil ?_
        refine nor_then (hK17 _ _ ?_)
        refine wp_cond_cut hf rfl (fun hc18 => ?_) (fun hc18 => ?_)
        · have hm := it hc18 hm
          refine wp_region_list ?_
          refine op_val (ex_assign hf rfl) rfl hf rfl rfl fun a hf => ?_
          refine wpList_nil ?_
          refine nor_then ?_
          exact ⟨[42], (hf.cons rfl (hf.cons rfl (hf.cons rfl hf.nil))), hO, hm⟩
        · have hm := ie hc18 hm
          refine wp_skip ?_
          refine nor_then ?_
          exact ⟨s16, (hf.cons rfl (hf.cons rfl (hf.cons rfl hf.nil))), hO, hm⟩
      · rintro a w ⟨s19, hf, hO, hm⟩
        rw [ref10_Text_j3] at hm
        refine wp_seq_k fun _ hK20 => ?_
        refine wp_region_list ?_
        refine op_val (ex_assign hf rfl) rfl hf rfl rfl fun a hf => ?_
        refine wpList_nil ?_
        refine nor_then (hK20 _ _ ?_)
        refine wp_seq_cut (fun a w => ∃ (s24 : Str) (s25 : Str), Fits 56 [(1, ptr b1 0), (6, str s24), (7, str s25)] a ∧ Dk.Own w0 [] w [.blk b1 [int x_t.Kind, str x_t.Scheme, int x_t.Host.Kind, str x_t.Host.Name, int x_t.Host.Port, str x_t.Path, str x_t.Query, .bool x_t.HasQuery] 29] ∧ ref10_Text_j4 x_t s24 s25 = some R) ?_ ?_
        · refine wp_seq_k fun _ hK21 => ?_
          refine wp_region_list ?_
          refine op_val (ex_field fa_29_0 hf rfl) rfl hf rfl rfl fun a hf => ?_
          refine op_val (ex_load1 (o := 0) ag_24 (hO.blkSees (i := 0) rfl) rfl hf rfl) rfl hf rfl rfl fun a hf => ?_
          refine op_val (ex_eql (m := x_t.Kind) (n := 3) hf rfl rfl) rfl hf rfl rfl fun a hf => ?_
          refine wpList_nil ?_
          refine nor_then (hK21 _ _ ?_)
          refine wp_cond_cut hf rfl (fun hc22 => ?_) (fun hc22 => ?_)
          · have hm := it hc22 hm
            refine wp_seq_k fun _ hK23 => ?_
            refine wp_region_list ?_
            refine op_val (ex_assign hf rfl) rfl hf rfl rfl fun a hf => ?_
            refine wpList_nil ?_
            refine nor_then (hK23 _ _ ?_)
            refine wp_region_list ?_
            refine op_val (ex_move hf rfl) rfl hf rfl rfl fun a hf => ?_
            refine op_val (ex_assign hf rfl) rfl hf rfl rfl fun a hf => ?_
            refine wpList_nil ?_
            refine nor_then ?_
            exact ⟨r3.1, [67, 79, 78, 78, 69, 67, 84], (hf.cons rfl (hf.cons rfl (hf.cons rfl hf.nil))), hO, hm⟩
          · have hm := ie hc22 hm
            refine wp_skip ?_
            refine nor_then ?_
            exact ⟨s19, [79, 80, 84, 73, 79, 78, 83], (hf.cons rfl (hf.cons rfl (hf.cons rfl hf.nil))), hO, hm⟩
        · rintro a w ⟨s24, s25, hf, hO, hm⟩
          rw [ref10_Text_j4] at hm
          refine wp_seq_k fun _ hK28 => ?_
          refine wp_region_list ?_
          refine op_val (ex_move hf rfl) rfl hf rfl rfl fun a hf => ?_
          refine op_val (ex_move hf rfl) rfl hf rfl rfl fun a hf => ?_
          obtain ⟨r26, hr26, hm⟩ := ob hm
          refine op_enter (ex_call c_11 hf (vs := [str s25, str s24]) rfl) rfl hf rfl rfl (w_ref10_Parse s25 s24 r26 _ (hG.own hF hO) hr26) ?_
          rintro e w' ⟨he, hb⟩
          refine ⟨_, he, fun a hf => ?_⟩
          have hO := hO.grow hb
          refine op_val (ex_move hf rfl) rfl hf rfl rfl fun a hf => ?_
          refine op_val (ex_extract hf rfl rfl) rfl hf rfl rfl fun a hf => ?_
          refine op_val (ex_extract hf rfl rfl) rfl hf rfl rfl fun a hf => ?_
          refine op_alloc al_29 hf rfl hO fun a b27 w hf hO => ?_
          refine op_storeN (i := 0) (n := 8) sz_29 rfl rfl rfl (by simp [Value.oneCell']) hf rfl rfl hO fun w hO => ?_
          refine op_val (ex_assign hf rfl) rfl hf rfl rfl fun a hf => ?_
          refine wpList_nil ?_
          refine nor_then (hK28 _ _ ?_)
          refine wp_seq_k fun _ hK33 => ?_
          refine wp_seq_cut (fun a w => ∃ (t30 : Bool), Fits 56 [(6, str s24), (54, .bool t30)] a ∧ Dk.Own w0 [] w [.blk b27 [int r26.1.Kind, str r26.1.Scheme, int r26.1.Host.Kind, str r26.1.Host.Name, int r26.1.Host.Port, str r26.1.Path, str r26.1.Query, .bool r26.1.HasQuery] 29, .blk b1 [int x_t.Kind, str x_t.Scheme, int x_t.Host.Kind, str x_t.Host.Name, int x_t.Host.Port, str x_t.Path, str x_t.Query, .bool x_t.HasQuery] 29] ∧ ref10_Text_j5 s24 t30 = some R) ?_ ?_
          · refine wp_region_list ?_
            refine op_val (ex_move hf rfl) rfl hf rfl rfl fun a hf => ?_
            refine op_val (ex_neq (m := r26.2) (n := 0) hf rfl rfl) rfl hf rfl rfl fun a hf => ?_
            refine op_val (ex_move hf rfl) rfl hf rfl rfl fun a hf => ?_
            rcases bcase (!(r26.2 == 0)) with hc29 | hc29
            · have hm := it hc29 hm
              refine op_pass rfl hf rfl rfl (hc29) rfl rfl fun a hf => ?_
              refine op_pass rfl hf rfl rfl (hc29) rfl rfl fun a hf => ?_
              refine op_pass rfl hf rfl rfl (hc29) rfl rfl fun a hf => ?_
              refine op_val (ex_pick_t hf rfl hc29 rfl) rfl hf rfl rfl fun a hf => ?_
              refine wpList_nil ?_
              refine nor_then ?_
              exact ⟨true, (hf.cons rfl (hf.cons rfl hf.nil)), hO, hm⟩
            · have hm := ie hc29 hm
              refine op_guard rfl hf rfl rfl (hc29) ?_
              refine op_val (ex_loadN (o := 0) (vs := [int r26.1.Kind, str r26.1.Scheme, int r26.1.Host.Kind, str r26.1.Host.Name, int r26.1.Host.Port, str r26.1.Path, str r26.1.Query, .bool r26.1.HasQuery]) ag_29 sz_29 (hO.blkSees (i := 0) rfl) rfl rfl hf rfl) rfl hf rfl rfl fun a hf => ?_
              refine op_guard rfl hf rfl rfl (hc29) ?_
              refine op_val (ex_loadN (o := 0) (vs := [int x_t.Kind, str x_t.Scheme, int x_t.Host.Kind, str x_t.Host.Name, int x_t.Host.Port, str x_t.Path, str x_t.Query, .bool x_t.HasQuery]) ag_29 sz_29 (hO.blkSees (i := 1) rfl) rfl rfl hf rfl) rfl hf rfl rfl fun a hf => ?_
              refine op_guard rfl hf rfl rfl (hc29) ?_
              refine op_val (ex_neq_t (by kernel_rfl) (eq_29 r26.1 x_t) hf rfl rfl) rfl hf rfl rfl fun a hf => ?_
              refine op_val (ex_pick_f hf rfl hc29 rfl) rfl hf rfl rfl fun a hf => ?_
              refine wpList_nil ?_
              refine nor_then ?_
              exact ⟨!(r26.1 == x_t), (hf.cons rfl (hf.cons rfl hf.nil)), hO, hm⟩
          · rintro a w ⟨t30, hf, hO, hm⟩
            rw [ref10_Text_j5] at hm
            refine wp_cond_cut hf rfl (fun hc31 => ?_) (fun hc31 => ?_)
            · have hm := it hc31 hm
              refine wp_seq_k fun _ hK32 => ?_
              refine wp_region_list ?_
              refine op_val (ex_assign hf rfl) rfl hf rfl rfl fun a hf => ?_
              refine op_val (ex_assign hf rfl) rfl hf rfl rfl fun a hf => ?_
              refine wpList_nil ?_
              refine nor_then (hK32 _ _ ?_)
              refine wp_ret ?_
              refine ret_then ?_
              obtain rfl := Option.some.inj hm
              exact post_ret Tryz.results15 hf (.tmp rfl (.tmp rfl .nil)) ⟨rfl, hO.below⟩
            · have hm := ie hc31 hm
              refine wp_skip ?_
              refine nor_then (hK33 _ _ ?_)
              refine wp_seq_k fun _ hK34 => ?_
              refine wp_region_list ?_
              refine op_val (ex_move hf rfl) rfl hf rfl rfl fun a hf => ?_
              refine op_val (ex_assign hf rfl) rfl hf rfl rfl fun a hf => ?_
              refine op_val (ex_assign hf rfl) rfl hf rfl rfl fun a hf => ?_
              refine wpList_nil ?_
              refine nor_then (hK34 _ _ ?_)
              refine wp_ret ?_
              obtain rfl := Option.some.inj hm
              exact post_ret Tryz.results15 hf (.tmp rfl (.tmp rfl .nil)) ⟨rfl, hO.below⟩

end Go.Proofs
