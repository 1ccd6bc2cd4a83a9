/-
  Walks, written by a program (wip/gen): what its model says, the function returns; what was there before is as it was.
-/
import Derived.Test.YtnfkbhocbdheaabGreatDoorLib
import Derived.Test.YtnfkbhocbdheaabGreatDoorW2
import Derived.Test.YtnfkbhocbdheaabGreatDoorW4
import Derived.Test.YtnfkbhocbdheaabGreatDoorW5
import Derived.Test.YtnfkbhocbdheaabGreatDoorW6
set_option linter.unusedVariables false
set_option linter.unusedSimpArgs false
set_option maxRecDepth 100000
namespace Go.Proofs
open Go.Dk Go.Dm Go.RowKit

set_option maxHeartbeats 1000000 in
theorem w_ref09_Path (x_s : Str) (R : Bool) (w0 : World) (hG : Glob w0) (hm : ref09_Path x_s = some R) :
    Calls Tryz.prog 136 #[str x_s] w0 fun e w' => e = .returned (.bool R) ∧ Below w0.heap.size w0 w' := by
  rw [ref09_Path] at hm
  refine calls_enter (vs := [str x_s]) Tryz.func136 rfl Tryz.ntmps136 rfl fun a hf => ?_
  have hF : Away [] := away_nil
  have hO : Dk.Own w0 [] w0 [] := Dk.Own.refl w0
  refine wp_seq_k fun _ hK1 => ?_
  refine wp_region_list ?_
  refine op_val (ex_assign hf rfl) rfl hf rfl rfl fun a hf => ?_
  refine wpList_nil ?_
  refine nor_then (hK1 _ _ ?_)
  refine wp_seq_cut (fun a w => ∃ (t6 : Bool), Fits 15 [(2, .bool t6)] a ∧ Dk.Own w0 [] w [] ∧ ref09_Path_j1 t6 = some R) ?_ ?_
  · refine wp_region_list ?_
    refine op_val (ex_move hf rfl) rfl hf rfl rfl fun a hf => ?_
    refine op_val (ex_len_s (l := x_s) Tryz.underlying9 hf rfl) rfl hf rfl rfl fun a hf => ?_
    refine op_val (ex_gtr (m := (x_s.length : Int)) (n := 0) hf rfl rfl) rfl hf rfl rfl fun a hf => ?_
    refine op_val (ex_move hf rfl) rfl hf rfl rfl fun a hf => ?_
    rcases bcase (decide (0 < (x_s.length : Int))) with hc2 | hc2
    · have hm := it hc2 hm
      refine op_guard rfl hf rfl rfl (hc2) ?_
      refine op_val (ex_move hf rfl) rfl hf rfl rfl fun a hf => ?_
      refine op_guard rfl hf rfl rfl (hc2) ?_
      obtain ⟨b3, hb3, hm⟩ := ob hm
      refine op_val (ex_index (l := x_s) Tryz.underlying9 hf rfl rfl hb3) rfl hf rfl rfl fun a hf => ?_
      refine op_guard rfl hf rfl rfl (hc2) ?_
      refine op_val (ex_eql_b (b := b3) (c := 47) hf rfl rfl) rfl hf rfl rfl fun a hf => ?_
      refine op_val (ex_pick_t hf rfl hc2 rfl) rfl hf rfl rfl fun a hf => ?_
      refine op_val (ex_move hf rfl) rfl hf rfl rfl fun a hf => ?_
      rcases bcase (b3 == 47) with hc4 | hc4
      · have hm := it hc4 hm
        refine op_guard rfl hf rfl rfl (hc4) ?_
        refine op_val (ex_move hf rfl) rfl hf rfl rfl fun a hf => ?_
        refine op_guard rfl hf rfl rfl (hc4) ?_
        obtain ⟨r5, hr5, hm⟩ := ob hm
        refine op_enter (ex_call c_137 hf (vs := [str x_s, str [47]]) rfl) rfl hf rfl rfl (w_ref09_Of x_s [47] r5 _ (hG.own hF hO) hr5) ?_
        rintro e w' ⟨he, hb⟩
        refine ⟨_, he, fun a hf => ?_⟩
        have hO := hO.grow hb
        refine op_val (ex_pick_t hf rfl hc4 rfl) rfl hf rfl rfl fun a hf => ?_
        refine op_val (ex_assign hf rfl) rfl hf rfl rfl fun a hf => ?_
        refine wpList_nil ?_
        refine nor_then ?_
        exact ⟨r5, (hf.cons rfl hf.nil), hO, hm⟩
      · have hm := ie hc4 hm
        refine op_pass rfl hf rfl rfl (hc4) rfl rfl fun a hf => ?_
        refine op_pass rfl hf rfl rfl (hc4) rfl rfl fun a hf => ?_
        refine op_val (ex_pick_f hf rfl hc4 rfl) rfl hf rfl rfl fun a hf => ?_
        refine op_val (ex_assign hf rfl) rfl hf rfl rfl fun a hf => ?_
        refine wpList_nil ?_
        refine nor_then ?_
        exact ⟨false, (hf.cons rfl hf.nil), hO, hm⟩
    · have hm := ie hc2 hm
      refine op_pass rfl hf rfl rfl (hc2) rfl rfl fun a hf => ?_
      refine op_pass rfl hf rfl rfl (hc2) rfl rfl fun a hf => ?_
      refine op_pass rfl hf rfl rfl (hc2) rfl rfl fun a hf => ?_
      refine op_val (ex_pick_f hf rfl hc2 rfl) rfl hf rfl rfl fun a hf => ?_
      refine op_val (ex_move hf rfl) rfl hf rfl rfl fun a hf => ?_
      refine op_pass rfl hf rfl rfl (rfl) rfl rfl fun a hf => ?_
      refine op_pass rfl hf rfl rfl (rfl) rfl rfl fun a hf => ?_
      refine op_val (ex_pick_f hf rfl rfl rfl) rfl hf rfl rfl fun a hf => ?_
      refine op_val (ex_assign hf rfl) rfl hf rfl rfl fun a hf => ?_
      refine wpList_nil ?_
      refine nor_then ?_
      exact ⟨false, (hf.cons rfl hf.nil), hO, hm⟩
  · rintro a w ⟨t6, hf, hO, hm⟩
    rw [ref09_Path_j1] at hm
    refine wp_ret ?_
    obtain rfl := Option.some.inj hm
    exact post_ret Tryz.results136 hf (.tmp rfl .nil) ⟨rfl, hO.below⟩

set_option maxHeartbeats 1000000 in
theorem w_ref09_Query (x_s : Str) (R : Bool) (w0 : World) (hG : Glob w0) (hm : ref09_Query x_s = some R) :
    Calls Tryz.prog 86 #[str x_s] w0 fun e w' => e = .returned (.bool R) ∧ Below w0.heap.size w0 w' := by
  rw [ref09_Query] at hm
  refine calls_enter (vs := [str x_s]) Tryz.func86 rfl Tryz.ntmps86 rfl fun a hf => ?_
  have hF : Away [] := away_nil
  have hO : Dk.Own w0 [] w0 [] := Dk.Own.refl w0
  refine wp_seq_k fun _ hK1 => ?_
  refine wp_region_list ?_
  refine op_val (ex_assign hf rfl) rfl hf rfl rfl fun a hf => ?_
  refine wpList_nil ?_
  refine nor_then (hK1 _ _ ?_)
  refine wp_seq_k fun _ hK3 => ?_
  refine wp_region_list ?_
  refine op_val (ex_move hf rfl) rfl hf rfl rfl fun a hf => ?_
  obtain ⟨r2, hr2, hm⟩ := ob hm
  refine op_enter (ex_call c_137 hf (vs := [str x_s, str [47, 63]]) rfl) rfl hf rfl rfl (w_ref09_Of x_s [47, 63] r2 _ (hG.own hF hO) hr2) ?_
  rintro e w' ⟨he, hb⟩
  refine ⟨_, he, fun a hf => ?_⟩
  have hO := hO.grow hb
  refine op_val (ex_assign hf rfl) rfl hf rfl rfl fun a hf => ?_
  refine wpList_nil ?_
  refine nor_then (hK3 _ _ ?_)
  refine wp_ret ?_
  obtain rfl := Option.some.inj hm
  exact post_ret Tryz.results86 hf (.tmp rfl .nil) ⟨rfl, hO.below⟩

set_option maxHeartbeats 1000000 in
theorem w_ref10_origin (x_t : api_Target) (x_s : Str) (R : api_Target × Bool) (w0 : World) (hG : Glob w0) (hm : ref10_origin x_t x_s = some R) :
    Calls Tryz.prog 85 #[.agg #[int x_t.Kind, str x_t.Scheme, int x_t.Host.Kind, str x_t.Host.Name, int x_t.Host.Port, str x_t.Path, str x_t.Query, .bool x_t.HasQuery], str x_s] w0 fun e w' => e = .returned (.tuple #[.agg #[int R.1.Kind, str R.1.Scheme, int R.1.Host.Kind, str R.1.Host.Name, int R.1.Host.Port, str R.1.Path, str R.1.Query, .bool R.1.HasQuery], .bool R.2]) ∧ Below w0.heap.size w0 w' := by
  rw [ref10_origin] at hm
  refine calls_enter (vs := [.agg #[int x_t.Kind, str x_t.Scheme, int x_t.Host.Kind, str x_t.Host.Name, int x_t.Host.Port, str x_t.Path, str x_t.Query, .bool x_t.HasQuery], str x_s]) Tryz.func85 rfl Tryz.ntmps85 rfl fun a hf => ?_
  have hF : Away [] := away_nil
  have hO : Dk.Own w0 [] w0 [] := Dk.Own.refl w0
  refine wp_seq_k fun _ hK3 => ?_
  refine wp_region_list ?_
  refine op_box (v := .agg #[int x_t.Kind, str x_t.Scheme, int x_t.Host.Kind, str x_t.Host.Name, int x_t.Host.Port, str x_t.Path, str x_t.Query, .bool x_t.HasQuery]) (cs := [int x_t.Kind, str x_t.Scheme, int x_t.Host.Kind, str x_t.Host.Name, int x_t.Host.Port, str x_t.Path, str x_t.Query, .bool x_t.HasQuery]) rfl hf rfl rfl hO fun a b1 w hf hO => ?_
  refine op_alloc al_75 hf rfl hO fun a b2 w hf hO => ?_
  refine op_val (ex_assign hf rfl) rfl hf rfl rfl fun a hf => ?_
  refine wpList_nil ?_
  refine nor_then (hK3 _ _ ?_)
  refine wp_seq_k fun _ hK5 => ?_
  refine wp_region_list ?_
  refine op_val (ex_move hf rfl) rfl hf rfl rfl fun a hf => ?_
  obtain ⟨r4, hr4, hm⟩ := ob hm
  refine op_enter (ex_call c_135 hf (vs := [str x_s]) rfl) rfl hf rfl rfl (w_ref09_Mark x_s r4 _ (hG.own hF hO) hr4) ?_
  rintro e w' ⟨he, hb⟩
  refine ⟨_, he, fun a hf => ?_⟩
  have hO := hO.grow hb
  refine op_val (ex_assign hf rfl) rfl hf rfl rfl fun a hf => ?_
  refine wpList_nil ?_
  refine nor_then (hK5 _ _ ?_)
  refine wp_seq_k fun _ hK7 => ?_
  refine wp_region_list ?_
  refine op_val (ex_move hf rfl) rfl hf rfl rfl fun a hf => ?_
  refine op_val (ex_move hf rfl) rfl hf rfl rfl fun a hf => ?_
  obtain ⟨s6, hs6, hm⟩ := ob hm
  refine op_val (ex_to_s (l := x_s) Tryz.underlying9 hf rfl rfl hs6) rfl hf rfl rfl fun a hf => ?_
  refine op_val (ex_field fa_75_3 hf rfl) rfl hf rfl rfl fun a hf => ?_
  refine op_store1 (i := 1) (o := 5) (v := str s6) sz_9 rfl rfl rfl rfl hf rfl rfl hO fun w hO => ?_
  refine wpList_nil ?_
  refine nor_then (hK7 _ _ ?_)
  refine wp_seq_k fun _ hK8 => ?_
  refine wp_region_list ?_
  refine op_val (ex_move hf rfl) rfl hf rfl rfl fun a hf => ?_
  refine op_val (ex_move hf rfl) rfl hf rfl rfl fun a hf => ?_
  refine op_val (ex_len_s (l := x_s) Tryz.underlying9 hf rfl) rfl hf rfl rfl fun a hf => ?_
  refine op_val (ex_lss (m := r4) (n := (x_s.length : Int)) hf rfl rfl) rfl hf rfl rfl fun a hf => ?_
  refine op_val (ex_field fa_75_5 hf rfl) rfl hf rfl rfl fun a hf => ?_
  refine op_store1 (i := 1) (o := 7) (v := .bool (decide (r4 < (x_s.length : Int)))) sz_4 rfl rfl rfl rfl hf rfl rfl hO fun w hO => ?_
  refine wpList_nil ?_
  refine nor_then (hK8 _ _ ?_)
  refine wp_seq_cut (fun a w => ∃ (s13 : Str), Fits 34 [(2, ptr b1 0), (4, ptr b2 0)] a ∧ Dk.Own w0 [] w [.blk b2 [int 0, str [], int 0, str [], int 0, str [], str [], .bool false] 75, .blk b1 [int x_t.Kind, str x_t.Scheme, int x_t.Host.Kind, str x_t.Host.Name, int x_t.Host.Port, str s6, str s13, .bool (decide (r4 < (x_s.length : Int)))] 75] ∧ ref10_origin_j1 x_t x_s r4 s6 s13 = some R) ?_ ?_
  · refine wp_seq_k fun _ hK9 => ?_
    refine wp_region_list ?_
    refine op_val (ex_field fa_75_5 hf rfl) rfl hf rfl rfl fun a hf => ?_
    refine op_val (ex_load1 (o := 7) ag_4 (hO.blkSees (i := 1) rfl) rfl hf rfl) rfl hf rfl rfl fun a hf => ?_
    refine wpList_nil ?_
    refine nor_then (hK9 _ _ ?_)
    refine wp_cond_cut hf rfl (fun hc10 => ?_) (fun hc10 => ?_)
    · have hm := it hc10 hm
      refine wp_region_list ?_
      refine op_val (ex_move hf rfl) rfl hf rfl rfl fun a hf => ?_
      refine op_val (ex_move hf rfl) rfl hf rfl rfl fun a hf => ?_
      obtain ⟨i11, hi11, hm⟩ := ob hm
      refine op_val (ex_add hf rfl rfl hi11) rfl hf rfl rfl fun a hf => ?_
      obtain ⟨s12, hs12, hm⟩ := ob hm
      refine op_val (ex_from_s (l := x_s) Tryz.underlying9 hf rfl rfl hs12) rfl hf rfl rfl fun a hf => ?_
      refine op_val (ex_field fa_75_4 hf rfl) rfl hf rfl rfl fun a hf => ?_
      refine op_store1 (i := 1) (o := 6) (v := str s12) sz_9 rfl rfl rfl rfl hf rfl rfl hO fun w hO => ?_
      refine wpList_nil ?_
      refine nor_then ?_
      exact ⟨s12, (hf.cons rfl (hf.cons rfl hf.nil)), hO, hm⟩
    · have hm := ie hc10 hm
      refine wp_skip ?_
      refine nor_then ?_
      exact ⟨x_t.Query, (hf.cons rfl (hf.cons rfl hf.nil)), hO, hm⟩
  · rintro a w ⟨s13, hf, hO, hm⟩
    rw [ref10_origin_j1] at hm
    refine wp_seq_cut (fun a w => ∃ (t17 : Bool), Fits 34 [(4, ptr b2 0), (5, .bool t17)] a ∧ Dk.Own w0 [] w [.blk b2 [int x_t.Kind, str x_t.Scheme, int x_t.Host.Kind, str x_t.Host.Name, int x_t.Host.Port, str s6, str s13, .bool (decide (r4 < (x_s.length : Int)))] 75, .blk b1 [int x_t.Kind, str x_t.Scheme, int x_t.Host.Kind, str x_t.Host.Name, int x_t.Host.Port, str s6, str s13, .bool (decide (r4 < (x_s.length : Int)))] 75] ∧ ref10_origin_j2 x_t x_s r4 s6 s13 t17 = some R) ?_ ?_
    · obtain ⟨r14, hr14, hm⟩ := ob hm
      rcases bcase (r14) with hc15 | hc15
      · have hm := it hc15 hm
        obtain ⟨r16, hr16, hm⟩ := ob hm
        refine wp_drawG' (S := Unit) (E0 := [(2, ptr b1 0), (4, ptr b2 0)]) (by kernel_rfl) (fun k σ w => match k with | 0 => Dk.Own w0 [] w [.blk b2 [int 0, str [], int 0, str [], int 0, str [], str [], .bool false] 75, .blk b1 [int x_t.Kind, str x_t.Scheme, int x_t.Host.Kind, str x_t.Host.Name, int x_t.Host.Port, str s6, str s13, .bool (decide (r4 < (x_s.length : Int)))] 75] | 1 => Dk.Own w0 [] w [.blk b2 [int 0, str [], int 0, str [], int 0, str [], str [], .bool false] 75, .blk b1 [int x_t.Kind, str x_t.Scheme, int x_t.Host.Kind, str x_t.Host.Name, int x_t.Host.Port, str s6, str s13, .bool (decide (r4 < (x_s.length : Int)))] 75] | 2 => Dk.Own w0 [] w [.blk b2 [int 0, str [], int 0, str [], int 0, str [], str [], .bool false] 75, .blk b1 [int x_t.Kind, str x_t.Scheme, int x_t.Host.Kind, str x_t.Host.Name, int x_t.Host.Port, str s6, str s13, .bool (decide (r4 < (x_s.length : Int)))] 75] | _ => Dk.Own w0 [] w [.blk b2 [int x_t.Kind, str x_t.Scheme, int x_t.Host.Kind, str x_t.Host.Name, int x_t.Host.Port, str s6, str s13, .bool (decide (r4 < (x_s.length : Int)))] 75, .blk b1 [int x_t.Kind, str x_t.Scheme, int x_t.Host.Kind, str x_t.Host.Name, int x_t.Host.Port, str s6, str s13, .bool (decide (r4 < (x_s.length : Int)))] 75]) (fun σ => [⟨[(2, ptr b1 0)], some (25, .agg #[int x_t.Kind, str x_t.Scheme, int x_t.Host.Kind, str x_t.Host.Name, int x_t.Host.Port, str s6, str s13, .bool (decide (r4 < (x_s.length : Int)))])⟩, ⟨[(2, ptr b1 0)], some (26, ptr b1 5)⟩, ⟨[(26, ptr b1 5)], some (27, str s6)⟩, ⟨[(27, str s6)], some (28, .bool r14)⟩, ⟨[(28, .bool r14)], some (29, .bool r14)⟩, ⟨[(2, ptr b1 0), (29, .bool r14)], some (30, ptr b1 6)⟩, ⟨[(30, ptr b1 6), (29, .bool r14)], some (31, str s13)⟩, ⟨[(31, str s13), (29, .bool r14)], some (32, .bool r16)⟩, ⟨[(29, .bool r14), (32, .bool r16)], some (33, .bool r16)⟩, ⟨[(4, ptr b2 0), (25, .agg #[int x_t.Kind, str x_t.Scheme, int x_t.Host.Kind, str x_t.Host.Name, int x_t.Host.Port, str s6, str s13, .bool (decide (r4 < (x_s.length : Int)))])], none⟩, ⟨[(33, .bool r16)], some (5, .bool r16)⟩]) () [3, 7, 9] [] ⟨g_none rfl rfl, ⟨g_none rfl rfl, ⟨g_none rfl rfl, ⟨g_none rfl rfl, ⟨g_none rfl rfl, ⟨g_some (u := fun σ => r14) rfl (fun σ => rfl) rfl (fun σ => rfl) (fun σ => by rw [hc15] <;> rfl), ⟨g_some (u := fun σ => r14) rfl (fun σ => rfl) rfl (fun σ => rfl) (fun σ => by rw [hc15] <;> rfl), ⟨g_some (u := fun σ => r14) rfl (fun σ => rfl) rfl (fun σ => rfl) (fun σ => by rw [hc15] <;> rfl), ⟨g_none rfl rfl, ⟨g_none rfl rfl, ⟨g_none rfl rfl, trivial⟩⟩⟩⟩⟩⟩⟩⟩⟩⟩⟩ (fun σ => ⟨.inl rfl, ⟨.inl rfl, ⟨.inl rfl, ⟨.inl rfl, ⟨.inl rfl, ⟨.inl rfl, ⟨.inl rfl, ⟨.inl rfl, ⟨.inl rfl, ⟨.inl rfl, ⟨.inl rfl, trivial⟩⟩⟩⟩⟩⟩⟩⟩⟩⟩⟩) (fun _ => rfl) (fun _ => rfl) (fun _ => rfl) rfl rfl (by decide) rfl hO.drew (hf.cons rfl (hf.cons rfl hf.nil)) (fun σ => ⟨⟨rfl, trivial⟩, ⟨⟨rfl, trivial⟩, ⟨⟨rfl, trivial⟩, ⟨⟨rfl, trivial⟩, ⟨⟨rfl, trivial⟩, ⟨⟨rfl, ⟨rfl, trivial⟩⟩, ⟨⟨rfl, ⟨rfl, trivial⟩⟩, ⟨⟨rfl, ⟨rfl, trivial⟩⟩, ⟨⟨rfl, ⟨rfl, trivial⟩⟩, ⟨⟨rfl, ⟨rfl, trivial⟩⟩, ⟨⟨rfl, trivial⟩, trivial⟩⟩⟩⟩⟩⟩⟩⟩⟩⟩⟩) ⟨.inr ⟨rfl, sS_pure rfl (fun σ => rfl) (fun σ => rfl) (fun σ a w k hk hlo hup hst hf => match k, hk, hlo, hup, hst, hf with | 0, _, _, _, hst, hf => have hO : Dk.Own w0 [] w [.blk b2 [int 0, str [], int 0, str [], int 0, str [], str [], .bool false] 75, .blk b1 [int x_t.Kind, str x_t.Scheme, int x_t.Host.Kind, str x_t.Host.Name, int x_t.Host.Port, str s6, str s13, .bool (decide (r4 < (x_s.length : Int)))] 75] := hst; ex_loadN (o := 0) (vs := [int x_t.Kind, str x_t.Scheme, int x_t.Host.Kind, str x_t.Host.Name, int x_t.Host.Port, str s6, str s13, .bool (decide (r4 < (x_s.length : Int)))]) ag_75 sz_75 (hO.blkSees (i := 1) rfl) rfl rfl hf rfl | 1, _, _, _, hst, hf => have hO : Dk.Own w0 [] w [.blk b2 [int 0, str [], int 0, str [], int 0, str [], str [], .bool false] 75, .blk b1 [int x_t.Kind, str x_t.Scheme, int x_t.Host.Kind, str x_t.Host.Name, int x_t.Host.Port, str s6, str s13, .bool (decide (r4 < (x_s.length : Int)))] 75] := hst; ex_loadN (o := 0) (vs := [int x_t.Kind, str x_t.Scheme, int x_t.Host.Kind, str x_t.Host.Name, int x_t.Host.Port, str s6, str s13, .bool (decide (r4 < (x_s.length : Int)))]) ag_75 sz_75 (hO.blkSees (i := 1) rfl) rfl rfl hf rfl | 2, _, _, _, hst, hf => have hO : Dk.Own w0 [] w [.blk b2 [int 0, str [], int 0, str [], int 0, str [], str [], .bool false] 75, .blk b1 [int x_t.Kind, str x_t.Scheme, int x_t.Host.Kind, str x_t.Host.Name, int x_t.Host.Port, str s6, str s13, .bool (decide (r4 < (x_s.length : Int)))] 75] := hst; ex_loadN (o := 0) (vs := [int x_t.Kind, str x_t.Scheme, int x_t.Host.Kind, str x_t.Host.Name, int x_t.Host.Port, str s6, str s13, .bool (decide (r4 < (x_s.length : Int)))]) ag_75 sz_75 (hO.blkSees (i := 1) rfl) rfl rfl hf rfl | 3, _, _, _, hst, hf => have hO : Dk.Own w0 [] w [.blk b2 [int x_t.Kind, str x_t.Scheme, int x_t.Host.Kind, str x_t.Host.Name, int x_t.Host.Port, str s6, str s13, .bool (decide (r4 < (x_s.length : Int)))] 75, .blk b1 [int x_t.Kind, str x_t.Scheme, int x_t.Host.Kind, str x_t.Host.Name, int x_t.Host.Port, str s6, str s13, .bool (decide (r4 < (x_s.length : Int)))] 75] := hst; ex_loadN (o := 0) (vs := [int x_t.Kind, str x_t.Scheme, int x_t.Host.Kind, str x_t.Host.Name, int x_t.Host.Port, str s6, str s13, .bool (decide (r4 < (x_s.length : Int)))]) ag_75 sz_75 (hO.blkSees (i := 1) rfl) rfl rfl hf rfl | k + 4, hk, _, _, _, _ => absurd hk (by simp))⟩, ⟨.inr ⟨rfl, sS_pure rfl (fun σ => rfl) (fun σ => rfl) (fun σ a w k _ _ _ _ hf => ex_field fa_75_3 hf rfl)⟩, ⟨.inr ⟨rfl, sS_pure rfl (fun σ => rfl) (fun σ => rfl) (fun σ a w k hk hlo hup hst hf => match k, hk, hlo, hup, hst, hf with | 0, _, _, _, hst, hf => have hO : Dk.Own w0 [] w [.blk b2 [int 0, str [], int 0, str [], int 0, str [], str [], .bool false] 75, .blk b1 [int x_t.Kind, str x_t.Scheme, int x_t.Host.Kind, str x_t.Host.Name, int x_t.Host.Port, str s6, str s13, .bool (decide (r4 < (x_s.length : Int)))] 75] := hst; ex_load1 (o := 5) ag_9 (hO.blkSees (i := 1) rfl) rfl hf rfl | 1, _, _, _, hst, hf => have hO : Dk.Own w0 [] w [.blk b2 [int 0, str [], int 0, str [], int 0, str [], str [], .bool false] 75, .blk b1 [int x_t.Kind, str x_t.Scheme, int x_t.Host.Kind, str x_t.Host.Name, int x_t.Host.Port, str s6, str s13, .bool (decide (r4 < (x_s.length : Int)))] 75] := hst; ex_load1 (o := 5) ag_9 (hO.blkSees (i := 1) rfl) rfl hf rfl | 2, _, _, _, hst, hf => have hO : Dk.Own w0 [] w [.blk b2 [int 0, str [], int 0, str [], int 0, str [], str [], .bool false] 75, .blk b1 [int x_t.Kind, str x_t.Scheme, int x_t.Host.Kind, str x_t.Host.Name, int x_t.Host.Port, str s6, str s13, .bool (decide (r4 < (x_s.length : Int)))] 75] := hst; ex_load1 (o := 5) ag_9 (hO.blkSees (i := 1) rfl) rfl hf rfl | 3, _, _, _, hst, hf => have hO : Dk.Own w0 [] w [.blk b2 [int x_t.Kind, str x_t.Scheme, int x_t.Host.Kind, str x_t.Host.Name, int x_t.Host.Port, str s6, str s13, .bool (decide (r4 < (x_s.length : Int)))] 75, .blk b1 [int x_t.Kind, str x_t.Scheme, int x_t.Host.Kind, str x_t.Host.Name, int x_t.Host.Port, str s6, str s13, .bool (decide (r4 < (x_s.length : Int)))] 75] := hst; ex_load1 (o := 5) ag_9 (hO.blkSees (i := 1) rfl) rfl hf rfl | k + 4, hk, _, _, _, _ => absurd hk (by simp))⟩, ⟨.inr ⟨rfl, sS_call rfl (fun σ => rfl) (fun σ => rfl) rfl (fun σ a w (_ : _) hf => ex_call c_136 hf (vs := [str s6]) rfl) (fun σ w (hO : Dk.Own w0 [] w [.blk b2 [int 0, str [], int 0, str [], int 0, str [], str [], .bool false] 75, .blk b1 [int x_t.Kind, str x_t.Scheme, int x_t.Host.Kind, str x_t.Host.Name, int x_t.Host.Port, str s6, str s13, .bool (decide (r4 < (x_s.length : Int)))] 75]) => (w_ref09_Path s6 r14 _ (hG.own hF hO) hr14).mono fun e w' h => by obtain ⟨he, hb⟩ := h; exact ⟨(), he, hO.grow hb, ⟨.inr rfl, ⟨.inr rfl, ⟨.inr rfl, ⟨.inr rfl, ⟨.inr rfl, ⟨.inr rfl, ⟨.inr rfl, ⟨.inr rfl, ⟨.inr rfl, ⟨.inr rfl, ⟨.inr rfl, trivial⟩⟩⟩⟩⟩⟩⟩⟩⟩⟩⟩⟩)⟩, ⟨.inr ⟨rfl, sS_pure rfl (fun σ => rfl) (fun σ => rfl) (fun σ a w k _ _ _ _ hf => ex_move hf rfl)⟩, ⟨.inr ⟨rfl, sS_pure rfl (fun σ => rfl) (fun σ => rfl) (fun σ a w k _ _ _ _ hf => ex_field fa_75_4 hf rfl)⟩, ⟨.inr ⟨rfl, sS_pure rfl (fun σ => rfl) (fun σ => rfl) (fun σ a w k hk hlo hup hst hf => match k, hk, hlo, hup, hst, hf with | 0, _, _, _, hst, hf => have hO : Dk.Own w0 [] w [.blk b2 [int 0, str [], int 0, str [], int 0, str [], str [], .bool false] 75, .blk b1 [int x_t.Kind, str x_t.Scheme, int x_t.Host.Kind, str x_t.Host.Name, int x_t.Host.Port, str s6, str s13, .bool (decide (r4 < (x_s.length : Int)))] 75] := hst; ex_load1 (o := 6) ag_9 (hO.blkSees (i := 1) rfl) rfl hf rfl | 1, _, _, _, hst, hf => have hO : Dk.Own w0 [] w [.blk b2 [int 0, str [], int 0, str [], int 0, str [], str [], .bool false] 75, .blk b1 [int x_t.Kind, str x_t.Scheme, int x_t.Host.Kind, str x_t.Host.Name, int x_t.Host.Port, str s6, str s13, .bool (decide (r4 < (x_s.length : Int)))] 75] := hst; ex_load1 (o := 6) ag_9 (hO.blkSees (i := 1) rfl) rfl hf rfl | 2, _, _, _, hst, hf => have hO : Dk.Own w0 [] w [.blk b2 [int 0, str [], int 0, str [], int 0, str [], str [], .bool false] 75, .blk b1 [int x_t.Kind, str x_t.Scheme, int x_t.Host.Kind, str x_t.Host.Name, int x_t.Host.Port, str s6, str s13, .bool (decide (r4 < (x_s.length : Int)))] 75] := hst; ex_load1 (o := 6) ag_9 (hO.blkSees (i := 1) rfl) rfl hf rfl | 3, _, _, _, hst, hf => have hO : Dk.Own w0 [] w [.blk b2 [int x_t.Kind, str x_t.Scheme, int x_t.Host.Kind, str x_t.Host.Name, int x_t.Host.Port, str s6, str s13, .bool (decide (r4 < (x_s.length : Int)))] 75, .blk b1 [int x_t.Kind, str x_t.Scheme, int x_t.Host.Kind, str x_t.Host.Name, int x_t.Host.Port, str s6, str s13, .bool (decide (r4 < (x_s.length : Int)))] 75] := hst; ex_load1 (o := 6) ag_9 (hO.blkSees (i := 1) rfl) rfl hf rfl | k + 4, hk, _, _, _, _ => absurd hk (by simp))⟩, ⟨.inr ⟨rfl, sS_call rfl (fun σ => rfl) (fun σ => rfl) rfl (fun σ a w (_ : _) hf => ex_call c_86 hf (vs := [str s13]) rfl) (fun σ w (hO : Dk.Own w0 [] w [.blk b2 [int 0, str [], int 0, str [], int 0, str [], str [], .bool false] 75, .blk b1 [int x_t.Kind, str x_t.Scheme, int x_t.Host.Kind, str x_t.Host.Name, int x_t.Host.Port, str s6, str s13, .bool (decide (r4 < (x_s.length : Int)))] 75]) => (w_ref09_Query s13 r16 _ (hG.own hF hO) hr16).mono fun e w' h => by obtain ⟨he, hb⟩ := h; exact ⟨(), he, hO.grow hb, ⟨.inr rfl, ⟨.inr rfl, ⟨.inr rfl, ⟨.inr rfl, ⟨.inr rfl, ⟨.inr rfl, ⟨.inr rfl, ⟨.inr rfl, ⟨.inr rfl, ⟨.inr rfl, ⟨.inr rfl, trivial⟩⟩⟩⟩⟩⟩⟩⟩⟩⟩⟩⟩)⟩, ⟨.inr ⟨rfl, sS_pure rfl (fun σ => rfl) (fun σ => rfl) (fun σ a w k _ _ _ _ hf => ex_pick_t hf rfl hc15 rfl)⟩, ⟨.inr ⟨rfl, sS_skip rfl (fun σ => rfl) (fun σ => rfl) rfl (fun σ w (hO : Dk.Own w0 [] w [.blk b2 [int 0, str [], int 0, str [], int 0, str [], str [], .bool false] 75, .blk b1 [int x_t.Kind, str x_t.Scheme, int x_t.Host.Kind, str x_t.Host.Name, int x_t.Host.Port, str s6, str s13, .bool (decide (r4 < (x_s.length : Int)))] 75]) => by obtain ⟨w', hO', hr⟩ := ef_storeN (x := (.tmp 4)) (y := (.tmp 25)) (E := [(4, ptr b2 0), (25, .agg #[int x_t.Kind, str x_t.Scheme, int x_t.Host.Kind, str x_t.Host.Name, int x_t.Host.Port, str s6, str s13, .bool (decide (r4 < (x_s.length : Int)))])]) (i := 0) (n := 8) (vs := [int x_t.Kind, str x_t.Scheme, int x_t.Host.Kind, str x_t.Host.Name, int x_t.Host.Port, str s6, str s13, .bool (decide (r4 < (x_s.length : Int)))]) sz_75 rfl rfl rfl (by simp [Value.oneCell']) hO rfl rfl; exact ⟨(), w', hO', ⟨.inr rfl, ⟨.inr rfl, ⟨.inr rfl, ⟨.inr rfl, ⟨.inr rfl, ⟨.inr rfl, ⟨.inr rfl, ⟨.inr rfl, ⟨.inr rfl, ⟨.inr rfl, ⟨.inr rfl, trivial⟩⟩⟩⟩⟩⟩⟩⟩⟩⟩⟩, hr⟩)⟩, ⟨.inr ⟨rfl, sS_pure rfl (fun σ => rfl) (fun σ => rfl) (fun σ a w k _ _ _ _ hf => ex_assign hf rfl)⟩, trivial⟩⟩⟩⟩⟩⟩⟩⟩⟩⟩⟩ ?_
        rintro _ a w hf hO
        have hO : Dk.Own w0 [] w [.blk b2 [int x_t.Kind, str x_t.Scheme, int x_t.Host.Kind, str x_t.Host.Name, int x_t.Host.Port, str s6, str s13, .bool (decide (r4 < (x_s.length : Int)))] 75, .blk b1 [int x_t.Kind, str x_t.Scheme, int x_t.Host.Kind, str x_t.Host.Name, int x_t.Host.Port, str s6, str s13, .bool (decide (r4 < (x_s.length : Int)))] 75] := hO
        have hf : Fits 34 [(4, ptr b2 0), (5, .bool r16)] a := (hf.cons rfl (hf.cons rfl hf.nil))
        refine nor_then ?_
        exact ⟨r16, (hf.cons rfl (hf.cons rfl hf.nil)), hO, hm⟩
      · have hm := ie hc15 hm
        refine wp_drawG' (S := Unit) (E0 := [(2, ptr b1 0), (4, ptr b2 0)]) (by kernel_rfl) (fun k σ w => match k with | 0 => Dk.Own w0 [] w [.blk b2 [int 0, str [], int 0, str [], int 0, str [], str [], .bool false] 75, .blk b1 [int x_t.Kind, str x_t.Scheme, int x_t.Host.Kind, str x_t.Host.Name, int x_t.Host.Port, str s6, str s13, .bool (decide (r4 < (x_s.length : Int)))] 75] | 1 => Dk.Own w0 [] w [.blk b2 [int 0, str [], int 0, str [], int 0, str [], str [], .bool false] 75, .blk b1 [int x_t.Kind, str x_t.Scheme, int x_t.Host.Kind, str x_t.Host.Name, int x_t.Host.Port, str s6, str s13, .bool (decide (r4 < (x_s.length : Int)))] 75] | _ => Dk.Own w0 [] w [.blk b2 [int x_t.Kind, str x_t.Scheme, int x_t.Host.Kind, str x_t.Host.Name, int x_t.Host.Port, str s6, str s13, .bool (decide (r4 < (x_s.length : Int)))] 75, .blk b1 [int x_t.Kind, str x_t.Scheme, int x_t.Host.Kind, str x_t.Host.Name, int x_t.Host.Port, str s6, str s13, .bool (decide (r4 < (x_s.length : Int)))] 75]) (fun σ => [⟨[(2, ptr b1 0)], some (25, .agg #[int x_t.Kind, str x_t.Scheme, int x_t.Host.Kind, str x_t.Host.Name, int x_t.Host.Port, str s6, str s13, .bool (decide (r4 < (x_s.length : Int)))])⟩, ⟨[(2, ptr b1 0)], some (26, ptr b1 5)⟩, ⟨[(26, ptr b1 5)], some (27, str s6)⟩, ⟨[(27, str s6)], some (28, .bool r14)⟩, ⟨[(28, .bool r14)], some (29, .bool r14)⟩, ⟨[(29, .bool r14)], some (30, undef)⟩, ⟨[(29, .bool r14)], some (31, undef)⟩, ⟨[(29, .bool r14)], some (32, undef)⟩, ⟨[(29, .bool r14), (32, undef)], some (33, .bool false)⟩, ⟨[(4, ptr b2 0), (25, .agg #[int x_t.Kind, str x_t.Scheme, int x_t.Host.Kind, str x_t.Host.Name, int x_t.Host.Port, str s6, str s13, .bool (decide (r4 < (x_s.length : Int)))])], none⟩, ⟨[(33, .bool false)], some (5, .bool false)⟩]) () [3, 9] [5, 6, 7] ⟨g_none rfl rfl, ⟨g_none rfl rfl, ⟨g_none rfl rfl, ⟨g_none rfl rfl, ⟨g_none rfl rfl, ⟨g_some (u := fun σ => r14) rfl (fun σ => rfl) rfl (fun σ => rfl) (fun σ => by rw [hc15] <;> rfl), ⟨g_some (u := fun σ => r14) rfl (fun σ => rfl) rfl (fun σ => rfl) (fun σ => by rw [hc15] <;> rfl), ⟨g_some (u := fun σ => r14) rfl (fun σ => rfl) rfl (fun σ => rfl) (fun σ => by rw [hc15] <;> rfl), ⟨g_none rfl rfl, ⟨g_none rfl rfl, ⟨g_none rfl rfl, trivial⟩⟩⟩⟩⟩⟩⟩⟩⟩⟩⟩ (fun σ => ⟨.inl rfl, ⟨.inl rfl, ⟨.inl rfl, ⟨.inl rfl, ⟨.inl rfl, ⟨.inr ⟨rfl, rfl⟩, ⟨.inr ⟨rfl, rfl⟩, ⟨.inr ⟨rfl, rfl⟩, ⟨.inl rfl, ⟨.inl rfl, ⟨.inl rfl, trivial⟩⟩⟩⟩⟩⟩⟩⟩⟩⟩⟩) (fun _ => rfl) (fun _ => rfl) (fun _ => rfl) rfl rfl (by decide) rfl hO.drew (hf.cons rfl (hf.cons rfl hf.nil)) (fun σ => ⟨⟨rfl, trivial⟩, ⟨⟨rfl, trivial⟩, ⟨⟨rfl, trivial⟩, ⟨⟨rfl, trivial⟩, ⟨⟨rfl, trivial⟩, ⟨⟨rfl, trivial⟩, ⟨⟨rfl, trivial⟩, ⟨⟨rfl, trivial⟩, ⟨⟨rfl, ⟨rfl, trivial⟩⟩, ⟨⟨rfl, ⟨rfl, trivial⟩⟩, ⟨⟨rfl, trivial⟩, trivial⟩⟩⟩⟩⟩⟩⟩⟩⟩⟩⟩) ⟨.inr ⟨rfl, sS_pure rfl (fun σ => rfl) (fun σ => rfl) (fun σ a w k hk hlo hup hst hf => match k, hk, hlo, hup, hst, hf with | 0, _, _, _, hst, hf => have hO : Dk.Own w0 [] w [.blk b2 [int 0, str [], int 0, str [], int 0, str [], str [], .bool false] 75, .blk b1 [int x_t.Kind, str x_t.Scheme, int x_t.Host.Kind, str x_t.Host.Name, int x_t.Host.Port, str s6, str s13, .bool (decide (r4 < (x_s.length : Int)))] 75] := hst; ex_loadN (o := 0) (vs := [int x_t.Kind, str x_t.Scheme, int x_t.Host.Kind, str x_t.Host.Name, int x_t.Host.Port, str s6, str s13, .bool (decide (r4 < (x_s.length : Int)))]) ag_75 sz_75 (hO.blkSees (i := 1) rfl) rfl rfl hf rfl | 1, _, _, _, hst, hf => have hO : Dk.Own w0 [] w [.blk b2 [int 0, str [], int 0, str [], int 0, str [], str [], .bool false] 75, .blk b1 [int x_t.Kind, str x_t.Scheme, int x_t.Host.Kind, str x_t.Host.Name, int x_t.Host.Port, str s6, str s13, .bool (decide (r4 < (x_s.length : Int)))] 75] := hst; ex_loadN (o := 0) (vs := [int x_t.Kind, str x_t.Scheme, int x_t.Host.Kind, str x_t.Host.Name, int x_t.Host.Port, str s6, str s13, .bool (decide (r4 < (x_s.length : Int)))]) ag_75 sz_75 (hO.blkSees (i := 1) rfl) rfl rfl hf rfl | 2, _, _, _, hst, hf => have hO : Dk.Own w0 [] w [.blk b2 [int x_t.Kind, str x_t.Scheme, int x_t.Host.Kind, str x_t.Host.Name, int x_t.Host.Port, str s6, str s13, .bool (decide (r4 < (x_s.length : Int)))] 75, .blk b1 [int x_t.Kind, str x_t.Scheme, int x_t.Host.Kind, str x_t.Host.Name, int x_t.Host.Port, str s6, str s13, .bool (decide (r4 < (x_s.length : Int)))] 75] := hst; ex_loadN (o := 0) (vs := [int x_t.Kind, str x_t.Scheme, int x_t.Host.Kind, str x_t.Host.Name, int x_t.Host.Port, str s6, str s13, .bool (decide (r4 < (x_s.length : Int)))]) ag_75 sz_75 (hO.blkSees (i := 1) rfl) rfl rfl hf rfl | k + 3, hk, _, _, _, _ => absurd hk (by simp))⟩, ⟨.inr ⟨rfl, sS_pure rfl (fun σ => rfl) (fun σ => rfl) (fun σ a w k _ _ _ _ hf => ex_field fa_75_3 hf rfl)⟩, ⟨.inr ⟨rfl, sS_pure rfl (fun σ => rfl) (fun σ => rfl) (fun σ a w k hk hlo hup hst hf => match k, hk, hlo, hup, hst, hf with | 0, _, _, _, hst, hf => have hO : Dk.Own w0 [] w [.blk b2 [int 0, str [], int 0, str [], int 0, str [], str [], .bool false] 75, .blk b1 [int x_t.Kind, str x_t.Scheme, int x_t.Host.Kind, str x_t.Host.Name, int x_t.Host.Port, str s6, str s13, .bool (decide (r4 < (x_s.length : Int)))] 75] := hst; ex_load1 (o := 5) ag_9 (hO.blkSees (i := 1) rfl) rfl hf rfl | 1, _, _, _, hst, hf => have hO : Dk.Own w0 [] w [.blk b2 [int 0, str [], int 0, str [], int 0, str [], str [], .bool false] 75, .blk b1 [int x_t.Kind, str x_t.Scheme, int x_t.Host.Kind, str x_t.Host.Name, int x_t.Host.Port, str s6, str s13, .bool (decide (r4 < (x_s.length : Int)))] 75] := hst; ex_load1 (o := 5) ag_9 (hO.blkSees (i := 1) rfl) rfl hf rfl | 2, _, _, _, hst, hf => have hO : Dk.Own w0 [] w [.blk b2 [int x_t.Kind, str x_t.Scheme, int x_t.Host.Kind, str x_t.Host.Name, int x_t.Host.Port, str s6, str s13, .bool (decide (r4 < (x_s.length : Int)))] 75, .blk b1 [int x_t.Kind, str x_t.Scheme, int x_t.Host.Kind, str x_t.Host.Name, int x_t.Host.Port, str s6, str s13, .bool (decide (r4 < (x_s.length : Int)))] 75] := hst; ex_load1 (o := 5) ag_9 (hO.blkSees (i := 1) rfl) rfl hf rfl | k + 3, hk, _, _, _, _ => absurd hk (by simp))⟩, ⟨.inr ⟨rfl, sS_call rfl (fun σ => rfl) (fun σ => rfl) rfl (fun σ a w (_ : _) hf => ex_call c_136 hf (vs := [str s6]) rfl) (fun σ w (hO : Dk.Own w0 [] w [.blk b2 [int 0, str [], int 0, str [], int 0, str [], str [], .bool false] 75, .blk b1 [int x_t.Kind, str x_t.Scheme, int x_t.Host.Kind, str x_t.Host.Name, int x_t.Host.Port, str s6, str s13, .bool (decide (r4 < (x_s.length : Int)))] 75]) => (w_ref09_Path s6 r14 _ (hG.own hF hO) hr14).mono fun e w' h => by obtain ⟨he, hb⟩ := h; exact ⟨(), he, hO.grow hb, ⟨.inr rfl, ⟨.inr rfl, ⟨.inr rfl, ⟨.inr rfl, ⟨.inr rfl, ⟨.inr rfl, ⟨.inr rfl, ⟨.inr rfl, ⟨.inr rfl, ⟨.inr rfl, ⟨.inr rfl, trivial⟩⟩⟩⟩⟩⟩⟩⟩⟩⟩⟩⟩)⟩, ⟨.inr ⟨rfl, sS_pure rfl (fun σ => rfl) (fun σ => rfl) (fun σ a w k _ _ _ _ hf => ex_move hf rfl)⟩, ⟨.inl rfl, ⟨.inl rfl, ⟨.inl rfl, ⟨.inr ⟨rfl, sS_pure rfl (fun σ => rfl) (fun σ => rfl) (fun σ a w k _ _ _ _ hf => ex_pick_f hf rfl hc15 rfl)⟩, ⟨.inr ⟨rfl, sS_skip rfl (fun σ => rfl) (fun σ => rfl) rfl (fun σ w (hO : Dk.Own w0 [] w [.blk b2 [int 0, str [], int 0, str [], int 0, str [], str [], .bool false] 75, .blk b1 [int x_t.Kind, str x_t.Scheme, int x_t.Host.Kind, str x_t.Host.Name, int x_t.Host.Port, str s6, str s13, .bool (decide (r4 < (x_s.length : Int)))] 75]) => by obtain ⟨w', hO', hr⟩ := ef_storeN (x := (.tmp 4)) (y := (.tmp 25)) (E := [(4, ptr b2 0), (25, .agg #[int x_t.Kind, str x_t.Scheme, int x_t.Host.Kind, str x_t.Host.Name, int x_t.Host.Port, str s6, str s13, .bool (decide (r4 < (x_s.length : Int)))])]) (i := 0) (n := 8) (vs := [int x_t.Kind, str x_t.Scheme, int x_t.Host.Kind, str x_t.Host.Name, int x_t.Host.Port, str s6, str s13, .bool (decide (r4 < (x_s.length : Int)))]) sz_75 rfl rfl rfl (by simp [Value.oneCell']) hO rfl rfl; exact ⟨(), w', hO', ⟨.inr rfl, ⟨.inr rfl, ⟨.inr rfl, ⟨.inr rfl, ⟨.inr rfl, ⟨.inr rfl, ⟨.inr rfl, ⟨.inr rfl, ⟨.inr rfl, ⟨.inr rfl, ⟨.inr rfl, trivial⟩⟩⟩⟩⟩⟩⟩⟩⟩⟩⟩, hr⟩)⟩, ⟨.inr ⟨rfl, sS_pure rfl (fun σ => rfl) (fun σ => rfl) (fun σ a w k _ _ _ _ hf => ex_assign hf rfl)⟩, trivial⟩⟩⟩⟩⟩⟩⟩⟩⟩⟩⟩ ?_
        rintro _ a w hf hO
        have hO : Dk.Own w0 [] w [.blk b2 [int x_t.Kind, str x_t.Scheme, int x_t.Host.Kind, str x_t.Host.Name, int x_t.Host.Port, str s6, str s13, .bool (decide (r4 < (x_s.length : Int)))] 75, .blk b1 [int x_t.Kind, str x_t.Scheme, int x_t.Host.Kind, str x_t.Host.Name, int x_t.Host.Port, str s6, str s13, .bool (decide (r4 < (x_s.length : Int)))] 75] := hO
        have hf : Fits 34 [(4, ptr b2 0), (5, .bool false)] a := (hf.cons rfl (hf.cons rfl hf.nil))
        refine nor_then ?_
        exact ⟨false, (hf.cons rfl (hf.cons rfl hf.nil)), hO, hm⟩
    · rintro a w ⟨t17, hf, hO, hm⟩
      rw [ref10_origin_j2] at hm
      refine wp_ret ?_
      obtain rfl := Option.some.inj hm
      exact post_ret Tryz.results85 hf (.cell rfl (run_loadVarN (n := 8) (vs := [int x_t.Kind, str x_t.Scheme, int x_t.Host.Kind, str x_t.Host.Name, int x_t.Host.Port, str s6, str s13, .bool (decide (r4 < (x_s.length : Int)))]) ag_75 sz_75 rfl ((hO.blkSees (i := 0) rfl).cells (o := 0) (n := 8) rfl)) (.tmp rfl .nil)) ⟨rfl, hO.below⟩

set_option maxHeartbeats 1000000 in
theorem w_ref01_Fold (x_s : Str) (R : Str) (w0 : World) (hG : Glob w0) (hm : ref01_Fold x_s = some R) :
    Calls Tryz.prog 56 #[str x_s] w0 fun e w' => e = .returned (str R) ∧ Below w0.heap.size w0 w' := by
  rw [ref01_Fold] at hm
  refine calls_enter (vs := [str x_s]) Tryz.func56 rfl Tryz.ntmps56 rfl fun a hf => ?_
  have hF : Away [] := away_nil
  have hO : Dk.Own w0 [] w0 [] := Dk.Own.refl w0
  refine wp_seq_k fun _ hK1 => ?_
  refine wp_region_list ?_
  refine op_val (ex_assign hf rfl) rfl hf rfl rfl fun a hf => ?_
  refine wpList_nil ?_
  refine nor_then (hK1 _ _ ?_)
  refine wp_seq_k fun _ hK2 => ?_
  refine wp_region_list ?_
  refine op_val (ex_assign hf rfl) rfl hf rfl rfl fun a hf => ?_
  refine wpList_nil ?_
  refine nor_then (hK2 _ _ ?_)
  refine wp_seq_k fun _ hK30 => ?_
  refine wp_seq_k fun _ hK3 => ?_
  refine wp_region_list ?_
  refine op_val (ex_assign hf rfl) rfl hf rfl rfl fun a hf => ?_
  refine wpList_nil ?_
  refine nor_then (hK3 _ _ ?_)
  refine wp_block ?_
  refine wp_loop_n (fun k a w => ∃ (s4 : Str) (i5 : Int), Fits 36 [(0, str x_s), (3, str s4), (4, int i5)] a ∧ Dk.Own w0 [] w [] ∧ ref01_Fold_L1 x_s k s4 i5 = some R) ?_ fuel ?_
  · rintro n1 a w ⟨s4, i5, hf, hO, hm⟩
    obtain _ | n1 := n1
    · rw [ref01_Fold_L1] at hm
      cases hm
    · rw [ref01_Fold_L1] at hm
      refine wp_seq_k fun _ hK8 => ?_
      refine wp_seq_k fun _ hK6 => ?_
      refine wp_region_list ?_
      refine op_val (ex_move hf rfl) rfl hf rfl rfl fun a hf => ?_
      refine op_val (ex_move hf rfl) rfl hf rfl rfl fun a hf => ?_
      refine op_val (ex_len_s (l := x_s) Tryz.underlying9 hf rfl) rfl hf rfl rfl fun a hf => ?_
      refine op_val (ex_lss (m := i5) (n := (x_s.length : Int)) hf rfl rfl) rfl hf rfl rfl fun a hf => ?_
      refine wpList_nil ?_
      refine nor_then (hK6 _ _ ?_)
      refine wp_cond_cut hf rfl (fun hc7 => ?_) (fun hc7 => ?_)
      · have hm := it hc7 hm
        refine wp_skip ?_
        refine nor_then (hK8 _ _ ?_)
        refine wp_seq_k fun _ hK28 => ?_
        refine wp_block ?_
        refine wp_seq_k fun _ hK11 => ?_
        refine wp_region_list ?_
        refine op_val (ex_move hf rfl) rfl hf rfl rfl fun a hf => ?_
        refine op_val (ex_move hf rfl) rfl hf rfl rfl fun a hf => ?_
        refine op_val (ex_move hf rfl) rfl hf rfl rfl fun a hf => ?_
        obtain ⟨i9, hi9, hm⟩ := ob hm
        refine op_val (ex_add hf rfl rfl hi9) rfl hf rfl rfl fun a hf => ?_
        obtain ⟨s10, hs10, hm⟩ := ob hm
        refine op_val (ex_sub_s (l := x_s) Tryz.underlying9 hf rfl rfl rfl hs10) rfl hf rfl rfl fun a hf => ?_
        refine op_val (ex_assign hf rfl) rfl hf rfl rfl fun a hf => ?_
        refine wpList_nil ?_
        refine nor_then (hK11 _ _ ?_)
        refine wp_seq_k fun _ hK26 => ?_
        refine wp_seq_k fun _ hK12 => ?_
        refine wp_region_list ?_
        refine op_val (ex_assign hf rfl) rfl hf rfl rfl fun a hf => ?_
        refine wpList_nil ?_
        refine nor_then (hK12 _ _ ?_)
        refine wp_block ?_
        refine wp_loop_n (fun k a w => ∃ (s13 : Str) (i14 : Int), Fits 36 [(0, str x_s), (3, str s4), (4, int i5), (5, str s13), (6, int i14)] a ∧ Dk.Own w0 [] w [] ∧ ref01_Fold_L2 (ref01_Fold_L1 x_s n1) x_s s4 i5 k s13 i14 = some R) ?_ fuel ?_
        · rintro n2 a w ⟨s13, i14, hf, hO, hm⟩
          obtain _ | n2 := n2
          · rw [ref01_Fold_L2] at hm
            cases hm
          · rw [ref01_Fold_L2] at hm
            refine wp_seq_k fun _ hK17 => ?_
            refine wp_seq_k fun _ hK15 => ?_
            refine wp_region_list ?_
            refine op_val (ex_move hf rfl) rfl hf rfl rfl fun a hf => ?_
            refine op_val (ex_lss (m := i14) (n := 26) hf rfl rfl) rfl hf rfl rfl fun a hf => ?_
            refine wpList_nil ?_
            refine nor_then (hK15 _ _ ?_)
            refine wp_cond_cut hf rfl (fun hc16 => ?_) (fun hc16 => ?_)
            · have hm := it hc16 hm
              refine wp_skip ?_
              refine nor_then (hK17 _ _ ?_)
              refine wp_seq_cut (fun a w => ∃ (s24 : Str), Fits 36 [(0, str x_s), (3, str s4), (4, int i5), (5, str s24), (6, int i14)] a ∧ Dk.Own w0 [] w [] ∧ ref01_Fold_j3 (ref01_Fold_L2 (ref01_Fold_L1 x_s n1) x_s s4 i5 n2) i14 s24 = some R) ?_ ?_
              · refine wp_block ?_
                refine wp_seq_k fun _ hK20 => ?_
                refine wp_quiet (by kernel_rfl) (by kernel_rfl) hO ?_
                refine q_val (fun w hO => ex_move hf rfl) rfl hf rfl rfl fun a hf => ?_
                obtain ⟨b18, hb18, hm⟩ := ob hm
                refine q_val (fun w hO => ex_index (l := [65, 66, 67, 68, 69, 70, 71, 72, 73, 74, 75, 76, 77, 78, 79, 80, 81, 82, 83, 84, 85, 86, 87, 88, 89, 90]) Tryz.underlying9 hf rfl rfl hb18) rfl hf rfl rfl fun a hf => ?_
                refine q_val (fun w hO => ex_move hf rfl) rfl hf rfl rfl fun a hf => ?_
                refine q_val (fun w hO => ex_move hf rfl) rfl hf rfl rfl fun a hf => ?_
                obtain ⟨b19, hb19, hm⟩ := ob hm
                refine q_val (fun w hO => ex_index (l := x_s) Tryz.underlying9 hf rfl rfl hb19) rfl hf rfl rfl fun a hf => ?_
                refine q_val (fun w hO => ex_eql_b (b := b18) (c := b19) hf rfl rfl) rfl hf rfl rfl fun a hf => ?_
                refine wpQuiet_nil ?_
                intro w hO
                refine nor_then (hK20 _ _ ?_)
                refine wp_cond_cut hf rfl (fun hc21 => ?_) (fun hc21 => ?_)
                · have hm := it hc21 hm
                  refine wp_region_list ?_
                  refine op_val (ex_move hf rfl) rfl hf rfl rfl fun a hf => ?_
                  refine op_val (ex_move hf rfl) rfl hf rfl rfl fun a hf => ?_
                  obtain ⟨i22, hi22, hm⟩ := ob hm
                  refine op_val (ex_add hf rfl rfl hi22) rfl hf rfl rfl fun a hf => ?_
                  obtain ⟨s23, hs23, hm⟩ := ob hm
                  refine op_val (ex_sub_s (l := [97, 98, 99, 100, 101, 102, 103, 104, 105, 106, 107, 108, 109, 110, 111, 112, 113, 114, 115, 116, 117, 118, 119, 120, 121, 122]) Tryz.underlying9 hf rfl rfl rfl hs23) rfl hf rfl rfl fun a hf => ?_
                  refine op_val (ex_assign hf rfl) rfl hf rfl rfl fun a hf => ?_
                  refine wpList_nil ?_
                  refine nor_block ?_
                  refine nor_then ?_
                  exact ⟨s23, (hf.cons rfl (hf.cons rfl (hf.cons rfl (hf.cons rfl (hf.cons rfl hf.nil))))), hO, hm⟩
                · have hm := ie hc21 hm
                  refine wp_skip ?_
                  refine nor_block ?_
                  refine nor_then ?_
                  exact ⟨s13, (hf.cons rfl (hf.cons rfl (hf.cons rfl (hf.cons rfl (hf.cons rfl hf.nil))))), hO, hm⟩
              · rintro a w ⟨s24, hf, hO, hm⟩
                rw [ref01_Fold_j3] at hm
                refine wp_region_list ?_
                refine op_val (ex_move hf rfl) rfl hf rfl rfl fun a hf => ?_
                obtain ⟨i25, hi25, hm⟩ := ob hm
                refine op_val (ex_add hf rfl rfl hi25) rfl hf rfl rfl fun a hf => ?_
                refine op_val (ex_assign hf rfl) rfl hf rfl rfl fun a hf => ?_
                refine wpList_nil ?_
                refine nor_then ?_
                exact ⟨_, Nat.lt_succ_self _, s24, i25, (hf.cons rfl (hf.cons rfl (hf.cons rfl (hf.cons rfl (hf.cons rfl hf.nil))))), hO, hm⟩
            · have hm := ie hc16 hm
              refine wp_exit ?_
              refine exit_then ?_
              refine exit_then ?_
              refine exit_here ?_
              refine nor_then (hK26 _ _ ?_)
              refine wp_region_list ?_
              refine op_val (ex_move hf rfl) rfl hf rfl rfl fun a hf => ?_
              refine op_val (ex_move hf rfl) rfl hf rfl rfl fun a hf => ?_
              obtain ⟨s27, hs27, hm⟩ := ob hm
              refine op_val (ex_cat (l := s4) (m := s13) hf rfl rfl hs27) rfl hf rfl rfl fun a hf => ?_
              refine op_val (ex_assign hf rfl) rfl hf rfl rfl fun a hf => ?_
              refine wpList_nil ?_
              refine nor_block ?_
              refine nor_then (hK28 _ _ ?_)
              refine wp_region_list ?_
              refine op_val (ex_move hf rfl) rfl hf rfl rfl fun a hf => ?_
              obtain ⟨i29, hi29, hm⟩ := ob hm
              refine op_val (ex_add hf rfl rfl hi29) rfl hf rfl rfl fun a hf => ?_
              refine op_val (ex_assign hf rfl) rfl hf rfl rfl fun a hf => ?_
              refine wpList_nil ?_
              refine nor_then ?_
              exact ⟨_, Nat.lt_succ_self _, s27, i29, (hf.cons rfl (hf.cons rfl (hf.cons rfl hf.nil))), hO, hm⟩
        · exact ⟨s10, 0, (hf.cons rfl (hf.cons rfl (hf.cons rfl (hf.cons rfl (hf.cons rfl hf.nil))))), hO, hm⟩
      · have hm := ie hc7 hm
        refine wp_exit ?_
        refine exit_then ?_
        refine exit_then ?_
        refine exit_here ?_
        refine nor_then (hK30 _ _ ?_)
        refine wp_seq_k fun _ hK31 => ?_
        refine wp_region_list ?_
        refine op_val (ex_move hf rfl) rfl hf rfl rfl fun a hf => ?_
        refine op_val (ex_assign hf rfl) rfl hf rfl rfl fun a hf => ?_
        refine wpList_nil ?_
        refine nor_then (hK31 _ _ ?_)
        refine wp_ret ?_
        obtain rfl := Option.some.inj hm
        exact post_ret Tryz.results56 hf (.tmp rfl .nil) ⟨rfl, hO.below⟩
  · exact ⟨[], 0, (hf.cons rfl (hf.cons rfl (hf.cons rfl hf.nil))), hO, hm⟩

set_option maxHeartbeats 1000000 in
theorem w_ref10_Parse (x_a0 : Str) (x_a1 : Str) (R : api_Target × Int) (w0 : World) (hG : Glob w0) (hm : ref10_Parse x_a0 x_a1 = some R) :
    Calls Tryz.prog 40 #[str x_a0, str x_a1] w0 fun e w' => e = .returned (.tuple #[.agg #[int R.1.Kind, str R.1.Scheme, int R.1.Host.Kind, str R.1.Host.Name, int R.1.Host.Port, str R.1.Path, str R.1.Query, .bool R.1.HasQuery], int R.2]) ∧ Below w0.heap.size w0 w' := by
  rw [ref10_Parse] at hm
  refine calls_enter (vs := [str x_a0, str x_a1]) Tryz.func40 rfl Tryz.ntmps40 rfl fun a hf => ?_
  have hF : Away [] := away_nil
  have hO : Dk.Own w0 [] w0 [] := Dk.Own.refl w0
  refine wp_seq_k fun _ hK2 => ?_
  refine wp_region_list ?_
  refine op_alloc al_75 hf rfl hO fun a b1 w hf hO => ?_
  refine op_val (ex_assign hf rfl) rfl hf rfl rfl fun a hf => ?_
  refine wpList_nil ?_
  refine nor_then (hK2 _ _ ?_)
  refine wp_seq_k fun _ hK14 => ?_
  refine wp_seq_k fun _ hK3 => ?_
  refine wp_region_list ?_
  refine op_val (ex_move hf rfl) rfl hf rfl rfl fun a hf => ?_
  refine op_val (ex_eql_s (l := x_a0) (m := [67, 79, 78, 78, 69, 67, 84]) hf rfl rfl) rfl hf rfl rfl fun a hf => ?_
  refine wpList_nil ?_
  refine nor_then (hK3 _ _ ?_)
  refine wp_cond_cut hf rfl (fun hc4 => ?_) (fun hc4 => ?_)
  · have hm := it hc4 hm
    refine wp_seq_k fun _ hK7 => ?_
    refine wp_region_list ?_
    refine op_val (ex_move hf rfl) rfl hf rfl rfl fun a hf => ?_
    obtain ⟨r5, hr5, hm⟩ := ob hm
    refine op_enter (ex_call c_84 hf (vs := [str x_a1]) rfl) rfl hf rfl rfl (w_ref08_Parse x_a1 r5 _ (hG.own hF hO) hr5) ?_
    rintro e w' ⟨he, hb⟩
    refine ⟨_, he, fun a hf => ?_⟩
    have hO := hO.grow hb
    refine op_val (ex_move hf rfl) rfl hf rfl rfl fun a hf => ?_
    refine op_val (ex_extract hf rfl rfl) rfl hf rfl rfl fun a hf => ?_
    refine op_val (ex_extract hf rfl rfl) rfl hf rfl rfl fun a hf => ?_
    refine op_alloc al_73 hf rfl hO fun a b6 w hf hO => ?_
    refine op_storeN (i := 0) (n := 3) sz_73 rfl rfl rfl (by simp [Value.oneCell']) hf rfl rfl hO fun w hO => ?_
    refine op_val (ex_assign hf rfl) rfl hf rfl rfl fun a hf => ?_
    refine wpList_nil ?_
    refine nor_then (hK7 _ _ ?_)
    refine wp_seq_k fun _ hK12 => ?_
    refine wp_seq_cut (fun a w => ∃ (t9 : Bool), Fits 137 [(4, ptr b1 0), (6, ptr b6 0), (30, .bool t9)] a ∧ Dk.Own w0 [] w [.blk b6 [int r5.1.Kind, str r5.1.Name, int r5.1.Port] 73, .blk b1 [int 0, str [], int 0, str [], int 0, str [], str [], .bool false] 75] ∧ ref10_Parse_j1 r5 t9 = some R) ?_ ?_
    · refine wp_region_list ?_
      refine op_val (ex_move hf rfl) rfl hf rfl rfl fun a hf => ?_
      refine op_val (ex_neq (m := r5.2) (n := 0) hf rfl rfl) rfl hf rfl rfl fun a hf => ?_
      refine op_val (ex_move hf rfl) rfl hf rfl rfl fun a hf => ?_
      rcases bcase (!(r5.2 == 0)) with hc8 | hc8
      · have hm := it hc8 hm
        refine op_pass rfl hf rfl rfl (hc8) rfl rfl fun a hf => ?_
        refine op_pass rfl hf rfl rfl (hc8) rfl rfl fun a hf => ?_
        refine op_pass rfl hf rfl rfl (hc8) rfl rfl fun a hf => ?_
        refine op_val (ex_pick_t hf rfl hc8 rfl) rfl hf rfl rfl fun a hf => ?_
        refine wpList_nil ?_
        refine nor_then ?_
        exact ⟨true, (hf.cons rfl (hf.cons rfl (hf.cons rfl hf.nil))), hO, hm⟩
      · have hm := ie hc8 hm
        refine op_guard rfl hf rfl rfl (hc8) ?_
        refine op_val (ex_field fa_73_2 hf rfl) rfl hf rfl rfl fun a hf => ?_
        refine op_guard rfl hf rfl rfl (hc8) ?_
        refine op_val (ex_load1 (o := 2) ag_3 (hO.blkSees (i := 0) rfl) rfl hf rfl) rfl hf rfl rfl fun a hf => ?_
        refine op_guard rfl hf rfl rfl (hc8) ?_
        refine op_val (ex_lss (m := r5.1.Port) (n := 0) hf rfl rfl) rfl hf rfl rfl fun a hf => ?_
        refine op_val (ex_pick_f hf rfl hc8 rfl) rfl hf rfl rfl fun a hf => ?_
        refine wpList_nil ?_
        refine nor_then ?_
        exact ⟨decide (r5.1.Port < 0), (hf.cons rfl (hf.cons rfl (hf.cons rfl hf.nil))), hO, hm⟩
    · rintro a w ⟨t9, hf, hO, hm⟩
      rw [ref10_Parse_j1] at hm
      refine wp_cond_cut hf rfl (fun hc10 => ?_) (fun hc10 => ?_)
      · have hm := it hc10 hm
        refine wp_seq_k fun _ hK11 => ?_
        refine wp_region_list ?_
        refine op_val (ex_build (vs := []) (v := .agg #[int 0, str [], int 0, str [], int 0, str [], str [], .bool false]) hf rfl (by kernel_rfl)) rfl hf rfl rfl fun a hf => ?_
        refine op_storeN (i := 1) (n := 8) sz_75 rfl rfl rfl (by simp [Value.oneCell']) hf rfl rfl hO fun w hO => ?_
        refine op_val (ex_assign hf rfl) rfl hf rfl rfl fun a hf => ?_
        refine wpList_nil ?_
        refine nor_then (hK11 _ _ ?_)
        refine wp_ret ?_
        refine ret_then ?_
        refine ret_then ?_
        obtain rfl := Option.some.inj hm
        exact post_ret Tryz.results40 hf (.cell rfl (run_loadVarN (n := 8) (vs := [int 0, str [], int 0, str [], int 0, str [], str [], .bool false]) ag_75 sz_75 rfl ((hO.blkSees (i := 1) rfl).cells (o := 0) (n := 8) rfl)) (.tmp rfl .nil)) ⟨rfl, hO.below⟩
      · have hm := ie hc10 hm
        refine wp_skip ?_
        refine nor_then (hK12 _ _ ?_)
        refine wp_seq_k fun _ hK13 => ?_
        refine wp_region_list ?_
        refine op_val (ex_loadN (o := 0) (vs := [int r5.1.Kind, str r5.1.Name, int r5.1.Port]) ag_73 sz_73 (hO.blkSees (i := 0) rfl) rfl rfl hf rfl) rfl hf rfl rfl fun a hf => ?_
        refine op_val (ex_build (vs := [(0, int 3), (2, .agg #[int r5.1.Kind, str r5.1.Name, int r5.1.Port])]) (v := .agg #[int 3, str [], int r5.1.Kind, str r5.1.Name, int r5.1.Port, str [], str [], .bool false]) hf rfl (by kernel_rfl)) rfl hf rfl rfl fun a hf => ?_
        refine op_storeN (i := 1) (n := 8) sz_75 rfl rfl rfl (by simp [Value.oneCell']) hf rfl rfl hO fun w hO => ?_
        refine op_val (ex_assign hf rfl) rfl hf rfl rfl fun a hf => ?_
        refine wpList_nil ?_
        refine nor_then (hK13 _ _ ?_)
        refine wp_ret ?_
        refine ret_then ?_
        obtain rfl := Option.some.inj hm
        exact post_ret Tryz.results40 hf (.cell rfl (run_loadVarN (n := 8) (vs := [int 3, str [], int r5.1.Kind, str r5.1.Name, int r5.1.Port, str [], str [], .bool false]) ag_75 sz_75 rfl ((hO.blkSees (i := 1) rfl).cells (o := 0) (n := 8) rfl)) (.tmp rfl .nil)) ⟨rfl, hO.below⟩
  · have hm := ie hc4 hm
    refine wp_skip ?_
    refine nor_then (hK14 _ _ ?_)
    refine wp_seq_k fun _ hK19 => ?_
    refine wp_seq_cut (fun a w => ∃ (t16 : Bool), Fits 137 [(1, str x_a1), (4, ptr b1 0), (39, .bool t16)] a ∧ Dk.Own w0 [] w [.blk b1 [int 0, str [], int 0, str [], int 0, str [], str [], .bool false] 75] ∧ ref10_Parse_j2 x_a1 t16 = some R) ?_ ?_
    · refine wp_region_list ?_
      refine op_val (ex_move hf rfl) rfl hf rfl rfl fun a hf => ?_
      refine op_val (ex_eql_s (l := x_a1) (m := [42]) hf rfl rfl) rfl hf rfl rfl fun a hf => ?_
      refine op_val (ex_move hf rfl) rfl hf rfl rfl fun a hf => ?_
      rcases bcase (x_a1 == [42]) with hc15 | hc15
      · have hm := it hc15 hm
        refine op_guard rfl hf rfl rfl (hc15) ?_
        refine op_val (ex_move hf rfl) rfl hf rfl rfl fun a hf => ?_
        refine op_guard rfl hf rfl rfl (hc15) ?_
        refine op_val (ex_eql_s (l := x_a0) (m := [79, 80, 84, 73, 79, 78, 83]) hf rfl rfl) rfl hf rfl rfl fun a hf => ?_
        refine op_val (ex_pick_t hf rfl hc15 rfl) rfl hf rfl rfl fun a hf => ?_
        refine wpList_nil ?_
        refine nor_then ?_
        exact ⟨x_a0 == [79, 80, 84, 73, 79, 78, 83], (hf.cons rfl (hf.cons rfl (hf.cons rfl hf.nil))), hO, hm⟩
      · have hm := ie hc15 hm
        refine op_pass rfl hf rfl rfl (hc15) rfl rfl fun a hf => ?_
        refine op_pass rfl hf rfl rfl (hc15) rfl rfl fun a hf => ?_
        refine op_val (ex_pick_f hf rfl hc15 rfl) rfl hf rfl rfl fun a hf => ?_
        refine wpList_nil ?_
        refine nor_then ?_
        exact ⟨false, (hf.cons rfl (hf.cons rfl (hf.cons rfl hf.nil))), hO, hm⟩
    · rintro a w ⟨t16, hf, hO, hm⟩
      rw [ref10_Parse_j2] at hm
      refine wp_cond_cut hf rfl (fun hc17 => ?_) (fun hc17 => ?_)
      · have hm := it hc17 hm
        refine wp_seq_k fun _ hK18 => ?_
        refine wp_region_list ?_
        refine op_val (ex_build (vs := [(0, int 4)]) (v := .agg #[int 4, str [], int 0, str [], int 0, str [], str [], .bool false]) hf rfl (by kernel_rfl)) rfl hf rfl rfl fun a hf => ?_
        refine op_storeN (i := 0) (n := 8) sz_75 rfl rfl rfl (by simp [Value.oneCell']) hf rfl rfl hO fun w hO => ?_
        refine op_val (ex_assign hf rfl) rfl hf rfl rfl fun a hf => ?_
        refine wpList_nil ?_
        refine nor_then (hK18 _ _ ?_)
        refine wp_ret ?_
        refine ret_then ?_
        obtain rfl := Option.some.inj hm
        exact post_ret Tryz.results40 hf (.cell rfl (run_loadVarN (n := 8) (vs := [int 4, str [], int 0, str [], int 0, str [], str [], .bool false]) ag_75 sz_75 rfl ((hO.blkSees (i := 0) rfl).cells (o := 0) (n := 8) rfl)) (.tmp rfl .nil)) ⟨rfl, hO.below⟩
      · have hm := ie hc17 hm
        refine wp_skip ?_
        refine nor_then (hK19 _ _ ?_)
        refine wp_seq_k fun _ hK22 => ?_
        refine wp_region_list ?_
        refine op_val (ex_build (vs := [(0, int 1)]) (v := .agg #[int 1, str [], int 0, str [], int 0, str [], str [], .bool false]) hf rfl (by kernel_rfl)) rfl hf rfl rfl fun a hf => ?_
        refine op_val (ex_move hf rfl) rfl hf rfl rfl fun a hf => ?_
        obtain ⟨r20, hr20, hm⟩ := ob hm
        refine op_enter (ex_call c_85 hf (vs := [.agg #[int 1, str [], int 0, str [], int 0, str [], str [], .bool false], str x_a1]) rfl) rfl hf rfl rfl (w_ref10_origin ((⟨1, [], (⟨0, [], 0⟩ : api_Host), [], [], false⟩ : api_Target)) x_a1 r20 _ (hG.own hF hO) hr20) ?_
        rintro e w' ⟨he, hb⟩
        refine ⟨_, he, fun a hf => ?_⟩
        have hO := hO.grow hb
        refine op_val (ex_move hf rfl) rfl hf rfl rfl fun a hf => ?_
        refine op_val (ex_extract hf rfl rfl) rfl hf rfl rfl fun a hf => ?_
        refine op_val (ex_extract hf rfl rfl) rfl hf rfl rfl fun a hf => ?_
        refine op_alloc al_75 hf rfl hO fun a b21 w hf hO => ?_
        refine op_storeN (i := 0) (n := 8) sz_75 rfl rfl rfl (by simp [Value.oneCell']) hf rfl rfl hO fun w hO => ?_
        refine op_val (ex_assign hf rfl) rfl hf rfl rfl fun a hf => ?_
        refine wpList_nil ?_
        refine nor_then (hK22 _ _ ?_)
        refine wp_seq_k fun _ hK26 => ?_
        refine wp_seq_k fun _ hK23 => ?_
        refine wp_region_list ?_
        refine op_val (ex_move hf rfl) rfl hf rfl rfl fun a hf => ?_
        refine wpList_nil ?_
        refine nor_then (hK23 _ _ ?_)
        refine wp_cond_cut hf rfl (fun hc24 => ?_) (fun hc24 => ?_)
        · have hm := it hc24 hm
          refine wp_seq_k fun _ hK25 => ?_
          refine wp_region_list ?_
          refine op_val (ex_loadN (o := 0) (vs := [int r20.1.Kind, str r20.1.Scheme, int r20.1.Host.Kind, str r20.1.Host.Name, int r20.1.Host.Port, str r20.1.Path, str r20.1.Query, .bool r20.1.HasQuery]) ag_75 sz_75 (hO.blkSees (i := 0) rfl) rfl rfl hf rfl) rfl hf rfl rfl fun a hf => ?_
          refine op_storeN (i := 1) (n := 8) sz_75 rfl rfl rfl (by simp [Value.oneCell']) hf rfl rfl hO fun w hO => ?_
          refine op_val (ex_assign hf rfl) rfl hf rfl rfl fun a hf => ?_
          refine wpList_nil ?_
          refine nor_then (hK25 _ _ ?_)
          refine wp_ret ?_
          refine ret_then ?_
          obtain rfl := Option.some.inj hm
          exact post_ret Tryz.results40 hf (.cell rfl (run_loadVarN (n := 8) (vs := [int r20.1.Kind, str r20.1.Scheme, int r20.1.Host.Kind, str r20.1.Host.Name, int r20.1.Host.Port, str r20.1.Path, str r20.1.Query, .bool r20.1.HasQuery]) ag_75 sz_75 rfl ((hO.blkSees (i := 1) rfl).cells (o := 0) (n := 8) rfl)) (.tmp rfl .nil)) ⟨rfl, hO.below⟩
        · have hm := ie hc24 hm
          refine wp_skip ?_
          refine nor_then (hK26 _ _ ?_)
          refine wp_seq_k fun _ hK100 => ?_
          refine wp_seq_k fun _ hK28 => ?_
          refine wp_region_list ?_
          refine op_buildSlice (vs := [(0, str [104, 116, 116, 112]), (1, str [104, 116, 116, 112, 115])]) (cs := [str [104, 116, 116, 112], str [104, 116, 116, 112, 115]]) (e := 9) (sz := 1) hf rfl rfl (fun w => by kernel_rfl) rfl rfl hO fun a b27 w hf hO => ?_
          refine op_val (ex_len_l Tryz.underlying40 hf rfl) rfl hf rfl rfl fun a hf => ?_
          refine op_val (ex_move hf rfl) rfl hf rfl rfl fun a hf => ?_
          refine wpList_nil ?_
          refine nor_then (hK28 _ _ ?_)
          refine wp_block ?_
          refine wp_loop_n (fun k a w => ∃ (s29 : Str) (i30 : Int), Fits 137 [(1, str s29), (4, ptr b1 0), (49, .slice (some ⟨b27, 0, none⟩) (([[104, 116, 116, 112], [104, 116, 116, 112, 115]]).length) 2), (50, int ((([[104, 116, 116, 112], [104, 116, 116, 112, 115]]).length : Int))), (51, int i30)] a ∧ Dk.Own w0 [] w [.row (.slice (some ⟨b27, 0, none⟩) (([[104, 116, 116, 112], [104, 116, 116, 112, 115]]).length) 2) 9 1 (([[104, 116, 116, 112], [104, 116, 116, 112, 115]]).length) (cells enc_str ([[104, 116, 116, 112], [104, 116, 116, 112, 115]])), .blk b21 [int r20.1.Kind, str r20.1.Scheme, int r20.1.Host.Kind, str r20.1.Host.Name, int r20.1.Host.Port, str r20.1.Path, str r20.1.Query, .bool r20.1.HasQuery] 75, .blk b1 [int 0, str [], int 0, str [], int 0, str [], str [], .bool false] 75] ∧ ref10_Parse_L3 k s29 i30 = some R) ?_ fuel ?_
          · rintro n3 a w ⟨s29, i30, hf, hO, hm⟩
            obtain _ | n3 := n3
            · rw [ref10_Parse_L3] at hm
              cases hm
            · rw [ref10_Parse_L3] at hm
              refine wp_seq_k fun _ hK31 => ?_
              refine wp_region_list ?_
              refine op_val (ex_lss (m := i30) (n := (([[104, 116, 116, 112], [104, 116, 116, 112, 115]]).length : Int)) hf rfl rfl) rfl hf rfl rfl fun a hf => ?_
              refine wpList_nil ?_
              refine nor_then (hK31 _ _ ?_)
              refine wp_seq_k fun _ hK33 => ?_
              refine wp_cond_cut hf rfl (fun hc32 => ?_) (fun hc32 => ?_)
              · have hm := it hc32 hm
                refine wp_skip ?_
                refine nor_then (hK33 _ _ ?_)
                refine wp_seq_k fun _ hK98 => ?_
                refine wp_block ?_
                refine wp_seq_k fun _ hK37 => ?_
                refine wp_region_list ?_
                obtain ⟨x34, hx34, hm⟩ := ob hm
                obtain ⟨b35, o36, hix34, hSx34, hAx34⟩ := elemAtRow (enc := enc_str) (sz := 1) (xs := [[104, 116, 116, 112], [104, 116, 116, 112, 115]]) 40 Tryz.underlying40 sz_9 (by decide) (fun _ => rfl) hO (i := 0) rfl hx34
                refine op_val (ex_indexAddr hix34 hf rfl rfl) rfl hf rfl rfl fun a hf => ?_
                refine op_val (ex_load1 (o := 0) ag_9 (hSx34 _ (hO.rowSees (i := 0) rfl)) rfl hf rfl) rfl hf rfl rfl fun a hf => ?_
                refine op_val (ex_assign hf rfl) rfl hf rfl rfl fun a hf => ?_
                refine wpList_nil ?_
                refine nor_then (hK37 _ _ ?_)
                refine wp_seq_k fun _ hK39 => ?_
                refine wp_region_list ?_
                refine op_val (ex_move hf rfl) rfl hf rfl rfl fun a hf => ?_
                refine op_val (ex_len_s (l := x34) Tryz.underlying9 hf rfl) rfl hf rfl rfl fun a hf => ?_
                obtain ⟨i38, hi38, hm⟩ := ob hm
                refine op_val (ex_add hf rfl rfl hi38) rfl hf rfl rfl fun a hf => ?_
                refine op_val (ex_assign hf rfl) rfl hf rfl rfl fun a hf => ?_
                refine wpList_nil ?_
                refine nor_then (hK39 _ _ ?_)
                refine wp_seq_k fun _ hK46 => ?_
                refine wp_seq_cut (fun a w => ∃ (t44 : Bool), Fits 137 [(1, str s29), (4, ptr b1 0), (11, str x34), (12, int i38), (49, .slice (some ⟨b27, 0, none⟩) (([[104, 116, 116, 112], [104, 116, 116, 112, 115]]).length) 2), (50, int ((([[104, 116, 116, 112], [104, 116, 116, 112, 115]]).length : Int))), (51, int i30), (70, .bool t44)] a ∧ Dk.Own w0 [] w [.row (.slice (some ⟨b27, 0, none⟩) (([[104, 116, 116, 112], [104, 116, 116, 112, 115]]).length) 2) 9 1 (([[104, 116, 116, 112], [104, 116, 116, 112, 115]]).length) (cells enc_str ([[104, 116, 116, 112], [104, 116, 116, 112, 115]])), .blk b21 [int r20.1.Kind, str r20.1.Scheme, int r20.1.Host.Kind, str r20.1.Host.Name, int r20.1.Host.Port, str r20.1.Path, str r20.1.Query, .bool r20.1.HasQuery] 75, .blk b1 [int 0, str [], int 0, str [], int 0, str [], str [], .bool false] 75] ∧ ref10_Parse_j4 (ref10_Parse_L3 n3) s29 i30 x34 i38 t44 = some R) ?_ ?_
                · refine wp_region_list ?_
                  refine op_val (ex_move hf rfl) rfl hf rfl rfl fun a hf => ?_
                  refine op_val (ex_len_s (l := s29) Tryz.underlying9 hf rfl) rfl hf rfl rfl fun a hf => ?_
                  refine op_val (ex_move hf rfl) rfl hf rfl rfl fun a hf => ?_
                  refine op_val (ex_lss (m := (s29.length : Int)) (n := i38) hf rfl rfl) rfl hf rfl rfl fun a hf => ?_
                  refine op_val (ex_move hf rfl) rfl hf rfl rfl fun a hf => ?_
                  rcases bcase (decide ((s29.length : Int) < i38)) with hc40 | hc40
                  · have hm := it hc40 hm
                    refine op_pass rfl hf rfl rfl (hc40) rfl rfl fun a hf => ?_
                    refine op_pass rfl hf rfl rfl (hc40) rfl rfl fun a hf => ?_
                    refine op_pass rfl hf rfl rfl (hc40) rfl rfl fun a hf => ?_
                    refine op_pass rfl hf rfl rfl (hc40) rfl rfl fun a hf => ?_
                    refine op_pass rfl hf rfl rfl (hc40) rfl rfl fun a hf => ?_
                    refine op_pass rfl hf rfl rfl (hc40) rfl rfl fun a hf => ?_
                    refine op_pass rfl hf rfl rfl (hc40) rfl rfl fun a hf => ?_
                    refine op_val (ex_pick_t hf rfl hc40 rfl) rfl hf rfl rfl fun a hf => ?_
                    refine wpList_nil ?_
                    refine nor_then ?_
                    exact ⟨true, (hf.cons rfl (hf.cons rfl (hf.cons rfl (hf.cons rfl (hf.cons rfl (hf.cons rfl (hf.cons rfl (hf.cons rfl hf.nil)))))))), hO, hm⟩
                  · have hm := ie hc40 hm
                    refine op_guard rfl hf rfl rfl (hc40) ?_
                    refine op_val (ex_move hf rfl) rfl hf rfl rfl fun a hf => ?_
                    refine op_guard rfl hf rfl rfl (hc40) ?_
                    refine op_val (ex_move hf rfl) rfl hf rfl rfl fun a hf => ?_
                    refine op_guard rfl hf rfl rfl (hc40) ?_
                    obtain ⟨s41, hs41, hm⟩ := ob hm
                    refine op_val (ex_to_s (l := s29) Tryz.underlying9 hf rfl rfl hs41) rfl hf rfl rfl fun a hf => ?_
                    refine op_guard rfl hf rfl rfl (hc40) ?_
                    obtain ⟨r42, hr42, hm⟩ := ob hm
                    refine op_enter (ex_call c_56 hf (vs := [str s41]) rfl) rfl hf rfl rfl (w_ref01_Fold s41 r42 _ (hG.own hF hO) hr42) ?_
                    rintro e w' ⟨he, hb⟩
                    refine ⟨_, he, fun a hf => ?_⟩
                    have hO := hO.grow hb
                    refine op_guard rfl hf rfl rfl (hc40) ?_
                    refine op_val (ex_move hf rfl) rfl hf rfl rfl fun a hf => ?_
                    refine op_guard rfl hf rfl rfl (hc40) ?_
                    obtain ⟨s43, hs43, hm⟩ := ob hm
                    refine op_val (ex_cat (l := x34) (m := [58, 47, 47]) hf rfl rfl hs43) rfl hf rfl rfl fun a hf => ?_
                    refine op_guard rfl hf rfl rfl (hc40) ?_
                    refine op_val (ex_neq_s (l := r42) (m := s43) hf rfl rfl) rfl hf rfl rfl fun a hf => ?_
                    refine op_val (ex_pick_f hf rfl hc40 rfl) rfl hf rfl rfl fun a hf => ?_
                    refine wpList_nil ?_
                    refine nor_then ?_
                    exact ⟨!(r42 == s43), (hf.cons rfl (hf.cons rfl (hf.cons rfl (hf.cons rfl (hf.cons rfl (hf.cons rfl (hf.cons rfl (hf.cons rfl hf.nil)))))))), hO, hm⟩
                · rintro a w ⟨t44, hf, hO, hm⟩
                  rw [ref10_Parse_j4] at hm
                  refine wp_cond_cut hf rfl (fun hc45 => ?_) (fun hc45 => ?_)
                  · have hm := it hc45 hm
                    refine wp_exit ?_
                    refine exit_then ?_
                    refine exit_here ?_
                    refine nor_then (hK98 _ _ ?_)
                    refine wp_region_list ?_
                    obtain ⟨i99, hi99, hm⟩ := ob hm
                    refine op_val (ex_add hf rfl rfl hi99) rfl hf rfl rfl fun a hf => ?_
                    refine op_val (ex_move hf rfl) rfl hf rfl rfl fun a hf => ?_
                    refine wpList_nil ?_
                    refine nor_then ?_
                    exact ⟨_, Nat.lt_succ_self _, s29, i99, (hf.cons rfl (hf.cons rfl (hf.cons rfl (hf.cons rfl (hf.cons rfl hf.nil))))), hO, hm⟩
                  · have hm := ie hc45 hm
                    refine wp_skip ?_
                    refine nor_then (hK46 _ _ ?_)
                    refine wp_seq_k fun _ hK48 => ?_
                    refine wp_region_list ?_
                    refine op_val (ex_move hf rfl) rfl hf rfl rfl fun a hf => ?_
                    refine op_val (ex_move hf rfl) rfl hf rfl rfl fun a hf => ?_
                    obtain ⟨s47, hs47, hm⟩ := ob hm
                    refine op_val (ex_from_s (l := s29) Tryz.underlying9 hf rfl rfl hs47) rfl hf rfl rfl fun a hf => ?_
                    refine op_val (ex_assign hf rfl) rfl hf rfl rfl fun a hf => ?_
                    refine wpList_nil ?_
                    refine nor_then (hK48 _ _ ?_)
                    refine wp_seq_k fun _ hK49 => ?_
                    refine wp_region_list ?_
                    refine op_val (ex_assign hf rfl) rfl hf rfl rfl fun a hf => ?_
                    refine wpList_nil ?_
                    refine nor_then (hK49 _ _ ?_)
                    refine wp_seq_k fun _ hK59 => ?_
                    refine wp_block ?_
                    refine wp_loop_n (fun k a w => ∃ (i50 : Int), Fits 137 [(1, str s47), (4, ptr b1 0), (11, str x34), (13, int i50)] a ∧ Dk.Own w0 [] w [.row (.slice (some ⟨b27, 0, none⟩) (([[104, 116, 116, 112], [104, 116, 116, 112, 115]]).length) 2) 9 1 (([[104, 116, 116, 112], [104, 116, 116, 112, 115]]).length) (cells enc_str ([[104, 116, 116, 112], [104, 116, 116, 112, 115]])), .blk b21 [int r20.1.Kind, str r20.1.Scheme, int r20.1.Host.Kind, str r20.1.Host.Name, int r20.1.Host.Port, str r20.1.Path, str r20.1.Query, .bool r20.1.HasQuery] 75, .blk b1 [int 0, str [], int 0, str [], int 0, str [], str [], .bool false] 75] ∧ ref10_Parse_L5 x34 s47 k i50 = some R) ?_ fuel ?_
                    · rintro n5 a w ⟨i50, hf, hO, hm⟩
                      obtain _ | n5 := n5
                      · rw [ref10_Parse_L5] at hm
                        cases hm
                      · rw [ref10_Parse_L5] at hm
                        refine wp_seq_k fun _ hK57 => ?_
                        refine wp_seq_cut (fun a w => ∃ (t55 : Bool), Fits 137 [(1, str s47), (4, ptr b1 0), (11, str x34), (13, int i50), (89, .bool t55)] a ∧ Dk.Own w0 [] w [.row (.slice (some ⟨b27, 0, none⟩) (([[104, 116, 116, 112], [104, 116, 116, 112, 115]]).length) 2) 9 1 (([[104, 116, 116, 112], [104, 116, 116, 112, 115]]).length) (cells enc_str ([[104, 116, 116, 112], [104, 116, 116, 112, 115]])), .blk b21 [int r20.1.Kind, str r20.1.Scheme, int r20.1.Host.Kind, str r20.1.Host.Name, int r20.1.Host.Port, str r20.1.Path, str r20.1.Query, .bool r20.1.HasQuery] 75, .blk b1 [int 0, str [], int 0, str [], int 0, str [], str [], .bool false] 75] ∧ ref10_Parse_j6 (ref10_Parse_L5 x34 s47 n5) x34 s47 i50 t55 = some R) ?_ ?_
                        · refine wp_region_list ?_
                          refine op_val (ex_move hf rfl) rfl hf rfl rfl fun a hf => ?_
                          refine op_val (ex_move hf rfl) rfl hf rfl rfl fun a hf => ?_
                          refine op_val (ex_len_s (l := s47) Tryz.underlying9 hf rfl) rfl hf rfl rfl fun a hf => ?_
                          refine op_val (ex_lss (m := i50) (n := (s47.length : Int)) hf rfl rfl) rfl hf rfl rfl fun a hf => ?_
                          refine op_val (ex_move hf rfl) rfl hf rfl rfl fun a hf => ?_
                          rcases bcase (decide (i50 < (s47.length : Int))) with hc51 | hc51
                          · have hm := it hc51 hm
                            refine op_guard rfl hf rfl rfl (hc51) ?_
                            refine op_val (ex_move hf rfl) rfl hf rfl rfl fun a hf => ?_
                            refine op_guard rfl hf rfl rfl (hc51) ?_
                            refine op_val (ex_move hf rfl) rfl hf rfl rfl fun a hf => ?_
                            refine op_guard rfl hf rfl rfl (hc51) ?_
                            obtain ⟨b52, hb52, hm⟩ := ob hm
                            refine op_val (ex_index (l := s47) Tryz.underlying9 hf rfl rfl hb52) rfl hf rfl rfl fun a hf => ?_
                            refine op_guard rfl hf rfl rfl (hc51) ?_
                            refine op_val (ex_neq_b (b := b52) (c := 47) hf rfl rfl) rfl hf rfl rfl fun a hf => ?_
                            refine op_val (ex_pick_t hf rfl hc51 rfl) rfl hf rfl rfl fun a hf => ?_
                            refine op_val (ex_move hf rfl) rfl hf rfl rfl fun a hf => ?_
                            rcases bcase (!(b52 == 47)) with hc53 | hc53
                            · have hm := it hc53 hm
                              refine op_guard rfl hf rfl rfl (hc53) ?_
                              refine op_val (ex_move hf rfl) rfl hf rfl rfl fun a hf => ?_
                              refine op_guard rfl hf rfl rfl (hc53) ?_
                              refine op_val (ex_move hf rfl) rfl hf rfl rfl fun a hf => ?_
                              refine op_guard rfl hf rfl rfl (hc53) ?_
                              obtain ⟨b54, hb54, hm⟩ := ob hm
                              refine op_val (ex_index (l := s47) Tryz.underlying9 hf rfl rfl hb54) rfl hf rfl rfl fun a hf => ?_
                              refine op_guard rfl hf rfl rfl (hc53) ?_
                              refine op_val (ex_neq_b (b := b54) (c := 63) hf rfl rfl) rfl hf rfl rfl fun a hf => ?_
                              refine op_val (ex_pick_t hf rfl hc53 rfl) rfl hf rfl rfl fun a hf => ?_
                              refine wpList_nil ?_
                              refine nor_then ?_
                              exact ⟨!(b54 == 63), (hf.cons rfl (hf.cons rfl (hf.cons rfl (hf.cons rfl (hf.cons rfl hf.nil))))), hO, hm⟩
                            · have hm := ie hc53 hm
                              refine op_pass rfl hf rfl rfl (hc53) rfl rfl fun a hf => ?_
                              refine op_pass rfl hf rfl rfl (hc53) rfl rfl fun a hf => ?_
                              refine op_pass rfl hf rfl rfl (hc53) rfl rfl fun a hf => ?_
                              refine op_pass rfl hf rfl rfl (hc53) rfl rfl fun a hf => ?_
                              refine op_val (ex_pick_f hf rfl hc53 rfl) rfl hf rfl rfl fun a hf => ?_
                              refine wpList_nil ?_
                              refine nor_then ?_
                              exact ⟨false, (hf.cons rfl (hf.cons rfl (hf.cons rfl (hf.cons rfl (hf.cons rfl hf.nil))))), hO, hm⟩
                          · have hm := ie hc51 hm
                            refine op_pass rfl hf rfl rfl (hc51) rfl rfl fun a hf => ?_
                            refine op_pass rfl hf rfl rfl (hc51) rfl rfl fun a hf => ?_
                            refine op_pass rfl hf rfl rfl (hc51) rfl rfl fun a hf => ?_
                            refine op_pass rfl hf rfl rfl (hc51) rfl rfl fun a hf => ?_
                            refine op_val (ex_pick_f hf rfl hc51 rfl) rfl hf rfl rfl fun a hf => ?_
                            refine op_val (ex_move hf rfl) rfl hf rfl rfl fun a hf => ?_
                            refine op_pass rfl hf rfl rfl (rfl) rfl rfl fun a hf => ?_
                            refine op_pass rfl hf rfl rfl (rfl) rfl rfl fun a hf => ?_
                            refine op_pass rfl hf rfl rfl (rfl) rfl rfl fun a hf => ?_
                            refine op_pass rfl hf rfl rfl (rfl) rfl rfl fun a hf => ?_
                            refine op_val (ex_pick_f hf rfl rfl rfl) rfl hf rfl rfl fun a hf => ?_
                            refine wpList_nil ?_
                            refine nor_then ?_
                            exact ⟨false, (hf.cons rfl (hf.cons rfl (hf.cons rfl (hf.cons rfl (hf.cons rfl hf.nil))))), hO, hm⟩
                        · rintro a w ⟨t55, hf, hO, hm⟩
                          rw [ref10_Parse_j6] at hm
                          refine wp_cond_cut hf rfl (fun hc56 => ?_) (fun hc56 => ?_)
                          · have hm := it hc56 hm
                            refine wp_skip ?_
                            refine nor_then (hK57 _ _ ?_)
                            refine wp_block ?_
                            refine wp_region_list ?_
                            refine op_val (ex_move hf rfl) rfl hf rfl rfl fun a hf => ?_
                            obtain ⟨i58, hi58, hm⟩ := ob hm
                            refine op_val (ex_add hf rfl rfl hi58) rfl hf rfl rfl fun a hf => ?_
                            refine op_val (ex_assign hf rfl) rfl hf rfl rfl fun a hf => ?_
                            refine wpList_nil ?_
                            refine nor_block ?_
                            refine nor_then ?_
                            exact ⟨_, Nat.lt_succ_self _, i58, (hf.cons rfl (hf.cons rfl (hf.cons rfl (hf.cons rfl hf.nil)))), hO, hm⟩
                          · have hm := ie hc56 hm
                            refine wp_exit ?_
                            refine exit_then ?_
                            refine exit_then ?_
                            refine exit_here ?_
                            refine nor_then (hK59 _ _ ?_)
                            refine wp_seq_k fun _ hK63 => ?_
                            refine wp_region_list ?_
                            refine op_val (ex_move hf rfl) rfl hf rfl rfl fun a hf => ?_
                            refine op_val (ex_move hf rfl) rfl hf rfl rfl fun a hf => ?_
                            obtain ⟨s60, hs60, hm⟩ := ob hm
                            refine op_val (ex_to_s (l := s47) Tryz.underlying9 hf rfl rfl hs60) rfl hf rfl rfl fun a hf => ?_
                            obtain ⟨r61, hr61, hm⟩ := ob hm
                            refine op_enter (ex_call c_84 hf (vs := [str s60]) rfl) rfl hf rfl rfl (w_ref08_Parse s60 r61 _ (hG.own hF hO) hr61) ?_
                            rintro e w' ⟨he, hb⟩
                            refine ⟨_, he, fun a hf => ?_⟩
                            have hO := hO.grow hb
                            refine op_val (ex_move hf rfl) rfl hf rfl rfl fun a hf => ?_
                            refine op_val (ex_extract hf rfl rfl) rfl hf rfl rfl fun a hf => ?_
                            refine op_val (ex_extract hf rfl rfl) rfl hf rfl rfl fun a hf => ?_
                            refine op_alloc al_73 hf rfl hO fun a b62 w hf hO => ?_
                            refine op_storeN (i := 0) (n := 3) sz_73 rfl rfl rfl (by simp [Value.oneCell']) hf rfl rfl hO fun w hO => ?_
                            refine op_val (ex_assign hf rfl) rfl hf rfl rfl fun a hf => ?_
                            refine wpList_nil ?_
                            refine nor_then (hK63 _ _ ?_)
                            refine wp_seq_k fun _ hK67 => ?_
                            refine wp_seq_k fun _ hK64 => ?_
                            refine wp_region_list ?_
                            refine op_val (ex_move hf rfl) rfl hf rfl rfl fun a hf => ?_
                            refine op_val (ex_neq (m := r61.2) (n := 0) hf rfl rfl) rfl hf rfl rfl fun a hf => ?_
                            refine wpList_nil ?_
                            refine nor_then (hK64 _ _ ?_)
                            refine wp_cond_cut hf rfl (fun hc65 => ?_) (fun hc65 => ?_)
                            · have hm := it hc65 hm
                              refine wp_seq_k fun _ hK66 => ?_
                              refine wp_region_list ?_
                              refine op_val (ex_build (vs := []) (v := .agg #[int 0, str [], int 0, str [], int 0, str [], str [], .bool false]) hf rfl (by kernel_rfl)) rfl hf rfl rfl fun a hf => ?_
                              refine op_storeN (i := 3) (n := 8) sz_75 rfl rfl rfl (by simp [Value.oneCell']) hf rfl rfl hO fun w hO => ?_
                              refine op_val (ex_assign hf rfl) rfl hf rfl rfl fun a hf => ?_
                              refine wpList_nil ?_
                              refine nor_then (hK66 _ _ ?_)
                              refine wp_ret ?_
                              refine ret_then ?_
                              refine ret_block ?_
                              refine ret_then ?_
                              refine ret_then ?_
                              refine ret_block ?_
                              refine ret_then ?_
                              obtain rfl := Option.some.inj hm
                              exact post_ret Tryz.results40 hf (.cell rfl (run_loadVarN (n := 8) (vs := [int 0, str [], int 0, str [], int 0, str [], str [], .bool false]) ag_75 sz_75 rfl ((hO.blkSees (i := 3) rfl).cells (o := 0) (n := 8) rfl)) (.tmp rfl .nil)) ⟨rfl, hO.below⟩
                            · have hm := ie hc65 hm
                              refine wp_skip ?_
                              refine nor_then (hK67 _ _ ?_)
                              refine wp_seq_k fun _ hK69 => ?_
                              refine wp_region_list ?_
                              refine op_val (ex_move hf rfl) rfl hf rfl rfl fun a hf => ?_
                              refine op_val (ex_loadN (o := 0) (vs := [int r61.1.Kind, str r61.1.Name, int r61.1.Port]) ag_73 sz_73 (hO.blkSees (i := 0) rfl) rfl rfl hf rfl) rfl hf rfl rfl fun a hf => ?_
                              refine op_val (ex_build (vs := [(0, int 2), (1, str x34), (2, .agg #[int r61.1.Kind, str r61.1.Name, int r61.1.Port])]) (v := .agg #[int 2, str x34, int r61.1.Kind, str r61.1.Name, int r61.1.Port, str [], str [], .bool false]) hf rfl (by kernel_rfl)) rfl hf rfl rfl fun a hf => ?_
                              refine op_alloc al_75 hf rfl hO fun a b68 w hf hO => ?_
                              refine op_storeN (i := 0) (n := 8) sz_75 rfl rfl rfl (by simp [Value.oneCell']) hf rfl rfl hO fun w hO => ?_
                              refine wpList_nil ?_
                              refine nor_then (hK69 _ _ ?_)
                              refine wp_seq_k fun _ hK73 => ?_
                              refine wp_seq_k fun _ hK70 => ?_
                              refine wp_region_list ?_
                              refine op_val (ex_move hf rfl) rfl hf rfl rfl fun a hf => ?_
                              refine op_val (ex_move hf rfl) rfl hf rfl rfl fun a hf => ?_
                              refine op_val (ex_len_s (l := s47) Tryz.underlying9 hf rfl) rfl hf rfl rfl fun a hf => ?_
                              refine op_val (ex_eql (m := i50) (n := (s47.length : Int)) hf rfl rfl) rfl hf rfl rfl fun a hf => ?_
                              refine wpList_nil ?_
                              refine nor_then (hK70 _ _ ?_)
                              refine wp_cond_cut hf rfl (fun hc71 => ?_) (fun hc71 => ?_)
                              · have hm := it hc71 hm
                                refine wp_seq_k fun _ hK72 => ?_
                                refine wp_region_list ?_
                                refine op_val (ex_loadN (o := 0) (vs := [int 2, str x34, int r61.1.Kind, str r61.1.Name, int r61.1.Port, str [], str [], .bool false]) ag_75 sz_75 (hO.blkSees (i := 0) rfl) rfl rfl hf rfl) rfl hf rfl rfl fun a hf => ?_
                                refine op_storeN (i := 4) (n := 8) sz_75 rfl rfl rfl (by simp [Value.oneCell']) hf rfl rfl hO fun w hO => ?_
                                refine op_val (ex_assign hf rfl) rfl hf rfl rfl fun a hf => ?_
                                refine wpList_nil ?_
                                refine nor_then (hK72 _ _ ?_)
                                refine wp_ret ?_
                                refine ret_then ?_
                                refine ret_block ?_
                                refine ret_then ?_
                                refine ret_then ?_
                                refine ret_block ?_
                                refine ret_then ?_
                                obtain rfl := Option.some.inj hm
                                exact post_ret Tryz.results40 hf (.cell rfl (run_loadVarN (n := 8) (vs := [int 2, str x34, int r61.1.Kind, str r61.1.Name, int r61.1.Port, str [], str [], .bool false]) ag_75 sz_75 rfl ((hO.blkSees (i := 4) rfl).cells (o := 0) (n := 8) rfl)) (.tmp rfl .nil)) ⟨rfl, hO.below⟩
                              · have hm := ie hc71 hm
                                refine wp_skip ?_
                                refine nor_then (hK73 _ _ ?_)
                                refine wp_seq_cut (fun a w => ∃ (t84 : Bool) (i85 : Int) (s86 : Str) (i87 : Int) (s88 : Str) (i89 : Int) (s90 : Str) (s91 : Str) (t92 : Bool), Fits 137 [(4, ptr b1 0), (9, .bool t84), (16, ptr b68 0)] a ∧ Dk.Own w0 [] w [.blk b68 [int i85, str s86, int i87, str s88, int i89, str s90, str s91, .bool t92] 75, .blk b62 [int r61.1.Kind, str r61.1.Name, int r61.1.Port] 73, .row (.slice (some ⟨b27, 0, none⟩) (([[104, 116, 116, 112], [104, 116, 116, 112, 115]]).length) 2) 9 1 (([[104, 116, 116, 112], [104, 116, 116, 112, 115]]).length) (cells enc_str ([[104, 116, 116, 112], [104, 116, 116, 112, 115]])), .blk b21 [int r20.1.Kind, str r20.1.Scheme, int r20.1.Host.Kind, str r20.1.Host.Name, int r20.1.Host.Port, str r20.1.Path, str r20.1.Query, .bool r20.1.HasQuery] 75, .blk b1 [int 0, str [], int 0, str [], int 0, str [], str [], .bool false] 75] ∧ ref10_Parse_j7 t84 i85 s86 i87 s88 i89 s90 s91 t92 = some R) ?_ ?_
                                · refine wp_seq_k fun _ hK75 => ?_
                                  refine wp_region_list ?_
                                  refine op_val (ex_move hf rfl) rfl hf rfl rfl fun a hf => ?_
                                  refine op_val (ex_move hf rfl) rfl hf rfl rfl fun a hf => ?_
                                  obtain ⟨b74, hb74, hm⟩ := ob hm
                                  refine op_val (ex_index (l := s47) Tryz.underlying9 hf rfl rfl hb74) rfl hf rfl rfl fun a hf => ?_
                                  refine op_val (ex_eql_b (b := b74) (c := 63) hf rfl rfl) rfl hf rfl rfl fun a hf => ?_
                                  refine wpList_nil ?_
                                  refine nor_then (hK75 _ _ ?_)
                                  refine wp_cond_cut hf rfl (fun hc76 => ?_) (fun hc76 => ?_)
                                  · have hm := it hc76 hm
                                    refine wp_seq_k fun _ hK77 => ?_
                                    refine wp_region_list ?_
                                    refine op_val (ex_field fa_75_5 hf rfl) rfl hf rfl rfl fun a hf => ?_
                                    refine op_store1 (i := 0) (o := 7) (v := .bool true) sz_4 rfl rfl rfl rfl hf rfl rfl hO fun w hO => ?_
                                    refine wpList_nil ?_
                                    refine nor_then (hK77 _ _ ?_)
                                    refine wp_seq_k fun _ hK80 => ?_
                                    refine wp_region_list ?_
                                    refine op_val (ex_move hf rfl) rfl hf rfl rfl fun a hf => ?_
                                    refine op_val (ex_move hf rfl) rfl hf rfl rfl fun a hf => ?_
                                    obtain ⟨i78, hi78, hm⟩ := ob hm
                                    refine op_val (ex_add hf rfl rfl hi78) rfl hf rfl rfl fun a hf => ?_
                                    obtain ⟨s79, hs79, hm⟩ := ob hm
                                    refine op_val (ex_from_s (l := s47) Tryz.underlying9 hf rfl rfl hs79) rfl hf rfl rfl fun a hf => ?_
                                    refine op_val (ex_field fa_75_4 hf rfl) rfl hf rfl rfl fun a hf => ?_
                                    refine op_store1 (i := 0) (o := 6) (v := str s79) sz_9 rfl rfl rfl rfl hf rfl rfl hO fun w hO => ?_
                                    refine wpList_nil ?_
                                    refine nor_then (hK80 _ _ ?_)
                                    refine wp_region_list ?_
                                    refine op_val (ex_field fa_75_4 hf rfl) rfl hf rfl rfl fun a hf => ?_
                                    refine op_val (ex_load1 (o := 6) ag_9 (hO.blkSees (i := 0) rfl) rfl hf rfl) rfl hf rfl rfl fun a hf => ?_
                                    obtain ⟨r81, hr81, hm⟩ := ob hm
                                    refine op_enter (ex_call c_86 hf (vs := [str s79]) rfl) rfl hf rfl rfl (w_ref09_Query s79 r81 _ (hG.own hF hO) hr81) ?_
                                    rintro e w' ⟨he, hb⟩
                                    refine ⟨_, he, fun a hf => ?_⟩
                                    have hO := hO.grow hb
                                    refine op_val (ex_assign hf rfl) rfl hf rfl rfl fun a hf => ?_
                                    refine wpList_nil ?_
                                    refine nor_then ?_
                                    exact ⟨r81, 2, x34, r61.1.Kind, r61.1.Name, r61.1.Port, [], s79, true, (hf.cons rfl (hf.cons rfl (hf.cons rfl hf.nil))), hO, hm⟩
                                  · have hm := ie hc76 hm
                                    obtain ⟨s82, hs82, hm⟩ := ob hm
                                    obtain ⟨r83, hr83, hm⟩ := ob hm
                                    refine wp_drawS' (S := Unit) (E0 := [(1, str s47), (4, ptr b1 0), (13, int i50), (16, ptr b68 0)]) (by kernel_rfl) (fun k σ w => match k with | 0 => Dk.Own w0 [] w [.blk b68 [int 2, str x34, int r61.1.Kind, str r61.1.Name, int r61.1.Port, str [], str [], .bool false] 75, .blk b62 [int r61.1.Kind, str r61.1.Name, int r61.1.Port] 73, .row (.slice (some ⟨b27, 0, none⟩) (([[104, 116, 116, 112], [104, 116, 116, 112, 115]]).length) 2) 9 1 (([[104, 116, 116, 112], [104, 116, 116, 112, 115]]).length) (cells enc_str ([[104, 116, 116, 112], [104, 116, 116, 112, 115]])), .blk b21 [int r20.1.Kind, str r20.1.Scheme, int r20.1.Host.Kind, str r20.1.Host.Name, int r20.1.Host.Port, str r20.1.Path, str r20.1.Query, .bool r20.1.HasQuery] 75, .blk b1 [int 0, str [], int 0, str [], int 0, str [], str [], .bool false] 75] | 1 => Dk.Own w0 [] w [.blk b68 [int 2, str x34, int r61.1.Kind, str r61.1.Name, int r61.1.Port, str [], str [], .bool false] 75, .blk b62 [int r61.1.Kind, str r61.1.Name, int r61.1.Port] 73, .row (.slice (some ⟨b27, 0, none⟩) (([[104, 116, 116, 112], [104, 116, 116, 112, 115]]).length) 2) 9 1 (([[104, 116, 116, 112], [104, 116, 116, 112, 115]]).length) (cells enc_str ([[104, 116, 116, 112], [104, 116, 116, 112, 115]])), .blk b21 [int r20.1.Kind, str r20.1.Scheme, int r20.1.Host.Kind, str r20.1.Host.Name, int r20.1.Host.Port, str r20.1.Path, str r20.1.Query, .bool r20.1.HasQuery] 75, .blk b1 [int 0, str [], int 0, str [], int 0, str [], str [], .bool false] 75] | _ => Dk.Own w0 [] w [.blk b68 [int r83.1.Kind, str r83.1.Scheme, int r83.1.Host.Kind, str r83.1.Host.Name, int r83.1.Host.Port, str r83.1.Path, str r83.1.Query, .bool r83.1.HasQuery] 75, .blk b62 [int r61.1.Kind, str r61.1.Name, int r61.1.Port] 73, .row (.slice (some ⟨b27, 0, none⟩) (([[104, 116, 116, 112], [104, 116, 116, 112, 115]]).length) 2) 9 1 (([[104, 116, 116, 112], [104, 116, 116, 112, 115]]).length) (cells enc_str ([[104, 116, 116, 112], [104, 116, 116, 112, 115]])), .blk b21 [int r20.1.Kind, str r20.1.Scheme, int r20.1.Host.Kind, str r20.1.Host.Name, int r20.1.Host.Port, str r20.1.Path, str r20.1.Query, .bool r20.1.HasQuery] 75, .blk b1 [int 0, str [], int 0, str [], int 0, str [], str [], .bool false] 75]) (fun σ => [⟨[(16, ptr b68 0)], some (124, .agg #[int 2, str x34, int r61.1.Kind, str r61.1.Name, int r61.1.Port, str [], str [], .bool false])⟩, ⟨[(1, str s47)], some (125, str s47)⟩, ⟨[(13, int i50)], some (126, int i50)⟩, ⟨[(125, str s47), (126, int i50)], some (127, str s82)⟩, ⟨[(124, .agg #[int 2, str x34, int r61.1.Kind, str r61.1.Name, int r61.1.Port, str [], str [], .bool false]), (127, str s82)], some (128, .tuple #[.agg #[int r83.1.Kind, str r83.1.Scheme, int r83.1.Host.Kind, str r83.1.Host.Name, int r83.1.Host.Port, str r83.1.Path, str r83.1.Query, .bool r83.1.HasQuery], .bool r83.2])⟩, ⟨[(128, .tuple #[.agg #[int r83.1.Kind, str r83.1.Scheme, int r83.1.Host.Kind, str r83.1.Host.Name, int r83.1.Host.Port, str r83.1.Path, str r83.1.Query, .bool r83.1.HasQuery], .bool r83.2])], some (123, .tuple #[.agg #[int r83.1.Kind, str r83.1.Scheme, int r83.1.Host.Kind, str r83.1.Host.Name, int r83.1.Host.Port, str r83.1.Path, str r83.1.Query, .bool r83.1.HasQuery], .bool r83.2])⟩, ⟨[(123, .tuple #[.agg #[int r83.1.Kind, str r83.1.Scheme, int r83.1.Host.Kind, str r83.1.Host.Name, int r83.1.Host.Port, str r83.1.Path, str r83.1.Query, .bool r83.1.HasQuery], .bool r83.2])], some (129, .agg #[int r83.1.Kind, str r83.1.Scheme, int r83.1.Host.Kind, str r83.1.Host.Name, int r83.1.Host.Port, str r83.1.Path, str r83.1.Query, .bool r83.1.HasQuery])⟩, ⟨[(123, .tuple #[.agg #[int r83.1.Kind, str r83.1.Scheme, int r83.1.Host.Kind, str r83.1.Host.Name, int r83.1.Host.Port, str r83.1.Path, str r83.1.Query, .bool r83.1.HasQuery], .bool r83.2])], some (130, .bool r83.2)⟩, ⟨[(16, ptr b68 0), (129, .agg #[int r83.1.Kind, str r83.1.Scheme, int r83.1.Host.Kind, str r83.1.Host.Name, int r83.1.Host.Port, str r83.1.Path, str r83.1.Query, .bool r83.1.HasQuery])], none⟩, ⟨[(130, .bool r83.2)], some (9, .bool r83.2)⟩]) () [4, 8] rfl (fun _ => rfl) (fun _ => rfl) (fun _ => rfl) rfl rfl (by decide) rfl hO.drew (hf.cons rfl (hf.cons rfl (hf.cons rfl (hf.cons rfl hf.nil)))) (fun σ => ⟨⟨rfl, trivial⟩, ⟨⟨rfl, trivial⟩, ⟨⟨rfl, trivial⟩, ⟨⟨rfl, ⟨rfl, trivial⟩⟩, ⟨⟨rfl, ⟨rfl, trivial⟩⟩, ⟨⟨rfl, trivial⟩, ⟨⟨rfl, trivial⟩, ⟨⟨rfl, trivial⟩, ⟨⟨rfl, ⟨rfl, trivial⟩⟩, ⟨⟨rfl, trivial⟩, trivial⟩⟩⟩⟩⟩⟩⟩⟩⟩⟩) ⟨sS_pure rfl (fun σ => rfl) (fun σ => rfl) (fun σ a w k hk hlo hup hst hf => match k, hk, hlo, hup, hst, hf with | 0, _, _, _, hst, hf => have hO : Dk.Own w0 [] w [.blk b68 [int 2, str x34, int r61.1.Kind, str r61.1.Name, int r61.1.Port, str [], str [], .bool false] 75, .blk b62 [int r61.1.Kind, str r61.1.Name, int r61.1.Port] 73, .row (.slice (some ⟨b27, 0, none⟩) (([[104, 116, 116, 112], [104, 116, 116, 112, 115]]).length) 2) 9 1 (([[104, 116, 116, 112], [104, 116, 116, 112, 115]]).length) (cells enc_str ([[104, 116, 116, 112], [104, 116, 116, 112, 115]])), .blk b21 [int r20.1.Kind, str r20.1.Scheme, int r20.1.Host.Kind, str r20.1.Host.Name, int r20.1.Host.Port, str r20.1.Path, str r20.1.Query, .bool r20.1.HasQuery] 75, .blk b1 [int 0, str [], int 0, str [], int 0, str [], str [], .bool false] 75] := hst; ex_loadN (o := 0) (vs := [int 2, str x34, int r61.1.Kind, str r61.1.Name, int r61.1.Port, str [], str [], .bool false]) ag_75 sz_75 (hO.blkSees (i := 0) rfl) rfl rfl hf rfl | 1, _, _, _, hst, hf => have hO : Dk.Own w0 [] w [.blk b68 [int 2, str x34, int r61.1.Kind, str r61.1.Name, int r61.1.Port, str [], str [], .bool false] 75, .blk b62 [int r61.1.Kind, str r61.1.Name, int r61.1.Port] 73, .row (.slice (some ⟨b27, 0, none⟩) (([[104, 116, 116, 112], [104, 116, 116, 112, 115]]).length) 2) 9 1 (([[104, 116, 116, 112], [104, 116, 116, 112, 115]]).length) (cells enc_str ([[104, 116, 116, 112], [104, 116, 116, 112, 115]])), .blk b21 [int r20.1.Kind, str r20.1.Scheme, int r20.1.Host.Kind, str r20.1.Host.Name, int r20.1.Host.Port, str r20.1.Path, str r20.1.Query, .bool r20.1.HasQuery] 75, .blk b1 [int 0, str [], int 0, str [], int 0, str [], str [], .bool false] 75] := hst; ex_loadN (o := 0) (vs := [int 2, str x34, int r61.1.Kind, str r61.1.Name, int r61.1.Port, str [], str [], .bool false]) ag_75 sz_75 (hO.blkSees (i := 0) rfl) rfl rfl hf rfl | 2, _, _, hup, _, _ => absurd (hup 0 (by decide) (by kernel_rfl)) (by decide) | k + 3, hk, _, _, _, _ => absurd hk (by simp)), ⟨sS_pure rfl (fun σ => rfl) (fun σ => rfl) (fun σ a w k _ _ _ _ hf => ex_move hf rfl), ⟨sS_pure rfl (fun σ => rfl) (fun σ => rfl) (fun σ a w k _ _ _ _ hf => ex_move hf rfl), ⟨sS_pure rfl (fun σ => rfl) (fun σ => rfl) (fun σ a w k _ _ _ _ hf => ex_from_s (l := s47) Tryz.underlying9 hf rfl rfl hs82), ⟨sS_call rfl (fun σ => rfl) (fun σ => rfl) rfl (fun σ a w (_ : _) hf => ex_call c_85 hf (vs := [.agg #[int 2, str x34, int r61.1.Kind, str r61.1.Name, int r61.1.Port, str [], str [], .bool false], str s82]) rfl) (fun σ w (hO : Dk.Own w0 [] w [.blk b68 [int 2, str x34, int r61.1.Kind, str r61.1.Name, int r61.1.Port, str [], str [], .bool false] 75, .blk b62 [int r61.1.Kind, str r61.1.Name, int r61.1.Port] 73, .row (.slice (some ⟨b27, 0, none⟩) (([[104, 116, 116, 112], [104, 116, 116, 112, 115]]).length) 2) 9 1 (([[104, 116, 116, 112], [104, 116, 116, 112, 115]]).length) (cells enc_str ([[104, 116, 116, 112], [104, 116, 116, 112, 115]])), .blk b21 [int r20.1.Kind, str r20.1.Scheme, int r20.1.Host.Kind, str r20.1.Host.Name, int r20.1.Host.Port, str r20.1.Path, str r20.1.Query, .bool r20.1.HasQuery] 75, .blk b1 [int 0, str [], int 0, str [], int 0, str [], str [], .bool false] 75]) => (w_ref10_origin (⟨2, x34, r61.1, [], [], false⟩ : api_Target) s82 r83 _ (hG.own hF hO) hr83).mono fun e w' h => by obtain ⟨he, hb⟩ := h; exact ⟨(), he, hO.grow hb, ⟨.inr rfl, ⟨.inr rfl, ⟨.inr rfl, ⟨.inr rfl, ⟨.inr rfl, ⟨.inr rfl, ⟨.inr rfl, ⟨.inr rfl, ⟨.inr rfl, ⟨.inr rfl, trivial⟩⟩⟩⟩⟩⟩⟩⟩⟩⟩⟩), ⟨sS_pure rfl (fun σ => rfl) (fun σ => rfl) (fun σ a w k _ _ _ _ hf => ex_move hf rfl), ⟨sS_pure rfl (fun σ => rfl) (fun σ => rfl) (fun σ a w k _ _ _ _ hf => ex_extract hf rfl rfl), ⟨sS_pure rfl (fun σ => rfl) (fun σ => rfl) (fun σ a w k _ _ _ _ hf => ex_extract hf rfl rfl), ⟨sS_skip rfl (fun σ => rfl) (fun σ => rfl) rfl (fun σ w (hO : Dk.Own w0 [] w [.blk b68 [int 2, str x34, int r61.1.Kind, str r61.1.Name, int r61.1.Port, str [], str [], .bool false] 75, .blk b62 [int r61.1.Kind, str r61.1.Name, int r61.1.Port] 73, .row (.slice (some ⟨b27, 0, none⟩) (([[104, 116, 116, 112], [104, 116, 116, 112, 115]]).length) 2) 9 1 (([[104, 116, 116, 112], [104, 116, 116, 112, 115]]).length) (cells enc_str ([[104, 116, 116, 112], [104, 116, 116, 112, 115]])), .blk b21 [int r20.1.Kind, str r20.1.Scheme, int r20.1.Host.Kind, str r20.1.Host.Name, int r20.1.Host.Port, str r20.1.Path, str r20.1.Query, .bool r20.1.HasQuery] 75, .blk b1 [int 0, str [], int 0, str [], int 0, str [], str [], .bool false] 75]) => by obtain ⟨w', hO', hr⟩ := ef_storeN (x := (.tmp 16)) (y := (.tmp 129)) (E := [(16, ptr b68 0), (129, .agg #[int r83.1.Kind, str r83.1.Scheme, int r83.1.Host.Kind, str r83.1.Host.Name, int r83.1.Host.Port, str r83.1.Path, str r83.1.Query, .bool r83.1.HasQuery])]) (i := 0) (n := 8) (vs := [int r83.1.Kind, str r83.1.Scheme, int r83.1.Host.Kind, str r83.1.Host.Name, int r83.1.Host.Port, str r83.1.Path, str r83.1.Query, .bool r83.1.HasQuery]) sz_75 rfl rfl rfl (by simp [Value.oneCell']) hO rfl rfl; exact ⟨(), w', hO', ⟨.inr rfl, ⟨.inr rfl, ⟨.inr rfl, ⟨.inr rfl, ⟨.inr rfl, ⟨.inr rfl, ⟨.inr rfl, ⟨.inr rfl, ⟨.inr rfl, ⟨.inr rfl, trivial⟩⟩⟩⟩⟩⟩⟩⟩⟩⟩, hr⟩), ⟨sS_pure rfl (fun σ => rfl) (fun σ => rfl) (fun σ a w k _ _ _ _ hf => ex_assign hf rfl), trivial⟩⟩⟩⟩⟩⟩⟩⟩⟩⟩ ?_
                                    rintro _ a w hf hO
                                    have hO : Dk.Own w0 [] w [.blk b68 [int r83.1.Kind, str r83.1.Scheme, int r83.1.Host.Kind, str r83.1.Host.Name, int r83.1.Host.Port, str r83.1.Path, str r83.1.Query, .bool r83.1.HasQuery] 75, .blk b62 [int r61.1.Kind, str r61.1.Name, int r61.1.Port] 73, .row (.slice (some ⟨b27, 0, none⟩) (([[104, 116, 116, 112], [104, 116, 116, 112, 115]]).length) 2) 9 1 (([[104, 116, 116, 112], [104, 116, 116, 112, 115]]).length) (cells enc_str ([[104, 116, 116, 112], [104, 116, 116, 112, 115]])), .blk b21 [int r20.1.Kind, str r20.1.Scheme, int r20.1.Host.Kind, str r20.1.Host.Name, int r20.1.Host.Port, str r20.1.Path, str r20.1.Query, .bool r20.1.HasQuery] 75, .blk b1 [int 0, str [], int 0, str [], int 0, str [], str [], .bool false] 75] := hO
                                    have hf : Fits 137 [(4, ptr b1 0), (9, .bool r83.2), (16, ptr b68 0)] a := (hf.cons rfl (hf.cons rfl (hf.cons rfl hf.nil)))
                                    refine nor_then ?_
                                    exact ⟨r83.2, r83.1.Kind, r83.1.Scheme, r83.1.Host.Kind, r83.1.Host.Name, r83.1.Host.Port, r83.1.Path, r83.1.Query, r83.1.HasQuery, (hf.cons rfl (hf.cons rfl (hf.cons rfl hf.nil))), hO, hm⟩
                                · rintro a w ⟨t84, i85, s86, i87, s88, i89, s90, s91, t92, hf, hO, hm⟩
                                  rw [ref10_Parse_j7] at hm
                                  refine wp_seq_k fun _ hK96 => ?_
                                  refine wp_seq_k fun _ hK93 => ?_
                                  refine wp_region_list ?_
                                  refine op_val (ex_move hf rfl) rfl hf rfl rfl fun a hf => ?_
                                  refine op_val (ex_not hf rfl) rfl hf rfl rfl fun a hf => ?_
                                  refine wpList_nil ?_
                                  refine nor_then (hK93 _ _ ?_)
                                  refine wp_cond_cut hf rfl (fun hc94 => ?_) (fun hc94 => ?_)
                                  · have hm := it hc94 hm
                                    refine wp_seq_k fun _ hK95 => ?_
                                    refine wp_region_list ?_
                                    refine op_val (ex_build (vs := []) (v := .agg #[int 0, str [], int 0, str [], int 0, str [], str [], .bool false]) hf rfl (by kernel_rfl)) rfl hf rfl rfl fun a hf => ?_
                                    refine op_storeN (i := 4) (n := 8) sz_75 rfl rfl rfl (by simp [Value.oneCell']) hf rfl rfl hO fun w hO => ?_
                                    refine op_val (ex_assign hf rfl) rfl hf rfl rfl fun a hf => ?_
                                    refine wpList_nil ?_
                                    refine nor_then (hK95 _ _ ?_)
                                    refine wp_ret ?_
                                    refine ret_then ?_
                                    refine ret_block ?_
                                    refine ret_then ?_
                                    refine ret_then ?_
                                    refine ret_block ?_
                                    refine ret_then ?_
                                    obtain rfl := Option.some.inj hm
                                    exact post_ret Tryz.results40 hf (.cell rfl (run_loadVarN (n := 8) (vs := [int 0, str [], int 0, str [], int 0, str [], str [], .bool false]) ag_75 sz_75 rfl ((hO.blkSees (i := 4) rfl).cells (o := 0) (n := 8) rfl)) (.tmp rfl .nil)) ⟨rfl, hO.below⟩
                                  · have hm := ie hc94 hm
                                    refine wp_skip ?_
                                    refine nor_then (hK96 _ _ ?_)
                                    refine wp_seq_k fun _ hK97 => ?_
                                    refine wp_region_list ?_
                                    refine op_val (ex_loadN (o := 0) (vs := [int i85, str s86, int i87, str s88, int i89, str s90, str s91, .bool t92]) ag_75 sz_75 (hO.blkSees (i := 0) rfl) rfl rfl hf rfl) rfl hf rfl rfl fun a hf => ?_
                                    refine op_storeN (i := 4) (n := 8) sz_75 rfl rfl rfl (by simp [Value.oneCell']) hf rfl rfl hO fun w hO => ?_
                                    refine op_val (ex_assign hf rfl) rfl hf rfl rfl fun a hf => ?_
                                    refine wpList_nil ?_
                                    refine nor_then (hK97 _ _ ?_)
                                    refine wp_ret ?_
                                    refine ret_block ?_
                                    refine ret_then ?_
                                    refine ret_then ?_
                                    refine ret_block ?_
                                    refine ret_then ?_
                                    obtain rfl := Option.some.inj hm
                                    exact post_ret Tryz.results40 hf (.cell rfl (run_loadVarN (n := 8) (vs := [int i85, str s86, int i87, str s88, int i89, str s90, str s91, .bool t92]) ag_75 sz_75 rfl ((hO.blkSees (i := 4) rfl).cells (o := 0) (n := 8) rfl)) (.tmp rfl .nil)) ⟨rfl, hO.below⟩
                    · exact ⟨0, (hf.cons rfl (hf.cons rfl (hf.cons rfl (hf.cons rfl hf.nil)))), hO, hm⟩
              · have hm := ie hc32 hm
                refine wp_exit ?_
                refine exit_then ?_
                refine exit_then ?_
                refine exit_here ?_
                refine nor_then (hK100 _ _ ?_)
                refine wp_seq_k fun _ hK101 => ?_
                refine wp_region_list ?_
                refine op_val (ex_build (vs := []) (v := .agg #[int 0, str [], int 0, str [], int 0, str [], str [], .bool false]) hf rfl (by kernel_rfl)) rfl hf rfl rfl fun a hf => ?_
                refine op_storeN (i := 2) (n := 8) sz_75 rfl rfl rfl (by simp [Value.oneCell']) hf rfl rfl hO fun w hO => ?_
                refine op_val (ex_assign hf rfl) rfl hf rfl rfl fun a hf => ?_
                refine wpList_nil ?_
                refine nor_then (hK101 _ _ ?_)
                refine wp_ret ?_
                obtain rfl := Option.some.inj hm
                exact post_ret Tryz.results40 hf (.cell rfl (run_loadVarN (n := 8) (vs := [int 0, str [], int 0, str [], int 0, str [], str [], .bool false]) ag_75 sz_75 rfl ((hO.blkSees (i := 2) rfl).cells (o := 0) (n := 8) rfl)) (.tmp rfl .nil)) ⟨rfl, hO.below⟩
          · exact ⟨x_a1, 0, (hf.cons rfl (hf.cons rfl (hf.cons rfl (hf.cons rfl (hf.cons rfl hf.nil))))), hO, hm⟩

set_option maxHeartbeats 1000000 in
theorem w_ref01_Value (x_b : UInt8) (R : Bool) (w0 : World) (hG : Glob w0) (hm : ref01_Value x_b = some R) :
    Calls Tryz.prog 42 #[byte x_b] w0 fun e w' => e = .returned (.bool R) ∧ Below w0.heap.size w0 w' := by
  rw [ref01_Value] at hm
  refine calls_enter (vs := [byte x_b]) Tryz.func42 rfl Tryz.ntmps42 rfl fun a hf => ?_
  have hF : Away [] := away_nil
  have hO : Dk.Own w0 [] w0 [] := Dk.Own.refl w0
  refine wp_seq_k fun _ hK1 => ?_
  refine wp_region_list ?_
  refine op_val (ex_assign hf rfl) rfl hf rfl rfl fun a hf => ?_
  refine wpList_nil ?_
  refine nor_then (hK1 _ _ ?_)
  refine wp_seq_cut (fun a w => ∃ (t4 : Bool), Fits 13 [(2, .bool t4)] a ∧ Dk.Own w0 [] w [] ∧ ref01_Value_j1 t4 = some R) ?_ ?_
  · refine wp_region_list ?_
    refine op_val (ex_move hf rfl) rfl hf rfl rfl fun a hf => ?_
    refine op_val (ex_geq_b (b := x_b) (c := 32) hf rfl rfl) rfl hf rfl rfl fun a hf => ?_
    refine op_val (ex_move hf rfl) rfl hf rfl rfl fun a hf => ?_
    rcases bcase (decide (32 ≤ x_b)) with hc2 | hc2
    · have hm := it hc2 hm
      refine op_guard rfl hf rfl rfl (hc2) ?_
      refine op_val (ex_move hf rfl) rfl hf rfl rfl fun a hf => ?_
      refine op_guard rfl hf rfl rfl (hc2) ?_
      refine op_val (ex_neq_b (b := x_b) (c := 127) hf rfl rfl) rfl hf rfl rfl fun a hf => ?_
      refine op_val (ex_pick_t hf rfl hc2 rfl) rfl hf rfl rfl fun a hf => ?_
      refine op_val (ex_move hf rfl) rfl hf rfl rfl fun a hf => ?_
      rcases bcase (!(x_b == 127)) with hc3 | hc3
      · have hm := it hc3 hm
        refine op_pass rfl hf rfl rfl (hc3) rfl rfl fun a hf => ?_
        refine op_pass rfl hf rfl rfl (hc3) rfl rfl fun a hf => ?_
        refine op_val (ex_pick_t hf rfl hc3 rfl) rfl hf rfl rfl fun a hf => ?_
        refine op_val (ex_assign hf rfl) rfl hf rfl rfl fun a hf => ?_
        refine wpList_nil ?_
        refine nor_then ?_
        exact ⟨true, (hf.cons rfl hf.nil), hO, hm⟩
      · have hm := ie hc3 hm
        refine op_guard rfl hf rfl rfl (hc3) ?_
        refine op_val (ex_move hf rfl) rfl hf rfl rfl fun a hf => ?_
        refine op_guard rfl hf rfl rfl (hc3) ?_
        refine op_val (ex_eql_b (b := x_b) (c := 9) hf rfl rfl) rfl hf rfl rfl fun a hf => ?_
        refine op_val (ex_pick_f hf rfl hc3 rfl) rfl hf rfl rfl fun a hf => ?_
        refine op_val (ex_assign hf rfl) rfl hf rfl rfl fun a hf => ?_
        refine wpList_nil ?_
        refine nor_then ?_
        exact ⟨x_b == 9, (hf.cons rfl hf.nil), hO, hm⟩
    · have hm := ie hc2 hm
      refine op_pass rfl hf rfl rfl (hc2) rfl rfl fun a hf => ?_
      refine op_pass rfl hf rfl rfl (hc2) rfl rfl fun a hf => ?_
      refine op_val (ex_pick_f hf rfl hc2 rfl) rfl hf rfl rfl fun a hf => ?_
      refine op_val (ex_move hf rfl) rfl hf rfl rfl fun a hf => ?_
      refine op_guard rfl hf rfl rfl (rfl) ?_
      refine op_val (ex_move hf rfl) rfl hf rfl rfl fun a hf => ?_
      refine op_guard rfl hf rfl rfl (rfl) ?_
      refine op_val (ex_eql_b (b := x_b) (c := 9) hf rfl rfl) rfl hf rfl rfl fun a hf => ?_
      refine op_val (ex_pick_f hf rfl rfl rfl) rfl hf rfl rfl fun a hf => ?_
      refine op_val (ex_assign hf rfl) rfl hf rfl rfl fun a hf => ?_
      refine wpList_nil ?_
      refine nor_then ?_
      exact ⟨x_b == 9, (hf.cons rfl hf.nil), hO, hm⟩
  · rintro a w ⟨t4, hf, hO, hm⟩
    rw [ref01_Value_j1] at hm
    refine wp_ret ?_
    obtain rfl := Option.some.inj hm
    exact post_ret Tryz.results42 hf (.tmp rfl .nil) ⟨rfl, hO.below⟩

set_option maxHeartbeats 1000000 in
theorem w_ref14_Parse (x_a0 : Int) (x_a1 : Str) (R : api_Head × Int) (w0 : World) (hG : Glob w0) (hm : ref14_Parse x_a0 x_a1 = some R) :
    Calls Tryz.prog 12 #[int x_a0, str x_a1] w0 fun e w' => ∃ (p0 : Option Addr) (c0 : Nat), e = .returned (.tuple #[.agg #[int R.1.Kind, str R.1.Method, str R.1.Target, int R.1.Code, str R.1.Reason, int R.1.Minor, .slice p0 R.1.Fields.length c0], int R.2]) ∧ Dk.Own w0 [] w' [.row (.slice p0 R.1.Fields.length c0) 86 2 R.1.Fields.length (cells enc_api_Field R.1.Fields)] := by
  rw [ref14_Parse] at hm
  refine calls_enter (vs := [int x_a0, str x_a1]) Tryz.func12 rfl Tryz.ntmps12 rfl fun a hf => ?_
  have hF : Away [] := away_nil
  have hO : Dk.Own w0 [] w0 [] := Dk.Own.refl w0
  refine wp_seq_k fun _ hK2 => ?_
  refine wp_region_list ?_
  refine op_alloc al_27 hf rfl hO fun a b1 w hf hO => ?_
  have hO := hO.nilRow 86 2
  refine op_val (ex_assign hf rfl) rfl hf rfl rfl fun a hf => ?_
  refine wpList_nil ?_
  refine nor_then (hK2 _ _ ?_)
  refine wp_seq_k fun _ hK7 => ?_
  refine wp_seq_cut (fun a w => ∃ (t4 : Bool), Fits 144 [(0, int x_a0), (1, str x_a1), (4, ptr b1 0), (21, .bool t4)] a ∧ Dk.Own w0 [] w [.row (.slice none 0 0) 86 2 0 (cells enc_api_Field []), .blk b1 [int 0, str [], str [], int 0, str [], int 0, .slice none 0 0] 27] ∧ ref14_Parse_j1 x_a0 x_a1 t4 = some R) ?_ ?_
  · refine wp_region_list ?_
    refine op_val (ex_move hf rfl) rfl hf rfl rfl fun a hf => ?_
    refine op_val (ex_neq (m := x_a0) (n := 1) hf rfl rfl) rfl hf rfl rfl fun a hf => ?_
    refine op_val (ex_move hf rfl) rfl hf rfl rfl fun a hf => ?_
    rcases bcase (!(x_a0 == 1)) with hc3 | hc3
    · have hm := it hc3 hm
      refine op_guard rfl hf rfl rfl (hc3) ?_
      refine op_val (ex_move hf rfl) rfl hf rfl rfl fun a hf => ?_
      refine op_guard rfl hf rfl rfl (hc3) ?_
      refine op_val (ex_neq (m := x_a0) (n := 2) hf rfl rfl) rfl hf rfl rfl fun a hf => ?_
      refine op_val (ex_pick_t hf rfl hc3 rfl) rfl hf rfl rfl fun a hf => ?_
      refine wpList_nil ?_
      refine nor_then ?_
      exact ⟨!(x_a0 == 2), (hf.cons rfl (hf.cons rfl (hf.cons rfl (hf.cons rfl hf.nil)))), hO, hm⟩
    · have hm := ie hc3 hm
      refine op_pass rfl hf rfl rfl (hc3) rfl rfl fun a hf => ?_
      refine op_pass rfl hf rfl rfl (hc3) rfl rfl fun a hf => ?_
      refine op_val (ex_pick_f hf rfl hc3 rfl) rfl hf rfl rfl fun a hf => ?_
      refine wpList_nil ?_
      refine nor_then ?_
      exact ⟨false, (hf.cons rfl (hf.cons rfl (hf.cons rfl (hf.cons rfl hf.nil)))), hO, hm⟩
  · rintro a w ⟨t4, hf, hO, hm⟩
    rw [ref14_Parse_j1] at hm
    refine wp_cond_cut hf rfl (fun hc5 => ?_) (fun hc5 => ?_)
    · have hm := it hc5 hm
      refine wp_seq_k fun _ hK6 => ?_
      refine wp_region_list ?_
      refine op_val (ex_build (vs := []) (v := .agg #[int 0, str [], str [], int 0, str [], int 0, .slice none 0 0]) hf rfl (by kernel_rfl)) rfl hf rfl rfl fun a hf => ?_
      refine op_storeN (i := 1) (n := 7) sz_27 rfl rfl rfl (by simp [Value.oneCell']) hf rfl rfl hO fun w hO => ?_
      have hO := hO.nilRow 86 2
      refine op_val (ex_assign hf rfl) rfl hf rfl rfl fun a hf => ?_
      refine wpList_nil ?_
      refine nor_then (hK6 _ _ ?_)
      refine wp_ret ?_
      refine ret_then ?_
      obtain rfl := Option.some.inj hm
      exact post_ret Tryz.results12 hf (.cell rfl (run_loadVarN (n := 7) (vs := [int 0, str [], str [], int 0, str [], int 0, .slice none 0 0]) ag_27 sz_27 rfl ((hO.blkSees (i := 2) rfl).cells (o := 0) (n := 7) rfl)) (.tmp rfl .nil)) ⟨none, 0, rfl, (hO.sub (.cons_cons _ (.cons _ (.cons _ .slnil))))⟩
    · have hm := ie hc5 hm
      refine wp_skip ?_
      refine nor_then (hK7 _ _ ?_)
      refine wp_seq_k fun _ hK21 => ?_
      refine wp_seq_k fun _ hK8 => ?_
      refine wp_region_list ?_
      refine op_val (ex_assign hf rfl) rfl hf rfl rfl fun a hf => ?_
      refine wpList_nil ?_
      refine nor_then (hK8 _ _ ?_)
      refine wp_block ?_
      refine wp_loop_n (fun k a w => ∃ (i9 : Int), Fits 144 [(0, int x_a0), (1, str x_a1), (4, ptr b1 0), (6, int i9)] a ∧ Dk.Own w0 [] w [.row (.slice none 0 0) 86 2 0 (cells enc_api_Field []), .blk b1 [int 0, str [], str [], int 0, str [], int 0, .slice none 0 0] 27] ∧ ref14_Parse_L2 x_a0 x_a1 k i9 = some R) ?_ fuel ?_
      · rintro n2 a w ⟨i9, hf, hO, hm⟩
        obtain _ | n2 := n2
        · rw [ref14_Parse_L2] at hm
          cases hm
        · rw [ref14_Parse_L2] at hm
          refine wp_seq_k fun _ hK12 => ?_
          refine wp_seq_k fun _ hK10 => ?_
          refine wp_region_list ?_
          refine op_val (ex_move hf rfl) rfl hf rfl rfl fun a hf => ?_
          refine op_val (ex_move hf rfl) rfl hf rfl rfl fun a hf => ?_
          refine op_val (ex_len_s (l := x_a1) Tryz.underlying9 hf rfl) rfl hf rfl rfl fun a hf => ?_
          refine op_val (ex_lss (m := i9) (n := (x_a1.length : Int)) hf rfl rfl) rfl hf rfl rfl fun a hf => ?_
          refine wpList_nil ?_
          refine nor_then (hK10 _ _ ?_)
          refine wp_cond_cut hf rfl (fun hc11 => ?_) (fun hc11 => ?_)
          · have hm := it hc11 hm
            refine wp_skip ?_
            refine nor_then (hK12 _ _ ?_)
            refine wp_seq_k fun _ hK19 => ?_
            refine wp_block ?_
            refine wp_seq_cut (fun a w => ∃ (t16 : Bool), Fits 144 [(0, int x_a0), (1, str x_a1), (4, ptr b1 0), (6, int i9), (38, .bool t16)] a ∧ Dk.Own w0 [] w [.row (.slice none 0 0) 86 2 0 (cells enc_api_Field []), .blk b1 [int 0, str [], str [], int 0, str [], int 0, .slice none 0 0] 27] ∧ ref14_Parse_j3 (ref14_Parse_L2 x_a0 x_a1 n2) i9 t16 = some R) ?_ ?_
            · refine wp_region_list ?_
              refine op_val (ex_move hf rfl) rfl hf rfl rfl fun a hf => ?_
              refine op_val (ex_move hf rfl) rfl hf rfl rfl fun a hf => ?_
              obtain ⟨b13, hb13, hm⟩ := ob hm
              refine op_val (ex_index (l := x_a1) Tryz.underlying9 hf rfl rfl hb13) rfl hf rfl rfl fun a hf => ?_
              refine op_val (ex_eql_b (b := b13) (c := 13) hf rfl rfl) rfl hf rfl rfl fun a hf => ?_
              refine op_val (ex_move hf rfl) rfl hf rfl rfl fun a hf => ?_
              rcases bcase (b13 == 13) with hc14 | hc14
              · have hm := it hc14 hm
                refine op_pass rfl hf rfl rfl (hc14) rfl rfl fun a hf => ?_
                refine op_pass rfl hf rfl rfl (hc14) rfl rfl fun a hf => ?_
                refine op_pass rfl hf rfl rfl (hc14) rfl rfl fun a hf => ?_
                refine op_pass rfl hf rfl rfl (hc14) rfl rfl fun a hf => ?_
                refine op_val (ex_pick_t hf rfl hc14 rfl) rfl hf rfl rfl fun a hf => ?_
                refine wpList_nil ?_
                refine nor_then ?_
                exact ⟨true, (hf.cons rfl (hf.cons rfl (hf.cons rfl (hf.cons rfl (hf.cons rfl hf.nil))))), hO, hm⟩
              · have hm := ie hc14 hm
                refine op_guard rfl hf rfl rfl (hc14) ?_
                refine op_val (ex_move hf rfl) rfl hf rfl rfl fun a hf => ?_
                refine op_guard rfl hf rfl rfl (hc14) ?_
                refine op_val (ex_move hf rfl) rfl hf rfl rfl fun a hf => ?_
                refine op_guard rfl hf rfl rfl (hc14) ?_
                obtain ⟨b15, hb15, hm⟩ := ob hm
                refine op_val (ex_index (l := x_a1) Tryz.underlying9 hf rfl rfl hb15) rfl hf rfl rfl fun a hf => ?_
                refine op_guard rfl hf rfl rfl (hc14) ?_
                refine op_val (ex_eql_b (b := b15) (c := 10) hf rfl rfl) rfl hf rfl rfl fun a hf => ?_
                refine op_val (ex_pick_f hf rfl hc14 rfl) rfl hf rfl rfl fun a hf => ?_
                refine wpList_nil ?_
                refine nor_then ?_
                exact ⟨b15 == 10, (hf.cons rfl (hf.cons rfl (hf.cons rfl (hf.cons rfl (hf.cons rfl hf.nil))))), hO, hm⟩
            · rintro a w ⟨t16, hf, hO, hm⟩
              rw [ref14_Parse_j3] at hm
              refine wp_cond_cut hf rfl (fun hc17 => ?_) (fun hc17 => ?_)
              · have hm := it hc17 hm
                refine wp_seq_k fun _ hK18 => ?_
                refine wp_region_list ?_
                refine op_val (ex_build (vs := []) (v := .agg #[int 0, str [], str [], int 0, str [], int 0, .slice none 0 0]) hf rfl (by kernel_rfl)) rfl hf rfl rfl fun a hf => ?_
                refine op_storeN (i := 1) (n := 7) sz_27 rfl rfl rfl (by simp [Value.oneCell']) hf rfl rfl hO fun w hO => ?_
                have hO := hO.nilRow 86 2
                refine op_val (ex_assign hf rfl) rfl hf rfl rfl fun a hf => ?_
                refine wpList_nil ?_
                refine nor_then (hK18 _ _ ?_)
                refine wp_ret ?_
                refine ret_block ?_
                refine ret_then ?_
                refine ret_then ?_
                refine ret_block ?_
                refine ret_then ?_
                obtain rfl := Option.some.inj hm
                exact post_ret Tryz.results12 hf (.cell rfl (run_loadVarN (n := 7) (vs := [int 0, str [], str [], int 0, str [], int 0, .slice none 0 0]) ag_27 sz_27 rfl ((hO.blkSees (i := 2) rfl).cells (o := 0) (n := 7) rfl)) (.tmp rfl .nil)) ⟨none, 0, rfl, (hO.sub (.cons_cons _ (.cons _ (.cons _ .slnil))))⟩
              · have hm := ie hc17 hm
                refine wp_skip ?_
                refine nor_block ?_
                refine nor_then (hK19 _ _ ?_)
                refine wp_region_list ?_
                refine op_val (ex_move hf rfl) rfl hf rfl rfl fun a hf => ?_
                obtain ⟨i20, hi20, hm⟩ := ob hm
                refine op_val (ex_add hf rfl rfl hi20) rfl hf rfl rfl fun a hf => ?_
                refine op_val (ex_assign hf rfl) rfl hf rfl rfl fun a hf => ?_
                refine wpList_nil ?_
                refine nor_then ?_
                exact ⟨_, Nat.lt_succ_self _, i20, (hf.cons rfl (hf.cons rfl (hf.cons rfl (hf.cons rfl hf.nil)))), hO, hm⟩
          · have hm := ie hc11 hm
            refine wp_exit ?_
            refine exit_then ?_
            refine exit_then ?_
            refine exit_here ?_
            refine nor_then (hK21 _ _ ?_)
            refine wp_seq_k fun _ hK25 => ?_
            refine wp_region_list ?_
            refine op_val (ex_move hf rfl) rfl hf rfl rfl fun a hf => ?_
            obtain ⟨r22, hr22, hm⟩ := ob hm
            refine op_enter (ex_call c_37 hf (vs := [str x_a1, byte 32]) rfl) rfl hf rfl rfl (w_ref08_Parts x_a1 32 r22 _ (hG.own hF hO) hr22) ?_
            rintro e w' ⟨p23, c24, he, hO'⟩
            refine ⟨_, he, fun a hf => ?_⟩
            have hO := hO.call hO' (by simp [Res.shared])
            refine op_val (ex_assign hf rfl) rfl hf rfl rfl fun a hf => ?_
            refine wpList_nil ?_
            refine nor_then (hK25 _ _ ?_)
            refine wp_seq_k fun _ hK68 => ?_
            refine wp_seq_k fun _ hK26 => ?_
            refine wp_region_list ?_
            refine op_val (ex_move hf rfl) rfl hf rfl rfl fun a hf => ?_
            refine op_val (ex_eql (m := x_a0) (n := 1) hf rfl rfl) rfl hf rfl rfl fun a hf => ?_
            refine wpList_nil ?_
            refine nor_then (hK26 _ _ ?_)
            refine wp_cond_cut hf rfl (fun hc27 => ?_) (fun hc27 => ?_)
            · have hm := it hc27 hm
              refine wp_seq_k fun _ hK33 => ?_
              refine wp_region_list ?_
              refine op_val (ex_move hf rfl) rfl hf rfl rfl fun a hf => ?_
              refine op_val (ex_move hf rfl) rfl hf rfl rfl fun a hf => ?_
              refine op_val (ex_len_l Tryz.underlying40 hf rfl) rfl hf rfl rfl fun a hf => ?_
              obtain ⟨i28, hi28, hm⟩ := ob hm
              refine op_val (ex_sub hf rfl rfl hi28) rfl hf rfl rfl fun a hf => ?_
              obtain ⟨x29, hx29, hm⟩ := ob hm
              obtain ⟨b30, o31, hix29, hSx29, hAx29⟩ := elemAtRow (enc := enc_str) (sz := 1) (xs := r22) 40 Tryz.underlying40 sz_9 (by decide) (fun _ => rfl) hO (i := 0) rfl hx29
              refine op_val (ex_indexAddr hix29 hf rfl rfl) rfl hf rfl rfl fun a hf => ?_
              refine op_val (ex_load1 (o := 0) ag_9 (hSx29 _ (hO.rowSees (i := 0) rfl)) rfl hf rfl) rfl hf rfl rfl fun a hf => ?_
              obtain ⟨r32, hr32, hm⟩ := ob hm
              refine op_enter (ex_call c_38 hf (vs := [str x29]) rfl) rfl hf rfl rfl (w_ref14_Version x29 r32 _ (hG.own hF hO) hr32) ?_
              rintro e w' ⟨he, hb⟩
              refine ⟨_, he, fun a hf => ?_⟩
              have hO := hO.grow hb
              refine op_val (ex_assign hf rfl) rfl hf rfl rfl fun a hf => ?_
              refine wpList_nil ?_
              refine nor_then (hK33 _ _ ?_)
              refine wp_seq_k fun _ hK37 => ?_
              refine wp_seq_k fun _ hK34 => ?_
              refine wp_region_list ?_
              refine op_val (ex_move hf rfl) rfl hf rfl rfl fun a hf => ?_
              refine op_val (ex_eql (m := r32) (n := 2) hf rfl rfl) rfl hf rfl rfl fun a hf => ?_
              refine wpList_nil ?_
              refine nor_then (hK34 _ _ ?_)
              refine wp_cond_cut hf rfl (fun hc35 => ?_) (fun hc35 => ?_)
              · have hm := it hc35 hm
                refine wp_seq_k fun _ hK36 => ?_
                refine wp_region_list ?_
                refine op_val (ex_build (vs := []) (v := .agg #[int 0, str [], str [], int 0, str [], int 0, .slice none 0 0]) hf rfl (by kernel_rfl)) rfl hf rfl rfl fun a hf => ?_
                refine op_storeN (i := 2) (n := 7) sz_27 rfl rfl rfl (by simp [Value.oneCell']) hf rfl rfl hO fun w hO => ?_
                have hO := hO.nilRow 86 2
                refine op_val (ex_assign hf rfl) rfl hf rfl rfl fun a hf => ?_
                refine wpList_nil ?_
                refine nor_then (hK36 _ _ ?_)
                refine wp_ret ?_
                refine ret_then ?_
                refine ret_then ?_
                obtain rfl := Option.some.inj hm
                exact post_ret Tryz.results12 hf (.cell rfl (run_loadVarN (n := 7) (vs := [int 0, str [], str [], int 0, str [], int 0, .slice none 0 0]) ag_27 sz_27 rfl ((hO.blkSees (i := 3) rfl).cells (o := 0) (n := 7) rfl)) (.tmp rfl .nil)) ⟨none, 0, rfl, (hO.sub (.cons_cons _ (.cons _ (.cons _ (.cons _ .slnil)))))⟩
              · have hm := ie hc35 hm
                refine wp_skip ?_
                refine nor_then (hK37 _ _ ?_)
                refine wp_seq_k fun _ hK47 => ?_
                refine wp_seq_cut (fun a w => ∃ (t44 : Bool), Fits 144 [(4, ptr b1 0), (7, .slice p23 r22.length c24), (8, int r32), (67, .bool t44)] a ∧ Dk.Own w0 [] w [.row (.slice p23 r22.length c24) 9 1 r22.length (cells enc_str r22), .row (.slice none 0 0) 86 2 0 (cells enc_api_Field []), .blk b1 [int 0, str [], str [], int 0, str [], int 0, .slice none 0 0] 27] ∧ ref14_Parse_j4 r22 r32 t44 = some R) ?_ ?_
                · refine wp_region_list ?_
                  refine op_val (ex_move hf rfl) rfl hf rfl rfl fun a hf => ?_
                  refine op_val (ex_len_l Tryz.underlying40 hf rfl) rfl hf rfl rfl fun a hf => ?_
                  refine op_val (ex_neq (m := (r22.length : Int)) (n := 3) hf rfl rfl) rfl hf rfl rfl fun a hf => ?_
                  refine op_val (ex_move hf rfl) rfl hf rfl rfl fun a hf => ?_
                  rcases bcase (!((r22.length : Int) == 3)) with hc38 | hc38
                  · have hm := it hc38 hm
                    refine op_pass rfl hf rfl rfl (hc38) rfl rfl fun a hf => ?_
                    refine op_pass rfl hf rfl rfl (hc38) rfl rfl fun a hf => ?_
                    refine op_val (ex_pick_t hf rfl hc38 rfl) rfl hf rfl rfl fun a hf => ?_
                    refine op_val (ex_move hf rfl) rfl hf rfl rfl fun a hf => ?_
                    refine op_pass rfl hf rfl rfl (rfl) rfl rfl fun a hf => ?_
                    refine op_pass rfl hf rfl rfl (rfl) rfl rfl fun a hf => ?_
                    refine op_pass rfl hf rfl rfl (rfl) rfl rfl fun a hf => ?_
                    refine op_pass rfl hf rfl rfl (rfl) rfl rfl fun a hf => ?_
                    refine op_pass rfl hf rfl rfl (rfl) rfl rfl fun a hf => ?_
                    refine op_val (ex_pick_t hf rfl rfl rfl) rfl hf rfl rfl fun a hf => ?_
                    refine wpList_nil ?_
                    refine nor_then ?_
                    exact ⟨true, (hf.cons rfl (hf.cons rfl (hf.cons rfl (hf.cons rfl hf.nil)))), hO, hm⟩
                  · have hm := ie hc38 hm
                    refine op_guard rfl hf rfl rfl (hc38) ?_
                    refine op_val (ex_move hf rfl) rfl hf rfl rfl fun a hf => ?_
                    refine op_guard rfl hf rfl rfl (hc38) ?_
                    refine op_val (ex_lss (m := r32) (n := 0) hf rfl rfl) rfl hf rfl rfl fun a hf => ?_
                    refine op_val (ex_pick_f hf rfl hc38 rfl) rfl hf rfl rfl fun a hf => ?_
                    refine op_val (ex_move hf rfl) rfl hf rfl rfl fun a hf => ?_
                    rcases bcase (decide (r32 < 0)) with hc39 | hc39
                    · have hm := it hc39 hm
                      refine op_pass rfl hf rfl rfl (hc39) rfl rfl fun a hf => ?_
                      refine op_pass rfl hf rfl rfl (hc39) rfl rfl fun a hf => ?_
                      refine op_pass rfl hf rfl rfl (hc39) rfl rfl fun a hf => ?_
                      refine op_pass rfl hf rfl rfl (hc39) rfl rfl fun a hf => ?_
                      refine op_pass rfl hf rfl rfl (hc39) rfl rfl fun a hf => ?_
                      refine op_val (ex_pick_t hf rfl hc39 rfl) rfl hf rfl rfl fun a hf => ?_
                      refine wpList_nil ?_
                      refine nor_then ?_
                      exact ⟨true, (hf.cons rfl (hf.cons rfl (hf.cons rfl (hf.cons rfl hf.nil)))), hO, hm⟩
                    · have hm := ie hc39 hm
                      refine op_guard rfl hf rfl rfl (hc39) ?_
                      refine op_val (ex_move hf rfl) rfl hf rfl rfl fun a hf => ?_
                      refine op_guard rfl hf rfl rfl (hc39) ?_
                      obtain ⟨x40, hx40, hm⟩ := ob hm
                      obtain ⟨b41, o42, hix40, hSx40, hAx40⟩ := elemAtRow (enc := enc_str) (sz := 1) (xs := r22) 40 Tryz.underlying40 sz_9 (by decide) (fun _ => rfl) hO (i := 0) rfl hx40
                      refine op_val (ex_indexAddr hix40 hf rfl rfl) rfl hf rfl rfl fun a hf => ?_
                      refine op_guard rfl hf rfl rfl (hc39) ?_
                      refine op_val (ex_load1 (o := 0) ag_9 (hSx40 _ (hO.rowSees (i := 0) rfl)) rfl hf rfl) rfl hf rfl rfl fun a hf => ?_
                      refine op_guard rfl hf rfl rfl (hc39) ?_
                      obtain ⟨r43, hr43, hm⟩ := ob hm
                      refine op_enter (ex_call c_39 hf (vs := [str x40]) rfl) rfl hf rfl rfl (w_ref01_Token x40 r43 _ (hG.own hF hO) hr43) ?_
                      rintro e w' ⟨he, hb⟩
                      refine ⟨_, he, fun a hf => ?_⟩
                      have hO := hO.grow hb
                      refine op_guard rfl hf rfl rfl (hc39) ?_
                      refine op_val (ex_not hf rfl) rfl hf rfl rfl fun a hf => ?_
                      refine op_val (ex_pick_f hf rfl hc39 rfl) rfl hf rfl rfl fun a hf => ?_
                      refine wpList_nil ?_
                      refine nor_then ?_
                      exact ⟨!r43, (hf.cons rfl (hf.cons rfl (hf.cons rfl (hf.cons rfl hf.nil)))), hO, hm⟩
                · rintro a w ⟨t44, hf, hO, hm⟩
                  rw [ref14_Parse_j4] at hm
                  refine wp_cond_cut hf rfl (fun hc45 => ?_) (fun hc45 => ?_)
                  · have hm := it hc45 hm
                    refine wp_seq_k fun _ hK46 => ?_
                    refine wp_region_list ?_
                    refine op_val (ex_build (vs := []) (v := .agg #[int 0, str [], str [], int 0, str [], int 0, .slice none 0 0]) hf rfl (by kernel_rfl)) rfl hf rfl rfl fun a hf => ?_
                    refine op_storeN (i := 2) (n := 7) sz_27 rfl rfl rfl (by simp [Value.oneCell']) hf rfl rfl hO fun w hO => ?_
                    have hO := hO.nilRow 86 2
                    refine op_val (ex_assign hf rfl) rfl hf rfl rfl fun a hf => ?_
                    refine wpList_nil ?_
                    refine nor_then (hK46 _ _ ?_)
                    refine wp_ret ?_
                    refine ret_then ?_
                    refine ret_then ?_
                    obtain rfl := Option.some.inj hm
                    exact post_ret Tryz.results12 hf (.cell rfl (run_loadVarN (n := 7) (vs := [int 0, str [], str [], int 0, str [], int 0, .slice none 0 0]) ag_27 sz_27 rfl ((hO.blkSees (i := 3) rfl).cells (o := 0) (n := 7) rfl)) (.tmp rfl .nil)) ⟨none, 0, rfl, (hO.sub (.cons_cons _ (.cons _ (.cons _ (.cons _ .slnil)))))⟩
                  · have hm := ie hc45 hm
                    refine wp_skip ?_
                    refine nor_then (hK47 _ _ ?_)
                    refine wp_seq_k fun _ hK56 => ?_
                    obtain ⟨x48, hx48, hm⟩ := ob hm
                    obtain ⟨b49, o50, hix48, hSx48, hAx48⟩ := elemAtRow (enc := enc_str) (sz := 1) (xs := r22) 40 Tryz.underlying40 sz_9 (by decide) (fun _ => rfl) hO (i := 0) rfl hx48
                    obtain ⟨x51, hx51, hm⟩ := ob hm
                    obtain ⟨b52, o53, hix51, hSx51, hAx51⟩ := elemAtRow (enc := enc_str) (sz := 1) (xs := r22) 40 Tryz.underlying40 sz_9 (by decide) (fun _ => rfl) hO (i := 0) rfl hx51
                    obtain ⟨r54, hr54, hm⟩ := ob hm
                    refine wp_drawS' (S := Nat) (E0 := [(4, ptr b1 0), (7, .slice p23 r22.length c24), (8, int r32)]) (by kernel_rfl) (fun k σ w => match k with | 0 => Dk.Own w0 [] w [.row (.slice p23 r22.length c24) 9 1 r22.length (cells enc_str r22), .row (.slice none 0 0) 86 2 0 (cells enc_api_Field []), .blk b1 [int 0, str [], str [], int 0, str [], int 0, .slice none 0 0] 27] | 1 => Dk.Own w0 [] w [.blk σ [int 0, str [], int 0, str [], int 0, str [], str [], .bool false] 75, .row (.slice p23 r22.length c24) 9 1 r22.length (cells enc_str r22), .row (.slice none 0 0) 86 2 0 (cells enc_api_Field []), .blk b1 [int 0, str [], str [], int 0, str [], int 0, .slice none 0 0] 27] | _ => Dk.Own w0 [] w [.blk σ [int r54.1.Kind, str r54.1.Scheme, int r54.1.Host.Kind, str r54.1.Host.Name, int r54.1.Host.Port, str r54.1.Path, str r54.1.Query, .bool r54.1.HasQuery] 75, .row (.slice p23 r22.length c24) 9 1 r22.length (cells enc_str r22), .row (.slice none 0 0) 86 2 0 (cells enc_api_Field []), .blk b1 [int 0, str [], str [], int 0, str [], int 0, .slice none 0 0] 27]) (fun σ => [⟨[(7, .slice p23 r22.length c24)], some (70, .slice p23 r22.length c24)⟩, ⟨[(70, .slice p23 r22.length c24)], some (71, ptr b49 o50)⟩, ⟨[(71, ptr b49 o50)], some (72, str x48)⟩, ⟨[(7, .slice p23 r22.length c24)], some (73, .slice p23 r22.length c24)⟩, ⟨[(73, .slice p23 r22.length c24)], some (74, ptr b52 o53)⟩, ⟨[(74, ptr b52 o53)], some (75, str x51)⟩, ⟨[(72, str x48), (75, str x51)], some (76, .tuple #[.agg #[int r54.1.Kind, str r54.1.Scheme, int r54.1.Host.Kind, str r54.1.Host.Name, int r54.1.Host.Port, str r54.1.Path, str r54.1.Query, .bool r54.1.HasQuery], int r54.2])⟩, ⟨[(76, .tuple #[.agg #[int r54.1.Kind, str r54.1.Scheme, int r54.1.Host.Kind, str r54.1.Host.Name, int r54.1.Host.Port, str r54.1.Path, str r54.1.Query, .bool r54.1.HasQuery], int r54.2])], some (69, .tuple #[.agg #[int r54.1.Kind, str r54.1.Scheme, int r54.1.Host.Kind, str r54.1.Host.Name, int r54.1.Host.Port, str r54.1.Path, str r54.1.Query, .bool r54.1.HasQuery], int r54.2])⟩, ⟨[(69, .tuple #[.agg #[int r54.1.Kind, str r54.1.Scheme, int r54.1.Host.Kind, str r54.1.Host.Name, int r54.1.Host.Port, str r54.1.Path, str r54.1.Query, .bool r54.1.HasQuery], int r54.2])], some (77, .agg #[int r54.1.Kind, str r54.1.Scheme, int r54.1.Host.Kind, str r54.1.Host.Name, int r54.1.Host.Port, str r54.1.Path, str r54.1.Query, .bool r54.1.HasQuery])⟩, ⟨[(69, .tuple #[.agg #[int r54.1.Kind, str r54.1.Scheme, int r54.1.Host.Kind, str r54.1.Host.Name, int r54.1.Host.Port, str r54.1.Path, str r54.1.Query, .bool r54.1.HasQuery], int r54.2])], some (78, int r54.2)⟩, ⟨[], some (9, ptr σ 0)⟩, ⟨[(9, ptr σ 0), (77, .agg #[int r54.1.Kind, str r54.1.Scheme, int r54.1.Host.Kind, str r54.1.Host.Name, int r54.1.Host.Port, str r54.1.Path, str r54.1.Query, .bool r54.1.HasQuery])], none⟩, ⟨[(78, int r54.2)], some (10, int r54.2)⟩]) (0) [10, 11] rfl (fun _ => rfl) (fun _ => rfl) (fun _ => rfl) rfl rfl (by decide) rfl hO.drew (hf.cons rfl (hf.cons rfl (hf.cons rfl hf.nil))) (fun σ => ⟨⟨rfl, trivial⟩, ⟨⟨rfl, trivial⟩, ⟨⟨rfl, trivial⟩, ⟨⟨rfl, trivial⟩, ⟨⟨rfl, trivial⟩, ⟨⟨rfl, trivial⟩, ⟨⟨rfl, ⟨rfl, trivial⟩⟩, ⟨⟨rfl, trivial⟩, ⟨⟨rfl, trivial⟩, ⟨⟨rfl, trivial⟩, ⟨trivial, ⟨⟨rfl, ⟨rfl, trivial⟩⟩, ⟨⟨rfl, trivial⟩, trivial⟩⟩⟩⟩⟩⟩⟩⟩⟩⟩⟩⟩⟩) ⟨sS_pure rfl (fun σ => rfl) (fun σ => rfl) (fun σ a w k _ _ _ _ hf => ex_move hf rfl), ⟨sS_pure rfl (fun σ => rfl) (fun σ => rfl) (fun σ a w k _ _ _ _ hf => ex_indexAddr hix48 hf rfl rfl), ⟨sS_pure rfl (fun σ => rfl) (fun σ => rfl) (fun σ a w k hk hlo hup hst hf => match k, hk, hlo, hup, hst, hf with | 0, _, _, _, hst, hf => have hO : Dk.Own w0 [] w [.row (.slice p23 r22.length c24) 9 1 r22.length (cells enc_str r22), .row (.slice none 0 0) 86 2 0 (cells enc_api_Field []), .blk b1 [int 0, str [], str [], int 0, str [], int 0, .slice none 0 0] 27] := hst; ex_load1 (o := 0) ag_9 (hSx48 _ (hO.rowSees (i := 0) rfl)) rfl hf rfl | 1, _, _, _, hst, hf => have hO : Dk.Own w0 [] w [.blk σ [int 0, str [], int 0, str [], int 0, str [], str [], .bool false] 75, .row (.slice p23 r22.length c24) 9 1 r22.length (cells enc_str r22), .row (.slice none 0 0) 86 2 0 (cells enc_api_Field []), .blk b1 [int 0, str [], str [], int 0, str [], int 0, .slice none 0 0] 27] := hst; ex_load1 (o := 0) ag_9 (hSx48 _ (hO.rowSees (i := 1) rfl)) rfl hf rfl | 2, _, _, _, hst, hf => have hO : Dk.Own w0 [] w [.blk σ [int r54.1.Kind, str r54.1.Scheme, int r54.1.Host.Kind, str r54.1.Host.Name, int r54.1.Host.Port, str r54.1.Path, str r54.1.Query, .bool r54.1.HasQuery] 75, .row (.slice p23 r22.length c24) 9 1 r22.length (cells enc_str r22), .row (.slice none 0 0) 86 2 0 (cells enc_api_Field []), .blk b1 [int 0, str [], str [], int 0, str [], int 0, .slice none 0 0] 27] := hst; ex_load1 (o := 0) ag_9 (hSx48 _ (hO.rowSees (i := 1) rfl)) rfl hf rfl | k + 3, hk, _, _, _, _ => absurd hk (by simp)), ⟨sS_pure rfl (fun σ => rfl) (fun σ => rfl) (fun σ a w k _ _ _ _ hf => ex_move hf rfl), ⟨sS_pure rfl (fun σ => rfl) (fun σ => rfl) (fun σ a w k _ _ _ _ hf => ex_indexAddr hix51 hf rfl rfl), ⟨sS_pure rfl (fun σ => rfl) (fun σ => rfl) (fun σ a w k hk hlo hup hst hf => match k, hk, hlo, hup, hst, hf with | 0, _, _, _, hst, hf => have hO : Dk.Own w0 [] w [.row (.slice p23 r22.length c24) 9 1 r22.length (cells enc_str r22), .row (.slice none 0 0) 86 2 0 (cells enc_api_Field []), .blk b1 [int 0, str [], str [], int 0, str [], int 0, .slice none 0 0] 27] := hst; ex_load1 (o := 0) ag_9 (hSx51 _ (hO.rowSees (i := 0) rfl)) rfl hf rfl | 1, _, _, _, hst, hf => have hO : Dk.Own w0 [] w [.blk σ [int 0, str [], int 0, str [], int 0, str [], str [], .bool false] 75, .row (.slice p23 r22.length c24) 9 1 r22.length (cells enc_str r22), .row (.slice none 0 0) 86 2 0 (cells enc_api_Field []), .blk b1 [int 0, str [], str [], int 0, str [], int 0, .slice none 0 0] 27] := hst; ex_load1 (o := 0) ag_9 (hSx51 _ (hO.rowSees (i := 1) rfl)) rfl hf rfl | 2, _, _, _, hst, hf => have hO : Dk.Own w0 [] w [.blk σ [int r54.1.Kind, str r54.1.Scheme, int r54.1.Host.Kind, str r54.1.Host.Name, int r54.1.Host.Port, str r54.1.Path, str r54.1.Query, .bool r54.1.HasQuery] 75, .row (.slice p23 r22.length c24) 9 1 r22.length (cells enc_str r22), .row (.slice none 0 0) 86 2 0 (cells enc_api_Field []), .blk b1 [int 0, str [], str [], int 0, str [], int 0, .slice none 0 0] 27] := hst; ex_load1 (o := 0) ag_9 (hSx51 _ (hO.rowSees (i := 1) rfl)) rfl hf rfl | k + 3, hk, _, _, _, _ => absurd hk (by simp)), ⟨sS_grow rfl (fun σ => rfl) (fun σ => rfl) (fun σ a w hf => ex_call c_40 hf (vs := [str x48, str x51]) rfl) (fun σ w k hk hlo hup hst => match k, hk, hlo, hup, hst with | 0, _, _, _, hst => have hO : Dk.Own w0 [] w [.row (.slice p23 r22.length c24) 9 1 r22.length (cells enc_str r22), .row (.slice none 0 0) 86 2 0 (cells enc_api_Field []), .blk b1 [int 0, str [], str [], int 0, str [], int 0, .slice none 0 0] 27] := hst; (w_ref10_Parse x48 x51 r54 _ (hG.own hF hO) hr54).mono fun e w' h => ⟨h.1, hO.grow h.2⟩ | 1, _, _, _, hst => have hO : Dk.Own w0 [] w [.blk σ [int 0, str [], int 0, str [], int 0, str [], str [], .bool false] 75, .row (.slice p23 r22.length c24) 9 1 r22.length (cells enc_str r22), .row (.slice none 0 0) 86 2 0 (cells enc_api_Field []), .blk b1 [int 0, str [], str [], int 0, str [], int 0, .slice none 0 0] 27] := hst; (w_ref10_Parse x48 x51 r54 _ (hG.own hF hO) hr54).mono fun e w' h => ⟨h.1, hO.grow h.2⟩ | 2, _, _, hup, _ => absurd (hup 1 (by decide) (by kernel_rfl)) (by decide) | k + 3, hk, _, _, _ => absurd hk (by simp)), ⟨sS_pure rfl (fun σ => rfl) (fun σ => rfl) (fun σ a w k _ _ _ _ hf => ex_move hf rfl), ⟨sS_pure rfl (fun σ => rfl) (fun σ => rfl) (fun σ a w k _ _ _ _ hf => ex_extract hf rfl rfl), ⟨sS_pure rfl (fun σ => rfl) (fun σ => rfl) (fun σ a w k _ _ _ _ hf => ex_extract hf rfl rfl), ⟨sS_val rfl (fun σ => rfl) (fun σ => rfl) rfl (fun σ w (hO : Dk.Own w0 [] w [.row (.slice p23 r22.length c24) 9 1 r22.length (cells enc_str r22), .row (.slice none 0 0) 86 2 0 (cells enc_api_Field []), .blk b1 [int 0, str [], str [], int 0, str [], int 0, .slice none 0 0] 27]) => by obtain ⟨b55, w', hO', hr⟩ := ef_alloc (E := []) al_75 hO; exact ⟨(b55), w', hO', ⟨.inr rfl, ⟨.inr rfl, ⟨.inr rfl, ⟨.inr rfl, ⟨.inr rfl, ⟨.inr rfl, ⟨.inr rfl, ⟨.inr rfl, ⟨.inr rfl, ⟨.inr rfl, ⟨.inl rfl, ⟨.inl rfl, ⟨.inr rfl, trivial⟩⟩⟩⟩⟩⟩⟩⟩⟩⟩⟩⟩⟩, hr⟩), ⟨sS_skip rfl (fun σ => rfl) (fun σ => rfl) rfl (fun σ w (hO : Dk.Own w0 [] w [.blk σ [int 0, str [], int 0, str [], int 0, str [], str [], .bool false] 75, .row (.slice p23 r22.length c24) 9 1 r22.length (cells enc_str r22), .row (.slice none 0 0) 86 2 0 (cells enc_api_Field []), .blk b1 [int 0, str [], str [], int 0, str [], int 0, .slice none 0 0] 27]) => by obtain ⟨w', hO', hr⟩ := ef_storeN (x := (.tmp 9)) (y := (.tmp 77)) (E := [(9, ptr σ 0), (77, .agg #[int r54.1.Kind, str r54.1.Scheme, int r54.1.Host.Kind, str r54.1.Host.Name, int r54.1.Host.Port, str r54.1.Path, str r54.1.Query, .bool r54.1.HasQuery])]) (i := 0) (n := 8) (vs := [int r54.1.Kind, str r54.1.Scheme, int r54.1.Host.Kind, str r54.1.Host.Name, int r54.1.Host.Port, str r54.1.Path, str r54.1.Query, .bool r54.1.HasQuery]) sz_75 rfl rfl rfl (by simp [Value.oneCell']) hO rfl rfl; exact ⟨(σ), w', hO', ⟨.inr rfl, ⟨.inr rfl, ⟨.inr rfl, ⟨.inr rfl, ⟨.inr rfl, ⟨.inr rfl, ⟨.inr rfl, ⟨.inr rfl, ⟨.inr rfl, ⟨.inr rfl, ⟨.inr rfl, ⟨.inr rfl, ⟨.inr rfl, trivial⟩⟩⟩⟩⟩⟩⟩⟩⟩⟩⟩⟩⟩, hr⟩), ⟨sS_pure rfl (fun σ => rfl) (fun σ => rfl) (fun σ a w k _ _ _ _ hf => ex_assign hf rfl), trivial⟩⟩⟩⟩⟩⟩⟩⟩⟩⟩⟩⟩⟩ ?_
                    rintro b55 a w hf hO
                    have hO : Dk.Own w0 [] w [.blk b55 [int r54.1.Kind, str r54.1.Scheme, int r54.1.Host.Kind, str r54.1.Host.Name, int r54.1.Host.Port, str r54.1.Path, str r54.1.Query, .bool r54.1.HasQuery] 75, .row (.slice p23 r22.length c24) 9 1 r22.length (cells enc_str r22), .row (.slice none 0 0) 86 2 0 (cells enc_api_Field []), .blk b1 [int 0, str [], str [], int 0, str [], int 0, .slice none 0 0] 27] := hO
                    have hf : Fits 144 [(4, ptr b1 0), (7, .slice p23 r22.length c24), (8, int r32), (10, int r54.2)] a := (hf.cons rfl (hf.cons rfl (hf.cons rfl (hf.cons rfl hf.nil))))
                    refine nor_then (hK56 _ _ ?_)
                    refine wp_seq_k fun _ hK60 => ?_
                    refine wp_seq_k fun _ hK57 => ?_
                    refine wp_region_list ?_
                    refine op_val (ex_move hf rfl) rfl hf rfl rfl fun a hf => ?_
                    refine op_val (ex_neq (m := r54.2) (n := 0) hf rfl rfl) rfl hf rfl rfl fun a hf => ?_
                    refine wpList_nil ?_
                    refine nor_then (hK57 _ _ ?_)
                    refine wp_cond_cut hf rfl (fun hc58 => ?_) (fun hc58 => ?_)
                    · have hm := it hc58 hm
                      refine wp_seq_k fun _ hK59 => ?_
                      refine wp_region_list ?_
                      refine op_val (ex_build (vs := []) (v := .agg #[int 0, str [], str [], int 0, str [], int 0, .slice none 0 0]) hf rfl (by kernel_rfl)) rfl hf rfl rfl fun a hf => ?_
                      refine op_storeN (i := 3) (n := 7) sz_27 rfl rfl rfl (by simp [Value.oneCell']) hf rfl rfl hO fun w hO => ?_
                      have hO := hO.nilRow 86 2
                      refine op_val (ex_assign hf rfl) rfl hf rfl rfl fun a hf => ?_
                      refine wpList_nil ?_
                      refine nor_then (hK59 _ _ ?_)
                      refine wp_ret ?_
                      refine ret_then ?_
                      refine ret_then ?_
                      obtain rfl := Option.some.inj hm
                      exact post_ret Tryz.results12 hf (.cell rfl (run_loadVarN (n := 7) (vs := [int 0, str [], str [], int 0, str [], int 0, .slice none 0 0]) ag_27 sz_27 rfl ((hO.blkSees (i := 4) rfl).cells (o := 0) (n := 7) rfl)) (.tmp rfl .nil)) ⟨none, 0, rfl, (hO.sub (.cons_cons _ (.cons _ (.cons _ (.cons _ (.cons _ .slnil))))))⟩
                    · have hm := ie hc58 hm
                      refine wp_skip ?_
                      refine nor_then (hK60 _ _ ?_)
                      refine wp_seq_k fun _ hK67 => ?_
                      obtain ⟨x61, hx61, hm⟩ := ob hm
                      obtain ⟨b62, o63, hix61, hSx61, hAx61⟩ := elemAtRow (enc := enc_str) (sz := 1) (xs := r22) 40 Tryz.underlying40 sz_9 (by decide) (fun _ => rfl) hO (i := 1) rfl hx61
                      obtain ⟨x64, hx64, hm⟩ := ob hm
                      obtain ⟨b65, o66, hix64, hSx64, hAx64⟩ := elemAtRow (enc := enc_str) (sz := 1) (xs := r22) 40 Tryz.underlying40 sz_9 (by decide) (fun _ => rfl) hO (i := 1) rfl hx64
                      refine wp_drawS' (S := Unit) (E0 := [(4, ptr b1 0), (7, .slice p23 r22.length c24), (8, int r32)]) (by kernel_rfl) (fun k σ w => match k with | 0 => Dk.Own w0 [] w [.blk b55 [int r54.1.Kind, str r54.1.Scheme, int r54.1.Host.Kind, str r54.1.Host.Name, int r54.1.Host.Port, str r54.1.Path, str r54.1.Query, .bool r54.1.HasQuery] 75, .row (.slice p23 r22.length c24) 9 1 r22.length (cells enc_str r22), .row (.slice none 0 0) 86 2 0 (cells enc_api_Field []), .blk b1 [int 0, str [], str [], int 0, str [], int 0, .slice none 0 0] 27] | _ => Dk.Own w0 [] w [.blk b55 [int r54.1.Kind, str r54.1.Scheme, int r54.1.Host.Kind, str r54.1.Host.Name, int r54.1.Host.Port, str r54.1.Path, str r54.1.Query, .bool r54.1.HasQuery] 75, .row (.slice p23 r22.length c24) 9 1 r22.length (cells enc_str r22), .row (.slice none 0 0) 86 2 0 (cells enc_api_Field []), .blk b1 [int 1, str x61, str x64, int 0, str [], int r32, .slice none 0 0] 27]) (fun σ => [⟨[(7, .slice p23 r22.length c24)], some (82, .slice p23 r22.length c24)⟩, ⟨[(82, .slice p23 r22.length c24)], some (83, ptr b62 o63)⟩, ⟨[(83, ptr b62 o63)], some (84, str x61)⟩, ⟨[(7, .slice p23 r22.length c24)], some (85, .slice p23 r22.length c24)⟩, ⟨[(85, .slice p23 r22.length c24)], some (86, ptr b65 o66)⟩, ⟨[(86, ptr b65 o66)], some (87, str x64)⟩, ⟨[(8, int r32)], some (88, int r32)⟩, ⟨[(84, str x61), (87, str x64), (88, int r32)], some (89, .agg #[int 1, str x61, str x64, int 0, str [], int r32, .slice none 0 0])⟩, ⟨[(4, ptr b1 0), (89, .agg #[int 1, str x61, str x64, int 0, str [], int r32, .slice none 0 0])], none⟩, ⟨[], some (5, int 0)⟩]) () [8] rfl (fun _ => rfl) (fun _ => rfl) (fun _ => rfl) rfl rfl (by decide) rfl hO.drew (hf.cons rfl (hf.cons rfl (hf.cons rfl hf.nil))) (fun σ => ⟨⟨rfl, trivial⟩, ⟨⟨rfl, trivial⟩, ⟨⟨rfl, trivial⟩, ⟨⟨rfl, trivial⟩, ⟨⟨rfl, trivial⟩, ⟨⟨rfl, trivial⟩, ⟨⟨rfl, trivial⟩, ⟨⟨rfl, ⟨rfl, ⟨rfl, trivial⟩⟩⟩, ⟨⟨rfl, ⟨rfl, trivial⟩⟩, ⟨trivial, trivial⟩⟩⟩⟩⟩⟩⟩⟩⟩⟩) ⟨sS_pure rfl (fun σ => rfl) (fun σ => rfl) (fun σ a w k _ _ _ _ hf => ex_move hf rfl), ⟨sS_pure rfl (fun σ => rfl) (fun σ => rfl) (fun σ a w k _ _ _ _ hf => ex_indexAddr hix61 hf rfl rfl), ⟨sS_pure rfl (fun σ => rfl) (fun σ => rfl) (fun σ a w k hk hlo hup hst hf => match k, hk, hlo, hup, hst, hf with | 0, _, _, _, hst, hf => have hO : Dk.Own w0 [] w [.blk b55 [int r54.1.Kind, str r54.1.Scheme, int r54.1.Host.Kind, str r54.1.Host.Name, int r54.1.Host.Port, str r54.1.Path, str r54.1.Query, .bool r54.1.HasQuery] 75, .row (.slice p23 r22.length c24) 9 1 r22.length (cells enc_str r22), .row (.slice none 0 0) 86 2 0 (cells enc_api_Field []), .blk b1 [int 0, str [], str [], int 0, str [], int 0, .slice none 0 0] 27] := hst; ex_load1 (o := 0) ag_9 (hSx61 _ (hO.rowSees (i := 1) rfl)) rfl hf rfl | 1, _, _, _, hst, hf => have hO : Dk.Own w0 [] w [.blk b55 [int r54.1.Kind, str r54.1.Scheme, int r54.1.Host.Kind, str r54.1.Host.Name, int r54.1.Host.Port, str r54.1.Path, str r54.1.Query, .bool r54.1.HasQuery] 75, .row (.slice p23 r22.length c24) 9 1 r22.length (cells enc_str r22), .row (.slice none 0 0) 86 2 0 (cells enc_api_Field []), .blk b1 [int 1, str x61, str x64, int 0, str [], int r32, .slice none 0 0] 27] := hst; ex_load1 (o := 0) ag_9 (hSx61 _ (hO.rowSees (i := 1) rfl)) rfl hf rfl | k + 2, hk, _, _, _, _ => absurd hk (by simp)), ⟨sS_pure rfl (fun σ => rfl) (fun σ => rfl) (fun σ a w k _ _ _ _ hf => ex_move hf rfl), ⟨sS_pure rfl (fun σ => rfl) (fun σ => rfl) (fun σ a w k _ _ _ _ hf => ex_indexAddr hix64 hf rfl rfl), ⟨sS_pure rfl (fun σ => rfl) (fun σ => rfl) (fun σ a w k hk hlo hup hst hf => match k, hk, hlo, hup, hst, hf with | 0, _, _, _, hst, hf => have hO : Dk.Own w0 [] w [.blk b55 [int r54.1.Kind, str r54.1.Scheme, int r54.1.Host.Kind, str r54.1.Host.Name, int r54.1.Host.Port, str r54.1.Path, str r54.1.Query, .bool r54.1.HasQuery] 75, .row (.slice p23 r22.length c24) 9 1 r22.length (cells enc_str r22), .row (.slice none 0 0) 86 2 0 (cells enc_api_Field []), .blk b1 [int 0, str [], str [], int 0, str [], int 0, .slice none 0 0] 27] := hst; ex_load1 (o := 0) ag_9 (hSx64 _ (hO.rowSees (i := 1) rfl)) rfl hf rfl | 1, _, _, _, hst, hf => have hO : Dk.Own w0 [] w [.blk b55 [int r54.1.Kind, str r54.1.Scheme, int r54.1.Host.Kind, str r54.1.Host.Name, int r54.1.Host.Port, str r54.1.Path, str r54.1.Query, .bool r54.1.HasQuery] 75, .row (.slice p23 r22.length c24) 9 1 r22.length (cells enc_str r22), .row (.slice none 0 0) 86 2 0 (cells enc_api_Field []), .blk b1 [int 1, str x61, str x64, int 0, str [], int r32, .slice none 0 0] 27] := hst; ex_load1 (o := 0) ag_9 (hSx64 _ (hO.rowSees (i := 1) rfl)) rfl hf rfl | k + 2, hk, _, _, _, _ => absurd hk (by simp)), ⟨sS_pure rfl (fun σ => rfl) (fun σ => rfl) (fun σ a w k _ _ _ _ hf => ex_move hf rfl), ⟨sS_pure rfl (fun σ => rfl) (fun σ => rfl) (fun σ a w k _ _ _ _ hf => ex_build (vs := [(0, int 1), (1, str x61), (2, str x64), (5, int r32)]) (v := .agg #[int 1, str x61, str x64, int 0, str [], int r32, .slice none 0 0]) hf rfl (by kernel_rfl)), ⟨sS_skip rfl (fun σ => rfl) (fun σ => rfl) rfl (fun σ w (hO : Dk.Own w0 [] w [.blk b55 [int r54.1.Kind, str r54.1.Scheme, int r54.1.Host.Kind, str r54.1.Host.Name, int r54.1.Host.Port, str r54.1.Path, str r54.1.Query, .bool r54.1.HasQuery] 75, .row (.slice p23 r22.length c24) 9 1 r22.length (cells enc_str r22), .row (.slice none 0 0) 86 2 0 (cells enc_api_Field []), .blk b1 [int 0, str [], str [], int 0, str [], int 0, .slice none 0 0] 27]) => by obtain ⟨w', hO', hr⟩ := ef_storeN (x := (.tmp 4)) (y := (.tmp 89)) (E := [(4, ptr b1 0), (89, .agg #[int 1, str x61, str x64, int 0, str [], int r32, .slice none 0 0])]) (i := 3) (n := 7) (vs := [int 1, str x61, str x64, int 0, str [], int r32, .slice none 0 0]) sz_27 rfl rfl rfl (by simp [Value.oneCell']) hO rfl rfl; exact ⟨(), w', hO', ⟨.inr rfl, ⟨.inr rfl, ⟨.inr rfl, ⟨.inr rfl, ⟨.inr rfl, ⟨.inr rfl, ⟨.inr rfl, ⟨.inr rfl, ⟨.inr rfl, ⟨.inr rfl, trivial⟩⟩⟩⟩⟩⟩⟩⟩⟩⟩, hr⟩), ⟨sS_pure rfl (fun σ => rfl) (fun σ => rfl) (fun σ a w k _ _ _ _ hf => ex_assign hf rfl), trivial⟩⟩⟩⟩⟩⟩⟩⟩⟩⟩ ?_
                      rintro _ a w hf hO
                      have hO : Dk.Own w0 [] w [.blk b55 [int r54.1.Kind, str r54.1.Scheme, int r54.1.Host.Kind, str r54.1.Host.Name, int r54.1.Host.Port, str r54.1.Path, str r54.1.Query, .bool r54.1.HasQuery] 75, .row (.slice p23 r22.length c24) 9 1 r22.length (cells enc_str r22), .row (.slice none 0 0) 86 2 0 (cells enc_api_Field []), .blk b1 [int 1, str x61, str x64, int 0, str [], int r32, .slice none 0 0] 27] := hO
                      have hf : Fits 144 [(4, ptr b1 0), (5, int 0)] a := (hf.cons rfl (hf.cons rfl hf.nil))
                      have hO := hO.nilRow 86 2
                      refine nor_then (hK67 _ _ ?_)
                      refine wp_ret ?_
                      refine ret_then ?_
                      obtain rfl := Option.some.inj hm
                      exact post_ret Tryz.results12 hf (.cell rfl (run_loadVarN (n := 7) (vs := [int 1, str x61, str x64, int 0, str [], int r32, .slice none 0 0]) ag_27 sz_27 rfl ((hO.blkSees (i := 4) rfl).cells (o := 0) (n := 7) rfl)) (.tmp rfl .nil)) ⟨none, 0, rfl, (hO.sub (.cons_cons _ (.cons _ (.cons _ (.cons _ (.cons _ .slnil))))))⟩
            · have hm := ie hc27 hm
              refine wp_skip ?_
              refine nor_then (hK68 _ _ ?_)
              refine wp_seq_k fun _ hK73 => ?_
              refine wp_region_list ?_
              refine op_val (ex_move hf rfl) rfl hf rfl rfl fun a hf => ?_
              obtain ⟨x69, hx69, hm⟩ := ob hm
              obtain ⟨b70, o71, hix69, hSx69, hAx69⟩ := elemAtRow (enc := enc_str) (sz := 1) (xs := r22) 40 Tryz.underlying40 sz_9 (by decide) (fun _ => rfl) hO (i := 0) rfl hx69
              refine op_val (ex_indexAddr hix69 hf rfl rfl) rfl hf rfl rfl fun a hf => ?_
              refine op_val (ex_load1 (o := 0) ag_9 (hSx69 _ (hO.rowSees (i := 0) rfl)) rfl hf rfl) rfl hf rfl rfl fun a hf => ?_
              obtain ⟨r72, hr72, hm⟩ := ob hm
              refine op_enter (ex_call c_38 hf (vs := [str x69]) rfl) rfl hf rfl rfl (w_ref14_Version x69 r72 _ (hG.own hF hO) hr72) ?_
              rintro e w' ⟨he, hb⟩
              refine ⟨_, he, fun a hf => ?_⟩
              have hO := hO.grow hb
              refine op_val (ex_assign hf rfl) rfl hf rfl rfl fun a hf => ?_
              refine wpList_nil ?_
              refine nor_then (hK73 _ _ ?_)
              refine wp_seq_k fun _ hK77 => ?_
              refine wp_seq_k fun _ hK74 => ?_
              refine wp_region_list ?_
              refine op_val (ex_move hf rfl) rfl hf rfl rfl fun a hf => ?_
              refine op_val (ex_eql (m := r72) (n := 2) hf rfl rfl) rfl hf rfl rfl fun a hf => ?_
              refine wpList_nil ?_
              refine nor_then (hK74 _ _ ?_)
              refine wp_cond_cut hf rfl (fun hc75 => ?_) (fun hc75 => ?_)
              · have hm := it hc75 hm
                refine wp_seq_k fun _ hK76 => ?_
                refine wp_region_list ?_
                refine op_val (ex_build (vs := []) (v := .agg #[int 0, str [], str [], int 0, str [], int 0, .slice none 0 0]) hf rfl (by kernel_rfl)) rfl hf rfl rfl fun a hf => ?_
                refine op_storeN (i := 2) (n := 7) sz_27 rfl rfl rfl (by simp [Value.oneCell']) hf rfl rfl hO fun w hO => ?_
                have hO := hO.nilRow 86 2
                refine op_val (ex_assign hf rfl) rfl hf rfl rfl fun a hf => ?_
                refine wpList_nil ?_
                refine nor_then (hK76 _ _ ?_)
                refine wp_ret ?_
                refine ret_then ?_
                obtain rfl := Option.some.inj hm
                exact post_ret Tryz.results12 hf (.cell rfl (run_loadVarN (n := 7) (vs := [int 0, str [], str [], int 0, str [], int 0, .slice none 0 0]) ag_27 sz_27 rfl ((hO.blkSees (i := 3) rfl).cells (o := 0) (n := 7) rfl)) (.tmp rfl .nil)) ⟨none, 0, rfl, (hO.sub (.cons_cons _ (.cons _ (.cons _ (.cons _ .slnil)))))⟩
              · have hm := ie hc75 hm
                refine wp_skip ?_
                refine nor_then (hK77 _ _ ?_)
                refine wp_seq_k fun _ hK86 => ?_
                refine wp_seq_cut (fun a w => ∃ (t83 : Bool), Fits 144 [(1, str x_a1), (4, ptr b1 0), (7, .slice p23 r22.length c24), (11, int r72), (110, .bool t83)] a ∧ Dk.Own w0 [] w [.row (.slice p23 r22.length c24) 9 1 r22.length (cells enc_str r22), .row (.slice none 0 0) 86 2 0 (cells enc_api_Field []), .blk b1 [int 0, str [], str [], int 0, str [], int 0, .slice none 0 0] 27] ∧ ref14_Parse_j5 x_a1 r22 r72 t83 = some R) ?_ ?_
                · refine wp_region_list ?_
                  refine op_val (ex_move hf rfl) rfl hf rfl rfl fun a hf => ?_
                  refine op_val (ex_len_l Tryz.underlying40 hf rfl) rfl hf rfl rfl fun a hf => ?_
                  refine op_val (ex_lss (m := (r22.length : Int)) (n := 3) hf rfl rfl) rfl hf rfl rfl fun a hf => ?_
                  refine op_val (ex_move hf rfl) rfl hf rfl rfl fun a hf => ?_
                  rcases bcase (decide ((r22.length : Int) < 3)) with hc78 | hc78
                  · have hm := it hc78 hm
                    refine op_pass rfl hf rfl rfl (hc78) rfl rfl fun a hf => ?_
                    refine op_pass rfl hf rfl rfl (hc78) rfl rfl fun a hf => ?_
                    refine op_val (ex_pick_t hf rfl hc78 rfl) rfl hf rfl rfl fun a hf => ?_
                    refine op_val (ex_move hf rfl) rfl hf rfl rfl fun a hf => ?_
                    refine op_pass rfl hf rfl rfl (rfl) rfl rfl fun a hf => ?_
                    refine op_pass rfl hf rfl rfl (rfl) rfl rfl fun a hf => ?_
                    refine op_pass rfl hf rfl rfl (rfl) rfl rfl fun a hf => ?_
                    refine op_pass rfl hf rfl rfl (rfl) rfl rfl fun a hf => ?_
                    refine op_pass rfl hf rfl rfl (rfl) rfl rfl fun a hf => ?_
                    refine op_val (ex_pick_t hf rfl rfl rfl) rfl hf rfl rfl fun a hf => ?_
                    refine wpList_nil ?_
                    refine nor_then ?_
                    exact ⟨true, (hf.cons rfl (hf.cons rfl (hf.cons rfl (hf.cons rfl (hf.cons rfl hf.nil))))), hO, hm⟩
                  · have hm := ie hc78 hm
                    refine op_guard rfl hf rfl rfl (hc78) ?_
                    refine op_val (ex_move hf rfl) rfl hf rfl rfl fun a hf => ?_
                    refine op_guard rfl hf rfl rfl (hc78) ?_
                    refine op_val (ex_lss (m := r72) (n := 0) hf rfl rfl) rfl hf rfl rfl fun a hf => ?_
                    refine op_val (ex_pick_f hf rfl hc78 rfl) rfl hf rfl rfl fun a hf => ?_
                    refine op_val (ex_move hf rfl) rfl hf rfl rfl fun a hf => ?_
                    rcases bcase (decide (r72 < 0)) with hc79 | hc79
                    · have hm := it hc79 hm
                      refine op_pass rfl hf rfl rfl (hc79) rfl rfl fun a hf => ?_
                      refine op_pass rfl hf rfl rfl (hc79) rfl rfl fun a hf => ?_
                      refine op_pass rfl hf rfl rfl (hc79) rfl rfl fun a hf => ?_
                      refine op_pass rfl hf rfl rfl (hc79) rfl rfl fun a hf => ?_
                      refine op_pass rfl hf rfl rfl (hc79) rfl rfl fun a hf => ?_
                      refine op_val (ex_pick_t hf rfl hc79 rfl) rfl hf rfl rfl fun a hf => ?_
                      refine wpList_nil ?_
                      refine nor_then ?_
                      exact ⟨true, (hf.cons rfl (hf.cons rfl (hf.cons rfl (hf.cons rfl (hf.cons rfl hf.nil))))), hO, hm⟩
                    · have hm := ie hc79 hm
                      refine op_guard rfl hf rfl rfl (hc79) ?_
                      refine op_val (ex_move hf rfl) rfl hf rfl rfl fun a hf => ?_
                      refine op_guard rfl hf rfl rfl (hc79) ?_
                      obtain ⟨x80, hx80, hm⟩ := ob hm
                      obtain ⟨b81, o82, hix80, hSx80, hAx80⟩ := elemAtRow (enc := enc_str) (sz := 1) (xs := r22) 40 Tryz.underlying40 sz_9 (by decide) (fun _ => rfl) hO (i := 0) rfl hx80
                      refine op_val (ex_indexAddr hix80 hf rfl rfl) rfl hf rfl rfl fun a hf => ?_
                      refine op_guard rfl hf rfl rfl (hc79) ?_
                      refine op_val (ex_load1 (o := 0) ag_9 (hSx80 _ (hO.rowSees (i := 0) rfl)) rfl hf rfl) rfl hf rfl rfl fun a hf => ?_
                      refine op_guard rfl hf rfl rfl (hc79) ?_
                      refine op_val (ex_len_s (l := x80) Tryz.underlying9 hf rfl) rfl hf rfl rfl fun a hf => ?_
                      refine op_guard rfl hf rfl rfl (hc79) ?_
                      refine op_val (ex_neq (m := (x80.length : Int)) (n := 3) hf rfl rfl) rfl hf rfl rfl fun a hf => ?_
                      refine op_val (ex_pick_f hf rfl hc79 rfl) rfl hf rfl rfl fun a hf => ?_
                      refine wpList_nil ?_
                      refine nor_then ?_
                      exact ⟨!((x80.length : Int) == 3), (hf.cons rfl (hf.cons rfl (hf.cons rfl (hf.cons rfl (hf.cons rfl hf.nil))))), hO, hm⟩
                · rintro a w ⟨t83, hf, hO, hm⟩
                  rw [ref14_Parse_j5] at hm
                  refine wp_cond_cut hf rfl (fun hc84 => ?_) (fun hc84 => ?_)
                  · have hm := it hc84 hm
                    refine wp_seq_k fun _ hK85 => ?_
                    refine wp_region_list ?_
                    refine op_val (ex_build (vs := []) (v := .agg #[int 0, str [], str [], int 0, str [], int 0, .slice none 0 0]) hf rfl (by kernel_rfl)) rfl hf rfl rfl fun a hf => ?_
                    refine op_storeN (i := 2) (n := 7) sz_27 rfl rfl rfl (by simp [Value.oneCell']) hf rfl rfl hO fun w hO => ?_
                    have hO := hO.nilRow 86 2
                    refine op_val (ex_assign hf rfl) rfl hf rfl rfl fun a hf => ?_
                    refine wpList_nil ?_
                    refine nor_then (hK85 _ _ ?_)
                    refine wp_ret ?_
                    refine ret_then ?_
                    obtain rfl := Option.some.inj hm
                    exact post_ret Tryz.results12 hf (.cell rfl (run_loadVarN (n := 7) (vs := [int 0, str [], str [], int 0, str [], int 0, .slice none 0 0]) ag_27 sz_27 rfl ((hO.blkSees (i := 3) rfl).cells (o := 0) (n := 7) rfl)) (.tmp rfl .nil)) ⟨none, 0, rfl, (hO.sub (.cons_cons _ (.cons _ (.cons _ (.cons _ .slnil)))))⟩
                  · have hm := ie hc84 hm
                    refine wp_skip ?_
                    refine nor_then (hK86 _ _ ?_)
                    refine wp_seq_k fun _ hK91 => ?_
                    refine wp_region_list ?_
                    refine op_val (ex_move hf rfl) rfl hf rfl rfl fun a hf => ?_
                    obtain ⟨x87, hx87, hm⟩ := ob hm
                    obtain ⟨b88, o89, hix87, hSx87, hAx87⟩ := elemAtRow (enc := enc_str) (sz := 1) (xs := r22) 40 Tryz.underlying40 sz_9 (by decide) (fun _ => rfl) hO (i := 0) rfl hx87
                    refine op_val (ex_indexAddr hix87 hf rfl rfl) rfl hf rfl rfl fun a hf => ?_
                    refine op_val (ex_load1 (o := 0) ag_9 (hSx87 _ (hO.rowSees (i := 0) rfl)) rfl hf rfl) rfl hf rfl rfl fun a hf => ?_
                    obtain ⟨r90, hr90, hm⟩ := ob hm
                    refine op_enter (ex_call c_41 hf (vs := [str x87, int 10, int 599]) rfl) rfl hf rfl rfl (w_ref03_Read x87 10 599 r90 _ (hG.own hF hO) hr90) ?_
                    rintro e w' ⟨he, hb⟩
                    refine ⟨_, he, fun a hf => ?_⟩
                    have hO := hO.grow hb
                    refine op_val (ex_move hf rfl) rfl hf rfl rfl fun a hf => ?_
                    refine op_val (ex_extract hf rfl rfl) rfl hf rfl rfl fun a hf => ?_
                    refine op_val (ex_extract hf rfl rfl) rfl hf rfl rfl fun a hf => ?_
                    refine op_val (ex_assign hf rfl) rfl hf rfl rfl fun a hf => ?_
                    refine op_val (ex_assign hf rfl) rfl hf rfl rfl fun a hf => ?_
                    refine wpList_nil ?_
                    refine nor_then (hK91 _ _ ?_)
                    refine wp_seq_k fun _ hK93 => ?_
                    refine wp_region_list ?_
                    refine op_val (ex_move hf rfl) rfl hf rfl rfl fun a hf => ?_
                    obtain ⟨s92, hs92, hm⟩ := ob hm
                    refine op_val (ex_from_s (l := x_a1) Tryz.underlying9 hf rfl rfl hs92) rfl hf rfl rfl fun a hf => ?_
                    refine op_val (ex_assign hf rfl) rfl hf rfl rfl fun a hf => ?_
                    refine wpList_nil ?_
                    refine nor_then (hK93 _ _ ?_)
                    refine wp_seq_k fun _ hK106 => ?_
                    refine wp_seq_k fun _ hK94 => ?_
                    refine wp_region_list ?_
                    refine op_val (ex_assign hf rfl) rfl hf rfl rfl fun a hf => ?_
                    refine wpList_nil ?_
                    refine nor_then (hK94 _ _ ?_)
                    refine wp_block ?_
                    refine wp_loop_n (fun k a w => ∃ (i95 : Int), Fits 144 [(4, ptr b1 0), (11, int r72), (12, int r90.1), (13, int r90.2), (14, str s92), (15, int i95)] a ∧ Dk.Own w0 [] w [.row (.slice p23 r22.length c24) 9 1 r22.length (cells enc_str r22), .row (.slice none 0 0) 86 2 0 (cells enc_api_Field []), .blk b1 [int 0, str [], str [], int 0, str [], int 0, .slice none 0 0] 27] ∧ ref14_Parse_L6 r72 r90 s92 k i95 = some R) ?_ fuel ?_
                    · rintro n6 a w ⟨i95, hf, hO, hm⟩
                      obtain _ | n6 := n6
                      · rw [ref14_Parse_L6] at hm
                        cases hm
                      · rw [ref14_Parse_L6] at hm
                        refine wp_seq_k fun _ hK98 => ?_
                        refine wp_seq_k fun _ hK96 => ?_
                        refine wp_region_list ?_
                        refine op_val (ex_move hf rfl) rfl hf rfl rfl fun a hf => ?_
                        refine op_val (ex_move hf rfl) rfl hf rfl rfl fun a hf => ?_
                        refine op_val (ex_len_s (l := s92) Tryz.underlying9 hf rfl) rfl hf rfl rfl fun a hf => ?_
                        refine op_val (ex_lss (m := i95) (n := (s92.length : Int)) hf rfl rfl) rfl hf rfl rfl fun a hf => ?_
                        refine wpList_nil ?_
                        refine nor_then (hK96 _ _ ?_)
                        refine wp_cond_cut hf rfl (fun hc97 => ?_) (fun hc97 => ?_)
                        · have hm := it hc97 hm
                          refine wp_skip ?_
                          refine nor_then (hK98 _ _ ?_)
                          refine wp_seq_k fun _ hK104 => ?_
                          refine wp_block ?_
                          refine wp_seq_k fun _ hK101 => ?_
                          refine wp_region_list ?_
                          refine op_val (ex_move hf rfl) rfl hf rfl rfl fun a hf => ?_
                          refine op_val (ex_move hf rfl) rfl hf rfl rfl fun a hf => ?_
                          obtain ⟨b99, hb99, hm⟩ := ob hm
                          refine op_val (ex_index (l := s92) Tryz.underlying9 hf rfl rfl hb99) rfl hf rfl rfl fun a hf => ?_
                          obtain ⟨r100, hr100, hm⟩ := ob hm
                          refine op_enter (ex_call c_42 hf (vs := [byte b99]) rfl) rfl hf rfl rfl (w_ref01_Value b99 r100 _ (hG.own hF hO) hr100) ?_
                          rintro e w' ⟨he, hb⟩
                          refine ⟨_, he, fun a hf => ?_⟩
                          have hO := hO.grow hb
                          refine op_val (ex_not hf rfl) rfl hf rfl rfl fun a hf => ?_
                          refine wpList_nil ?_
                          refine nor_then (hK101 _ _ ?_)
                          refine wp_cond_cut hf rfl (fun hc102 => ?_) (fun hc102 => ?_)
                          · have hm := it hc102 hm
                            refine wp_seq_k fun _ hK103 => ?_
                            refine wp_region_list ?_
                            refine op_val (ex_build (vs := []) (v := .agg #[int 0, str [], str [], int 0, str [], int 0, .slice none 0 0]) hf rfl (by kernel_rfl)) rfl hf rfl rfl fun a hf => ?_
                            refine op_storeN (i := 2) (n := 7) sz_27 rfl rfl rfl (by simp [Value.oneCell']) hf rfl rfl hO fun w hO => ?_
                            have hO := hO.nilRow 86 2
                            refine op_val (ex_assign hf rfl) rfl hf rfl rfl fun a hf => ?_
                            refine wpList_nil ?_
                            refine nor_then (hK103 _ _ ?_)
                            refine wp_ret ?_
                            refine ret_block ?_
                            refine ret_then ?_
                            refine ret_then ?_
                            refine ret_block ?_
                            refine ret_then ?_
                            obtain rfl := Option.some.inj hm
                            exact post_ret Tryz.results12 hf (.cell rfl (run_loadVarN (n := 7) (vs := [int 0, str [], str [], int 0, str [], int 0, .slice none 0 0]) ag_27 sz_27 rfl ((hO.blkSees (i := 3) rfl).cells (o := 0) (n := 7) rfl)) (.tmp rfl .nil)) ⟨none, 0, rfl, (hO.sub (.cons_cons _ (.cons _ (.cons _ (.cons _ .slnil)))))⟩
                          · have hm := ie hc102 hm
                            refine wp_skip ?_
                            refine nor_block ?_
                            refine nor_then (hK104 _ _ ?_)
                            refine wp_region_list ?_
                            refine op_val (ex_move hf rfl) rfl hf rfl rfl fun a hf => ?_
                            obtain ⟨i105, hi105, hm⟩ := ob hm
                            refine op_val (ex_add hf rfl rfl hi105) rfl hf rfl rfl fun a hf => ?_
                            refine op_val (ex_assign hf rfl) rfl hf rfl rfl fun a hf => ?_
                            refine wpList_nil ?_
                            refine nor_then ?_
                            exact ⟨_, Nat.lt_succ_self _, i105, (hf.cons rfl (hf.cons rfl (hf.cons rfl (hf.cons rfl (hf.cons rfl (hf.cons rfl hf.nil)))))), hO, hm⟩
                        · have hm := ie hc97 hm
                          refine wp_exit ?_
                          refine exit_then ?_
                          refine exit_then ?_
                          refine exit_here ?_
                          refine nor_then (hK106 _ _ ?_)
                          refine wp_seq_k fun _ hK111 => ?_
                          refine wp_seq_cut (fun a w => ∃ (t108 : Bool), Fits 144 [(4, ptr b1 0), (11, int r72), (12, int r90.1), (14, str s92), (138, .bool t108)] a ∧ Dk.Own w0 [] w [.row (.slice p23 r22.length c24) 9 1 r22.length (cells enc_str r22), .row (.slice none 0 0) 86 2 0 (cells enc_api_Field []), .blk b1 [int 0, str [], str [], int 0, str [], int 0, .slice none 0 0] 27] ∧ ref14_Parse_j7 r72 r90 s92 t108 = some R) ?_ ?_
                          · refine wp_region_list ?_
                            refine op_val (ex_move hf rfl) rfl hf rfl rfl fun a hf => ?_
                            refine op_val (ex_neq (m := r90.2) (n := 0) hf rfl rfl) rfl hf rfl rfl fun a hf => ?_
                            refine op_val (ex_move hf rfl) rfl hf rfl rfl fun a hf => ?_
                            rcases bcase (!(r90.2 == 0)) with hc107 | hc107
                            · have hm := it hc107 hm
                              refine op_pass rfl hf rfl rfl (hc107) rfl rfl fun a hf => ?_
                              refine op_pass rfl hf rfl rfl (hc107) rfl rfl fun a hf => ?_
                              refine op_val (ex_pick_t hf rfl hc107 rfl) rfl hf rfl rfl fun a hf => ?_
                              refine wpList_nil ?_
                              refine nor_then ?_
                              exact ⟨true, (hf.cons rfl (hf.cons rfl (hf.cons rfl (hf.cons rfl (hf.cons rfl hf.nil))))), hO, hm⟩
                            · have hm := ie hc107 hm
                              refine op_guard rfl hf rfl rfl (hc107) ?_
                              refine op_val (ex_move hf rfl) rfl hf rfl rfl fun a hf => ?_
                              refine op_guard rfl hf rfl rfl (hc107) ?_
                              refine op_val (ex_lss (m := r90.1) (n := 100) hf rfl rfl) rfl hf rfl rfl fun a hf => ?_
                              refine op_val (ex_pick_f hf rfl hc107 rfl) rfl hf rfl rfl fun a hf => ?_
                              refine wpList_nil ?_
                              refine nor_then ?_
                              exact ⟨decide (r90.1 < 100), (hf.cons rfl (hf.cons rfl (hf.cons rfl (hf.cons rfl (hf.cons rfl hf.nil))))), hO, hm⟩
                          · rintro a w ⟨t108, hf, hO, hm⟩
                            rw [ref14_Parse_j7] at hm
                            refine wp_cond_cut hf rfl (fun hc109 => ?_) (fun hc109 => ?_)
                            · have hm := it hc109 hm
                              refine wp_seq_k fun _ hK110 => ?_
                              refine wp_region_list ?_
                              refine op_val (ex_build (vs := []) (v := .agg #[int 0, str [], str [], int 0, str [], int 0, .slice none 0 0]) hf rfl (by kernel_rfl)) rfl hf rfl rfl fun a hf => ?_
                              refine op_storeN (i := 2) (n := 7) sz_27 rfl rfl rfl (by simp [Value.oneCell']) hf rfl rfl hO fun w hO => ?_
                              have hO := hO.nilRow 86 2
                              refine op_val (ex_assign hf rfl) rfl hf rfl rfl fun a hf => ?_
                              refine wpList_nil ?_
                              refine nor_then (hK110 _ _ ?_)
                              refine wp_ret ?_
                              refine ret_then ?_
                              obtain rfl := Option.some.inj hm
                              exact post_ret Tryz.results12 hf (.cell rfl (run_loadVarN (n := 7) (vs := [int 0, str [], str [], int 0, str [], int 0, .slice none 0 0]) ag_27 sz_27 rfl ((hO.blkSees (i := 3) rfl).cells (o := 0) (n := 7) rfl)) (.tmp rfl .nil)) ⟨none, 0, rfl, (hO.sub (.cons_cons _ (.cons _ (.cons _ (.cons _ .slnil)))))⟩
                            · have hm := ie hc109 hm
                              refine wp_skip ?_
                              refine nor_then (hK111 _ _ ?_)
                              refine wp_seq_k fun _ hK112 => ?_
                              refine wp_region_list ?_
                              refine op_val (ex_move hf rfl) rfl hf rfl rfl fun a hf => ?_
                              refine op_val (ex_move hf rfl) rfl hf rfl rfl fun a hf => ?_
                              refine op_val (ex_move hf rfl) rfl hf rfl rfl fun a hf => ?_
                              refine op_val (ex_build (vs := [(0, int 2), (5, int r72), (3, int r90.1), (4, str s92)]) (v := .agg #[int 2, str [], str [], int r90.1, str s92, int r72, .slice none 0 0]) hf rfl (by kernel_rfl)) rfl hf rfl rfl fun a hf => ?_
                              refine op_storeN (i := 2) (n := 7) sz_27 rfl rfl rfl (by simp [Value.oneCell']) hf rfl rfl hO fun w hO => ?_
                              have hO := hO.nilRow 86 2
                              refine op_val (ex_assign hf rfl) rfl hf rfl rfl fun a hf => ?_
                              refine wpList_nil ?_
                              refine nor_then (hK112 _ _ ?_)
                              refine wp_ret ?_
                              obtain rfl := Option.some.inj hm
                              exact post_ret Tryz.results12 hf (.cell rfl (run_loadVarN (n := 7) (vs := [int 2, str [], str [], int r90.1, str s92, int r72, .slice none 0 0]) ag_27 sz_27 rfl ((hO.blkSees (i := 3) rfl).cells (o := 0) (n := 7) rfl)) (.tmp rfl .nil)) ⟨none, 0, rfl, (hO.sub (.cons_cons _ (.cons _ (.cons _ (.cons _ .slnil)))))⟩
                    · exact ⟨0, (hf.cons rfl (hf.cons rfl (hf.cons rfl (hf.cons rfl (hf.cons rfl (hf.cons rfl hf.nil)))))), hO, hm⟩
      · exact ⟨0, (hf.cons rfl (hf.cons rfl (hf.cons rfl (hf.cons rfl hf.nil)))), hO, hm⟩

set_option maxHeartbeats 1000000 in
theorem w_ref14_Same (x_a : api_Head) (x_b : api_Head) (R : Bool) (w0 : World) (hG : Glob w0) {x_a_p0 : Option Addr} {x_a_c0 : Nat} (hs0 : Sees w0 x_a_p0 (cells enc_api_Field x_a.Fields)) (hc0 : x_a.Fields.length ≤ x_a_c0) {x_b_p1 : Option Addr} {x_b_c1 : Nat} (hs1 : Sees w0 x_b_p1 (cells enc_api_Field x_b.Fields)) (hc1 : x_b.Fields.length ≤ x_b_c1) (hm : ref14_Same x_a x_b = some R) :
    Calls Tryz.prog 13 #[.agg #[int x_a.Kind, str x_a.Method, str x_a.Target, int x_a.Code, str x_a.Reason, int x_a.Minor, .slice x_a_p0 x_a.Fields.length x_a_c0], .agg #[int x_b.Kind, str x_b.Method, str x_b.Target, int x_b.Code, str x_b.Reason, int x_b.Minor, .slice x_b_p1 x_b.Fields.length x_b_c1]] w0 fun e w' => e = .returned (.bool R) ∧ Below w0.heap.size w0 w' := by
  rw [ref14_Same] at hm
  refine calls_enter (vs := [.agg #[int x_a.Kind, str x_a.Method, str x_a.Target, int x_a.Code, str x_a.Reason, int x_a.Minor, .slice x_a_p0 x_a.Fields.length x_a_c0], .agg #[int x_b.Kind, str x_b.Method, str x_b.Target, int x_b.Code, str x_b.Reason, int x_b.Minor, .slice x_b_p1 x_b.Fields.length x_b_c1]]) Tryz.func13 rfl Tryz.ntmps13 rfl fun a hf => ?_
  have hF : Away [] := away_nil
  have hO : Dk.Own w0 [] w0 [] := Dk.Own.refl w0
  have hO := hO.addShr hs0 (by simp [Res.shared])
  have hO := hO.addShr hs1 (by simp [Res.shared])
  refine wp_seq_k fun _ hK3 => ?_
  refine wp_region_list ?_
  refine op_box (v := .agg #[int x_a.Kind, str x_a.Method, str x_a.Target, int x_a.Code, str x_a.Reason, int x_a.Minor, .slice x_a_p0 x_a.Fields.length x_a_c0]) (cs := [int x_a.Kind, str x_a.Method, str x_a.Target, int x_a.Code, str x_a.Reason, int x_a.Minor, .slice x_a_p0 x_a.Fields.length x_a_c0]) rfl hf rfl rfl hO fun a b1 w hf hO => ?_
  refine op_box (v := .agg #[int x_b.Kind, str x_b.Method, str x_b.Target, int x_b.Code, str x_b.Reason, int x_b.Minor, .slice x_b_p1 x_b.Fields.length x_b_c1]) (cs := [int x_b.Kind, str x_b.Method, str x_b.Target, int x_b.Code, str x_b.Reason, int x_b.Minor, .slice x_b_p1 x_b.Fields.length x_b_c1]) rfl hf rfl rfl hO fun a b2 w hf hO => ?_
  refine op_val (ex_assign hf rfl) rfl hf rfl rfl fun a hf => ?_
  refine wpList_nil ?_
  refine nor_then (hK3 _ _ ?_)
  refine wp_seq_cut (fun a w => ∃ (t9 : Bool), Fits 45 [(4, .bool t9)] a ∧ Dk.Own w0 [] w [.blk b2 [int x_b.Kind, str x_b.Method, str x_b.Target, int x_b.Code, str x_b.Reason, int x_b.Minor, .slice x_b_p1 x_b.Fields.length x_b_c1] 27, .blk b1 [int x_a.Kind, str x_a.Method, str x_a.Target, int x_a.Code, str x_a.Reason, int x_a.Minor, .slice x_a_p0 x_a.Fields.length x_a_c0] 27, .shr x_b_p1 (cells enc_api_Field x_b.Fields), .shr x_a_p0 (cells enc_api_Field x_a.Fields)] ∧ ref14_Same_j1 t9 = some R) ?_ ?_
  · refine wp_region_list ?_
    refine op_val (ex_field fa_27_0 hf rfl) rfl hf rfl rfl fun a hf => ?_
    refine op_val (ex_load1 (o := 0) ag_22 (hO.blkSees (i := 1) rfl) rfl hf rfl) rfl hf rfl rfl fun a hf => ?_
    refine op_val (ex_field fa_27_0 hf rfl) rfl hf rfl rfl fun a hf => ?_
    refine op_val (ex_load1 (o := 0) ag_22 (hO.blkSees (i := 0) rfl) rfl hf rfl) rfl hf rfl rfl fun a hf => ?_
    refine op_val (ex_eql (m := x_a.Kind) (n := x_b.Kind) hf rfl rfl) rfl hf rfl rfl fun a hf => ?_
    refine op_val (ex_move hf rfl) rfl hf rfl rfl fun a hf => ?_
    rcases bcase (x_a.Kind == x_b.Kind) with hc4 | hc4
    · have hm := it hc4 hm
      refine op_guard rfl hf rfl rfl (hc4) ?_
      refine op_val (ex_field fa_27_1 hf rfl) rfl hf rfl rfl fun a hf => ?_
      refine op_guard rfl hf rfl rfl (hc4) ?_
      refine op_val (ex_load1 (o := 1) ag_9 (hO.blkSees (i := 1) rfl) rfl hf rfl) rfl hf rfl rfl fun a hf => ?_
      refine op_guard rfl hf rfl rfl (hc4) ?_
      refine op_val (ex_field fa_27_1 hf rfl) rfl hf rfl rfl fun a hf => ?_
      refine op_guard rfl hf rfl rfl (hc4) ?_
      refine op_val (ex_load1 (o := 1) ag_9 (hO.blkSees (i := 0) rfl) rfl hf rfl) rfl hf rfl rfl fun a hf => ?_
      refine op_guard rfl hf rfl rfl (hc4) ?_
      refine op_val (ex_eql_s (l := x_a.Method) (m := x_b.Method) hf rfl rfl) rfl hf rfl rfl fun a hf => ?_
      refine op_val (ex_pick_t hf rfl hc4 rfl) rfl hf rfl rfl fun a hf => ?_
      refine op_val (ex_move hf rfl) rfl hf rfl rfl fun a hf => ?_
      rcases bcase (x_a.Method == x_b.Method) with hc5 | hc5
      · have hm := it hc5 hm
        refine op_guard rfl hf rfl rfl (hc5) ?_
        refine op_val (ex_field fa_27_2 hf rfl) rfl hf rfl rfl fun a hf => ?_
        refine op_guard rfl hf rfl rfl (hc5) ?_
        refine op_val (ex_load1 (o := 2) ag_9 (hO.blkSees (i := 1) rfl) rfl hf rfl) rfl hf rfl rfl fun a hf => ?_
        refine op_guard rfl hf rfl rfl (hc5) ?_
        refine op_val (ex_field fa_27_2 hf rfl) rfl hf rfl rfl fun a hf => ?_
        refine op_guard rfl hf rfl rfl (hc5) ?_
        refine op_val (ex_load1 (o := 2) ag_9 (hO.blkSees (i := 0) rfl) rfl hf rfl) rfl hf rfl rfl fun a hf => ?_
        refine op_guard rfl hf rfl rfl (hc5) ?_
        refine op_val (ex_eql_s (l := x_a.Target) (m := x_b.Target) hf rfl rfl) rfl hf rfl rfl fun a hf => ?_
        refine op_val (ex_pick_t hf rfl hc5 rfl) rfl hf rfl rfl fun a hf => ?_
        refine op_val (ex_move hf rfl) rfl hf rfl rfl fun a hf => ?_
        rcases bcase (x_a.Target == x_b.Target) with hc6 | hc6
        · have hm := it hc6 hm
          refine op_guard rfl hf rfl rfl (hc6) ?_
          refine op_val (ex_field fa_27_5 hf rfl) rfl hf rfl rfl fun a hf => ?_
          refine op_guard rfl hf rfl rfl (hc6) ?_
          refine op_val (ex_load1 (o := 5) ag_3 (hO.blkSees (i := 1) rfl) rfl hf rfl) rfl hf rfl rfl fun a hf => ?_
          refine op_guard rfl hf rfl rfl (hc6) ?_
          refine op_val (ex_field fa_27_5 hf rfl) rfl hf rfl rfl fun a hf => ?_
          refine op_guard rfl hf rfl rfl (hc6) ?_
          refine op_val (ex_load1 (o := 5) ag_3 (hO.blkSees (i := 0) rfl) rfl hf rfl) rfl hf rfl rfl fun a hf => ?_
          refine op_guard rfl hf rfl rfl (hc6) ?_
          refine op_val (ex_eql (m := x_a.Minor) (n := x_b.Minor) hf rfl rfl) rfl hf rfl rfl fun a hf => ?_
          refine op_val (ex_pick_t hf rfl hc6 rfl) rfl hf rfl rfl fun a hf => ?_
          refine op_val (ex_move hf rfl) rfl hf rfl rfl fun a hf => ?_
          rcases bcase (x_a.Minor == x_b.Minor) with hc7 | hc7
          · have hm := it hc7 hm
            refine op_guard rfl hf rfl rfl (hc7) ?_
            refine op_val (ex_field fa_27_3 hf rfl) rfl hf rfl rfl fun a hf => ?_
            refine op_guard rfl hf rfl rfl (hc7) ?_
            refine op_val (ex_load1 (o := 3) ag_3 (hO.blkSees (i := 1) rfl) rfl hf rfl) rfl hf rfl rfl fun a hf => ?_
            refine op_guard rfl hf rfl rfl (hc7) ?_
            refine op_val (ex_field fa_27_3 hf rfl) rfl hf rfl rfl fun a hf => ?_
            refine op_guard rfl hf rfl rfl (hc7) ?_
            refine op_val (ex_load1 (o := 3) ag_3 (hO.blkSees (i := 0) rfl) rfl hf rfl) rfl hf rfl rfl fun a hf => ?_
            refine op_guard rfl hf rfl rfl (hc7) ?_
            refine op_val (ex_eql (m := x_a.Code) (n := x_b.Code) hf rfl rfl) rfl hf rfl rfl fun a hf => ?_
            refine op_val (ex_pick_t hf rfl hc7 rfl) rfl hf rfl rfl fun a hf => ?_
            refine op_val (ex_move hf rfl) rfl hf rfl rfl fun a hf => ?_
            rcases bcase (x_a.Code == x_b.Code) with hc8 | hc8
            · have hm := it hc8 hm
              refine op_guard rfl hf rfl rfl (hc8) ?_
              refine op_val (ex_field fa_27_4 hf rfl) rfl hf rfl rfl fun a hf => ?_
              refine op_guard rfl hf rfl rfl (hc8) ?_
              refine op_val (ex_load1 (o := 4) ag_9 (hO.blkSees (i := 1) rfl) rfl hf rfl) rfl hf rfl rfl fun a hf => ?_
              refine op_guard rfl hf rfl rfl (hc8) ?_
              refine op_val (ex_field fa_27_4 hf rfl) rfl hf rfl rfl fun a hf => ?_
              refine op_guard rfl hf rfl rfl (hc8) ?_
              refine op_val (ex_load1 (o := 4) ag_9 (hO.blkSees (i := 0) rfl) rfl hf rfl) rfl hf rfl rfl fun a hf => ?_
              refine op_guard rfl hf rfl rfl (hc8) ?_
              refine op_val (ex_eql_s (l := x_a.Reason) (m := x_b.Reason) hf rfl rfl) rfl hf rfl rfl fun a hf => ?_
              refine op_val (ex_pick_t hf rfl hc8 rfl) rfl hf rfl rfl fun a hf => ?_
              refine op_val (ex_assign hf rfl) rfl hf rfl rfl fun a hf => ?_
              refine wpList_nil ?_
              refine nor_then ?_
              exact ⟨x_a.Reason == x_b.Reason, (hf.cons rfl hf.nil), hO, hm⟩
            · have hm := ie hc8 hm
              refine op_pass rfl hf rfl rfl (hc8) rfl rfl fun a hf => ?_
              refine op_pass rfl hf rfl rfl (hc8) rfl rfl fun a hf => ?_
              refine op_pass rfl hf rfl rfl (hc8) rfl rfl fun a hf => ?_
              refine op_pass rfl hf rfl rfl (hc8) rfl rfl fun a hf => ?_
              refine op_pass rfl hf rfl rfl (hc8) rfl rfl fun a hf => ?_
              refine op_val (ex_pick_f hf rfl hc8 rfl) rfl hf rfl rfl fun a hf => ?_
              refine op_val (ex_assign hf rfl) rfl hf rfl rfl fun a hf => ?_
              refine wpList_nil ?_
              refine nor_then ?_
              exact ⟨false, (hf.cons rfl hf.nil), hO, hm⟩
          · have hm := ie hc7 hm
            refine op_pass rfl hf rfl rfl (hc7) rfl rfl fun a hf => ?_
            refine op_pass rfl hf rfl rfl (hc7) rfl rfl fun a hf => ?_
            refine op_pass rfl hf rfl rfl (hc7) rfl rfl fun a hf => ?_
            refine op_pass rfl hf rfl rfl (hc7) rfl rfl fun a hf => ?_
            refine op_pass rfl hf rfl rfl (hc7) rfl rfl fun a hf => ?_
            refine op_val (ex_pick_f hf rfl hc7 rfl) rfl hf rfl rfl fun a hf => ?_
            refine op_val (ex_move hf rfl) rfl hf rfl rfl fun a hf => ?_
            refine op_pass rfl hf rfl rfl (rfl) rfl rfl fun a hf => ?_
            refine op_pass rfl hf rfl rfl (rfl) rfl rfl fun a hf => ?_
            refine op_pass rfl hf rfl rfl (rfl) rfl rfl fun a hf => ?_
            refine op_pass rfl hf rfl rfl (rfl) rfl rfl fun a hf => ?_
            refine op_pass rfl hf rfl rfl (rfl) rfl rfl fun a hf => ?_
            refine op_val (ex_pick_f hf rfl rfl rfl) rfl hf rfl rfl fun a hf => ?_
            refine op_val (ex_assign hf rfl) rfl hf rfl rfl fun a hf => ?_
            refine wpList_nil ?_
            refine nor_then ?_
            exact ⟨false, (hf.cons rfl hf.nil), hO, hm⟩
        · have hm := ie hc6 hm
          refine op_pass rfl hf rfl rfl (hc6) rfl rfl fun a hf => ?_
          refine op_pass rfl hf rfl rfl (hc6) rfl rfl fun a hf => ?_
          refine op_pass rfl hf rfl rfl (hc6) rfl rfl fun a hf => ?_
          refine op_pass rfl hf rfl rfl (hc6) rfl rfl fun a hf => ?_
          refine op_pass rfl hf rfl rfl (hc6) rfl rfl fun a hf => ?_
          refine op_val (ex_pick_f hf rfl hc6 rfl) rfl hf rfl rfl fun a hf => ?_
          refine op_val (ex_move hf rfl) rfl hf rfl rfl fun a hf => ?_
          refine op_pass rfl hf rfl rfl (rfl) rfl rfl fun a hf => ?_
          refine op_pass rfl hf rfl rfl (rfl) rfl rfl fun a hf => ?_
          refine op_pass rfl hf rfl rfl (rfl) rfl rfl fun a hf => ?_
          refine op_pass rfl hf rfl rfl (rfl) rfl rfl fun a hf => ?_
          refine op_pass rfl hf rfl rfl (rfl) rfl rfl fun a hf => ?_
          refine op_val (ex_pick_f hf rfl rfl rfl) rfl hf rfl rfl fun a hf => ?_
          refine op_val (ex_move hf rfl) rfl hf rfl rfl fun a hf => ?_
          refine op_pass rfl hf rfl rfl (rfl) rfl rfl fun a hf => ?_
          refine op_pass rfl hf rfl rfl (rfl) rfl rfl fun a hf => ?_
          refine op_pass rfl hf rfl rfl (rfl) rfl rfl fun a hf => ?_
          refine op_pass rfl hf rfl rfl (rfl) rfl rfl fun a hf => ?_
          refine op_pass rfl hf rfl rfl (rfl) rfl rfl fun a hf => ?_
          refine op_val (ex_pick_f hf rfl rfl rfl) rfl hf rfl rfl fun a hf => ?_
          refine op_val (ex_assign hf rfl) rfl hf rfl rfl fun a hf => ?_
          refine wpList_nil ?_
          refine nor_then ?_
          exact ⟨false, (hf.cons rfl hf.nil), hO, hm⟩
      · have hm := ie hc5 hm
        refine op_pass rfl hf rfl rfl (hc5) rfl rfl fun a hf => ?_
        refine op_pass rfl hf rfl rfl (hc5) rfl rfl fun a hf => ?_
        refine op_pass rfl hf rfl rfl (hc5) rfl rfl fun a hf => ?_
        refine op_pass rfl hf rfl rfl (hc5) rfl rfl fun a hf => ?_
        refine op_pass rfl hf rfl rfl (hc5) rfl rfl fun a hf => ?_
        refine op_val (ex_pick_f hf rfl hc5 rfl) rfl hf rfl rfl fun a hf => ?_
        refine op_val (ex_move hf rfl) rfl hf rfl rfl fun a hf => ?_
        refine op_pass rfl hf rfl rfl (rfl) rfl rfl fun a hf => ?_
        refine op_pass rfl hf rfl rfl (rfl) rfl rfl fun a hf => ?_
        refine op_pass rfl hf rfl rfl (rfl) rfl rfl fun a hf => ?_
        refine op_pass rfl hf rfl rfl (rfl) rfl rfl fun a hf => ?_
        refine op_pass rfl hf rfl rfl (rfl) rfl rfl fun a hf => ?_
        refine op_val (ex_pick_f hf rfl rfl rfl) rfl hf rfl rfl fun a hf => ?_
        refine op_val (ex_move hf rfl) rfl hf rfl rfl fun a hf => ?_
        refine op_pass rfl hf rfl rfl (rfl) rfl rfl fun a hf => ?_
        refine op_pass rfl hf rfl rfl (rfl) rfl rfl fun a hf => ?_
        refine op_pass rfl hf rfl rfl (rfl) rfl rfl fun a hf => ?_
        refine op_pass rfl hf rfl rfl (rfl) rfl rfl fun a hf => ?_
        refine op_pass rfl hf rfl rfl (rfl) rfl rfl fun a hf => ?_
        refine op_val (ex_pick_f hf rfl rfl rfl) rfl hf rfl rfl fun a hf => ?_
        refine op_val (ex_move hf rfl) rfl hf rfl rfl fun a hf => ?_
        refine op_pass rfl hf rfl rfl (rfl) rfl rfl fun a hf => ?_
        refine op_pass rfl hf rfl rfl (rfl) rfl rfl fun a hf => ?_
        refine op_pass rfl hf rfl rfl (rfl) rfl rfl fun a hf => ?_
        refine op_pass rfl hf rfl rfl (rfl) rfl rfl fun a hf => ?_
        refine op_pass rfl hf rfl rfl (rfl) rfl rfl fun a hf => ?_
        refine op_val (ex_pick_f hf rfl rfl rfl) rfl hf rfl rfl fun a hf => ?_
        refine op_val (ex_assign hf rfl) rfl hf rfl rfl fun a hf => ?_
        refine wpList_nil ?_
        refine nor_then ?_
        exact ⟨false, (hf.cons rfl hf.nil), hO, hm⟩
    · have hm := ie hc4 hm
      refine op_pass rfl hf rfl rfl (hc4) rfl rfl fun a hf => ?_
      refine op_pass rfl hf rfl rfl (hc4) rfl rfl fun a hf => ?_
      refine op_pass rfl hf rfl rfl (hc4) rfl rfl fun a hf => ?_
      refine op_pass rfl hf rfl rfl (hc4) rfl rfl fun a hf => ?_
      refine op_pass rfl hf rfl rfl (hc4) rfl rfl fun a hf => ?_
      refine op_val (ex_pick_f hf rfl hc4 rfl) rfl hf rfl rfl fun a hf => ?_
      refine op_val (ex_move hf rfl) rfl hf rfl rfl fun a hf => ?_
      refine op_pass rfl hf rfl rfl (rfl) rfl rfl fun a hf => ?_
      refine op_pass rfl hf rfl rfl (rfl) rfl rfl fun a hf => ?_
      refine op_pass rfl hf rfl rfl (rfl) rfl rfl fun a hf => ?_
      refine op_pass rfl hf rfl rfl (rfl) rfl rfl fun a hf => ?_
      refine op_pass rfl hf rfl rfl (rfl) rfl rfl fun a hf => ?_
      refine op_val (ex_pick_f hf rfl rfl rfl) rfl hf rfl rfl fun a hf => ?_
      refine op_val (ex_move hf rfl) rfl hf rfl rfl fun a hf => ?_
      refine op_pass rfl hf rfl rfl (rfl) rfl rfl fun a hf => ?_
      refine op_pass rfl hf rfl rfl (rfl) rfl rfl fun a hf => ?_
      refine op_pass rfl hf rfl rfl (rfl) rfl rfl fun a hf => ?_
      refine op_pass rfl hf rfl rfl (rfl) rfl rfl fun a hf => ?_
      refine op_pass rfl hf rfl rfl (rfl) rfl rfl fun a hf => ?_
      refine op_val (ex_pick_f hf rfl rfl rfl) rfl hf rfl rfl fun a hf => ?_
      refine op_val (ex_move hf rfl) rfl hf rfl rfl fun a hf => ?_
      refine op_pass rfl hf rfl rfl (rfl) rfl rfl fun a hf => ?_
      refine op_pass rfl hf rfl rfl (rfl) rfl rfl fun a hf => ?_
      refine op_pass rfl hf rfl rfl (rfl) rfl rfl fun a hf => ?_
      refine op_pass rfl hf rfl rfl (rfl) rfl rfl fun a hf => ?_
      refine op_pass rfl hf rfl rfl (rfl) rfl rfl fun a hf => ?_
      refine op_val (ex_pick_f hf rfl rfl rfl) rfl hf rfl rfl fun a hf => ?_
      refine op_val (ex_move hf rfl) rfl hf rfl rfl fun a hf => ?_
      refine op_pass rfl hf rfl rfl (rfl) rfl rfl fun a hf => ?_
      refine op_pass rfl hf rfl rfl (rfl) rfl rfl fun a hf => ?_
      refine op_pass rfl hf rfl rfl (rfl) rfl rfl fun a hf => ?_
      refine op_pass rfl hf rfl rfl (rfl) rfl rfl fun a hf => ?_
      refine op_pass rfl hf rfl rfl (rfl) rfl rfl fun a hf => ?_
      refine op_val (ex_pick_f hf rfl rfl rfl) rfl hf rfl rfl fun a hf => ?_
      refine op_val (ex_assign hf rfl) rfl hf rfl rfl fun a hf => ?_
      refine wpList_nil ?_
      refine nor_then ?_
      exact ⟨false, (hf.cons rfl hf.nil), hO, hm⟩
  · rintro a w ⟨t9, hf, hO, hm⟩
    rw [ref14_Same_j1] at hm
    refine wp_ret ?_
    obtain rfl := Option.some.inj hm
    exact post_ret Tryz.results13 hf (.tmp rfl .nil) ⟨rfl, hO.below⟩

set_option maxHeartbeats 1000000 in
theorem w_quill_Join (x_sep : Str) (x_l : List Str) (R : Str) (w0 : World) (hG : Glob w0) {x_l_p0 : Option Addr} {x_l_c0 : Nat} (hs0 : Sees w0 x_l_p0 (cells enc_str x_l)) (hc0 : x_l.length ≤ x_l_c0) (hm : quill_Join x_sep x_l = some R) :
    Calls Tryz.prog 44 #[str x_sep, .slice x_l_p0 x_l.length x_l_c0] w0 fun e w' => e = .returned (str R) ∧ Below w0.heap.size w0 w' := by
  rw [quill_Join] at hm
  refine calls_enter (vs := [str x_sep, .slice x_l_p0 x_l.length x_l_c0]) Tryz.func44 rfl Tryz.ntmps44 rfl fun a hf => ?_
  have hF : Away [] := away_nil
  have hO : Dk.Own w0 [] w0 [] := Dk.Own.refl w0
  have hO := hO.addShr hs0 (by simp [Res.shared])
  refine wp_seq_k fun _ hK1 => ?_
  refine wp_region_list ?_
  refine op_val (ex_assign hf rfl) rfl hf rfl rfl fun a hf => ?_
  refine wpList_nil ?_
  refine nor_then (hK1 _ _ ?_)
  refine wp_seq_k fun _ hK3 => ?_
  refine wp_region_list ?_
  refine op_val (ex_move hf rfl) rfl hf rfl rfl fun a hf => ?_
  refine op_val (ex_move hf rfl) rfl hf rfl rfl fun a hf => ?_
  obtain ⟨r2, hr2, hm⟩ := ob hm
  refine op_enter (ex_call c_92 hf (vs := [.slice x_l_p0 x_l.length x_l_c0, str x_sep]) rfl) rfl hf rfl rfl (w_strings_Join x_l x_sep r2 _ (hG.own hF hO) (hO.sees (i := 0) rfl) hc0 hr2) ?_
  rintro e w' ⟨he, hb⟩
  refine ⟨_, he, fun a hf => ?_⟩
  have hO := hO.grow hb
  refine op_val (ex_assign hf rfl) rfl hf rfl rfl fun a hf => ?_
  refine wpList_nil ?_
  refine nor_then (hK3 _ _ ?_)
  refine wp_ret ?_
  obtain rfl := Option.some.inj hm
  exact post_ret Tryz.results44 hf (.tmp rfl .nil) ⟨rfl, hO.below⟩

set_option maxHeartbeats 1000000 in
theorem w_startline_Text (x_a0 : api_Head) (R : Str × Int) (w0 : World) (hG : GlobT w0) {x_a0_p0 : Option Addr} {x_a0_c0 : Nat} (hs0 : Sees w0 x_a0_p0 (cells enc_api_Field x_a0.Fields)) (hc0 : x_a0.Fields.length ≤ x_a0_c0) (hm : startline_Text x_a0 = some R) :
    Calls Tryz.prog 14 #[.agg #[int x_a0.Kind, str x_a0.Method, str x_a0.Target, int x_a0.Code, str x_a0.Reason, int x_a0.Minor, .slice x_a0_p0 x_a0.Fields.length x_a0_c0]] w0 fun e w' => e = .returned (.tuple #[str R.1, int R.2]) ∧ Below w0.heap.size w0 w' := by
  rw [startline_Text] at hm
  refine calls_enter (vs := [.agg #[int x_a0.Kind, str x_a0.Method, str x_a0.Target, int x_a0.Code, str x_a0.Reason, int x_a0.Minor, .slice x_a0_p0 x_a0.Fields.length x_a0_c0]]) Tryz.func14 rfl Tryz.ntmps14 rfl fun a hf => ?_
  have hF : Away [] := away_nil
  have hO : Dk.Own w0 [] w0 [] := Dk.Own.refl w0
  have hO := hO.addShr hs0 (by simp [Res.shared])
  refine wp_seq_k fun _ hK2 => ?_
  refine wp_region_list ?_
  refine op_box (v := .agg #[int x_a0.Kind, str x_a0.Method, str x_a0.Target, int x_a0.Code, str x_a0.Reason, int x_a0.Minor, .slice x_a0_p0 x_a0.Fields.length x_a0_c0]) (cs := [int x_a0.Kind, str x_a0.Method, str x_a0.Target, int x_a0.Code, str x_a0.Reason, int x_a0.Minor, .slice x_a0_p0 x_a0.Fields.length x_a0_c0]) rfl hf rfl rfl hO fun a b1 w hf hO => ?_
  refine op_val (ex_assign hf rfl) rfl hf rfl rfl fun a hf => ?_
  refine op_val (ex_assign hf rfl) rfl hf rfl rfl fun a hf => ?_
  refine wpList_nil ?_
  refine nor_then (hK2 _ _ ?_)
  refine wp_seq_k fun _ hK5 => ?_
  refine wp_region_list ?_
  refine op_val (ex_field fa_27_5 hf rfl) rfl hf rfl rfl fun a hf => ?_
  refine op_val (ex_load1 (o := 5) ag_3 (hO.blkSees (i := 0) rfl) rfl hf rfl) rfl hf rfl rfl fun a hf => ?_
  obtain ⟨r3, hr3, hm⟩ := ob hm
  refine op_enter (ex_call c_43 hf (vs := [int x_a0.Minor]) rfl) rfl hf rfl rfl (w_numeral_Text x_a0.Minor r3 _ (hG.own hF hO) hr3) ?_
  rintro e w' ⟨he, hb⟩
  refine ⟨_, he, fun a hf => ?_⟩
  have hO := hO.grow hb
  obtain ⟨s4, hs4, hm⟩ := ob hm
  refine op_val (ex_cat (l := [72, 84, 84, 80, 47, 49, 46]) (m := r3) hf rfl rfl hs4) rfl hf rfl rfl fun a hf => ?_
  refine op_val (ex_assign hf rfl) rfl hf rfl rfl fun a hf => ?_
  refine wpList_nil ?_
  refine nor_then (hK5 _ _ ?_)
  refine wp_seq_k fun _ hK8 => ?_
  refine wp_region_list ?_
  refine op_val (ex_field fa_27_1 hf rfl) rfl hf rfl rfl fun a hf => ?_
  refine op_val (ex_load1 (o := 1) ag_9 (hO.blkSees (i := 0) rfl) rfl hf rfl) rfl hf rfl rfl fun a hf => ?_
  refine op_val (ex_field fa_27_2 hf rfl) rfl hf rfl rfl fun a hf => ?_
  refine op_val (ex_load1 (o := 2) ag_9 (hO.blkSees (i := 0) rfl) rfl hf rfl) rfl hf rfl rfl fun a hf => ?_
  refine op_val (ex_move hf rfl) rfl hf rfl rfl fun a hf => ?_
  refine op_buildSlice (vs := [(0, str x_a0.Method), (1, str x_a0.Target), (2, str s4)]) (cs := [str x_a0.Method, str x_a0.Target, str s4]) (e := 9) (sz := 1) hf rfl rfl (fun w => by kernel_rfl) rfl rfl hO fun a b6 w hf hO => ?_
  obtain ⟨r7, hr7, hm⟩ := ob hm
  refine op_enter (ex_call c_44 hf (vs := [str [32], .slice (some ⟨b6, 0, none⟩) ([x_a0.Method, x_a0.Target, s4].length) 3]) rfl) rfl hf rfl rfl (w_quill_Join [32] [x_a0.Method, x_a0.Target, s4] r7 _ (hG.own hF hO).1 (hO.rowSees (i := 0) rfl) (hO.rowCap (i := 0) rfl) hr7) ?_
  rintro e w' ⟨he, hb⟩
  refine ⟨_, he, fun a hf => ?_⟩
  have hO := hO.grow hb
  refine op_val (ex_assign hf rfl) rfl hf rfl rfl fun a hf => ?_
  refine wpList_nil ?_
  refine nor_then (hK8 _ _ ?_)
  refine wp_seq_cut (fun a w => ∃ (s14 : Str), Fits 81 [(1, ptr b1 0), (5, str s14)] a ∧ Dk.Own w0 [] w [.row (.slice (some ⟨b6, 0, none⟩) ([x_a0.Method, x_a0.Target, s4].length) 3) 9 1 ([x_a0.Method, x_a0.Target, s4].length) (cells enc_str [x_a0.Method, x_a0.Target, s4]), .blk b1 [int x_a0.Kind, str x_a0.Method, str x_a0.Target, int x_a0.Code, str x_a0.Reason, int x_a0.Minor, .slice x_a0_p0 x_a0.Fields.length x_a0_c0] 27, .shr x_a0_p0 (cells enc_api_Field x_a0.Fields)] ∧ startline_Text_j1 x_a0 s14 = some R) ?_ ?_
  · refine wp_seq_k fun _ hK9 => ?_
    refine wp_region_list ?_
    refine op_val (ex_field fa_27_0 hf rfl) rfl hf rfl rfl fun a hf => ?_
    refine op_val (ex_load1 (o := 0) ag_22 (hO.blkSees (i := 1) rfl) rfl hf rfl) rfl hf rfl rfl fun a hf => ?_
    refine op_val (ex_eql (m := x_a0.Kind) (n := 2) hf rfl rfl) rfl hf rfl rfl fun a hf => ?_
    refine wpList_nil ?_
    refine nor_then (hK9 _ _ ?_)
    refine wp_cond_cut hf rfl (fun hc10 => ?_) (fun hc10 => ?_)
    · have hm := it hc10 hm
      obtain ⟨r11, hr11, hm⟩ := ob hm
      obtain ⟨r13, hr13, hm⟩ := ob hm
      refine wp_drawS' (S := Nat) (E0 := [(1, ptr b1 0), (4, str s4), (5, str r7)]) (by kernel_rfl) (fun k σ w => match k with | 0 => Dk.Own w0 [] w [.row (.slice (some ⟨b6, 0, none⟩) ([x_a0.Method, x_a0.Target, s4].length) 3) 9 1 ([x_a0.Method, x_a0.Target, s4].length) (cells enc_str [x_a0.Method, x_a0.Target, s4]), .blk b1 [int x_a0.Kind, str x_a0.Method, str x_a0.Target, int x_a0.Code, str x_a0.Reason, int x_a0.Minor, .slice x_a0_p0 x_a0.Fields.length x_a0_c0] 27, .shr x_a0_p0 (cells enc_api_Field x_a0.Fields)] | 1 => Dk.Own w0 [] w [.row (.slice (some ⟨b6, 0, none⟩) ([x_a0.Method, x_a0.Target, s4].length) 3) 9 1 ([x_a0.Method, x_a0.Target, s4].length) (cells enc_str [x_a0.Method, x_a0.Target, s4]), .blk b1 [int x_a0.Kind, str x_a0.Method, str x_a0.Target, int x_a0.Code, str x_a0.Reason, int x_a0.Minor, .slice x_a0_p0 x_a0.Fields.length x_a0_c0] 27, .shr x_a0_p0 (cells enc_api_Field x_a0.Fields)] | 2 => Dk.Own w0 [] w [.row (.slice (some ⟨σ, 0, none⟩) ([s4, r11, x_a0.Reason].length) 3) 9 1 ([s4, r11, x_a0.Reason].length) (cells enc_str [s4, r11, x_a0.Reason]), .row (.slice (some ⟨b6, 0, none⟩) ([x_a0.Method, x_a0.Target, s4].length) 3) 9 1 ([x_a0.Method, x_a0.Target, s4].length) (cells enc_str [x_a0.Method, x_a0.Target, s4]), .blk b1 [int x_a0.Kind, str x_a0.Method, str x_a0.Target, int x_a0.Code, str x_a0.Reason, int x_a0.Minor, .slice x_a0_p0 x_a0.Fields.length x_a0_c0] 27, .shr x_a0_p0 (cells enc_api_Field x_a0.Fields)] | _ => Dk.Own w0 [] w [.row (.slice (some ⟨σ, 0, none⟩) ([s4, r11, x_a0.Reason].length) 3) 9 1 ([s4, r11, x_a0.Reason].length) (cells enc_str [s4, r11, x_a0.Reason]), .row (.slice (some ⟨b6, 0, none⟩) ([x_a0.Method, x_a0.Target, s4].length) 3) 9 1 ([x_a0.Method, x_a0.Target, s4].length) (cells enc_str [x_a0.Method, x_a0.Target, s4]), .blk b1 [int x_a0.Kind, str x_a0.Method, str x_a0.Target, int x_a0.Code, str x_a0.Reason, int x_a0.Minor, .slice x_a0_p0 x_a0.Fields.length x_a0_c0] 27, .shr x_a0_p0 (cells enc_api_Field x_a0.Fields)]) (fun σ => [⟨[(4, str s4)], some (23, str s4)⟩, ⟨[(1, ptr b1 0)], some (24, ptr b1 3)⟩, ⟨[(24, ptr b1 3)], some (25, int x_a0.Code)⟩, ⟨[(25, int x_a0.Code)], some (26, str r11)⟩, ⟨[(1, ptr b1 0)], some (27, ptr b1 4)⟩, ⟨[(27, ptr b1 4)], some (28, str x_a0.Reason)⟩, ⟨[(23, str s4), (26, str r11), (28, str x_a0.Reason)], some (29, .slice (some ⟨σ, 0, none⟩) ([s4, r11, x_a0.Reason].length) 3)⟩, ⟨[(29, .slice (some ⟨σ, 0, none⟩) ([s4, r11, x_a0.Reason].length) 3)], some (30, str r13)⟩, ⟨[(30, str r13)], some (5, str r13)⟩]) (0) [3, 6, 7] rfl (fun _ => rfl) (fun _ => rfl) (fun _ => rfl) rfl rfl (by decide) rfl hO.drew (hf.cons rfl (hf.cons rfl (hf.cons rfl hf.nil))) (fun σ => ⟨⟨rfl, trivial⟩, ⟨⟨rfl, trivial⟩, ⟨⟨rfl, trivial⟩, ⟨⟨rfl, trivial⟩, ⟨⟨rfl, trivial⟩, ⟨⟨rfl, trivial⟩, ⟨⟨rfl, ⟨rfl, ⟨rfl, trivial⟩⟩⟩, ⟨⟨rfl, trivial⟩, ⟨⟨rfl, trivial⟩, trivial⟩⟩⟩⟩⟩⟩⟩⟩⟩) ⟨sS_pure rfl (fun σ => rfl) (fun σ => rfl) (fun σ a w k _ _ _ _ hf => ex_move hf rfl), ⟨sS_pure rfl (fun σ => rfl) (fun σ => rfl) (fun σ a w k _ _ _ _ hf => ex_field fa_27_3 hf rfl), ⟨sS_pure rfl (fun σ => rfl) (fun σ => rfl) (fun σ a w k hk hlo hup hst hf => match k, hk, hlo, hup, hst, hf with | 0, _, _, _, hst, hf => have hO : Dk.Own w0 [] w [.row (.slice (some ⟨b6, 0, none⟩) ([x_a0.Method, x_a0.Target, s4].length) 3) 9 1 ([x_a0.Method, x_a0.Target, s4].length) (cells enc_str [x_a0.Method, x_a0.Target, s4]), .blk b1 [int x_a0.Kind, str x_a0.Method, str x_a0.Target, int x_a0.Code, str x_a0.Reason, int x_a0.Minor, .slice x_a0_p0 x_a0.Fields.length x_a0_c0] 27, .shr x_a0_p0 (cells enc_api_Field x_a0.Fields)] := hst; ex_load1 (o := 3) ag_3 (hO.blkSees (i := 1) rfl) rfl hf rfl | 1, _, _, _, hst, hf => have hO : Dk.Own w0 [] w [.row (.slice (some ⟨b6, 0, none⟩) ([x_a0.Method, x_a0.Target, s4].length) 3) 9 1 ([x_a0.Method, x_a0.Target, s4].length) (cells enc_str [x_a0.Method, x_a0.Target, s4]), .blk b1 [int x_a0.Kind, str x_a0.Method, str x_a0.Target, int x_a0.Code, str x_a0.Reason, int x_a0.Minor, .slice x_a0_p0 x_a0.Fields.length x_a0_c0] 27, .shr x_a0_p0 (cells enc_api_Field x_a0.Fields)] := hst; ex_load1 (o := 3) ag_3 (hO.blkSees (i := 1) rfl) rfl hf rfl | 2, _, _, _, hst, hf => have hO : Dk.Own w0 [] w [.row (.slice (some ⟨σ, 0, none⟩) ([s4, r11, x_a0.Reason].length) 3) 9 1 ([s4, r11, x_a0.Reason].length) (cells enc_str [s4, r11, x_a0.Reason]), .row (.slice (some ⟨b6, 0, none⟩) ([x_a0.Method, x_a0.Target, s4].length) 3) 9 1 ([x_a0.Method, x_a0.Target, s4].length) (cells enc_str [x_a0.Method, x_a0.Target, s4]), .blk b1 [int x_a0.Kind, str x_a0.Method, str x_a0.Target, int x_a0.Code, str x_a0.Reason, int x_a0.Minor, .slice x_a0_p0 x_a0.Fields.length x_a0_c0] 27, .shr x_a0_p0 (cells enc_api_Field x_a0.Fields)] := hst; ex_load1 (o := 3) ag_3 (hO.blkSees (i := 2) rfl) rfl hf rfl | 3, _, _, _, hst, hf => have hO : Dk.Own w0 [] w [.row (.slice (some ⟨σ, 0, none⟩) ([s4, r11, x_a0.Reason].length) 3) 9 1 ([s4, r11, x_a0.Reason].length) (cells enc_str [s4, r11, x_a0.Reason]), .row (.slice (some ⟨b6, 0, none⟩) ([x_a0.Method, x_a0.Target, s4].length) 3) 9 1 ([x_a0.Method, x_a0.Target, s4].length) (cells enc_str [x_a0.Method, x_a0.Target, s4]), .blk b1 [int x_a0.Kind, str x_a0.Method, str x_a0.Target, int x_a0.Code, str x_a0.Reason, int x_a0.Minor, .slice x_a0_p0 x_a0.Fields.length x_a0_c0] 27, .shr x_a0_p0 (cells enc_api_Field x_a0.Fields)] := hst; ex_load1 (o := 3) ag_3 (hO.blkSees (i := 2) rfl) rfl hf rfl | k + 4, hk, _, _, _, _ => absurd hk (by simp)), ⟨sS_call rfl (fun σ => rfl) (fun σ => rfl) rfl (fun σ a w (_ : _) hf => ex_call c_43 hf (vs := [int x_a0.Code]) rfl) (fun σ w (hO : Dk.Own w0 [] w [.row (.slice (some ⟨b6, 0, none⟩) ([x_a0.Method, x_a0.Target, s4].length) 3) 9 1 ([x_a0.Method, x_a0.Target, s4].length) (cells enc_str [x_a0.Method, x_a0.Target, s4]), .blk b1 [int x_a0.Kind, str x_a0.Method, str x_a0.Target, int x_a0.Code, str x_a0.Reason, int x_a0.Minor, .slice x_a0_p0 x_a0.Fields.length x_a0_c0] 27, .shr x_a0_p0 (cells enc_api_Field x_a0.Fields)]) => (w_numeral_Text x_a0.Code r11 _ (hG.own hF hO) hr11).mono fun e w' h => by obtain ⟨he, hb⟩ := h; exact ⟨(σ), he, hO.grow hb, ⟨.inr rfl, ⟨.inr rfl, ⟨.inr rfl, ⟨.inr rfl, ⟨.inr rfl, ⟨.inr rfl, ⟨.inr rfl, ⟨.inr rfl, ⟨.inr rfl, trivial⟩⟩⟩⟩⟩⟩⟩⟩⟩⟩), ⟨sS_pure rfl (fun σ => rfl) (fun σ => rfl) (fun σ a w k _ _ _ _ hf => ex_field fa_27_4 hf rfl), ⟨sS_pure rfl (fun σ => rfl) (fun σ => rfl) (fun σ a w k hk hlo hup hst hf => match k, hk, hlo, hup, hst, hf with | 0, _, _, _, hst, hf => have hO : Dk.Own w0 [] w [.row (.slice (some ⟨b6, 0, none⟩) ([x_a0.Method, x_a0.Target, s4].length) 3) 9 1 ([x_a0.Method, x_a0.Target, s4].length) (cells enc_str [x_a0.Method, x_a0.Target, s4]), .blk b1 [int x_a0.Kind, str x_a0.Method, str x_a0.Target, int x_a0.Code, str x_a0.Reason, int x_a0.Minor, .slice x_a0_p0 x_a0.Fields.length x_a0_c0] 27, .shr x_a0_p0 (cells enc_api_Field x_a0.Fields)] := hst; ex_load1 (o := 4) ag_9 (hO.blkSees (i := 1) rfl) rfl hf rfl | 1, _, _, _, hst, hf => have hO : Dk.Own w0 [] w [.row (.slice (some ⟨b6, 0, none⟩) ([x_a0.Method, x_a0.Target, s4].length) 3) 9 1 ([x_a0.Method, x_a0.Target, s4].length) (cells enc_str [x_a0.Method, x_a0.Target, s4]), .blk b1 [int x_a0.Kind, str x_a0.Method, str x_a0.Target, int x_a0.Code, str x_a0.Reason, int x_a0.Minor, .slice x_a0_p0 x_a0.Fields.length x_a0_c0] 27, .shr x_a0_p0 (cells enc_api_Field x_a0.Fields)] := hst; ex_load1 (o := 4) ag_9 (hO.blkSees (i := 1) rfl) rfl hf rfl | 2, _, _, _, hst, hf => have hO : Dk.Own w0 [] w [.row (.slice (some ⟨σ, 0, none⟩) ([s4, r11, x_a0.Reason].length) 3) 9 1 ([s4, r11, x_a0.Reason].length) (cells enc_str [s4, r11, x_a0.Reason]), .row (.slice (some ⟨b6, 0, none⟩) ([x_a0.Method, x_a0.Target, s4].length) 3) 9 1 ([x_a0.Method, x_a0.Target, s4].length) (cells enc_str [x_a0.Method, x_a0.Target, s4]), .blk b1 [int x_a0.Kind, str x_a0.Method, str x_a0.Target, int x_a0.Code, str x_a0.Reason, int x_a0.Minor, .slice x_a0_p0 x_a0.Fields.length x_a0_c0] 27, .shr x_a0_p0 (cells enc_api_Field x_a0.Fields)] := hst; ex_load1 (o := 4) ag_9 (hO.blkSees (i := 2) rfl) rfl hf rfl | 3, _, _, _, hst, hf => have hO : Dk.Own w0 [] w [.row (.slice (some ⟨σ, 0, none⟩) ([s4, r11, x_a0.Reason].length) 3) 9 1 ([s4, r11, x_a0.Reason].length) (cells enc_str [s4, r11, x_a0.Reason]), .row (.slice (some ⟨b6, 0, none⟩) ([x_a0.Method, x_a0.Target, s4].length) 3) 9 1 ([x_a0.Method, x_a0.Target, s4].length) (cells enc_str [x_a0.Method, x_a0.Target, s4]), .blk b1 [int x_a0.Kind, str x_a0.Method, str x_a0.Target, int x_a0.Code, str x_a0.Reason, int x_a0.Minor, .slice x_a0_p0 x_a0.Fields.length x_a0_c0] 27, .shr x_a0_p0 (cells enc_api_Field x_a0.Fields)] := hst; ex_load1 (o := 4) ag_9 (hO.blkSees (i := 2) rfl) rfl hf rfl | k + 4, hk, _, _, _, _ => absurd hk (by simp)), ⟨sS_val rfl (fun σ => rfl) (fun σ => rfl) rfl (fun σ w (hO : Dk.Own w0 [] w [.row (.slice (some ⟨b6, 0, none⟩) ([x_a0.Method, x_a0.Target, s4].length) 3) 9 1 ([x_a0.Method, x_a0.Target, s4].length) (cells enc_str [x_a0.Method, x_a0.Target, s4]), .blk b1 [int x_a0.Kind, str x_a0.Method, str x_a0.Target, int x_a0.Code, str x_a0.Reason, int x_a0.Minor, .slice x_a0_p0 x_a0.Fields.length x_a0_c0] 27, .shr x_a0_p0 (cells enc_api_Field x_a0.Fields)]) => by obtain ⟨b12, w', hO', hr⟩ := ef_buildSlice (E := [(23, str s4), (26, str r11), (28, str x_a0.Reason)]) (parts := #[(0, (.tmp 23)), (1, (.tmp 26)), (2, (.tmp 28))]) (t' := 40) (n := 3) (vs := [(0, str s4), (1, str r11), (2, str x_a0.Reason)]) (cs := [str s4, str r11, str x_a0.Reason]) (e := 9) (sz := 1) (fun w => by kernel_rfl) rfl rfl hO rfl; exact ⟨(b12), w', hO', ⟨.inr rfl, ⟨.inr rfl, ⟨.inr rfl, ⟨.inr rfl, ⟨.inr rfl, ⟨.inr rfl, ⟨.inl rfl, ⟨.inl rfl, ⟨.inr rfl, trivial⟩⟩⟩⟩⟩⟩⟩⟩⟩, hr⟩), ⟨sS_call rfl (fun σ => rfl) (fun σ => rfl) rfl (fun σ a w (_ : _) hf => ex_call c_44 hf (vs := [str [32], .slice (some ⟨σ, 0, none⟩) ([s4, r11, x_a0.Reason].length) 3]) rfl) (fun σ w (hO : Dk.Own w0 [] w [.row (.slice (some ⟨σ, 0, none⟩) ([s4, r11, x_a0.Reason].length) 3) 9 1 ([s4, r11, x_a0.Reason].length) (cells enc_str [s4, r11, x_a0.Reason]), .row (.slice (some ⟨b6, 0, none⟩) ([x_a0.Method, x_a0.Target, s4].length) 3) 9 1 ([x_a0.Method, x_a0.Target, s4].length) (cells enc_str [x_a0.Method, x_a0.Target, s4]), .blk b1 [int x_a0.Kind, str x_a0.Method, str x_a0.Target, int x_a0.Code, str x_a0.Reason, int x_a0.Minor, .slice x_a0_p0 x_a0.Fields.length x_a0_c0] 27, .shr x_a0_p0 (cells enc_api_Field x_a0.Fields)]) => (w_quill_Join [32] [s4, r11, x_a0.Reason] r13 _ (hG.own hF hO).1 (hO.rowSees (i := 0) rfl) (hO.rowCap (i := 0) rfl) hr13).mono fun e w' h => by obtain ⟨he, hb⟩ := h; exact ⟨(σ), he, hO.grow hb, ⟨.inr rfl, ⟨.inr rfl, ⟨.inr rfl, ⟨.inr rfl, ⟨.inr rfl, ⟨.inr rfl, ⟨.inr rfl, ⟨.inr rfl, ⟨.inr rfl, trivial⟩⟩⟩⟩⟩⟩⟩⟩⟩⟩), ⟨sS_pure rfl (fun σ => rfl) (fun σ => rfl) (fun σ a w k _ _ _ _ hf => ex_assign hf rfl), trivial⟩⟩⟩⟩⟩⟩⟩⟩⟩ ?_
      rintro b12 a w hf hO
      have hO : Dk.Own w0 [] w [.row (.slice (some ⟨b12, 0, none⟩) ([s4, r11, x_a0.Reason].length) 3) 9 1 ([s4, r11, x_a0.Reason].length) (cells enc_str [s4, r11, x_a0.Reason]), .row (.slice (some ⟨b6, 0, none⟩) ([x_a0.Method, x_a0.Target, s4].length) 3) 9 1 ([x_a0.Method, x_a0.Target, s4].length) (cells enc_str [x_a0.Method, x_a0.Target, s4]), .blk b1 [int x_a0.Kind, str x_a0.Method, str x_a0.Target, int x_a0.Code, str x_a0.Reason, int x_a0.Minor, .slice x_a0_p0 x_a0.Fields.length x_a0_c0] 27, .shr x_a0_p0 (cells enc_api_Field x_a0.Fields)] := hO
      have hf : Fits 81 [(1, ptr b1 0), (5, str r13)] a := (hf.cons rfl (hf.cons rfl hf.nil))
      refine nor_then ?_
      exact ⟨r13, (hf.cons rfl (hf.cons rfl hf.nil)), (hO.sub (.cons _ (.cons_cons _ (.cons_cons _ (.cons_cons _ .slnil))))), hm⟩
    · have hm := ie hc10 hm
      refine wp_skip ?_
      refine nor_then ?_
      exact ⟨r7, (hf.cons rfl (hf.cons rfl hf.nil)), hO, hm⟩
  · rintro a w ⟨s14, hf, hO, hm⟩
    rw [startline_Text_j1] at hm
    refine wp_seq_k fun _ hK19 => ?_
    refine wp_region_list ?_
    refine op_val (ex_field fa_27_0 hf rfl) rfl hf rfl rfl fun a hf => ?_
    refine op_val (ex_load1 (o := 0) ag_22 (hO.blkSees (i := 1) rfl) rfl hf rfl) rfl hf rfl rfl fun a hf => ?_
    refine op_val (ex_move hf rfl) rfl hf rfl rfl fun a hf => ?_
    obtain ⟨r15, hr15, hm⟩ := ob hm
    refine op_enter (ex_call c_11 hf (vs := [int x_a0.Kind, str s14]) rfl) rfl hf rfl rfl (w_startline_Parse x_a0.Kind s14 r15 _ (hG.own hF hO) hr15) ?_
    rintro e w' ⟨p16, c17, he, hO'⟩
    refine ⟨_, he, fun a hf => ?_⟩
    have hO := hO.call hO' (by simp [Res.shared])
    refine op_val (ex_move hf rfl) rfl hf rfl rfl fun a hf => ?_
    refine op_val (ex_extract hf rfl rfl) rfl hf rfl rfl fun a hf => ?_
    refine op_val (ex_extract hf rfl rfl) rfl hf rfl rfl fun a hf => ?_
    refine op_alloc al_27 hf rfl hO fun a b18 w hf hO => ?_
    have hO := hO.nilRow 86 2
    refine op_storeN (i := 1) (n := 7) sz_27 rfl rfl rfl (by simp [Value.oneCell']) hf rfl rfl hO fun w hO => ?_
    refine op_val (ex_assign hf rfl) rfl hf rfl rfl fun a hf => ?_
    refine wpList_nil ?_
    refine nor_then (hK19 _ _ ?_)
    refine wp_seq_k fun _ hK23 => ?_
    refine wp_seq_k fun _ hK20 => ?_
    refine wp_region_list ?_
    refine op_val (ex_move hf rfl) rfl hf rfl rfl fun a hf => ?_
    refine op_val (ex_eql (m := r15.2) (n := 1) hf rfl rfl) rfl hf rfl rfl fun a hf => ?_
    refine wpList_nil ?_
    refine nor_then (hK20 _ _ ?_)
    refine wp_cond_cut hf rfl (fun hc21 => ?_) (fun hc21 => ?_)
    · have hm := it hc21 hm
      refine wp_seq_k fun _ hK22 => ?_
      refine wp_region_list ?_
      refine op_val (ex_move hf rfl) rfl hf rfl rfl fun a hf => ?_
      refine op_val (ex_assign hf rfl) rfl hf rfl rfl fun a hf => ?_
      refine op_val (ex_assign hf rfl) rfl hf rfl rfl fun a hf => ?_
      refine wpList_nil ?_
      refine nor_then (hK22 _ _ ?_)
      refine wp_ret ?_
      refine ret_then ?_
      obtain rfl := Option.some.inj hm
      exact post_ret Tryz.results14 hf (.tmp rfl (.tmp rfl .nil)) ⟨rfl, hO.below⟩
    · have hm := ie hc21 hm
      refine wp_skip ?_
      refine nor_then (hK23 _ _ ?_)
      refine wp_seq_cut (fun a w => ∃ (t28 : Bool), Fits 81 [(5, str s14), (7, int r15.2), (8, .bool t28)] a ∧ Dk.Own w0 [] w [.row (.slice none 0 0) 86 2 0 (cells enc_api_Field []), .blk b18 [int r15.1.Kind, str r15.1.Method, str r15.1.Target, int r15.1.Code, str r15.1.Reason, int r15.1.Minor, .slice p16 r15.1.Fields.length c17] 27, .row (.slice p16 r15.1.Fields.length c17) 86 2 r15.1.Fields.length (cells enc_api_Field r15.1.Fields), .row (.slice (some ⟨b6, 0, none⟩) ([x_a0.Method, x_a0.Target, s4].length) 3) 9 1 ([x_a0.Method, x_a0.Target, s4].length) (cells enc_str [x_a0.Method, x_a0.Target, s4]), .blk b1 [int x_a0.Kind, str x_a0.Method, str x_a0.Target, int x_a0.Code, str x_a0.Reason, int x_a0.Minor, .slice x_a0_p0 x_a0.Fields.length x_a0_c0] 27, .shr x_a0_p0 (cells enc_api_Field x_a0.Fields)] ∧ startline_Text_j2 s14 r15 t28 = some R) ?_ ?_
      · refine wp_region_list ?_
        refine op_val (ex_field fa_27_1 hf rfl) rfl hf rfl rfl fun a hf => ?_
        refine op_val (ex_load1 (o := 1) ag_9 (hO.blkSees (i := 1) rfl) rfl hf rfl) rfl hf rfl rfl fun a hf => ?_
        refine op_val (ex_field fa_27_1 hf rfl) rfl hf rfl rfl fun a hf => ?_
        refine op_val (ex_load1 (o := 1) ag_9 (hO.blkSees (i := 4) rfl) rfl hf rfl) rfl hf rfl rfl fun a hf => ?_
        refine op_val (ex_eql_s (l := r15.1.Method) (m := x_a0.Method) hf rfl rfl) rfl hf rfl rfl fun a hf => ?_
        refine op_val (ex_move hf rfl) rfl hf rfl rfl fun a hf => ?_
        rcases bcase (r15.1.Method == x_a0.Method) with hc24 | hc24
        · have hm := it hc24 hm
          refine op_guard rfl hf rfl rfl (hc24) ?_
          refine op_val (ex_field fa_27_2 hf rfl) rfl hf rfl rfl fun a hf => ?_
          refine op_guard rfl hf rfl rfl (hc24) ?_
          refine op_val (ex_load1 (o := 2) ag_9 (hO.blkSees (i := 1) rfl) rfl hf rfl) rfl hf rfl rfl fun a hf => ?_
          refine op_guard rfl hf rfl rfl (hc24) ?_
          refine op_val (ex_field fa_27_2 hf rfl) rfl hf rfl rfl fun a hf => ?_
          refine op_guard rfl hf rfl rfl (hc24) ?_
          refine op_val (ex_load1 (o := 2) ag_9 (hO.blkSees (i := 4) rfl) rfl hf rfl) rfl hf rfl rfl fun a hf => ?_
          refine op_guard rfl hf rfl rfl (hc24) ?_
          refine op_val (ex_eql_s (l := r15.1.Target) (m := x_a0.Target) hf rfl rfl) rfl hf rfl rfl fun a hf => ?_
          refine op_val (ex_pick_t hf rfl hc24 rfl) rfl hf rfl rfl fun a hf => ?_
          refine op_val (ex_move hf rfl) rfl hf rfl rfl fun a hf => ?_
          rcases bcase (r15.1.Target == x_a0.Target) with hc25 | hc25
          · have hm := it hc25 hm
            refine op_guard rfl hf rfl rfl (hc25) ?_
            refine op_val (ex_field fa_27_5 hf rfl) rfl hf rfl rfl fun a hf => ?_
            refine op_guard rfl hf rfl rfl (hc25) ?_
            refine op_val (ex_load1 (o := 5) ag_3 (hO.blkSees (i := 1) rfl) rfl hf rfl) rfl hf rfl rfl fun a hf => ?_
            refine op_guard rfl hf rfl rfl (hc25) ?_
            refine op_val (ex_field fa_27_5 hf rfl) rfl hf rfl rfl fun a hf => ?_
            refine op_guard rfl hf rfl rfl (hc25) ?_
            refine op_val (ex_load1 (o := 5) ag_3 (hO.blkSees (i := 4) rfl) rfl hf rfl) rfl hf rfl rfl fun a hf => ?_
            refine op_guard rfl hf rfl rfl (hc25) ?_
            refine op_val (ex_eql (m := r15.1.Minor) (n := x_a0.Minor) hf rfl rfl) rfl hf rfl rfl fun a hf => ?_
            refine op_val (ex_pick_t hf rfl hc25 rfl) rfl hf rfl rfl fun a hf => ?_
            refine op_val (ex_move hf rfl) rfl hf rfl rfl fun a hf => ?_
            rcases bcase (r15.1.Minor == x_a0.Minor) with hc26 | hc26
            · have hm := it hc26 hm
              refine op_guard rfl hf rfl rfl (hc26) ?_
              refine op_val (ex_field fa_27_3 hf rfl) rfl hf rfl rfl fun a hf => ?_
              refine op_guard rfl hf rfl rfl (hc26) ?_
              refine op_val (ex_load1 (o := 3) ag_3 (hO.blkSees (i := 1) rfl) rfl hf rfl) rfl hf rfl rfl fun a hf => ?_
              refine op_guard rfl hf rfl rfl (hc26) ?_
              refine op_val (ex_field fa_27_3 hf rfl) rfl hf rfl rfl fun a hf => ?_
              refine op_guard rfl hf rfl rfl (hc26) ?_
              refine op_val (ex_load1 (o := 3) ag_3 (hO.blkSees (i := 4) rfl) rfl hf rfl) rfl hf rfl rfl fun a hf => ?_
              refine op_guard rfl hf rfl rfl (hc26) ?_
              refine op_val (ex_eql (m := r15.1.Code) (n := x_a0.Code) hf rfl rfl) rfl hf rfl rfl fun a hf => ?_
              refine op_val (ex_pick_t hf rfl hc26 rfl) rfl hf rfl rfl fun a hf => ?_
              refine op_val (ex_move hf rfl) rfl hf rfl rfl fun a hf => ?_
              rcases bcase (r15.1.Code == x_a0.Code) with hc27 | hc27
              · have hm := it hc27 hm
                refine op_guard rfl hf rfl rfl (hc27) ?_
                refine op_val (ex_field fa_27_4 hf rfl) rfl hf rfl rfl fun a hf => ?_
                refine op_guard rfl hf rfl rfl (hc27) ?_
                refine op_val (ex_load1 (o := 4) ag_9 (hO.blkSees (i := 1) rfl) rfl hf rfl) rfl hf rfl rfl fun a hf => ?_
                refine op_guard rfl hf rfl rfl (hc27) ?_
                refine op_val (ex_field fa_27_4 hf rfl) rfl hf rfl rfl fun a hf => ?_
                refine op_guard rfl hf rfl rfl (hc27) ?_
                refine op_val (ex_load1 (o := 4) ag_9 (hO.blkSees (i := 4) rfl) rfl hf rfl) rfl hf rfl rfl fun a hf => ?_
                refine op_guard rfl hf rfl rfl (hc27) ?_
                refine op_val (ex_eql_s (l := r15.1.Reason) (m := x_a0.Reason) hf rfl rfl) rfl hf rfl rfl fun a hf => ?_
                refine op_val (ex_pick_t hf rfl hc27 rfl) rfl hf rfl rfl fun a hf => ?_
                refine op_val (ex_assign hf rfl) rfl hf rfl rfl fun a hf => ?_
                refine wpList_nil ?_
                refine nor_then ?_
                exact ⟨r15.1.Reason == x_a0.Reason, (hf.cons rfl (hf.cons rfl (hf.cons rfl hf.nil))), hO, hm⟩
              · have hm := ie hc27 hm
                refine op_pass rfl hf rfl rfl (hc27) rfl rfl fun a hf => ?_
                refine op_pass rfl hf rfl rfl (hc27) rfl rfl fun a hf => ?_
                refine op_pass rfl hf rfl rfl (hc27) rfl rfl fun a hf => ?_
                refine op_pass rfl hf rfl rfl (hc27) rfl rfl fun a hf => ?_
                refine op_pass rfl hf rfl rfl (hc27) rfl rfl fun a hf => ?_
                refine op_val (ex_pick_f hf rfl hc27 rfl) rfl hf rfl rfl fun a hf => ?_
                refine op_val (ex_assign hf rfl) rfl hf rfl rfl fun a hf => ?_
                refine wpList_nil ?_
                refine nor_then ?_
                exact ⟨false, (hf.cons rfl (hf.cons rfl (hf.cons rfl hf.nil))), hO, hm⟩
            · have hm := ie hc26 hm
              refine op_pass rfl hf rfl rfl (hc26) rfl rfl fun a hf => ?_
              refine op_pass rfl hf rfl rfl (hc26) rfl rfl fun a hf => ?_
              refine op_pass rfl hf rfl rfl (hc26) rfl rfl fun a hf => ?_
              refine op_pass rfl hf rfl rfl (hc26) rfl rfl fun a hf => ?_
              refine op_pass rfl hf rfl rfl (hc26) rfl rfl fun a hf => ?_
              refine op_val (ex_pick_f hf rfl hc26 rfl) rfl hf rfl rfl fun a hf => ?_
              refine op_val (ex_move hf rfl) rfl hf rfl rfl fun a hf => ?_
              refine op_pass rfl hf rfl rfl (rfl) rfl rfl fun a hf => ?_
              refine op_pass rfl hf rfl rfl (rfl) rfl rfl fun a hf => ?_
              refine op_pass rfl hf rfl rfl (rfl) rfl rfl fun a hf => ?_
              refine op_pass rfl hf rfl rfl (rfl) rfl rfl fun a hf => ?_
              refine op_pass rfl hf rfl rfl (rfl) rfl rfl fun a hf => ?_
              refine op_val (ex_pick_f hf rfl rfl rfl) rfl hf rfl rfl fun a hf => ?_
              refine op_val (ex_assign hf rfl) rfl hf rfl rfl fun a hf => ?_
              refine wpList_nil ?_
              refine nor_then ?_
              exact ⟨false, (hf.cons rfl (hf.cons rfl (hf.cons rfl hf.nil))), hO, hm⟩
          · have hm := ie hc25 hm
            refine op_pass rfl hf rfl rfl (hc25) rfl rfl fun a hf => ?_
            refine op_pass rfl hf rfl rfl (hc25) rfl rfl fun a hf => ?_
            refine op_pass rfl hf rfl rfl (hc25) rfl rfl fun a hf => ?_
            refine op_pass rfl hf rfl rfl (hc25) rfl rfl fun a hf => ?_
            refine op_pass rfl hf rfl rfl (hc25) rfl rfl fun a hf => ?_
            refine op_val (ex_pick_f hf rfl hc25 rfl) rfl hf rfl rfl fun a hf => ?_
            refine op_val (ex_move hf rfl) rfl hf rfl rfl fun a hf => ?_
            refine op_pass rfl hf rfl rfl (rfl) rfl rfl fun a hf => ?_
            refine op_pass rfl hf rfl rfl (rfl) rfl rfl fun a hf => ?_
            refine op_pass rfl hf rfl rfl (rfl) rfl rfl fun a hf => ?_
            refine op_pass rfl hf rfl rfl (rfl) rfl rfl fun a hf => ?_
            refine op_pass rfl hf rfl rfl (rfl) rfl rfl fun a hf => ?_
            refine op_val (ex_pick_f hf rfl rfl rfl) rfl hf rfl rfl fun a hf => ?_
            refine op_val (ex_move hf rfl) rfl hf rfl rfl fun a hf => ?_
            refine op_pass rfl hf rfl rfl (rfl) rfl rfl fun a hf => ?_
            refine op_pass rfl hf rfl rfl (rfl) rfl rfl fun a hf => ?_
            refine op_pass rfl hf rfl rfl (rfl) rfl rfl fun a hf => ?_
            refine op_pass rfl hf rfl rfl (rfl) rfl rfl fun a hf => ?_
            refine op_pass rfl hf rfl rfl (rfl) rfl rfl fun a hf => ?_
            refine op_val (ex_pick_f hf rfl rfl rfl) rfl hf rfl rfl fun a hf => ?_
            refine op_val (ex_assign hf rfl) rfl hf rfl rfl fun a hf => ?_
            refine wpList_nil ?_
            refine nor_then ?_
            exact ⟨false, (hf.cons rfl (hf.cons rfl (hf.cons rfl hf.nil))), hO, hm⟩
        · have hm := ie hc24 hm
          refine op_pass rfl hf rfl rfl (hc24) rfl rfl fun a hf => ?_
          refine op_pass rfl hf rfl rfl (hc24) rfl rfl fun a hf => ?_
          refine op_pass rfl hf rfl rfl (hc24) rfl rfl fun a hf => ?_
          refine op_pass rfl hf rfl rfl (hc24) rfl rfl fun a hf => ?_
          refine op_pass rfl hf rfl rfl (hc24) rfl rfl fun a hf => ?_
          refine op_val (ex_pick_f hf rfl hc24 rfl) rfl hf rfl rfl fun a hf => ?_
          refine op_val (ex_move hf rfl) rfl hf rfl rfl fun a hf => ?_
          refine op_pass rfl hf rfl rfl (rfl) rfl rfl fun a hf => ?_
          refine op_pass rfl hf rfl rfl (rfl) rfl rfl fun a hf => ?_
          refine op_pass rfl hf rfl rfl (rfl) rfl rfl fun a hf => ?_
          refine op_pass rfl hf rfl rfl (rfl) rfl rfl fun a hf => ?_
          refine op_pass rfl hf rfl rfl (rfl) rfl rfl fun a hf => ?_
          refine op_val (ex_pick_f hf rfl rfl rfl) rfl hf rfl rfl fun a hf => ?_
          refine op_val (ex_move hf rfl) rfl hf rfl rfl fun a hf => ?_
          refine op_pass rfl hf rfl rfl (rfl) rfl rfl fun a hf => ?_
          refine op_pass rfl hf rfl rfl (rfl) rfl rfl fun a hf => ?_
          refine op_pass rfl hf rfl rfl (rfl) rfl rfl fun a hf => ?_
          refine op_pass rfl hf rfl rfl (rfl) rfl rfl fun a hf => ?_
          refine op_pass rfl hf rfl rfl (rfl) rfl rfl fun a hf => ?_
          refine op_val (ex_pick_f hf rfl rfl rfl) rfl hf rfl rfl fun a hf => ?_
          refine op_val (ex_move hf rfl) rfl hf rfl rfl fun a hf => ?_
          refine op_pass rfl hf rfl rfl (rfl) rfl rfl fun a hf => ?_
          refine op_pass rfl hf rfl rfl (rfl) rfl rfl fun a hf => ?_
          refine op_pass rfl hf rfl rfl (rfl) rfl rfl fun a hf => ?_
          refine op_pass rfl hf rfl rfl (rfl) rfl rfl fun a hf => ?_
          refine op_pass rfl hf rfl rfl (rfl) rfl rfl fun a hf => ?_
          refine op_val (ex_pick_f hf rfl rfl rfl) rfl hf rfl rfl fun a hf => ?_
          refine op_val (ex_assign hf rfl) rfl hf rfl rfl fun a hf => ?_
          refine wpList_nil ?_
          refine nor_then ?_
          exact ⟨false, (hf.cons rfl (hf.cons rfl (hf.cons rfl hf.nil))), hO, hm⟩
      · rintro a w ⟨t28, hf, hO, hm⟩
        rw [startline_Text_j2] at hm
        refine wp_seq_k fun _ hK33 => ?_
        refine wp_seq_cut (fun a w => ∃ (t30 : Bool), Fits 81 [(5, str s14), (79, .bool t30)] a ∧ Dk.Own w0 [] w [.row (.slice none 0 0) 86 2 0 (cells enc_api_Field []), .blk b18 [int r15.1.Kind, str r15.1.Method, str r15.1.Target, int r15.1.Code, str r15.1.Reason, int r15.1.Minor, .slice p16 r15.1.Fields.length c17] 27, .row (.slice p16 r15.1.Fields.length c17) 86 2 r15.1.Fields.length (cells enc_api_Field r15.1.Fields), .row (.slice (some ⟨b6, 0, none⟩) ([x_a0.Method, x_a0.Target, s4].length) 3) 9 1 ([x_a0.Method, x_a0.Target, s4].length) (cells enc_str [x_a0.Method, x_a0.Target, s4]), .blk b1 [int x_a0.Kind, str x_a0.Method, str x_a0.Target, int x_a0.Code, str x_a0.Reason, int x_a0.Minor, .slice x_a0_p0 x_a0.Fields.length x_a0_c0] 27, .shr x_a0_p0 (cells enc_api_Field x_a0.Fields)] ∧ startline_Text_j3 s14 t30 = some R) ?_ ?_
        · refine wp_region_list ?_
          refine op_val (ex_move hf rfl) rfl hf rfl rfl fun a hf => ?_
          refine op_val (ex_neq (m := r15.2) (n := 0) hf rfl rfl) rfl hf rfl rfl fun a hf => ?_
          refine op_val (ex_move hf rfl) rfl hf rfl rfl fun a hf => ?_
          rcases bcase (!(r15.2 == 0)) with hc29 | hc29
          · have hm := it hc29 hm
            refine op_pass rfl hf rfl rfl (hc29) rfl rfl fun a hf => ?_
            refine op_pass rfl hf rfl rfl (hc29) rfl rfl fun a hf => ?_
            refine op_val (ex_pick_t hf rfl hc29 rfl) rfl hf rfl rfl fun a hf => ?_
            refine wpList_nil ?_
            refine nor_then ?_
            exact ⟨true, (hf.cons rfl (hf.cons rfl hf.nil)), hO, hm⟩
          · have hm := ie hc29 hm
            refine op_guard rfl hf rfl rfl (hc29) ?_
            refine op_val (ex_move hf rfl) rfl hf rfl rfl fun a hf => ?_
            refine op_guard rfl hf rfl rfl (hc29) ?_
            refine op_val (ex_not hf rfl) rfl hf rfl rfl fun a hf => ?_
            refine op_val (ex_pick_f hf rfl hc29 rfl) rfl hf rfl rfl fun a hf => ?_
            refine wpList_nil ?_
            refine nor_then ?_
            exact ⟨!t28, (hf.cons rfl (hf.cons rfl hf.nil)), hO, hm⟩
        · rintro a w ⟨t30, hf, hO, hm⟩
          rw [startline_Text_j3] at hm
          refine wp_cond_cut hf rfl (fun hc31 => ?_) (fun hc31 => ?_)
          · have hm := it hc31 hm
            refine wp_seq_k fun _ hK32 => ?_
            refine wp_region_list ?_
            refine op_val (ex_assign hf rfl) rfl hf rfl rfl fun a hf => ?_
            refine op_val (ex_assign hf rfl) rfl hf rfl rfl fun a hf => ?_
            refine wpList_nil ?_
            refine nor_then (hK32 _ _ ?_)
            refine wp_ret ?_
            refine ret_then ?_
            obtain rfl := Option.some.inj hm
            exact post_ret Tryz.results14 hf (.tmp rfl (.tmp rfl .nil)) ⟨rfl, hO.below⟩
          · have hm := ie hc31 hm
            refine wp_skip ?_
            refine nor_then (hK33 _ _ ?_)
            refine wp_seq_k fun _ hK34 => ?_
            refine wp_region_list ?_
            refine op_val (ex_move hf rfl) rfl hf rfl rfl fun a hf => ?_
            refine op_val (ex_assign hf rfl) rfl hf rfl rfl fun a hf => ?_
            refine op_val (ex_assign hf rfl) rfl hf rfl rfl fun a hf => ?_
            refine wpList_nil ?_
            refine nor_then (hK34 _ _ ?_)
            refine wp_ret ?_
            obtain rfl := Option.some.inj hm
            exact post_ret Tryz.results14 hf (.tmp rfl (.tmp rfl .nil)) ⟨rfl, hO.below⟩

set_option maxHeartbeats 1000000 in
theorem w_ref14_Text (x_a0 : api_Head) (R : Str × Int) (w0 : World) (hG : Glob w0) {x_a0_p0 : Option Addr} {x_a0_c0 : Nat} (hs0 : Sees w0 x_a0_p0 (cells enc_api_Field x_a0.Fields)) (hc0 : x_a0.Fields.length ≤ x_a0_c0) (hm : ref14_Text x_a0 = some R) :
    Calls Tryz.prog 15 #[.agg #[int x_a0.Kind, str x_a0.Method, str x_a0.Target, int x_a0.Code, str x_a0.Reason, int x_a0.Minor, .slice x_a0_p0 x_a0.Fields.length x_a0_c0]] w0 fun e w' => e = .returned (.tuple #[str R.1, int R.2]) ∧ Below w0.heap.size w0 w' := by
  rw [ref14_Text] at hm
  refine calls_enter (vs := [.agg #[int x_a0.Kind, str x_a0.Method, str x_a0.Target, int x_a0.Code, str x_a0.Reason, int x_a0.Minor, .slice x_a0_p0 x_a0.Fields.length x_a0_c0]]) Tryz.func15 rfl Tryz.ntmps15 rfl fun a hf => ?_
  have hF : Away [] := away_nil
  have hO : Dk.Own w0 [] w0 [] := Dk.Own.refl w0
  have hO := hO.addShr hs0 (by simp [Res.shared])
  refine wp_seq_k fun _ hK2 => ?_
  refine wp_region_list ?_
  refine op_box (v := .agg #[int x_a0.Kind, str x_a0.Method, str x_a0.Target, int x_a0.Code, str x_a0.Reason, int x_a0.Minor, .slice x_a0_p0 x_a0.Fields.length x_a0_c0]) (cs := [int x_a0.Kind, str x_a0.Method, str x_a0.Target, int x_a0.Code, str x_a0.Reason, int x_a0.Minor, .slice x_a0_p0 x_a0.Fields.length x_a0_c0]) rfl hf rfl rfl hO fun a b1 w hf hO => ?_
  refine op_val (ex_assign hf rfl) rfl hf rfl rfl fun a hf => ?_
  refine op_val (ex_assign hf rfl) rfl hf rfl rfl fun a hf => ?_
  refine wpList_nil ?_
  refine nor_then (hK2 _ _ ?_)
  refine wp_seq_k fun _ hK5 => ?_
  refine wp_region_list ?_
  refine op_val (ex_field fa_27_5 hf rfl) rfl hf rfl rfl fun a hf => ?_
  refine op_val (ex_load1 (o := 5) ag_3 (hO.blkSees (i := 0) rfl) rfl hf rfl) rfl hf rfl rfl fun a hf => ?_
  obtain ⟨r3, hr3, hm⟩ := ob hm
  refine op_enter (ex_call c_45 hf (vs := [int x_a0.Minor, int 10]) rfl) rfl hf rfl rfl (w_ref03_Text x_a0.Minor 10 r3 _ (hG.own hF hO) hr3) ?_
  rintro e w' ⟨he, hb⟩
  refine ⟨_, he, fun a hf => ?_⟩
  have hO := hO.grow hb
  obtain ⟨s4, hs4, hm⟩ := ob hm
  refine op_val (ex_cat (l := [72, 84, 84, 80, 47, 49, 46]) (m := r3) hf rfl rfl hs4) rfl hf rfl rfl fun a hf => ?_
  refine op_val (ex_assign hf rfl) rfl hf rfl rfl fun a hf => ?_
  refine wpList_nil ?_
  refine nor_then (hK5 _ _ ?_)
  refine wp_seq_k fun _ hK10 => ?_
  refine wp_region_list ?_
  refine op_val (ex_field fa_27_1 hf rfl) rfl hf rfl rfl fun a hf => ?_
  refine op_val (ex_load1 (o := 1) ag_9 (hO.blkSees (i := 0) rfl) rfl hf rfl) rfl hf rfl rfl fun a hf => ?_
  obtain ⟨s6, hs6, hm⟩ := ob hm
  refine op_val (ex_cat (l := x_a0.Method) (m := [32]) hf rfl rfl hs6) rfl hf rfl rfl fun a hf => ?_
  refine op_val (ex_field fa_27_2 hf rfl) rfl hf rfl rfl fun a hf => ?_
  refine op_val (ex_load1 (o := 2) ag_9 (hO.blkSees (i := 0) rfl) rfl hf rfl) rfl hf rfl rfl fun a hf => ?_
  obtain ⟨s7, hs7, hm⟩ := ob hm
  refine op_val (ex_cat (l := s6) (m := x_a0.Target) hf rfl rfl hs7) rfl hf rfl rfl fun a hf => ?_
  obtain ⟨s8, hs8, hm⟩ := ob hm
  refine op_val (ex_cat (l := s7) (m := [32]) hf rfl rfl hs8) rfl hf rfl rfl fun a hf => ?_
  refine op_val (ex_move hf rfl) rfl hf rfl rfl fun a hf => ?_
  obtain ⟨s9, hs9, hm⟩ := ob hm
  refine op_val (ex_cat (l := s8) (m := s4) hf rfl rfl hs9) rfl hf rfl rfl fun a hf => ?_
  refine op_val (ex_assign hf rfl) rfl hf rfl rfl fun a hf => ?_
  refine wpList_nil ?_
  refine nor_then (hK10 _ _ ?_)
  refine wp_seq_cut (fun a w => ∃ (s18 : Str), Fits 81 [(1, ptr b1 0), (5, str s18)] a ∧ Dk.Own w0 [] w [.blk b1 [int x_a0.Kind, str x_a0.Method, str x_a0.Target, int x_a0.Code, str x_a0.Reason, int x_a0.Minor, .slice x_a0_p0 x_a0.Fields.length x_a0_c0] 27, .shr x_a0_p0 (cells enc_api_Field x_a0.Fields)] ∧ ref14_Text_j1 x_a0 s18 = some R) ?_ ?_
  · refine wp_seq_k fun _ hK11 => ?_
    refine wp_region_list ?_
    refine op_val (ex_field fa_27_0 hf rfl) rfl hf rfl rfl fun a hf => ?_
    refine op_val (ex_load1 (o := 0) ag_22 (hO.blkSees (i := 0) rfl) rfl hf rfl) rfl hf rfl rfl fun a hf => ?_
    refine op_val (ex_eql (m := x_a0.Kind) (n := 2) hf rfl rfl) rfl hf rfl rfl fun a hf => ?_
    refine wpList_nil ?_
    refine nor_then (hK11 _ _ ?_)
    refine wp_cond_cut hf rfl (fun hc12 => ?_) (fun hc12 => ?_)
    · have hm := it hc12 hm
      refine wp_quiet (by kernel_rfl) (by kernel_rfl) hO ?_
      refine q_val (fun w hO => ex_move hf rfl) rfl hf rfl rfl fun a hf => ?_
      obtain ⟨s13, hs13, hm⟩ := ob hm
      refine q_val (fun w hO => ex_cat (l := s4) (m := [32]) hf rfl rfl hs13) rfl hf rfl rfl fun a hf => ?_
      refine q_val (fun w hO => ex_field fa_27_3 hf rfl) rfl hf rfl rfl fun a hf => ?_
      refine q_val (fun w hO => ex_load1 (o := 3) ag_3 (hO.blkSees (i := 0) rfl) rfl hf rfl) rfl hf rfl rfl fun a hf => ?_
      obtain ⟨r14, hr14, hm⟩ := ob hm
      refine q_call (fun w hO => ex_call c_45 hf (vs := [int x_a0.Code, int 10]) rfl) rfl hf rfl rfl (fun w hO => (w_ref03_Text x_a0.Code 10 r14 _ (hG.own hF hO) hr14).mono fun e w' ⟨he, hb⟩ => ⟨he, hO.grow hb⟩) fun a hf => ?_
      obtain ⟨s15, hs15, hm⟩ := ob hm
      refine q_val (fun w hO => ex_cat (l := s13) (m := r14) hf rfl rfl hs15) rfl hf rfl rfl fun a hf => ?_
      obtain ⟨s16, hs16, hm⟩ := ob hm
      refine q_val (fun w hO => ex_cat (l := s15) (m := [32]) hf rfl rfl hs16) rfl hf rfl rfl fun a hf => ?_
      refine q_val (fun w hO => ex_field fa_27_4 hf rfl) rfl hf rfl rfl fun a hf => ?_
      refine q_val (fun w hO => ex_load1 (o := 4) ag_9 (hO.blkSees (i := 0) rfl) rfl hf rfl) rfl hf rfl rfl fun a hf => ?_
      obtain ⟨s17, hs17, hm⟩ := ob hm
      refine q_val (fun w hO => ex_cat (l := s16) (m := x_a0.Reason) hf rfl rfl hs17) rfl hf rfl rfl fun a hf => ?_
      refine q_val (fun w hO => ex_assign hf rfl) rfl hf rfl rfl fun a hf => ?_
      refine wpQuiet_nil ?_
      intro w hO
      refine nor_then ?_
      exact ⟨s17, (hf.cons rfl (hf.cons rfl hf.nil)), hO, hm⟩
    · have hm := ie hc12 hm
      refine wp_skip ?_
      refine nor_then ?_
      exact ⟨s9, (hf.cons rfl (hf.cons rfl hf.nil)), hO, hm⟩
  · rintro a w ⟨s18, hf, hO, hm⟩
    rw [ref14_Text_j1] at hm
    refine wp_seq_k fun _ hK23 => ?_
    refine wp_region_list ?_
    refine op_val (ex_field fa_27_0 hf rfl) rfl hf rfl rfl fun a hf => ?_
    refine op_val (ex_load1 (o := 0) ag_22 (hO.blkSees (i := 0) rfl) rfl hf rfl) rfl hf rfl rfl fun a hf => ?_
    refine op_val (ex_move hf rfl) rfl hf rfl rfl fun a hf => ?_
    obtain ⟨r19, hr19, hm⟩ := ob hm
    refine op_enter (ex_call c_12 hf (vs := [int x_a0.Kind, str s18]) rfl) rfl hf rfl rfl (w_ref14_Parse x_a0.Kind s18 r19 _ (hG.own hF hO) hr19) ?_
    rintro e w' ⟨p20, c21, he, hO'⟩
    refine ⟨_, he, fun a hf => ?_⟩
    have hO := hO.call hO' (by simp [Res.shared])
    refine op_val (ex_move hf rfl) rfl hf rfl rfl fun a hf => ?_
    refine op_val (ex_extract hf rfl rfl) rfl hf rfl rfl fun a hf => ?_
    refine op_val (ex_extract hf rfl rfl) rfl hf rfl rfl fun a hf => ?_
    refine op_alloc al_27 hf rfl hO fun a b22 w hf hO => ?_
    have hO := hO.nilRow 86 2
    refine op_storeN (i := 1) (n := 7) sz_27 rfl rfl rfl (by simp [Value.oneCell']) hf rfl rfl hO fun w hO => ?_
    refine op_val (ex_assign hf rfl) rfl hf rfl rfl fun a hf => ?_
    refine wpList_nil ?_
    refine nor_then (hK23 _ _ ?_)
    refine wp_seq_k fun _ hK27 => ?_
    refine wp_seq_k fun _ hK24 => ?_
    refine wp_region_list ?_
    refine op_val (ex_move hf rfl) rfl hf rfl rfl fun a hf => ?_
    refine op_val (ex_eql (m := r19.2) (n := 1) hf rfl rfl) rfl hf rfl rfl fun a hf => ?_
    refine wpList_nil ?_
    refine nor_then (hK24 _ _ ?_)
    refine wp_cond_cut hf rfl (fun hc25 => ?_) (fun hc25 => ?_)
    · have hm := it hc25 hm
      refine wp_seq_k fun _ hK26 => ?_
      refine wp_region_list ?_
      refine op_val (ex_assign hf rfl) rfl hf rfl rfl fun a hf => ?_
      refine op_val (ex_assign hf rfl) rfl hf rfl rfl fun a hf => ?_
      refine wpList_nil ?_
      refine nor_then (hK26 _ _ ?_)
      refine wp_ret ?_
      refine ret_then ?_
      obtain rfl := Option.some.inj hm
      exact post_ret Tryz.results15 hf (.tmp rfl (.tmp rfl .nil)) ⟨rfl, hO.below⟩
    · have hm := ie hc25 hm
      refine wp_skip ?_
      refine nor_then (hK27 _ _ ?_)
      refine wp_seq_k fun _ hK36 => ?_
      refine wp_seq_cut (fun a w => ∃ (t33 : Bool), Fits 81 [(5, str s18), (79, .bool t33)] a ∧ Dk.Own w0 [] w [.row (.slice none 0 0) 86 2 0 (cells enc_api_Field []), .blk b22 [int r19.1.Kind, str r19.1.Method, str r19.1.Target, int r19.1.Code, str r19.1.Reason, int r19.1.Minor, .slice p20 r19.1.Fields.length c21] 27, .row (.slice p20 r19.1.Fields.length c21) 86 2 r19.1.Fields.length (cells enc_api_Field r19.1.Fields), .blk b1 [int x_a0.Kind, str x_a0.Method, str x_a0.Target, int x_a0.Code, str x_a0.Reason, int x_a0.Minor, .slice x_a0_p0 x_a0.Fields.length x_a0_c0] 27, .shr x_a0_p0 (cells enc_api_Field x_a0.Fields)] ∧ ref14_Text_j2 s18 t33 = some R) ?_ ?_
      · refine wp_region_list ?_
        refine op_val (ex_move hf rfl) rfl hf rfl rfl fun a hf => ?_
        refine op_val (ex_neq (m := r19.2) (n := 0) hf rfl rfl) rfl hf rfl rfl fun a hf => ?_
        refine op_val (ex_move hf rfl) rfl hf rfl rfl fun a hf => ?_
        rcases bcase (!(r19.2 == 0)) with hc28 | hc28
        · have hm := it hc28 hm
          refine op_pass rfl hf rfl rfl (hc28) rfl rfl fun a hf => ?_
          refine op_pass rfl hf rfl rfl (hc28) rfl rfl fun a hf => ?_
          refine op_pass rfl hf rfl rfl (hc28) rfl rfl fun a hf => ?_
          refine op_pass rfl hf rfl rfl (hc28) rfl rfl fun a hf => ?_
          refine op_pass rfl hf rfl rfl (hc28) rfl rfl fun a hf => ?_
          refine op_val (ex_pick_t hf rfl hc28 rfl) rfl hf rfl rfl fun a hf => ?_
          refine op_val (ex_move hf rfl) rfl hf rfl rfl fun a hf => ?_
          refine op_pass rfl hf rfl rfl (rfl) rfl rfl fun a hf => ?_
          refine op_pass rfl hf rfl rfl (rfl) rfl rfl fun a hf => ?_
          refine op_pass rfl hf rfl rfl (rfl) rfl rfl fun a hf => ?_
          refine op_pass rfl hf rfl rfl (rfl) rfl rfl fun a hf => ?_
          refine op_pass rfl hf rfl rfl (rfl) rfl rfl fun a hf => ?_
          refine op_val (ex_pick_t hf rfl rfl rfl) rfl hf rfl rfl fun a hf => ?_
          refine op_val (ex_move hf rfl) rfl hf rfl rfl fun a hf => ?_
          refine op_pass rfl hf rfl rfl (rfl) rfl rfl fun a hf => ?_
          refine op_pass rfl hf rfl rfl (rfl) rfl rfl fun a hf => ?_
          refine op_pass rfl hf rfl rfl (rfl) rfl rfl fun a hf => ?_
          refine op_pass rfl hf rfl rfl (rfl) rfl rfl fun a hf => ?_
          refine op_pass rfl hf rfl rfl (rfl) rfl rfl fun a hf => ?_
          refine op_val (ex_pick_t hf rfl rfl rfl) rfl hf rfl rfl fun a hf => ?_
          refine op_val (ex_move hf rfl) rfl hf rfl rfl fun a hf => ?_
          refine op_pass rfl hf rfl rfl (rfl) rfl rfl fun a hf => ?_
          refine op_pass rfl hf rfl rfl (rfl) rfl rfl fun a hf => ?_
          refine op_pass rfl hf rfl rfl (rfl) rfl rfl fun a hf => ?_
          refine op_pass rfl hf rfl rfl (rfl) rfl rfl fun a hf => ?_
          refine op_pass rfl hf rfl rfl (rfl) rfl rfl fun a hf => ?_
          refine op_val (ex_pick_t hf rfl rfl rfl) rfl hf rfl rfl fun a hf => ?_
          refine op_val (ex_move hf rfl) rfl hf rfl rfl fun a hf => ?_
          refine op_pass rfl hf rfl rfl (rfl) rfl rfl fun a hf => ?_
          refine op_pass rfl hf rfl rfl (rfl) rfl rfl fun a hf => ?_
          refine op_pass rfl hf rfl rfl (rfl) rfl rfl fun a hf => ?_
          refine op_pass rfl hf rfl rfl (rfl) rfl rfl fun a hf => ?_
          refine op_pass rfl hf rfl rfl (rfl) rfl rfl fun a hf => ?_
          refine op_val (ex_pick_t hf rfl rfl rfl) rfl hf rfl rfl fun a hf => ?_
          refine wpList_nil ?_
          refine nor_then ?_
          exact ⟨true, (hf.cons rfl (hf.cons rfl hf.nil)), hO, hm⟩
        · have hm := ie hc28 hm
          refine op_guard rfl hf rfl rfl (hc28) ?_
          refine op_val (ex_field fa_27_1 hf rfl) rfl hf rfl rfl fun a hf => ?_
          refine op_guard rfl hf rfl rfl (hc28) ?_
          refine op_val (ex_load1 (o := 1) ag_9 (hO.blkSees (i := 1) rfl) rfl hf rfl) rfl hf rfl rfl fun a hf => ?_
          refine op_guard rfl hf rfl rfl (hc28) ?_
          refine op_val (ex_field fa_27_1 hf rfl) rfl hf rfl rfl fun a hf => ?_
          refine op_guard rfl hf rfl rfl (hc28) ?_
          refine op_val (ex_load1 (o := 1) ag_9 (hO.blkSees (i := 3) rfl) rfl hf rfl) rfl hf rfl rfl fun a hf => ?_
          refine op_guard rfl hf rfl rfl (hc28) ?_
          refine op_val (ex_neq_s (l := r19.1.Method) (m := x_a0.Method) hf rfl rfl) rfl hf rfl rfl fun a hf => ?_
          refine op_val (ex_pick_f hf rfl hc28 rfl) rfl hf rfl rfl fun a hf => ?_
          refine op_val (ex_move hf rfl) rfl hf rfl rfl fun a hf => ?_
          rcases bcase (!(r19.1.Method == x_a0.Method)) with hc29 | hc29
          · have hm := it hc29 hm
            refine op_pass rfl hf rfl rfl (hc29) rfl rfl fun a hf => ?_
            refine op_pass rfl hf rfl rfl (hc29) rfl rfl fun a hf => ?_
            refine op_pass rfl hf rfl rfl (hc29) rfl rfl fun a hf => ?_
            refine op_pass rfl hf rfl rfl (hc29) rfl rfl fun a hf => ?_
            refine op_pass rfl hf rfl rfl (hc29) rfl rfl fun a hf => ?_
            refine op_val (ex_pick_t hf rfl hc29 rfl) rfl hf rfl rfl fun a hf => ?_
            refine op_val (ex_move hf rfl) rfl hf rfl rfl fun a hf => ?_
            refine op_pass rfl hf rfl rfl (rfl) rfl rfl fun a hf => ?_
            refine op_pass rfl hf rfl rfl (rfl) rfl rfl fun a hf => ?_
            refine op_pass rfl hf rfl rfl (rfl) rfl rfl fun a hf => ?_
            refine op_pass rfl hf rfl rfl (rfl) rfl rfl fun a hf => ?_
            refine op_pass rfl hf rfl rfl (rfl) rfl rfl fun a hf => ?_
            refine op_val (ex_pick_t hf rfl rfl rfl) rfl hf rfl rfl fun a hf => ?_
            refine op_val (ex_move hf rfl) rfl hf rfl rfl fun a hf => ?_
            refine op_pass rfl hf rfl rfl (rfl) rfl rfl fun a hf => ?_
            refine op_pass rfl hf rfl rfl (rfl) rfl rfl fun a hf => ?_
            refine op_pass rfl hf rfl rfl (rfl) rfl rfl fun a hf => ?_
            refine op_pass rfl hf rfl rfl (rfl) rfl rfl fun a hf => ?_
            refine op_pass rfl hf rfl rfl (rfl) rfl rfl fun a hf => ?_
            refine op_val (ex_pick_t hf rfl rfl rfl) rfl hf rfl rfl fun a hf => ?_
            refine op_val (ex_move hf rfl) rfl hf rfl rfl fun a hf => ?_
            refine op_pass rfl hf rfl rfl (rfl) rfl rfl fun a hf => ?_
            refine op_pass rfl hf rfl rfl (rfl) rfl rfl fun a hf => ?_
            refine op_pass rfl hf rfl rfl (rfl) rfl rfl fun a hf => ?_
            refine op_pass rfl hf rfl rfl (rfl) rfl rfl fun a hf => ?_
            refine op_pass rfl hf rfl rfl (rfl) rfl rfl fun a hf => ?_
            refine op_val (ex_pick_t hf rfl rfl rfl) rfl hf rfl rfl fun a hf => ?_
            refine wpList_nil ?_
            refine nor_then ?_
            exact ⟨true, (hf.cons rfl (hf.cons rfl hf.nil)), hO, hm⟩
          · have hm := ie hc29 hm
            refine op_guard rfl hf rfl rfl (hc29) ?_
            refine op_val (ex_field fa_27_2 hf rfl) rfl hf rfl rfl fun a hf => ?_
            refine op_guard rfl hf rfl rfl (hc29) ?_
            refine op_val (ex_load1 (o := 2) ag_9 (hO.blkSees (i := 1) rfl) rfl hf rfl) rfl hf rfl rfl fun a hf => ?_
            refine op_guard rfl hf rfl rfl (hc29) ?_
            refine op_val (ex_field fa_27_2 hf rfl) rfl hf rfl rfl fun a hf => ?_
            refine op_guard rfl hf rfl rfl (hc29) ?_
            refine op_val (ex_load1 (o := 2) ag_9 (hO.blkSees (i := 3) rfl) rfl hf rfl) rfl hf rfl rfl fun a hf => ?_
            refine op_guard rfl hf rfl rfl (hc29) ?_
            refine op_val (ex_neq_s (l := r19.1.Target) (m := x_a0.Target) hf rfl rfl) rfl hf rfl rfl fun a hf => ?_
            refine op_val (ex_pick_f hf rfl hc29 rfl) rfl hf rfl rfl fun a hf => ?_
            refine op_val (ex_move hf rfl) rfl hf rfl rfl fun a hf => ?_
            rcases bcase (!(r19.1.Target == x_a0.Target)) with hc30 | hc30
            · have hm := it hc30 hm
              refine op_pass rfl hf rfl rfl (hc30) rfl rfl fun a hf => ?_
              refine op_pass rfl hf rfl rfl (hc30) rfl rfl fun a hf => ?_
              refine op_pass rfl hf rfl rfl (hc30) rfl rfl fun a hf => ?_
              refine op_pass rfl hf rfl rfl (hc30) rfl rfl fun a hf => ?_
              refine op_pass rfl hf rfl rfl (hc30) rfl rfl fun a hf => ?_
              refine op_val (ex_pick_t hf rfl hc30 rfl) rfl hf rfl rfl fun a hf => ?_
              refine op_val (ex_move hf rfl) rfl hf rfl rfl fun a hf => ?_
              refine op_pass rfl hf rfl rfl (rfl) rfl rfl fun a hf => ?_
              refine op_pass rfl hf rfl rfl (rfl) rfl rfl fun a hf => ?_
              refine op_pass rfl hf rfl rfl (rfl) rfl rfl fun a hf => ?_
              refine op_pass rfl hf rfl rfl (rfl) rfl rfl fun a hf => ?_
              refine op_pass rfl hf rfl rfl (rfl) rfl rfl fun a hf => ?_
              refine op_val (ex_pick_t hf rfl rfl rfl) rfl hf rfl rfl fun a hf => ?_
              refine op_val (ex_move hf rfl) rfl hf rfl rfl fun a hf => ?_
              refine op_pass rfl hf rfl rfl (rfl) rfl rfl fun a hf => ?_
              refine op_pass rfl hf rfl rfl (rfl) rfl rfl fun a hf => ?_
              refine op_pass rfl hf rfl rfl (rfl) rfl rfl fun a hf => ?_
              refine op_pass rfl hf rfl rfl (rfl) rfl rfl fun a hf => ?_
              refine op_pass rfl hf rfl rfl (rfl) rfl rfl fun a hf => ?_
              refine op_val (ex_pick_t hf rfl rfl rfl) rfl hf rfl rfl fun a hf => ?_
              refine wpList_nil ?_
              refine nor_then ?_
              exact ⟨true, (hf.cons rfl (hf.cons rfl hf.nil)), hO, hm⟩
            · have hm := ie hc30 hm
              refine op_guard rfl hf rfl rfl (hc30) ?_
              refine op_val (ex_field fa_27_5 hf rfl) rfl hf rfl rfl fun a hf => ?_
              refine op_guard rfl hf rfl rfl (hc30) ?_
              refine op_val (ex_load1 (o := 5) ag_3 (hO.blkSees (i := 1) rfl) rfl hf rfl) rfl hf rfl rfl fun a hf => ?_
              refine op_guard rfl hf rfl rfl (hc30) ?_
              refine op_val (ex_field fa_27_5 hf rfl) rfl hf rfl rfl fun a hf => ?_
              refine op_guard rfl hf rfl rfl (hc30) ?_
              refine op_val (ex_load1 (o := 5) ag_3 (hO.blkSees (i := 3) rfl) rfl hf rfl) rfl hf rfl rfl fun a hf => ?_
              refine op_guard rfl hf rfl rfl (hc30) ?_
              refine op_val (ex_neq (m := r19.1.Minor) (n := x_a0.Minor) hf rfl rfl) rfl hf rfl rfl fun a hf => ?_
              refine op_val (ex_pick_f hf rfl hc30 rfl) rfl hf rfl rfl fun a hf => ?_
              refine op_val (ex_move hf rfl) rfl hf rfl rfl fun a hf => ?_
              rcases bcase (!(r19.1.Minor == x_a0.Minor)) with hc31 | hc31
              · have hm := it hc31 hm
                refine op_pass rfl hf rfl rfl (hc31) rfl rfl fun a hf => ?_
                refine op_pass rfl hf rfl rfl (hc31) rfl rfl fun a hf => ?_
                refine op_pass rfl hf rfl rfl (hc31) rfl rfl fun a hf => ?_
                refine op_pass rfl hf rfl rfl (hc31) rfl rfl fun a hf => ?_
                refine op_pass rfl hf rfl rfl (hc31) rfl rfl fun a hf => ?_
                refine op_val (ex_pick_t hf rfl hc31 rfl) rfl hf rfl rfl fun a hf => ?_
                refine op_val (ex_move hf rfl) rfl hf rfl rfl fun a hf => ?_
                refine op_pass rfl hf rfl rfl (rfl) rfl rfl fun a hf => ?_
                refine op_pass rfl hf rfl rfl (rfl) rfl rfl fun a hf => ?_
                refine op_pass rfl hf rfl rfl (rfl) rfl rfl fun a hf => ?_
                refine op_pass rfl hf rfl rfl (rfl) rfl rfl fun a hf => ?_
                refine op_pass rfl hf rfl rfl (rfl) rfl rfl fun a hf => ?_
                refine op_val (ex_pick_t hf rfl rfl rfl) rfl hf rfl rfl fun a hf => ?_
                refine wpList_nil ?_
                refine nor_then ?_
                exact ⟨true, (hf.cons rfl (hf.cons rfl hf.nil)), hO, hm⟩
              · have hm := ie hc31 hm
                refine op_guard rfl hf rfl rfl (hc31) ?_
                refine op_val (ex_field fa_27_3 hf rfl) rfl hf rfl rfl fun a hf => ?_
                refine op_guard rfl hf rfl rfl (hc31) ?_
                refine op_val (ex_load1 (o := 3) ag_3 (hO.blkSees (i := 1) rfl) rfl hf rfl) rfl hf rfl rfl fun a hf => ?_
                refine op_guard rfl hf rfl rfl (hc31) ?_
                refine op_val (ex_field fa_27_3 hf rfl) rfl hf rfl rfl fun a hf => ?_
                refine op_guard rfl hf rfl rfl (hc31) ?_
                refine op_val (ex_load1 (o := 3) ag_3 (hO.blkSees (i := 3) rfl) rfl hf rfl) rfl hf rfl rfl fun a hf => ?_
                refine op_guard rfl hf rfl rfl (hc31) ?_
                refine op_val (ex_neq (m := r19.1.Code) (n := x_a0.Code) hf rfl rfl) rfl hf rfl rfl fun a hf => ?_
                refine op_val (ex_pick_f hf rfl hc31 rfl) rfl hf rfl rfl fun a hf => ?_
                refine op_val (ex_move hf rfl) rfl hf rfl rfl fun a hf => ?_
                rcases bcase (!(r19.1.Code == x_a0.Code)) with hc32 | hc32
                · have hm := it hc32 hm
                  refine op_pass rfl hf rfl rfl (hc32) rfl rfl fun a hf => ?_
                  refine op_pass rfl hf rfl rfl (hc32) rfl rfl fun a hf => ?_
                  refine op_pass rfl hf rfl rfl (hc32) rfl rfl fun a hf => ?_
                  refine op_pass rfl hf rfl rfl (hc32) rfl rfl fun a hf => ?_
                  refine op_pass rfl hf rfl rfl (hc32) rfl rfl fun a hf => ?_
                  refine op_val (ex_pick_t hf rfl hc32 rfl) rfl hf rfl rfl fun a hf => ?_
                  refine wpList_nil ?_
                  refine nor_then ?_
                  exact ⟨true, (hf.cons rfl (hf.cons rfl hf.nil)), hO, hm⟩
                · have hm := ie hc32 hm
                  refine op_guard rfl hf rfl rfl (hc32) ?_
                  refine op_val (ex_field fa_27_4 hf rfl) rfl hf rfl rfl fun a hf => ?_
                  refine op_guard rfl hf rfl rfl (hc32) ?_
                  refine op_val (ex_load1 (o := 4) ag_9 (hO.blkSees (i := 1) rfl) rfl hf rfl) rfl hf rfl rfl fun a hf => ?_
                  refine op_guard rfl hf rfl rfl (hc32) ?_
                  refine op_val (ex_field fa_27_4 hf rfl) rfl hf rfl rfl fun a hf => ?_
                  refine op_guard rfl hf rfl rfl (hc32) ?_
                  refine op_val (ex_load1 (o := 4) ag_9 (hO.blkSees (i := 3) rfl) rfl hf rfl) rfl hf rfl rfl fun a hf => ?_
                  refine op_guard rfl hf rfl rfl (hc32) ?_
                  refine op_val (ex_neq_s (l := r19.1.Reason) (m := x_a0.Reason) hf rfl rfl) rfl hf rfl rfl fun a hf => ?_
                  refine op_val (ex_pick_f hf rfl hc32 rfl) rfl hf rfl rfl fun a hf => ?_
                  refine wpList_nil ?_
                  refine nor_then ?_
                  exact ⟨!(r19.1.Reason == x_a0.Reason), (hf.cons rfl (hf.cons rfl hf.nil)), hO, hm⟩
      · rintro a w ⟨t33, hf, hO, hm⟩
        rw [ref14_Text_j2] at hm
        refine wp_cond_cut hf rfl (fun hc34 => ?_) (fun hc34 => ?_)
        · have hm := it hc34 hm
          refine wp_seq_k fun _ hK35 => ?_
          refine wp_region_list ?_
          refine op_val (ex_assign hf rfl) rfl hf rfl rfl fun a hf => ?_
          refine op_val (ex_assign hf rfl) rfl hf rfl rfl fun a hf => ?_
          refine wpList_nil ?_
          refine nor_then (hK35 _ _ ?_)
          refine wp_ret ?_
          refine ret_then ?_
          obtain rfl := Option.some.inj hm
          exact post_ret Tryz.results15 hf (.tmp rfl (.tmp rfl .nil)) ⟨rfl, hO.below⟩
        · have hm := ie hc34 hm
          refine wp_skip ?_
          refine nor_then (hK36 _ _ ?_)
          refine wp_seq_k fun _ hK37 => ?_
          refine wp_region_list ?_
          refine op_val (ex_move hf rfl) rfl hf rfl rfl fun a hf => ?_
          refine op_val (ex_assign hf rfl) rfl hf rfl rfl fun a hf => ?_
          refine op_val (ex_assign hf rfl) rfl hf rfl rfl fun a hf => ?_
          refine wpList_nil ?_
          refine nor_then (hK37 _ _ ?_)
          refine wp_ret ?_
          obtain rfl := Option.some.inj hm
          exact post_ret Tryz.results15 hf (.tmp rfl (.tmp rfl .nil)) ⟨rfl, hO.below⟩

end Go.Proofs
