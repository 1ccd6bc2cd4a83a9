/-
  Walks, written by a program (wip/gen): what its model says, the function returns; what was there before is as it was.
-/
import Derived.Test.YtnfkbhocbdheaabGreatDoorLib
import Derived.Test.YtnfkbhocbdheaabGreatDoorW0
import Derived.Test.YtnfkbhocbdheaabGreatDoorW1
import Derived.Test.YtnfkbhocbdheaabGreatDoorW2
import Derived.Test.YtnfkbhocbdheaabGreatDoorW3
set_option linter.unusedVariables false
set_option linter.unusedSimpArgs false
set_option maxRecDepth 100000
namespace Go.Proofs
open Go.Dk Go.Dm Go.RowKit

set_option maxHeartbeats 1000000 in
theorem w_target_absolute (x_s : Str) (R : api_Target × Bool) (w0 : World) (hG : GlobT w0) (hm : target_absolute x_s = some R) :
    Calls Tryz.prog 177 #[str x_s] w0 fun e w' => e = .returned (.tuple #[.agg #[int R.1.Kind, str R.1.Scheme, int R.1.Host.Kind, str R.1.Host.Name, int R.1.Host.Port, str R.1.Path, str R.1.Query, .bool R.1.HasQuery], .bool R.2]) ∧ Below w0.heap.size w0 w' := by
  rw [target_absolute] at hm
  refine calls_enter (vs := [str x_s]) Tryz.func177 rfl Tryz.ntmps177 rfl fun a hf => ?_
  have hF : Away [] := away_nil
  have hO : Dk.Own w0 [] w0 [] := Dk.Own.refl w0
  refine wp_seq_k fun _ hK2 => ?_
  refine wp_region_list ?_
  refine op_alloc al_75 hf rfl hO fun a b1 w hf hO => ?_
  refine op_val (ex_assign hf rfl) rfl hf rfl rfl fun a hf => ?_
  refine wpList_nil ?_
  refine nor_then (hK2 _ _ ?_)
  refine wp_seq_k fun _ hK4 => ?_
  refine wp_region_list ?_
  refine op_val (ex_move hf rfl) rfl hf rfl rfl fun a hf => ?_
  obtain ⟨r3, hr3, hm⟩ := ob hm
  refine op_enter (ex_call c_76 hf (vs := [str x_s, str [58, 47, 47]]) rfl) rfl hf rfl rfl (w_strings_Cut x_s [58, 47, 47] r3 _ (hG.own hF hO).1 hr3) ?_
  rintro e w' ⟨he, hb⟩
  refine ⟨_, he, fun a hf => ?_⟩
  have hO := hO.grow hb
  refine op_val (ex_move hf rfl) rfl hf rfl rfl fun a hf => ?_
  refine op_val (ex_extract hf rfl rfl) rfl hf rfl rfl fun a hf => ?_
  refine op_val (ex_extract hf rfl rfl) rfl hf rfl rfl fun a hf => ?_
  refine op_val (ex_extract hf rfl rfl) rfl hf rfl rfl fun a hf => ?_
  refine op_val (ex_assign hf rfl) rfl hf rfl rfl fun a hf => ?_
  refine op_val (ex_assign hf rfl) rfl hf rfl rfl fun a hf => ?_
  refine op_val (ex_assign hf rfl) rfl hf rfl rfl fun a hf => ?_
  refine wpList_nil ?_
  refine nor_then (hK4 _ _ ?_)
  refine wp_seq_k fun _ hK7 => ?_
  refine wp_region_list ?_
  refine op_val (ex_move hf rfl) rfl hf rfl rfl fun a hf => ?_
  obtain ⟨r5, hr5, hm⟩ := ob hm
  refine op_enter (ex_call c_104 hf (vs := [str r3.1]) rfl) rfl hf rfl rfl (w_octet_Fold r3.1 r5 _ (hG.own hF hO).1 hr5) ?_
  rintro e w' ⟨he, hb⟩
  refine ⟨_, he, fun a hf => ?_⟩
  have hO := hO.grow hb
  refine op_val (ex_build (vs := [(0, int 2), (1, str r5)]) (v := .agg #[int 2, str r5, int 0, str [], int 0, str [], str [], .bool false]) hf rfl (by kernel_rfl)) rfl hf rfl rfl fun a hf => ?_
  refine op_alloc al_75 hf rfl hO fun a b6 w hf hO => ?_
  refine op_storeN (i := 0) (n := 8) sz_75 rfl rfl rfl (by simp [Value.oneCell']) hf rfl rfl hO fun w hO => ?_
  refine wpList_nil ?_
  refine nor_then (hK7 _ _ ?_)
  refine wp_seq_k fun _ hK13 => ?_
  refine wp_seq_cut (fun a w => ∃ (t10 : Bool), Fits 58 [(2, ptr b1 0), (5, str r3.2.1), (7, ptr b6 0), (31, .bool t10)] a ∧ Dk.Own w0 [] w [.blk b6 [int 2, str r5, int 0, str [], int 0, str [], str [], .bool false] 75, .blk b1 [int 0, str [], int 0, str [], int 0, str [], str [], .bool false] 75] ∧ target_absolute_j1 r3 r5 t10 = some R) ?_ ?_
  · refine wp_region_list ?_
    refine op_val (ex_move hf rfl) rfl hf rfl rfl fun a hf => ?_
    refine op_val (ex_not hf rfl) rfl hf rfl rfl fun a hf => ?_
    refine op_val (ex_move hf rfl) rfl hf rfl rfl fun a hf => ?_
    rcases bcase (!r3.2.2) with hc8 | hc8
    · have hm := it hc8 hm
      refine op_pass rfl hf rfl rfl (hc8) rfl rfl fun a hf => ?_
      refine op_pass rfl hf rfl rfl (hc8) rfl rfl fun a hf => ?_
      refine op_pass rfl hf rfl rfl (hc8) rfl rfl fun a hf => ?_
      refine op_pass rfl hf rfl rfl (hc8) rfl rfl fun a hf => ?_
      refine op_passu rfl hf rfl rfl rfl rfl fun a hf => ?_
      refine op_passu rfl hf rfl rfl rfl rfl fun a hf => ?_
      refine op_passu rfl hf rfl rfl rfl rfl fun a hf => ?_
      refine op_pass rfl hf rfl rfl (hc8) rfl rfl fun a hf => ?_
      refine op_val (ex_pick_t hf rfl hc8 rfl) rfl hf rfl rfl fun a hf => ?_
      refine wpList_nil ?_
      refine nor_then ?_
      exact ⟨true, (hf.cons rfl (hf.cons rfl (hf.cons rfl (hf.cons rfl hf.nil)))), hO, hm⟩
    · have hm := ie hc8 hm
      refine op_guard rfl hf rfl rfl (hc8) ?_
      refine op_val (ex_field fa_75_1 hf rfl) rfl hf rfl rfl fun a hf => ?_
      refine op_guard rfl hf rfl rfl (hc8) ?_
      refine op_val (ex_load1 (o := 1) ag_9 (hO.blkSees (i := 0) rfl) rfl hf rfl) rfl hf rfl rfl fun a hf => ?_
      refine op_guard rfl hf rfl rfl (hc8) ?_
      refine op_val (ex_neq_s (l := r5) (m := [104, 116, 116, 112]) hf rfl rfl) rfl hf rfl rfl fun a hf => ?_
      refine op_guard rfl hf rfl rfl (hc8) ?_
      refine op_val (ex_move hf rfl) rfl hf rfl rfl fun a hf => ?_
      rcases bcase (!(r5 == [104, 116, 116, 112])) with hc9 | hc9
      · have hm := it hc9 hm
        refine op_guard rfl hf rfl rfl (hc9) ?_
        refine op_val (ex_field fa_75_1 hf rfl) rfl hf rfl rfl fun a hf => ?_
        refine op_guard rfl hf rfl rfl (hc9) ?_
        refine op_val (ex_load1 (o := 1) ag_9 (hO.blkSees (i := 0) rfl) rfl hf rfl) rfl hf rfl rfl fun a hf => ?_
        refine op_guard rfl hf rfl rfl (hc9) ?_
        refine op_val (ex_neq_s (l := r5) (m := [104, 116, 116, 112, 115]) hf rfl rfl) rfl hf rfl rfl fun a hf => ?_
        refine op_guard rfl hf rfl rfl (hc8) ?_
        refine op_val (ex_pick_t hf rfl hc9 rfl) rfl hf rfl rfl fun a hf => ?_
        refine op_val (ex_pick_f hf rfl hc8 rfl) rfl hf rfl rfl fun a hf => ?_
        refine wpList_nil ?_
        refine nor_then ?_
        exact ⟨!(r5 == [104, 116, 116, 112, 115]), (hf.cons rfl (hf.cons rfl (hf.cons rfl (hf.cons rfl hf.nil)))), hO, hm⟩
      · have hm := ie hc9 hm
        refine op_pass rfl hf rfl rfl (hc9) rfl rfl fun a hf => ?_
        refine op_pass rfl hf rfl rfl (hc9) rfl rfl fun a hf => ?_
        refine op_pass rfl hf rfl rfl (hc9) rfl rfl fun a hf => ?_
        refine op_guard rfl hf rfl rfl (hc8) ?_
        refine op_val (ex_pick_f hf rfl hc9 rfl) rfl hf rfl rfl fun a hf => ?_
        refine op_val (ex_pick_f hf rfl hc8 rfl) rfl hf rfl rfl fun a hf => ?_
        refine wpList_nil ?_
        refine nor_then ?_
        exact ⟨false, (hf.cons rfl (hf.cons rfl (hf.cons rfl (hf.cons rfl hf.nil)))), hO, hm⟩
  · rintro a w ⟨t10, hf, hO, hm⟩
    rw [target_absolute_j1] at hm
    refine wp_cond_cut hf rfl (fun hc11 => ?_) (fun hc11 => ?_)
    · have hm := it hc11 hm
      refine wp_seq_k fun _ hK12 => ?_
      refine wp_region_list ?_
      refine op_val (ex_loadN (o := 0) (vs := [int 2, str r5, int 0, str [], int 0, str [], str [], .bool false]) ag_75 sz_75 (hO.blkSees (i := 0) rfl) rfl rfl hf rfl) rfl hf rfl rfl fun a hf => ?_
      refine op_storeN (i := 1) (n := 8) sz_75 rfl rfl rfl (by simp [Value.oneCell']) hf rfl rfl hO fun w hO => ?_
      refine op_val (ex_assign hf rfl) rfl hf rfl rfl fun a hf => ?_
      refine wpList_nil ?_
      refine nor_then (hK12 _ _ ?_)
      refine wp_ret ?_
      refine ret_then ?_
      obtain rfl := Option.some.inj hm
      exact post_ret Tryz.results177 hf (.cell rfl (run_loadVarN (n := 8) (vs := [int 2, str r5, int 0, str [], int 0, str [], str [], .bool false]) ag_75 sz_75 rfl ((hO.blkSees (i := 1) rfl).cells (o := 0) (n := 8) rfl)) (.tmp rfl .nil)) ⟨rfl, hO.below⟩
    · have hm := ie hc11 hm
      refine wp_skip ?_
      refine nor_then (hK13 _ _ ?_)
      refine wp_seq_k fun _ hK15 => ?_
      refine wp_region_list ?_
      refine op_val (ex_move hf rfl) rfl hf rfl rfl fun a hf => ?_
      obtain ⟨r14, hr14, hm⟩ := ob hm
      refine op_enter (ex_call c_65 hf (vs := [str r3.2.1, str [47, 63]]) rfl) rfl hf rfl rfl (w_strings_IndexAny r3.2.1 [47, 63] r14 _ (hG.own hF hO).1 hr14) ?_
      rintro e w' ⟨he, hb⟩
      refine ⟨_, he, fun a hf => ?_⟩
      have hO := hO.grow hb
      refine op_val (ex_assign hf rfl) rfl hf rfl rfl fun a hf => ?_
      refine wpList_nil ?_
      refine nor_then (hK15 _ _ ?_)
      refine wp_seq_cut (fun a w => ∃ (i18 : Int), Fits 58 [(2, ptr b1 0), (5, str r3.2.1), (7, ptr b6 0), (8, int i18)] a ∧ Dk.Own w0 [] w [.blk b6 [int 2, str r5, int 0, str [], int 0, str [], str [], .bool false] 75, .blk b1 [int 0, str [], int 0, str [], int 0, str [], str [], .bool false] 75] ∧ target_absolute_j2 r3 r5 i18 = some R) ?_ ?_
      · refine wp_seq_k fun _ hK16 => ?_
        refine wp_region_list ?_
        refine op_val (ex_move hf rfl) rfl hf rfl rfl fun a hf => ?_
        refine op_val (ex_lss (m := r14) (n := 0) hf rfl rfl) rfl hf rfl rfl fun a hf => ?_
        refine wpList_nil ?_
        refine nor_then (hK16 _ _ ?_)
        refine wp_cond_cut hf rfl (fun hc17 => ?_) (fun hc17 => ?_)
        · have hm := it hc17 hm
          refine wp_region_list ?_
          refine op_val (ex_move hf rfl) rfl hf rfl rfl fun a hf => ?_
          refine op_val (ex_len_s (l := r3.2.1) Tryz.underlying9 hf rfl) rfl hf rfl rfl fun a hf => ?_
          refine op_val (ex_assign hf rfl) rfl hf rfl rfl fun a hf => ?_
          refine wpList_nil ?_
          refine nor_then ?_
          exact ⟨(r3.2.1.length : Int), (hf.cons rfl (hf.cons rfl (hf.cons rfl (hf.cons rfl hf.nil)))), hO, hm⟩
        · have hm := ie hc17 hm
          refine wp_skip ?_
          refine nor_then ?_
          exact ⟨r14, (hf.cons rfl (hf.cons rfl (hf.cons rfl (hf.cons rfl hf.nil)))), hO, hm⟩
      · rintro a w ⟨i18, hf, hO, hm⟩
        rw [target_absolute_j2] at hm
        refine wp_seq_k fun _ hK22 => ?_
        refine wp_region_list ?_
        refine op_val (ex_move hf rfl) rfl hf rfl rfl fun a hf => ?_
        refine op_val (ex_move hf rfl) rfl hf rfl rfl fun a hf => ?_
        obtain ⟨s19, hs19, hm⟩ := ob hm
        refine op_val (ex_to_s (l := r3.2.1) Tryz.underlying9 hf rfl rfl hs19) rfl hf rfl rfl fun a hf => ?_
        obtain ⟨r20, hr20, hm⟩ := ob hm
        refine op_enter (ex_call c_127 hf (vs := [str s19]) rfl) rfl hf rfl rfl (w_hostport_Parse s19 r20 _ (hG.own hF hO) hr20) ?_
        rintro e w' ⟨he, hb⟩
        refine ⟨_, he, fun a hf => ?_⟩
        have hO := hO.grow hb
        refine op_val (ex_move hf rfl) rfl hf rfl rfl fun a hf => ?_
        refine op_val (ex_extract hf rfl rfl) rfl hf rfl rfl fun a hf => ?_
        refine op_val (ex_extract hf rfl rfl) rfl hf rfl rfl fun a hf => ?_
        refine op_alloc al_73 hf rfl hO fun a b21 w hf hO => ?_
        refine op_storeN (i := 0) (n := 3) sz_73 rfl rfl rfl (by simp [Value.oneCell']) hf rfl rfl hO fun w hO => ?_
        refine op_val (ex_assign hf rfl) rfl hf rfl rfl fun a hf => ?_
        refine wpList_nil ?_
        refine nor_then (hK22 _ _ ?_)
        refine wp_seq_k fun _ hK26 => ?_
        refine wp_seq_k fun _ hK23 => ?_
        refine wp_region_list ?_
        refine op_val (ex_move hf rfl) rfl hf rfl rfl fun a hf => ?_
        refine op_val (ex_neq (m := r20.2) (n := 0) hf rfl rfl) rfl hf rfl rfl fun a hf => ?_
        refine wpList_nil ?_
        refine nor_then (hK23 _ _ ?_)
        refine wp_cond_cut hf rfl (fun hc24 => ?_) (fun hc24 => ?_)
        · have hm := it hc24 hm
          refine wp_seq_k fun _ hK25 => ?_
          refine wp_region_list ?_
          refine op_val (ex_loadN (o := 0) (vs := [int 2, str r5, int 0, str [], int 0, str [], str [], .bool false]) ag_75 sz_75 (hO.blkSees (i := 1) rfl) rfl rfl hf rfl) rfl hf rfl rfl fun a hf => ?_
          refine op_storeN (i := 2) (n := 8) sz_75 rfl rfl rfl (by simp [Value.oneCell']) hf rfl rfl hO fun w hO => ?_
          refine op_val (ex_assign hf rfl) rfl hf rfl rfl fun a hf => ?_
          refine wpList_nil ?_
          refine nor_then (hK25 _ _ ?_)
          refine wp_ret ?_
          refine ret_then ?_
          obtain rfl := Option.some.inj hm
          exact post_ret Tryz.results177 hf (.cell rfl (run_loadVarN (n := 8) (vs := [int 2, str r5, int 0, str [], int 0, str [], str [], .bool false]) ag_75 sz_75 rfl ((hO.blkSees (i := 2) rfl).cells (o := 0) (n := 8) rfl)) (.tmp rfl .nil)) ⟨rfl, hO.below⟩
        · have hm := ie hc24 hm
          refine wp_skip ?_
          refine nor_then (hK26 _ _ ?_)
          refine wp_seq_k fun _ hK27 => ?_
          refine wp_region_list ?_
          refine op_val (ex_loadN (o := 0) (vs := [int r20.1.Kind, str r20.1.Name, int r20.1.Port]) ag_73 sz_73 (hO.blkSees (i := 0) rfl) rfl rfl hf rfl) rfl hf rfl rfl fun a hf => ?_
          refine op_val (ex_field fa_75_2 hf rfl) rfl hf rfl rfl fun a hf => ?_
          refine op_storeP (i := 1) (n := 3) (o := 2) (vs := [int r20.1.Kind, str r20.1.Name, int r20.1.Port]) (cs' := [int 2, str r5, int r20.1.Kind, str r20.1.Name, int r20.1.Port, str [], str [], .bool false]) sz_73 rfl rfl rfl (by simp [Value.oneCell']) rfl hf rfl rfl hO fun w hO => ?_
          refine wpList_nil ?_
          refine nor_then (hK27 _ _ ?_)
          refine wp_seq_k fun _ hK30 => ?_
          obtain ⟨s28, hs28, hm⟩ := ob hm
          obtain ⟨r29, hr29, hm⟩ := ob hm
          refine wp_drawS' (S := Unit) (E0 := [(2, ptr b1 0), (5, str r3.2.1), (7, ptr b6 0), (8, int i18)]) (by kernel_rfl) (fun k σ w => match k with | 0 => Dk.Own w0 [] w [.blk b21 [int r20.1.Kind, str r20.1.Name, int r20.1.Port] 73, .blk b6 [int 2, str r5, int r20.1.Kind, str r20.1.Name, int r20.1.Port, str [], str [], .bool false] 75, .blk b1 [int 0, str [], int 0, str [], int 0, str [], str [], .bool false] 75] | 1 => Dk.Own w0 [] w [.blk b21 [int r20.1.Kind, str r20.1.Name, int r20.1.Port] 73, .blk b6 [int 2, str r5, int r20.1.Kind, str r20.1.Name, int r20.1.Port, str [], str [], .bool false] 75, .blk b1 [int 0, str [], int 0, str [], int 0, str [], str [], .bool false] 75] | _ => Dk.Own w0 [] w [.blk b21 [int r20.1.Kind, str r20.1.Name, int r20.1.Port] 73, .blk b6 [int 2, str r5, int r20.1.Kind, str r20.1.Name, int r20.1.Port, str [], str [], .bool false] 75, .blk b1 [int r29.1.Kind, str r29.1.Scheme, int r29.1.Host.Kind, str r29.1.Host.Name, int r29.1.Host.Port, str r29.1.Path, str r29.1.Query, .bool r29.1.HasQuery] 75]) (fun σ => [⟨[(7, ptr b6 0)], some (51, .agg #[int 2, str r5, int r20.1.Kind, str r20.1.Name, int r20.1.Port, str [], str [], .bool false])⟩, ⟨[(5, str r3.2.1)], some (52, str r3.2.1)⟩, ⟨[(8, int i18)], some (53, int i18)⟩, ⟨[(52, str r3.2.1), (53, int i18)], some (54, str s28)⟩, ⟨[(51, .agg #[int 2, str r5, int r20.1.Kind, str r20.1.Name, int r20.1.Port, str [], str [], .bool false]), (54, str s28)], some (55, .tuple #[.agg #[int r29.1.Kind, str r29.1.Scheme, int r29.1.Host.Kind, str r29.1.Host.Name, int r29.1.Host.Port, str r29.1.Path, str r29.1.Query, .bool r29.1.HasQuery], .bool r29.2])⟩, ⟨[(55, .tuple #[.agg #[int r29.1.Kind, str r29.1.Scheme, int r29.1.Host.Kind, str r29.1.Host.Name, int r29.1.Host.Port, str r29.1.Path, str r29.1.Query, .bool r29.1.HasQuery], .bool r29.2])], some (56, .agg #[int r29.1.Kind, str r29.1.Scheme, int r29.1.Host.Kind, str r29.1.Host.Name, int r29.1.Host.Port, str r29.1.Path, str r29.1.Query, .bool r29.1.HasQuery])⟩, ⟨[(55, .tuple #[.agg #[int r29.1.Kind, str r29.1.Scheme, int r29.1.Host.Kind, str r29.1.Host.Name, int r29.1.Host.Port, str r29.1.Path, str r29.1.Query, .bool r29.1.HasQuery], .bool r29.2])], some (57, .bool r29.2)⟩, ⟨[(2, ptr b1 0), (56, .agg #[int r29.1.Kind, str r29.1.Scheme, int r29.1.Host.Kind, str r29.1.Host.Name, int r29.1.Host.Port, str r29.1.Path, str r29.1.Query, .bool r29.1.HasQuery])], none⟩, ⟨[(57, .bool r29.2)], some (3, .bool r29.2)⟩]) () [4, 7] rfl (fun _ => rfl) (fun _ => rfl) (fun _ => rfl) rfl rfl (by decide) rfl hO.drew (hf.cons rfl (hf.cons rfl (hf.cons rfl (hf.cons rfl hf.nil)))) (fun σ => ⟨⟨rfl, trivial⟩, ⟨⟨rfl, trivial⟩, ⟨⟨rfl, trivial⟩, ⟨⟨rfl, ⟨rfl, trivial⟩⟩, ⟨⟨rfl, ⟨rfl, trivial⟩⟩, ⟨⟨rfl, trivial⟩, ⟨⟨rfl, trivial⟩, ⟨⟨rfl, ⟨rfl, trivial⟩⟩, ⟨⟨rfl, trivial⟩, trivial⟩⟩⟩⟩⟩⟩⟩⟩⟩) ⟨sS_pure rfl (fun σ => rfl) (fun σ => rfl) (fun σ a w k hk hlo hup hst hf => match k, hk, hlo, hup, hst, hf with | 0, _, _, _, hst, hf => have hO : Dk.Own w0 [] w [.blk b21 [int r20.1.Kind, str r20.1.Name, int r20.1.Port] 73, .blk b6 [int 2, str r5, int r20.1.Kind, str r20.1.Name, int r20.1.Port, str [], str [], .bool false] 75, .blk b1 [int 0, str [], int 0, str [], int 0, str [], str [], .bool false] 75] := hst; ex_loadN (o := 0) (vs := [int 2, str r5, int r20.1.Kind, str r20.1.Name, int r20.1.Port, str [], str [], .bool false]) ag_75 sz_75 (hO.blkSees (i := 1) rfl) rfl rfl hf rfl | 1, _, _, _, hst, hf => have hO : Dk.Own w0 [] w [.blk b21 [int r20.1.Kind, str r20.1.Name, int r20.1.Port] 73, .blk b6 [int 2, str r5, int r20.1.Kind, str r20.1.Name, int r20.1.Port, str [], str [], .bool false] 75, .blk b1 [int 0, str [], int 0, str [], int 0, str [], str [], .bool false] 75] := hst; ex_loadN (o := 0) (vs := [int 2, str r5, int r20.1.Kind, str r20.1.Name, int r20.1.Port, str [], str [], .bool false]) ag_75 sz_75 (hO.blkSees (i := 1) rfl) rfl rfl hf rfl | 2, _, _, _, hst, hf => have hO : Dk.Own w0 [] w [.blk b21 [int r20.1.Kind, str r20.1.Name, int r20.1.Port] 73, .blk b6 [int 2, str r5, int r20.1.Kind, str r20.1.Name, int r20.1.Port, str [], str [], .bool false] 75, .blk b1 [int r29.1.Kind, str r29.1.Scheme, int r29.1.Host.Kind, str r29.1.Host.Name, int r29.1.Host.Port, str r29.1.Path, str r29.1.Query, .bool r29.1.HasQuery] 75] := hst; ex_loadN (o := 0) (vs := [int 2, str r5, int r20.1.Kind, str r20.1.Name, int r20.1.Port, str [], str [], .bool false]) ag_75 sz_75 (hO.blkSees (i := 1) rfl) rfl rfl hf rfl | k + 3, hk, _, _, _, _ => absurd hk (by simp)), ⟨sS_pure rfl (fun σ => rfl) (fun σ => rfl) (fun σ a w k _ _ _ _ hf => ex_move hf rfl), ⟨sS_pure rfl (fun σ => rfl) (fun σ => rfl) (fun σ a w k _ _ _ _ hf => ex_move hf rfl), ⟨sS_pure rfl (fun σ => rfl) (fun σ => rfl) (fun σ a w k _ _ _ _ hf => ex_from_s (l := r3.2.1) Tryz.underlying9 hf rfl rfl hs28), ⟨sS_call rfl (fun σ => rfl) (fun σ => rfl) rfl (fun σ a w (_ : _) hf => ex_call c_178 hf (vs := [.agg #[int 2, str r5, int r20.1.Kind, str r20.1.Name, int r20.1.Port, str [], str [], .bool false], str s28]) rfl) (fun σ w (hO : Dk.Own w0 [] w [.blk b21 [int r20.1.Kind, str r20.1.Name, int r20.1.Port] 73, .blk b6 [int 2, str r5, int r20.1.Kind, str r20.1.Name, int r20.1.Port, str [], str [], .bool false] 75, .blk b1 [int 0, str [], int 0, str [], int 0, str [], str [], .bool false] 75]) => (w_target_tail (⟨2, r5, r20.1, [], [], false⟩ : api_Target) s28 r29 _ (hG.own hF hO).1 hr29).mono fun e w' h => by obtain ⟨he, hb⟩ := h; exact ⟨(), he, hO.grow hb, ⟨.inr rfl, ⟨.inr rfl, ⟨.inr rfl, ⟨.inr rfl, ⟨.inr rfl, ⟨.inr rfl, ⟨.inr rfl, ⟨.inr rfl, ⟨.inr rfl, trivial⟩⟩⟩⟩⟩⟩⟩⟩⟩⟩), ⟨sS_pure rfl (fun σ => rfl) (fun σ => rfl) (fun σ a w k _ _ _ _ hf => ex_extract hf rfl rfl), ⟨sS_pure rfl (fun σ => rfl) (fun σ => rfl) (fun σ a w k _ _ _ _ hf => ex_extract hf rfl rfl), ⟨sS_skip rfl (fun σ => rfl) (fun σ => rfl) rfl (fun σ w (hO : Dk.Own w0 [] w [.blk b21 [int r20.1.Kind, str r20.1.Name, int r20.1.Port] 73, .blk b6 [int 2, str r5, int r20.1.Kind, str r20.1.Name, int r20.1.Port, str [], str [], .bool false] 75, .blk b1 [int 0, str [], int 0, str [], int 0, str [], str [], .bool false] 75]) => by obtain ⟨w', hO', hr⟩ := ef_storeN (x := (.tmp 2)) (y := (.tmp 56)) (E := [(2, ptr b1 0), (56, .agg #[int r29.1.Kind, str r29.1.Scheme, int r29.1.Host.Kind, str r29.1.Host.Name, int r29.1.Host.Port, str r29.1.Path, str r29.1.Query, .bool r29.1.HasQuery])]) (i := 2) (n := 8) (vs := [int r29.1.Kind, str r29.1.Scheme, int r29.1.Host.Kind, str r29.1.Host.Name, int r29.1.Host.Port, str r29.1.Path, str r29.1.Query, .bool r29.1.HasQuery]) sz_75 rfl rfl rfl (by simp [Value.oneCell']) hO rfl rfl; exact ⟨(), w', hO', ⟨.inr rfl, ⟨.inr rfl, ⟨.inr rfl, ⟨.inr rfl, ⟨.inr rfl, ⟨.inr rfl, ⟨.inr rfl, ⟨.inr rfl, ⟨.inr rfl, trivial⟩⟩⟩⟩⟩⟩⟩⟩⟩, hr⟩), ⟨sS_pure rfl (fun σ => rfl) (fun σ => rfl) (fun σ a w k _ _ _ _ hf => ex_assign hf rfl), trivial⟩⟩⟩⟩⟩⟩⟩⟩⟩ ?_
          rintro _ a w hf hO
          have hO : Dk.Own w0 [] w [.blk b21 [int r20.1.Kind, str r20.1.Name, int r20.1.Port] 73, .blk b6 [int 2, str r5, int r20.1.Kind, str r20.1.Name, int r20.1.Port, str [], str [], .bool false] 75, .blk b1 [int r29.1.Kind, str r29.1.Scheme, int r29.1.Host.Kind, str r29.1.Host.Name, int r29.1.Host.Port, str r29.1.Path, str r29.1.Query, .bool r29.1.HasQuery] 75] := hO
          have hf : Fits 58 [(2, ptr b1 0), (3, .bool r29.2)] a := (hf.cons rfl (hf.cons rfl hf.nil))
          refine nor_then (hK30 _ _ ?_)
          refine wp_ret ?_
          obtain rfl := Option.some.inj hm
          exact post_ret Tryz.results177 hf (.cell rfl (run_loadVarN (n := 8) (vs := [int r29.1.Kind, str r29.1.Scheme, int r29.1.Host.Kind, str r29.1.Host.Name, int r29.1.Host.Port, str r29.1.Path, str r29.1.Query, .bool r29.1.HasQuery]) ag_75 sz_75 rfl ((hO.blkSees (i := 2) rfl).cells (o := 0) (n := 8) rfl)) (.tmp rfl .nil)) ⟨rfl, hO.below⟩

set_option maxHeartbeats 1000000 in
theorem w_target_of (x_method : Str) (x_s : Str) (R : api_Target × Bool) (w0 : World) (hG : GlobT w0) (hm : target_of x_method x_s = some R) :
    Calls Tryz.prog 128 #[str x_method, str x_s] w0 fun e w' => e = .returned (.tuple #[.agg #[int R.1.Kind, str R.1.Scheme, int R.1.Host.Kind, str R.1.Host.Name, int R.1.Host.Port, str R.1.Path, str R.1.Query, .bool R.1.HasQuery], .bool R.2]) ∧ Below w0.heap.size w0 w' := by
  rw [target_of] at hm
  refine calls_enter (vs := [str x_method, str x_s]) Tryz.func128 rfl Tryz.ntmps128 rfl fun a hf => ?_
  have hF : Away [] := away_nil
  have hO : Dk.Own w0 [] w0 [] := Dk.Own.refl w0
  refine wp_seq_k fun _ hK2 => ?_
  refine wp_region_list ?_
  refine op_alloc al_75 hf rfl hO fun a b1 w hf hO => ?_
  refine op_val (ex_assign hf rfl) rfl hf rfl rfl fun a hf => ?_
  refine wpList_nil ?_
  refine nor_then (hK2 _ _ ?_)
  refine wp_seq_k fun _ hK6 => ?_
  refine wp_seq_k fun _ hK3 => ?_
  refine wp_region_list ?_
  refine op_val (ex_move hf rfl) rfl hf rfl rfl fun a hf => ?_
  refine op_val (ex_eql_s (l := x_s) (m := [42]) hf rfl rfl) rfl hf rfl rfl fun a hf => ?_
  refine wpList_nil ?_
  refine nor_then (hK3 _ _ ?_)
  refine wp_cond_cut hf rfl (fun hc4 => ?_) (fun hc4 => ?_)
  · have hm := it hc4 hm
    refine wp_seq_k fun _ hK5 => ?_
    refine wp_region_list ?_
    refine op_val (ex_build (vs := [(0, int 4)]) (v := .agg #[int 4, str [], int 0, str [], int 0, str [], str [], .bool false]) hf rfl (by kernel_rfl)) rfl hf rfl rfl fun a hf => ?_
    refine op_val (ex_move hf rfl) rfl hf rfl rfl fun a hf => ?_
    refine op_val (ex_eql_s (l := x_method) (m := [79, 80, 84, 73, 79, 78, 83]) hf rfl rfl) rfl hf rfl rfl fun a hf => ?_
    refine op_storeN (i := 0) (n := 8) sz_75 rfl rfl rfl (by simp [Value.oneCell']) hf rfl rfl hO fun w hO => ?_
    refine op_val (ex_assign hf rfl) rfl hf rfl rfl fun a hf => ?_
    refine wpList_nil ?_
    refine nor_then (hK5 _ _ ?_)
    refine wp_ret ?_
    refine ret_then ?_
    obtain rfl := Option.some.inj hm
    exact post_ret Tryz.results128 hf (.cell rfl (run_loadVarN (n := 8) (vs := [int 4, str [], int 0, str [], int 0, str [], str [], .bool false]) ag_75 sz_75 rfl ((hO.blkSees (i := 0) rfl).cells (o := 0) (n := 8) rfl)) (.tmp rfl .nil)) ⟨rfl, hO.below⟩
  · have hm := ie hc4 hm
    refine wp_skip ?_
    refine nor_then (hK6 _ _ ?_)
    refine wp_seq_k fun _ hK12 => ?_
    refine wp_seq_k fun _ hK8 => ?_
    refine wp_region_list ?_
    refine op_val (ex_move hf rfl) rfl hf rfl rfl fun a hf => ?_
    obtain ⟨r7, hr7, hm⟩ := ob hm
    refine op_enter (ex_call c_176 hf (vs := [str x_s, str [47]]) rfl) rfl hf rfl rfl (w_strings_HasPrefix x_s [47] r7 _ (hG.own hF hO).1 hr7) ?_
    rintro e w' ⟨he, hb⟩
    refine ⟨_, he, fun a hf => ?_⟩
    have hO := hO.grow hb
    refine op_val (ex_not hf rfl) rfl hf rfl rfl fun a hf => ?_
    refine wpList_nil ?_
    refine nor_then (hK8 _ _ ?_)
    refine wp_cond_cut hf rfl (fun hc9 => ?_) (fun hc9 => ?_)
    · have hm := it hc9 hm
      refine wp_seq_k fun _ hK11 => ?_
      refine wp_region_list ?_
      refine op_val (ex_move hf rfl) rfl hf rfl rfl fun a hf => ?_
      obtain ⟨r10, hr10, hm⟩ := ob hm
      refine op_enter (ex_call c_177 hf (vs := [str x_s]) rfl) rfl hf rfl rfl (w_target_absolute x_s r10 _ (hG.own hF hO) hr10) ?_
      rintro e w' ⟨he, hb⟩
      refine ⟨_, he, fun a hf => ?_⟩
      have hO := hO.grow hb
      refine op_val (ex_extract hf rfl rfl) rfl hf rfl rfl fun a hf => ?_
      refine op_val (ex_extract hf rfl rfl) rfl hf rfl rfl fun a hf => ?_
      refine op_storeN (i := 0) (n := 8) sz_75 rfl rfl rfl (by simp [Value.oneCell']) hf rfl rfl hO fun w hO => ?_
      refine op_val (ex_assign hf rfl) rfl hf rfl rfl fun a hf => ?_
      refine wpList_nil ?_
      refine nor_then (hK11 _ _ ?_)
      refine wp_ret ?_
      refine ret_then ?_
      obtain rfl := Option.some.inj hm
      exact post_ret Tryz.results128 hf (.cell rfl (run_loadVarN (n := 8) (vs := [int r10.1.Kind, str r10.1.Scheme, int r10.1.Host.Kind, str r10.1.Host.Name, int r10.1.Host.Port, str r10.1.Path, str r10.1.Query, .bool r10.1.HasQuery]) ag_75 sz_75 rfl ((hO.blkSees (i := 0) rfl).cells (o := 0) (n := 8) rfl)) (.tmp rfl .nil)) ⟨rfl, hO.below⟩
    · have hm := ie hc9 hm
      refine wp_skip ?_
      refine nor_then (hK12 _ _ ?_)
      refine wp_seq_k fun _ hK15 => ?_
      refine wp_region_list ?_
      refine op_val (ex_build (vs := [(0, int 1)]) (v := .agg #[int 1, str [], int 0, str [], int 0, str [], str [], .bool false]) hf rfl (by kernel_rfl)) rfl hf rfl rfl fun a hf => ?_
      refine op_val (ex_move hf rfl) rfl hf rfl rfl fun a hf => ?_
      obtain ⟨r13, hr13, hm⟩ := ob hm
      refine op_enter (ex_call c_178 hf (vs := [.agg #[int 1, str [], int 0, str [], int 0, str [], str [], .bool false], str x_s]) rfl) rfl hf rfl rfl (w_target_tail ((⟨1, [], (⟨0, [], 0⟩ : api_Host), [], [], false⟩ : api_Target)) x_s r13 _ (hG.own hF hO).1 hr13) ?_
      rintro e w' ⟨he, hb⟩
      refine ⟨_, he, fun a hf => ?_⟩
      have hO := hO.grow hb
      refine op_val (ex_move hf rfl) rfl hf rfl rfl fun a hf => ?_
      refine op_val (ex_extract hf rfl rfl) rfl hf rfl rfl fun a hf => ?_
      refine op_val (ex_extract hf rfl rfl) rfl hf rfl rfl fun a hf => ?_
      refine op_alloc al_75 hf rfl hO fun a b14 w hf hO => ?_
      refine op_storeN (i := 0) (n := 8) sz_75 rfl rfl rfl (by simp [Value.oneCell']) hf rfl rfl hO fun w hO => ?_
      refine op_val (ex_assign hf rfl) rfl hf rfl rfl fun a hf => ?_
      refine wpList_nil ?_
      refine nor_then (hK15 _ _ ?_)
      refine wp_seq_k fun _ hK16 => ?_
      refine wp_region_list ?_
      refine op_val (ex_loadN (o := 0) (vs := [int r13.1.Kind, str r13.1.Scheme, int r13.1.Host.Kind, str r13.1.Host.Name, int r13.1.Host.Port, str r13.1.Path, str r13.1.Query, .bool r13.1.HasQuery]) ag_75 sz_75 (hO.blkSees (i := 0) rfl) rfl rfl hf rfl) rfl hf rfl rfl fun a hf => ?_
      refine op_val (ex_move hf rfl) rfl hf rfl rfl fun a hf => ?_
      refine op_storeN (i := 1) (n := 8) sz_75 rfl rfl rfl (by simp [Value.oneCell']) hf rfl rfl hO fun w hO => ?_
      refine op_val (ex_assign hf rfl) rfl hf rfl rfl fun a hf => ?_
      refine wpList_nil ?_
      refine nor_then (hK16 _ _ ?_)
      refine wp_ret ?_
      obtain rfl := Option.some.inj hm
      exact post_ret Tryz.results128 hf (.cell rfl (run_loadVarN (n := 8) (vs := [int r13.1.Kind, str r13.1.Scheme, int r13.1.Host.Kind, str r13.1.Host.Name, int r13.1.Host.Port, str r13.1.Path, str r13.1.Query, .bool r13.1.HasQuery]) ag_75 sz_75 rfl ((hO.blkSees (i := 1) rfl).cells (o := 0) (n := 8) rfl)) (.tmp rfl .nil)) ⟨rfl, hO.below⟩

set_option maxHeartbeats 1000000 in
theorem w_target_Parse (x_method : Str) (x_s : Str) (R : api_Target × Int) (w0 : World) (hG : GlobT w0) (hm : target_Parse x_method x_s = some R) :
    Calls Tryz.prog 74 #[str x_method, str x_s] w0 fun e w' => e = .returned (.tuple #[.agg #[int R.1.Kind, str R.1.Scheme, int R.1.Host.Kind, str R.1.Host.Name, int R.1.Host.Port, str R.1.Path, str R.1.Query, .bool R.1.HasQuery], int R.2]) ∧ Below w0.heap.size w0 w' := by
  rw [target_Parse] at hm
  refine calls_enter (vs := [str x_method, str x_s]) Tryz.func74 rfl Tryz.ntmps74 rfl fun a hf => ?_
  have hF : Away [] := away_nil
  have hO : Dk.Own w0 [] w0 [] := Dk.Own.refl w0
  refine wp_seq_k fun _ hK2 => ?_
  refine wp_region_list ?_
  refine op_alloc al_75 hf rfl hO fun a b1 w hf hO => ?_
  refine op_val (ex_assign hf rfl) rfl hf rfl rfl fun a hf => ?_
  refine wpList_nil ?_
  refine nor_then (hK2 _ _ ?_)
  refine wp_seq_k fun _ hK14 => ?_
  refine wp_seq_k fun _ hK3 => ?_
  refine wp_region_list ?_
  refine op_val (ex_move hf rfl) rfl hf rfl rfl fun a hf => ?_
  refine op_val (ex_eql_s (l := x_method) (m := [67, 79, 78, 78, 69, 67, 84]) hf rfl rfl) rfl hf rfl rfl fun a hf => ?_
  refine wpList_nil ?_
  refine nor_then (hK3 _ _ ?_)
  refine wp_cond_cut hf rfl (fun hc4 => ?_) (fun hc4 => ?_)
  · have hm := it hc4 hm
    refine wp_seq_k fun _ hK7 => ?_
    refine wp_region_list ?_
    refine op_val (ex_move hf rfl) rfl hf rfl rfl fun a hf => ?_
    obtain ⟨r5, hr5, hm⟩ := ob hm
    refine op_enter (ex_call c_127 hf (vs := [str x_s]) rfl) rfl hf rfl rfl (w_hostport_Parse x_s r5 _ (hG.own hF hO) hr5) ?_
    rintro e w' ⟨he, hb⟩
    refine ⟨_, he, fun a hf => ?_⟩
    have hO := hO.grow hb
    refine op_val (ex_move hf rfl) rfl hf rfl rfl fun a hf => ?_
    refine op_val (ex_extract hf rfl rfl) rfl hf rfl rfl fun a hf => ?_
    refine op_val (ex_extract hf rfl rfl) rfl hf rfl rfl fun a hf => ?_
    refine op_alloc al_73 hf rfl hO fun a b6 w hf hO => ?_
    refine op_storeN (i := 0) (n := 3) sz_73 rfl rfl rfl (by simp [Value.oneCell']) hf rfl rfl hO fun w hO => ?_
    refine op_val (ex_assign hf rfl) rfl hf rfl rfl fun a hf => ?_
    refine wpList_nil ?_
    refine nor_then (hK7 _ _ ?_)
    refine wp_seq_k fun _ hK12 => ?_
    refine wp_seq_cut (fun a w => ∃ (t9 : Bool), Fits 37 [(4, ptr b1 0), (6, ptr b6 0), (23, .bool t9)] a ∧ Dk.Own w0 [] w [.blk b6 [int r5.1.Kind, str r5.1.Name, int r5.1.Port] 73, .blk b1 [int 0, str [], int 0, str [], int 0, str [], str [], .bool false] 75] ∧ target_Parse_j1 r5 t9 = some R) ?_ ?_
    · refine wp_region_list ?_
      refine op_val (ex_move hf rfl) rfl hf rfl rfl fun a hf => ?_
      refine op_val (ex_neq (m := r5.2) (n := 0) hf rfl rfl) rfl hf rfl rfl fun a hf => ?_
      refine op_val (ex_move hf rfl) rfl hf rfl rfl fun a hf => ?_
      rcases bcase (!(r5.2 == 0)) with hc8 | hc8
      · have hm := it hc8 hm
        refine op_pass rfl hf rfl rfl (hc8) rfl rfl fun a hf => ?_
        refine op_pass rfl hf rfl rfl (hc8) rfl rfl fun a hf => ?_
        refine op_pass rfl hf rfl rfl (hc8) rfl rfl fun a hf => ?_
        refine op_val (ex_pick_t hf rfl hc8 rfl) rfl hf rfl rfl fun a hf => ?_
        refine wpList_nil ?_
        refine nor_then ?_
        exact ⟨true, (hf.cons rfl (hf.cons rfl (hf.cons rfl hf.nil))), hO, hm⟩
      · have hm := ie hc8 hm
        refine op_guard rfl hf rfl rfl (hc8) ?_
        refine op_val (ex_field fa_73_2 hf rfl) rfl hf rfl rfl fun a hf => ?_
        refine op_guard rfl hf rfl rfl (hc8) ?_
        refine op_val (ex_load1 (o := 2) ag_3 (hO.blkSees (i := 0) rfl) rfl hf rfl) rfl hf rfl rfl fun a hf => ?_
        refine op_guard rfl hf rfl rfl (hc8) ?_
        refine op_val (ex_lss (m := r5.1.Port) (n := 0) hf rfl rfl) rfl hf rfl rfl fun a hf => ?_
        refine op_val (ex_pick_f hf rfl hc8 rfl) rfl hf rfl rfl fun a hf => ?_
        refine wpList_nil ?_
        refine nor_then ?_
        exact ⟨decide (r5.1.Port < 0), (hf.cons rfl (hf.cons rfl (hf.cons rfl hf.nil))), hO, hm⟩
    · rintro a w ⟨t9, hf, hO, hm⟩
      rw [target_Parse_j1] at hm
      refine wp_cond_cut hf rfl (fun hc10 => ?_) (fun hc10 => ?_)
      · have hm := it hc10 hm
        refine wp_seq_k fun _ hK11 => ?_
        refine wp_region_list ?_
        refine op_val (ex_build (vs := []) (v := .agg #[int 0, str [], int 0, str [], int 0, str [], str [], .bool false]) hf rfl (by kernel_rfl)) rfl hf rfl rfl fun a hf => ?_
        refine op_storeN (i := 1) (n := 8) sz_75 rfl rfl rfl (by simp [Value.oneCell']) hf rfl rfl hO fun w hO => ?_
        refine op_val (ex_assign hf rfl) rfl hf rfl rfl fun a hf => ?_
        refine wpList_nil ?_
        refine nor_then (hK11 _ _ ?_)
        refine wp_ret ?_
        refine ret_then ?_
        refine ret_then ?_
        obtain rfl := Option.some.inj hm
        exact post_ret Tryz.results74 hf (.cell rfl (run_loadVarN (n := 8) (vs := [int 0, str [], int 0, str [], int 0, str [], str [], .bool false]) ag_75 sz_75 rfl ((hO.blkSees (i := 1) rfl).cells (o := 0) (n := 8) rfl)) (.tmp rfl .nil)) ⟨rfl, hO.below⟩
      · have hm := ie hc10 hm
        refine wp_skip ?_
        refine nor_then (hK12 _ _ ?_)
        refine wp_seq_k fun _ hK13 => ?_
        refine wp_region_list ?_
        refine op_val (ex_loadN (o := 0) (vs := [int r5.1.Kind, str r5.1.Name, int r5.1.Port]) ag_73 sz_73 (hO.blkSees (i := 0) rfl) rfl rfl hf rfl) rfl hf rfl rfl fun a hf => ?_
        refine op_val (ex_build (vs := [(0, int 3), (2, .agg #[int r5.1.Kind, str r5.1.Name, int r5.1.Port])]) (v := .agg #[int 3, str [], int r5.1.Kind, str r5.1.Name, int r5.1.Port, str [], str [], .bool false]) hf rfl (by kernel_rfl)) rfl hf rfl rfl fun a hf => ?_
        refine op_storeN (i := 1) (n := 8) sz_75 rfl rfl rfl (by simp [Value.oneCell']) hf rfl rfl hO fun w hO => ?_
        refine op_val (ex_assign hf rfl) rfl hf rfl rfl fun a hf => ?_
        refine wpList_nil ?_
        refine nor_then (hK13 _ _ ?_)
        refine wp_ret ?_
        refine ret_then ?_
        obtain rfl := Option.some.inj hm
        exact post_ret Tryz.results74 hf (.cell rfl (run_loadVarN (n := 8) (vs := [int 3, str [], int r5.1.Kind, str r5.1.Name, int r5.1.Port, str [], str [], .bool false]) ag_75 sz_75 rfl ((hO.blkSees (i := 1) rfl).cells (o := 0) (n := 8) rfl)) (.tmp rfl .nil)) ⟨rfl, hO.below⟩
  · have hm := ie hc4 hm
    refine wp_skip ?_
    refine nor_then (hK14 _ _ ?_)
    refine wp_seq_k fun _ hK17 => ?_
    refine wp_region_list ?_
    refine op_val (ex_move hf rfl) rfl hf rfl rfl fun a hf => ?_
    refine op_val (ex_move hf rfl) rfl hf rfl rfl fun a hf => ?_
    obtain ⟨r15, hr15, hm⟩ := ob hm
    refine op_enter (ex_call c_128 hf (vs := [str x_method, str x_s]) rfl) rfl hf rfl rfl (w_target_of x_method x_s r15 _ (hG.own hF hO) hr15) ?_
    rintro e w' ⟨he, hb⟩
    refine ⟨_, he, fun a hf => ?_⟩
    have hO := hO.grow hb
    refine op_val (ex_move hf rfl) rfl hf rfl rfl fun a hf => ?_
    refine op_val (ex_extract hf rfl rfl) rfl hf rfl rfl fun a hf => ?_
    refine op_val (ex_extract hf rfl rfl) rfl hf rfl rfl fun a hf => ?_
    refine op_alloc al_75 hf rfl hO fun a b16 w hf hO => ?_
    refine op_storeN (i := 0) (n := 8) sz_75 rfl rfl rfl (by simp [Value.oneCell']) hf rfl rfl hO fun w hO => ?_
    refine op_val (ex_assign hf rfl) rfl hf rfl rfl fun a hf => ?_
    refine wpList_nil ?_
    refine nor_then (hK17 _ _ ?_)
    refine wp_seq_k fun _ hK21 => ?_
    refine wp_seq_k fun _ hK18 => ?_
    refine wp_region_list ?_
    refine op_val (ex_move hf rfl) rfl hf rfl rfl fun a hf => ?_
    refine op_val (ex_not hf rfl) rfl hf rfl rfl fun a hf => ?_
    refine wpList_nil ?_
    refine nor_then (hK18 _ _ ?_)
    refine wp_cond_cut hf rfl (fun hc19 => ?_) (fun hc19 => ?_)
    · have hm := it hc19 hm
      refine wp_seq_k fun _ hK20 => ?_
      refine wp_region_list ?_
      refine op_val (ex_build (vs := []) (v := .agg #[int 0, str [], int 0, str [], int 0, str [], str [], .bool false]) hf rfl (by kernel_rfl)) rfl hf rfl rfl fun a hf => ?_
      refine op_storeN (i := 1) (n := 8) sz_75 rfl rfl rfl (by simp [Value.oneCell']) hf rfl rfl hO fun w hO => ?_
      refine op_val (ex_assign hf rfl) rfl hf rfl rfl fun a hf => ?_
      refine wpList_nil ?_
      refine nor_then (hK20 _ _ ?_)
      refine wp_ret ?_
      refine ret_then ?_
      obtain rfl := Option.some.inj hm
      exact post_ret Tryz.results74 hf (.cell rfl (run_loadVarN (n := 8) (vs := [int 0, str [], int 0, str [], int 0, str [], str [], .bool false]) ag_75 sz_75 rfl ((hO.blkSees (i := 1) rfl).cells (o := 0) (n := 8) rfl)) (.tmp rfl .nil)) ⟨rfl, hO.below⟩
    · have hm := ie hc19 hm
      refine wp_skip ?_
      refine nor_then (hK21 _ _ ?_)
      refine wp_seq_k fun _ hK22 => ?_
      refine wp_region_list ?_
      refine op_val (ex_loadN (o := 0) (vs := [int r15.1.Kind, str r15.1.Scheme, int r15.1.Host.Kind, str r15.1.Host.Name, int r15.1.Host.Port, str r15.1.Path, str r15.1.Query, .bool r15.1.HasQuery]) ag_75 sz_75 (hO.blkSees (i := 0) rfl) rfl rfl hf rfl) rfl hf rfl rfl fun a hf => ?_
      refine op_storeN (i := 1) (n := 8) sz_75 rfl rfl rfl (by simp [Value.oneCell']) hf rfl rfl hO fun w hO => ?_
      refine op_val (ex_assign hf rfl) rfl hf rfl rfl fun a hf => ?_
      refine wpList_nil ?_
      refine nor_then (hK22 _ _ ?_)
      refine wp_ret ?_
      obtain rfl := Option.some.inj hm
      exact post_ret Tryz.results74 hf (.cell rfl (run_loadVarN (n := 8) (vs := [int r15.1.Kind, str r15.1.Scheme, int r15.1.Host.Kind, str r15.1.Host.Name, int r15.1.Host.Port, str r15.1.Path, str r15.1.Query, .bool r15.1.HasQuery]) ag_75 sz_75 rfl ((hO.blkSees (i := 1) rfl).cells (o := 0) (n := 8) rfl)) (.tmp rfl .nil)) ⟨rfl, hO.below⟩

set_option maxHeartbeats 1000000 in
theorem w_startline_request (x_a0 : Str) (R : api_Head × Int) (w0 : World) (hG : GlobT w0) (hm : startline_request x_a0 = some R) :
    Calls Tryz.prog 35 #[str x_a0] w0 fun e w' => ∃ (p0 : Option Addr) (c0 : Nat), e = .returned (.tuple #[.agg #[int R.1.Kind, str R.1.Method, str R.1.Target, int R.1.Code, str R.1.Reason, int R.1.Minor, .slice p0 R.1.Fields.length c0], int R.2]) ∧ Dk.Own w0 [] w' [.row (.slice p0 R.1.Fields.length c0) 86 2 R.1.Fields.length (cells enc_api_Field R.1.Fields)] := by
  rw [startline_request] at hm
  refine calls_enter (vs := [str x_a0]) Tryz.func35 rfl Tryz.ntmps35 rfl fun a hf => ?_
  have hF : Away [] := away_nil
  have hO : Dk.Own w0 [] w0 [] := Dk.Own.refl w0
  refine wp_seq_k fun _ hK2 => ?_
  refine wp_region_list ?_
  refine op_alloc al_27 hf rfl hO fun a b1 w hf hO => ?_
  have hO := hO.nilRow 86 2
  refine op_val (ex_assign hf rfl) rfl hf rfl rfl fun a hf => ?_
  refine wpList_nil ?_
  refine nor_then (hK2 _ _ ?_)
  refine wp_seq_k fun _ hK4 => ?_
  refine wp_region_list ?_
  refine op_val (ex_build (vs := [(0, int 1)]) (v := .agg #[int 1, str [], str [], int 0, str [], int 0, .slice none 0 0]) hf rfl (by kernel_rfl)) rfl hf rfl rfl fun a hf => ?_
  refine op_alloc al_27 hf rfl hO fun a b3 w hf hO => ?_
  have hO := hO.nilRow 86 2
  refine op_storeN (i := 1) (n := 7) sz_27 rfl rfl rfl (by simp [Value.oneCell']) hf rfl rfl hO fun w hO => ?_
  have hO := hO.nilRow 86 2
  refine wpList_nil ?_
  refine nor_then (hK4 _ _ ?_)
  refine wp_seq_k fun _ hK12 => ?_
  refine wp_seq_k fun _ hK9 => ?_
  refine wp_region_list ?_
  refine op_val (ex_move hf rfl) rfl hf rfl rfl fun a hf => ?_
  refine op_val (ex_move hf rfl) rfl hf rfl rfl fun a hf => ?_
  obtain ⟨r5, hr5, hm⟩ := ob hm
  refine op_enter (ex_call c_67 hf (vs := [str x_a0, byte 32]) rfl) rfl hf rfl rfl (w_strings_LastIndexByte x_a0 32 r5 _ (hG.own hF hO).1 hr5) ?_
  rintro e w' ⟨he, hb⟩
  refine ⟨_, he, fun a hf => ?_⟩
  have hO := hO.grow hb
  obtain ⟨i6, hi6, hm⟩ := ob hm
  refine op_val (ex_add hf rfl rfl hi6) rfl hf rfl rfl fun a hf => ?_
  obtain ⟨s7, hs7, hm⟩ := ob hm
  refine op_val (ex_from_s (l := x_a0) Tryz.underlying9 hf rfl rfl hs7) rfl hf rfl rfl fun a hf => ?_
  obtain ⟨r8, hr8, hm⟩ := ob hm
  refine op_enter (ex_call c_66 hf (vs := [str s7]) rfl) rfl hf rfl rfl (w_startline_other s7 r8 _ (hG.own hF hO).1 hr8) ?_
  rintro e w' ⟨he, hb⟩
  refine ⟨_, he, fun a hf => ?_⟩
  have hO := hO.grow hb
  refine wpList_nil ?_
  refine nor_then (hK9 _ _ ?_)
  refine wp_cond_cut hf rfl (fun hc10 => ?_) (fun hc10 => ?_)
  · have hm := it hc10 hm
    refine wp_seq_k fun _ hK11 => ?_
    refine wp_region_list ?_
    refine op_val (ex_build (vs := []) (v := .agg #[int 0, str [], str [], int 0, str [], int 0, .slice none 0 0]) hf rfl (by kernel_rfl)) rfl hf rfl rfl fun a hf => ?_
    refine op_storeN (i := 4) (n := 7) sz_27 rfl rfl rfl (by simp [Value.oneCell']) hf rfl rfl hO fun w hO => ?_
    have hO := hO.nilRow 86 2
    refine op_val (ex_assign hf rfl) rfl hf rfl rfl fun a hf => ?_
    refine wpList_nil ?_
    refine nor_then (hK11 _ _ ?_)
    refine wp_ret ?_
    refine ret_then ?_
    obtain rfl := Option.some.inj hm
    exact post_ret Tryz.results35 hf (.cell rfl (run_loadVarN (n := 7) (vs := [int 0, str [], str [], int 0, str [], int 0, .slice none 0 0]) ag_27 sz_27 rfl ((hO.blkSees (i := 5) rfl).cells (o := 0) (n := 7) rfl)) (.tmp rfl .nil)) ⟨none, 0, rfl, (hO.sub (.cons_cons _ (.cons _ (.cons _ (.cons _ (.cons _ (.cons _ .slnil)))))))⟩
  · have hm := ie hc10 hm
    refine wp_skip ?_
    refine nor_then (hK12 _ _ ?_)
    refine wp_seq_k fun _ hK16 => ?_
    refine wp_region_list ?_
    refine op_val (ex_move hf rfl) rfl hf rfl rfl fun a hf => ?_
    obtain ⟨r13, hr13, hm⟩ := ob hm
    refine op_enter (ex_call c_68 hf (vs := [str x_a0]) rfl) rfl hf rfl rfl (w_scan_New x_a0 r13 _ (hG.own hF hO).1 hr13) ?_
    rintro e w' ⟨b14, he, hO'⟩
    refine ⟨_, he, fun a hf => ?_⟩
    have hO := hO.call hO' (by simp [Res.shared])
    refine op_val (ex_build (vs := [(0, ptr b14 0)]) (v := .agg #[ptr b14 0]) hf rfl (by kernel_rfl)) rfl hf rfl rfl fun a hf => ?_
    refine op_alloc al_108 hf rfl hO fun a b15 w hf hO => ?_
    refine op_storeN (i := 0) (n := 1) sz_108 rfl rfl rfl (by simp [Value.oneCell']) hf rfl rfl hO fun w hO => ?_
    refine wpList_nil ?_
    refine nor_then (hK16 _ _ ?_)
    refine wp_seq_k fun _ hK18 => ?_
    refine wp_region_list ?_
    refine op_val (ex_field fa_108_0 hf rfl) rfl hf rfl rfl fun a hf => ?_
    refine op_val (ex_load1 (o := 0) ag_105 (hO.blkSees (i := 0) rfl) rfl hf rfl) rfl hf rfl rfl fun a hf => ?_
    obtain ⟨r17, hr17, hm⟩ := ob hm
    refine op_enter (ex_call c_69 hf (vs := [ptr b14 0]) rfl) rfl hf rfl rfl (w_scan_Scanner_Token r13 r17 _ (hG.own hF hO).1 (Dk.Own.far (show Dk.Own w0 [] _ ([.blk b14 [str r13.f_s, int r13.f_at] 151] ++ [.blk b15 [ptr b14 0] 108, .row (.slice none 0 0) 86 2 0 (cells enc_api_Field []), .row (.slice none 0 0) 86 2 0 (cells enc_api_Field []), .blk b3 [int 1, str [], str [], int 0, str [], int 0, .slice none 0 0] 27, .row (.slice none 0 0) 86 2 0 (cells enc_api_Field []), .blk b1 [int 0, str [], str [], int 0, str [], int 0, .slice none 0 0] 27]) from hO.choose [1, 0, 2, 3, 4, 5, 6] rfl) rfl hF hG.size) ((show Dk.Own w0 [] _ ([.blk b14 [str r13.f_s, int r13.f_at] 151] ++ [.blk b15 [ptr b14 0] 108, .row (.slice none 0 0) 86 2 0 (cells enc_api_Field []), .row (.slice none 0 0) 86 2 0 (cells enc_api_Field []), .blk b3 [int 1, str [], str [], int 0, str [], int 0, .slice none 0 0] 27, .row (.slice none 0 0) 86 2 0 (cells enc_api_Field []), .blk b1 [int 0, str [], str [], int 0, str [], int 0, .slice none 0 0] 27]) from hO.choose [1, 0, 2, 3, 4, 5, 6] rfl).lend rfl trivial) hr17) ?_
    rintro e w' ⟨he, hO'⟩
    refine ⟨_, he, fun a hf => ?_⟩
    have hO := (show Dk.Own w0 [] _ ([.blk b14 [str r13.f_s, int r13.f_at] 151] ++ [.blk b15 [ptr b14 0] 108, .row (.slice none 0 0) 86 2 0 (cells enc_api_Field []), .row (.slice none 0 0) 86 2 0 (cells enc_api_Field []), .blk b3 [int 1, str [], str [], int 0, str [], int 0, .slice none 0 0] 27, .row (.slice none 0 0) 86 2 0 (cells enc_api_Field []), .blk b1 [int 0, str [], str [], int 0, str [], int 0, .slice none 0 0] 27]) from hO.choose [1, 0, 2, 3, 4, 5, 6] rfl).back rfl hO' rfl
    refine op_val (ex_move hf rfl) rfl hf rfl rfl fun a hf => ?_
    refine op_val (ex_extract hf rfl rfl) rfl hf rfl rfl fun a hf => ?_
    refine op_val (ex_extract hf rfl rfl) rfl hf rfl rfl fun a hf => ?_
    refine op_val (ex_assign hf rfl) rfl hf rfl rfl fun a hf => ?_
    refine op_val (ex_assign hf rfl) rfl hf rfl rfl fun a hf => ?_
    refine wpList_nil ?_
    refine nor_then (hK18 _ _ ?_)
    refine wp_seq_k fun _ hK20 => ?_
    refine wp_region_list ?_
    refine op_val (ex_field fa_108_0 hf rfl) rfl hf rfl rfl fun a hf => ?_
    refine op_val (ex_load1 (o := 0) ag_105 (hO.blkSees (i := 1) rfl) rfl hf rfl) rfl hf rfl rfl fun a hf => ?_
    obtain ⟨r19, hr19, hm⟩ := ob hm
    refine op_enter (ex_call c_70 hf (vs := [ptr b14 0, byte 32]) rfl) rfl hf rfl rfl (w_scan_Scanner_Byte r17.2.2 32 r19 _ (hG.own hF hO).1 (Dk.Own.far (show Dk.Own w0 [] _ ([.blk b14 [str r17.2.2.f_s, int r17.2.2.f_at] 151] ++ [.blk b15 [ptr b14 0] 108, .row (.slice none 0 0) 86 2 0 (cells enc_api_Field []), .row (.slice none 0 0) 86 2 0 (cells enc_api_Field []), .blk b3 [int 1, str [], str [], int 0, str [], int 0, .slice none 0 0] 27, .row (.slice none 0 0) 86 2 0 (cells enc_api_Field []), .blk b1 [int 0, str [], str [], int 0, str [], int 0, .slice none 0 0] 27]) from hO) rfl hF hG.size) ((show Dk.Own w0 [] _ ([.blk b14 [str r17.2.2.f_s, int r17.2.2.f_at] 151] ++ [.blk b15 [ptr b14 0] 108, .row (.slice none 0 0) 86 2 0 (cells enc_api_Field []), .row (.slice none 0 0) 86 2 0 (cells enc_api_Field []), .blk b3 [int 1, str [], str [], int 0, str [], int 0, .slice none 0 0] 27, .row (.slice none 0 0) 86 2 0 (cells enc_api_Field []), .blk b1 [int 0, str [], str [], int 0, str [], int 0, .slice none 0 0] 27]) from hO).lend rfl trivial) hr19) ?_
    rintro e w' ⟨he, hO'⟩
    refine ⟨_, he, fun a hf => ?_⟩
    have hO := (show Dk.Own w0 [] _ ([.blk b14 [str r17.2.2.f_s, int r17.2.2.f_at] 151] ++ [.blk b15 [ptr b14 0] 108, .row (.slice none 0 0) 86 2 0 (cells enc_api_Field []), .row (.slice none 0 0) 86 2 0 (cells enc_api_Field []), .blk b3 [int 1, str [], str [], int 0, str [], int 0, .slice none 0 0] 27, .row (.slice none 0 0) 86 2 0 (cells enc_api_Field []), .blk b1 [int 0, str [], str [], int 0, str [], int 0, .slice none 0 0] 27]) from hO).back rfl hO' rfl
    refine op_val (ex_assign hf rfl) rfl hf rfl rfl fun a hf => ?_
    refine wpList_nil ?_
    refine nor_then (hK20 _ _ ?_)
    refine wp_seq_k fun _ hK22 => ?_
    refine wp_region_list ?_
    refine op_val (ex_field fa_108_0 hf rfl) rfl hf rfl rfl fun a hf => ?_
    refine op_val (ex_load1 (o := 0) ag_105 (hO.blkSees (i := 1) rfl) rfl hf rfl) rfl hf rfl rfl fun a hf => ?_
    obtain ⟨r21, hr21, hm⟩ := ob hm
    refine op_enter (ex_call c_71 hf (vs := [ptr b14 0, .func (.func 72) #[] #[]]) rfl) rfl hf rfl rfl (w_scan_Scanner_While r19.2 startline_request_1 r21 _ (hG.own hF hO).1 (Dk.Own.far (show Dk.Own w0 [] _ ([.blk b14 [str r19.2.f_s, int r19.2.f_at] 151] ++ [.blk b15 [ptr b14 0] 108, .row (.slice none 0 0) 86 2 0 (cells enc_api_Field []), .row (.slice none 0 0) 86 2 0 (cells enc_api_Field []), .blk b3 [int 1, str [], str [], int 0, str [], int 0, .slice none 0 0] 27, .row (.slice none 0 0) 86 2 0 (cells enc_api_Field []), .blk b1 [int 0, str [], str [], int 0, str [], int 0, .slice none 0 0] 27]) from hO) rfl hF hG.size) ((show Dk.Own w0 [] _ ([.blk b14 [str r19.2.f_s, int r19.2.f_at] 151] ++ [.blk b15 [ptr b14 0] 108, .row (.slice none 0 0) 86 2 0 (cells enc_api_Field []), .row (.slice none 0 0) 86 2 0 (cells enc_api_Field []), .blk b3 [int 1, str [], str [], int 0, str [], int 0, .slice none 0 0] 27, .row (.slice none 0 0) 86 2 0 (cells enc_api_Field []), .blk b1 [int 0, str [], str [], int 0, str [], int 0, .slice none 0 0] 27]) from hO).lend rfl trivial) c_72 (fun y0 r w hG h => callsE (w_startline_request_1 y0 r w hG h)) hr21) ?_
    rintro e w' ⟨he, hO'⟩
    refine ⟨_, he, fun a hf => ?_⟩
    have hO := (show Dk.Own w0 [] _ ([.blk b14 [str r19.2.f_s, int r19.2.f_at] 151] ++ [.blk b15 [ptr b14 0] 108, .row (.slice none 0 0) 86 2 0 (cells enc_api_Field []), .row (.slice none 0 0) 86 2 0 (cells enc_api_Field []), .blk b3 [int 1, str [], str [], int 0, str [], int 0, .slice none 0 0] 27, .row (.slice none 0 0) 86 2 0 (cells enc_api_Field []), .blk b1 [int 0, str [], str [], int 0, str [], int 0, .slice none 0 0] 27]) from hO).back rfl hO' rfl
    refine op_val (ex_assign hf rfl) rfl hf rfl rfl fun a hf => ?_
    refine wpList_nil ?_
    refine nor_then (hK22 _ _ ?_)
    refine wp_seq_k fun _ hK24 => ?_
    refine wp_region_list ?_
    refine op_val (ex_field fa_108_0 hf rfl) rfl hf rfl rfl fun a hf => ?_
    refine op_val (ex_load1 (o := 0) ag_105 (hO.blkSees (i := 1) rfl) rfl hf rfl) rfl hf rfl rfl fun a hf => ?_
    obtain ⟨r23, hr23, hm⟩ := ob hm
    refine op_enter (ex_call c_70 hf (vs := [ptr b14 0, byte 32]) rfl) rfl hf rfl rfl (w_scan_Scanner_Byte r21.2 32 r23 _ (hG.own hF hO).1 (Dk.Own.far (show Dk.Own w0 [] _ ([.blk b14 [str r21.2.f_s, int r21.2.f_at] 151] ++ [.blk b15 [ptr b14 0] 108, .row (.slice none 0 0) 86 2 0 (cells enc_api_Field []), .row (.slice none 0 0) 86 2 0 (cells enc_api_Field []), .blk b3 [int 1, str [], str [], int 0, str [], int 0, .slice none 0 0] 27, .row (.slice none 0 0) 86 2 0 (cells enc_api_Field []), .blk b1 [int 0, str [], str [], int 0, str [], int 0, .slice none 0 0] 27]) from hO) rfl hF hG.size) ((show Dk.Own w0 [] _ ([.blk b14 [str r21.2.f_s, int r21.2.f_at] 151] ++ [.blk b15 [ptr b14 0] 108, .row (.slice none 0 0) 86 2 0 (cells enc_api_Field []), .row (.slice none 0 0) 86 2 0 (cells enc_api_Field []), .blk b3 [int 1, str [], str [], int 0, str [], int 0, .slice none 0 0] 27, .row (.slice none 0 0) 86 2 0 (cells enc_api_Field []), .blk b1 [int 0, str [], str [], int 0, str [], int 0, .slice none 0 0] 27]) from hO).lend rfl trivial) hr23) ?_
    rintro e w' ⟨he, hO'⟩
    refine ⟨_, he, fun a hf => ?_⟩
    have hO := (show Dk.Own w0 [] _ ([.blk b14 [str r21.2.f_s, int r21.2.f_at] 151] ++ [.blk b15 [ptr b14 0] 108, .row (.slice none 0 0) 86 2 0 (cells enc_api_Field []), .row (.slice none 0 0) 86 2 0 (cells enc_api_Field []), .blk b3 [int 1, str [], str [], int 0, str [], int 0, .slice none 0 0] 27, .row (.slice none 0 0) 86 2 0 (cells enc_api_Field []), .blk b1 [int 0, str [], str [], int 0, str [], int 0, .slice none 0 0] 27]) from hO).back rfl hO' rfl
    refine op_val (ex_assign hf rfl) rfl hf rfl rfl fun a hf => ?_
    refine wpList_nil ?_
    refine nor_then (hK24 _ _ ?_)
    refine wp_seq_k fun _ hK26 => ?_
    refine wp_region_list ?_
    refine op_val (ex_loadN (o := 0) (vs := [ptr b14 0]) ag_108 sz_108 (hO.blkSees (i := 1) rfl) rfl rfl hf rfl) rfl hf rfl rfl fun a hf => ?_
    obtain ⟨r25, hr25, hm⟩ := ob hm
    refine op_enter (ex_call c_73 hf (vs := [.agg #[ptr b14 0]]) rfl) rfl hf rfl rfl (w_startline_line_minor (⟨r23.2⟩ : startline_line) r25 _ (hG.own hF hO).1 (Dk.Own.far (show Dk.Own w0 [] _ ([.blk b14 [str r23.2.f_s, int r23.2.f_at] 151] ++ [.blk b15 [ptr b14 0] 108, .row (.slice none 0 0) 86 2 0 (cells enc_api_Field []), .row (.slice none 0 0) 86 2 0 (cells enc_api_Field []), .blk b3 [int 1, str [], str [], int 0, str [], int 0, .slice none 0 0] 27, .row (.slice none 0 0) 86 2 0 (cells enc_api_Field []), .blk b1 [int 0, str [], str [], int 0, str [], int 0, .slice none 0 0] 27]) from hO) rfl hF hG.size) ((show Dk.Own w0 [] _ ([.blk b14 [str r23.2.f_s, int r23.2.f_at] 151] ++ [.blk b15 [ptr b14 0] 108, .row (.slice none 0 0) 86 2 0 (cells enc_api_Field []), .row (.slice none 0 0) 86 2 0 (cells enc_api_Field []), .blk b3 [int 1, str [], str [], int 0, str [], int 0, .slice none 0 0] 27, .row (.slice none 0 0) 86 2 0 (cells enc_api_Field []), .blk b1 [int 0, str [], str [], int 0, str [], int 0, .slice none 0 0] 27]) from hO).lend rfl trivial) hr25) ?_
    rintro e w' ⟨he, hO'⟩
    refine ⟨_, he, fun a hf => ?_⟩
    have hO := (show Dk.Own w0 [] _ ([.blk b14 [str r23.2.f_s, int r23.2.f_at] 151] ++ [.blk b15 [ptr b14 0] 108, .row (.slice none 0 0) 86 2 0 (cells enc_api_Field []), .row (.slice none 0 0) 86 2 0 (cells enc_api_Field []), .blk b3 [int 1, str [], str [], int 0, str [], int 0, .slice none 0 0] 27, .row (.slice none 0 0) 86 2 0 (cells enc_api_Field []), .blk b1 [int 0, str [], str [], int 0, str [], int 0, .slice none 0 0] 27]) from hO).back rfl hO' rfl
    refine op_val (ex_move hf rfl) rfl hf rfl rfl fun a hf => ?_
    refine op_val (ex_extract hf rfl rfl) rfl hf rfl rfl fun a hf => ?_
    refine op_val (ex_extract hf rfl rfl) rfl hf rfl rfl fun a hf => ?_
    refine op_val (ex_assign hf rfl) rfl hf rfl rfl fun a hf => ?_
    refine op_val (ex_assign hf rfl) rfl hf rfl rfl fun a hf => ?_
    refine wpList_nil ?_
    refine nor_then (hK26 _ _ ?_)
    refine wp_seq_k fun _ hK29 => ?_
    refine wp_region_list ?_
    refine op_val (ex_move hf rfl) rfl hf rfl rfl fun a hf => ?_
    refine op_val (ex_move hf rfl) rfl hf rfl rfl fun a hf => ?_
    obtain ⟨r27, hr27, hm⟩ := ob hm
    refine op_enter (ex_call c_74 hf (vs := [str r17.1, str r21.1]) rfl) rfl hf rfl rfl (w_target_Parse r17.1 r21.1 r27 _ (hG.own hF hO) hr27) ?_
    rintro e w' ⟨he, hb⟩
    refine ⟨_, he, fun a hf => ?_⟩
    have hO := hO.grow hb
    refine op_val (ex_move hf rfl) rfl hf rfl rfl fun a hf => ?_
    refine op_val (ex_extract hf rfl rfl) rfl hf rfl rfl fun a hf => ?_
    refine op_val (ex_extract hf rfl rfl) rfl hf rfl rfl fun a hf => ?_
    refine op_alloc al_75 hf rfl hO fun a b28 w hf hO => ?_
    refine op_storeN (i := 0) (n := 8) sz_75 rfl rfl rfl (by simp [Value.oneCell']) hf rfl rfl hO fun w hO => ?_
    refine op_val (ex_assign hf rfl) rfl hf rfl rfl fun a hf => ?_
    refine wpList_nil ?_
    refine nor_then (hK29 _ _ ?_)
    refine wp_seq_k fun _ hK39 => ?_
    refine wp_seq_cut (fun a w => ∃ (t36 : Bool), Fits 84 [(2, ptr b1 0), (4, ptr b3 0), (6, str r17.1), (9, str r21.1), (11, int r25.1), (75, .bool t36)] a ∧ Dk.Own w0 [] w [.blk b28 [int r27.1.Kind, str r27.1.Scheme, int r27.1.Host.Kind, str r27.1.Host.Name, int r27.1.Host.Port, str r27.1.Path, str r27.1.Query, .bool r27.1.HasQuery] 75, .blk b14 [str r25.2.2.f_s, int r25.2.2.f_at] 151, .blk b15 [ptr b14 0] 108, .row (.slice none 0 0) 86 2 0 (cells enc_api_Field []), .row (.slice none 0 0) 86 2 0 (cells enc_api_Field []), .blk b3 [int 1, str [], str [], int 0, str [], int 0, .slice none 0 0] 27, .row (.slice none 0 0) 86 2 0 (cells enc_api_Field []), .blk b1 [int 0, str [], str [], int 0, str [], int 0, .slice none 0 0] 27] ∧ startline_request_j1 r17 r21 r25 t36 = some R) ?_ ?_
    · refine wp_region_list ?_
      refine op_val (ex_move hf rfl) rfl hf rfl rfl fun a hf => ?_
      refine op_val (ex_not hf rfl) rfl hf rfl rfl fun a hf => ?_
      refine op_val (ex_move hf rfl) rfl hf rfl rfl fun a hf => ?_
      rcases bcase (!r17.2.1) with hc30 | hc30
      · have hm := it hc30 hm
        refine op_pass rfl hf rfl rfl (hc30) rfl rfl fun a hf => ?_
        refine op_pass rfl hf rfl rfl (hc30) rfl rfl fun a hf => ?_
        refine op_val (ex_pick_t hf rfl hc30 rfl) rfl hf rfl rfl fun a hf => ?_
        refine op_val (ex_move hf rfl) rfl hf rfl rfl fun a hf => ?_
        refine op_pass rfl hf rfl rfl (rfl) rfl rfl fun a hf => ?_
        refine op_pass rfl hf rfl rfl (rfl) rfl rfl fun a hf => ?_
        refine op_val (ex_pick_t hf rfl rfl rfl) rfl hf rfl rfl fun a hf => ?_
        refine op_val (ex_move hf rfl) rfl hf rfl rfl fun a hf => ?_
        refine op_pass rfl hf rfl rfl (rfl) rfl rfl fun a hf => ?_
        refine op_pass rfl hf rfl rfl (rfl) rfl rfl fun a hf => ?_
        refine op_val (ex_pick_t hf rfl rfl rfl) rfl hf rfl rfl fun a hf => ?_
        refine op_val (ex_move hf rfl) rfl hf rfl rfl fun a hf => ?_
        refine op_pass rfl hf rfl rfl (rfl) rfl rfl fun a hf => ?_
        refine op_pass rfl hf rfl rfl (rfl) rfl rfl fun a hf => ?_
        refine op_pass rfl hf rfl rfl (rfl) rfl rfl fun a hf => ?_
        refine op_pass rfl hf rfl rfl (rfl) rfl rfl fun a hf => ?_
        refine op_val (ex_pick_t hf rfl rfl rfl) rfl hf rfl rfl fun a hf => ?_
        refine op_val (ex_move hf rfl) rfl hf rfl rfl fun a hf => ?_
        refine op_pass rfl hf rfl rfl (rfl) rfl rfl fun a hf => ?_
        refine op_pass rfl hf rfl rfl (rfl) rfl rfl fun a hf => ?_
        refine op_val (ex_pick_t hf rfl rfl rfl) rfl hf rfl rfl fun a hf => ?_
        refine wpList_nil ?_
        refine nor_then ?_
        exact ⟨true, (hf.cons rfl (hf.cons rfl (hf.cons rfl (hf.cons rfl (hf.cons rfl (hf.cons rfl hf.nil)))))), hO, hm⟩
      · have hm := ie hc30 hm
        refine op_guard rfl hf rfl rfl (hc30) ?_
        refine op_val (ex_move hf rfl) rfl hf rfl rfl fun a hf => ?_
        refine op_guard rfl hf rfl rfl (hc30) ?_
        refine op_val (ex_not hf rfl) rfl hf rfl rfl fun a hf => ?_
        refine op_val (ex_pick_f hf rfl hc30 rfl) rfl hf rfl rfl fun a hf => ?_
        refine op_val (ex_move hf rfl) rfl hf rfl rfl fun a hf => ?_
        rcases bcase (!r19.1) with hc31 | hc31
        · have hm := it hc31 hm
          refine op_pass rfl hf rfl rfl (hc31) rfl rfl fun a hf => ?_
          refine op_pass rfl hf rfl rfl (hc31) rfl rfl fun a hf => ?_
          refine op_val (ex_pick_t hf rfl hc31 rfl) rfl hf rfl rfl fun a hf => ?_
          refine op_val (ex_move hf rfl) rfl hf rfl rfl fun a hf => ?_
          refine op_pass rfl hf rfl rfl (rfl) rfl rfl fun a hf => ?_
          refine op_pass rfl hf rfl rfl (rfl) rfl rfl fun a hf => ?_
          refine op_val (ex_pick_t hf rfl rfl rfl) rfl hf rfl rfl fun a hf => ?_
          refine op_val (ex_move hf rfl) rfl hf rfl rfl fun a hf => ?_
          refine op_pass rfl hf rfl rfl (rfl) rfl rfl fun a hf => ?_
          refine op_pass rfl hf rfl rfl (rfl) rfl rfl fun a hf => ?_
          refine op_pass rfl hf rfl rfl (rfl) rfl rfl fun a hf => ?_
          refine op_pass rfl hf rfl rfl (rfl) rfl rfl fun a hf => ?_
          refine op_val (ex_pick_t hf rfl rfl rfl) rfl hf rfl rfl fun a hf => ?_
          refine op_val (ex_move hf rfl) rfl hf rfl rfl fun a hf => ?_
          refine op_pass rfl hf rfl rfl (rfl) rfl rfl fun a hf => ?_
          refine op_pass rfl hf rfl rfl (rfl) rfl rfl fun a hf => ?_
          refine op_val (ex_pick_t hf rfl rfl rfl) rfl hf rfl rfl fun a hf => ?_
          refine wpList_nil ?_
          refine nor_then ?_
          exact ⟨true, (hf.cons rfl (hf.cons rfl (hf.cons rfl (hf.cons rfl (hf.cons rfl (hf.cons rfl hf.nil)))))), hO, hm⟩
        · have hm := ie hc31 hm
          refine op_guard rfl hf rfl rfl (hc31) ?_
          refine op_val (ex_move hf rfl) rfl hf rfl rfl fun a hf => ?_
          refine op_guard rfl hf rfl rfl (hc31) ?_
          refine op_val (ex_not hf rfl) rfl hf rfl rfl fun a hf => ?_
          refine op_val (ex_pick_f hf rfl hc31 rfl) rfl hf rfl rfl fun a hf => ?_
          refine op_val (ex_move hf rfl) rfl hf rfl rfl fun a hf => ?_
          rcases bcase (!r23.1) with hc32 | hc32
          · have hm := it hc32 hm
            refine op_pass rfl hf rfl rfl (hc32) rfl rfl fun a hf => ?_
            refine op_pass rfl hf rfl rfl (hc32) rfl rfl fun a hf => ?_
            refine op_val (ex_pick_t hf rfl hc32 rfl) rfl hf rfl rfl fun a hf => ?_
            refine op_val (ex_move hf rfl) rfl hf rfl rfl fun a hf => ?_
            refine op_pass rfl hf rfl rfl (rfl) rfl rfl fun a hf => ?_
            refine op_pass rfl hf rfl rfl (rfl) rfl rfl fun a hf => ?_
            refine op_pass rfl hf rfl rfl (rfl) rfl rfl fun a hf => ?_
            refine op_pass rfl hf rfl rfl (rfl) rfl rfl fun a hf => ?_
            refine op_val (ex_pick_t hf rfl rfl rfl) rfl hf rfl rfl fun a hf => ?_
            refine op_val (ex_move hf rfl) rfl hf rfl rfl fun a hf => ?_
            refine op_pass rfl hf rfl rfl (rfl) rfl rfl fun a hf => ?_
            refine op_pass rfl hf rfl rfl (rfl) rfl rfl fun a hf => ?_
            refine op_val (ex_pick_t hf rfl rfl rfl) rfl hf rfl rfl fun a hf => ?_
            refine wpList_nil ?_
            refine nor_then ?_
            exact ⟨true, (hf.cons rfl (hf.cons rfl (hf.cons rfl (hf.cons rfl (hf.cons rfl (hf.cons rfl hf.nil)))))), hO, hm⟩
          · have hm := ie hc32 hm
            refine op_guard rfl hf rfl rfl (hc32) ?_
            refine op_val (ex_move hf rfl) rfl hf rfl rfl fun a hf => ?_
            refine op_guard rfl hf rfl rfl (hc32) ?_
            refine op_val (ex_not hf rfl) rfl hf rfl rfl fun a hf => ?_
            refine op_val (ex_pick_f hf rfl hc32 rfl) rfl hf rfl rfl fun a hf => ?_
            refine op_val (ex_move hf rfl) rfl hf rfl rfl fun a hf => ?_
            rcases bcase (!r25.2.1) with hc33 | hc33
            · have hm := it hc33 hm
              refine op_pass rfl hf rfl rfl (hc33) rfl rfl fun a hf => ?_
              refine op_pass rfl hf rfl rfl (hc33) rfl rfl fun a hf => ?_
              refine op_pass rfl hf rfl rfl (hc33) rfl rfl fun a hf => ?_
              refine op_pass rfl hf rfl rfl (hc33) rfl rfl fun a hf => ?_
              refine op_val (ex_pick_t hf rfl hc33 rfl) rfl hf rfl rfl fun a hf => ?_
              refine op_val (ex_move hf rfl) rfl hf rfl rfl fun a hf => ?_
              refine op_pass rfl hf rfl rfl (rfl) rfl rfl fun a hf => ?_
              refine op_pass rfl hf rfl rfl (rfl) rfl rfl fun a hf => ?_
              refine op_val (ex_pick_t hf rfl rfl rfl) rfl hf rfl rfl fun a hf => ?_
              refine wpList_nil ?_
              refine nor_then ?_
              exact ⟨true, (hf.cons rfl (hf.cons rfl (hf.cons rfl (hf.cons rfl (hf.cons rfl (hf.cons rfl hf.nil)))))), hO, hm⟩
            · have hm := ie hc33 hm
              refine op_guard rfl hf rfl rfl (hc33) ?_
              refine op_val (ex_field fa_108_0 hf rfl) rfl hf rfl rfl fun a hf => ?_
              refine op_guard rfl hf rfl rfl (hc33) ?_
              refine op_val (ex_load1 (o := 0) ag_105 (hO.blkSees (i := 2) rfl) rfl hf rfl) rfl hf rfl rfl fun a hf => ?_
              refine op_guard rfl hf rfl rfl (hc33) ?_
              obtain ⟨r34, hr34, hm⟩ := ob hm
              refine op_enter (ex_call c_75 hf (vs := [ptr b14 0]) rfl) rfl hf rfl rfl (w_scan_Scanner_End r25.2.2 r34 _ (hG.own hF hO).1 (hO.blkSees (i := 1) rfl) hr34) ?_
              rintro e w' ⟨he, hb⟩
              refine ⟨_, he, fun a hf => ?_⟩
              have hO := hO.grow hb
              refine op_guard rfl hf rfl rfl (hc33) ?_
              refine op_val (ex_not hf rfl) rfl hf rfl rfl fun a hf => ?_
              refine op_val (ex_pick_f hf rfl hc33 rfl) rfl hf rfl rfl fun a hf => ?_
              refine op_val (ex_move hf rfl) rfl hf rfl rfl fun a hf => ?_
              rcases bcase (!r34) with hc35 | hc35
              · have hm := it hc35 hm
                refine op_pass rfl hf rfl rfl (hc35) rfl rfl fun a hf => ?_
                refine op_pass rfl hf rfl rfl (hc35) rfl rfl fun a hf => ?_
                refine op_val (ex_pick_t hf rfl hc35 rfl) rfl hf rfl rfl fun a hf => ?_
                refine wpList_nil ?_
                refine nor_then ?_
                exact ⟨true, (hf.cons rfl (hf.cons rfl (hf.cons rfl (hf.cons rfl (hf.cons rfl (hf.cons rfl hf.nil)))))), hO, hm⟩
              · have hm := ie hc35 hm
                refine op_guard rfl hf rfl rfl (hc35) ?_
                refine op_val (ex_move hf rfl) rfl hf rfl rfl fun a hf => ?_
                refine op_guard rfl hf rfl rfl (hc35) ?_
                refine op_val (ex_neq (m := r27.2) (n := 0) hf rfl rfl) rfl hf rfl rfl fun a hf => ?_
                refine op_val (ex_pick_f hf rfl hc35 rfl) rfl hf rfl rfl fun a hf => ?_
                refine wpList_nil ?_
                refine nor_then ?_
                exact ⟨!(r27.2 == 0), (hf.cons rfl (hf.cons rfl (hf.cons rfl (hf.cons rfl (hf.cons rfl (hf.cons rfl hf.nil)))))), hO, hm⟩
    · rintro a w ⟨t36, hf, hO, hm⟩
      rw [startline_request_j1] at hm
      refine wp_cond_cut hf rfl (fun hc37 => ?_) (fun hc37 => ?_)
      · have hm := it hc37 hm
        refine wp_seq_k fun _ hK38 => ?_
        refine wp_region_list ?_
        refine op_val (ex_build (vs := []) (v := .agg #[int 0, str [], str [], int 0, str [], int 0, .slice none 0 0]) hf rfl (by kernel_rfl)) rfl hf rfl rfl fun a hf => ?_
        refine op_storeN (i := 7) (n := 7) sz_27 rfl rfl rfl (by simp [Value.oneCell']) hf rfl rfl hO fun w hO => ?_
        have hO := hO.nilRow 86 2
        refine op_val (ex_assign hf rfl) rfl hf rfl rfl fun a hf => ?_
        refine wpList_nil ?_
        refine nor_then (hK38 _ _ ?_)
        refine wp_ret ?_
        refine ret_then ?_
        obtain rfl := Option.some.inj hm
        exact post_ret Tryz.results35 hf (.cell rfl (run_loadVarN (n := 7) (vs := [int 0, str [], str [], int 0, str [], int 0, .slice none 0 0]) ag_27 sz_27 rfl ((hO.blkSees (i := 8) rfl).cells (o := 0) (n := 7) rfl)) (.tmp rfl .nil)) ⟨none, 0, rfl, (hO.sub (.cons_cons _ (.cons _ (.cons _ (.cons _ (.cons _ (.cons _ (.cons _ (.cons _ (.cons _ .slnil))))))))))⟩
      · have hm := ie hc37 hm
        refine wp_skip ?_
        refine nor_then (hK39 _ _ ?_)
        refine wp_seq_k fun _ hK40 => ?_
        refine wp_region_list ?_
        refine op_val (ex_move hf rfl) rfl hf rfl rfl fun a hf => ?_
        refine op_val (ex_move hf rfl) rfl hf rfl rfl fun a hf => ?_
        refine op_val (ex_move hf rfl) rfl hf rfl rfl fun a hf => ?_
        refine op_val (ex_field fa_27_1 hf rfl) rfl hf rfl rfl fun a hf => ?_
        refine op_store1 (i := 5) (o := 1) (v := str r17.1) sz_9 rfl rfl rfl rfl hf rfl rfl hO fun w hO => ?_
        refine op_val (ex_field fa_27_2 hf rfl) rfl hf rfl rfl fun a hf => ?_
        refine op_store1 (i := 5) (o := 2) (v := str r21.1) sz_9 rfl rfl rfl rfl hf rfl rfl hO fun w hO => ?_
        refine op_val (ex_field fa_27_5 hf rfl) rfl hf rfl rfl fun a hf => ?_
        refine op_store1 (i := 5) (o := 5) (v := int r25.1) sz_3 rfl rfl rfl rfl hf rfl rfl hO fun w hO => ?_
        refine wpList_nil ?_
        refine nor_then (hK40 _ _ ?_)
        refine wp_seq_k fun _ hK41 => ?_
        refine wp_region_list ?_
        refine op_val (ex_loadN (o := 0) (vs := [int 1, str r17.1, str r21.1, int 0, str [], int r25.1, .slice none 0 0]) ag_27 sz_27 (hO.blkSees (i := 5) rfl) rfl rfl hf rfl) rfl hf rfl rfl fun a hf => ?_
        refine op_storeN (i := 7) (n := 7) sz_27 rfl rfl rfl (by simp [Value.oneCell']) hf rfl rfl hO fun w hO => ?_
        refine op_val (ex_assign hf rfl) rfl hf rfl rfl fun a hf => ?_
        refine wpList_nil ?_
        refine nor_then (hK41 _ _ ?_)
        refine wp_ret ?_
        obtain rfl := Option.some.inj hm
        exact post_ret Tryz.results35 hf (.cell rfl (run_loadVarN (n := 7) (vs := [int 1, str r17.1, str r21.1, int 0, str [], int r25.1, .slice none 0 0]) ag_27 sz_27 rfl ((hO.blkSees (i := 7) rfl).cells (o := 0) (n := 7) rfl)) (.tmp rfl .nil)) ⟨none, 0, rfl, (hO.sub (.cons _ (.cons _ (.cons _ (.cons_cons _ (.cons _ (.cons _ (.cons _ (.cons _ .slnil)))))))))⟩

set_option maxHeartbeats 1000000 in
theorem w_octet_IsVisible (x_b : UInt8) (R : Bool) (w0 : World) (hG : Glob w0) (hm : octet_IsVisible x_b = some R) :
    Calls Tryz.prog 131 #[byte x_b] w0 fun e w' => e = .returned (.bool R) ∧ Below w0.heap.size w0 w' := by
  rw [octet_IsVisible] at hm
  refine calls_enter (vs := [byte x_b]) Tryz.func131 rfl Tryz.ntmps131 rfl fun a hf => ?_
  have hF : Away [] := away_nil
  have hO : Dk.Own w0 [] w0 [] := Dk.Own.refl w0
  refine wp_seq_k fun _ hK1 => ?_
  refine wp_region_list ?_
  refine op_val (ex_assign hf rfl) rfl hf rfl rfl fun a hf => ?_
  refine wpList_nil ?_
  refine nor_then (hK1 _ _ ?_)
  refine wp_seq_cut (fun a w => ∃ (t3 : Bool), Fits 9 [(2, .bool t3)] a ∧ Dk.Own w0 [] w [] ∧ octet_IsVisible_j1 t3 = some R) ?_ ?_
  · refine wp_region_list ?_
    refine op_val (ex_move hf rfl) rfl hf rfl rfl fun a hf => ?_
    refine op_val (ex_gtr_b (b := x_b) (c := 32) hf rfl rfl) rfl hf rfl rfl fun a hf => ?_
    refine op_val (ex_move hf rfl) rfl hf rfl rfl fun a hf => ?_
    rcases bcase (decide (32 < x_b)) with hc2 | hc2
    · have hm := it hc2 hm
      refine op_guard rfl hf rfl rfl (hc2) ?_
      refine op_val (ex_move hf rfl) rfl hf rfl rfl fun a hf => ?_
      refine op_guard rfl hf rfl rfl (hc2) ?_
      refine op_val (ex_lss_b (b := x_b) (c := 127) hf rfl rfl) rfl hf rfl rfl fun a hf => ?_
      refine op_val (ex_pick_t hf rfl hc2 rfl) rfl hf rfl rfl fun a hf => ?_
      refine op_val (ex_assign hf rfl) rfl hf rfl rfl fun a hf => ?_
      refine wpList_nil ?_
      refine nor_then ?_
      exact ⟨decide (x_b < 127), (hf.cons rfl hf.nil), hO, hm⟩
    · have hm := ie hc2 hm
      refine op_pass rfl hf rfl rfl (hc2) rfl rfl fun a hf => ?_
      refine op_pass rfl hf rfl rfl (hc2) rfl rfl fun a hf => ?_
      refine op_val (ex_pick_f hf rfl hc2 rfl) rfl hf rfl rfl fun a hf => ?_
      refine op_val (ex_assign hf rfl) rfl hf rfl rfl fun a hf => ?_
      refine wpList_nil ?_
      refine nor_then ?_
      exact ⟨false, (hf.cons rfl hf.nil), hO, hm⟩
  · rintro a w ⟨t3, hf, hO, hm⟩
    rw [octet_IsVisible_j1] at hm
    refine wp_ret ?_
    obtain rfl := Option.some.inj hm
    exact post_ret Tryz.results131 hf (.tmp rfl .nil) ⟨rfl, hO.below⟩

set_option maxHeartbeats 1000000 in
theorem w_octet_IsBlank (x_b : UInt8) (R : Bool) (w0 : World) (hG : Glob w0) (hm : octet_IsBlank x_b = some R) :
    Calls Tryz.prog 132 #[byte x_b] w0 fun e w' => e = .returned (.bool R) ∧ Below w0.heap.size w0 w' := by
  rw [octet_IsBlank] at hm
  refine calls_enter (vs := [byte x_b]) Tryz.func132 rfl Tryz.ntmps132 rfl fun a hf => ?_
  have hF : Away [] := away_nil
  have hO : Dk.Own w0 [] w0 [] := Dk.Own.refl w0
  refine wp_seq_k fun _ hK1 => ?_
  refine wp_region_list ?_
  refine op_val (ex_assign hf rfl) rfl hf rfl rfl fun a hf => ?_
  refine wpList_nil ?_
  refine nor_then (hK1 _ _ ?_)
  refine wp_seq_cut (fun a w => ∃ (t3 : Bool), Fits 9 [(2, .bool t3)] a ∧ Dk.Own w0 [] w [] ∧ octet_IsBlank_j1 t3 = some R) ?_ ?_
  · refine wp_region_list ?_
    refine op_val (ex_move hf rfl) rfl hf rfl rfl fun a hf => ?_
    refine op_val (ex_eql_b (b := x_b) (c := 32) hf rfl rfl) rfl hf rfl rfl fun a hf => ?_
    refine op_val (ex_move hf rfl) rfl hf rfl rfl fun a hf => ?_
    rcases bcase (x_b == 32) with hc2 | hc2
    · have hm := it hc2 hm
      refine op_pass rfl hf rfl rfl (hc2) rfl rfl fun a hf => ?_
      refine op_pass rfl hf rfl rfl (hc2) rfl rfl fun a hf => ?_
      refine op_val (ex_pick_t hf rfl hc2 rfl) rfl hf rfl rfl fun a hf => ?_
      refine op_val (ex_assign hf rfl) rfl hf rfl rfl fun a hf => ?_
      refine wpList_nil ?_
      refine nor_then ?_
      exact ⟨true, (hf.cons rfl hf.nil), hO, hm⟩
    · have hm := ie hc2 hm
      refine op_guard rfl hf rfl rfl (hc2) ?_
      refine op_val (ex_move hf rfl) rfl hf rfl rfl fun a hf => ?_
      refine op_guard rfl hf rfl rfl (hc2) ?_
      refine op_val (ex_eql_b (b := x_b) (c := 9) hf rfl rfl) rfl hf rfl rfl fun a hf => ?_
      refine op_val (ex_pick_f hf rfl hc2 rfl) rfl hf rfl rfl fun a hf => ?_
      refine op_val (ex_assign hf rfl) rfl hf rfl rfl fun a hf => ?_
      refine wpList_nil ?_
      refine nor_then ?_
      exact ⟨x_b == 9, (hf.cons rfl hf.nil), hO, hm⟩
  · rintro a w ⟨t3, hf, hO, hm⟩
    rw [octet_IsBlank_j1] at hm
    refine wp_ret ?_
    obtain rfl := Option.some.inj hm
    exact post_ret Tryz.results132 hf (.tmp rfl .nil) ⟨rfl, hO.below⟩

set_option maxHeartbeats 1000000 in
theorem w_octet_IsValue (x_b : UInt8) (R : Bool) (w0 : World) (hG : Glob w0) (hm : octet_IsValue x_b = some R) :
    Calls Tryz.prog 80 #[byte x_b] w0 fun e w' => e = .returned (.bool R) ∧ Below w0.heap.size w0 w' := by
  rw [octet_IsValue] at hm
  refine calls_enter (vs := [byte x_b]) Tryz.func80 rfl Tryz.ntmps80 rfl fun a hf => ?_
  have hF : Away [] := away_nil
  have hO : Dk.Own w0 [] w0 [] := Dk.Own.refl w0
  refine wp_seq_k fun _ hK1 => ?_
  refine wp_region_list ?_
  refine op_val (ex_assign hf rfl) rfl hf rfl rfl fun a hf => ?_
  refine wpList_nil ?_
  refine nor_then (hK1 _ _ ?_)
  refine wp_seq_cut (fun a w => ∃ (t6 : Bool), Fits 13 [(2, .bool t6)] a ∧ Dk.Own w0 [] w [] ∧ octet_IsValue_j1 t6 = some R) ?_ ?_
  · refine wp_region_list ?_
    refine op_val (ex_move hf rfl) rfl hf rfl rfl fun a hf => ?_
    obtain ⟨r2, hr2, hm⟩ := ob hm
    refine op_enter (ex_call c_131 hf (vs := [byte x_b]) rfl) rfl hf rfl rfl (w_octet_IsVisible x_b r2 _ (hG.own hF hO) hr2) ?_
    rintro e w' ⟨he, hb⟩
    refine ⟨_, he, fun a hf => ?_⟩
    have hO := hO.grow hb
    refine op_val (ex_move hf rfl) rfl hf rfl rfl fun a hf => ?_
    rcases bcase (r2) with hc3 | hc3
    · have hm := it hc3 hm
      refine op_pass rfl hf rfl rfl (hc3) rfl rfl fun a hf => ?_
      refine op_pass rfl hf rfl rfl (hc3) rfl rfl fun a hf => ?_
      refine op_val (ex_pick_t hf rfl hc3 rfl) rfl hf rfl rfl fun a hf => ?_
      refine op_val (ex_move hf rfl) rfl hf rfl rfl fun a hf => ?_
      refine op_pass rfl hf rfl rfl (rfl) rfl rfl fun a hf => ?_
      refine op_pass rfl hf rfl rfl (rfl) rfl rfl fun a hf => ?_
      refine op_val (ex_pick_t hf rfl rfl rfl) rfl hf rfl rfl fun a hf => ?_
      refine op_val (ex_assign hf rfl) rfl hf rfl rfl fun a hf => ?_
      refine wpList_nil ?_
      refine nor_then ?_
      exact ⟨true, (hf.cons rfl hf.nil), hO, hm⟩
    · have hm := ie hc3 hm
      refine op_guard rfl hf rfl rfl (hc3) ?_
      refine op_val (ex_move hf rfl) rfl hf rfl rfl fun a hf => ?_
      refine op_guard rfl hf rfl rfl (hc3) ?_
      obtain ⟨r4, hr4, hm⟩ := ob hm
      refine op_enter (ex_call c_132 hf (vs := [byte x_b]) rfl) rfl hf rfl rfl (w_octet_IsBlank x_b r4 _ (hG.own hF hO) hr4) ?_
      rintro e w' ⟨he, hb⟩
      refine ⟨_, he, fun a hf => ?_⟩
      have hO := hO.grow hb
      refine op_val (ex_pick_f hf rfl hc3 rfl) rfl hf rfl rfl fun a hf => ?_
      refine op_val (ex_move hf rfl) rfl hf rfl rfl fun a hf => ?_
      rcases bcase (r4) with hc5 | hc5
      · have hm := it hc5 hm
        refine op_pass rfl hf rfl rfl (hc5) rfl rfl fun a hf => ?_
        refine op_pass rfl hf rfl rfl (hc5) rfl rfl fun a hf => ?_
        refine op_val (ex_pick_t hf rfl hc5 rfl) rfl hf rfl rfl fun a hf => ?_
        refine op_val (ex_assign hf rfl) rfl hf rfl rfl fun a hf => ?_
        refine wpList_nil ?_
        refine nor_then ?_
        exact ⟨true, (hf.cons rfl hf.nil), hO, hm⟩
      · have hm := ie hc5 hm
        refine op_guard rfl hf rfl rfl (hc5) ?_
        refine op_val (ex_move hf rfl) rfl hf rfl rfl fun a hf => ?_
        refine op_guard rfl hf rfl rfl (hc5) ?_
        refine op_val (ex_gtr_b (b := x_b) (c := 127) hf rfl rfl) rfl hf rfl rfl fun a hf => ?_
        refine op_val (ex_pick_f hf rfl hc5 rfl) rfl hf rfl rfl fun a hf => ?_
        refine op_val (ex_assign hf rfl) rfl hf rfl rfl fun a hf => ?_
        refine wpList_nil ?_
        refine nor_then ?_
        exact ⟨decide (127 < x_b), (hf.cons rfl hf.nil), hO, hm⟩
  · rintro a w ⟨t6, hf, hO, hm⟩
    rw [octet_IsValue_j1] at hm
    refine wp_ret ?_
    obtain rfl := Option.some.inj hm
    exact post_ret Tryz.results80 hf (.tmp rfl .nil) ⟨rfl, hO.below⟩

set_option maxHeartbeats 1000000 in
theorem w_startline_status (x_a0 : Str) (R : api_Head × Int) (w0 : World) (hG : Glob w0) (hm : startline_status x_a0 = some R) :
    Calls Tryz.prog 36 #[str x_a0] w0 fun e w' => ∃ (p0 : Option Addr) (c0 : Nat), e = .returned (.tuple #[.agg #[int R.1.Kind, str R.1.Method, str R.1.Target, int R.1.Code, str R.1.Reason, int R.1.Minor, .slice p0 R.1.Fields.length c0], int R.2]) ∧ Dk.Own w0 [] w' [.row (.slice p0 R.1.Fields.length c0) 86 2 R.1.Fields.length (cells enc_api_Field R.1.Fields)] := by
  rw [startline_status] at hm
  refine calls_enter (vs := [str x_a0]) Tryz.func36 rfl Tryz.ntmps36 rfl fun a hf => ?_
  have hF : Away [] := away_nil
  have hO : Dk.Own w0 [] w0 [] := Dk.Own.refl w0
  refine wp_seq_k fun _ hK2 => ?_
  refine wp_region_list ?_
  refine op_alloc al_27 hf rfl hO fun a b1 w hf hO => ?_
  have hO := hO.nilRow 86 2
  refine op_val (ex_assign hf rfl) rfl hf rfl rfl fun a hf => ?_
  refine wpList_nil ?_
  refine nor_then (hK2 _ _ ?_)
  refine wp_seq_k fun _ hK4 => ?_
  refine wp_region_list ?_
  refine op_val (ex_move hf rfl) rfl hf rfl rfl fun a hf => ?_
  obtain ⟨r3, hr3, hm⟩ := ob hm
  refine op_enter (ex_call c_76 hf (vs := [str x_a0, str [32]]) rfl) rfl hf rfl rfl (w_strings_Cut x_a0 [32] r3 _ (hG.own hF hO) hr3) ?_
  rintro e w' ⟨he, hb⟩
  refine ⟨_, he, fun a hf => ?_⟩
  have hO := hO.grow hb
  refine op_val (ex_move hf rfl) rfl hf rfl rfl fun a hf => ?_
  refine op_val (ex_extract hf rfl rfl) rfl hf rfl rfl fun a hf => ?_
  refine op_val (ex_extract hf rfl rfl) rfl hf rfl rfl fun a hf => ?_
  refine op_val (ex_extract hf rfl rfl) rfl hf rfl rfl fun a hf => ?_
  refine op_val (ex_assign hf rfl) rfl hf rfl rfl fun a hf => ?_
  refine op_val (ex_assign hf rfl) rfl hf rfl rfl fun a hf => ?_
  refine op_val (ex_assign hf rfl) rfl hf rfl rfl fun a hf => ?_
  refine wpList_nil ?_
  refine nor_then (hK4 _ _ ?_)
  refine wp_seq_k fun _ hK9 => ?_
  refine wp_seq_k fun _ hK6 => ?_
  refine wp_region_list ?_
  refine op_val (ex_move hf rfl) rfl hf rfl rfl fun a hf => ?_
  obtain ⟨r5, hr5, hm⟩ := ob hm
  refine op_enter (ex_call c_66 hf (vs := [str r3.1]) rfl) rfl hf rfl rfl (w_startline_other r3.1 r5 _ (hG.own hF hO) hr5) ?_
  rintro e w' ⟨he, hb⟩
  refine ⟨_, he, fun a hf => ?_⟩
  have hO := hO.grow hb
  refine wpList_nil ?_
  refine nor_then (hK6 _ _ ?_)
  refine wp_cond_cut hf rfl (fun hc7 => ?_) (fun hc7 => ?_)
  · have hm := it hc7 hm
    refine wp_seq_k fun _ hK8 => ?_
    refine wp_region_list ?_
    refine op_val (ex_build (vs := []) (v := .agg #[int 0, str [], str [], int 0, str [], int 0, .slice none 0 0]) hf rfl (by kernel_rfl)) rfl hf rfl rfl fun a hf => ?_
    refine op_storeN (i := 1) (n := 7) sz_27 rfl rfl rfl (by simp [Value.oneCell']) hf rfl rfl hO fun w hO => ?_
    have hO := hO.nilRow 86 2
    refine op_val (ex_assign hf rfl) rfl hf rfl rfl fun a hf => ?_
    refine wpList_nil ?_
    refine nor_then (hK8 _ _ ?_)
    refine wp_ret ?_
    refine ret_then ?_
    obtain rfl := Option.some.inj hm
    exact post_ret Tryz.results36 hf (.cell rfl (run_loadVarN (n := 7) (vs := [int 0, str [], str [], int 0, str [], int 0, .slice none 0 0]) ag_27 sz_27 rfl ((hO.blkSees (i := 2) rfl).cells (o := 0) (n := 7) rfl)) (.tmp rfl .nil)) ⟨none, 0, rfl, (hO.sub (.cons_cons _ (.cons _ (.cons _ .slnil))))⟩
  · have hm := ie hc7 hm
    refine wp_skip ?_
    refine nor_then (hK9 _ _ ?_)
    refine wp_seq_k fun _ hK13 => ?_
    refine wp_region_list ?_
    refine op_val (ex_move hf rfl) rfl hf rfl rfl fun a hf => ?_
    obtain ⟨r10, hr10, hm⟩ := ob hm
    refine op_enter (ex_call c_68 hf (vs := [str x_a0]) rfl) rfl hf rfl rfl (w_scan_New x_a0 r10 _ (hG.own hF hO) hr10) ?_
    rintro e w' ⟨b11, he, hO'⟩
    refine ⟨_, he, fun a hf => ?_⟩
    have hO := hO.call hO' (by simp [Res.shared])
    refine op_val (ex_build (vs := [(0, ptr b11 0)]) (v := .agg #[ptr b11 0]) hf rfl (by kernel_rfl)) rfl hf rfl rfl fun a hf => ?_
    refine op_alloc al_108 hf rfl hO fun a b12 w hf hO => ?_
    refine op_storeN (i := 0) (n := 1) sz_108 rfl rfl rfl (by simp [Value.oneCell']) hf rfl rfl hO fun w hO => ?_
    refine wpList_nil ?_
    refine nor_then (hK13 _ _ ?_)
    refine wp_seq_k fun _ hK15 => ?_
    refine wp_region_list ?_
    refine op_val (ex_loadN (o := 0) (vs := [ptr b11 0]) ag_108 sz_108 (hO.blkSees (i := 0) rfl) rfl rfl hf rfl) rfl hf rfl rfl fun a hf => ?_
    obtain ⟨r14, hr14, hm⟩ := ob hm
    refine op_enter (ex_call c_73 hf (vs := [.agg #[ptr b11 0]]) rfl) rfl hf rfl rfl (w_startline_line_minor (⟨r10⟩ : startline_line) r14 _ (hG.own hF hO) (Dk.Own.far (show Dk.Own w0 [] _ ([.blk b11 [str r10.f_s, int r10.f_at] 151] ++ [.blk b12 [ptr b11 0] 108, .row (.slice none 0 0) 86 2 0 (cells enc_api_Field []), .blk b1 [int 0, str [], str [], int 0, str [], int 0, .slice none 0 0] 27]) from hO.choose [1, 0, 2, 3] rfl) rfl hF hG.size) ((show Dk.Own w0 [] _ ([.blk b11 [str r10.f_s, int r10.f_at] 151] ++ [.blk b12 [ptr b11 0] 108, .row (.slice none 0 0) 86 2 0 (cells enc_api_Field []), .blk b1 [int 0, str [], str [], int 0, str [], int 0, .slice none 0 0] 27]) from hO.choose [1, 0, 2, 3] rfl).lend rfl trivial) hr14) ?_
    rintro e w' ⟨he, hO'⟩
    refine ⟨_, he, fun a hf => ?_⟩
    have hO := (show Dk.Own w0 [] _ ([.blk b11 [str r10.f_s, int r10.f_at] 151] ++ [.blk b12 [ptr b11 0] 108, .row (.slice none 0 0) 86 2 0 (cells enc_api_Field []), .blk b1 [int 0, str [], str [], int 0, str [], int 0, .slice none 0 0] 27]) from hO.choose [1, 0, 2, 3] rfl).back rfl hO' rfl
    refine op_val (ex_move hf rfl) rfl hf rfl rfl fun a hf => ?_
    refine op_val (ex_extract hf rfl rfl) rfl hf rfl rfl fun a hf => ?_
    refine op_val (ex_extract hf rfl rfl) rfl hf rfl rfl fun a hf => ?_
    refine op_val (ex_assign hf rfl) rfl hf rfl rfl fun a hf => ?_
    refine op_val (ex_assign hf rfl) rfl hf rfl rfl fun a hf => ?_
    refine wpList_nil ?_
    refine nor_then (hK15 _ _ ?_)
    refine wp_seq_k fun _ hK17 => ?_
    refine wp_region_list ?_
    refine op_val (ex_field fa_108_0 hf rfl) rfl hf rfl rfl fun a hf => ?_
    refine op_val (ex_load1 (o := 0) ag_105 (hO.blkSees (i := 1) rfl) rfl hf rfl) rfl hf rfl rfl fun a hf => ?_
    obtain ⟨r16, hr16, hm⟩ := ob hm
    refine op_enter (ex_call c_70 hf (vs := [ptr b11 0, byte 32]) rfl) rfl hf rfl rfl (w_scan_Scanner_Byte r14.2.2 32 r16 _ (hG.own hF hO) (Dk.Own.far (show Dk.Own w0 [] _ ([.blk b11 [str r14.2.2.f_s, int r14.2.2.f_at] 151] ++ [.blk b12 [ptr b11 0] 108, .row (.slice none 0 0) 86 2 0 (cells enc_api_Field []), .blk b1 [int 0, str [], str [], int 0, str [], int 0, .slice none 0 0] 27]) from hO) rfl hF hG.size) ((show Dk.Own w0 [] _ ([.blk b11 [str r14.2.2.f_s, int r14.2.2.f_at] 151] ++ [.blk b12 [ptr b11 0] 108, .row (.slice none 0 0) 86 2 0 (cells enc_api_Field []), .blk b1 [int 0, str [], str [], int 0, str [], int 0, .slice none 0 0] 27]) from hO).lend rfl trivial) hr16) ?_
    rintro e w' ⟨he, hO'⟩
    refine ⟨_, he, fun a hf => ?_⟩
    have hO := (show Dk.Own w0 [] _ ([.blk b11 [str r14.2.2.f_s, int r14.2.2.f_at] 151] ++ [.blk b12 [ptr b11 0] 108, .row (.slice none 0 0) 86 2 0 (cells enc_api_Field []), .blk b1 [int 0, str [], str [], int 0, str [], int 0, .slice none 0 0] 27]) from hO).back rfl hO' rfl
    refine op_val (ex_assign hf rfl) rfl hf rfl rfl fun a hf => ?_
    refine wpList_nil ?_
    refine nor_then (hK17 _ _ ?_)
    refine wp_seq_k fun _ hK19 => ?_
    refine wp_region_list ?_
    refine op_val (ex_field fa_108_0 hf rfl) rfl hf rfl rfl fun a hf => ?_
    refine op_val (ex_load1 (o := 0) ag_105 (hO.blkSees (i := 1) rfl) rfl hf rfl) rfl hf rfl rfl fun a hf => ?_
    obtain ⟨r18, hr18, hm⟩ := ob hm
    refine op_enter (ex_call c_71 hf (vs := [ptr b11 0, .func (.func 77) #[] #[]]) rfl) rfl hf rfl rfl (w_scan_Scanner_While r16.2 octet_IsDigit r18 _ (hG.own hF hO) (Dk.Own.far (show Dk.Own w0 [] _ ([.blk b11 [str r16.2.f_s, int r16.2.f_at] 151] ++ [.blk b12 [ptr b11 0] 108, .row (.slice none 0 0) 86 2 0 (cells enc_api_Field []), .blk b1 [int 0, str [], str [], int 0, str [], int 0, .slice none 0 0] 27]) from hO) rfl hF hG.size) ((show Dk.Own w0 [] _ ([.blk b11 [str r16.2.f_s, int r16.2.f_at] 151] ++ [.blk b12 [ptr b11 0] 108, .row (.slice none 0 0) 86 2 0 (cells enc_api_Field []), .blk b1 [int 0, str [], str [], int 0, str [], int 0, .slice none 0 0] 27]) from hO).lend rfl trivial) c_77 (fun y0 r w hG h => callsE (w_octet_IsDigit y0 r w hG h)) hr18) ?_
    rintro e w' ⟨he, hO'⟩
    refine ⟨_, he, fun a hf => ?_⟩
    have hO := (show Dk.Own w0 [] _ ([.blk b11 [str r16.2.f_s, int r16.2.f_at] 151] ++ [.blk b12 [ptr b11 0] 108, .row (.slice none 0 0) 86 2 0 (cells enc_api_Field []), .blk b1 [int 0, str [], str [], int 0, str [], int 0, .slice none 0 0] 27]) from hO).back rfl hO' rfl
    refine op_val (ex_assign hf rfl) rfl hf rfl rfl fun a hf => ?_
    refine wpList_nil ?_
    refine nor_then (hK19 _ _ ?_)
    refine wp_seq_k fun _ hK21 => ?_
    refine wp_region_list ?_
    refine op_val (ex_field fa_108_0 hf rfl) rfl hf rfl rfl fun a hf => ?_
    refine op_val (ex_load1 (o := 0) ag_105 (hO.blkSees (i := 1) rfl) rfl hf rfl) rfl hf rfl rfl fun a hf => ?_
    obtain ⟨r20, hr20, hm⟩ := ob hm
    refine op_enter (ex_call c_70 hf (vs := [ptr b11 0, byte 32]) rfl) rfl hf rfl rfl (w_scan_Scanner_Byte r18.2 32 r20 _ (hG.own hF hO) (Dk.Own.far (show Dk.Own w0 [] _ ([.blk b11 [str r18.2.f_s, int r18.2.f_at] 151] ++ [.blk b12 [ptr b11 0] 108, .row (.slice none 0 0) 86 2 0 (cells enc_api_Field []), .blk b1 [int 0, str [], str [], int 0, str [], int 0, .slice none 0 0] 27]) from hO) rfl hF hG.size) ((show Dk.Own w0 [] _ ([.blk b11 [str r18.2.f_s, int r18.2.f_at] 151] ++ [.blk b12 [ptr b11 0] 108, .row (.slice none 0 0) 86 2 0 (cells enc_api_Field []), .blk b1 [int 0, str [], str [], int 0, str [], int 0, .slice none 0 0] 27]) from hO).lend rfl trivial) hr20) ?_
    rintro e w' ⟨he, hO'⟩
    refine ⟨_, he, fun a hf => ?_⟩
    have hO := (show Dk.Own w0 [] _ ([.blk b11 [str r18.2.f_s, int r18.2.f_at] 151] ++ [.blk b12 [ptr b11 0] 108, .row (.slice none 0 0) 86 2 0 (cells enc_api_Field []), .blk b1 [int 0, str [], str [], int 0, str [], int 0, .slice none 0 0] 27]) from hO).back rfl hO' rfl
    refine op_val (ex_assign hf rfl) rfl hf rfl rfl fun a hf => ?_
    refine wpList_nil ?_
    refine nor_then (hK21 _ _ ?_)
    refine wp_seq_k fun _ hK23 => ?_
    refine wp_region_list ?_
    refine op_val (ex_move hf rfl) rfl hf rfl rfl fun a hf => ?_
    obtain ⟨r22, hr22, hm⟩ := ob hm
    refine op_enter (ex_call c_78 hf (vs := [str r18.1, int 599]) rfl) rfl hf rfl rfl (w_numeral_Decimal r18.1 599 r22 _ (hG.own hF hO) hr22) ?_
    rintro e w' ⟨he, hb⟩
    refine ⟨_, he, fun a hf => ?_⟩
    have hO := hO.grow hb
    refine op_val (ex_move hf rfl) rfl hf rfl rfl fun a hf => ?_
    refine op_val (ex_extract hf rfl rfl) rfl hf rfl rfl fun a hf => ?_
    refine op_val (ex_extract hf rfl rfl) rfl hf rfl rfl fun a hf => ?_
    refine op_val (ex_assign hf rfl) rfl hf rfl rfl fun a hf => ?_
    refine op_val (ex_assign hf rfl) rfl hf rfl rfl fun a hf => ?_
    refine wpList_nil ?_
    refine nor_then (hK23 _ _ ?_)
    refine wp_seq_k fun _ hK36 => ?_
    refine wp_seq_cut (fun a w => ∃ (t33 : Bool), Fits 84 [(2, ptr b1 0), (7, ptr b12 0), (8, int r14.1), (13, int r22.1), (76, .bool t33)] a ∧ Dk.Own w0 [] w [.blk b11 [str r20.2.f_s, int r20.2.f_at] 151, .blk b12 [ptr b11 0] 108, .row (.slice none 0 0) 86 2 0 (cells enc_api_Field []), .blk b1 [int 0, str [], str [], int 0, str [], int 0, .slice none 0 0] 27] ∧ startline_status_j1 r14 r20 r22 t33 = some R) ?_ ?_
    · refine wp_region_list ?_
      refine op_val (ex_move hf rfl) rfl hf rfl rfl fun a hf => ?_
      refine op_val (ex_not hf rfl) rfl hf rfl rfl fun a hf => ?_
      refine op_val (ex_move hf rfl) rfl hf rfl rfl fun a hf => ?_
      rcases bcase (!r14.2.1) with hc24 | hc24
      · have hm := it hc24 hm
        refine op_pass rfl hf rfl rfl (hc24) rfl rfl fun a hf => ?_
        refine op_pass rfl hf rfl rfl (hc24) rfl rfl fun a hf => ?_
        refine op_val (ex_pick_t hf rfl hc24 rfl) rfl hf rfl rfl fun a hf => ?_
        refine op_val (ex_move hf rfl) rfl hf rfl rfl fun a hf => ?_
        refine op_pass rfl hf rfl rfl (rfl) rfl rfl fun a hf => ?_
        refine op_pass rfl hf rfl rfl (rfl) rfl rfl fun a hf => ?_
        refine op_val (ex_pick_t hf rfl rfl rfl) rfl hf rfl rfl fun a hf => ?_
        refine op_val (ex_move hf rfl) rfl hf rfl rfl fun a hf => ?_
        refine op_pass rfl hf rfl rfl (rfl) rfl rfl fun a hf => ?_
        refine op_pass rfl hf rfl rfl (rfl) rfl rfl fun a hf => ?_
        refine op_pass rfl hf rfl rfl (rfl) rfl rfl fun a hf => ?_
        refine op_val (ex_pick_t hf rfl rfl rfl) rfl hf rfl rfl fun a hf => ?_
        refine op_val (ex_move hf rfl) rfl hf rfl rfl fun a hf => ?_
        refine op_pass rfl hf rfl rfl (rfl) rfl rfl fun a hf => ?_
        refine op_pass rfl hf rfl rfl (rfl) rfl rfl fun a hf => ?_
        refine op_val (ex_pick_t hf rfl rfl rfl) rfl hf rfl rfl fun a hf => ?_
        refine op_val (ex_move hf rfl) rfl hf rfl rfl fun a hf => ?_
        refine op_pass rfl hf rfl rfl (rfl) rfl rfl fun a hf => ?_
        refine op_pass rfl hf rfl rfl (rfl) rfl rfl fun a hf => ?_
        refine op_val (ex_pick_t hf rfl rfl rfl) rfl hf rfl rfl fun a hf => ?_
        refine op_val (ex_move hf rfl) rfl hf rfl rfl fun a hf => ?_
        refine op_pass rfl hf rfl rfl (rfl) rfl rfl fun a hf => ?_
        refine op_pass rfl hf rfl rfl (rfl) rfl rfl fun a hf => ?_
        refine op_pass rfl hf rfl rfl (rfl) rfl rfl fun a hf => ?_
        refine op_pass rfl hf rfl rfl (rfl) rfl rfl fun a hf => ?_
        refine op_pass rfl hf rfl rfl (rfl) rfl rfl fun a hf => ?_
        refine op_pass rfl hf rfl rfl (rfl) rfl rfl fun a hf => ?_
        refine op_val (ex_pick_t hf rfl rfl rfl) rfl hf rfl rfl fun a hf => ?_
        refine wpList_nil ?_
        refine nor_then ?_
        exact ⟨true, (hf.cons rfl (hf.cons rfl (hf.cons rfl (hf.cons rfl (hf.cons rfl hf.nil))))), hO, hm⟩
      · have hm := ie hc24 hm
        refine op_guard rfl hf rfl rfl (hc24) ?_
        refine op_val (ex_move hf rfl) rfl hf rfl rfl fun a hf => ?_
        refine op_guard rfl hf rfl rfl (hc24) ?_
        refine op_val (ex_not hf rfl) rfl hf rfl rfl fun a hf => ?_
        refine op_val (ex_pick_f hf rfl hc24 rfl) rfl hf rfl rfl fun a hf => ?_
        refine op_val (ex_move hf rfl) rfl hf rfl rfl fun a hf => ?_
        rcases bcase (!r16.1) with hc25 | hc25
        · have hm := it hc25 hm
          refine op_pass rfl hf rfl rfl (hc25) rfl rfl fun a hf => ?_
          refine op_pass rfl hf rfl rfl (hc25) rfl rfl fun a hf => ?_
          refine op_val (ex_pick_t hf rfl hc25 rfl) rfl hf rfl rfl fun a hf => ?_
          refine op_val (ex_move hf rfl) rfl hf rfl rfl fun a hf => ?_
          refine op_pass rfl hf rfl rfl (rfl) rfl rfl fun a hf => ?_
          refine op_pass rfl hf rfl rfl (rfl) rfl rfl fun a hf => ?_
          refine op_pass rfl hf rfl rfl (rfl) rfl rfl fun a hf => ?_
          refine op_val (ex_pick_t hf rfl rfl rfl) rfl hf rfl rfl fun a hf => ?_
          refine op_val (ex_move hf rfl) rfl hf rfl rfl fun a hf => ?_
          refine op_pass rfl hf rfl rfl (rfl) rfl rfl fun a hf => ?_
          refine op_pass rfl hf rfl rfl (rfl) rfl rfl fun a hf => ?_
          refine op_val (ex_pick_t hf rfl rfl rfl) rfl hf rfl rfl fun a hf => ?_
          refine op_val (ex_move hf rfl) rfl hf rfl rfl fun a hf => ?_
          refine op_pass rfl hf rfl rfl (rfl) rfl rfl fun a hf => ?_
          refine op_pass rfl hf rfl rfl (rfl) rfl rfl fun a hf => ?_
          refine op_val (ex_pick_t hf rfl rfl rfl) rfl hf rfl rfl fun a hf => ?_
          refine op_val (ex_move hf rfl) rfl hf rfl rfl fun a hf => ?_
          refine op_pass rfl hf rfl rfl (rfl) rfl rfl fun a hf => ?_
          refine op_pass rfl hf rfl rfl (rfl) rfl rfl fun a hf => ?_
          refine op_pass rfl hf rfl rfl (rfl) rfl rfl fun a hf => ?_
          refine op_pass rfl hf rfl rfl (rfl) rfl rfl fun a hf => ?_
          refine op_pass rfl hf rfl rfl (rfl) rfl rfl fun a hf => ?_
          refine op_pass rfl hf rfl rfl (rfl) rfl rfl fun a hf => ?_
          refine op_val (ex_pick_t hf rfl rfl rfl) rfl hf rfl rfl fun a hf => ?_
          refine wpList_nil ?_
          refine nor_then ?_
          exact ⟨true, (hf.cons rfl (hf.cons rfl (hf.cons rfl (hf.cons rfl (hf.cons rfl hf.nil))))), hO, hm⟩
        · have hm := ie hc25 hm
          refine op_guard rfl hf rfl rfl (hc25) ?_
          refine op_val (ex_move hf rfl) rfl hf rfl rfl fun a hf => ?_
          refine op_guard rfl hf rfl rfl (hc25) ?_
          refine op_val (ex_not hf rfl) rfl hf rfl rfl fun a hf => ?_
          refine op_val (ex_pick_f hf rfl hc25 rfl) rfl hf rfl rfl fun a hf => ?_
          refine op_val (ex_move hf rfl) rfl hf rfl rfl fun a hf => ?_
          rcases bcase (!r20.1) with hc26 | hc26
          · have hm := it hc26 hm
            refine op_pass rfl hf rfl rfl (hc26) rfl rfl fun a hf => ?_
            refine op_pass rfl hf rfl rfl (hc26) rfl rfl fun a hf => ?_
            refine op_pass rfl hf rfl rfl (hc26) rfl rfl fun a hf => ?_
            refine op_val (ex_pick_t hf rfl hc26 rfl) rfl hf rfl rfl fun a hf => ?_
            refine op_val (ex_move hf rfl) rfl hf rfl rfl fun a hf => ?_
            refine op_pass rfl hf rfl rfl (rfl) rfl rfl fun a hf => ?_
            refine op_pass rfl hf rfl rfl (rfl) rfl rfl fun a hf => ?_
            refine op_val (ex_pick_t hf rfl rfl rfl) rfl hf rfl rfl fun a hf => ?_
            refine op_val (ex_move hf rfl) rfl hf rfl rfl fun a hf => ?_
            refine op_pass rfl hf rfl rfl (rfl) rfl rfl fun a hf => ?_
            refine op_pass rfl hf rfl rfl (rfl) rfl rfl fun a hf => ?_
            refine op_val (ex_pick_t hf rfl rfl rfl) rfl hf rfl rfl fun a hf => ?_
            refine op_val (ex_move hf rfl) rfl hf rfl rfl fun a hf => ?_
            refine op_pass rfl hf rfl rfl (rfl) rfl rfl fun a hf => ?_
            refine op_pass rfl hf rfl rfl (rfl) rfl rfl fun a hf => ?_
            refine op_pass rfl hf rfl rfl (rfl) rfl rfl fun a hf => ?_
            refine op_pass rfl hf rfl rfl (rfl) rfl rfl fun a hf => ?_
            refine op_pass rfl hf rfl rfl (rfl) rfl rfl fun a hf => ?_
            refine op_pass rfl hf rfl rfl (rfl) rfl rfl fun a hf => ?_
            refine op_val (ex_pick_t hf rfl rfl rfl) rfl hf rfl rfl fun a hf => ?_
            refine wpList_nil ?_
            refine nor_then ?_
            exact ⟨true, (hf.cons rfl (hf.cons rfl (hf.cons rfl (hf.cons rfl (hf.cons rfl hf.nil))))), hO, hm⟩
          · have hm := ie hc26 hm
            refine op_guard rfl hf rfl rfl (hc26) ?_
            refine op_val (ex_move hf rfl) rfl hf rfl rfl fun a hf => ?_
            refine op_guard rfl hf rfl rfl (hc26) ?_
            refine op_val (ex_len_s (l := r18.1) Tryz.underlying9 hf rfl) rfl hf rfl rfl fun a hf => ?_
            refine op_guard rfl hf rfl rfl (hc26) ?_
            refine op_val (ex_neq (m := (r18.1.length : Int)) (n := 3) hf rfl rfl) rfl hf rfl rfl fun a hf => ?_
            refine op_val (ex_pick_f hf rfl hc26 rfl) rfl hf rfl rfl fun a hf => ?_
            refine op_val (ex_move hf rfl) rfl hf rfl rfl fun a hf => ?_
            rcases bcase (!((r18.1.length : Int) == 3)) with hc27 | hc27
            · have hm := it hc27 hm
              refine op_pass rfl hf rfl rfl (hc27) rfl rfl fun a hf => ?_
              refine op_pass rfl hf rfl rfl (hc27) rfl rfl fun a hf => ?_
              refine op_val (ex_pick_t hf rfl hc27 rfl) rfl hf rfl rfl fun a hf => ?_
              refine op_val (ex_move hf rfl) rfl hf rfl rfl fun a hf => ?_
              refine op_pass rfl hf rfl rfl (rfl) rfl rfl fun a hf => ?_
              refine op_pass rfl hf rfl rfl (rfl) rfl rfl fun a hf => ?_
              refine op_val (ex_pick_t hf rfl rfl rfl) rfl hf rfl rfl fun a hf => ?_
              refine op_val (ex_move hf rfl) rfl hf rfl rfl fun a hf => ?_
              refine op_pass rfl hf rfl rfl (rfl) rfl rfl fun a hf => ?_
              refine op_pass rfl hf rfl rfl (rfl) rfl rfl fun a hf => ?_
              refine op_pass rfl hf rfl rfl (rfl) rfl rfl fun a hf => ?_
              refine op_pass rfl hf rfl rfl (rfl) rfl rfl fun a hf => ?_
              refine op_pass rfl hf rfl rfl (rfl) rfl rfl fun a hf => ?_
              refine op_pass rfl hf rfl rfl (rfl) rfl rfl fun a hf => ?_
              refine op_val (ex_pick_t hf rfl rfl rfl) rfl hf rfl rfl fun a hf => ?_
              refine wpList_nil ?_
              refine nor_then ?_
              exact ⟨true, (hf.cons rfl (hf.cons rfl (hf.cons rfl (hf.cons rfl (hf.cons rfl hf.nil))))), hO, hm⟩
            · have hm := ie hc27 hm
              refine op_guard rfl hf rfl rfl (hc27) ?_
              refine op_val (ex_move hf rfl) rfl hf rfl rfl fun a hf => ?_
              refine op_guard rfl hf rfl rfl (hc27) ?_
              refine op_val (ex_neq (m := r22.2) (n := 0) hf rfl rfl) rfl hf rfl rfl fun a hf => ?_
              refine op_val (ex_pick_f hf rfl hc27 rfl) rfl hf rfl rfl fun a hf => ?_
              refine op_val (ex_move hf rfl) rfl hf rfl rfl fun a hf => ?_
              rcases bcase (!(r22.2 == 0)) with hc28 | hc28
              · have hm := it hc28 hm
                refine op_pass rfl hf rfl rfl (hc28) rfl rfl fun a hf => ?_
                refine op_pass rfl hf rfl rfl (hc28) rfl rfl fun a hf => ?_
                refine op_val (ex_pick_t hf rfl hc28 rfl) rfl hf rfl rfl fun a hf => ?_
                refine op_val (ex_move hf rfl) rfl hf rfl rfl fun a hf => ?_
                refine op_pass rfl hf rfl rfl (rfl) rfl rfl fun a hf => ?_
                refine op_pass rfl hf rfl rfl (rfl) rfl rfl fun a hf => ?_
                refine op_pass rfl hf rfl rfl (rfl) rfl rfl fun a hf => ?_
                refine op_pass rfl hf rfl rfl (rfl) rfl rfl fun a hf => ?_
                refine op_pass rfl hf rfl rfl (rfl) rfl rfl fun a hf => ?_
                refine op_pass rfl hf rfl rfl (rfl) rfl rfl fun a hf => ?_
                refine op_val (ex_pick_t hf rfl rfl rfl) rfl hf rfl rfl fun a hf => ?_
                refine wpList_nil ?_
                refine nor_then ?_
                exact ⟨true, (hf.cons rfl (hf.cons rfl (hf.cons rfl (hf.cons rfl (hf.cons rfl hf.nil))))), hO, hm⟩
              · have hm := ie hc28 hm
                refine op_guard rfl hf rfl rfl (hc28) ?_
                refine op_val (ex_move hf rfl) rfl hf rfl rfl fun a hf => ?_
                refine op_guard rfl hf rfl rfl (hc28) ?_
                refine op_val (ex_lss (m := r22.1) (n := 100) hf rfl rfl) rfl hf rfl rfl fun a hf => ?_
                refine op_val (ex_pick_f hf rfl hc28 rfl) rfl hf rfl rfl fun a hf => ?_
                refine op_val (ex_move hf rfl) rfl hf rfl rfl fun a hf => ?_
                rcases bcase (decide (r22.1 < 100)) with hc29 | hc29
                · have hm := it hc29 hm
                  refine op_pass rfl hf rfl rfl (hc29) rfl rfl fun a hf => ?_
                  refine op_pass rfl hf rfl rfl (hc29) rfl rfl fun a hf => ?_
                  refine op_pass rfl hf rfl rfl (hc29) rfl rfl fun a hf => ?_
                  refine op_pass rfl hf rfl rfl (hc29) rfl rfl fun a hf => ?_
                  refine op_pass rfl hf rfl rfl (hc29) rfl rfl fun a hf => ?_
                  refine op_pass rfl hf rfl rfl (hc29) rfl rfl fun a hf => ?_
                  refine op_val (ex_pick_t hf rfl hc29 rfl) rfl hf rfl rfl fun a hf => ?_
                  refine wpList_nil ?_
                  refine nor_then ?_
                  exact ⟨true, (hf.cons rfl (hf.cons rfl (hf.cons rfl (hf.cons rfl (hf.cons rfl hf.nil))))), hO, hm⟩
                · have hm := ie hc29 hm
                  refine op_guard rfl hf rfl rfl (hc29) ?_
                  refine op_val (ex_field fa_108_0 hf rfl) rfl hf rfl rfl fun a hf => ?_
                  refine op_guard rfl hf rfl rfl (hc29) ?_
                  refine op_val (ex_load1 (o := 0) ag_105 (hO.blkSees (i := 1) rfl) rfl hf rfl) rfl hf rfl rfl fun a hf => ?_
                  refine op_guard rfl hf rfl rfl (hc29) ?_
                  obtain ⟨r30, hr30, hm⟩ := ob hm
                  refine op_enter (ex_call c_81 hf (vs := [ptr b11 0]) rfl) rfl hf rfl rfl (w_scan_Scanner_Rest r20.2 r30 _ (hG.own hF hO) (hO.blkSees (i := 0) rfl) hr30) ?_
                  rintro e w' ⟨he, hb⟩
                  refine ⟨_, he, fun a hf => ?_⟩
                  have hO := hO.grow hb
                  refine op_guard rfl hf rfl rfl (hc29) ?_
                  refine op_buildSlice (vs := [(0, str r30)]) (cs := [str r30]) (e := 9) (sz := 1) hf rfl rfl (fun w => by kernel_rfl) rfl rfl hO fun a b31 w hf hO => ?_
                  refine op_guard rfl hf rfl rfl (hc29) ?_
                  obtain ⟨r32, hr32, hm⟩ := ob hm
                  refine op_enter (ex_call c_79 hf (vs := [.func (.func 80) #[] #[], .slice (some ⟨b31, 0, none⟩) ([r30].length) 1]) rfl) rfl hf rfl rfl (w_octet_All octet_IsValue [r30] r32 _ (hG.own hF hO) c_80 (fun y0 r w hG h => callsE (w_octet_IsValue y0 r w hG h)) (hO.rowSees (i := 0) rfl) (hO.rowCap (i := 0) rfl) hr32) ?_
                  rintro e w' ⟨he, hb⟩
                  refine ⟨_, he, fun a hf => ?_⟩
                  have hO := hO.grow hb
                  refine op_guard rfl hf rfl rfl (hc29) ?_
                  refine op_val (ex_not hf rfl) rfl hf rfl rfl fun a hf => ?_
                  refine op_val (ex_pick_f hf rfl hc29 rfl) rfl hf rfl rfl fun a hf => ?_
                  refine wpList_nil ?_
                  refine nor_then ?_
                  exact ⟨!r32, (hf.cons rfl (hf.cons rfl (hf.cons rfl (hf.cons rfl (hf.cons rfl hf.nil))))), (hO.sub (.cons _ (.cons_cons _ (.cons_cons _ (.cons_cons _ (.cons_cons _ .slnil)))))), hm⟩
    · rintro a w ⟨t33, hf, hO, hm⟩
      rw [startline_status_j1] at hm
      refine wp_cond_cut hf rfl (fun hc34 => ?_) (fun hc34 => ?_)
      · have hm := it hc34 hm
        refine wp_seq_k fun _ hK35 => ?_
        refine wp_region_list ?_
        refine op_val (ex_build (vs := []) (v := .agg #[int 0, str [], str [], int 0, str [], int 0, .slice none 0 0]) hf rfl (by kernel_rfl)) rfl hf rfl rfl fun a hf => ?_
        refine op_storeN (i := 3) (n := 7) sz_27 rfl rfl rfl (by simp [Value.oneCell']) hf rfl rfl hO fun w hO => ?_
        have hO := hO.nilRow 86 2
        refine op_val (ex_assign hf rfl) rfl hf rfl rfl fun a hf => ?_
        refine wpList_nil ?_
        refine nor_then (hK35 _ _ ?_)
        refine wp_ret ?_
        refine ret_then ?_
        obtain rfl := Option.some.inj hm
        exact post_ret Tryz.results36 hf (.cell rfl (run_loadVarN (n := 7) (vs := [int 0, str [], str [], int 0, str [], int 0, .slice none 0 0]) ag_27 sz_27 rfl ((hO.blkSees (i := 4) rfl).cells (o := 0) (n := 7) rfl)) (.tmp rfl .nil)) ⟨none, 0, rfl, (hO.sub (.cons_cons _ (.cons _ (.cons _ (.cons _ (.cons _ .slnil))))))⟩
      · have hm := ie hc34 hm
        refine wp_skip ?_
        refine nor_then (hK36 _ _ ?_)
        refine wp_seq_k fun _ hK38 => ?_
        refine wp_region_list ?_
        refine op_val (ex_move hf rfl) rfl hf rfl rfl fun a hf => ?_
        refine op_val (ex_move hf rfl) rfl hf rfl rfl fun a hf => ?_
        refine op_val (ex_field fa_108_0 hf rfl) rfl hf rfl rfl fun a hf => ?_
        refine op_val (ex_load1 (o := 0) ag_105 (hO.blkSees (i := 1) rfl) rfl hf rfl) rfl hf rfl rfl fun a hf => ?_
        obtain ⟨r37, hr37, hm⟩ := ob hm
        refine op_enter (ex_call c_81 hf (vs := [ptr b11 0]) rfl) rfl hf rfl rfl (w_scan_Scanner_Rest r20.2 r37 _ (hG.own hF hO) (hO.blkSees (i := 0) rfl) hr37) ?_
        rintro e w' ⟨he, hb⟩
        refine ⟨_, he, fun a hf => ?_⟩
        have hO := hO.grow hb
        refine op_val (ex_build (vs := [(0, int 2), (5, int r14.1), (3, int r22.1), (4, str r37)]) (v := .agg #[int 2, str [], str [], int r22.1, str r37, int r14.1, .slice none 0 0]) hf rfl (by kernel_rfl)) rfl hf rfl rfl fun a hf => ?_
        refine op_storeN (i := 3) (n := 7) sz_27 rfl rfl rfl (by simp [Value.oneCell']) hf rfl rfl hO fun w hO => ?_
        have hO := hO.nilRow 86 2
        refine op_val (ex_assign hf rfl) rfl hf rfl rfl fun a hf => ?_
        refine wpList_nil ?_
        refine nor_then (hK38 _ _ ?_)
        refine wp_ret ?_
        obtain rfl := Option.some.inj hm
        exact post_ret Tryz.results36 hf (.cell rfl (run_loadVarN (n := 7) (vs := [int 2, str [], str [], int r22.1, str r37, int r14.1, .slice none 0 0]) ag_27 sz_27 rfl ((hO.blkSees (i := 4) rfl).cells (o := 0) (n := 7) rfl)) (.tmp rfl .nil)) ⟨none, 0, rfl, (hO.sub (.cons_cons _ (.cons _ (.cons _ (.cons _ (.cons _ .slnil))))))⟩

set_option maxHeartbeats 1000000 in
theorem w_startline_Parse (x_kind : Int) (x_s : Str) (R : api_Head × Int) (w0 : World) (hG : GlobT w0) (hm : startline_Parse x_kind x_s = some R) :
    Calls Tryz.prog 11 #[int x_kind, str x_s] w0 fun e w' => ∃ (p0 : Option Addr) (c0 : Nat), e = .returned (.tuple #[.agg #[int R.1.Kind, str R.1.Method, str R.1.Target, int R.1.Code, str R.1.Reason, int R.1.Minor, .slice p0 R.1.Fields.length c0], int R.2]) ∧ Dk.Own w0 [] w' [.row (.slice p0 R.1.Fields.length c0) 86 2 R.1.Fields.length (cells enc_api_Field R.1.Fields)] := by
  rw [startline_Parse] at hm
  refine calls_enter (vs := [int x_kind, str x_s]) Tryz.func11 rfl Tryz.ntmps11 rfl fun a hf => ?_
  have hF : Away [] := away_nil
  have hO : Dk.Own w0 [] w0 [] := Dk.Own.refl w0
  refine wp_seq_k fun _ hK2 => ?_
  refine wp_region_list ?_
  refine op_alloc al_27 hf rfl hO fun a b1 w hf hO => ?_
  have hO := hO.nilRow 86 2
  refine op_val (ex_assign hf rfl) rfl hf rfl rfl fun a hf => ?_
  refine wpList_nil ?_
  refine nor_then (hK2 _ _ ?_)
  refine wp_seq_k fun _ hK17 => ?_
  refine wp_block ?_
  refine wp_seq_cut (fun a w => ∃ (t4 : Bool), Fits 29 [(0, int x_kind), (1, str x_s), (4, ptr b1 0), (6, .bool t4)] a ∧ Dk.Own w0 [] w [.row (.slice none 0 0) 86 2 0 (cells enc_api_Field []), .blk b1 [int 0, str [], str [], int 0, str [], int 0, .slice none 0 0] 27] ∧ startline_Parse_j1 x_kind x_s t4 = some R) ?_ ?_
  · refine wp_region_list ?_
    refine op_val (ex_move hf rfl) rfl hf rfl rfl fun a hf => ?_
    refine op_val (ex_neq (m := x_kind) (n := 1) hf rfl rfl) rfl hf rfl rfl fun a hf => ?_
    refine op_val (ex_move hf rfl) rfl hf rfl rfl fun a hf => ?_
    rcases bcase (!(x_kind == 1)) with hc3 | hc3
    · have hm := it hc3 hm
      refine op_guard rfl hf rfl rfl (hc3) ?_
      refine op_val (ex_move hf rfl) rfl hf rfl rfl fun a hf => ?_
      refine op_guard rfl hf rfl rfl (hc3) ?_
      refine op_val (ex_neq (m := x_kind) (n := 2) hf rfl rfl) rfl hf rfl rfl fun a hf => ?_
      refine op_val (ex_pick_t hf rfl hc3 rfl) rfl hf rfl rfl fun a hf => ?_
      refine op_val (ex_assign hf rfl) rfl hf rfl rfl fun a hf => ?_
      refine wpList_nil ?_
      refine nor_then ?_
      exact ⟨!(x_kind == 2), (hf.cons rfl (hf.cons rfl (hf.cons rfl (hf.cons rfl hf.nil)))), hO, hm⟩
    · have hm := ie hc3 hm
      refine op_pass rfl hf rfl rfl (hc3) rfl rfl fun a hf => ?_
      refine op_pass rfl hf rfl rfl (hc3) rfl rfl fun a hf => ?_
      refine op_val (ex_pick_f hf rfl hc3 rfl) rfl hf rfl rfl fun a hf => ?_
      refine op_val (ex_assign hf rfl) rfl hf rfl rfl fun a hf => ?_
      refine wpList_nil ?_
      refine nor_then ?_
      exact ⟨false, (hf.cons rfl (hf.cons rfl (hf.cons rfl (hf.cons rfl hf.nil)))), hO, hm⟩
  · rintro a w ⟨t4, hf, hO, hm⟩
    rw [startline_Parse_j1] at hm
    refine wp_cond_cut hf rfl (fun hc5 => ?_) (fun hc5 => ?_)
    · have hm := it hc5 hm
      refine wp_seq_k fun _ hK6 => ?_
      refine wp_region_list ?_
      refine op_val (ex_build (vs := []) (v := .agg #[int 0, str [], str [], int 0, str [], int 0, .slice none 0 0]) hf rfl (by kernel_rfl)) rfl hf rfl rfl fun a hf => ?_
      refine op_storeN (i := 1) (n := 7) sz_27 rfl rfl rfl (by simp [Value.oneCell']) hf rfl rfl hO fun w hO => ?_
      have hO := hO.nilRow 86 2
      refine op_val (ex_assign hf rfl) rfl hf rfl rfl fun a hf => ?_
      refine wpList_nil ?_
      refine nor_then (hK6 _ _ ?_)
      refine wp_ret ?_
      refine ret_block ?_
      refine ret_then ?_
      obtain rfl := Option.some.inj hm
      exact post_ret Tryz.results11 hf (.cell rfl (run_loadVarN (n := 7) (vs := [int 0, str [], str [], int 0, str [], int 0, .slice none 0 0]) ag_27 sz_27 rfl ((hO.blkSees (i := 2) rfl).cells (o := 0) (n := 7) rfl)) (.tmp rfl .nil)) ⟨none, 0, rfl, (hO.sub (.cons_cons _ (.cons _ (.cons _ .slnil))))⟩
    · have hm := ie hc5 hm
      refine wp_seq_k fun _ hK8 => ?_
      refine wp_region_list ?_
      refine op_val (ex_move hf rfl) rfl hf rfl rfl fun a hf => ?_
      obtain ⟨r7, hr7, hm⟩ := ob hm
      refine op_enter (ex_call c_34 hf (vs := [str x_s, str [13, 10]]) rfl) rfl hf rfl rfl (w_strings_ContainsAny x_s [13, 10] r7 _ (hG.own hF hO).1 hr7) ?_
      rintro e w' ⟨he, hb⟩
      refine ⟨_, he, fun a hf => ?_⟩
      have hO := hO.grow hb
      refine op_val (ex_assign hf rfl) rfl hf rfl rfl fun a hf => ?_
      refine wpList_nil ?_
      refine nor_then (hK8 _ _ ?_)
      refine wp_cond_cut hf rfl (fun hc9 => ?_) (fun hc9 => ?_)
      · have hm := it hc9 hm
        refine wp_seq_k fun _ hK10 => ?_
        refine wp_region_list ?_
        refine op_val (ex_build (vs := []) (v := .agg #[int 0, str [], str [], int 0, str [], int 0, .slice none 0 0]) hf rfl (by kernel_rfl)) rfl hf rfl rfl fun a hf => ?_
        refine op_storeN (i := 1) (n := 7) sz_27 rfl rfl rfl (by simp [Value.oneCell']) hf rfl rfl hO fun w hO => ?_
        have hO := hO.nilRow 86 2
        refine op_val (ex_assign hf rfl) rfl hf rfl rfl fun a hf => ?_
        refine wpList_nil ?_
        refine nor_then (hK10 _ _ ?_)
        refine wp_ret ?_
        refine ret_block ?_
        refine ret_then ?_
        obtain rfl := Option.some.inj hm
        exact post_ret Tryz.results11 hf (.cell rfl (run_loadVarN (n := 7) (vs := [int 0, str [], str [], int 0, str [], int 0, .slice none 0 0]) ag_27 sz_27 rfl ((hO.blkSees (i := 2) rfl).cells (o := 0) (n := 7) rfl)) (.tmp rfl .nil)) ⟨none, 0, rfl, (hO.sub (.cons_cons _ (.cons _ (.cons _ .slnil))))⟩
      · have hm := ie hc9 hm
        refine wp_seq_k fun _ hK11 => ?_
        refine wp_region_list ?_
        refine op_val (ex_move hf rfl) rfl hf rfl rfl fun a hf => ?_
        refine op_val (ex_eql (m := x_kind) (n := 1) hf rfl rfl) rfl hf rfl rfl fun a hf => ?_
        refine op_val (ex_assign hf rfl) rfl hf rfl rfl fun a hf => ?_
        refine wpList_nil ?_
        refine nor_then (hK11 _ _ ?_)
        refine wp_cond_cut hf rfl (fun hc12 => ?_) (fun hc12 => ?_)
        · have hm := it hc12 hm
          refine wp_seq_k fun _ hK16 => ?_
          refine wp_region_list ?_
          refine op_val (ex_move hf rfl) rfl hf rfl rfl fun a hf => ?_
          obtain ⟨r13, hr13, hm⟩ := ob hm
          refine op_enter (ex_call c_35 hf (vs := [str x_s]) rfl) rfl hf rfl rfl (w_startline_request x_s r13 _ (hG.own hF hO) hr13) ?_
          rintro e w' ⟨p14, c15, he, hO'⟩
          refine ⟨_, he, fun a hf => ?_⟩
          have hO := hO.call hO' (by simp [Res.shared])
          refine op_val (ex_extract hf rfl rfl) rfl hf rfl rfl fun a hf => ?_
          refine op_val (ex_extract hf rfl rfl) rfl hf rfl rfl fun a hf => ?_
          refine op_storeN (i := 2) (n := 7) sz_27 rfl rfl rfl (by simp [Value.oneCell']) hf rfl rfl hO fun w hO => ?_
          refine op_val (ex_assign hf rfl) rfl hf rfl rfl fun a hf => ?_
          refine wpList_nil ?_
          refine nor_then (hK16 _ _ ?_)
          refine wp_ret ?_
          refine ret_block ?_
          refine ret_then ?_
          obtain rfl := Option.some.inj hm
          exact post_ret Tryz.results11 hf (.cell rfl (run_loadVarN (n := 7) (vs := [int r13.1.Kind, str r13.1.Method, str r13.1.Target, int r13.1.Code, str r13.1.Reason, int r13.1.Minor, .slice p14 r13.1.Fields.length c15]) ag_27 sz_27 rfl ((hO.blkSees (i := 2) rfl).cells (o := 0) (n := 7) rfl)) (.tmp rfl .nil)) ⟨p14, c15, rfl, (hO.sub (.cons_cons _ (.cons _ (.cons _ .slnil))))⟩
        · have hm := ie hc12 hm
          refine wp_skip ?_
          refine nor_block ?_
          refine nor_then (hK17 _ _ ?_)
          refine wp_seq_k fun _ hK21 => ?_
          refine wp_region_list ?_
          refine op_val (ex_move hf rfl) rfl hf rfl rfl fun a hf => ?_
          obtain ⟨r18, hr18, hm⟩ := ob hm
          refine op_enter (ex_call c_36 hf (vs := [str x_s]) rfl) rfl hf rfl rfl (w_startline_status x_s r18 _ (hG.own hF hO).1 hr18) ?_
          rintro e w' ⟨p19, c20, he, hO'⟩
          refine ⟨_, he, fun a hf => ?_⟩
          have hO := hO.call hO' (by simp [Res.shared])
          refine op_val (ex_extract hf rfl rfl) rfl hf rfl rfl fun a hf => ?_
          refine op_val (ex_extract hf rfl rfl) rfl hf rfl rfl fun a hf => ?_
          refine op_storeN (i := 2) (n := 7) sz_27 rfl rfl rfl (by simp [Value.oneCell']) hf rfl rfl hO fun w hO => ?_
          refine op_val (ex_assign hf rfl) rfl hf rfl rfl fun a hf => ?_
          refine wpList_nil ?_
          refine nor_then (hK21 _ _ ?_)
          refine wp_ret ?_
          obtain rfl := Option.some.inj hm
          exact post_ret Tryz.results11 hf (.cell rfl (run_loadVarN (n := 7) (vs := [int r18.1.Kind, str r18.1.Method, str r18.1.Target, int r18.1.Code, str r18.1.Reason, int r18.1.Minor, .slice p19 r18.1.Fields.length c20]) ag_27 sz_27 rfl ((hO.blkSees (i := 2) rfl).cells (o := 0) (n := 7) rfl)) (.tmp rfl .nil)) ⟨p19, c20, rfl, (hO.sub (.cons_cons _ (.cons _ (.cons _ .slnil))))⟩

set_option maxHeartbeats 1000000 in
theorem w_law14_awake (R : Bool) (w0 : World) (hG : GlobT w0) (hm : law14_awake = some R) :
    Calls Tryz.prog 9 #[] w0 fun e w' => e = .returned (.bool R) ∧ Below w0.heap.size w0 w' := by
  rw [law14_awake] at hm
  refine calls_enter (vs := []) Tryz.func9 rfl Tryz.ntmps9 rfl fun a hf => ?_
  have hF : Away [] := away_nil
  have hO : Dk.Own w0 [] w0 [] := Dk.Own.refl w0
  refine wp_seq_k fun _ hK1 => ?_
  refine wp_region_list ?_
  refine op_val (ex_assign hf rfl) rfl hf rfl rfl fun a hf => ?_
  refine wpList_nil ?_
  refine nor_then (hK1 _ _ ?_)
  refine wp_seq_k fun _ hK6 => ?_
  refine wp_region_list ?_
  obtain ⟨r2, hr2, hm⟩ := ob hm
  refine op_enter (ex_call c_11 hf (vs := [int 1, str [71, 69, 84, 32, 47, 32, 72, 84, 84, 80, 47, 49, 46, 49]]) rfl) rfl hf rfl rfl (w_startline_Parse 1 [71, 69, 84, 32, 47, 32, 72, 84, 84, 80, 47, 49, 46, 49] r2 _ (hG.own hF hO) hr2) ?_
  rintro e w' ⟨p3, c4, he, hO'⟩
  refine ⟨_, he, fun a hf => ?_⟩
  have hO := hO.call hO' (by simp [Res.shared])
  refine op_val (ex_move hf rfl) rfl hf rfl rfl fun a hf => ?_
  refine op_val (ex_extract hf rfl rfl) rfl hf rfl rfl fun a hf => ?_
  refine op_val (ex_extract hf rfl rfl) rfl hf rfl rfl fun a hf => ?_
  refine op_alloc al_27 hf rfl hO fun a b5 w hf hO => ?_
  have hO := hO.nilRow 86 2
  refine op_storeN (i := 1) (n := 7) sz_27 rfl rfl rfl (by simp [Value.oneCell']) hf rfl rfl hO fun w hO => ?_
  refine op_val (ex_assign hf rfl) rfl hf rfl rfl fun a hf => ?_
  refine wpList_nil ?_
  refine nor_then (hK6 _ _ ?_)
  refine wp_seq_k fun _ hK11 => ?_
  refine wp_region_list ?_
  obtain ⟨r7, hr7, hm⟩ := ob hm
  refine op_enter (ex_call c_11 hf (vs := [int 2, str [72, 84, 84, 80, 47, 50, 46, 48, 32, 50, 48, 48, 32, 79, 75]]) rfl) rfl hf rfl rfl (w_startline_Parse 2 [72, 84, 84, 80, 47, 50, 46, 48, 32, 50, 48, 48, 32, 79, 75] r7 _ (hG.own hF hO) hr7) ?_
  rintro e w' ⟨p8, c9, he, hO'⟩
  refine ⟨_, he, fun a hf => ?_⟩
  have hO := hO.call hO' (by simp [Res.shared])
  refine op_val (ex_move hf rfl) rfl hf rfl rfl fun a hf => ?_
  refine op_val (ex_extract hf rfl rfl) rfl hf rfl rfl fun a hf => ?_
  refine op_val (ex_extract hf rfl rfl) rfl hf rfl rfl fun a hf => ?_
  refine op_alloc al_27 hf rfl hO fun a b10 w hf hO => ?_
  have hO := hO.nilRow 86 2
  refine op_storeN (i := 1) (n := 7) sz_27 rfl rfl rfl (by simp [Value.oneCell']) hf rfl rfl hO fun w hO => ?_
  refine op_val (ex_assign hf rfl) rfl hf rfl rfl fun a hf => ?_
  refine wpList_nil ?_
  refine nor_then (hK11 _ _ ?_)
  refine wp_seq_k fun _ hK16 => ?_
  refine wp_region_list ?_
  obtain ⟨r12, hr12, hm⟩ := ob hm
  refine op_enter (ex_call c_11 hf (vs := [int 2, str [72, 84, 84, 80, 47, 49, 46, 49, 32, 50, 48, 52, 32]]) rfl) rfl hf rfl rfl (w_startline_Parse 2 [72, 84, 84, 80, 47, 49, 46, 49, 32, 50, 48, 52, 32] r12 _ (hG.own hF hO) hr12) ?_
  rintro e w' ⟨p13, c14, he, hO'⟩
  refine ⟨_, he, fun a hf => ?_⟩
  have hO := hO.call hO' (by simp [Res.shared])
  refine op_val (ex_move hf rfl) rfl hf rfl rfl fun a hf => ?_
  refine op_val (ex_extract hf rfl rfl) rfl hf rfl rfl fun a hf => ?_
  refine op_val (ex_extract hf rfl rfl) rfl hf rfl rfl fun a hf => ?_
  refine op_alloc al_27 hf rfl hO fun a b15 w hf hO => ?_
  have hO := hO.nilRow 86 2
  refine op_storeN (i := 1) (n := 7) sz_27 rfl rfl rfl (by simp [Value.oneCell']) hf rfl rfl hO fun w hO => ?_
  refine op_val (ex_assign hf rfl) rfl hf rfl rfl fun a hf => ?_
  refine wpList_nil ?_
  refine nor_then (hK16 _ _ ?_)
  refine wp_seq_cut (fun a w => ∃ (t24 : Bool), Fits 54 [(0, .bool t24)] a ∧ Dk.Own w0 [] w [.row (.slice none 0 0) 86 2 0 (cells enc_api_Field []), .blk b15 [int r12.1.Kind, str r12.1.Method, str r12.1.Target, int r12.1.Code, str r12.1.Reason, int r12.1.Minor, .slice p13 r12.1.Fields.length c14] 27, .row (.slice p13 r12.1.Fields.length c14) 86 2 r12.1.Fields.length (cells enc_api_Field r12.1.Fields), .row (.slice none 0 0) 86 2 0 (cells enc_api_Field []), .blk b10 [int r7.1.Kind, str r7.1.Method, str r7.1.Target, int r7.1.Code, str r7.1.Reason, int r7.1.Minor, .slice p8 r7.1.Fields.length c9] 27, .row (.slice p8 r7.1.Fields.length c9) 86 2 r7.1.Fields.length (cells enc_api_Field r7.1.Fields), .row (.slice none 0 0) 86 2 0 (cells enc_api_Field []), .blk b5 [int r2.1.Kind, str r2.1.Method, str r2.1.Target, int r2.1.Code, str r2.1.Reason, int r2.1.Minor, .slice p3 r2.1.Fields.length c4] 27, .row (.slice p3 r2.1.Fields.length c4) 86 2 r2.1.Fields.length (cells enc_api_Field r2.1.Fields)] ∧ law14_awake_j1 t24 = some R) ?_ ?_
  · refine wp_region_list ?_
    refine op_val (ex_move hf rfl) rfl hf rfl rfl fun a hf => ?_
    refine op_val (ex_eql (m := r2.2) (n := 0) hf rfl rfl) rfl hf rfl rfl fun a hf => ?_
    refine op_val (ex_move hf rfl) rfl hf rfl rfl fun a hf => ?_
    rcases bcase (r2.2 == 0) with hc17 | hc17
    · have hm := it hc17 hm
      refine op_guard rfl hf rfl rfl (hc17) ?_
      refine op_val (ex_field fa_27_1 hf rfl) rfl hf rfl rfl fun a hf => ?_
      refine op_guard rfl hf rfl rfl (hc17) ?_
      refine op_val (ex_load1 (o := 1) ag_9 (hO.blkSees (i := 7) rfl) rfl hf rfl) rfl hf rfl rfl fun a hf => ?_
      refine op_guard rfl hf rfl rfl (hc17) ?_
      refine op_val (ex_eql_s (l := r2.1.Method) (m := [71, 69, 84]) hf rfl rfl) rfl hf rfl rfl fun a hf => ?_
      refine op_val (ex_pick_t hf rfl hc17 rfl) rfl hf rfl rfl fun a hf => ?_
      refine op_val (ex_move hf rfl) rfl hf rfl rfl fun a hf => ?_
      rcases bcase (r2.1.Method == [71, 69, 84]) with hc18 | hc18
      · have hm := it hc18 hm
        refine op_guard rfl hf rfl rfl (hc18) ?_
        refine op_val (ex_field fa_27_2 hf rfl) rfl hf rfl rfl fun a hf => ?_
        refine op_guard rfl hf rfl rfl (hc18) ?_
        refine op_val (ex_load1 (o := 2) ag_9 (hO.blkSees (i := 7) rfl) rfl hf rfl) rfl hf rfl rfl fun a hf => ?_
        refine op_guard rfl hf rfl rfl (hc18) ?_
        refine op_val (ex_eql_s (l := r2.1.Target) (m := [47]) hf rfl rfl) rfl hf rfl rfl fun a hf => ?_
        refine op_val (ex_pick_t hf rfl hc18 rfl) rfl hf rfl rfl fun a hf => ?_
        refine op_val (ex_move hf rfl) rfl hf rfl rfl fun a hf => ?_
        rcases bcase (r2.1.Target == [47]) with hc19 | hc19
        · have hm := it hc19 hm
          refine op_guard rfl hf rfl rfl (hc19) ?_
          refine op_val (ex_field fa_27_5 hf rfl) rfl hf rfl rfl fun a hf => ?_
          refine op_guard rfl hf rfl rfl (hc19) ?_
          refine op_val (ex_load1 (o := 5) ag_3 (hO.blkSees (i := 7) rfl) rfl hf rfl) rfl hf rfl rfl fun a hf => ?_
          refine op_guard rfl hf rfl rfl (hc19) ?_
          refine op_val (ex_eql (m := r2.1.Minor) (n := 1) hf rfl rfl) rfl hf rfl rfl fun a hf => ?_
          refine op_val (ex_pick_t hf rfl hc19 rfl) rfl hf rfl rfl fun a hf => ?_
          refine op_val (ex_move hf rfl) rfl hf rfl rfl fun a hf => ?_
          rcases bcase (r2.1.Minor == 1) with hc20 | hc20
          · have hm := it hc20 hm
            refine op_guard rfl hf rfl rfl (hc20) ?_
            refine op_val (ex_move hf rfl) rfl hf rfl rfl fun a hf => ?_
            refine op_guard rfl hf rfl rfl (hc20) ?_
            refine op_val (ex_eql (m := r7.2) (n := 26) hf rfl rfl) rfl hf rfl rfl fun a hf => ?_
            refine op_val (ex_pick_t hf rfl hc20 rfl) rfl hf rfl rfl fun a hf => ?_
            refine op_val (ex_move hf rfl) rfl hf rfl rfl fun a hf => ?_
            rcases bcase (r7.2 == 26) with hc21 | hc21
            · have hm := it hc21 hm
              refine op_guard rfl hf rfl rfl (hc21) ?_
              refine op_val (ex_move hf rfl) rfl hf rfl rfl fun a hf => ?_
              refine op_guard rfl hf rfl rfl (hc21) ?_
              refine op_val (ex_eql (m := r12.2) (n := 0) hf rfl rfl) rfl hf rfl rfl fun a hf => ?_
              refine op_val (ex_pick_t hf rfl hc21 rfl) rfl hf rfl rfl fun a hf => ?_
              refine op_val (ex_move hf rfl) rfl hf rfl rfl fun a hf => ?_
              rcases bcase (r12.2 == 0) with hc22 | hc22
              · have hm := it hc22 hm
                refine op_guard rfl hf rfl rfl (hc22) ?_
                refine op_val (ex_field fa_27_3 hf rfl) rfl hf rfl rfl fun a hf => ?_
                refine op_guard rfl hf rfl rfl (hc22) ?_
                refine op_val (ex_load1 (o := 3) ag_3 (hO.blkSees (i := 1) rfl) rfl hf rfl) rfl hf rfl rfl fun a hf => ?_
                refine op_guard rfl hf rfl rfl (hc22) ?_
                refine op_val (ex_eql (m := r12.1.Code) (n := 204) hf rfl rfl) rfl hf rfl rfl fun a hf => ?_
                refine op_val (ex_pick_t hf rfl hc22 rfl) rfl hf rfl rfl fun a hf => ?_
                refine op_val (ex_move hf rfl) rfl hf rfl rfl fun a hf => ?_
                rcases bcase (r12.1.Code == 204) with hc23 | hc23
                · have hm := it hc23 hm
                  refine op_guard rfl hf rfl rfl (hc23) ?_
                  refine op_val (ex_field fa_27_4 hf rfl) rfl hf rfl rfl fun a hf => ?_
                  refine op_guard rfl hf rfl rfl (hc23) ?_
                  refine op_val (ex_load1 (o := 4) ag_9 (hO.blkSees (i := 1) rfl) rfl hf rfl) rfl hf rfl rfl fun a hf => ?_
                  refine op_guard rfl hf rfl rfl (hc23) ?_
                  refine op_val (ex_eql_s (l := r12.1.Reason) (m := []) hf rfl rfl) rfl hf rfl rfl fun a hf => ?_
                  refine op_val (ex_pick_t hf rfl hc23 rfl) rfl hf rfl rfl fun a hf => ?_
                  refine op_val (ex_assign hf rfl) rfl hf rfl rfl fun a hf => ?_
                  refine wpList_nil ?_
                  refine nor_then ?_
                  exact ⟨r12.1.Reason == [], (hf.cons rfl hf.nil), hO, hm⟩
                · have hm := ie hc23 hm
                  refine op_pass rfl hf rfl rfl (hc23) rfl rfl fun a hf => ?_
                  refine op_pass rfl hf rfl rfl (hc23) rfl rfl fun a hf => ?_
                  refine op_pass rfl hf rfl rfl (hc23) rfl rfl fun a hf => ?_
                  refine op_val (ex_pick_f hf rfl hc23 rfl) rfl hf rfl rfl fun a hf => ?_
                  refine op_val (ex_assign hf rfl) rfl hf rfl rfl fun a hf => ?_
                  refine wpList_nil ?_
                  refine nor_then ?_
                  exact ⟨false, (hf.cons rfl hf.nil), hO, hm⟩
              · have hm := ie hc22 hm
                refine op_pass rfl hf rfl rfl (hc22) rfl rfl fun a hf => ?_
                refine op_pass rfl hf rfl rfl (hc22) rfl rfl fun a hf => ?_
                refine op_pass rfl hf rfl rfl (hc22) rfl rfl fun a hf => ?_
                refine op_val (ex_pick_f hf rfl hc22 rfl) rfl hf rfl rfl fun a hf => ?_
                refine op_val (ex_move hf rfl) rfl hf rfl rfl fun a hf => ?_
                refine op_pass rfl hf rfl rfl (rfl) rfl rfl fun a hf => ?_
                refine op_pass rfl hf rfl rfl (rfl) rfl rfl fun a hf => ?_
                refine op_pass rfl hf rfl rfl (rfl) rfl rfl fun a hf => ?_
                refine op_val (ex_pick_f hf rfl rfl rfl) rfl hf rfl rfl fun a hf => ?_
                refine op_val (ex_assign hf rfl) rfl hf rfl rfl fun a hf => ?_
                refine wpList_nil ?_
                refine nor_then ?_
                exact ⟨false, (hf.cons rfl hf.nil), hO, hm⟩
            · have hm := ie hc21 hm
              refine op_pass rfl hf rfl rfl (hc21) rfl rfl fun a hf => ?_
              refine op_pass rfl hf rfl rfl (hc21) rfl rfl fun a hf => ?_
              refine op_val (ex_pick_f hf rfl hc21 rfl) rfl hf rfl rfl fun a hf => ?_
              refine op_val (ex_move hf rfl) rfl hf rfl rfl fun a hf => ?_
              refine op_pass rfl hf rfl rfl (rfl) rfl rfl fun a hf => ?_
              refine op_pass rfl hf rfl rfl (rfl) rfl rfl fun a hf => ?_
              refine op_pass rfl hf rfl rfl (rfl) rfl rfl fun a hf => ?_
              refine op_val (ex_pick_f hf rfl rfl rfl) rfl hf rfl rfl fun a hf => ?_
              refine op_val (ex_move hf rfl) rfl hf rfl rfl fun a hf => ?_
              refine op_pass rfl hf rfl rfl (rfl) rfl rfl fun a hf => ?_
              refine op_pass rfl hf rfl rfl (rfl) rfl rfl fun a hf => ?_
              refine op_pass rfl hf rfl rfl (rfl) rfl rfl fun a hf => ?_
              refine op_val (ex_pick_f hf rfl rfl rfl) rfl hf rfl rfl fun a hf => ?_
              refine op_val (ex_assign hf rfl) rfl hf rfl rfl fun a hf => ?_
              refine wpList_nil ?_
              refine nor_then ?_
              exact ⟨false, (hf.cons rfl hf.nil), hO, hm⟩
          · have hm := ie hc20 hm
            refine op_pass rfl hf rfl rfl (hc20) rfl rfl fun a hf => ?_
            refine op_pass rfl hf rfl rfl (hc20) rfl rfl fun a hf => ?_
            refine op_val (ex_pick_f hf rfl hc20 rfl) rfl hf rfl rfl fun a hf => ?_
            refine op_val (ex_move hf rfl) rfl hf rfl rfl fun a hf => ?_
            refine op_pass rfl hf rfl rfl (rfl) rfl rfl fun a hf => ?_
            refine op_pass rfl hf rfl rfl (rfl) rfl rfl fun a hf => ?_
            refine op_val (ex_pick_f hf rfl rfl rfl) rfl hf rfl rfl fun a hf => ?_
            refine op_val (ex_move hf rfl) rfl hf rfl rfl fun a hf => ?_
            refine op_pass rfl hf rfl rfl (rfl) rfl rfl fun a hf => ?_
            refine op_pass rfl hf rfl rfl (rfl) rfl rfl fun a hf => ?_
            refine op_pass rfl hf rfl rfl (rfl) rfl rfl fun a hf => ?_
            refine op_val (ex_pick_f hf rfl rfl rfl) rfl hf rfl rfl fun a hf => ?_
            refine op_val (ex_move hf rfl) rfl hf rfl rfl fun a hf => ?_
            refine op_pass rfl hf rfl rfl (rfl) rfl rfl fun a hf => ?_
            refine op_pass rfl hf rfl rfl (rfl) rfl rfl fun a hf => ?_
            refine op_pass rfl hf rfl rfl (rfl) rfl rfl fun a hf => ?_
            refine op_val (ex_pick_f hf rfl rfl rfl) rfl hf rfl rfl fun a hf => ?_
            refine op_val (ex_assign hf rfl) rfl hf rfl rfl fun a hf => ?_
            refine wpList_nil ?_
            refine nor_then ?_
            exact ⟨false, (hf.cons rfl hf.nil), hO, hm⟩
        · have hm := ie hc19 hm
          refine op_pass rfl hf rfl rfl (hc19) rfl rfl fun a hf => ?_
          refine op_pass rfl hf rfl rfl (hc19) rfl rfl fun a hf => ?_
          refine op_pass rfl hf rfl rfl (hc19) rfl rfl fun a hf => ?_
          refine op_val (ex_pick_f hf rfl hc19 rfl) rfl hf rfl rfl fun a hf => ?_
          refine op_val (ex_move hf rfl) rfl hf rfl rfl fun a hf => ?_
          refine op_pass rfl hf rfl rfl (rfl) rfl rfl fun a hf => ?_
          refine op_pass rfl hf rfl rfl (rfl) rfl rfl fun a hf => ?_
          refine op_val (ex_pick_f hf rfl rfl rfl) rfl hf rfl rfl fun a hf => ?_
          refine op_val (ex_move hf rfl) rfl hf rfl rfl fun a hf => ?_
          refine op_pass rfl hf rfl rfl (rfl) rfl rfl fun a hf => ?_
          refine op_pass rfl hf rfl rfl (rfl) rfl rfl fun a hf => ?_
          refine op_val (ex_pick_f hf rfl rfl rfl) rfl hf rfl rfl fun a hf => ?_
          refine op_val (ex_move hf rfl) rfl hf rfl rfl fun a hf => ?_
          refine op_pass rfl hf rfl rfl (rfl) rfl rfl fun a hf => ?_
          refine op_pass rfl hf rfl rfl (rfl) rfl rfl fun a hf => ?_
          refine op_pass rfl hf rfl rfl (rfl) rfl rfl fun a hf => ?_
          refine op_val (ex_pick_f hf rfl rfl rfl) rfl hf rfl rfl fun a hf => ?_
          refine op_val (ex_move hf rfl) rfl hf rfl rfl fun a hf => ?_
          refine op_pass rfl hf rfl rfl (rfl) rfl rfl fun a hf => ?_
          refine op_pass rfl hf rfl rfl (rfl) rfl rfl fun a hf => ?_
          refine op_pass rfl hf rfl rfl (rfl) rfl rfl fun a hf => ?_
          refine op_val (ex_pick_f hf rfl rfl rfl) rfl hf rfl rfl fun a hf => ?_
          refine op_val (ex_assign hf rfl) rfl hf rfl rfl fun a hf => ?_
          refine wpList_nil ?_
          refine nor_then ?_
          exact ⟨false, (hf.cons rfl hf.nil), hO, hm⟩
      · have hm := ie hc18 hm
        refine op_pass rfl hf rfl rfl (hc18) rfl rfl fun a hf => ?_
        refine op_pass rfl hf rfl rfl (hc18) rfl rfl fun a hf => ?_
        refine op_pass rfl hf rfl rfl (hc18) rfl rfl fun a hf => ?_
        refine op_val (ex_pick_f hf rfl hc18 rfl) rfl hf rfl rfl fun a hf => ?_
        refine op_val (ex_move hf rfl) rfl hf rfl rfl fun a hf => ?_
        refine op_pass rfl hf rfl rfl (rfl) rfl rfl fun a hf => ?_
        refine op_pass rfl hf rfl rfl (rfl) rfl rfl fun a hf => ?_
        refine op_pass rfl hf rfl rfl (rfl) rfl rfl fun a hf => ?_
        refine op_val (ex_pick_f hf rfl rfl rfl) rfl hf rfl rfl fun a hf => ?_
        refine op_val (ex_move hf rfl) rfl hf rfl rfl fun a hf => ?_
        refine op_pass rfl hf rfl rfl (rfl) rfl rfl fun a hf => ?_
        refine op_pass rfl hf rfl rfl (rfl) rfl rfl fun a hf => ?_
        refine op_val (ex_pick_f hf rfl rfl rfl) rfl hf rfl rfl fun a hf => ?_
        refine op_val (ex_move hf rfl) rfl hf rfl rfl fun a hf => ?_
        refine op_pass rfl hf rfl rfl (rfl) rfl rfl fun a hf => ?_
        refine op_pass rfl hf rfl rfl (rfl) rfl rfl fun a hf => ?_
        refine op_val (ex_pick_f hf rfl rfl rfl) rfl hf rfl rfl fun a hf => ?_
        refine op_val (ex_move hf rfl) rfl hf rfl rfl fun a hf => ?_
        refine op_pass rfl hf rfl rfl (rfl) rfl rfl fun a hf => ?_
        refine op_pass rfl hf rfl rfl (rfl) rfl rfl fun a hf => ?_
        refine op_pass rfl hf rfl rfl (rfl) rfl rfl fun a hf => ?_
        refine op_val (ex_pick_f hf rfl rfl rfl) rfl hf rfl rfl fun a hf => ?_
        refine op_val (ex_move hf rfl) rfl hf rfl rfl fun a hf => ?_
        refine op_pass rfl hf rfl rfl (rfl) rfl rfl fun a hf => ?_
        refine op_pass rfl hf rfl rfl (rfl) rfl rfl fun a hf => ?_
        refine op_pass rfl hf rfl rfl (rfl) rfl rfl fun a hf => ?_
        refine op_val (ex_pick_f hf rfl rfl rfl) rfl hf rfl rfl fun a hf => ?_
        refine op_val (ex_assign hf rfl) rfl hf rfl rfl fun a hf => ?_
        refine wpList_nil ?_
        refine nor_then ?_
        exact ⟨false, (hf.cons rfl hf.nil), hO, hm⟩
    · have hm := ie hc17 hm
      refine op_pass rfl hf rfl rfl (hc17) rfl rfl fun a hf => ?_
      refine op_pass rfl hf rfl rfl (hc17) rfl rfl fun a hf => ?_
      refine op_pass rfl hf rfl rfl (hc17) rfl rfl fun a hf => ?_
      refine op_val (ex_pick_f hf rfl hc17 rfl) rfl hf rfl rfl fun a hf => ?_
      refine op_val (ex_move hf rfl) rfl hf rfl rfl fun a hf => ?_
      refine op_pass rfl hf rfl rfl (rfl) rfl rfl fun a hf => ?_
      refine op_pass rfl hf rfl rfl (rfl) rfl rfl fun a hf => ?_
      refine op_pass rfl hf rfl rfl (rfl) rfl rfl fun a hf => ?_
      refine op_val (ex_pick_f hf rfl rfl rfl) rfl hf rfl rfl fun a hf => ?_
      refine op_val (ex_move hf rfl) rfl hf rfl rfl fun a hf => ?_
      refine op_pass rfl hf rfl rfl (rfl) rfl rfl fun a hf => ?_
      refine op_pass rfl hf rfl rfl (rfl) rfl rfl fun a hf => ?_
      refine op_pass rfl hf rfl rfl (rfl) rfl rfl fun a hf => ?_
      refine op_val (ex_pick_f hf rfl rfl rfl) rfl hf rfl rfl fun a hf => ?_
      refine op_val (ex_move hf rfl) rfl hf rfl rfl fun a hf => ?_
      refine op_pass rfl hf rfl rfl (rfl) rfl rfl fun a hf => ?_
      refine op_pass rfl hf rfl rfl (rfl) rfl rfl fun a hf => ?_
      refine op_val (ex_pick_f hf rfl rfl rfl) rfl hf rfl rfl fun a hf => ?_
      refine op_val (ex_move hf rfl) rfl hf rfl rfl fun a hf => ?_
      refine op_pass rfl hf rfl rfl (rfl) rfl rfl fun a hf => ?_
      refine op_pass rfl hf rfl rfl (rfl) rfl rfl fun a hf => ?_
      refine op_val (ex_pick_f hf rfl rfl rfl) rfl hf rfl rfl fun a hf => ?_
      refine op_val (ex_move hf rfl) rfl hf rfl rfl fun a hf => ?_
      refine op_pass rfl hf rfl rfl (rfl) rfl rfl fun a hf => ?_
      refine op_pass rfl hf rfl rfl (rfl) rfl rfl fun a hf => ?_
      refine op_pass rfl hf rfl rfl (rfl) rfl rfl fun a hf => ?_
      refine op_val (ex_pick_f hf rfl rfl rfl) rfl hf rfl rfl fun a hf => ?_
      refine op_val (ex_move hf rfl) rfl hf rfl rfl fun a hf => ?_
      refine op_pass rfl hf rfl rfl (rfl) rfl rfl fun a hf => ?_
      refine op_pass rfl hf rfl rfl (rfl) rfl rfl fun a hf => ?_
      refine op_pass rfl hf rfl rfl (rfl) rfl rfl fun a hf => ?_
      refine op_val (ex_pick_f hf rfl rfl rfl) rfl hf rfl rfl fun a hf => ?_
      refine op_val (ex_assign hf rfl) rfl hf rfl rfl fun a hf => ?_
      refine wpList_nil ?_
      refine nor_then ?_
      exact ⟨false, (hf.cons rfl hf.nil), hO, hm⟩
  · rintro a w ⟨t24, hf, hO, hm⟩
    rw [law14_awake_j1] at hm
    refine wp_ret ?_
    obtain rfl := Option.some.inj hm
    exact post_ret Tryz.results9 hf (.tmp rfl .nil) ⟨rfl, hO.below⟩

set_option maxHeartbeats 1000000 in
theorem w_law14_few (x_s : Str) (R : Str) (w0 : World) (hG : Glob w0) (hm : law14_few x_s = some R) :
    Calls Tryz.prog 10 #[str x_s] w0 fun e w' => e = .returned (str R) ∧ Below w0.heap.size w0 w' := by
  rw [law14_few] at hm
  refine calls_enter (vs := [str x_s]) Tryz.func10 rfl Tryz.ntmps10 rfl fun a hf => ?_
  have hF : Away [] := away_nil
  have hO : Dk.Own w0 [] w0 [] := Dk.Own.refl w0
  refine wp_seq_k fun _ hK1 => ?_
  refine wp_region_list ?_
  refine op_val (ex_assign hf rfl) rfl hf rfl rfl fun a hf => ?_
  refine wpList_nil ?_
  refine nor_then (hK1 _ _ ?_)
  refine wp_seq_k fun _ hK3 => ?_
  refine wp_region_list ?_
  refine op_val (ex_move hf rfl) rfl hf rfl rfl fun a hf => ?_
  refine op_val (ex_move hf rfl) rfl hf rfl rfl fun a hf => ?_
  refine op_val (ex_len_s (l := x_s) Tryz.underlying9 hf rfl) rfl hf rfl rfl fun a hf => ?_
  refine op_val (ex_min (m := (x_s.length : Int)) (n := 200) hf rfl rfl) rfl hf rfl rfl fun a hf => ?_
  obtain ⟨s2, hs2, hm⟩ := ob hm
  refine op_val (ex_to_s (l := x_s) Tryz.underlying9 hf rfl rfl hs2) rfl hf rfl rfl fun a hf => ?_
  refine op_val (ex_assign hf rfl) rfl hf rfl rfl fun a hf => ?_
  refine wpList_nil ?_
  refine nor_then (hK3 _ _ ?_)
  refine wp_ret ?_
  obtain rfl := Option.some.inj hm
  exact post_ret Tryz.results10 hf (.tmp rfl .nil) ⟨rfl, hO.below⟩

set_option maxHeartbeats 1000000 in
theorem w_ref08_Parts (x_s : Str) (x_c : UInt8) (R : List Str) (w0 : World) (hG : Glob w0) (hm : ref08_Parts x_s x_c = some R) :
    Calls Tryz.prog 37 #[str x_s, byte x_c] w0 fun e w' => ∃ (p0 : Option Addr) (c0 : Nat), e = .returned (.slice p0 R.length c0) ∧ Dk.Own w0 [] w' [.row (.slice p0 R.length c0) 9 1 R.length (cells enc_str R)] := by
  rw [ref08_Parts] at hm
  refine calls_enter (vs := [str x_s, byte x_c]) Tryz.func37 rfl Tryz.ntmps37 rfl fun a hf => ?_
  have hF : Away [] := away_nil
  have hO : Dk.Own w0 [] w0 [] := Dk.Own.refl w0
  refine wp_seq_k fun _ hK1 => ?_
  refine wp_region_list ?_
  have hO := hO.nilRow 9 1
  refine op_val (ex_assign hf rfl) rfl hf rfl rfl fun a hf => ?_
  refine wpList_nil ?_
  refine nor_then (hK1 _ _ ?_)
  refine wp_seq_k fun _ hK2 => ?_
  refine wp_region_list ?_
  have hO := hO.nilRow 9 1
  refine op_val (ex_assign hf rfl) rfl hf rfl rfl fun a hf => ?_
  refine wpList_nil ?_
  refine nor_then (hK2 _ _ ?_)
  refine wp_seq_k fun _ hK3 => ?_
  refine wp_region_list ?_
  refine op_val (ex_assign hf rfl) rfl hf rfl rfl fun a hf => ?_
  refine wpList_nil ?_
  refine nor_then (hK3 _ _ ?_)
  refine wp_seq_k fun _ hK28 => ?_
  refine wp_seq_k fun _ hK4 => ?_
  refine wp_region_list ?_
  refine op_val (ex_assign hf rfl) rfl hf rfl rfl fun a hf => ?_
  refine wpList_nil ?_
  refine nor_then (hK4 _ _ ?_)
  refine wp_block ?_
  refine wp_loop_n (fun k a w => ∃ (p5 : Option Addr) (c6 : Nat) (l7 : List Str) (i8 : Int) (i9 : Int), Fits 34 [(0, str x_s), (1, byte x_c), (5, .slice p5 l7.length c6), (6, int i8), (7, int i9)] a ∧ Dk.Own w0 [] w [.row (.slice p5 l7.length c6) 9 1 l7.length (cells enc_str l7), .row (.slice none 0 0) 9 1 0 (cells enc_str [])] ∧ ref08_Parts_L1 x_s x_c k l7 i8 i9 = some R) ?_ fuel ?_
  · rintro n1 a w ⟨p5, c6, l7, i8, i9, hf, hO, hm⟩
    obtain _ | n1 := n1
    · rw [ref08_Parts_L1] at hm
      cases hm
    · rw [ref08_Parts_L1] at hm
      refine wp_seq_k fun _ hK12 => ?_
      refine wp_seq_k fun _ hK10 => ?_
      refine wp_region_list ?_
      refine op_val (ex_move hf rfl) rfl hf rfl rfl fun a hf => ?_
      refine op_val (ex_move hf rfl) rfl hf rfl rfl fun a hf => ?_
      refine op_val (ex_len_s (l := x_s) Tryz.underlying9 hf rfl) rfl hf rfl rfl fun a hf => ?_
      refine op_val (ex_lss (m := i9) (n := (x_s.length : Int)) hf rfl rfl) rfl hf rfl rfl fun a hf => ?_
      refine wpList_nil ?_
      refine nor_then (hK10 _ _ ?_)
      refine wp_cond_cut hf rfl (fun hc11 => ?_) (fun hc11 => ?_)
      · have hm := it hc11 hm
        refine wp_skip ?_
        refine nor_then (hK12 _ _ ?_)
        refine wp_seq_cut (fun a w => ∃ (p23 : Option Addr) (c24 : Nat) (l25 : List Str) (i26 : Int), Fits 34 [(0, str x_s), (1, byte x_c), (5, .slice p23 l25.length c24), (6, int i26), (7, int i9)] a ∧ Dk.Own w0 [] w [.row (.slice p23 l25.length c24) 9 1 l25.length (cells enc_str l25), .row (.slice none 0 0) 9 1 0 (cells enc_str [])] ∧ ref08_Parts_j2 (ref08_Parts_L1 x_s x_c n1) i9 l25 i26 = some R) ?_ ?_
        · refine wp_block ?_
          refine wp_seq_k fun _ hK14 => ?_
          refine wp_region_list ?_
          refine op_val (ex_move hf rfl) rfl hf rfl rfl fun a hf => ?_
          refine op_val (ex_move hf rfl) rfl hf rfl rfl fun a hf => ?_
          obtain ⟨b13, hb13, hm⟩ := ob hm
          refine op_val (ex_index (l := x_s) Tryz.underlying9 hf rfl rfl hb13) rfl hf rfl rfl fun a hf => ?_
          refine op_val (ex_move hf rfl) rfl hf rfl rfl fun a hf => ?_
          refine op_val (ex_eql_b (b := b13) (c := x_c) hf rfl rfl) rfl hf rfl rfl fun a hf => ?_
          refine wpList_nil ?_
          refine nor_then (hK14 _ _ ?_)
          refine wp_cond_cut hf rfl (fun hc15 => ?_) (fun hc15 => ?_)
          · have hm := it hc15 hm
            refine wp_seq_k fun _ hK21 => ?_
            refine wp_region_list ?_
            refine op_val (ex_move hf rfl) rfl hf rfl rfl fun a hf => ?_
            refine op_val (ex_move hf rfl) rfl hf rfl rfl fun a hf => ?_
            refine op_val (ex_move hf rfl) rfl hf rfl rfl fun a hf => ?_
            refine op_val (ex_move hf rfl) rfl hf rfl rfl fun a hf => ?_
            obtain ⟨s16, hs16, hm⟩ := ob hm
            refine op_val (ex_sub_s (l := x_s) Tryz.underlying9 hf rfl rfl rfl hs16) rfl hf rfl rfl fun a hf => ?_
            refine op_buildSlice (vs := [(0, str s16)]) (cs := [str s16]) (e := 9) (sz := 1) hf rfl rfl (fun w => by kernel_rfl) rfl rfl hO fun a b17 w hf hO => ?_
            obtain ⟨hg20, hm⟩ := og hm
            refine op_appendT el_40 (enc := enc_str) (xs := l7) (ys := [s16]) (i := 1) (fun _ => rfl) rfl (hO.rowSees (i := 0) rfl) (by simp [cells, enc_str, Value.oneCell']) hg20 hf rfl rfl rfl hO fun a p18 c19 w hf hO => ?_
            refine op_val (ex_assign hf rfl) rfl hf rfl rfl fun a hf => ?_
            refine wpList_nil ?_
            refine nor_then (hK21 _ _ ?_)
            refine wp_region_list ?_
            refine op_val (ex_move hf rfl) rfl hf rfl rfl fun a hf => ?_
            obtain ⟨i22, hi22, hm⟩ := ob hm
            refine op_val (ex_add hf rfl rfl hi22) rfl hf rfl rfl fun a hf => ?_
            refine op_val (ex_assign hf rfl) rfl hf rfl rfl fun a hf => ?_
            refine wpList_nil ?_
            refine nor_block ?_
            refine nor_then ?_
            exact ⟨p18, c19, l7 ++ [s16], i22, (hf.cons rfl (hf.cons rfl (hf.cons rfl (hf.cons rfl (hf.cons rfl hf.nil))))), (hO.sub (.cons _ (.cons_cons _ (.cons_cons _ .slnil)))), hm⟩
          · have hm := ie hc15 hm
            refine wp_skip ?_
            refine nor_block ?_
            refine nor_then ?_
            exact ⟨p5, c6, l7, i8, (hf.cons rfl (hf.cons rfl (hf.cons rfl (hf.cons rfl (hf.cons rfl hf.nil))))), hO, hm⟩
        · rintro a w ⟨p23, c24, l25, i26, hf, hO, hm⟩
          rw [ref08_Parts_j2] at hm
          refine wp_region_list ?_
          refine op_val (ex_move hf rfl) rfl hf rfl rfl fun a hf => ?_
          obtain ⟨i27, hi27, hm⟩ := ob hm
          refine op_val (ex_add hf rfl rfl hi27) rfl hf rfl rfl fun a hf => ?_
          refine op_val (ex_assign hf rfl) rfl hf rfl rfl fun a hf => ?_
          refine wpList_nil ?_
          refine nor_then ?_
          exact ⟨_, Nat.lt_succ_self _, p23, c24, l25, i26, i27, (hf.cons rfl (hf.cons rfl (hf.cons rfl (hf.cons rfl (hf.cons rfl hf.nil))))), hO, hm⟩
      · have hm := ie hc11 hm
        refine wp_exit ?_
        refine exit_then ?_
        refine exit_then ?_
        refine exit_here ?_
        refine nor_then (hK28 _ _ ?_)
        refine wp_seq_k fun _ hK34 => ?_
        refine wp_region_list ?_
        refine op_val (ex_move hf rfl) rfl hf rfl rfl fun a hf => ?_
        refine op_val (ex_move hf rfl) rfl hf rfl rfl fun a hf => ?_
        refine op_val (ex_move hf rfl) rfl hf rfl rfl fun a hf => ?_
        obtain ⟨s29, hs29, hm⟩ := ob hm
        refine op_val (ex_from_s (l := x_s) Tryz.underlying9 hf rfl rfl hs29) rfl hf rfl rfl fun a hf => ?_
        refine op_buildSlice (vs := [(0, str s29)]) (cs := [str s29]) (e := 9) (sz := 1) hf rfl rfl (fun w => by kernel_rfl) rfl rfl hO fun a b30 w hf hO => ?_
        obtain ⟨hg33, hm⟩ := og hm
        refine op_appendT el_40 (enc := enc_str) (xs := l7) (ys := [s29]) (i := 1) (fun _ => rfl) rfl (hO.rowSees (i := 0) rfl) (by simp [cells, enc_str, Value.oneCell']) hg33 hf rfl rfl rfl hO fun a p31 c32 w hf hO => ?_
        refine op_val (ex_assign hf rfl) rfl hf rfl rfl fun a hf => ?_
        refine wpList_nil ?_
        refine nor_then (hK34 _ _ ?_)
        refine wp_ret ?_
        obtain rfl := Option.some.inj hm
        exact post_ret Tryz.results37 hf (.tmp rfl .nil) ⟨p31, c32, rfl, (hO.sub (.cons _ (.cons_cons _ (.cons _ .slnil))))⟩
  · exact ⟨none, 0, [], 0, 0, (hf.cons rfl (hf.cons rfl (hf.cons rfl (hf.cons rfl (hf.cons rfl hf.nil))))), hO, hm⟩

end Go.Proofs
