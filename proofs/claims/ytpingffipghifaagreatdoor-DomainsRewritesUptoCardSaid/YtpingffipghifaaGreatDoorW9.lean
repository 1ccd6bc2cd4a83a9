/-
  Walks, written by a program (wip/gen): what its model says, the function returns; what was there before is as it was.
-/
import Derived.Test.YtpingffipghifaaGreatDoorLib
import Derived.Test.YtpingffipghifaaGreatDoorW0
import Derived.Test.YtpingffipghifaaGreatDoorW2
import Derived.Test.YtpingffipghifaaGreatDoorW4
import Derived.Test.YtpingffipghifaaGreatDoorW5
import Derived.Test.YtpingffipghifaaGreatDoorW6
import Derived.Test.YtpingffipghifaaGreatDoorW7
import Derived.Test.YtpingffipghifaaGreatDoorW8
set_option linter.unusedVariables false
set_option linter.unusedSimpArgs false
set_option maxRecDepth 100000
namespace Go.Proofs
open Go.Dk Go.Dm Go.RowKit

set_option maxHeartbeats 1000000 in
theorem w_ref29_Rewrite (x_s : Str) (x_l : List api_Swap) (R : Str) (w0 : World) (hG : Glob w0) {x_l_p0 : Option Addr} {x_l_c0 : Nat} (hs0 : Sees w0 x_l_p0 (cells enc_api_Swap x_l)) (hc0 : x_l.length ≤ x_l_c0) (hm : ref29_Rewrite x_s x_l = some R) :
    Calls Tryz.prog 10 #[str x_s, .slice x_l_p0 x_l.length x_l_c0] w0 fun e w' => e = .returned (str R) ∧ Below w0.heap.size w0 w' := by
  rw [ref29_Rewrite] at hm
  refine calls_enter (vs := [str x_s, .slice x_l_p0 x_l.length x_l_c0]) Tryz.func10 rfl Tryz.ntmps10 rfl fun a hf => ?_
  have hF : Away [] := away_nil
  have hO : Dk.Own w0 [] w0 [] := Dk.Own.refl w0
  have hO := hO.addShr hs0 (by simp [Res.shared])
  refine wp_seq_k fun _ hK1 => ?_
  refine wp_region_list ?_
  refine op_val (ex_assign hf rfl) rfl hf rfl rfl fun a hf => ?_
  refine wpList_nil ?_
  refine nor_then (hK1 _ _ ?_)
  refine wp_seq_k fun _ hK6 => ?_
  refine wp_region_list ?_
  refine op_val (ex_move hf rfl) rfl hf rfl rfl fun a hf => ?_
  obtain ⟨r2, hr2, hm⟩ := ob hm
  refine op_enter (ex_call c_27 hf (vs := [str x_s]) rfl) rfl hf rfl rfl (w_ref28_Parse x_s r2 _ (hG.own hF hO) hr2) ?_
  rintro e w' ⟨p3, c4, he, hO'⟩
  refine ⟨_, he, fun a hf => ?_⟩
  have hO := hO.call hO' (by simp [Res.shared])
  refine op_val (ex_move hf rfl) rfl hf rfl rfl fun a hf => ?_
  refine op_val (ex_extract hf rfl rfl) rfl hf rfl rfl fun a hf => ?_
  refine op_val (ex_extract hf rfl rfl) rfl hf rfl rfl fun a hf => ?_
  refine op_alloc al_33 hf rfl hO fun a b5 w hf hO => ?_
  have hO := hO.nilRow 66 3
  refine op_storeN (i := 1) (n := 3) sz_33 rfl rfl rfl (by simp [Value.oneCell']) hf rfl rfl hO fun w hO => ?_
  refine op_val (ex_assign hf rfl) rfl hf rfl rfl fun a hf => ?_
  refine wpList_nil ?_
  refine nor_then (hK6 _ _ ?_)
  refine wp_seq_k fun _ hK8 => ?_
  refine wp_region_list ?_
  refine op_val (ex_loadN (o := 0) (vs := [str r2.1.Name, str r2.1.Value, .slice p3 r2.1.Attrs.length c4]) ag_33 sz_33 (hO.blkSees (i := 1) rfl) rfl rfl hf rfl) rfl hf rfl rfl fun a hf => ?_
  obtain ⟨r7, hr7, hm⟩ := ob hm
  refine op_enter (ex_call c_28 hf (vs := [.agg #[str r2.1.Name, str r2.1.Value, .slice p3 r2.1.Attrs.length c4], str [100, 111, 109, 97, 105, 110]]) rfl) rfl hf rfl rfl (w_ref28_Place r2.1 [100, 111, 109, 97, 105, 110] r7 _ (hG.own hF hO) (hO.rowSees (i := 2) rfl) (hO.rowCap (i := 2) rfl) hr7) ?_
  rintro e w' ⟨he, hb⟩
  refine ⟨_, he, fun a hf => ?_⟩
  have hO := hO.grow hb
  refine op_val (ex_assign hf rfl) rfl hf rfl rfl fun a hf => ?_
  refine wpList_nil ?_
  refine nor_then (hK8 _ _ ?_)
  refine wp_seq_k fun _ hK13 => ?_
  refine wp_seq_cut (fun a w => ∃ (t10 : Bool), Fits 50 [(0, str x_s), (1, .slice x_l_p0 x_l.length x_l_c0), (5, ptr b5 0), (7, int r7), (23, .bool t10)] a ∧ Dk.Own w0 [] w [.row (.slice none 0 0) 66 3 0 (cells enc_api_Attr []), .blk b5 [str r2.1.Name, str r2.1.Value, .slice p3 r2.1.Attrs.length c4] 33, .row (.slice p3 r2.1.Attrs.length c4) 66 3 r2.1.Attrs.length (cells enc_api_Attr r2.1.Attrs), .shr x_l_p0 (cells enc_api_Swap x_l)] ∧ ref29_Rewrite_j1 x_s x_l r2 r7 t10 = some R) ?_ ?_
  · refine wp_region_list ?_
    refine op_val (ex_move hf rfl) rfl hf rfl rfl fun a hf => ?_
    refine op_val (ex_neq (m := r2.2) (n := 0) hf rfl rfl) rfl hf rfl rfl fun a hf => ?_
    refine op_val (ex_move hf rfl) rfl hf rfl rfl fun a hf => ?_
    rcases bcase (!(r2.2 == 0)) with hc9 | hc9
    · have hm := it hc9 hm
      refine op_pass rfl hf rfl rfl (hc9) rfl rfl fun a hf => ?_
      refine op_pass rfl hf rfl rfl (hc9) rfl rfl fun a hf => ?_
      refine op_val (ex_pick_t hf rfl hc9 rfl) rfl hf rfl rfl fun a hf => ?_
      refine wpList_nil ?_
      refine nor_then ?_
      exact ⟨true, (hf.cons rfl (hf.cons rfl (hf.cons rfl (hf.cons rfl (hf.cons rfl hf.nil))))), hO, hm⟩
    · have hm := ie hc9 hm
      refine op_guard rfl hf rfl rfl (hc9) ?_
      refine op_val (ex_move hf rfl) rfl hf rfl rfl fun a hf => ?_
      refine op_guard rfl hf rfl rfl (hc9) ?_
      refine op_val (ex_lss (m := r7) (n := 0) hf rfl rfl) rfl hf rfl rfl fun a hf => ?_
      refine op_val (ex_pick_f hf rfl hc9 rfl) rfl hf rfl rfl fun a hf => ?_
      refine wpList_nil ?_
      refine nor_then ?_
      exact ⟨decide (r7 < 0), (hf.cons rfl (hf.cons rfl (hf.cons rfl (hf.cons rfl (hf.cons rfl hf.nil))))), hO, hm⟩
  · rintro a w ⟨t10, hf, hO, hm⟩
    rw [ref29_Rewrite_j1] at hm
    refine wp_cond_cut hf rfl (fun hc11 => ?_) (fun hc11 => ?_)
    · have hm := it hc11 hm
      refine wp_seq_k fun _ hK12 => ?_
      refine wp_region_list ?_
      refine op_val (ex_move hf rfl) rfl hf rfl rfl fun a hf => ?_
      refine op_val (ex_assign hf rfl) rfl hf rfl rfl fun a hf => ?_
      refine wpList_nil ?_
      refine nor_then (hK12 _ _ ?_)
      refine wp_ret ?_
      refine ret_then ?_
      obtain rfl := Option.some.inj hm
      exact post_ret Tryz.results10 hf (.tmp rfl .nil) ⟨rfl, hO.below⟩
    · have hm := ie hc11 hm
      refine wp_skip ?_
      refine nor_then (hK13 _ _ ?_)
      refine wp_seq_k fun _ hK18 => ?_
      refine wp_region_list ?_
      refine op_val (ex_field fa_33_2 hf rfl) rfl hf rfl rfl fun a hf => ?_
      refine op_val (ex_load1 (o := 2) ag_31 (hO.blkSees (i := 1) rfl) rfl hf rfl) rfl hf rfl rfl fun a hf => ?_
      refine op_val (ex_move hf rfl) rfl hf rfl rfl fun a hf => ?_
      obtain ⟨x14, hx14, hm⟩ := ob hm
      obtain ⟨b15, o16, hix14, hSx14, hAx14⟩ := elemAtRow (enc := enc_api_Attr) (sz := 3) (xs := r2.1.Attrs) 31 Tryz.underlying31 sz_66 (by decide) (fun _ => rfl) hO (i := 2) rfl hx14
      refine op_val (ex_indexAddr hix14 hf rfl rfl) rfl hf rfl rfl fun a hf => ?_
      refine op_val (ex_field fa_66_1 hf rfl) rfl hf rfl rfl fun a hf => ?_
      refine op_val (ex_load1 (o := 1) ag_9 (hSx14 _ (hO.rowSees (i := 2) rfl)) rfl hf rfl) rfl hf rfl rfl fun a hf => ?_
      refine op_val (ex_move hf rfl) rfl hf rfl rfl fun a hf => ?_
      obtain ⟨r17, hr17, hm⟩ := ob hm
      refine op_enter (ex_call c_29 hf (vs := [str x14.Value, .slice x_l_p0 x_l.length x_l_c0]) rfl) rfl hf rfl rfl (w_ref29_Map x14.Value x_l r17 _ (hG.own hF hO) (hO.sees (i := 3) rfl) hc0 hr17) ?_
      rintro e w' ⟨he, hb⟩
      refine ⟨_, he, fun a hf => ?_⟩
      have hO := hO.grow hb
      refine op_val (ex_move hf rfl) rfl hf rfl rfl fun a hf => ?_
      refine op_val (ex_extract hf rfl rfl) rfl hf rfl rfl fun a hf => ?_
      refine op_val (ex_extract hf rfl rfl) rfl hf rfl rfl fun a hf => ?_
      refine op_val (ex_assign hf rfl) rfl hf rfl rfl fun a hf => ?_
      refine op_val (ex_assign hf rfl) rfl hf rfl rfl fun a hf => ?_
      refine wpList_nil ?_
      refine nor_then (hK18 _ _ ?_)
      refine wp_seq_k fun _ hK22 => ?_
      refine wp_seq_k fun _ hK19 => ?_
      refine wp_region_list ?_
      refine op_val (ex_move hf rfl) rfl hf rfl rfl fun a hf => ?_
      refine op_val (ex_not hf rfl) rfl hf rfl rfl fun a hf => ?_
      refine wpList_nil ?_
      refine nor_then (hK19 _ _ ?_)
      refine wp_cond_cut hf rfl (fun hc20 => ?_) (fun hc20 => ?_)
      · have hm := it hc20 hm
        refine wp_seq_k fun _ hK21 => ?_
        refine wp_region_list ?_
        refine op_val (ex_move hf rfl) rfl hf rfl rfl fun a hf => ?_
        refine op_val (ex_assign hf rfl) rfl hf rfl rfl fun a hf => ?_
        refine wpList_nil ?_
        refine nor_then (hK21 _ _ ?_)
        refine wp_ret ?_
        refine ret_then ?_
        obtain rfl := Option.some.inj hm
        exact post_ret Tryz.results10 hf (.tmp rfl .nil) ⟨rfl, hO.below⟩
      · have hm := ie hc20 hm
        refine wp_skip ?_
        refine nor_then (hK22 _ _ ?_)
        refine wp_seq_k fun _ hK27 => ?_
        refine wp_region_list ?_
        refine op_val (ex_loadN (o := 0) (vs := [str r2.1.Name, str r2.1.Value, .slice p3 r2.1.Attrs.length c4]) ag_33 sz_33 (hO.blkSees (i := 1) rfl) rfl rfl hf rfl) rfl hf rfl rfl fun a hf => ?_
        refine op_val (ex_move hf rfl) rfl hf rfl rfl fun a hf => ?_
        obtain ⟨r23, hr23, hm⟩ := ob hm
        refine op_enter (ex_call c_31 hf (vs := [.agg #[str r2.1.Name, str r2.1.Value, .slice p3 r2.1.Attrs.length c4], str [68, 111, 109, 97, 105, 110], str r17.1]) rfl) rfl hf rfl rfl (w_ref28_Set r2.1 [68, 111, 109, 97, 105, 110] r17.1 r23 _ (hG.own hF hO) (hO.rowSees (i := 2) rfl) (hO.rowCap (i := 2) rfl) hr23) ?_
        rintro e w' ⟨p24, c25, he, hO'⟩
        refine ⟨_, he, fun a hf => ?_⟩
        have hO := hO.call hO' (by simp [Res.shared])
        obtain ⟨r26, hr26, hm⟩ := ob hm
        refine op_enter (ex_call c_30 hf (vs := [.agg #[str r23.Name, str r23.Value, .slice p24 r23.Attrs.length c25]]) rfl) rfl hf rfl rfl (w_ref28_Text r23 r26 _ (hG.own hF hO) (hO.rowSees (i := 0) rfl) (hO.rowCap (i := 0) rfl) hr26) ?_
        rintro e w' ⟨he, hb⟩
        refine ⟨_, he, fun a hf => ?_⟩
        have hO := hO.grow hb
        refine op_val (ex_move hf rfl) rfl hf rfl rfl fun a hf => ?_
        refine op_val (ex_extract hf rfl rfl) rfl hf rfl rfl fun a hf => ?_
        refine op_val (ex_extract hf rfl rfl) rfl hf rfl rfl fun a hf => ?_
        refine op_val (ex_assign hf rfl) rfl hf rfl rfl fun a hf => ?_
        refine op_val (ex_assign hf rfl) rfl hf rfl rfl fun a hf => ?_
        refine wpList_nil ?_
        refine nor_then (hK27 _ _ ?_)
        refine wp_seq_k fun _ hK31 => ?_
        refine wp_seq_k fun _ hK28 => ?_
        refine wp_region_list ?_
        refine op_val (ex_move hf rfl) rfl hf rfl rfl fun a hf => ?_
        refine op_val (ex_neq (m := r26.2) (n := 0) hf rfl rfl) rfl hf rfl rfl fun a hf => ?_
        refine wpList_nil ?_
        refine nor_then (hK28 _ _ ?_)
        refine wp_cond_cut hf rfl (fun hc29 => ?_) (fun hc29 => ?_)
        · have hm := it hc29 hm
          refine wp_seq_k fun _ hK30 => ?_
          refine wp_region_list ?_
          refine op_val (ex_move hf rfl) rfl hf rfl rfl fun a hf => ?_
          refine op_val (ex_assign hf rfl) rfl hf rfl rfl fun a hf => ?_
          refine wpList_nil ?_
          refine nor_then (hK30 _ _ ?_)
          refine wp_ret ?_
          refine ret_then ?_
          obtain rfl := Option.some.inj hm
          exact post_ret Tryz.results10 hf (.tmp rfl .nil) ⟨rfl, hO.below⟩
        · have hm := ie hc29 hm
          refine wp_skip ?_
          refine nor_then (hK31 _ _ ?_)
          refine wp_seq_k fun _ hK32 => ?_
          refine wp_region_list ?_
          refine op_val (ex_move hf rfl) rfl hf rfl rfl fun a hf => ?_
          refine op_val (ex_assign hf rfl) rfl hf rfl rfl fun a hf => ?_
          refine wpList_nil ?_
          refine nor_then (hK32 _ _ ?_)
          refine wp_ret ?_
          obtain rfl := Option.some.inj hm
          exact post_ret Tryz.results10 hf (.tmp rfl .nil) ⟨rfl, hO.below⟩

set_option maxHeartbeats 1000000 in
theorem w_law29_DomainsRewrites (x_s : Str) (x_l : List api_Swap) (R : Bool) (w0 : World) (hG : GlobT w0) {x_l_p0 : Option Addr} {x_l_c0 : Nat} (hs0 : Sees w0 x_l_p0 (cells enc_api_Swap x_l)) (hc0 : x_l.length ≤ x_l_c0) (hm : law29_DomainsRewrites x_s x_l = some R) :
    Calls Tryz.prog 3 #[str x_s, .slice x_l_p0 x_l.length x_l_c0] w0 fun e w' => e = .returned (.bool R) ∧ Below w0.heap.size w0 w' := by
  rw [law29_DomainsRewrites] at hm
  refine calls_enter (vs := [str x_s, .slice x_l_p0 x_l.length x_l_c0]) Tryz.func3 rfl Tryz.ntmps3 rfl fun a hf => ?_
  have hF : Away [] := away_nil
  have hO : Dk.Own w0 [] w0 [] := Dk.Own.refl w0
  have hO := hO.addShr hs0 (by simp [Res.shared])
  refine wp_seq_k fun _ hK1 => ?_
  refine wp_region_list ?_
  refine op_val (ex_assign hf rfl) rfl hf rfl rfl fun a hf => ?_
  refine wpList_nil ?_
  refine nor_then (hK1 _ _ ?_)
  refine wp_seq_k fun _ hK6 => ?_
  refine wp_seq_k fun _ hK3 => ?_
  refine wp_region_list ?_
  obtain ⟨r2, hr2, hm⟩ := ob hm
  refine op_enter (ex_call c_7 hf (vs := []) rfl) rfl hf rfl rfl (w_law29_awake r2 _ (hG.own hF hO) hr2) ?_
  rintro e w' ⟨he, hb⟩
  refine ⟨_, he, fun a hf => ?_⟩
  have hO := hO.grow hb
  refine op_val (ex_not hf rfl) rfl hf rfl rfl fun a hf => ?_
  refine wpList_nil ?_
  refine nor_then (hK3 _ _ ?_)
  refine wp_cond_cut hf rfl (fun hc4 => ?_) (fun hc4 => ?_)
  · have hm := it hc4 hm
    refine wp_seq_k fun _ hK5 => ?_
    refine wp_region_list ?_
    refine op_val (ex_assign hf rfl) rfl hf rfl rfl fun a hf => ?_
    refine wpList_nil ?_
    refine nor_then (hK5 _ _ ?_)
    refine wp_ret ?_
    refine ret_then ?_
    obtain rfl := Option.some.inj hm
    exact post_ret Tryz.results3 hf (.tmp rfl .nil) ⟨rfl, hO.below⟩
  · have hm := ie hc4 hm
    refine wp_skip ?_
    refine nor_then (hK6 _ _ ?_)
    refine wp_seq_k fun _ hK11 => ?_
    obtain ⟨s7, hs7, hm⟩ := ob hm
    obtain ⟨r8, hr8, hm⟩ := ob hm
    refine wp_drawS' (S := Option Addr × Nat) (E0 := [(0, str x_s), (1, .slice x_l_p0 x_l.length x_l_c0)]) (by kernel_rfl) (fun k σ w => match k with | 0 => Dk.Own w0 [] w [.shr x_l_p0 (cells enc_api_Swap x_l)] | _ => Dk.Own w0 [] w [.row (.slice (σ.1) r8.length (σ.2)) 57 2 r8.length (cells enc_api_Swap r8), .shr x_l_p0 (cells enc_api_Swap x_l)]) (fun σ => [⟨[(0, str x_s)], some (7, str x_s)⟩, ⟨[(0, str x_s)], some (8, str x_s)⟩, ⟨[(8, str x_s)], some (9, int (x_s.length : Int))⟩, ⟨[(9, int (x_s.length : Int))], some (10, int (min (x_s.length : Int) 300))⟩, ⟨[(7, str x_s), (10, int (min (x_s.length : Int) 300))], some (11, str s7)⟩, ⟨[(1, .slice x_l_p0 x_l.length x_l_c0)], some (12, .slice x_l_p0 x_l.length x_l_c0)⟩, ⟨[(12, .slice x_l_p0 x_l.length x_l_c0)], some (13, .slice (σ.1) r8.length (σ.2))⟩, ⟨[(11, str s7)], some (0, str s7)⟩, ⟨[(13, .slice (σ.1) r8.length (σ.2))], some (1, .slice (σ.1) r8.length (σ.2))⟩]) (none, 0) [6] rfl (fun _ => rfl) (fun _ => rfl) (fun _ => rfl) rfl rfl (by decide) rfl hO.drew (hf.cons rfl (hf.cons rfl hf.nil)) (fun σ => ⟨⟨rfl, trivial⟩, ⟨⟨rfl, trivial⟩, ⟨⟨rfl, trivial⟩, ⟨⟨rfl, trivial⟩, ⟨⟨rfl, ⟨rfl, trivial⟩⟩, ⟨⟨rfl, trivial⟩, ⟨⟨rfl, trivial⟩, ⟨⟨rfl, trivial⟩, ⟨⟨rfl, trivial⟩, trivial⟩⟩⟩⟩⟩⟩⟩⟩⟩) ⟨sS_pure rfl (fun σ => rfl) (fun σ => rfl) (fun σ a w k _ _ _ _ hf => ex_move hf rfl), ⟨sS_pure rfl (fun σ => rfl) (fun σ => rfl) (fun σ a w k _ _ _ _ hf => ex_move hf rfl), ⟨sS_pure rfl (fun σ => rfl) (fun σ => rfl) (fun σ a w k _ _ _ _ hf => ex_len_s (l := x_s) Tryz.underlying9 hf rfl), ⟨sS_pure rfl (fun σ => rfl) (fun σ => rfl) (fun σ a w k _ _ _ _ hf => ex_min (m := (x_s.length : Int)) (n := 300) hf rfl rfl), ⟨sS_pure rfl (fun σ => rfl) (fun σ => rfl) (fun σ a w k _ _ _ _ hf => ex_to_s (l := x_s) Tryz.underlying9 hf rfl rfl hs7), ⟨sS_pure rfl (fun σ => rfl) (fun σ => rfl) (fun σ a w k _ _ _ _ hf => ex_move hf rfl), ⟨sS_call rfl (fun σ => rfl) (fun σ => rfl) rfl (fun σ a w (_ : _) hf => ex_call c_8 hf (vs := [.slice x_l_p0 x_l.length x_l_c0]) rfl) (fun σ w (hO : Dk.Own w0 [] w [.shr x_l_p0 (cells enc_api_Swap x_l)]) => (w_law29_Few x_l r8 _ (hG.own hF hO).1 (hO.sees (i := 0) rfl) hc0 hr8).mono fun e w' h => by obtain ⟨p9, c10, he, hO'⟩ := h; exact ⟨(p9, c10), he, hO.call hO' (by simp [Res.shared]), ⟨.inr rfl, ⟨.inr rfl, ⟨.inr rfl, ⟨.inr rfl, ⟨.inr rfl, ⟨.inr rfl, ⟨.inl rfl, ⟨.inr rfl, ⟨.inl rfl, trivial⟩⟩⟩⟩⟩⟩⟩⟩⟩⟩), ⟨sS_pure rfl (fun σ => rfl) (fun σ => rfl) (fun σ a w k _ _ _ _ hf => ex_assign hf rfl), ⟨sS_pure rfl (fun σ => rfl) (fun σ => rfl) (fun σ a w k _ _ _ _ hf => ex_assign hf rfl), trivial⟩⟩⟩⟩⟩⟩⟩⟩⟩ ?_
    rintro ⟨p9, c10⟩ a w hf hO
    have hO : Dk.Own w0 [] w [.row (.slice p9 r8.length c10) 57 2 r8.length (cells enc_api_Swap r8), .shr x_l_p0 (cells enc_api_Swap x_l)] := hO
    have hf : Fits 27 [(0, str s7), (1, .slice p9 r8.length c10)] a := (hf.cons rfl (hf.cons rfl hf.nil))
    refine nor_then (hK11 _ _ ?_)
    refine wp_seq_cut (fun a w => ∃ (t16 : Bool), Fits 27 [(4, .bool t16)] a ∧ Dk.Own w0 [] w [.row (.slice p9 r8.length c10) 57 2 r8.length (cells enc_api_Swap r8), .shr x_l_p0 (cells enc_api_Swap x_l)] ∧ law29_DomainsRewrites_j1 t16 = some R) ?_ ?_
    · refine wp_region_list ?_
      refine op_val (ex_move hf rfl) rfl hf rfl rfl fun a hf => ?_
      refine op_val (ex_move hf rfl) rfl hf rfl rfl fun a hf => ?_
      obtain ⟨r12, hr12, hm⟩ := ob hm
      refine op_enter (ex_call c_9 hf (vs := [str s7, .slice p9 r8.length c10]) rfl) rfl hf rfl rfl (w_domains_Rewrite s7 r8 r12 _ (hG.own hF hO) (hO.rowSees (i := 0) rfl) (hO.rowCap (i := 0) rfl) hr12) ?_
      rintro e w' ⟨he, hb⟩
      refine ⟨_, he, fun a hf => ?_⟩
      have hO := hO.grow hb
      refine op_val (ex_move hf rfl) rfl hf rfl rfl fun a hf => ?_
      refine op_val (ex_move hf rfl) rfl hf rfl rfl fun a hf => ?_
      obtain ⟨r13, hr13, hm⟩ := ob hm
      refine op_enter (ex_call c_10 hf (vs := [str s7, .slice p9 r8.length c10]) rfl) rfl hf rfl rfl (w_ref29_Rewrite s7 r8 r13 _ (hG.own hF hO).1 (hO.rowSees (i := 0) rfl) (hO.rowCap (i := 0) rfl) hr13) ?_
      rintro e w' ⟨he, hb⟩
      refine ⟨_, he, fun a hf => ?_⟩
      have hO := hO.grow hb
      refine op_val (ex_eql_s (l := r12) (m := r13) hf rfl rfl) rfl hf rfl rfl fun a hf => ?_
      refine op_val (ex_move hf rfl) rfl hf rfl rfl fun a hf => ?_
      rcases bcase (r12 == r13) with hc14 | hc14
      · have hm := it hc14 hm
        refine op_guard rfl hf rfl rfl (hc14) ?_
        refine op_val (ex_move hf rfl) rfl hf rfl rfl fun a hf => ?_
        refine op_guard rfl hf rfl rfl (hc14) ?_
        obtain ⟨r15, hr15, hm⟩ := ob hm
        refine op_enter (ex_call c_9 hf (vs := [str s7, .slice none 0 0]) rfl) rfl hf rfl rfl (w_domains_Rewrite s7 [] r15 _ (hG.own hF hO) (Sees.nil _) (Nat.zero_le _) hr15) ?_
        rintro e w' ⟨he, hb⟩
        refine ⟨_, he, fun a hf => ?_⟩
        have hO := hO.grow hb
        refine op_guard rfl hf rfl rfl (hc14) ?_
        refine op_val (ex_move hf rfl) rfl hf rfl rfl fun a hf => ?_
        refine op_guard rfl hf rfl rfl (hc14) ?_
        refine op_val (ex_eql_s (l := r15) (m := s7) hf rfl rfl) rfl hf rfl rfl fun a hf => ?_
        refine op_val (ex_pick_t hf rfl hc14 rfl) rfl hf rfl rfl fun a hf => ?_
        refine op_val (ex_assign hf rfl) rfl hf rfl rfl fun a hf => ?_
        refine wpList_nil ?_
        refine nor_then ?_
        exact ⟨r15 == s7, (hf.cons rfl hf.nil), hO, hm⟩
      · have hm := ie hc14 hm
        refine op_pass rfl hf rfl rfl (hc14) rfl rfl fun a hf => ?_
        refine op_pass rfl hf rfl rfl (hc14) rfl rfl fun a hf => ?_
        refine op_pass rfl hf rfl rfl (hc14) rfl rfl fun a hf => ?_
        refine op_pass rfl hf rfl rfl (hc14) rfl rfl fun a hf => ?_
        refine op_val (ex_pick_f hf rfl hc14 rfl) rfl hf rfl rfl fun a hf => ?_
        refine op_val (ex_assign hf rfl) rfl hf rfl rfl fun a hf => ?_
        refine wpList_nil ?_
        refine nor_then ?_
        exact ⟨false, (hf.cons rfl hf.nil), hO, hm⟩
    · rintro a w ⟨t16, hf, hO, hm⟩
      rw [law29_DomainsRewrites_j1] at hm
      refine wp_ret ?_
      obtain rfl := Option.some.inj hm
      exact post_ret Tryz.results3 hf (.tmp rfl .nil) ⟨rfl, hO.below⟩

end Go.Proofs
