/-
  Walks, written by a program (wip/gen): what its model says, the function returns; what was there before is as it was.
-/
import Derived.Test.YtpingffipghifaaDoorLib
import Derived.Test.YtpingffipghifaaDoorW0
import Derived.Test.YtpingffipghifaaDoorW2
set_option linter.unusedVariables false
set_option linter.unusedSimpArgs false
set_option maxRecDepth 100000
namespace Go.Proofs
open Go.Dk Go.Dm Go.RowKit

set_option maxHeartbeats 1000000 in
theorem w_law28_awake (R : Bool) (w0 : World) (hG : Glob w0) (hm : law28_awake = some R) :
    Calls Tryd.prog 7 #[] w0 fun e w' => e = .returned (.bool R) ∧ Below w0.heap.size w0 w' := by
  rw [law28_awake] at hm
  refine calls_enter (vs := []) Tryd.func7 rfl Tryd.ntmps7 rfl fun a hf => ?_
  have hF : Away [] := away_nil
  have hO : Dk.Own w0 [] w0 [] := Dk.Own.refl w0
  refine wp_seq_k fun _ hK1 => ?_
  refine wp_region_list ?_
  refine op_val (ex_assign hf rfl) rfl hf rfl rfl fun a hf => ?_
  refine wpList_nil ?_
  refine nor_then (hK1 _ _ ?_)
  refine wp_seq_k fun _ hK6 => ?_
  refine wp_region_list ?_
  obtain ⟨r2, hr2, hm⟩ := ob hm
  refine op_enter (ex_call c_14 hf (vs := [str [97, 61, 98, 59, 32, 80, 97, 116, 104, 61, 47, 32, 59, 83, 101, 99, 117, 114, 101]]) rfl) rfl hf rfl rfl (w_cookie_Parse [97, 61, 98, 59, 32, 80, 97, 116, 104, 61, 47, 32, 59, 83, 101, 99, 117, 114, 101] r2 _ (hG.own hF hO) hr2) ?_
  rintro e w' ⟨p3, c4, he, hO'⟩
  refine ⟨_, he, fun a hf => ?_⟩
  have hO := hO.call hO' (by simp [Res.shared])
  refine op_val (ex_move hf rfl) rfl hf rfl rfl fun a hf => ?_
  refine op_val (ex_extract hf rfl rfl) rfl hf rfl rfl fun a hf => ?_
  refine op_val (ex_extract hf rfl rfl) rfl hf rfl rfl fun a hf => ?_
  refine op_alloc al_24 hf rfl hO fun a b5 w hf hO => ?_
  have hO := hO.nilRow 31 3
  refine op_storeN (i := 1) (n := 3) sz_24 rfl rfl rfl (by simp [Value.oneCell']) hf rfl rfl hO fun w hO => ?_
  refine op_val (ex_assign hf rfl) rfl hf rfl rfl fun a hf => ?_
  refine wpList_nil ?_
  refine nor_then (hK6 _ _ ?_)
  refine wp_seq_cut (fun a w => ∃ (t10 : Bool), Fits 17 [(0, .bool t10)] a ∧ Dk.Own w0 [] w [.row (.slice none 0 0) 31 3 0 (cells enc_api_Attr []), .blk b5 [str r2.1.Name, str r2.1.Value, .slice p3 r2.1.Attrs.length c4] 24, .row (.slice p3 r2.1.Attrs.length c4) 31 3 r2.1.Attrs.length (cells enc_api_Attr r2.1.Attrs)] ∧ law28_awake_j1 t10 = some R) ?_ ?_
  · refine wp_region_list ?_
    refine op_val (ex_move hf rfl) rfl hf rfl rfl fun a hf => ?_
    refine op_val (ex_eql (m := r2.2) (n := 0) hf rfl rfl) rfl hf rfl rfl fun a hf => ?_
    refine op_val (ex_move hf rfl) rfl hf rfl rfl fun a hf => ?_
    rcases bcase (r2.2 == 0) with hc7 | hc7
    · have hm := it hc7 hm
      refine op_guard rfl hf rfl rfl (hc7) ?_
      refine op_val (ex_loadN (o := 0) (vs := [str r2.1.Name, str r2.1.Value, .slice p3 r2.1.Attrs.length c4]) ag_24 sz_24 (hO.blkSees (i := 1) rfl) rfl rfl hf rfl) rfl hf rfl rfl fun a hf => ?_
      refine op_guard rfl hf rfl rfl (hc7) ?_
      refine op_val (ex_build (vs := [(0, str [80, 97, 116, 104]), (1, str [47]), (2, .bool true)]) (v := .agg #[str [80, 97, 116, 104], str [47], .bool true]) hf rfl (by kernel_rfl)) rfl hf rfl rfl fun a hf => ?_
      refine op_guard rfl hf rfl rfl (hc7) ?_
      refine op_val (ex_build (vs := [(0, str [83, 101, 99, 117, 114, 101])]) (v := .agg #[str [83, 101, 99, 117, 114, 101], str [], .bool false]) hf rfl (by kernel_rfl)) rfl hf rfl rfl fun a hf => ?_
      refine op_guard rfl hf rfl rfl (hc7) ?_
      refine op_buildSlice (vs := [(0, .agg #[str [80, 97, 116, 104], str [47], .bool true]), (1, .agg #[str [83, 101, 99, 117, 114, 101], str [], .bool false])]) (cs := [str [80, 97, 116, 104], str [47], .bool true, str [83, 101, 99, 117, 114, 101], str [], .bool false]) (e := 31) (sz := 3) hf rfl rfl (fun w => by kernel_rfl) rfl rfl hO fun a b8 w hf hO => ?_
      refine op_guard rfl hf rfl rfl (hc7) ?_
      refine op_val (ex_build (vs := [(0, str [97]), (1, str [98]), (2, .slice (some ⟨b8, 0, none⟩) (([(⟨[80, 97, 116, 104], [47], true⟩ : api_Attr), (⟨[83, 101, 99, 117, 114, 101], [], false⟩ : api_Attr)]).length) 2)]) (v := .agg #[str [97], str [98], .slice (some ⟨b8, 0, none⟩) (([(⟨[80, 97, 116, 104], [47], true⟩ : api_Attr), (⟨[83, 101, 99, 117, 114, 101], [], false⟩ : api_Attr)]).length) 2]) hf rfl (by kernel_rfl)) rfl hf rfl rfl fun a hf => ?_
      refine op_guard rfl hf rfl rfl (hc7) ?_
      obtain ⟨r9, hr9, hm⟩ := ob hm
      refine op_enter (ex_call c_12 hf (vs := [.agg #[str r2.1.Name, str r2.1.Value, .slice p3 r2.1.Attrs.length c4], .agg #[str [97], str [98], .slice (some ⟨b8, 0, none⟩) (([(⟨[80, 97, 116, 104], [47], true⟩ : api_Attr), (⟨[83, 101, 99, 117, 114, 101], [], false⟩ : api_Attr)]).length) 2]]) rfl) rfl hf rfl rfl (w_ref28_Same r2.1 ((⟨[97], [98], [(⟨[80, 97, 116, 104], [47], true⟩ : api_Attr), (⟨[83, 101, 99, 117, 114, 101], [], false⟩ : api_Attr)]⟩ : api_Cookie)) r9 _ (hG.own hF hO) (hO.rowSees (i := 3) rfl) (hO.rowCap (i := 3) rfl) (hO.rowSees (i := 0) rfl) (hO.rowCap (i := 0) rfl) hr9) ?_
      rintro e w' ⟨he, hb⟩
      refine ⟨_, he, fun a hf => ?_⟩
      have hO := hO.grow hb
      refine op_val (ex_pick_t hf rfl hc7 rfl) rfl hf rfl rfl fun a hf => ?_
      refine op_val (ex_assign hf rfl) rfl hf rfl rfl fun a hf => ?_
      refine wpList_nil ?_
      refine nor_then ?_
      exact ⟨r9, (hf.cons rfl hf.nil), (hO.sub (.cons _ (.cons_cons _ (.cons_cons _ (.cons_cons _ .slnil))))), hm⟩
    · have hm := ie hc7 hm
      refine op_pass rfl hf rfl rfl (hc7) rfl rfl fun a hf => ?_
      refine op_pass rfl hf rfl rfl (hc7) rfl rfl fun a hf => ?_
      refine op_pass rfl hf rfl rfl (hc7) rfl rfl fun a hf => ?_
      refine op_pass rfl hf rfl rfl (hc7) rfl rfl fun a hf => ?_
      refine op_pass rfl hf rfl rfl (hc7) rfl rfl fun a hf => ?_
      refine op_pass rfl hf rfl rfl (hc7) rfl rfl fun a hf => ?_
      refine op_val (ex_pick_f hf rfl hc7 rfl) rfl hf rfl rfl fun a hf => ?_
      refine op_val (ex_assign hf rfl) rfl hf rfl rfl fun a hf => ?_
      refine wpList_nil ?_
      refine nor_then ?_
      exact ⟨false, (hf.cons rfl hf.nil), hO, hm⟩
  · rintro a w ⟨t10, hf, hO, hm⟩
    rw [law28_awake_j1] at hm
    refine wp_ret ?_
    obtain rfl := Option.some.inj hm
    exact post_ret Tryd.results7 hf (.tmp rfl .nil) ⟨rfl, hO.below⟩

set_option maxHeartbeats 1000000 in
theorem w_law28_few (x_c : api_Cookie) (R : api_Cookie) (w0 : World) (hG : Glob w0) {x_c_p0 : Option Addr} {x_c_c0 : Nat} (hs0 : Sees w0 x_c_p0 (cells enc_api_Attr x_c.Attrs)) (hc0 : x_c.Attrs.length ≤ x_c_c0) (hm : law28_few x_c = some R) :
    Calls Tryd.prog 8 #[.agg #[str x_c.Name, str x_c.Value, .slice x_c_p0 x_c.Attrs.length x_c_c0]] w0 fun e w' => ∃ (p0 : Option Addr) (c0 : Nat), e = .returned (.agg #[str R.Name, str R.Value, .slice p0 R.Attrs.length c0]) ∧ Dk.Own w0 [] w' [.row (.slice p0 R.Attrs.length c0) 31 3 R.Attrs.length (cells enc_api_Attr R.Attrs)] := by
  rw [law28_few] at hm
  refine calls_enter (vs := [.agg #[str x_c.Name, str x_c.Value, .slice x_c_p0 x_c.Attrs.length x_c_c0]]) Tryd.func8 rfl Tryd.ntmps8 rfl fun a hf => ?_
  have hF : Away [] := away_nil
  have hO : Dk.Own w0 [] w0 [] := Dk.Own.refl w0
  have hO := hO.addShr hs0 (by simp [Res.shared])
  refine wp_seq_k fun _ hK3 => ?_
  refine wp_region_list ?_
  refine op_box (v := .agg #[str x_c.Name, str x_c.Value, .slice x_c_p0 x_c.Attrs.length x_c_c0]) (cs := [str x_c.Name, str x_c.Value, .slice x_c_p0 x_c.Attrs.length x_c_c0]) rfl hf rfl rfl hO fun a b1 w hf hO => ?_
  refine op_alloc al_24 hf rfl hO fun a b2 w hf hO => ?_
  have hO := hO.nilRow 31 3
  refine wpList_nil ?_
  refine nor_then (hK3 _ _ ?_)
  refine wp_seq_k fun _ hK7 => ?_
  obtain ⟨s4, hs4, hm⟩ := ob hm
  obtain ⟨s5, hs5, hm⟩ := ob hm
  refine wp_drawS' (S := Nat) (E0 := [(1, ptr b1 0), (2, ptr b2 0)]) (by kernel_rfl) (fun k σ w => match k with | 0 => Dk.Own w0 [] w [.row (.slice none 0 0) 31 3 0 (cells enc_api_Attr []), .blk b2 [str [], str [], .slice none 0 0] 24, .blk b1 [str x_c.Name, str x_c.Value, .slice x_c_p0 x_c.Attrs.length x_c_c0] 24, .shr x_c_p0 (cells enc_api_Attr x_c.Attrs)] | 1 => Dk.Own w0 [] w [.blk σ [str [], str [], .slice none 0 0] 24, .row (.slice none 0 0) 31 3 0 (cells enc_api_Attr []), .blk b2 [str [], str [], .slice none 0 0] 24, .blk b1 [str x_c.Name, str x_c.Value, .slice x_c_p0 x_c.Attrs.length x_c_c0] 24, .shr x_c_p0 (cells enc_api_Attr x_c.Attrs)] | _ => Dk.Own w0 [] w [.blk σ [str s4, str s5, .slice none 0 0] 24, .row (.slice none 0 0) 31 3 0 (cells enc_api_Attr []), .blk b2 [str [], str [], .slice none 0 0] 24, .blk b1 [str x_c.Name, str x_c.Value, .slice x_c_p0 x_c.Attrs.length x_c_c0] 24, .shr x_c_p0 (cells enc_api_Attr x_c.Attrs)]) (fun σ => [⟨[(1, ptr b1 0)], some (6, ptr b1 0)⟩, ⟨[(6, ptr b1 0)], some (7, str x_c.Name)⟩, ⟨[(1, ptr b1 0)], some (8, ptr b1 0)⟩, ⟨[(8, ptr b1 0)], some (9, str x_c.Name)⟩, ⟨[(9, str x_c.Name)], some (10, int (x_c.Name.length : Int))⟩, ⟨[(10, int (x_c.Name.length : Int))], some (11, int (min (x_c.Name.length : Int) 60))⟩, ⟨[(7, str x_c.Name), (11, int (min (x_c.Name.length : Int) 60))], some (12, str s4)⟩, ⟨[(1, ptr b1 0)], some (13, ptr b1 1)⟩, ⟨[(13, ptr b1 1)], some (14, str x_c.Value)⟩, ⟨[(1, ptr b1 0)], some (15, ptr b1 1)⟩, ⟨[(15, ptr b1 1)], some (16, str x_c.Value)⟩, ⟨[(16, str x_c.Value)], some (17, int (x_c.Value.length : Int))⟩, ⟨[(17, int (x_c.Value.length : Int))], some (18, int (min (x_c.Value.length : Int) 60))⟩, ⟨[(14, str x_c.Value), (18, int (min (x_c.Value.length : Int) 60))], some (19, str s5)⟩, ⟨[(12, str s4), (19, str s5)], some (20, .agg #[str s4, str s5, .slice none 0 0])⟩, ⟨[], some (3, ptr σ 0)⟩, ⟨[(3, ptr σ 0), (20, .agg #[str s4, str s5, .slice none 0 0])], none⟩]) (0) [15, 16] rfl (fun _ => rfl) (fun _ => rfl) (fun _ => rfl) rfl rfl (by decide) rfl hO.drew (hf.cons rfl (hf.cons rfl hf.nil)) (fun σ => ⟨⟨rfl, trivial⟩, ⟨⟨rfl, trivial⟩, ⟨⟨rfl, trivial⟩, ⟨⟨rfl, trivial⟩, ⟨⟨rfl, trivial⟩, ⟨⟨rfl, trivial⟩, ⟨⟨rfl, ⟨rfl, trivial⟩⟩, ⟨⟨rfl, trivial⟩, ⟨⟨rfl, trivial⟩, ⟨⟨rfl, trivial⟩, ⟨⟨rfl, trivial⟩, ⟨⟨rfl, trivial⟩, ⟨⟨rfl, trivial⟩, ⟨⟨rfl, ⟨rfl, trivial⟩⟩, ⟨⟨rfl, ⟨rfl, trivial⟩⟩, ⟨trivial, ⟨⟨rfl, ⟨rfl, trivial⟩⟩, trivial⟩⟩⟩⟩⟩⟩⟩⟩⟩⟩⟩⟩⟩⟩⟩⟩⟩) ⟨sS_pure rfl (fun σ => rfl) (fun σ => rfl) (fun σ a w k _ _ _ _ hf => ex_field fa_24_0 hf rfl), ⟨sS_pure rfl (fun σ => rfl) (fun σ => rfl) (fun σ a w k hk hlo hup hst hf => match k, hk, hlo, hup, hst, hf with | 0, _, _, _, hst, hf => have hO : Dk.Own w0 [] w [.row (.slice none 0 0) 31 3 0 (cells enc_api_Attr []), .blk b2 [str [], str [], .slice none 0 0] 24, .blk b1 [str x_c.Name, str x_c.Value, .slice x_c_p0 x_c.Attrs.length x_c_c0] 24, .shr x_c_p0 (cells enc_api_Attr x_c.Attrs)] := hst; ex_load1 (o := 0) ag_9 (hO.blkSees (i := 2) rfl) rfl hf rfl | 1, _, _, _, hst, hf => have hO : Dk.Own w0 [] w [.blk σ [str [], str [], .slice none 0 0] 24, .row (.slice none 0 0) 31 3 0 (cells enc_api_Attr []), .blk b2 [str [], str [], .slice none 0 0] 24, .blk b1 [str x_c.Name, str x_c.Value, .slice x_c_p0 x_c.Attrs.length x_c_c0] 24, .shr x_c_p0 (cells enc_api_Attr x_c.Attrs)] := hst; ex_load1 (o := 0) ag_9 (hO.blkSees (i := 3) rfl) rfl hf rfl | 2, _, _, _, hst, hf => have hO : Dk.Own w0 [] w [.blk σ [str s4, str s5, .slice none 0 0] 24, .row (.slice none 0 0) 31 3 0 (cells enc_api_Attr []), .blk b2 [str [], str [], .slice none 0 0] 24, .blk b1 [str x_c.Name, str x_c.Value, .slice x_c_p0 x_c.Attrs.length x_c_c0] 24, .shr x_c_p0 (cells enc_api_Attr x_c.Attrs)] := hst; ex_load1 (o := 0) ag_9 (hO.blkSees (i := 3) rfl) rfl hf rfl | k + 3, hk, _, _, _, _ => absurd hk (by simp)), ⟨sS_pure rfl (fun σ => rfl) (fun σ => rfl) (fun σ a w k _ _ _ _ hf => ex_field fa_24_0 hf rfl), ⟨sS_pure rfl (fun σ => rfl) (fun σ => rfl) (fun σ a w k hk hlo hup hst hf => match k, hk, hlo, hup, hst, hf with | 0, _, _, _, hst, hf => have hO : Dk.Own w0 [] w [.row (.slice none 0 0) 31 3 0 (cells enc_api_Attr []), .blk b2 [str [], str [], .slice none 0 0] 24, .blk b1 [str x_c.Name, str x_c.Value, .slice x_c_p0 x_c.Attrs.length x_c_c0] 24, .shr x_c_p0 (cells enc_api_Attr x_c.Attrs)] := hst; ex_load1 (o := 0) ag_9 (hO.blkSees (i := 2) rfl) rfl hf rfl | 1, _, _, _, hst, hf => have hO : Dk.Own w0 [] w [.blk σ [str [], str [], .slice none 0 0] 24, .row (.slice none 0 0) 31 3 0 (cells enc_api_Attr []), .blk b2 [str [], str [], .slice none 0 0] 24, .blk b1 [str x_c.Name, str x_c.Value, .slice x_c_p0 x_c.Attrs.length x_c_c0] 24, .shr x_c_p0 (cells enc_api_Attr x_c.Attrs)] := hst; ex_load1 (o := 0) ag_9 (hO.blkSees (i := 3) rfl) rfl hf rfl | 2, _, _, _, hst, hf => have hO : Dk.Own w0 [] w [.blk σ [str s4, str s5, .slice none 0 0] 24, .row (.slice none 0 0) 31 3 0 (cells enc_api_Attr []), .blk b2 [str [], str [], .slice none 0 0] 24, .blk b1 [str x_c.Name, str x_c.Value, .slice x_c_p0 x_c.Attrs.length x_c_c0] 24, .shr x_c_p0 (cells enc_api_Attr x_c.Attrs)] := hst; ex_load1 (o := 0) ag_9 (hO.blkSees (i := 3) rfl) rfl hf rfl | k + 3, hk, _, _, _, _ => absurd hk (by simp)), ⟨sS_pure rfl (fun σ => rfl) (fun σ => rfl) (fun σ a w k _ _ _ _ hf => ex_len_s (l := x_c.Name) Tryd.underlying9 hf rfl), ⟨sS_pure rfl (fun σ => rfl) (fun σ => rfl) (fun σ a w k _ _ _ _ hf => ex_min (m := (x_c.Name.length : Int)) (n := 60) hf rfl rfl), ⟨sS_pure rfl (fun σ => rfl) (fun σ => rfl) (fun σ a w k _ _ _ _ hf => ex_to_s (l := x_c.Name) Tryd.underlying9 hf rfl rfl hs4), ⟨sS_pure rfl (fun σ => rfl) (fun σ => rfl) (fun σ a w k _ _ _ _ hf => ex_field fa_24_1 hf rfl), ⟨sS_pure rfl (fun σ => rfl) (fun σ => rfl) (fun σ a w k hk hlo hup hst hf => match k, hk, hlo, hup, hst, hf with | 0, _, _, _, hst, hf => have hO : Dk.Own w0 [] w [.row (.slice none 0 0) 31 3 0 (cells enc_api_Attr []), .blk b2 [str [], str [], .slice none 0 0] 24, .blk b1 [str x_c.Name, str x_c.Value, .slice x_c_p0 x_c.Attrs.length x_c_c0] 24, .shr x_c_p0 (cells enc_api_Attr x_c.Attrs)] := hst; ex_load1 (o := 1) ag_9 (hO.blkSees (i := 2) rfl) rfl hf rfl | 1, _, _, _, hst, hf => have hO : Dk.Own w0 [] w [.blk σ [str [], str [], .slice none 0 0] 24, .row (.slice none 0 0) 31 3 0 (cells enc_api_Attr []), .blk b2 [str [], str [], .slice none 0 0] 24, .blk b1 [str x_c.Name, str x_c.Value, .slice x_c_p0 x_c.Attrs.length x_c_c0] 24, .shr x_c_p0 (cells enc_api_Attr x_c.Attrs)] := hst; ex_load1 (o := 1) ag_9 (hO.blkSees (i := 3) rfl) rfl hf rfl | 2, _, _, _, hst, hf => have hO : Dk.Own w0 [] w [.blk σ [str s4, str s5, .slice none 0 0] 24, .row (.slice none 0 0) 31 3 0 (cells enc_api_Attr []), .blk b2 [str [], str [], .slice none 0 0] 24, .blk b1 [str x_c.Name, str x_c.Value, .slice x_c_p0 x_c.Attrs.length x_c_c0] 24, .shr x_c_p0 (cells enc_api_Attr x_c.Attrs)] := hst; ex_load1 (o := 1) ag_9 (hO.blkSees (i := 3) rfl) rfl hf rfl | k + 3, hk, _, _, _, _ => absurd hk (by simp)), ⟨sS_pure rfl (fun σ => rfl) (fun σ => rfl) (fun σ a w k _ _ _ _ hf => ex_field fa_24_1 hf rfl), ⟨sS_pure rfl (fun σ => rfl) (fun σ => rfl) (fun σ a w k hk hlo hup hst hf => match k, hk, hlo, hup, hst, hf with | 0, _, _, _, hst, hf => have hO : Dk.Own w0 [] w [.row (.slice none 0 0) 31 3 0 (cells enc_api_Attr []), .blk b2 [str [], str [], .slice none 0 0] 24, .blk b1 [str x_c.Name, str x_c.Value, .slice x_c_p0 x_c.Attrs.length x_c_c0] 24, .shr x_c_p0 (cells enc_api_Attr x_c.Attrs)] := hst; ex_load1 (o := 1) ag_9 (hO.blkSees (i := 2) rfl) rfl hf rfl | 1, _, _, _, hst, hf => have hO : Dk.Own w0 [] w [.blk σ [str [], str [], .slice none 0 0] 24, .row (.slice none 0 0) 31 3 0 (cells enc_api_Attr []), .blk b2 [str [], str [], .slice none 0 0] 24, .blk b1 [str x_c.Name, str x_c.Value, .slice x_c_p0 x_c.Attrs.length x_c_c0] 24, .shr x_c_p0 (cells enc_api_Attr x_c.Attrs)] := hst; ex_load1 (o := 1) ag_9 (hO.blkSees (i := 3) rfl) rfl hf rfl | 2, _, _, _, hst, hf => have hO : Dk.Own w0 [] w [.blk σ [str s4, str s5, .slice none 0 0] 24, .row (.slice none 0 0) 31 3 0 (cells enc_api_Attr []), .blk b2 [str [], str [], .slice none 0 0] 24, .blk b1 [str x_c.Name, str x_c.Value, .slice x_c_p0 x_c.Attrs.length x_c_c0] 24, .shr x_c_p0 (cells enc_api_Attr x_c.Attrs)] := hst; ex_load1 (o := 1) ag_9 (hO.blkSees (i := 3) rfl) rfl hf rfl | k + 3, hk, _, _, _, _ => absurd hk (by simp)), ⟨sS_pure rfl (fun σ => rfl) (fun σ => rfl) (fun σ a w k _ _ _ _ hf => ex_len_s (l := x_c.Value) Tryd.underlying9 hf rfl), ⟨sS_pure rfl (fun σ => rfl) (fun σ => rfl) (fun σ a w k _ _ _ _ hf => ex_min (m := (x_c.Value.length : Int)) (n := 60) hf rfl rfl), ⟨sS_pure rfl (fun σ => rfl) (fun σ => rfl) (fun σ a w k _ _ _ _ hf => ex_to_s (l := x_c.Value) Tryd.underlying9 hf rfl rfl hs5), ⟨sS_pure rfl (fun σ => rfl) (fun σ => rfl) (fun σ a w k _ _ _ _ hf => ex_build (vs := [(0, str s4), (1, str s5)]) (v := .agg #[str s4, str s5, .slice none 0 0]) hf rfl (by kernel_rfl)), ⟨sS_val rfl (fun σ => rfl) (fun σ => rfl) rfl (fun σ w (hO : Dk.Own w0 [] w [.row (.slice none 0 0) 31 3 0 (cells enc_api_Attr []), .blk b2 [str [], str [], .slice none 0 0] 24, .blk b1 [str x_c.Name, str x_c.Value, .slice x_c_p0 x_c.Attrs.length x_c_c0] 24, .shr x_c_p0 (cells enc_api_Attr x_c.Attrs)]) => by obtain ⟨b6, w', hO', hr⟩ := ef_alloc (E := []) al_24 hO; exact ⟨(b6), w', hO', ⟨.inr rfl, ⟨.inr rfl, ⟨.inr rfl, ⟨.inr rfl, ⟨.inr rfl, ⟨.inr rfl, ⟨.inr rfl, ⟨.inr rfl, ⟨.inr rfl, ⟨.inr rfl, ⟨.inr rfl, ⟨.inr rfl, ⟨.inr rfl, ⟨.inr rfl, ⟨.inr rfl, ⟨.inl rfl, ⟨.inl rfl, trivial⟩⟩⟩⟩⟩⟩⟩⟩⟩⟩⟩⟩⟩⟩⟩⟩⟩, hr⟩), ⟨sS_skip rfl (fun σ => rfl) (fun σ => rfl) rfl (fun σ w (hO : Dk.Own w0 [] w [.blk σ [str [], str [], .slice none 0 0] 24, .row (.slice none 0 0) 31 3 0 (cells enc_api_Attr []), .blk b2 [str [], str [], .slice none 0 0] 24, .blk b1 [str x_c.Name, str x_c.Value, .slice x_c_p0 x_c.Attrs.length x_c_c0] 24, .shr x_c_p0 (cells enc_api_Attr x_c.Attrs)]) => by obtain ⟨w', hO', hr⟩ := ef_storeN (x := (.tmp 3)) (y := (.tmp 20)) (E := [(3, ptr σ 0), (20, .agg #[str s4, str s5, .slice none 0 0])]) (i := 0) (n := 3) (vs := [str s4, str s5, .slice none 0 0]) sz_24 rfl rfl rfl (by simp [Value.oneCell']) hO rfl rfl; exact ⟨(σ), w', hO', ⟨.inr rfl, ⟨.inr rfl, ⟨.inr rfl, ⟨.inr rfl, ⟨.inr rfl, ⟨.inr rfl, ⟨.inr rfl, ⟨.inr rfl, ⟨.inr rfl, ⟨.inr rfl, ⟨.inr rfl, ⟨.inr rfl, ⟨.inr rfl, ⟨.inr rfl, ⟨.inr rfl, ⟨.inr rfl, ⟨.inr rfl, trivial⟩⟩⟩⟩⟩⟩⟩⟩⟩⟩⟩⟩⟩⟩⟩⟩⟩, hr⟩), trivial⟩⟩⟩⟩⟩⟩⟩⟩⟩⟩⟩⟩⟩⟩⟩⟩⟩ ?_
  rintro b6 a w hf hO
  have hO : Dk.Own w0 [] w [.blk b6 [str s4, str s5, .slice none 0 0] 24, .row (.slice none 0 0) 31 3 0 (cells enc_api_Attr []), .blk b2 [str [], str [], .slice none 0 0] 24, .blk b1 [str x_c.Name, str x_c.Value, .slice x_c_p0 x_c.Attrs.length x_c_c0] 24, .shr x_c_p0 (cells enc_api_Attr x_c.Attrs)] := hO
  have hf : Fits 60 [(1, ptr b1 0), (2, ptr b2 0), (3, ptr b6 0)] a := (hf.cons rfl (hf.cons rfl (hf.cons rfl hf.nil)))
  have hO := hO.nilRow 31 3
  refine nor_then (hK7 _ _ ?_)
  refine wp_seq_cut (fun a w => ∃ (p34 : Option Addr) (c35 : Nat) (l36 : List api_Attr) (s37 : Str) (s38 : Str), Fits 60 [(2, ptr b2 0), (3, ptr b6 0)] a ∧ Dk.Own w0 [] w [.row (.slice p34 l36.length c35) 31 3 l36.length (cells enc_api_Attr l36), .blk b6 [str s37, str s38, .slice p34 l36.length c35] 24, .row (.slice none 0 0) 31 3 0 (cells enc_api_Attr []), .blk b2 [str [], str [], .slice none 0 0] 24, .blk b1 [str x_c.Name, str x_c.Value, .slice x_c_p0 x_c.Attrs.length x_c_c0] 24, .shr x_c_p0 (cells enc_api_Attr x_c.Attrs)] ∧ law28_few_j3 l36 s37 s38 = some R) ?_ ?_
  · refine wp_seq_k fun _ hK8 => ?_
    refine wp_region_list ?_
    refine op_val (ex_assign hf rfl) rfl hf rfl rfl fun a hf => ?_
    refine wpList_nil ?_
    refine nor_then (hK8 _ _ ?_)
    refine wp_block ?_
    refine wp_loop_n (fun k a w => ∃ (p9 : Option Addr) (c10 : Nat) (l11 : List api_Attr) (s12 : Str) (s13 : Str) (i14 : Int), Fits 60 [(1, ptr b1 0), (2, ptr b2 0), (3, ptr b6 0), (4, int i14)] a ∧ Dk.Own w0 [] w [.row (.slice p9 l11.length c10) 31 3 l11.length (cells enc_api_Attr l11), .blk b6 [str s12, str s13, .slice p9 l11.length c10] 24, .row (.slice none 0 0) 31 3 0 (cells enc_api_Attr []), .blk b2 [str [], str [], .slice none 0 0] 24, .blk b1 [str x_c.Name, str x_c.Value, .slice x_c_p0 x_c.Attrs.length x_c_c0] 24, .shr x_c_p0 (cells enc_api_Attr x_c.Attrs)] ∧ law28_few_L1 x_c k l11 s12 s13 i14 = some R) ?_ fuel ?_
    · rintro n1 a w ⟨p9, c10, l11, s12, s13, i14, hf, hO, hm⟩
      obtain _ | n1 := n1
      · rw [law28_few_L1] at hm
        cases hm
      · rw [law28_few_L1] at hm
        refine wp_seq_k fun _ hK18 => ?_
        refine wp_seq_cut (fun a w => ∃ (t16 : Bool), Fits 60 [(1, ptr b1 0), (2, ptr b2 0), (3, ptr b6 0), (4, int i14), (29, .bool t16)] a ∧ Dk.Own w0 [] w [.row (.slice p9 l11.length c10) 31 3 l11.length (cells enc_api_Attr l11), .blk b6 [str s12, str s13, .slice p9 l11.length c10] 24, .row (.slice none 0 0) 31 3 0 (cells enc_api_Attr []), .blk b2 [str [], str [], .slice none 0 0] 24, .blk b1 [str x_c.Name, str x_c.Value, .slice x_c_p0 x_c.Attrs.length x_c_c0] 24, .shr x_c_p0 (cells enc_api_Attr x_c.Attrs)] ∧ law28_few_j2 (law28_few_L1 x_c n1) x_c l11 s12 s13 i14 t16 = some R) ?_ ?_
        · refine wp_region_list ?_
          refine op_val (ex_move hf rfl) rfl hf rfl rfl fun a hf => ?_
          refine op_val (ex_field fa_24_2 hf rfl) rfl hf rfl rfl fun a hf => ?_
          refine op_val (ex_load1 (o := 2) ag_22 (hO.blkSees (i := 4) rfl) rfl hf rfl) rfl hf rfl rfl fun a hf => ?_
          refine op_val (ex_len_l Tryd.underlying22 hf rfl) rfl hf rfl rfl fun a hf => ?_
          refine op_val (ex_lss (m := i14) (n := (x_c.Attrs.length : Int)) hf rfl rfl) rfl hf rfl rfl fun a hf => ?_
          refine op_val (ex_move hf rfl) rfl hf rfl rfl fun a hf => ?_
          rcases bcase (decide (i14 < (x_c.Attrs.length : Int))) with hc15 | hc15
          · have hm := it hc15 hm
            refine op_guard rfl hf rfl rfl (hc15) ?_
            refine op_val (ex_move hf rfl) rfl hf rfl rfl fun a hf => ?_
            refine op_guard rfl hf rfl rfl (hc15) ?_
            refine op_val (ex_lss (m := i14) (n := 8) hf rfl rfl) rfl hf rfl rfl fun a hf => ?_
            refine op_val (ex_pick_t hf rfl hc15 rfl) rfl hf rfl rfl fun a hf => ?_
            refine wpList_nil ?_
            refine nor_then ?_
            exact ⟨decide (i14 < 8), (hf.cons rfl (hf.cons rfl (hf.cons rfl (hf.cons rfl (hf.cons rfl hf.nil))))), hO, hm⟩
          · have hm := ie hc15 hm
            refine op_pass rfl hf rfl rfl (hc15) rfl rfl fun a hf => ?_
            refine op_pass rfl hf rfl rfl (hc15) rfl rfl fun a hf => ?_
            refine op_val (ex_pick_f hf rfl hc15 rfl) rfl hf rfl rfl fun a hf => ?_
            refine wpList_nil ?_
            refine nor_then ?_
            exact ⟨false, (hf.cons rfl (hf.cons rfl (hf.cons rfl (hf.cons rfl (hf.cons rfl hf.nil))))), hO, hm⟩
        · rintro a w ⟨t16, hf, hO, hm⟩
          rw [law28_few_j2] at hm
          refine wp_cond_cut hf rfl (fun hc17 => ?_) (fun hc17 => ?_)
          · have hm := it hc17 hm
            refine wp_skip ?_
            refine nor_then (hK18 _ _ ?_)
            refine wp_seq_k fun _ hK32 => ?_
            refine wp_block ?_
            refine wp_seq_k fun _ hK23 => ?_
            refine wp_region_list ?_
            refine op_val (ex_field fa_24_2 hf rfl) rfl hf rfl rfl fun a hf => ?_
            refine op_val (ex_load1 (o := 2) ag_22 (hO.blkSees (i := 4) rfl) rfl hf rfl) rfl hf rfl rfl fun a hf => ?_
            refine op_val (ex_move hf rfl) rfl hf rfl rfl fun a hf => ?_
            obtain ⟨x19, hx19, hm⟩ := ob hm
            obtain ⟨b20, o21, hix19, hSx19⟩ := elemAt (enc := enc_api_Attr) (sz := 3) (xs := x_c.Attrs) 22 Tryd.underlying22 sz_31 (by decide) (fun _ => rfl) (hO.sees (i := 5) rfl) hx19
            refine op_val (ex_indexAddr hix19 hf rfl rfl) rfl hf rfl rfl fun a hf => ?_
            refine op_val (ex_loadN (o := 0) (vs := [str x19.Name, str x19.Value, .bool x19.Has]) ag_31 sz_31 (hSx19 _ (hO.sees (i := 5) rfl)) rfl rfl hf rfl) rfl hf rfl rfl fun a hf => ?_
            refine op_alloc al_31 hf rfl hO fun a b22 w hf hO => ?_
            refine op_storeN (i := 0) (n := 3) sz_31 rfl rfl rfl (by simp [Value.oneCell']) hf rfl rfl hO fun w hO => ?_
            refine wpList_nil ?_
            refine nor_then (hK23 _ _ ?_)
            refine wp_seq_k fun _ hK25 => ?_
            refine wp_region_list ?_
            refine op_val (ex_field fa_31_0 hf rfl) rfl hf rfl rfl fun a hf => ?_
            refine op_val (ex_load1 (o := 0) ag_9 (hO.blkSees (i := 0) rfl) rfl hf rfl) rfl hf rfl rfl fun a hf => ?_
            refine op_val (ex_field fa_31_0 hf rfl) rfl hf rfl rfl fun a hf => ?_
            refine op_val (ex_load1 (o := 0) ag_9 (hO.blkSees (i := 0) rfl) rfl hf rfl) rfl hf rfl rfl fun a hf => ?_
            refine op_val (ex_len_s (l := x19.Name) Tryd.underlying9 hf rfl) rfl hf rfl rfl fun a hf => ?_
            refine op_val (ex_min (m := (x19.Name.length : Int)) (n := 60) hf rfl rfl) rfl hf rfl rfl fun a hf => ?_
            obtain ⟨s24, hs24, hm⟩ := ob hm
            refine op_val (ex_to_s (l := x19.Name) Tryd.underlying9 hf rfl rfl hs24) rfl hf rfl rfl fun a hf => ?_
            refine op_val (ex_field fa_31_0 hf rfl) rfl hf rfl rfl fun a hf => ?_
            refine op_store1 (i := 0) (o := 0) (v := str s24) sz_9 rfl rfl rfl rfl hf rfl rfl hO fun w hO => ?_
            refine wpList_nil ?_
            refine nor_then (hK25 _ _ ?_)
            refine wp_seq_k fun _ hK27 => ?_
            refine wp_region_list ?_
            refine op_val (ex_field fa_31_1 hf rfl) rfl hf rfl rfl fun a hf => ?_
            refine op_val (ex_load1 (o := 1) ag_9 (hO.blkSees (i := 0) rfl) rfl hf rfl) rfl hf rfl rfl fun a hf => ?_
            refine op_val (ex_field fa_31_1 hf rfl) rfl hf rfl rfl fun a hf => ?_
            refine op_val (ex_load1 (o := 1) ag_9 (hO.blkSees (i := 0) rfl) rfl hf rfl) rfl hf rfl rfl fun a hf => ?_
            refine op_val (ex_len_s (l := x19.Value) Tryd.underlying9 hf rfl) rfl hf rfl rfl fun a hf => ?_
            refine op_val (ex_min (m := (x19.Value.length : Int)) (n := 60) hf rfl rfl) rfl hf rfl rfl fun a hf => ?_
            obtain ⟨s26, hs26, hm⟩ := ob hm
            refine op_val (ex_to_s (l := x19.Value) Tryd.underlying9 hf rfl rfl hs26) rfl hf rfl rfl fun a hf => ?_
            refine op_val (ex_field fa_31_1 hf rfl) rfl hf rfl rfl fun a hf => ?_
            refine op_store1 (i := 0) (o := 1) (v := str s26) sz_9 rfl rfl rfl rfl hf rfl rfl hO fun w hO => ?_
            refine wpList_nil ?_
            refine nor_then (hK27 _ _ ?_)
            refine wp_region_list ?_
            refine op_val (ex_field fa_24_2 hf rfl) rfl hf rfl rfl fun a hf => ?_
            refine op_val (ex_load1 (o := 2) ag_22 (hO.blkSees (i := 2) rfl) rfl hf rfl) rfl hf rfl rfl fun a hf => ?_
            refine op_val (ex_loadN (o := 0) (vs := [str s24, str s26, .bool x19.Has]) ag_31 sz_31 (hO.blkSees (i := 0) rfl) rfl rfl hf rfl) rfl hf rfl rfl fun a hf => ?_
            refine op_buildSlice (vs := [(0, .agg #[str s24, str s26, .bool x19.Has])]) (cs := [str s24, str s26, .bool x19.Has]) (e := 31) (sz := 3) hf rfl rfl (fun w => by kernel_rfl) rfl rfl hO fun a b28 w hf hO => ?_
            obtain ⟨hg31, hm⟩ := og hm
            refine op_appendT el_22 (enc := enc_api_Attr) (xs := l11) (ys := [(⟨s24, s26, x19.Has⟩ : api_Attr)]) (i := 2) (fun _ => rfl) rfl (hO.rowSees (i := 0) rfl) (by simp [cells, enc_api_Attr, Value.oneCell']) hg31 hf rfl rfl rfl hO fun a p29 c30 w hf hO => ?_
            refine op_val (ex_field fa_24_2 hf rfl) rfl hf rfl rfl fun a hf => ?_
            refine op_store1 (i := 3) (o := 2) (v := .slice p29 ((l11 ++ [(⟨s24, s26, x19.Has⟩ : api_Attr)]).length) c30) sz_22 rfl rfl rfl rfl hf rfl rfl hO fun w hO => ?_
            refine wpList_nil ?_
            refine nor_block ?_
            refine nor_then (hK32 _ _ ?_)
            refine wp_region_list ?_
            refine op_val (ex_move hf rfl) rfl hf rfl rfl fun a hf => ?_
            obtain ⟨i33, hi33, hm⟩ := ob hm
            refine op_val (ex_add hf rfl rfl hi33) rfl hf rfl rfl fun a hf => ?_
            refine op_val (ex_assign hf rfl) rfl hf rfl rfl fun a hf => ?_
            refine wpList_nil ?_
            refine nor_then ?_
            exact ⟨_, Nat.lt_succ_self _, p29, c30, l11 ++ [(⟨s24, s26, x19.Has⟩ : api_Attr)], s12, s13, i33, (hf.cons rfl (hf.cons rfl (hf.cons rfl (hf.cons rfl hf.nil)))), (hO.sub (.cons _ (.cons _ (.cons_cons _ (.cons_cons _ (.cons_cons _ (.cons_cons _ (.cons_cons _ (.cons_cons _ .slnil))))))))), hm⟩
          · have hm := ie hc17 hm
            refine wp_exit ?_
            refine exit_then ?_
            refine exit_then ?_
            refine exit_here ?_
            refine nor_then ?_
            exact ⟨p9, c10, l11, s12, s13, (hf.cons rfl (hf.cons rfl hf.nil)), hO, hm⟩
    · exact ⟨none, 0, [], s4, s5, 0, (hf.cons rfl (hf.cons rfl (hf.cons rfl (hf.cons rfl hf.nil)))), hO, hm⟩
  · rintro a w ⟨p34, c35, l36, s37, s38, hf, hO, hm⟩
    rw [law28_few_j3] at hm
    refine wp_seq_k fun _ hK39 => ?_
    refine wp_region_list ?_
    refine op_val (ex_loadN (o := 0) (vs := [str s37, str s38, .slice p34 l36.length c35]) ag_24 sz_24 (hO.blkSees (i := 1) rfl) rfl rfl hf rfl) rfl hf rfl rfl fun a hf => ?_
    refine op_storeN (i := 3) (n := 3) sz_24 rfl rfl rfl (by simp [Value.oneCell']) hf rfl rfl hO fun w hO => ?_
    refine wpList_nil ?_
    refine nor_then (hK39 _ _ ?_)
    refine wp_ret ?_
    obtain rfl := Option.some.inj hm
    exact post_ret Tryd.results8 hf (.cell rfl (run_loadVarN (n := 3) (vs := [str s37, str s38, .slice p34 l36.length c35]) ag_24 sz_24 rfl ((hO.blkSees (i := 3) rfl).cells (o := 0) (n := 3) rfl)) .nil) ⟨p34, c35, rfl, (hO.sub (.cons_cons _ (.cons _ (.cons _ (.cons _ (.cons _ (.cons _ .slnil)))))))⟩

set_option maxHeartbeats 1000000 in
set_option maxHeartbeats 4000000 in
set_option maxRecDepth 100000 in
theorem fold_walk (s : ByteArray) (R : Str) (w0 : World) (hG : Glob w0) (hsz : s.size < 4294967281) (hm : s.data.toList.mapM octet_Lower = some R)
    (hlow : ∀ b c w, octet_Lower b = some c → Glob w → Calls Tryd.prog 71 #[.int .u8 (b.toNat : Int)] w fun e w' => e = .returned (.int .u8 (c.toNat : Int)) ∧ Below w.heap.size w w') :
    Calls Tryd.prog 44 #[.string s] w0 fun e w' => e = .returned (.string ⟨R.toArray⟩) ∧ Below w0.heap.size w0 w' := by
  obtain ⟨hlen, hat⟩ := mapM_at hm
  have HL : Aside (R.length = s.size) := hlen.trans (Lib.size_eq s).symm
  have HT : Aside (∀ (i : Nat) (a : UInt8), s.data.toList[i]? = some a → ∃ b, R[i]? = some b ∧ octet_Lower a = some b) := hat
  clear hlen hat hm
  have hcv := fun w => run_bytes_of_string (P := Tryd.prog) w 9 75 5 s Tryd.underlying9 Tryd.underlying75 Tryd.underlying5
  go_enter Tryd.func44, Tryd.ntmps44
  go_wp2
  go_loopg [4, 5, 10] s.size (fun g _ _ v wx => ∃ i : Nat, i + g = s.size ∧ v = .int .i64 (i : Int) ∧ Below w0.heap.size w0 wx ∧ ∃ (cur : Array Value) (fz : Nat × Nat), wx.heap[w0.heap.size]? = some (.cells cur 5 fz) ∧ cur.size ≤ fz.1 ∧ s.size ≤ cur.size ∧ ∀ j, j < s.size → cur[j]? = ((if j < i then R[j]? else s.data.toList[j]?).map byte))
  case atStart =>
    have hrow : (bytesRow s (grownCap w0 s.size 0 5)).size = s.size + (grownCap w0 s.size 0 5 - s.size) := by
      have := Lib.size_eq s
      unfold bytesRow
      rw [Array.size_append, Array.size_map, Array.size_replicate]
      rfl
    refine ⟨0, by omega, rfl, ((Below.refl _ _).alloc (Nat.le_refl _) _).drew, _, _, heap_new _, Nat.le_refl _, ?_, fun j hj => ?_⟩
    · omega
    · rw [if_neg (by omega)]
      unfold bytesRow
      rw [Array.getElem?_append_left (by simp [← Lib.size_eq]; exact hj), Array.getElem?_map]
      congr 1
      exact (Array.getElem?_toList ..).symm
  case round =>
    obtain ⟨i, hig, rfl, hB, cur, fz, hcur, hfz, hsc, hcell⟩ := hrel
    have HG : Aside (Glob wr) := hG.own away_nil ((Dk.Own.refl w0).grow hB)
    have HB : Aside (Below w0.heap.size w0 wr) := hB
    have HC : Aside (wr.heap[w0.heap.size]? = some (.cells cur 5 fz)) := hcur
    have HF : Aside (cur.size ≤ fz.1 ∧ s.size ≤ cur.size) := ⟨hfz, hsc⟩
    have HX : Aside (∀ j, j < s.size → cur[j]? = ((if j < i then R[j]? else s.data.toList[j]?).map byte)) := hcell
    clear hB hcell hfz hsc hcur
    by_cases hi : i < s.size
    · obtain ⟨x, hx⟩ : ∃ x, s.data.toList[i]? = some x := ⟨_, Lib.data_getElem? s i hi⟩
      obtain ⟨y, hyR, hy⟩ := HT.out i x hx
      have hcx : wr.cell? ⟨w0.heap.size, i, none⟩ = some (.int .u8 (x.toNat : Int)) := by
        have := HX.out i hi
        rw [if_neg (by omega), hx] at this
        simp [World.cell?, HC.out, this]
      have hfr : wr.frozen? ⟨w0.heap.size, i, none⟩ = false := by
        have := HF.out
        simp [World.frozen?, HC.out]; omega
      have hii : (i : Int) < (s.size : Int) := by omega
      have HY : Aside (R[i]? = some y) := hyR
      have HO : Aside (octet_Lower x = some y) := hy
      clear hyR hy hx
      go_wp2_with (go_at_call 71; refine (hlow x y _ HO.out HG.out).mono ?_; rintro e w' ⟨rfl, hb⟩; have hcx' : w'.cell? ⟨w0.heap.size, i, none⟩ = some (.int .u8 (x.toNat : Int)) := (hb.cell (p := ⟨w0.heap.size, i, none⟩) (Array.getElem?_eq_some_iff.1 HC.out).1).trans hcx; have hfr' : w'.frozen? ⟨w0.heap.size, i, none⟩ = false := (hb.frozen (p := ⟨w0.heap.size, i, none⟩) (Array.getElem?_eq_some_iff.1 HC.out).1).trans hfr)
      go_roundg (gk - 1)
      case measure => omega
      case rel =>
        have hlt := (Array.getElem?_eq_some_iff.1 HC.out).1
        have hcw : w'.heap[w0.heap.size]? = some (.cells cur 5 fz) := (hb.block _ hlt).trans HC.out
        refine ⟨i + 1, by omega, rfl, ?_, cur.setIfInBounds i (.int .u8 (y.toNat : Int)), fz, ?_, ?_, ?_, fun j hj => ?_⟩
        · exact (HB.out.trans (hb.mono HB.out.size)).setCell (p := ⟨w0.heap.size, i, none⟩) (Nat.le_refl _) _
        · simp [World.setCell, Array.getElem?_modify, hcw]
        · have := HF.out; simp; omega
        · have := HF.out; simp; omega
        · by_cases hji : j = i
          · subst hji
            have := HF.out
            rw [if_pos (by omega), HY.out, Array.getElem?_setIfInBounds_self_of_lt (by omega)]
            rfl
          · rw [Array.getElem?_setIfInBounds_ne (Ne.symm hji), HX.out j hj]
            by_cases h2 : j < i
            · rw [if_pos h2, if_pos (by omega)]
            · rw [if_neg h2, if_neg (by omega)]
    · have hsi : i = s.size := by omega
      have hbk : ∀ w, wr.heap = w.heap → (convert 75 9 (.slice (some ⟨w0.heap.size, 0, none⟩) s.size (grownCap w0 s.size 0 5))).run Tryd.prog w = .ok (.string ⟨R.toArray⟩) w := by
        intro w hw
        have := run_convert_bytes_back (P := Tryd.prog) w 75 9 5 ⟨w0.heap.size, 0, none⟩ (grownCap w0 s.size 0 5) R Tryd.underlying75 Tryd.underlying5 Tryd.underlying9 (fun j hj => by
          have hjs : j < s.size := by rw [← HL.out]; exact hj
          have h1 := HX.out j hjs
          rw [if_pos (by omega), List.getElem?_eq_getElem hj] at h1
          rw [add_none0]
          simp [World.cell?, ← hw, HC.out, h1])
        rw [HL.out] at this
        exact this
      have hni : ¬ ((i : Int) < (s.size : Int)) := by omega
      have hbk1 := hbk wr rfl
      go_wp2
      go_ret
      exact ⟨rfl, HB.out⟩

theorem w_octet_Fold (x_s : Str) (R : Str) (w0 : World) (hG : Glob w0) (hm : octet_Fold x_s = some R) :
    Calls Tryd.prog 44 #[str x_s] w0 fun e w' => e = .returned (str R) ∧ Below w0.heap.size w0 w' := by
  unfold octet_Fold at hm
  split at hm
  · rename_i h
    exact fold_walk ⟨x_s.toArray⟩ R w0 hG h hm fun b c w hbc hGw => w_octet_Lower b c w hGw hbc
  · cases hm


set_option maxHeartbeats 1000000 in
theorem w_octet_Same (x_a : Str) (x_b : Str) (R : Bool) (w0 : World) (hG : Glob w0) (hm : octet_Same x_a x_b = some R) :
    Calls Tryd.prog 27 #[str x_a, str x_b] w0 fun e w' => e = .returned (.bool R) ∧ Below w0.heap.size w0 w' := by
  rw [octet_Same] at hm
  refine calls_enter (vs := [str x_a, str x_b]) Tryd.func27 rfl Tryd.ntmps27 rfl fun a hf => ?_
  have hF : Away [] := away_nil
  have hO : Dk.Own w0 [] w0 [] := Dk.Own.refl w0
  refine wp_seq_k fun _ hK1 => ?_
  refine wp_region_list ?_
  refine op_val (ex_assign hf rfl) rfl hf rfl rfl fun a hf => ?_
  refine wpList_nil ?_
  refine nor_then (hK1 _ _ ?_)
  refine wp_seq_k fun _ hK4 => ?_
  refine wp_region_list ?_
  refine op_val (ex_move hf rfl) rfl hf rfl rfl fun a hf => ?_
  obtain ⟨r2, hr2, hm⟩ := ob hm
  refine op_enter (ex_call c_44 hf (vs := [str x_a]) rfl) rfl hf rfl rfl (w_octet_Fold x_a r2 _ (hG.own hF hO) hr2) ?_
  rintro e w' ⟨he, hb⟩
  refine ⟨_, he, fun a hf => ?_⟩
  have hO := hO.grow hb
  refine op_val (ex_move hf rfl) rfl hf rfl rfl fun a hf => ?_
  obtain ⟨r3, hr3, hm⟩ := ob hm
  refine op_enter (ex_call c_44 hf (vs := [str x_b]) rfl) rfl hf rfl rfl (w_octet_Fold x_b r3 _ (hG.own hF hO) hr3) ?_
  rintro e w' ⟨he, hb⟩
  refine ⟨_, he, fun a hf => ?_⟩
  have hO := hO.grow hb
  refine op_val (ex_eql_s (l := r2) (m := r3) hf rfl rfl) rfl hf rfl rfl fun a hf => ?_
  refine op_val (ex_assign hf rfl) rfl hf rfl rfl fun a hf => ?_
  refine wpList_nil ?_
  refine nor_then (hK4 _ _ ?_)
  refine wp_ret ?_
  obtain rfl := Option.some.inj hm
  exact post_ret Tryd.results27 hf (.tmp rfl .nil) ⟨rfl, hO.below⟩

set_option maxHeartbeats 1000000 in
theorem w_cookie_last (x_c : api_Cookie) (x_name : Str) (R : Int) (w0 : World) (hG : Glob w0) {x_c_p0 : Option Addr} {x_c_c0 : Nat} (hs0 : Sees w0 x_c_p0 (cells enc_api_Attr x_c.Attrs)) (hc0 : x_c.Attrs.length ≤ x_c_c0) (hm : cookie_last x_c x_name = some R) :
    Calls Tryd.prog 25 #[.agg #[str x_c.Name, str x_c.Value, .slice x_c_p0 x_c.Attrs.length x_c_c0], str x_name] w0 fun e w' => e = .returned (int R) ∧ Below w0.heap.size w0 w' := by
  rw [cookie_last] at hm
  refine calls_enter (vs := [.agg #[str x_c.Name, str x_c.Value, .slice x_c_p0 x_c.Attrs.length x_c_c0], str x_name]) Tryd.func25 rfl Tryd.ntmps25 rfl fun a hf => ?_
  have hF : Away [] := away_nil
  have hO : Dk.Own w0 [] w0 [] := Dk.Own.refl w0
  have hO := hO.addShr hs0 (by simp [Res.shared])
  refine wp_seq_k fun _ hK2 => ?_
  refine wp_region_list ?_
  refine op_box (v := .agg #[str x_c.Name, str x_c.Value, .slice x_c_p0 x_c.Attrs.length x_c_c0]) (cs := [str x_c.Name, str x_c.Value, .slice x_c_p0 x_c.Attrs.length x_c_c0]) rfl hf rfl rfl hO fun a b1 w hf hO => ?_
  refine op_val (ex_assign hf rfl) rfl hf rfl rfl fun a hf => ?_
  refine wpList_nil ?_
  refine nor_then (hK2 _ _ ?_)
  refine wp_seq_k fun _ hK18 => ?_
  refine wp_seq_k fun _ hK4 => ?_
  refine wp_region_list ?_
  refine op_val (ex_field fa_24_2 hf rfl) rfl hf rfl rfl fun a hf => ?_
  refine op_val (ex_load1 (o := 2) ag_22 (hO.blkSees (i := 0) rfl) rfl hf rfl) rfl hf rfl rfl fun a hf => ?_
  refine op_val (ex_len_l Tryd.underlying22 hf rfl) rfl hf rfl rfl fun a hf => ?_
  obtain ⟨i3, hi3, hm⟩ := ob hm
  refine op_val (ex_sub hf rfl rfl hi3) rfl hf rfl rfl fun a hf => ?_
  refine op_val (ex_assign hf rfl) rfl hf rfl rfl fun a hf => ?_
  refine wpList_nil ?_
  refine nor_then (hK4 _ _ ?_)
  refine wp_block ?_
  refine wp_loop_n (fun k a w => ∃ (i5 : Int), Fits 23 [(1, str x_name), (2, ptr b1 0), (5, int i5)] a ∧ Dk.Own w0 [] w [.blk b1 [str x_c.Name, str x_c.Value, .slice x_c_p0 x_c.Attrs.length x_c_c0] 24, .shr x_c_p0 (cells enc_api_Attr x_c.Attrs)] ∧ cookie_last_L1 x_c x_name k i5 = some R) ?_ fuel ?_
  · rintro n1 a w ⟨i5, hf, hO, hm⟩
    obtain _ | n1 := n1
    · rw [cookie_last_L1] at hm
      cases hm
    · rw [cookie_last_L1] at hm
      refine wp_seq_k fun _ hK8 => ?_
      refine wp_seq_k fun _ hK6 => ?_
      refine wp_region_list ?_
      refine op_val (ex_move hf rfl) rfl hf rfl rfl fun a hf => ?_
      refine op_val (ex_geq (m := i5) (n := 0) hf rfl rfl) rfl hf rfl rfl fun a hf => ?_
      refine wpList_nil ?_
      refine nor_then (hK6 _ _ ?_)
      refine wp_cond_cut hf rfl (fun hc7 => ?_) (fun hc7 => ?_)
      · have hm := it hc7 hm
        refine wp_skip ?_
        refine nor_then (hK8 _ _ ?_)
        refine wp_seq_k fun _ hK16 => ?_
        refine wp_block ?_
        refine wp_seq_k fun _ hK13 => ?_
        refine wp_region_list ?_
        refine op_val (ex_field fa_24_2 hf rfl) rfl hf rfl rfl fun a hf => ?_
        refine op_val (ex_load1 (o := 2) ag_22 (hO.blkSees (i := 0) rfl) rfl hf rfl) rfl hf rfl rfl fun a hf => ?_
        refine op_val (ex_move hf rfl) rfl hf rfl rfl fun a hf => ?_
        obtain ⟨x9, hx9, hm⟩ := ob hm
        obtain ⟨b10, o11, hix9, hSx9⟩ := elemAt (enc := enc_api_Attr) (sz := 3) (xs := x_c.Attrs) 22 Tryd.underlying22 sz_31 (by decide) (fun _ => rfl) (hO.sees (i := 1) rfl) hx9
        refine op_val (ex_indexAddr hix9 hf rfl rfl) rfl hf rfl rfl fun a hf => ?_
        refine op_val (ex_field fa_31_0 hf rfl) rfl hf rfl rfl fun a hf => ?_
        refine op_val (ex_load1 (o := 0) ag_9 (hSx9 _ (hO.sees (i := 1) rfl)) rfl hf rfl) rfl hf rfl rfl fun a hf => ?_
        refine op_val (ex_move hf rfl) rfl hf rfl rfl fun a hf => ?_
        obtain ⟨r12, hr12, hm⟩ := ob hm
        refine op_enter (ex_call c_27 hf (vs := [str x9.Name, str x_name]) rfl) rfl hf rfl rfl (w_octet_Same x9.Name x_name r12 _ (hG.own hF hO) hr12) ?_
        rintro e w' ⟨he, hb⟩
        refine ⟨_, he, fun a hf => ?_⟩
        have hO := hO.grow hb
        refine wpList_nil ?_
        refine nor_then (hK13 _ _ ?_)
        refine wp_cond_cut hf rfl (fun hc14 => ?_) (fun hc14 => ?_)
        · have hm := it hc14 hm
          refine wp_seq_k fun _ hK15 => ?_
          refine wp_region_list ?_
          refine op_val (ex_move hf rfl) rfl hf rfl rfl fun a hf => ?_
          refine op_val (ex_assign hf rfl) rfl hf rfl rfl fun a hf => ?_
          refine wpList_nil ?_
          refine nor_then (hK15 _ _ ?_)
          refine wp_ret ?_
          refine ret_block ?_
          refine ret_then ?_
          refine ret_then ?_
          refine ret_block ?_
          refine ret_then ?_
          obtain rfl := Option.some.inj hm
          exact post_ret Tryd.results25 hf (.tmp rfl .nil) ⟨rfl, hO.below⟩
        · have hm := ie hc14 hm
          refine wp_skip ?_
          refine nor_block ?_
          refine nor_then (hK16 _ _ ?_)
          refine wp_region_list ?_
          refine op_val (ex_move hf rfl) rfl hf rfl rfl fun a hf => ?_
          obtain ⟨i17, hi17, hm⟩ := ob hm
          refine op_val (ex_sub hf rfl rfl hi17) rfl hf rfl rfl fun a hf => ?_
          refine op_val (ex_assign hf rfl) rfl hf rfl rfl fun a hf => ?_
          refine wpList_nil ?_
          refine nor_then ?_
          exact ⟨_, Nat.lt_succ_self _, i17, (hf.cons rfl (hf.cons rfl (hf.cons rfl hf.nil))), hO, hm⟩
      · have hm := ie hc7 hm
        refine wp_exit ?_
        refine exit_then ?_
        refine exit_then ?_
        refine exit_here ?_
        refine nor_then (hK18 _ _ ?_)
        refine wp_seq_k fun _ hK19 => ?_
        refine wp_region_list ?_
        refine op_val (ex_assign hf rfl) rfl hf rfl rfl fun a hf => ?_
        refine wpList_nil ?_
        refine nor_then (hK19 _ _ ?_)
        refine wp_ret ?_
        obtain rfl := Option.some.inj hm
        exact post_ret Tryd.results25 hf (.tmp rfl .nil) ⟨rfl, hO.below⟩
  · exact ⟨i3, (hf.cons rfl (hf.cons rfl (hf.cons rfl hf.nil))), hO, hm⟩

set_option maxHeartbeats 1000000 in
theorem w_cookie_Get (x_c : api_Cookie) (x_name : Str) (R : Str × Bool) (w0 : World) (hG : Glob w0) {x_c_p0 : Option Addr} {x_c_c0 : Nat} (hs0 : Sees w0 x_c_p0 (cells enc_api_Attr x_c.Attrs)) (hc0 : x_c.Attrs.length ≤ x_c_c0) (hm : cookie_Get x_c x_name = some R) :
    Calls Tryd.prog 9 #[.agg #[str x_c.Name, str x_c.Value, .slice x_c_p0 x_c.Attrs.length x_c_c0], str x_name] w0 fun e w' => e = .returned (.tuple #[str R.1, .bool R.2]) ∧ Below w0.heap.size w0 w' := by
  rw [cookie_Get] at hm
  refine calls_enter (vs := [.agg #[str x_c.Name, str x_c.Value, .slice x_c_p0 x_c.Attrs.length x_c_c0], str x_name]) Tryd.func9 rfl Tryd.ntmps9 rfl fun a hf => ?_
  have hF : Away [] := away_nil
  have hO : Dk.Own w0 [] w0 [] := Dk.Own.refl w0
  have hO := hO.addShr hs0 (by simp [Res.shared])
  refine wp_seq_k fun _ hK2 => ?_
  refine wp_region_list ?_
  refine op_box (v := .agg #[str x_c.Name, str x_c.Value, .slice x_c_p0 x_c.Attrs.length x_c_c0]) (cs := [str x_c.Name, str x_c.Value, .slice x_c_p0 x_c.Attrs.length x_c_c0]) rfl hf rfl rfl hO fun a b1 w hf hO => ?_
  refine op_val (ex_assign hf rfl) rfl hf rfl rfl fun a hf => ?_
  refine op_val (ex_assign hf rfl) rfl hf rfl rfl fun a hf => ?_
  refine wpList_nil ?_
  refine nor_then (hK2 _ _ ?_)
  refine wp_seq_k fun _ hK4 => ?_
  refine wp_region_list ?_
  refine op_val (ex_loadN (o := 0) (vs := [str x_c.Name, str x_c.Value, .slice x_c_p0 x_c.Attrs.length x_c_c0]) ag_24 sz_24 (hO.blkSees (i := 0) rfl) rfl rfl hf rfl) rfl hf rfl rfl fun a hf => ?_
  refine op_val (ex_move hf rfl) rfl hf rfl rfl fun a hf => ?_
  obtain ⟨r3, hr3, hm⟩ := ob hm
  refine op_enter (ex_call c_25 hf (vs := [.agg #[str x_c.Name, str x_c.Value, .slice x_c_p0 x_c.Attrs.length x_c_c0], str x_name]) rfl) rfl hf rfl rfl (w_cookie_last x_c x_name r3 _ (hG.own hF hO) (hO.sees (i := 1) rfl) hc0 hr3) ?_
  rintro e w' ⟨he, hb⟩
  refine ⟨_, he, fun a hf => ?_⟩
  have hO := hO.grow hb
  refine op_val (ex_assign hf rfl) rfl hf rfl rfl fun a hf => ?_
  refine wpList_nil ?_
  refine nor_then (hK4 _ _ ?_)
  refine wp_seq_k fun _ hK8 => ?_
  refine wp_seq_k fun _ hK5 => ?_
  refine wp_region_list ?_
  refine op_val (ex_move hf rfl) rfl hf rfl rfl fun a hf => ?_
  refine op_val (ex_lss (m := r3) (n := 0) hf rfl rfl) rfl hf rfl rfl fun a hf => ?_
  refine wpList_nil ?_
  refine nor_then (hK5 _ _ ?_)
  refine wp_cond_cut hf rfl (fun hc6 => ?_) (fun hc6 => ?_)
  · have hm := it hc6 hm
    refine wp_seq_k fun _ hK7 => ?_
    refine wp_region_list ?_
    refine op_val (ex_assign hf rfl) rfl hf rfl rfl fun a hf => ?_
    refine op_val (ex_assign hf rfl) rfl hf rfl rfl fun a hf => ?_
    refine wpList_nil ?_
    refine nor_then (hK7 _ _ ?_)
    refine wp_ret ?_
    refine ret_then ?_
    obtain rfl := Option.some.inj hm
    exact post_ret Tryd.results9 hf (.tmp rfl (.tmp rfl .nil)) ⟨rfl, hO.below⟩
  · have hm := ie hc6 hm
    refine wp_skip ?_
    refine nor_then (hK8 _ _ ?_)
    refine wp_seq_k fun _ hK12 => ?_
    refine wp_region_list ?_
    refine op_val (ex_field fa_24_2 hf rfl) rfl hf rfl rfl fun a hf => ?_
    refine op_val (ex_load1 (o := 2) ag_22 (hO.blkSees (i := 0) rfl) rfl hf rfl) rfl hf rfl rfl fun a hf => ?_
    refine op_val (ex_move hf rfl) rfl hf rfl rfl fun a hf => ?_
    obtain ⟨x9, hx9, hm⟩ := ob hm
    obtain ⟨b10, o11, hix9, hSx9⟩ := elemAt (enc := enc_api_Attr) (sz := 3) (xs := x_c.Attrs) 22 Tryd.underlying22 sz_31 (by decide) (fun _ => rfl) (hO.sees (i := 1) rfl) hx9
    refine op_val (ex_indexAddr hix9 hf rfl rfl) rfl hf rfl rfl fun a hf => ?_
    refine op_val (ex_field fa_31_1 hf rfl) rfl hf rfl rfl fun a hf => ?_
    refine op_val (ex_load1 (o := 1) ag_9 (hSx9 _ (hO.sees (i := 1) rfl)) rfl hf rfl) rfl hf rfl rfl fun a hf => ?_
    refine op_val (ex_assign hf rfl) rfl hf rfl rfl fun a hf => ?_
    refine op_val (ex_assign hf rfl) rfl hf rfl rfl fun a hf => ?_
    refine wpList_nil ?_
    refine nor_then (hK12 _ _ ?_)
    refine wp_ret ?_
    obtain rfl := Option.some.inj hm
    exact post_ret Tryd.results9 hf (.tmp rfl (.tmp rfl .nil)) ⟨rfl, hO.below⟩

set_option maxHeartbeats 1000000 in
theorem w_ref01_Fold (x_s : Str) (R : Str) (w0 : World) (hG : Glob w0) (hm : ref01_Fold x_s = some R) :
    Calls Tryd.prog 26 #[str x_s] w0 fun e w' => e = .returned (str R) ∧ Below w0.heap.size w0 w' := by
  rw [ref01_Fold] at hm
  refine calls_enter (vs := [str x_s]) Tryd.func26 rfl Tryd.ntmps26 rfl fun a hf => ?_
  have hF : Away [] := away_nil
  have hO : Dk.Own w0 [] w0 [] := Dk.Own.refl w0
  refine wp_seq_k fun _ hK1 => ?_
  refine wp_region_list ?_
  refine op_val (ex_assign hf rfl) rfl hf rfl rfl fun a hf => ?_
  refine wpList_nil ?_
  refine nor_then (hK1 _ _ ?_)
  refine wp_seq_k fun _ hK2 => ?_
  refine wp_region_list ?_
  refine op_val (ex_assign hf rfl) rfl hf rfl rfl fun a hf => ?_
  refine wpList_nil ?_
  refine nor_then (hK2 _ _ ?_)
  refine wp_seq_k fun _ hK30 => ?_
  refine wp_seq_k fun _ hK3 => ?_
  refine wp_region_list ?_
  refine op_val (ex_assign hf rfl) rfl hf rfl rfl fun a hf => ?_
  refine wpList_nil ?_
  refine nor_then (hK3 _ _ ?_)
  refine wp_block ?_
  refine wp_loop_n (fun k a w => ∃ (s4 : Str) (i5 : Int), Fits 36 [(0, str x_s), (3, str s4), (4, int i5)] a ∧ Dk.Own w0 [] w [] ∧ ref01_Fold_L1 x_s k s4 i5 = some R) ?_ fuel ?_
  · rintro n1 a w ⟨s4, i5, hf, hO, hm⟩
    obtain _ | n1 := n1
    · rw [ref01_Fold_L1] at hm
      cases hm
    · rw [ref01_Fold_L1] at hm
      refine wp_seq_k fun _ hK8 => ?_
      refine wp_seq_k fun _ hK6 => ?_
      refine wp_region_list ?_
      refine op_val (ex_move hf rfl) rfl hf rfl rfl fun a hf => ?_
      refine op_val (ex_move hf rfl) rfl hf rfl rfl fun a hf => ?_
      refine op_val (ex_len_s (l := x_s) Tryd.underlying9 hf rfl) rfl hf rfl rfl fun a hf => ?_
      refine op_val (ex_lss (m := i5) (n := (x_s.length : Int)) hf rfl rfl) rfl hf rfl rfl fun a hf => ?_
      refine wpList_nil ?_
      refine nor_then (hK6 _ _ ?_)
      refine wp_cond_cut hf rfl (fun hc7 => ?_) (fun hc7 => ?_)
      · have hm := it hc7 hm
        refine wp_skip ?_
        refine nor_then (hK8 _ _ ?_)
        refine wp_seq_k fun _ hK28 => ?_
        refine wp_block ?_
        refine wp_seq_k fun _ hK11 => ?_
        refine wp_region_list ?_
        refine op_val (ex_move hf rfl) rfl hf rfl rfl fun a hf => ?_
        refine op_val (ex_move hf rfl) rfl hf rfl rfl fun a hf => ?_
        refine op_val (ex_move hf rfl) rfl hf rfl rfl fun a hf => ?_
        obtain ⟨i9, hi9, hm⟩ := ob hm
        refine op_val (ex_add hf rfl rfl hi9) rfl hf rfl rfl fun a hf => ?_
        obtain ⟨s10, hs10, hm⟩ := ob hm
        refine op_val (ex_sub_s (l := x_s) Tryd.underlying9 hf rfl rfl rfl hs10) rfl hf rfl rfl fun a hf => ?_
        refine op_val (ex_assign hf rfl) rfl hf rfl rfl fun a hf => ?_
        refine wpList_nil ?_
        refine nor_then (hK11 _ _ ?_)
        refine wp_seq_k fun _ hK26 => ?_
        refine wp_seq_k fun _ hK12 => ?_
        refine wp_region_list ?_
        refine op_val (ex_assign hf rfl) rfl hf rfl rfl fun a hf => ?_
        refine wpList_nil ?_
        refine nor_then (hK12 _ _ ?_)
        refine wp_block ?_
        refine wp_loop_n (fun k a w => ∃ (s13 : Str) (i14 : Int), Fits 36 [(0, str x_s), (3, str s4), (4, int i5), (5, str s13), (6, int i14)] a ∧ Dk.Own w0 [] w [] ∧ ref01_Fold_L2 (ref01_Fold_L1 x_s n1) x_s s4 i5 k s13 i14 = some R) ?_ fuel ?_
        · rintro n2 a w ⟨s13, i14, hf, hO, hm⟩
          obtain _ | n2 := n2
          · rw [ref01_Fold_L2] at hm
            cases hm
          · rw [ref01_Fold_L2] at hm
            refine wp_seq_k fun _ hK17 => ?_
            refine wp_seq_k fun _ hK15 => ?_
            refine wp_region_list ?_
            refine op_val (ex_move hf rfl) rfl hf rfl rfl fun a hf => ?_
            refine op_val (ex_lss (m := i14) (n := 26) hf rfl rfl) rfl hf rfl rfl fun a hf => ?_
            refine wpList_nil ?_
            refine nor_then (hK15 _ _ ?_)
            refine wp_cond_cut hf rfl (fun hc16 => ?_) (fun hc16 => ?_)
            · have hm := it hc16 hm
              refine wp_skip ?_
              refine nor_then (hK17 _ _ ?_)
              refine wp_seq_cut (fun a w => ∃ (s24 : Str), Fits 36 [(0, str x_s), (3, str s4), (4, int i5), (5, str s24), (6, int i14)] a ∧ Dk.Own w0 [] w [] ∧ ref01_Fold_j3 (ref01_Fold_L2 (ref01_Fold_L1 x_s n1) x_s s4 i5 n2) i14 s24 = some R) ?_ ?_
              · refine wp_block ?_
                refine wp_seq_k fun _ hK20 => ?_
                refine wp_quiet (by kernel_rfl) (by kernel_rfl) hO ?_
                refine q_val (fun w hO => ex_move hf rfl) rfl hf rfl rfl fun a hf => ?_
                obtain ⟨b18, hb18, hm⟩ := ob hm
                refine q_val (fun w hO => ex_index (l := [65, 66, 67, 68, 69, 70, 71, 72, 73, 74, 75, 76, 77, 78, 79, 80, 81, 82, 83, 84, 85, 86, 87, 88, 89, 90]) Tryd.underlying9 hf rfl rfl hb18) rfl hf rfl rfl fun a hf => ?_
                refine q_val (fun w hO => ex_move hf rfl) rfl hf rfl rfl fun a hf => ?_
                refine q_val (fun w hO => ex_move hf rfl) rfl hf rfl rfl fun a hf => ?_
                obtain ⟨b19, hb19, hm⟩ := ob hm
                refine q_val (fun w hO => ex_index (l := x_s) Tryd.underlying9 hf rfl rfl hb19) rfl hf rfl rfl fun a hf => ?_
                refine q_val (fun w hO => ex_eql_b (b := b18) (c := b19) hf rfl rfl) rfl hf rfl rfl fun a hf => ?_
                refine wpQuiet_nil ?_
                intro w hO
                refine nor_then (hK20 _ _ ?_)
                refine wp_cond_cut hf rfl (fun hc21 => ?_) (fun hc21 => ?_)
                · have hm := it hc21 hm
                  refine wp_region_list ?_
                  refine op_val (ex_move hf rfl) rfl hf rfl rfl fun a hf => ?_
                  refine op_val (ex_move hf rfl) rfl hf rfl rfl fun a hf => ?_
                  obtain ⟨i22, hi22, hm⟩ := ob hm
                  refine op_val (ex_add hf rfl rfl hi22) rfl hf rfl rfl fun a hf => ?_
                  obtain ⟨s23, hs23, hm⟩ := ob hm
                  refine op_val (ex_sub_s (l := [97, 98, 99, 100, 101, 102, 103, 104, 105, 106, 107, 108, 109, 110, 111, 112, 113, 114, 115, 116, 117, 118, 119, 120, 121, 122]) Tryd.underlying9 hf rfl rfl rfl hs23) rfl hf rfl rfl fun a hf => ?_
                  refine op_val (ex_assign hf rfl) rfl hf rfl rfl fun a hf => ?_
                  refine wpList_nil ?_
                  refine nor_block ?_
                  refine nor_then ?_
                  exact ⟨s23, (hf.cons rfl (hf.cons rfl (hf.cons rfl (hf.cons rfl (hf.cons rfl hf.nil))))), hO, hm⟩
                · have hm := ie hc21 hm
                  refine wp_skip ?_
                  refine nor_block ?_
                  refine nor_then ?_
                  exact ⟨s13, (hf.cons rfl (hf.cons rfl (hf.cons rfl (hf.cons rfl (hf.cons rfl hf.nil))))), hO, hm⟩
              · rintro a w ⟨s24, hf, hO, hm⟩
                rw [ref01_Fold_j3] at hm
                refine wp_region_list ?_
                refine op_val (ex_move hf rfl) rfl hf rfl rfl fun a hf => ?_
                obtain ⟨i25, hi25, hm⟩ := ob hm
                refine op_val (ex_add hf rfl rfl hi25) rfl hf rfl rfl fun a hf => ?_
                refine op_val (ex_assign hf rfl) rfl hf rfl rfl fun a hf => ?_
                refine wpList_nil ?_
                refine nor_then ?_
                exact ⟨_, Nat.lt_succ_self _, s24, i25, (hf.cons rfl (hf.cons rfl (hf.cons rfl (hf.cons rfl (hf.cons rfl hf.nil))))), hO, hm⟩
            · have hm := ie hc16 hm
              refine wp_exit ?_
              refine exit_then ?_
              refine exit_then ?_
              refine exit_here ?_
              refine nor_then (hK26 _ _ ?_)
              refine wp_region_list ?_
              refine op_val (ex_move hf rfl) rfl hf rfl rfl fun a hf => ?_
              refine op_val (ex_move hf rfl) rfl hf rfl rfl fun a hf => ?_
              obtain ⟨s27, hs27, hm⟩ := ob hm
              refine op_val (ex_cat (l := s4) (m := s13) hf rfl rfl hs27) rfl hf rfl rfl fun a hf => ?_
              refine op_val (ex_assign hf rfl) rfl hf rfl rfl fun a hf => ?_
              refine wpList_nil ?_
              refine nor_block ?_
              refine nor_then (hK28 _ _ ?_)
              refine wp_region_list ?_
              refine op_val (ex_move hf rfl) rfl hf rfl rfl fun a hf => ?_
              obtain ⟨i29, hi29, hm⟩ := ob hm
              refine op_val (ex_add hf rfl rfl hi29) rfl hf rfl rfl fun a hf => ?_
              refine op_val (ex_assign hf rfl) rfl hf rfl rfl fun a hf => ?_
              refine wpList_nil ?_
              refine nor_then ?_
              exact ⟨_, Nat.lt_succ_self _, s27, i29, (hf.cons rfl (hf.cons rfl (hf.cons rfl hf.nil))), hO, hm⟩
        · exact ⟨s10, 0, (hf.cons rfl (hf.cons rfl (hf.cons rfl (hf.cons rfl (hf.cons rfl hf.nil))))), hO, hm⟩
      · have hm := ie hc7 hm
        refine wp_exit ?_
        refine exit_then ?_
        refine exit_then ?_
        refine exit_here ?_
        refine nor_then (hK30 _ _ ?_)
        refine wp_seq_k fun _ hK31 => ?_
        refine wp_region_list ?_
        refine op_val (ex_move hf rfl) rfl hf rfl rfl fun a hf => ?_
        refine op_val (ex_assign hf rfl) rfl hf rfl rfl fun a hf => ?_
        refine wpList_nil ?_
        refine nor_then (hK31 _ _ ?_)
        refine wp_ret ?_
        obtain rfl := Option.some.inj hm
        exact post_ret Tryd.results26 hf (.tmp rfl .nil) ⟨rfl, hO.below⟩
  · exact ⟨[], 0, (hf.cons rfl (hf.cons rfl (hf.cons rfl hf.nil))), hO, hm⟩

set_option maxHeartbeats 1000000 in
theorem w_ref28_Place (x_c : api_Cookie) (x_name : Str) (R : Int) (w0 : World) (hG : Glob w0) {x_c_p0 : Option Addr} {x_c_c0 : Nat} (hs0 : Sees w0 x_c_p0 (cells enc_api_Attr x_c.Attrs)) (hc0 : x_c.Attrs.length ≤ x_c_c0) (hm : ref28_Place x_c x_name = some R) :
    Calls Tryd.prog 10 #[.agg #[str x_c.Name, str x_c.Value, .slice x_c_p0 x_c.Attrs.length x_c_c0], str x_name] w0 fun e w' => e = .returned (int R) ∧ Below w0.heap.size w0 w' := by
  rw [ref28_Place] at hm
  refine calls_enter (vs := [.agg #[str x_c.Name, str x_c.Value, .slice x_c_p0 x_c.Attrs.length x_c_c0], str x_name]) Tryd.func10 rfl Tryd.ntmps10 rfl fun a hf => ?_
  have hF : Away [] := away_nil
  have hO : Dk.Own w0 [] w0 [] := Dk.Own.refl w0
  have hO := hO.addShr hs0 (by simp [Res.shared])
  refine wp_seq_k fun _ hK2 => ?_
  refine wp_region_list ?_
  refine op_box (v := .agg #[str x_c.Name, str x_c.Value, .slice x_c_p0 x_c.Attrs.length x_c_c0]) (cs := [str x_c.Name, str x_c.Value, .slice x_c_p0 x_c.Attrs.length x_c_c0]) rfl hf rfl rfl hO fun a b1 w hf hO => ?_
  refine op_val (ex_assign hf rfl) rfl hf rfl rfl fun a hf => ?_
  refine wpList_nil ?_
  refine nor_then (hK2 _ _ ?_)
  refine wp_seq_k fun _ hK3 => ?_
  refine wp_region_list ?_
  refine op_val (ex_assign hf rfl) rfl hf rfl rfl fun a hf => ?_
  refine wpList_nil ?_
  refine nor_then (hK3 _ _ ?_)
  refine wp_seq_k fun _ hK19 => ?_
  refine wp_seq_k fun _ hK4 => ?_
  refine wp_region_list ?_
  refine op_val (ex_assign hf rfl) rfl hf rfl rfl fun a hf => ?_
  refine wpList_nil ?_
  refine nor_then (hK4 _ _ ?_)
  refine wp_block ?_
  refine wp_loop_n (fun k a w => ∃ (i5 : Int) (i6 : Int), Fits 26 [(1, str x_name), (2, ptr b1 0), (5, int i5), (6, int i6)] a ∧ Dk.Own w0 [] w [.blk b1 [str x_c.Name, str x_c.Value, .slice x_c_p0 x_c.Attrs.length x_c_c0] 24, .shr x_c_p0 (cells enc_api_Attr x_c.Attrs)] ∧ ref28_Place_L1 x_c x_name k i5 i6 = some R) ?_ fuel ?_
  · rintro n1 a w ⟨i5, i6, hf, hO, hm⟩
    obtain _ | n1 := n1
    · rw [ref28_Place_L1] at hm
      cases hm
    · rw [ref28_Place_L1] at hm
      refine wp_seq_k fun _ hK9 => ?_
      refine wp_seq_k fun _ hK7 => ?_
      refine wp_region_list ?_
      refine op_val (ex_move hf rfl) rfl hf rfl rfl fun a hf => ?_
      refine op_val (ex_field fa_24_2 hf rfl) rfl hf rfl rfl fun a hf => ?_
      refine op_val (ex_load1 (o := 2) ag_22 (hO.blkSees (i := 0) rfl) rfl hf rfl) rfl hf rfl rfl fun a hf => ?_
      refine op_val (ex_len_l Tryd.underlying22 hf rfl) rfl hf rfl rfl fun a hf => ?_
      refine op_val (ex_lss (m := i6) (n := (x_c.Attrs.length : Int)) hf rfl rfl) rfl hf rfl rfl fun a hf => ?_
      refine wpList_nil ?_
      refine nor_then (hK7 _ _ ?_)
      refine wp_cond_cut hf rfl (fun hc8 => ?_) (fun hc8 => ?_)
      · have hm := it hc8 hm
        refine wp_skip ?_
        refine nor_then (hK9 _ _ ?_)
        refine wp_seq_cut (fun a w => ∃ (i17 : Int), Fits 26 [(1, str x_name), (2, ptr b1 0), (5, int i17), (6, int i6)] a ∧ Dk.Own w0 [] w [.blk b1 [str x_c.Name, str x_c.Value, .slice x_c_p0 x_c.Attrs.length x_c_c0] 24, .shr x_c_p0 (cells enc_api_Attr x_c.Attrs)] ∧ ref28_Place_j2 (ref28_Place_L1 x_c x_name n1) i6 i17 = some R) ?_ ?_
        · refine wp_block ?_
          refine wp_seq_k fun _ hK15 => ?_
          refine wp_region_list ?_
          refine op_val (ex_field fa_24_2 hf rfl) rfl hf rfl rfl fun a hf => ?_
          refine op_val (ex_load1 (o := 2) ag_22 (hO.blkSees (i := 0) rfl) rfl hf rfl) rfl hf rfl rfl fun a hf => ?_
          refine op_val (ex_move hf rfl) rfl hf rfl rfl fun a hf => ?_
          obtain ⟨x10, hx10, hm⟩ := ob hm
          obtain ⟨b11, o12, hix10, hSx10⟩ := elemAt (enc := enc_api_Attr) (sz := 3) (xs := x_c.Attrs) 22 Tryd.underlying22 sz_31 (by decide) (fun _ => rfl) (hO.sees (i := 1) rfl) hx10
          refine op_val (ex_indexAddr hix10 hf rfl rfl) rfl hf rfl rfl fun a hf => ?_
          refine op_val (ex_field fa_31_0 hf rfl) rfl hf rfl rfl fun a hf => ?_
          refine op_val (ex_load1 (o := 0) ag_9 (hSx10 _ (hO.sees (i := 1) rfl)) rfl hf rfl) rfl hf rfl rfl fun a hf => ?_
          obtain ⟨r13, hr13, hm⟩ := ob hm
          refine op_enter (ex_call c_26 hf (vs := [str x10.Name]) rfl) rfl hf rfl rfl (w_ref01_Fold x10.Name r13 _ (hG.own hF hO) hr13) ?_
          rintro e w' ⟨he, hb⟩
          refine ⟨_, he, fun a hf => ?_⟩
          have hO := hO.grow hb
          refine op_val (ex_move hf rfl) rfl hf rfl rfl fun a hf => ?_
          obtain ⟨r14, hr14, hm⟩ := ob hm
          refine op_enter (ex_call c_26 hf (vs := [str x_name]) rfl) rfl hf rfl rfl (w_ref01_Fold x_name r14 _ (hG.own hF hO) hr14) ?_
          rintro e w' ⟨he, hb⟩
          refine ⟨_, he, fun a hf => ?_⟩
          have hO := hO.grow hb
          refine op_val (ex_eql_s (l := r13) (m := r14) hf rfl rfl) rfl hf rfl rfl fun a hf => ?_
          refine wpList_nil ?_
          refine nor_then (hK15 _ _ ?_)
          refine wp_cond_cut hf rfl (fun hc16 => ?_) (fun hc16 => ?_)
          · have hm := it hc16 hm
            refine wp_region_list ?_
            refine op_val (ex_move hf rfl) rfl hf rfl rfl fun a hf => ?_
            refine op_val (ex_assign hf rfl) rfl hf rfl rfl fun a hf => ?_
            refine wpList_nil ?_
            refine nor_block ?_
            refine nor_then ?_
            exact ⟨i6, (hf.cons rfl (hf.cons rfl (hf.cons rfl (hf.cons rfl hf.nil)))), hO, hm⟩
          · have hm := ie hc16 hm
            refine wp_skip ?_
            refine nor_block ?_
            refine nor_then ?_
            exact ⟨i5, (hf.cons rfl (hf.cons rfl (hf.cons rfl (hf.cons rfl hf.nil)))), hO, hm⟩
        · rintro a w ⟨i17, hf, hO, hm⟩
          rw [ref28_Place_j2] at hm
          refine wp_region_list ?_
          refine op_val (ex_move hf rfl) rfl hf rfl rfl fun a hf => ?_
          obtain ⟨i18, hi18, hm⟩ := ob hm
          refine op_val (ex_add hf rfl rfl hi18) rfl hf rfl rfl fun a hf => ?_
          refine op_val (ex_assign hf rfl) rfl hf rfl rfl fun a hf => ?_
          refine wpList_nil ?_
          refine nor_then ?_
          exact ⟨_, Nat.lt_succ_self _, i17, i18, (hf.cons rfl (hf.cons rfl (hf.cons rfl (hf.cons rfl hf.nil)))), hO, hm⟩
      · have hm := ie hc8 hm
        refine wp_exit ?_
        refine exit_then ?_
        refine exit_then ?_
        refine exit_here ?_
        refine nor_then (hK19 _ _ ?_)
        refine wp_seq_k fun _ hK20 => ?_
        refine wp_region_list ?_
        refine op_val (ex_move hf rfl) rfl hf rfl rfl fun a hf => ?_
        refine op_val (ex_assign hf rfl) rfl hf rfl rfl fun a hf => ?_
        refine wpList_nil ?_
        refine nor_then (hK20 _ _ ?_)
        refine wp_ret ?_
        obtain rfl := Option.some.inj hm
        exact post_ret Tryd.results10 hf (.tmp rfl .nil) ⟨rfl, hO.below⟩
  · exact ⟨(-1), 0, (hf.cons rfl (hf.cons rfl (hf.cons rfl (hf.cons rfl hf.nil)))), hO, hm⟩

set_option maxHeartbeats 1000000 in
theorem w_cookie_Set (x_c : api_Cookie) (x_name : Str) (x_value : Str) (R : api_Cookie) (w0 : World) (hG : Glob w0) {x_c_p0 : Option Addr} {x_c_c0 : Nat} (hs0 : Sees w0 x_c_p0 (cells enc_api_Attr x_c.Attrs)) (hc0 : x_c.Attrs.length ≤ x_c_c0) (hm : cookie_Set x_c x_name x_value = some R) :
    Calls Tryd.prog 11 #[.agg #[str x_c.Name, str x_c.Value, .slice x_c_p0 x_c.Attrs.length x_c_c0], str x_name, str x_value] w0 fun e w' => ∃ (p0 : Option Addr) (c0 : Nat), e = .returned (.agg #[str R.Name, str R.Value, .slice p0 R.Attrs.length c0]) ∧ Dk.Own w0 [] w' [.row (.slice p0 R.Attrs.length c0) 31 3 R.Attrs.length (cells enc_api_Attr R.Attrs)] := by
  rw [cookie_Set] at hm
  refine calls_enter (vs := [.agg #[str x_c.Name, str x_c.Value, .slice x_c_p0 x_c.Attrs.length x_c_c0], str x_name, str x_value]) Tryd.func11 rfl Tryd.ntmps11 rfl fun a hf => ?_
  have hF : Away [] := away_nil
  have hO : Dk.Own w0 [] w0 [] := Dk.Own.refl w0
  have hO := hO.addShr hs0 (by simp [Res.shared])
  refine wp_seq_k fun _ hK3 => ?_
  refine wp_region_list ?_
  refine op_box (v := .agg #[str x_c.Name, str x_c.Value, .slice x_c_p0 x_c.Attrs.length x_c_c0]) (cs := [str x_c.Name, str x_c.Value, .slice x_c_p0 x_c.Attrs.length x_c_c0]) rfl hf rfl rfl hO fun a b1 w hf hO => ?_
  refine op_alloc al_24 hf rfl hO fun a b2 w hf hO => ?_
  have hO := hO.nilRow 31 3
  refine wpList_nil ?_
  refine nor_then (hK3 _ _ ?_)
  refine wp_seq_k fun _ hK5 => ?_
  refine wp_region_list ?_
  refine op_val (ex_loadN (o := 0) (vs := [str x_c.Name, str x_c.Value, .slice x_c_p0 x_c.Attrs.length x_c_c0]) ag_24 sz_24 (hO.blkSees (i := 2) rfl) rfl rfl hf rfl) rfl hf rfl rfl fun a hf => ?_
  refine op_val (ex_move hf rfl) rfl hf rfl rfl fun a hf => ?_
  obtain ⟨r4, hr4, hm⟩ := ob hm
  refine op_enter (ex_call c_25 hf (vs := [.agg #[str x_c.Name, str x_c.Value, .slice x_c_p0 x_c.Attrs.length x_c_c0], str x_name]) rfl) rfl hf rfl rfl (w_cookie_last x_c x_name r4 _ (hG.own hF hO) (hO.sees (i := 3) rfl) hc0 hr4) ?_
  rintro e w' ⟨he, hb⟩
  refine ⟨_, he, fun a hf => ?_⟩
  have hO := hO.grow hb
  refine op_val (ex_assign hf rfl) rfl hf rfl rfl fun a hf => ?_
  refine wpList_nil ?_
  refine nor_then (hK5 _ _ ?_)
  refine wp_seq_k fun _ hK7 => ?_
  refine wp_region_list ?_
  refine op_val (ex_field fa_24_0 hf rfl) rfl hf rfl rfl fun a hf => ?_
  refine op_val (ex_load1 (o := 0) ag_9 (hO.blkSees (i := 2) rfl) rfl hf rfl) rfl hf rfl rfl fun a hf => ?_
  refine op_val (ex_field fa_24_1 hf rfl) rfl hf rfl rfl fun a hf => ?_
  refine op_val (ex_load1 (o := 1) ag_9 (hO.blkSees (i := 2) rfl) rfl hf rfl) rfl hf rfl rfl fun a hf => ?_
  refine op_val (ex_build (vs := [(0, str x_c.Name), (1, str x_c.Value)]) (v := .agg #[str x_c.Name, str x_c.Value, .slice none 0 0]) hf rfl (by kernel_rfl)) rfl hf rfl rfl fun a hf => ?_
  refine op_alloc al_24 hf rfl hO fun a b6 w hf hO => ?_
  have hO := hO.nilRow 31 3
  refine op_storeN (i := 1) (n := 3) sz_24 rfl rfl rfl (by simp [Value.oneCell']) hf rfl rfl hO fun w hO => ?_
  have hO := hO.nilRow 31 3
  refine wpList_nil ?_
  refine nor_then (hK7 _ _ ?_)
  refine wp_seq_cut (fun a w => ∃ (p38 : Option Addr) (c39 : Nat) (l40 : List api_Attr) (s41 : Str) (s42 : Str), Fits 55 [(1, str x_name), (2, str x_value), (6, ptr b2 0), (7, int r4), (8, ptr b6 0)] a ∧ Dk.Own w0 [] w [.row (.slice p38 l40.length c39) 31 3 l40.length (cells enc_api_Attr l40), .row (.slice none 0 0) 31 3 0 (cells enc_api_Attr []), .blk b6 [str s41, str s42, .slice p38 l40.length c39] 24, .row (.slice none 0 0) 31 3 0 (cells enc_api_Attr []), .blk b2 [str [], str [], .slice none 0 0] 24, .blk b1 [str x_c.Name, str x_c.Value, .slice x_c_p0 x_c.Attrs.length x_c_c0] 24, .shr x_c_p0 (cells enc_api_Attr x_c.Attrs)] ∧ cookie_Set_j4 x_name x_value r4 l40 s41 s42 = some R) ?_ ?_
  · refine wp_seq_k fun _ hK8 => ?_
    refine wp_region_list ?_
    refine op_val (ex_field fa_24_2 hf rfl) rfl hf rfl rfl fun a hf => ?_
    refine op_val (ex_load1 (o := 2) ag_22 (hO.blkSees (i := 5) rfl) rfl hf rfl) rfl hf rfl rfl fun a hf => ?_
    refine op_val (ex_len_l Tryd.underlying22 hf rfl) rfl hf rfl rfl fun a hf => ?_
    refine op_val (ex_move hf rfl) rfl hf rfl rfl fun a hf => ?_
    refine wpList_nil ?_
    refine nor_then (hK8 _ _ ?_)
    refine wp_block ?_
    refine wp_loop_n (fun k a w => ∃ (p9 : Option Addr) (c10 : Nat) (l11 : List api_Attr) (s12 : Str) (s13 : Str) (i14 : Int), Fits 55 [(1, str x_name), (2, str x_value), (6, ptr b2 0), (7, int r4), (8, ptr b6 0), (20, .slice x_c_p0 x_c.Attrs.length x_c_c0), (21, int (x_c.Attrs.length : Int)), (22, int i14)] a ∧ Dk.Own w0 [] w [.row (.slice p9 l11.length c10) 31 3 l11.length (cells enc_api_Attr l11), .row (.slice none 0 0) 31 3 0 (cells enc_api_Attr []), .blk b6 [str s12, str s13, .slice p9 l11.length c10] 24, .row (.slice none 0 0) 31 3 0 (cells enc_api_Attr []), .blk b2 [str [], str [], .slice none 0 0] 24, .blk b1 [str x_c.Name, str x_c.Value, .slice x_c_p0 x_c.Attrs.length x_c_c0] 24, .shr x_c_p0 (cells enc_api_Attr x_c.Attrs)] ∧ cookie_Set_L1 x_c x_name x_value r4 k l11 s12 s13 i14 = some R) ?_ fuel ?_
    · rintro n1 a w ⟨p9, c10, l11, s12, s13, i14, hf, hO, hm⟩
      obtain _ | n1 := n1
      · rw [cookie_Set_L1] at hm
        cases hm
      · rw [cookie_Set_L1] at hm
        refine wp_seq_k fun _ hK15 => ?_
        refine wp_region_list ?_
        refine op_val (ex_lss (m := i14) (n := (x_c.Attrs.length : Int)) hf rfl rfl) rfl hf rfl rfl fun a hf => ?_
        refine wpList_nil ?_
        refine nor_then (hK15 _ _ ?_)
        refine wp_seq_k fun _ hK17 => ?_
        refine wp_cond_cut hf rfl (fun hc16 => ?_) (fun hc16 => ?_)
        · have hm := it hc16 hm
          refine wp_skip ?_
          refine nor_then (hK17 _ _ ?_)
          refine wp_seq_cut (fun a w => ∃ (p34 : Option Addr) (c35 : Nat) (l36 : List api_Attr), Fits 55 [(1, str x_name), (2, str x_value), (6, ptr b2 0), (7, int r4), (8, ptr b6 0), (20, .slice x_c_p0 x_c.Attrs.length x_c_c0), (21, int (x_c.Attrs.length : Int)), (22, int i14)] a ∧ Dk.Own w0 [] w [.row (.slice p34 l36.length c35) 31 3 l36.length (cells enc_api_Attr l36), .row (.slice none 0 0) 31 3 0 (cells enc_api_Attr []), .blk b6 [str s12, str s13, .slice p34 l36.length c35] 24, .row (.slice none 0 0) 31 3 0 (cells enc_api_Attr []), .blk b2 [str [], str [], .slice none 0 0] 24, .blk b1 [str x_c.Name, str x_c.Value, .slice x_c_p0 x_c.Attrs.length x_c_c0] 24, .shr x_c_p0 (cells enc_api_Attr x_c.Attrs)] ∧ cookie_Set_j3 (cookie_Set_L1 x_c x_name x_value r4 n1) s12 s13 i14 l36 = some R) ?_ ?_
          · refine wp_block ?_
            refine wp_seq_k fun _ hK22 => ?_
            refine wp_region_list ?_
            refine op_val (ex_move hf rfl) rfl hf rfl rfl fun a hf => ?_
            obtain ⟨x18, hx18, hm⟩ := ob hm
            obtain ⟨b19, o20, hix18, hSx18⟩ := elemAt (enc := enc_api_Attr) (sz := 3) (xs := x_c.Attrs) 22 Tryd.underlying22 sz_31 (by decide) (fun _ => rfl) (hO.sees (i := 6) rfl) hx18
            refine op_val (ex_indexAddr hix18 hf rfl rfl) rfl hf rfl rfl fun a hf => ?_
            refine op_val (ex_loadN (o := 0) (vs := [str x18.Name, str x18.Value, .bool x18.Has]) ag_31 sz_31 (hSx18 _ (hO.sees (i := 6) rfl)) rfl rfl hf rfl) rfl hf rfl rfl fun a hf => ?_
            refine op_alloc al_31 hf rfl hO fun a b21 w hf hO => ?_
            refine op_val (ex_assign hf rfl) rfl hf rfl rfl fun a hf => ?_
            refine op_storeN (i := 0) (n := 3) sz_31 rfl rfl rfl (by simp [Value.oneCell']) hf rfl rfl hO fun w hO => ?_
            refine wpList_nil ?_
            refine nor_then (hK22 _ _ ?_)
            refine wp_seq_cut (fun a w => ∃ (s28 : Str) (t29 : Bool), Fits 55 [(1, str x_name), (2, str x_value), (6, ptr b2 0), (7, int r4), (8, ptr b6 0), (10, ptr b21 0), (20, .slice x_c_p0 x_c.Attrs.length x_c_c0), (21, int (x_c.Attrs.length : Int)), (22, int i14)] a ∧ Dk.Own w0 [] w [.blk b21 [str x18.Name, str s28, .bool t29] 31, .row (.slice p9 l11.length c10) 31 3 l11.length (cells enc_api_Attr l11), .row (.slice none 0 0) 31 3 0 (cells enc_api_Attr []), .blk b6 [str s12, str s13, .slice p9 l11.length c10] 24, .row (.slice none 0 0) 31 3 0 (cells enc_api_Attr []), .blk b2 [str [], str [], .slice none 0 0] 24, .blk b1 [str x_c.Name, str x_c.Value, .slice x_c_p0 x_c.Attrs.length x_c_c0] 24, .shr x_c_p0 (cells enc_api_Attr x_c.Attrs)] ∧ cookie_Set_j2 (cookie_Set_L1 x_c x_name x_value r4 n1) l11 s12 s13 i14 x18 s28 t29 = some R) ?_ ?_
            · refine wp_seq_k fun _ hK23 => ?_
              refine wp_region_list ?_
              refine op_val (ex_move hf rfl) rfl hf rfl rfl fun a hf => ?_
              refine op_val (ex_move hf rfl) rfl hf rfl rfl fun a hf => ?_
              refine op_val (ex_eql (m := i14) (n := r4) hf rfl rfl) rfl hf rfl rfl fun a hf => ?_
              refine wpList_nil ?_
              refine nor_then (hK23 _ _ ?_)
              refine wp_cond_cut hf rfl (fun hc24 => ?_) (fun hc24 => ?_)
              · have hm := it hc24 hm
                refine wp_region_list ?_
                refine op_val (ex_move hf rfl) rfl hf rfl rfl fun a hf => ?_
                refine op_val (ex_field fa_31_1 hf rfl) rfl hf rfl rfl fun a hf => ?_
                refine op_store1 (i := 0) (o := 1) (v := str x_value) sz_9 rfl rfl rfl rfl hf rfl rfl hO fun w hO => ?_
                refine op_val (ex_field fa_31_2 hf rfl) rfl hf rfl rfl fun a hf => ?_
                refine op_store1 (i := 0) (o := 2) (v := .bool true) sz_4 rfl rfl rfl rfl hf rfl rfl hO fun w hO => ?_
                refine wpList_nil ?_
                refine nor_then ?_
                exact ⟨x_value, true, (hf.cons rfl (hf.cons rfl (hf.cons rfl (hf.cons rfl (hf.cons rfl (hf.cons rfl (hf.cons rfl (hf.cons rfl (hf.cons rfl hf.nil))))))))), hO, hm⟩
              · have hm := ie hc24 hm
                refine wp_seq_k fun _ hK26 => ?_
                refine wp_region_list ?_
                refine op_val (ex_field fa_31_0 hf rfl) rfl hf rfl rfl fun a hf => ?_
                refine op_val (ex_load1 (o := 0) ag_9 (hO.blkSees (i := 0) rfl) rfl hf rfl) rfl hf rfl rfl fun a hf => ?_
                refine op_val (ex_move hf rfl) rfl hf rfl rfl fun a hf => ?_
                obtain ⟨r25, hr25, hm⟩ := ob hm
                refine op_enter (ex_call c_27 hf (vs := [str x18.Name, str x_name]) rfl) rfl hf rfl rfl (w_octet_Same x18.Name x_name r25 _ (hG.own hF hO) hr25) ?_
                rintro e w' ⟨he, hb⟩
                refine ⟨_, he, fun a hf => ?_⟩
                have hO := hO.grow hb
                refine wpList_nil ?_
                refine nor_then (hK26 _ _ ?_)
                refine wp_cond_cut hf rfl (fun hc27 => ?_) (fun hc27 => ?_)
                · have hm := it hc27 hm
                  refine wp_exit ?_
                  refine exit_then ?_
                  refine exit_here ?_
                  refine nor_then ?_
                  exact ⟨p9, c10, l11, (hf.cons rfl (hf.cons rfl (hf.cons rfl (hf.cons rfl (hf.cons rfl (hf.cons rfl (hf.cons rfl (hf.cons rfl hf.nil)))))))), (hO.sub (.cons _ (.cons_cons _ (.cons_cons _ (.cons_cons _ (.cons_cons _ (.cons_cons _ (.cons_cons _ (.cons_cons _ .slnil))))))))), hm⟩
                · have hm := ie hc27 hm
                  refine wp_skip ?_
                  refine nor_then ?_
                  exact ⟨x18.Value, x18.Has, (hf.cons rfl (hf.cons rfl (hf.cons rfl (hf.cons rfl (hf.cons rfl (hf.cons rfl (hf.cons rfl (hf.cons rfl (hf.cons rfl hf.nil))))))))), hO, hm⟩
            · rintro a w ⟨s28, t29, hf, hO, hm⟩
              rw [cookie_Set_j2] at hm
              refine wp_region_list ?_
              refine op_val (ex_field fa_24_2 hf rfl) rfl hf rfl rfl fun a hf => ?_
              refine op_val (ex_load1 (o := 2) ag_22 (hO.blkSees (i := 3) rfl) rfl hf rfl) rfl hf rfl rfl fun a hf => ?_
              refine op_val (ex_loadN (o := 0) (vs := [str x18.Name, str s28, .bool t29]) ag_31 sz_31 (hO.blkSees (i := 0) rfl) rfl rfl hf rfl) rfl hf rfl rfl fun a hf => ?_
              refine op_buildSlice (vs := [(0, .agg #[str x18.Name, str s28, .bool t29])]) (cs := [str x18.Name, str s28, .bool t29]) (e := 31) (sz := 3) hf rfl rfl (fun w => by kernel_rfl) rfl rfl hO fun a b30 w hf hO => ?_
              obtain ⟨hg33, hm⟩ := og hm
              refine op_appendT el_22 (enc := enc_api_Attr) (xs := l11) (ys := [(⟨x18.Name, s28, t29⟩ : api_Attr)]) (i := 2) (fun _ => rfl) rfl (hO.rowSees (i := 0) rfl) (by simp [cells, enc_api_Attr, Value.oneCell']) hg33 hf rfl rfl rfl hO fun a p31 c32 w hf hO => ?_
              refine op_val (ex_field fa_24_2 hf rfl) rfl hf rfl rfl fun a hf => ?_
              refine op_store1 (i := 4) (o := 2) (v := .slice p31 ((l11 ++ [(⟨x18.Name, s28, t29⟩ : api_Attr)]).length) c32) sz_22 rfl rfl rfl rfl hf rfl rfl hO fun w hO => ?_
              refine wpList_nil ?_
              refine nor_block ?_
              refine nor_then ?_
              exact ⟨p31, c32, l11 ++ [(⟨x18.Name, s28, t29⟩ : api_Attr)], (hf.cons rfl (hf.cons rfl (hf.cons rfl (hf.cons rfl (hf.cons rfl (hf.cons rfl (hf.cons rfl (hf.cons rfl hf.nil)))))))), (hO.sub (.cons _ (.cons _ (.cons_cons _ (.cons_cons _ (.cons_cons _ (.cons_cons _ (.cons_cons _ (.cons_cons _ (.cons_cons _ .slnil)))))))))), hm⟩
          · rintro a w ⟨p34, c35, l36, hf, hO, hm⟩
            rw [cookie_Set_j3] at hm
            refine wp_region_list ?_
            obtain ⟨i37, hi37, hm⟩ := ob hm
            refine op_val (ex_add hf rfl rfl hi37) rfl hf rfl rfl fun a hf => ?_
            refine op_val (ex_move hf rfl) rfl hf rfl rfl fun a hf => ?_
            refine wpList_nil ?_
            refine nor_then ?_
            exact ⟨_, Nat.lt_succ_self _, p34, c35, l36, s12, s13, i37, (hf.cons rfl (hf.cons rfl (hf.cons rfl (hf.cons rfl (hf.cons rfl (hf.cons rfl (hf.cons rfl (hf.cons rfl hf.nil)))))))), hO, hm⟩
        · have hm := ie hc16 hm
          refine wp_exit ?_
          refine exit_then ?_
          refine exit_then ?_
          refine exit_here ?_
          refine nor_then ?_
          exact ⟨p9, c10, l11, s12, s13, (hf.cons rfl (hf.cons rfl (hf.cons rfl (hf.cons rfl (hf.cons rfl hf.nil))))), hO, hm⟩
    · exact ⟨none, 0, [], x_c.Name, x_c.Value, 0, (hf.cons rfl (hf.cons rfl (hf.cons rfl (hf.cons rfl (hf.cons rfl (hf.cons rfl (hf.cons rfl (hf.cons rfl hf.nil)))))))), hO, hm⟩
  · rintro a w ⟨p38, c39, l40, s41, s42, hf, hO, hm⟩
    rw [cookie_Set_j4] at hm
    refine wp_seq_cut (fun a w => ∃ (p49 : Option Addr) (c50 : Nat) (l51 : List api_Attr), Fits 55 [(6, ptr b2 0), (8, ptr b6 0)] a ∧ Dk.Own w0 [] w [.row (.slice p49 l51.length c50) 31 3 l51.length (cells enc_api_Attr l51), .row (.slice none 0 0) 31 3 0 (cells enc_api_Attr []), .blk b6 [str s41, str s42, .slice p49 l51.length c50] 24, .row (.slice none 0 0) 31 3 0 (cells enc_api_Attr []), .blk b2 [str [], str [], .slice none 0 0] 24, .blk b1 [str x_c.Name, str x_c.Value, .slice x_c_p0 x_c.Attrs.length x_c_c0] 24, .shr x_c_p0 (cells enc_api_Attr x_c.Attrs)] ∧ cookie_Set_j5 s41 s42 l51 = some R) ?_ ?_
    · refine wp_seq_k fun _ hK43 => ?_
      refine wp_region_list ?_
      refine op_val (ex_move hf rfl) rfl hf rfl rfl fun a hf => ?_
      refine op_val (ex_lss (m := r4) (n := 0) hf rfl rfl) rfl hf rfl rfl fun a hf => ?_
      refine wpList_nil ?_
      refine nor_then (hK43 _ _ ?_)
      refine wp_cond_cut hf rfl (fun hc44 => ?_) (fun hc44 => ?_)
      · have hm := it hc44 hm
        refine wp_region_list ?_
        refine op_val (ex_field fa_24_2 hf rfl) rfl hf rfl rfl fun a hf => ?_
        refine op_val (ex_load1 (o := 2) ag_22 (hO.blkSees (i := 2) rfl) rfl hf rfl) rfl hf rfl rfl fun a hf => ?_
        refine op_val (ex_move hf rfl) rfl hf rfl rfl fun a hf => ?_
        refine op_val (ex_move hf rfl) rfl hf rfl rfl fun a hf => ?_
        refine op_val (ex_build (vs := [(0, str x_name), (1, str x_value), (2, .bool true)]) (v := .agg #[str x_name, str x_value, .bool true]) hf rfl (by kernel_rfl)) rfl hf rfl rfl fun a hf => ?_
        refine op_buildSlice (vs := [(0, .agg #[str x_name, str x_value, .bool true])]) (cs := [str x_name, str x_value, .bool true]) (e := 31) (sz := 3) hf rfl rfl (fun w => by kernel_rfl) rfl rfl hO fun a b45 w hf hO => ?_
        obtain ⟨hg48, hm⟩ := og hm
        refine op_appendT el_22 (enc := enc_api_Attr) (xs := l40) (ys := [(⟨x_name, x_value, true⟩ : api_Attr)]) (i := 1) (fun _ => rfl) rfl (hO.rowSees (i := 0) rfl) (by simp [cells, enc_api_Attr, Value.oneCell']) hg48 hf rfl rfl rfl hO fun a p46 c47 w hf hO => ?_
        refine op_val (ex_field fa_24_2 hf rfl) rfl hf rfl rfl fun a hf => ?_
        refine op_store1 (i := 3) (o := 2) (v := .slice p46 ((l40 ++ [(⟨x_name, x_value, true⟩ : api_Attr)]).length) c47) sz_22 rfl rfl rfl rfl hf rfl rfl hO fun w hO => ?_
        refine wpList_nil ?_
        refine nor_then ?_
        exact ⟨p46, c47, l40 ++ [(⟨x_name, x_value, true⟩ : api_Attr)], (hf.cons rfl (hf.cons rfl hf.nil)), (hO.sub (.cons _ (.cons_cons _ (.cons_cons _ (.cons_cons _ (.cons_cons _ (.cons_cons _ (.cons_cons _ (.cons_cons _ .slnil))))))))), hm⟩
      · have hm := ie hc44 hm
        refine wp_skip ?_
        refine nor_then ?_
        exact ⟨p38, c39, l40, (hf.cons rfl (hf.cons rfl hf.nil)), hO, hm⟩
    · rintro a w ⟨p49, c50, l51, hf, hO, hm⟩
      rw [cookie_Set_j5] at hm
      refine wp_seq_k fun _ hK52 => ?_
      refine wp_region_list ?_
      refine op_val (ex_loadN (o := 0) (vs := [str s41, str s42, .slice p49 l51.length c50]) ag_24 sz_24 (hO.blkSees (i := 2) rfl) rfl rfl hf rfl) rfl hf rfl rfl fun a hf => ?_
      refine op_storeN (i := 4) (n := 3) sz_24 rfl rfl rfl (by simp [Value.oneCell']) hf rfl rfl hO fun w hO => ?_
      refine wpList_nil ?_
      refine nor_then (hK52 _ _ ?_)
      refine wp_ret ?_
      obtain rfl := Option.some.inj hm
      exact post_ret Tryd.results11 hf (.cell rfl (run_loadVarN (n := 3) (vs := [str s41, str s42, .slice p49 l51.length c50]) ag_24 sz_24 rfl ((hO.blkSees (i := 4) rfl).cells (o := 0) (n := 3) rfl)) .nil) ⟨p49, c50, rfl, (hO.sub (.cons_cons _ (.cons _ (.cons _ (.cons _ (.cons _ (.cons _ (.cons _ .slnil))))))))⟩

set_option maxHeartbeats 1000000 in
theorem w_ref28_Set (x_a0 : api_Cookie) (x_a1 : Str) (x_a2 : Str) (R : api_Cookie) (w0 : World) (hG : Glob w0) {x_a0_p0 : Option Addr} {x_a0_c0 : Nat} (hs0 : Sees w0 x_a0_p0 (cells enc_api_Attr x_a0.Attrs)) (hc0 : x_a0.Attrs.length ≤ x_a0_c0) (hm : ref28_Set x_a0 x_a1 x_a2 = some R) :
    Calls Tryd.prog 13 #[.agg #[str x_a0.Name, str x_a0.Value, .slice x_a0_p0 x_a0.Attrs.length x_a0_c0], str x_a1, str x_a2] w0 fun e w' => ∃ (p0 : Option Addr) (c0 : Nat), e = .returned (.agg #[str R.Name, str R.Value, .slice p0 R.Attrs.length c0]) ∧ Dk.Own w0 [] w' [.row (.slice p0 R.Attrs.length c0) 31 3 R.Attrs.length (cells enc_api_Attr R.Attrs)] := by
  rw [ref28_Set] at hm
  refine calls_enter (vs := [.agg #[str x_a0.Name, str x_a0.Value, .slice x_a0_p0 x_a0.Attrs.length x_a0_c0], str x_a1, str x_a2]) Tryd.func13 rfl Tryd.ntmps13 rfl fun a hf => ?_
  have hF : Away [] := away_nil
  have hO : Dk.Own w0 [] w0 [] := Dk.Own.refl w0
  have hO := hO.addShr hs0 (by simp [Res.shared])
  refine wp_seq_k fun _ hK3 => ?_
  refine wp_region_list ?_
  refine op_box (v := .agg #[str x_a0.Name, str x_a0.Value, .slice x_a0_p0 x_a0.Attrs.length x_a0_c0]) (cs := [str x_a0.Name, str x_a0.Value, .slice x_a0_p0 x_a0.Attrs.length x_a0_c0]) rfl hf rfl rfl hO fun a b1 w hf hO => ?_
  refine op_alloc al_24 hf rfl hO fun a b2 w hf hO => ?_
  have hO := hO.nilRow 31 3
  refine wpList_nil ?_
  refine nor_then (hK3 _ _ ?_)
  refine wp_seq_k fun _ hK5 => ?_
  refine wp_region_list ?_
  refine op_val (ex_loadN (o := 0) (vs := [str x_a0.Name, str x_a0.Value, .slice x_a0_p0 x_a0.Attrs.length x_a0_c0]) ag_24 sz_24 (hO.blkSees (i := 2) rfl) rfl rfl hf rfl) rfl hf rfl rfl fun a hf => ?_
  refine op_val (ex_move hf rfl) rfl hf rfl rfl fun a hf => ?_
  obtain ⟨r4, hr4, hm⟩ := ob hm
  refine op_enter (ex_call c_10 hf (vs := [.agg #[str x_a0.Name, str x_a0.Value, .slice x_a0_p0 x_a0.Attrs.length x_a0_c0], str x_a1]) rfl) rfl hf rfl rfl (w_ref28_Place x_a0 x_a1 r4 _ (hG.own hF hO) (hO.sees (i := 3) rfl) hc0 hr4) ?_
  rintro e w' ⟨he, hb⟩
  refine ⟨_, he, fun a hf => ?_⟩
  have hO := hO.grow hb
  refine op_val (ex_assign hf rfl) rfl hf rfl rfl fun a hf => ?_
  refine wpList_nil ?_
  refine nor_then (hK5 _ _ ?_)
  refine wp_seq_k fun _ hK7 => ?_
  refine wp_region_list ?_
  refine op_val (ex_field fa_24_0 hf rfl) rfl hf rfl rfl fun a hf => ?_
  refine op_val (ex_load1 (o := 0) ag_9 (hO.blkSees (i := 2) rfl) rfl hf rfl) rfl hf rfl rfl fun a hf => ?_
  refine op_val (ex_field fa_24_1 hf rfl) rfl hf rfl rfl fun a hf => ?_
  refine op_val (ex_load1 (o := 1) ag_9 (hO.blkSees (i := 2) rfl) rfl hf rfl) rfl hf rfl rfl fun a hf => ?_
  refine op_val (ex_build (vs := [(0, str x_a0.Name), (1, str x_a0.Value)]) (v := .agg #[str x_a0.Name, str x_a0.Value, .slice none 0 0]) hf rfl (by kernel_rfl)) rfl hf rfl rfl fun a hf => ?_
  refine op_alloc al_24 hf rfl hO fun a b6 w hf hO => ?_
  have hO := hO.nilRow 31 3
  refine op_storeN (i := 1) (n := 3) sz_24 rfl rfl rfl (by simp [Value.oneCell']) hf rfl rfl hO fun w hO => ?_
  have hO := hO.nilRow 31 3
  refine wpList_nil ?_
  refine nor_then (hK7 _ _ ?_)
  refine wp_seq_cut (fun a w => ∃ (p41 : Option Addr) (c42 : Nat) (l43 : List api_Attr) (s44 : Str) (s45 : Str), Fits 66 [(1, str x_a1), (2, str x_a2), (6, ptr b2 0), (7, int r4), (8, ptr b6 0)] a ∧ Dk.Own w0 [] w [.row (.slice p41 l43.length c42) 31 3 l43.length (cells enc_api_Attr l43), .row (.slice none 0 0) 31 3 0 (cells enc_api_Attr []), .blk b6 [str s44, str s45, .slice p41 l43.length c42] 24, .row (.slice none 0 0) 31 3 0 (cells enc_api_Attr []), .blk b2 [str [], str [], .slice none 0 0] 24, .blk b1 [str x_a0.Name, str x_a0.Value, .slice x_a0_p0 x_a0.Attrs.length x_a0_c0] 24, .shr x_a0_p0 (cells enc_api_Attr x_a0.Attrs)] ∧ ref28_Set_j3 x_a1 x_a2 r4 l43 s44 s45 = some R) ?_ ?_
  · refine wp_seq_k fun _ hK8 => ?_
    refine wp_region_list ?_
    refine op_val (ex_assign hf rfl) rfl hf rfl rfl fun a hf => ?_
    refine wpList_nil ?_
    refine nor_then (hK8 _ _ ?_)
    refine wp_block ?_
    refine wp_loop_n (fun k a w => ∃ (p9 : Option Addr) (c10 : Nat) (l11 : List api_Attr) (s12 : Str) (s13 : Str) (i14 : Int), Fits 66 [(1, str x_a1), (2, str x_a2), (3, ptr b1 0), (6, ptr b2 0), (7, int r4), (8, ptr b6 0), (9, int i14)] a ∧ Dk.Own w0 [] w [.row (.slice p9 l11.length c10) 31 3 l11.length (cells enc_api_Attr l11), .row (.slice none 0 0) 31 3 0 (cells enc_api_Attr []), .blk b6 [str s12, str s13, .slice p9 l11.length c10] 24, .row (.slice none 0 0) 31 3 0 (cells enc_api_Attr []), .blk b2 [str [], str [], .slice none 0 0] 24, .blk b1 [str x_a0.Name, str x_a0.Value, .slice x_a0_p0 x_a0.Attrs.length x_a0_c0] 24, .shr x_a0_p0 (cells enc_api_Attr x_a0.Attrs)] ∧ ref28_Set_L1 x_a0 x_a1 x_a2 r4 k l11 s12 s13 i14 = some R) ?_ fuel ?_
    · rintro n1 a w ⟨p9, c10, l11, s12, s13, i14, hf, hO, hm⟩
      obtain _ | n1 := n1
      · rw [ref28_Set_L1] at hm
        cases hm
      · rw [ref28_Set_L1] at hm
        refine wp_seq_k fun _ hK17 => ?_
        refine wp_seq_k fun _ hK15 => ?_
        refine wp_region_list ?_
        refine op_val (ex_move hf rfl) rfl hf rfl rfl fun a hf => ?_
        refine op_val (ex_field fa_24_2 hf rfl) rfl hf rfl rfl fun a hf => ?_
        refine op_val (ex_load1 (o := 2) ag_22 (hO.blkSees (i := 5) rfl) rfl hf rfl) rfl hf rfl rfl fun a hf => ?_
        refine op_val (ex_len_l Tryd.underlying22 hf rfl) rfl hf rfl rfl fun a hf => ?_
        refine op_val (ex_lss (m := i14) (n := (x_a0.Attrs.length : Int)) hf rfl rfl) rfl hf rfl rfl fun a hf => ?_
        refine wpList_nil ?_
        refine nor_then (hK15 _ _ ?_)
        refine wp_cond_cut hf rfl (fun hc16 => ?_) (fun hc16 => ?_)
        · have hm := it hc16 hm
          refine wp_skip ?_
          refine nor_then (hK17 _ _ ?_)
          refine wp_seq_cut (fun a w => ∃ (p37 : Option Addr) (c38 : Nat) (l39 : List api_Attr), Fits 66 [(1, str x_a1), (2, str x_a2), (3, ptr b1 0), (6, ptr b2 0), (7, int r4), (8, ptr b6 0), (9, int i14)] a ∧ Dk.Own w0 [] w [.row (.slice p37 l39.length c38) 31 3 l39.length (cells enc_api_Attr l39), .row (.slice none 0 0) 31 3 0 (cells enc_api_Attr []), .blk b6 [str s12, str s13, .slice p37 l39.length c38] 24, .row (.slice none 0 0) 31 3 0 (cells enc_api_Attr []), .blk b2 [str [], str [], .slice none 0 0] 24, .blk b1 [str x_a0.Name, str x_a0.Value, .slice x_a0_p0 x_a0.Attrs.length x_a0_c0] 24, .shr x_a0_p0 (cells enc_api_Attr x_a0.Attrs)] ∧ ref28_Set_j2 (ref28_Set_L1 x_a0 x_a1 x_a2 r4 n1) s12 s13 i14 l39 = some R) ?_ ?_
          · refine wp_block ?_
            refine wp_seq_k fun _ hK22 => ?_
            refine wp_region_list ?_
            refine op_val (ex_field fa_24_2 hf rfl) rfl hf rfl rfl fun a hf => ?_
            refine op_val (ex_load1 (o := 2) ag_22 (hO.blkSees (i := 5) rfl) rfl hf rfl) rfl hf rfl rfl fun a hf => ?_
            refine op_val (ex_move hf rfl) rfl hf rfl rfl fun a hf => ?_
            obtain ⟨x18, hx18, hm⟩ := ob hm
            obtain ⟨b19, o20, hix18, hSx18⟩ := elemAt (enc := enc_api_Attr) (sz := 3) (xs := x_a0.Attrs) 22 Tryd.underlying22 sz_31 (by decide) (fun _ => rfl) (hO.sees (i := 6) rfl) hx18
            refine op_val (ex_indexAddr hix18 hf rfl rfl) rfl hf rfl rfl fun a hf => ?_
            refine op_val (ex_loadN (o := 0) (vs := [str x18.Name, str x18.Value, .bool x18.Has]) ag_31 sz_31 (hSx18 _ (hO.sees (i := 6) rfl)) rfl rfl hf rfl) rfl hf rfl rfl fun a hf => ?_
            refine op_alloc al_31 hf rfl hO fun a b21 w hf hO => ?_
            refine op_storeN (i := 0) (n := 3) sz_31 rfl rfl rfl (by simp [Value.oneCell']) hf rfl rfl hO fun w hO => ?_
            refine wpList_nil ?_
            refine nor_then (hK22 _ _ ?_)
            refine wp_seq_k fun _ hK23 => ?_
            refine wp_region_list ?_
            refine op_val (ex_move hf rfl) rfl hf rfl rfl fun a hf => ?_
            refine op_val (ex_move hf rfl) rfl hf rfl rfl fun a hf => ?_
            refine op_val (ex_eql (m := i14) (n := r4) hf rfl rfl) rfl hf rfl rfl fun a hf => ?_
            refine wpList_nil ?_
            refine nor_then (hK23 _ _ ?_)
            refine wp_cond_cut hf rfl (fun hc24 => ?_) (fun hc24 => ?_)
            · have hm := it hc24 hm
              refine wp_region_list ?_
              refine op_val (ex_field fa_24_2 hf rfl) rfl hf rfl rfl fun a hf => ?_
              refine op_val (ex_load1 (o := 2) ag_22 (hO.blkSees (i := 3) rfl) rfl hf rfl) rfl hf rfl rfl fun a hf => ?_
              refine op_val (ex_field fa_31_0 hf rfl) rfl hf rfl rfl fun a hf => ?_
              refine op_val (ex_load1 (o := 0) ag_9 (hO.blkSees (i := 0) rfl) rfl hf rfl) rfl hf rfl rfl fun a hf => ?_
              refine op_val (ex_move hf rfl) rfl hf rfl rfl fun a hf => ?_
              refine op_val (ex_build (vs := [(0, str x18.Name), (1, str x_a2), (2, .bool true)]) (v := .agg #[str x18.Name, str x_a2, .bool true]) hf rfl (by kernel_rfl)) rfl hf rfl rfl fun a hf => ?_
              refine op_buildSlice (vs := [(0, .agg #[str x18.Name, str x_a2, .bool true])]) (cs := [str x18.Name, str x_a2, .bool true]) (e := 31) (sz := 3) hf rfl rfl (fun w => by kernel_rfl) rfl rfl hO fun a b25 w hf hO => ?_
              obtain ⟨hg28, hm⟩ := og hm
              refine op_appendT el_22 (enc := enc_api_Attr) (xs := l11) (ys := [(⟨x18.Name, x_a2, true⟩ : api_Attr)]) (i := 2) (fun _ => rfl) rfl (hO.rowSees (i := 0) rfl) (by simp [cells, enc_api_Attr, Value.oneCell']) hg28 hf rfl rfl rfl hO fun a p26 c27 w hf hO => ?_
              refine op_val (ex_field fa_24_2 hf rfl) rfl hf rfl rfl fun a hf => ?_
              refine op_store1 (i := 4) (o := 2) (v := .slice p26 ((l11 ++ [(⟨x18.Name, x_a2, true⟩ : api_Attr)]).length) c27) sz_22 rfl rfl rfl rfl hf rfl rfl hO fun w hO => ?_
              refine wpList_nil ?_
              refine nor_block ?_
              refine nor_then ?_
              exact ⟨p26, c27, l11 ++ [(⟨x18.Name, x_a2, true⟩ : api_Attr)], (hf.cons rfl (hf.cons rfl (hf.cons rfl (hf.cons rfl (hf.cons rfl (hf.cons rfl (hf.cons rfl hf.nil))))))), (hO.sub (.cons _ (.cons _ (.cons_cons _ (.cons_cons _ (.cons_cons _ (.cons_cons _ (.cons_cons _ (.cons_cons _ (.cons_cons _ .slnil)))))))))), hm⟩
            · have hm := ie hc24 hm
              refine wp_seq_k fun _ hK31 => ?_
              refine wp_region_list ?_
              refine op_val (ex_field fa_31_0 hf rfl) rfl hf rfl rfl fun a hf => ?_
              refine op_val (ex_load1 (o := 0) ag_9 (hO.blkSees (i := 0) rfl) rfl hf rfl) rfl hf rfl rfl fun a hf => ?_
              obtain ⟨r29, hr29, hm⟩ := ob hm
              refine op_enter (ex_call c_26 hf (vs := [str x18.Name]) rfl) rfl hf rfl rfl (w_ref01_Fold x18.Name r29 _ (hG.own hF hO) hr29) ?_
              rintro e w' ⟨he, hb⟩
              refine ⟨_, he, fun a hf => ?_⟩
              have hO := hO.grow hb
              refine op_val (ex_move hf rfl) rfl hf rfl rfl fun a hf => ?_
              obtain ⟨r30, hr30, hm⟩ := ob hm
              refine op_enter (ex_call c_26 hf (vs := [str x_a1]) rfl) rfl hf rfl rfl (w_ref01_Fold x_a1 r30 _ (hG.own hF hO) hr30) ?_
              rintro e w' ⟨he, hb⟩
              refine ⟨_, he, fun a hf => ?_⟩
              have hO := hO.grow hb
              refine op_val (ex_neq_s (l := r29) (m := r30) hf rfl rfl) rfl hf rfl rfl fun a hf => ?_
              refine wpList_nil ?_
              refine nor_then (hK31 _ _ ?_)
              refine wp_cond_cut hf rfl (fun hc32 => ?_) (fun hc32 => ?_)
              · have hm := it hc32 hm
                refine wp_region_list ?_
                refine op_val (ex_field fa_24_2 hf rfl) rfl hf rfl rfl fun a hf => ?_
                refine op_val (ex_load1 (o := 2) ag_22 (hO.blkSees (i := 3) rfl) rfl hf rfl) rfl hf rfl rfl fun a hf => ?_
                refine op_val (ex_loadN (o := 0) (vs := [str x18.Name, str x18.Value, .bool x18.Has]) ag_31 sz_31 (hO.blkSees (i := 0) rfl) rfl rfl hf rfl) rfl hf rfl rfl fun a hf => ?_
                refine op_buildSlice (vs := [(0, .agg #[str x18.Name, str x18.Value, .bool x18.Has])]) (cs := [str x18.Name, str x18.Value, .bool x18.Has]) (e := 31) (sz := 3) hf rfl rfl (fun w => by kernel_rfl) rfl rfl hO fun a b33 w hf hO => ?_
                obtain ⟨hg36, hm⟩ := og hm
                refine op_appendT el_22 (enc := enc_api_Attr) (xs := l11) (ys := [x18]) (i := 2) (fun _ => rfl) rfl (hO.rowSees (i := 0) rfl) (by simp [cells, enc_api_Attr, Value.oneCell']) hg36 hf rfl rfl rfl hO fun a p34 c35 w hf hO => ?_
                refine op_val (ex_field fa_24_2 hf rfl) rfl hf rfl rfl fun a hf => ?_
                refine op_store1 (i := 4) (o := 2) (v := .slice p34 ((l11 ++ [x18]).length) c35) sz_22 rfl rfl rfl rfl hf rfl rfl hO fun w hO => ?_
                refine wpList_nil ?_
                refine nor_block ?_
                refine nor_then ?_
                exact ⟨p34, c35, l11 ++ [x18], (hf.cons rfl (hf.cons rfl (hf.cons rfl (hf.cons rfl (hf.cons rfl (hf.cons rfl (hf.cons rfl hf.nil))))))), (hO.sub (.cons _ (.cons _ (.cons_cons _ (.cons_cons _ (.cons_cons _ (.cons_cons _ (.cons_cons _ (.cons_cons _ (.cons_cons _ .slnil)))))))))), hm⟩
              · have hm := ie hc32 hm
                refine wp_skip ?_
                refine nor_block ?_
                refine nor_then ?_
                exact ⟨p9, c10, l11, (hf.cons rfl (hf.cons rfl (hf.cons rfl (hf.cons rfl (hf.cons rfl (hf.cons rfl (hf.cons rfl hf.nil))))))), (hO.sub (.cons _ (.cons_cons _ (.cons_cons _ (.cons_cons _ (.cons_cons _ (.cons_cons _ (.cons_cons _ (.cons_cons _ .slnil))))))))), hm⟩
          · rintro a w ⟨p37, c38, l39, hf, hO, hm⟩
            rw [ref28_Set_j2] at hm
            refine wp_region_list ?_
            refine op_val (ex_move hf rfl) rfl hf rfl rfl fun a hf => ?_
            obtain ⟨i40, hi40, hm⟩ := ob hm
            refine op_val (ex_add hf rfl rfl hi40) rfl hf rfl rfl fun a hf => ?_
            refine op_val (ex_assign hf rfl) rfl hf rfl rfl fun a hf => ?_
            refine wpList_nil ?_
            refine nor_then ?_
            exact ⟨_, Nat.lt_succ_self _, p37, c38, l39, s12, s13, i40, (hf.cons rfl (hf.cons rfl (hf.cons rfl (hf.cons rfl (hf.cons rfl (hf.cons rfl (hf.cons rfl hf.nil))))))), hO, hm⟩
        · have hm := ie hc16 hm
          refine wp_exit ?_
          refine exit_then ?_
          refine exit_then ?_
          refine exit_here ?_
          refine nor_then ?_
          exact ⟨p9, c10, l11, s12, s13, (hf.cons rfl (hf.cons rfl (hf.cons rfl (hf.cons rfl (hf.cons rfl hf.nil))))), hO, hm⟩
    · exact ⟨none, 0, [], x_a0.Name, x_a0.Value, 0, (hf.cons rfl (hf.cons rfl (hf.cons rfl (hf.cons rfl (hf.cons rfl (hf.cons rfl (hf.cons rfl hf.nil))))))), hO, hm⟩
  · rintro a w ⟨p41, c42, l43, s44, s45, hf, hO, hm⟩
    rw [ref28_Set_j3] at hm
    refine wp_seq_cut (fun a w => ∃ (p52 : Option Addr) (c53 : Nat) (l54 : List api_Attr), Fits 66 [(6, ptr b2 0), (8, ptr b6 0)] a ∧ Dk.Own w0 [] w [.row (.slice p52 l54.length c53) 31 3 l54.length (cells enc_api_Attr l54), .row (.slice none 0 0) 31 3 0 (cells enc_api_Attr []), .blk b6 [str s44, str s45, .slice p52 l54.length c53] 24, .row (.slice none 0 0) 31 3 0 (cells enc_api_Attr []), .blk b2 [str [], str [], .slice none 0 0] 24, .blk b1 [str x_a0.Name, str x_a0.Value, .slice x_a0_p0 x_a0.Attrs.length x_a0_c0] 24, .shr x_a0_p0 (cells enc_api_Attr x_a0.Attrs)] ∧ ref28_Set_j4 s44 s45 l54 = some R) ?_ ?_
    · refine wp_seq_k fun _ hK46 => ?_
      refine wp_region_list ?_
      refine op_val (ex_move hf rfl) rfl hf rfl rfl fun a hf => ?_
      refine op_val (ex_lss (m := r4) (n := 0) hf rfl rfl) rfl hf rfl rfl fun a hf => ?_
      refine wpList_nil ?_
      refine nor_then (hK46 _ _ ?_)
      refine wp_cond_cut hf rfl (fun hc47 => ?_) (fun hc47 => ?_)
      · have hm := it hc47 hm
        refine wp_region_list ?_
        refine op_val (ex_field fa_24_2 hf rfl) rfl hf rfl rfl fun a hf => ?_
        refine op_val (ex_load1 (o := 2) ag_22 (hO.blkSees (i := 2) rfl) rfl hf rfl) rfl hf rfl rfl fun a hf => ?_
        refine op_val (ex_move hf rfl) rfl hf rfl rfl fun a hf => ?_
        refine op_val (ex_move hf rfl) rfl hf rfl rfl fun a hf => ?_
        refine op_val (ex_build (vs := [(0, str x_a1), (1, str x_a2), (2, .bool true)]) (v := .agg #[str x_a1, str x_a2, .bool true]) hf rfl (by kernel_rfl)) rfl hf rfl rfl fun a hf => ?_
        refine op_buildSlice (vs := [(0, .agg #[str x_a1, str x_a2, .bool true])]) (cs := [str x_a1, str x_a2, .bool true]) (e := 31) (sz := 3) hf rfl rfl (fun w => by kernel_rfl) rfl rfl hO fun a b48 w hf hO => ?_
        obtain ⟨hg51, hm⟩ := og hm
        refine op_appendT el_22 (enc := enc_api_Attr) (xs := l43) (ys := [(⟨x_a1, x_a2, true⟩ : api_Attr)]) (i := 1) (fun _ => rfl) rfl (hO.rowSees (i := 0) rfl) (by simp [cells, enc_api_Attr, Value.oneCell']) hg51 hf rfl rfl rfl hO fun a p49 c50 w hf hO => ?_
        refine op_val (ex_field fa_24_2 hf rfl) rfl hf rfl rfl fun a hf => ?_
        refine op_store1 (i := 3) (o := 2) (v := .slice p49 ((l43 ++ [(⟨x_a1, x_a2, true⟩ : api_Attr)]).length) c50) sz_22 rfl rfl rfl rfl hf rfl rfl hO fun w hO => ?_
        refine wpList_nil ?_
        refine nor_then ?_
        exact ⟨p49, c50, l43 ++ [(⟨x_a1, x_a2, true⟩ : api_Attr)], (hf.cons rfl (hf.cons rfl hf.nil)), (hO.sub (.cons _ (.cons_cons _ (.cons_cons _ (.cons_cons _ (.cons_cons _ (.cons_cons _ (.cons_cons _ (.cons_cons _ .slnil))))))))), hm⟩
      · have hm := ie hc47 hm
        refine wp_skip ?_
        refine nor_then ?_
        exact ⟨p41, c42, l43, (hf.cons rfl (hf.cons rfl hf.nil)), hO, hm⟩
    · rintro a w ⟨p52, c53, l54, hf, hO, hm⟩
      rw [ref28_Set_j4] at hm
      refine wp_seq_k fun _ hK55 => ?_
      refine wp_region_list ?_
      refine op_val (ex_loadN (o := 0) (vs := [str s44, str s45, .slice p52 l54.length c53]) ag_24 sz_24 (hO.blkSees (i := 2) rfl) rfl rfl hf rfl) rfl hf rfl rfl fun a hf => ?_
      refine op_storeN (i := 4) (n := 3) sz_24 rfl rfl rfl (by simp [Value.oneCell']) hf rfl rfl hO fun w hO => ?_
      refine wpList_nil ?_
      refine nor_then (hK55 _ _ ?_)
      refine wp_ret ?_
      obtain rfl := Option.some.inj hm
      exact post_ret Tryd.results13 hf (.cell rfl (run_loadVarN (n := 3) (vs := [str s44, str s45, .slice p52 l54.length c53]) ag_24 sz_24 rfl ((hO.blkSees (i := 4) rfl).cells (o := 0) (n := 3) rfl)) .nil) ⟨p52, c53, rfl, (hO.sub (.cons_cons _ (.cons _ (.cons _ (.cons _ (.cons _ (.cons _ (.cons _ .slnil))))))))⟩

end Go.Proofs
