/-
  Walks, written by a program (wip/gen): what its model says, the function returns; what was there before is as it was.
-/
import Derived.Test.YtmdocoobecckdaaGreatDoorLib
import Derived.Test.YtmdocoobecckdaaGreatDoorW0
import Derived.Test.YtmdocoobecckdaaGreatDoorW1
set_option linter.unusedVariables false
set_option linter.unusedSimpArgs false
set_option maxRecDepth 100000
namespace Go.Proofs
open Go.Dk Go.Dm Go.RowKit

set_option maxHeartbeats 1000000 in
theorem w_quill_Join (x_sep : Str) (x_l : List Str) (R : Str) (w0 : World) (hG : Glob w0) {x_l_p0 : Option Addr} {x_l_c0 : Nat} (hs0 : Sees w0 x_l_p0 (cells enc_str x_l)) (hc0 : x_l.length ≤ x_l_c0) (hm : quill_Join x_sep x_l = some R) :
    Calls Tryz.prog 56 #[str x_sep, .slice x_l_p0 x_l.length x_l_c0] w0 fun e w' => e = .returned (str R) ∧ Below w0.heap.size w0 w' := by
 rw [quill_Join] at hm
 refine calls_enter (vs := [str x_sep, .slice x_l_p0 x_l.length x_l_c0]) Tryz.func56 rfl Tryz.ntmps56 rfl fun a hf => ?_
 have hF : Away [] := away_nil
 have hO : Dk.Own w0 [] w0 [] := Dk.Own.refl w0
 have hO := hO.addShr hs0 (by simp [Res.shared])
 refine wp_seq_k fun _ hK1 => ?_
 refine wp_region_list ?_
 refine op_as hf rfl rfl fun a hf => ?_
 refine wpList_nil ?_
 refine nor_then (hK1 _ _ ?_)
 refine wp_seq_k fun _ hK3 => ?_
 refine wp_region_list ?_
 refine op_mv hf rfl rfl fun a hf => ?_
 refine op_mv hf rfl rfl fun a hf => ?_
 obtain ⟨r2, hr2, hm⟩ := ob hm
 refine op_enter (ex_call c_95 hf (vs := [.slice x_l_p0 x_l.length x_l_c0, str x_sep]) rfl) rfl hf rfl rfl (w_strings_Join x_l x_sep r2 _ (hG.own hF hO) (hO.sees (i := 0) rfl) hc0 hr2) ?_
 rintro e w' ⟨he, hb⟩
 refine ⟨_, he, fun a hf => ?_⟩
 have hO := hO.grow hb
 refine op_as hf rfl rfl fun a hf => ?_
 refine wpList_nil ?_
 refine nor_then (hK3 _ _ ?_)
 refine wp_ret ?_
 obtain rfl := Option.some.inj hm
 exact post_ret Tryz.results56 hf (.tmp rfl .nil) ⟨rfl, hO.below⟩

end Go.Proofs
