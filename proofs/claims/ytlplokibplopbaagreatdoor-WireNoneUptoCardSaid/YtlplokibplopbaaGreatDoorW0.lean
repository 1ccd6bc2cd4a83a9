/-
  Walks, written by a program (wip/gen): what its model says, the function returns; what was there before is as it was.
-/
import Derived.Test.YtlplokibplopbaaGreatDoorYMem
set_option linter.unusedVariables false
set_option linter.unusedSimpArgs false
set_option linter.unusedVariables false
set_option maxHeartbeats 1000000
set_option linter.unusedSimpArgs false
set_option maxRecDepth 100000
namespace Go.Proofs
open Go.Dk Go.Dm Go.RowKit

theorem ziL (x_s : List zLK) (R : List zLK) (w0 : World) (hG : zgi w0) {x_s_p0 : Option Addr} {x_s_c0 : Nat} (hs0 : zdi w0 x_s_p0 (cells zjc x_s)) (hc0 : x_s.length ≤ x_s_c0) (hm : zeP x_s = some R) :
    Calls Tryz.prog 33 #[.slice x_s_p0 x_s.length x_s_c0] w0 fun e w' => ∃ p0 c0,e = .returned (.slice p0 R.length c0) ∧ Dk.Own w0 [] w' [.row (.slice p0 R.length c0) 98 2 R.length (cells zjc R)] := by
 rw [zeP] at hm
 have hO : Dk.Own w0 [] w0 [] := Dk.Own.refl w0
 have hO := hO.addS hs0
 refine S.enter tb Tryz.func33 rfl Tryz.ntmps33 rfl ?_ hO hm
 refine nl 98 2 <| vl rfl rfl (fun a w hf hO => zrS (ad := x_s_p0) Tryz.underlying22 hf rfl rfl) <| rc_ rfl fun a w hf hO hm => ?_
 rcases zDy (x_s_p0.isNone) with hc3 | hc3
 have hxhc3 : x_s = [] := zvt (enc := zjc) (sz := 2) (fun _ => rfl) (by decide) (hO.sees (i := 1) rfl) hc3
 rw [hxhc3] at hm
 have hm : some [] = some R := by first | exact hm | (rw [hxhc3]; exact hm) | simpa [hxhc3] using hm
 refine zuW hf rfl hc3 ?_
 refine S.co tb ?_ hf hO hm
 exact nl 98 2 <| rm0 Tryz.results33 [0] [] rfl
 refine zuX hf rfl hc3 ?_
 refine S.co tb ?_ hf hO hm
 refine rw_ rfl fun a w hf hO hm => ?_
 refine zns (vs := []) (cs := []) (e := 98) (sz := 2) hf rfl rfl (fun w => by kernel_rfl) rfl rfl hO fun a b6 w hf hO => ?_
 refine S.op tb ?_ hf hO hm
 refine rw_ rfl fun a w hf hO hm => ?_
 obtain ⟨hg9,hm⟩ := og hm
 refine zsN el_22 (enc := zjc) (xs := []) (ys := x_s) (i := 0) (fun _ => rfl) rfl (hO.sees (i := 2) rfl) (by simp [zjc,Value.oneCell']) hg9 hf rfl rfl rfl hO fun a p7 c8 w hf hO => ?_
 refine S.op tb ?_ hf hO hm
 exact rm0 Tryz.results33 [0] [] rfl

theorem zhR (x_s : List zLo) (R : List zLo) (w0 : World) (hG : zgi w0) {x_s_p0 : Option Addr} {x_s_c0 : Nat} (hs0 : zdi w0 x_s_p0 (cells zt x_s)) (hc0 : x_s.length ≤ x_s_c0) (hm : zd6 x_s = some R) :
    Calls Tryz.prog 272 #[.slice x_s_p0 x_s.length x_s_c0] w0 fun e w' => ∃ p0 c0,e = .returned (.slice p0 R.length c0) ∧ Dk.Own w0 [] w' [.row (.slice p0 R.length c0) 203 2 R.length (cells zt R)] := by
 rw [zd6] at hm
 have hO : Dk.Own w0 [] w0 [] := Dk.Own.refl w0
 have hO := hO.addS hs0
 refine S.enter tb Tryz.func272 rfl Tryz.ntmps272 rfl ?_ hO hm
 refine nl 203 2 <| vl rfl rfl (fun a w hf hO => zrS (ad := x_s_p0) Tryz.underlying146 hf rfl rfl) <| rc_ rfl fun a w hf hO hm => ?_
 rcases zDy (x_s_p0.isNone) with hc3 | hc3
 have hxhc3 : x_s = [] := zvt (enc := zt) (sz := 2) (fun _ => rfl) (by decide) (hO.sees (i := 1) rfl) hc3
 rw [hxhc3] at hm
 have hm : some [] = some R := by first | exact hm | (rw [hxhc3]; exact hm) | simpa [hxhc3] using hm
 refine zuW hf rfl hc3 ?_
 refine S.co tb ?_ hf hO hm
 exact nl 203 2 <| rm0 Tryz.results272 [0] [] rfl
 refine zuX hf rfl hc3 ?_
 refine S.co tb ?_ hf hO hm
 refine rw_ rfl fun a w hf hO hm => ?_
 refine zns (vs := []) (cs := []) (e := 203) (sz := 2) hf rfl rfl (fun w => by kernel_rfl) rfl rfl hO fun a b6 w hf hO => ?_
 refine S.op tb ?_ hf hO hm
 refine rw_ rfl fun a w hf hO hm => ?_
 obtain ⟨hg9,hm⟩ := og hm
 refine zsN zFa (enc := zt) (xs := []) (ys := x_s) (i := 0) (fun _ => rfl) rfl (hO.sees (i := 2) rfl) (by simp [zt,Value.oneCell']) hg9 hf rfl rfl rfl hO fun a p7 c8 w hf hO => ?_
 refine S.op tb ?_ hf hO hm
 exact rm0 Tryz.results272 [0] [] rfl

theorem ziM (x_s : List zLD) (R : List zLD) (w0 : World) (hG : zgi w0) {x_s_p0 : Option Addr} {x_s_c0 : Nat} (hs0 : zdi w0 x_s_p0 (cells zjb x_s)) (hc0 : x_s.length ≤ x_s_c0) (hm : zeQ x_s = some R) :
    Calls Tryz.prog 34 #[.slice x_s_p0 x_s.length x_s_c0] w0 fun e w' => ∃ p0 c0,e = .returned (.slice p0 R.length c0) ∧ Dk.Own w0 [] w' [.row (.slice p0 R.length c0) 102 2 R.length (cells zjb R)] := by
 rw [zeQ] at hm
 have hO : Dk.Own w0 [] w0 [] := Dk.Own.refl w0
 have hO := hO.addS hs0
 refine S.enter tb Tryz.func34 rfl Tryz.ntmps34 rfl ?_ hO hm
 refine nl 102 2 <| vl rfl rfl (fun a w hf hO => zrS (ad := x_s_p0) Tryz.underlying74 hf rfl rfl) <| rc_ rfl fun a w hf hO hm => ?_
 rcases zDy (x_s_p0.isNone) with hc3 | hc3
 have hxhc3 : x_s = [] := zvt (enc := zjb) (sz := 2) (fun _ => rfl) (by decide) (hO.sees (i := 1) rfl) hc3
 rw [hxhc3] at hm
 have hm : some [] = some R := by first | exact hm | (rw [hxhc3]; exact hm) | simpa [hxhc3] using hm
 refine zuW hf rfl hc3 ?_
 refine S.co tb ?_ hf hO hm
 exact nl 102 2 <| rm0 Tryz.results34 [0] [] rfl
 refine zuX hf rfl hc3 ?_
 refine S.co tb ?_ hf hO hm
 refine rw_ rfl fun a w hf hO hm => ?_
 refine zns (vs := []) (cs := []) (e := 102) (sz := 2) hf rfl rfl (fun w => by kernel_rfl) rfl rfl hO fun a b6 w hf hO => ?_
 refine S.op tb ?_ hf hO hm
 refine rw_ rfl fun a w hf hO hm => ?_
 obtain ⟨hg9,hm⟩ := og hm
 refine zsN el_74 (enc := zjb) (xs := []) (ys := x_s) (i := 0) (fun _ => rfl) rfl (hO.sees (i := 2) rfl) (by simp [zjb,Value.oneCell']) hg9 hf rfl rfl rfl hO fun a p7 c8 w hf hO => ?_
 refine S.op tb ?_ hf hO hm
 exact rm0 Tryz.results34 [0] [] rfl

end Go.Proofs
