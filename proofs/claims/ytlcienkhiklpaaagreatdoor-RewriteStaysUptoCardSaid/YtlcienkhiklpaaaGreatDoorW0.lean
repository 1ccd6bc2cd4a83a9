/-
  Walks, written by a program (wip/gen): what its model says, the function returns; what was there before is as it was.
-/
import Derived.Test.YtlcienkhiklpaaaGreatDoorYMem
set_option linter.unusedVariables false
set_option maxHeartbeats 1000000
set_option linter.unusedSimpArgs false
set_option maxRecDepth 100000
namespace Go.Proofs
open Go.Dk Go.Dm Go.RowKit

theorem ze5 (x_s : List api_Field) (R : List api_Field) (w0 : World) (hG : zed w0) {x_s_p0 : Option Addr} {x_s_c0 : Nat} (hs0 : zbX w0 x_s_p0 (cells zu x_s)) (hc0 : x_s.length ≤ x_s_c0) (hm : zcz x_s = some R) :
    Calls Tryz.prog 104 #[.slice x_s_p0 x_s.length x_s_c0] w0 fun e w' => ∃ p0 c0,e = .returned (.slice p0 R.length c0) ∧ Dk.Own w0 [] w' [.row (.slice p0 R.length c0) 49 2 R.length (cells zu R)] := by
 rw [zcz] at hm
 have hO : Dk.Own w0 [] w0 [] := Dk.Own.refl w0
 have hO := hO.addS hs0
 refine S.enter tb Tryz.func104 rfl Tryz.ntmps104 rfl ?_ hO hm
 refine nl 49 2 <| vl rfl rfl (fun a w hf hO => zpL (ad := x_s_p0) Tryz.underlying26 hf rfl rfl) <| rc_ rfl fun a w hf hO hm => ?_
 rcases zD6 (x_s_p0.isNone) with hc3 | hc3
 have hxhc3 : x_s = [] := zuc (enc := zu) (sz := 2) (fun _ => rfl) (by decide) (hO.sees (i := 1) rfl) hc3
 rw [hxhc3] at hm
 have hm : some [] = some R := by first | exact hm | (rw [hxhc3]; exact hm) | simpa [hxhc3] using hm
 refine zt0 hf rfl hc3 ?_
 refine S.co tb ?_ hf hO hm
 exact nl 49 2 <| rm0 Tryz.results104 [0] [] rfl
 refine zt1 hf rfl hc3 ?_
 refine S.co tb ?_ hf hO hm
 refine rw_ rfl fun a w hf hO hm => ?_
 refine zm9 (vs := []) (cs := []) (e := 49) (sz := 2) hf rfl rfl (fun w => by kernel_rfl) rfl rfl hO fun a b6 w hf hO => ?_
 refine S.op tb ?_ hf hO hm
 refine rw_ rfl fun a w hf hO hm => ?_
 obtain ⟨hg9,hm⟩ := og hm
 refine zq1 el_26 (enc := zu) (xs := []) (ys := x_s) (i := 0) (fun _ => rfl) rfl (hO.sees (i := 2) rfl) (by simp [zu,Value.oneCell']) hg9 hf rfl rfl rfl hO fun a p7 c8 w hf hO => ?_
 refine S.op tb ?_ hf hO hm
 exact rm0 Tryz.results104 [0] [] rfl

theorem zfO (x_s : List api_Part) (R : List api_Part) (w0 : World) (hG : zed w0) {x_s_p0 : Option Addr} {x_s_c0 : Nat} (hs0 : zbX w0 x_s_p0 (cells zgT x_s)) (hc0 : x_s.length ≤ x_s_c0) (hm : zc2 x_s = some R) :
    Calls Tryz.prog 291 #[.slice x_s_p0 x_s.length x_s_c0] w0 fun e w' => ∃ p0 c0,e = .returned (.slice p0 R.length c0) ∧ Dk.Own w0 [] w' [.row (.slice p0 R.length c0) 196 2 R.length (cells zgT R)] := by
 rw [zc2] at hm
 have hO : Dk.Own w0 [] w0 [] := Dk.Own.refl w0
 have hO := hO.addS hs0
 refine S.enter tb Tryz.func291 rfl Tryz.ntmps291 rfl ?_ hO hm
 refine nl 196 2 <| vl rfl rfl (fun a w hf hO => zpL (ad := x_s_p0) Tryz.underlying61 hf rfl rfl) <| rc_ rfl fun a w hf hO hm => ?_
 rcases zD6 (x_s_p0.isNone) with hc3 | hc3
 have hxhc3 : x_s = [] := zuc (enc := zgT) (sz := 2) (fun _ => rfl) (by decide) (hO.sees (i := 1) rfl) hc3
 rw [hxhc3] at hm
 have hm : some [] = some R := by first | exact hm | (rw [hxhc3]; exact hm) | simpa [hxhc3] using hm
 refine zt0 hf rfl hc3 ?_
 refine S.co tb ?_ hf hO hm
 exact nl 196 2 <| rm0 Tryz.results291 [0] [] rfl
 refine zt1 hf rfl hc3 ?_
 refine S.co tb ?_ hf hO hm
 refine rw_ rfl fun a w hf hO hm => ?_
 refine zm9 (vs := []) (cs := []) (e := 196) (sz := 2) hf rfl rfl (fun w => by kernel_rfl) rfl rfl hO fun a b6 w hf hO => ?_
 refine S.op tb ?_ hf hO hm
 refine rw_ rfl fun a w hf hO hm => ?_
 obtain ⟨hg9,hm⟩ := og hm
 refine zq1 el_61 (enc := zgT) (xs := []) (ys := x_s) (i := 0) (fun _ => rfl) rfl (hO.sees (i := 2) rfl) (by simp [zgT,Value.oneCell']) hg9 hf rfl rfl rfl hO fun a p7 c8 w hf hO => ?_
 refine S.op tb ?_ hf hO hm
 exact rm0 Tryz.results291 [0] [] rfl

end Go.Proofs
