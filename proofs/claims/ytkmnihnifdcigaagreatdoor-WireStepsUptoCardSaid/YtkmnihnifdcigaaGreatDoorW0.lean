/-
  slices.Clone, of each element: a copy.
-/
import Derived.Test.YtkmnihnifdcigaaGreatDoorYMem
import Derived.Test.YtkmnihnifdcigaaGreatDoorHex
import Derived.Test.YtkmnihnifdcigaaGreatDoorP0
import Derived.KernelRfl
set_option linter.unusedVariables false
set_option linter.unusedSimpArgs false
set_option linter.unusedVariables false
set_option linter.unusedSimpArgs false
set_option maxRecDepth 100000
namespace Go.Proofs
open Go.Dk Go.Dm Go.RowKit
open Tryz (prog)
set_option maxHeartbeats 1000000
theorem zjo (x_s:List zW3) (R:List zW3) (w0:World) (hG:ziY w0) {x_s_p0:Option Addr} {x_s_c0:Nat} (hs0:zd9 w0 x_s_p0 (cells zqP x_s)) (hc0:x_s.length≤x_s_c0) (hm:zku x_s=some R) :
    Calls prog 37 #[.slice x_s_p0 x_s.length x_s_c0] w0 fun e w'=>∃p0 c0,e = .returned (.slice p0 R.length c0)∧Dk.Own w0 [] w' [.row (.slice p0 R.length c0) 98 2 R.length (cells zqP R)]:=zDK (b:=_) Tryz.func37 rfl rfl rfl Tryz.underlying22 el_22 (fun _=>rfl) (by simp [zqP,Value.oneCell']) (fun w=>by kernel_rfl) hs0 hm
theorem ziF (x_s:List zWQ) (R:List zWQ) (w0:World) (hG:ziY w0) {x_s_p0:Option Addr} {x_s_c0:Nat} (hs0:zd9 w0 x_s_p0 (cells zo x_s)) (hc0:x_s.length≤x_s_c0) (hm:zju x_s=some R) :
    Calls prog 327 #[.slice x_s_p0 x_s.length x_s_c0] w0 fun e w'=>∃p0 c0,e = .returned (.slice p0 R.length c0)∧Dk.Own w0 [] w' [.row (.slice p0 R.length c0) 225 2 R.length (cells zo R)]:=zDK (b:=_) Tryz.func327 rfl rfl rfl Tryz.underlying154 zND (fun _=>rfl) (by simp [zo,Value.oneCell']) (fun w=>by kernel_rfl) hs0 hm
theorem zjp (x_s:List zWR) (R:List zWR) (w0:World) (hG:ziY w0) {x_s_p0:Option Addr} {x_s_c0:Nat} (hs0:zd9 w0 x_s_p0 (cells zqO x_s)) (hc0:x_s.length≤x_s_c0) (hm:zkv x_s=some R) :
    Calls prog 38 #[.slice x_s_p0 x_s.length x_s_c0] w0 fun e w'=>∃p0 c0,e = .returned (.slice p0 R.length c0)∧Dk.Own w0 [] w' [.row (.slice p0 R.length c0) 109 2 R.length (cells zqO R)]:=zDK (b:=_) Tryz.func38 rfl rfl rfl Tryz.underlying81 el_81 (fun _=>rfl) (by simp [zqO,Value.oneCell']) (fun w=>by kernel_rfl) hs0 hm
end Go.Proofs
