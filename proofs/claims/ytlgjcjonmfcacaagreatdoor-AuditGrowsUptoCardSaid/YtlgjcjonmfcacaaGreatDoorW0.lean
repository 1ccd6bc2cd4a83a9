/-
  slices.Clone, of each element: a copy.
-/
import Derived.Test.YtlgjcjonmfcacaaGreatDoorYMem
import Derived.Test.YtlgjcjonmfcacaaGreatDoorHex
import Derived.Test.YtlgjcjonmfcacaaGreatDoorP0
import Derived.KernelRfl
set_option linter.unusedVariables false
set_option linter.unusedSimpArgs false
set_option linter.unusedVariables false
set_option linter.unusedSimpArgs false
set_option linter.unusedVariables false
set_option linter.unusedSimpArgs false
set_option maxRecDepth 100000
namespace Go.Proofs
open Go.Dk Go.Dm Go.RowKit
open Tryz (prog)
set_option maxHeartbeats 1000000
theorem zjm (x_s:List zWK) (R:List zWK) (w0:World) (hG:ziX w0) {x_s_p0:Option Addr} {x_s_c0:Nat} (hs0:zd5 w0 x_s_p0 (cells zq6 x_s)) (hc0:x_s.length≤x_s_c0) (hm:zkJ x_s=some R) :
    Calls prog 38 #[.slice x_s_p0 x_s.length x_s_c0] w0 fun e w'=>∃p0 c0,e = .returned (.slice p0 R.length c0)∧Dk.Own w0 [] w' [.row (.slice p0 R.length c0) 102 2 R.length (cells zq6 R)]:=zDm (b:=_) Tryz.func38 rfl rfl rfl Tryz.underlying22 el_22 (fun _=>rfl) (by simp [zq6,Value.oneCell']) (fun w=>by kernel_rfl) hs0 hm
theorem ziC (x_s:List zWx) (R:List zWx) (w0:World) (hG:ziX w0) {x_s_p0:Option Addr} {x_s_c0:Nat} (hs0:zd5 w0 x_s_p0 (cells zl x_s)) (hc0:x_s.length≤x_s_c0) (hm:zjz x_s=some R) :
    Calls prog 337 #[.slice x_s_p0 x_s.length x_s_c0] w0 fun e w'=>∃p0 c0,e = .returned (.slice p0 R.length c0)∧Dk.Own w0 [] w' [.row (.slice p0 R.length c0) 247 2 R.length (cells zl R)]:=zDm (b:=_) Tryz.func337 rfl rfl rfl Tryz.underlying171 zNE (fun _=>rfl) (by simp [zl,Value.oneCell']) (fun w=>by kernel_rfl) hs0 hm
theorem zjn (x_s:List zWz) (R:List zWz) (w0:World) (hG:ziX w0) {x_s_p0:Option Addr} {x_s_c0:Nat} (hs0:zd5 w0 x_s_p0 (cells zq5 x_s)) (hc0:x_s.length≤x_s_c0) (hm:zkK x_s=some R) :
    Calls prog 39 #[.slice x_s_p0 x_s.length x_s_c0] w0 fun e w'=>∃p0 c0,e = .returned (.slice p0 R.length c0)∧Dk.Own w0 [] w' [.row (.slice p0 R.length c0) 113 2 R.length (cells zq5 R)]:=zDm (b:=_) Tryz.func39 rfl rfl rfl Tryz.underlying85 el_85 (fun _=>rfl) (by simp [zq5,Value.oneCell']) (fun w=>by kernel_rfl) hs0 hm
end Go.Proofs
