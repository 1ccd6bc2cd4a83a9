/- slices.Clone, of each element: a copy. -/
import Derived.Test.YtkbigjfhddediaaGreatDoorYTy
import Derived.Test.YtkbigjfhddediaaGreatDoorP0
import Derived.KernelRfl
set_option linter.unusedVariables false
set_option linter.unusedSimpArgs false
set_option linter.unusedVariables false
set_option linter.unusedSimpArgs false
set_option maxRecDepth 100000
set_option maxHeartbeats 1000000
namespace Go.Proofs
open Go.Dk Go.Dm Go.RowKit
open Tryz (prog)
theorem zjW (d:List z0h) (R:List z0h) (w0:World) (k:zi7 w0) {c:Option Addr} {a:Nat} (f:ze3 w0 c (cells zrA d)) (i:d.length≤a) (j:zk7 d=some R) :
    Calls prog 66 #[.slice c d.length a] w0 fun e w'=>∃g h,e = .returned (.slice g R.length h)∧Dk.Own w0 [] w' [.row (.slice g R.length h) 85 2 R.length (cells zrA R)]:=zzz (b:=_) Tryz.func66 rfl rfl rfl Tryz.underlying22 el_22 (fun _=>rfl) (by simp [zrA,Value.oneCell']) (fun w=>by kernel_rfl) f j
theorem zi5 (d:List zZU) (R:List zZU) (w0:World) (k:zi7 w0) {c:Option Addr} {a:Nat} (f:ze3 w0 c (cells zN d)) (i:d.length≤a) (j:zjY d=some R) :
    Calls prog 337 #[.slice c d.length a] w0 fun e w'=>∃g h,e = .returned (.slice g R.length h)∧Dk.Own w0 [] w' [.row (.slice g R.length h) 160 2 R.length (cells zN R)]:=zzz (b:=_) Tryz.func337 rfl rfl rfl Tryz.underlying195 zPf (fun _=>rfl) (by simp [zN,Value.oneCell']) (fun w=>by kernel_rfl) f j
theorem zjX (d:List zZX) (R:List zZX) (w0:World) (k:zi7 w0) {c:Option Addr} {a:Nat} (f:ze3 w0 c (cells zrz d)) (i:d.length≤a) (j:zk8 d=some R) :
    Calls prog 67 #[.slice c d.length a] w0 fun e w'=>∃g h,e = .returned (.slice g R.length h)∧Dk.Own w0 [] w' [.row (.slice g R.length h) 147 2 R.length (cells zrz R)]:=zzz (b:=_) Tryz.func67 rfl rfl rfl Tryz.underlying65 el_65 (fun _=>rfl) (by simp [zrz,Value.oneCell']) (fun w=>by kernel_rfl) f j
theorem zi6 (d:List zZ2) (R:List zZ2) (w0:World) (k:zi7 w0) {c:Option Addr} {a:Nat} (f:ze3 w0 c (cells zpw d)) (i:d.length≤a) (j:zjZ d=some R) :
    Calls prog 32 #[.slice c d.length a] w0 fun e w'=>∃g h,e = .returned (.slice g R.length h)∧Dk.Own w0 [] w' [.row (.slice g R.length h) 47 2 R.length (cells zpw R)]:=zzz (b:=_) Tryz.func32 rfl rfl rfl Tryz.underlying28 el_28 (fun _=>rfl) (by simp [zpw,Value.oneCell']) (fun w=>by kernel_rfl) f j
end Go.Proofs
