/- slices.Clone, of each element: a copy. -/
import Derived.Test.YtlehfmpjckapdaaGreatDoorYTy
import Derived.Test.YtlehfmpjckapdaaGreatDoorP0
import Derived.KernelRfl
set_option linter.unusedVariables false
set_option linter.unusedSimpArgs false
set_option linter.unusedVariables false
set_option linter.unusedSimpArgs false
set_option maxRecDepth 100000
set_option maxHeartbeats 1000000
namespace Go.Proofs
open Go.Dk Go.Dm Go.RowKit
open Tryz (prog)
theorem zjY (d:List zZJ) (R:List zZJ) (w0:World) (k:zi6 w0) {c:Option Addr} {a:Nat} (f:ze1 w0 c (cells zrx d)) (i:d.length≤a) (j:zk7 d=some R) :
    Calls prog 49 #[.slice c d.length a] w0 fun e w'=>∃h g,e = .returned (.slice h R.length g)∧Dk.Own w0 [] w' [.row (.slice h R.length g) 124 2 R.length (cells zrx R)]:=zze (b:=_) Tryz.func49 rfl rfl rfl Tryz.underlying22 el_22 (fun _=>rfl) (by simp [zrx,Value.oneCell']) (fun w=>by kernel_rfl) f j
theorem zi4 (d:List zZn) (R:List zZn) (w0:World) (k:zi6 w0) {c:Option Addr} {a:Nat} (f:ze1 w0 c (cells zN d)) (i:d.length≤a) (j:zjW d=some R) :
    Calls prog 344 #[.slice c d.length a] w0 fun e w'=>∃h g,e = .returned (.slice h R.length g)∧Dk.Own w0 [] w' [.row (.slice h R.length g) 255 2 R.length (cells zN R)]:=zze (b:=_) Tryz.func344 rfl rfl rfl Tryz.underlying140 zOg (fun _=>rfl) (by simp [zN,Value.oneCell']) (fun w=>by kernel_rfl) f j
theorem zjZ (d:List zZq) (R:List zZq) (w0:World) (k:zi6 w0) {c:Option Addr} {a:Nat} (f:ze1 w0 c (cells zrw d)) (i:d.length≤a) (j:zk8 d=some R) :
    Calls prog 50 #[.slice c d.length a] w0 fun e w'=>∃h g,e = .returned (.slice h R.length g)∧Dk.Own w0 [] w' [.row (.slice h R.length g) 135 2 R.length (cells zrw R)]:=zze (b:=_) Tryz.func50 rfl rfl rfl Tryz.underlying105 el_105 (fun _=>rfl) (by simp [zrw,Value.oneCell']) (fun w=>by kernel_rfl) f j
theorem zi5 (d:List zZL) (R:List zZL) (w0:World) (k:zi6 w0) {c:Option Addr} {a:Nat} (f:ze1 w0 c (cells zpw d)) (i:d.length≤a) (j:zjX d=some R) :
    Calls prog 26 #[.slice c d.length a] w0 fun e w'=>∃h g,e = .returned (.slice h R.length g)∧Dk.Own w0 [] w' [.row (.slice h R.length g) 56 2 R.length (cells zpw R)]:=zze (b:=_) Tryz.func26 rfl rfl rfl Tryz.underlying28 el_28 (fun _=>rfl) (by simp [zpw,Value.oneCell']) (fun w=>by kernel_rfl) f j
end Go.Proofs
