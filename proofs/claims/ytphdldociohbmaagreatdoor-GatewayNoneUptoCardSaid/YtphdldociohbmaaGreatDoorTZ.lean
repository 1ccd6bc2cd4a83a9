/-
  What the law comes to.
-/
import Derived.Test.YtphdldociohbmaaGreatDoorYW
namespace Go.Proofs
open Go.Dk Go.Dm Go.RowKit Go.Rk
theorem GatewayNone_true (x0 : Str) : law44_GatewayNone x0 = some true := rfl
end Go.Proofs
