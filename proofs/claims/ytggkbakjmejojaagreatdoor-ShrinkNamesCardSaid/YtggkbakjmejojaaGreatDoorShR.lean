/- The law ShrinkNames, run: it answers true. Conditions: none. -/
import Derived.Test.YtggkbakjmejojaaGreatDoorGl
import Derived.Test.YtggkbakjmejojaaGreatDoorShD
set_option maxRecDepth 100000
namespace Go.Proofs.YtggkbakjmejojaaGreatDoor
open Go Go.Abs Cu
namespace Sh
theorem run : tellsM (callM [k154, k1633, k4471, k6946, k8574, k17369, k25350, k28518, k30459, k31020, k31168, k31479] Tb.T 2000 60 4 [] st0) = true := by kernel_rfl
end Sh
end Go.Proofs.YtggkbakjmejojaaGreatDoor
