/- The law FairNames, run: it answers true. Conditions: none. -/
import Derived.Test.YtggkbakjmejojaaGreatDoorGl
import Derived.Test.YtggkbakjmejojaaGreatDoorFnD
set_option maxRecDepth 100000
namespace Go.Proofs.YtggkbakjmejojaaGreatDoor
open Go Go.Abs Cu
namespace Fn
theorem run : tellsM (callM [k1228, k2158, k620, k423, k3091, k4925] Tb.T 2000 60 3 [] st0) = true := by kernel_rfl
end Fn
end Go.Proofs.YtggkbakjmejojaaGreatDoor
