/- The law ScriptNames, run: it answers true. Conditions: none. -/
import Derived.Test.YtdhhhlgafdgheaaGreatDoorGl
import Derived.Test.YtdhhhlgafdgheaaGreatDoorSrD
set_option maxRecDepth 100000
namespace Go.Proofs.YtdhhhlgafdgheaaGreatDoor
open Go Go.Abs Cu
namespace Sr
theorem run : tellsM (callM [k144, k277, k409, k542, k674, k807, k939, k1072, k1204, k1337, k1469, k1602, k1734, k1867, k1999, k2132, k2264, k2397, k2529, k2662, k3203, k4526] Tb.T 2000 60 3 [] st0) = true := by kernel_rfl
end Sr
end Go.Proofs.YtdhhhlgafdgheaaGreatDoor
