/- LinearNames, run in parts: it answers true. Conditions: none. -/
import Derived.Test.YthojindafbcocaaGreatDoorGl
import Derived.Test.YthojindafbcocaaGreatDoorLnD
set_option maxRecDepth 100000
namespace Go.Proofs.YthojindafbcocaaGreatDoor
open Go Go.Abs Cu
namespace Ln
theorem run : tellsM (callS sp3 [k3, k5284, k10792, k15776] Tb.T 2000 60 3 [] st0) = true := by kernel_rfl
end Ln
end Go.Proofs.YthojindafbcocaaGreatDoor
