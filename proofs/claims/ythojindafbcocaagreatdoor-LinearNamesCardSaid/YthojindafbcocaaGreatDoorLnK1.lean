/- LinearNames, run in parts: calls, run. Conditions: none. -/
import Derived.Test.YthojindafbcocaaGreatDoorLnD
import Derived.Test.YthojindafbcocaaGreatDoorLnX3
set_option maxRecDepth 100000
namespace Go.Proofs.YthojindafbcocaaGreatDoor
open Go Go.Abs Cu
namespace Ln
theorem k2947_run : runsS sp3 [] Tb.T 2000 60 k2947 = true := by kernel_rfl
theorem k2947_ok : KnownOk Tryz.prog Tb.glob k2947 := knownS Tb.tys Tb.fns sp3_ok (all_nil) k2947_run
theorem k7360_run : runsS sp3 [] Tb.T 2000 60 k7360 = true := by kernel_rfl
theorem k7360_ok : KnownOk Tryz.prog Tb.glob k7360 := knownS Tb.tys Tb.fns sp3_ok (all_nil) k7360_run
end Ln
end Go.Proofs.YthojindafbcocaaGreatDoor
