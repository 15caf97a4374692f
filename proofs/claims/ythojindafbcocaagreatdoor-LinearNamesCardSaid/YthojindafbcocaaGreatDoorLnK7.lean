/- LinearNames, run in parts: calls, run. Conditions: none. -/
import Derived.Test.YthojindafbcocaaGreatDoorLnD
import Derived.Test.YthojindafbcocaaGreatDoorLnX3
set_option maxRecDepth 100000
namespace Go.Proofs.YthojindafbcocaaGreatDoor
open Go Go.Abs Cu
namespace Ln
theorem k2432_run : runsS sp3 [] Tb.T 2000 60 k2432 = true := by kernel_rfl
theorem k2432_ok : KnownOk Tryz.prog Tb.glob k2432 := knownS Tb.tys Tb.fns sp3_ok (all_nil) k2432_run
theorem k3970_run : runsS sp3 [] Tb.T 2000 60 k3970 = true := by kernel_rfl
theorem k3970_ok : KnownOk Tryz.prog Tb.glob k3970 := knownS Tb.tys Tb.fns sp3_ok (all_nil) k3970_run
end Ln
end Go.Proofs.YthojindafbcocaaGreatDoor
