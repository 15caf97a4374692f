/- LinearNames, run in parts: calls, run. Conditions: none. -/
import Derived.Test.YthojindafbcocaaGreatDoorLnD
import Derived.Test.YthojindafbcocaaGreatDoorLnX3
set_option maxRecDepth 100000
namespace Go.Proofs.YthojindafbcocaaGreatDoor
open Go Go.Abs Cu
namespace Ln
theorem k3485_run : runsS sp3 [] Tb.T 2000 60 k3485 = true := by kernel_rfl
theorem k3485_ok : KnownOk Tryz.prog Tb.glob k3485 := knownS Tb.tys Tb.fns sp3_ok (all_nil) k3485_run
theorem k4485_run : runsS sp3 [] Tb.T 2000 60 k4485 = true := by kernel_rfl
theorem k4485_ok : KnownOk Tryz.prog Tb.glob k4485 := knownS Tb.tys Tb.fns sp3_ok (all_nil) k4485_run
end Ln
end Go.Proofs.YthojindafbcocaaGreatDoor
