/- LinearNames, run in parts: calls, run. Conditions: none. -/
import Derived.Test.YthojindafbcocaaGreatDoorLnD
import Derived.Test.YthojindafbcocaaGreatDoorLnX3
set_option maxRecDepth 100000
namespace Go.Proofs.YthojindafbcocaaGreatDoor
open Go Go.Abs Cu
namespace Ln
theorem k14274_run : runsS sp3 [] Tb.T 2000 60 k14274 = true := by kernel_rfl
theorem k14274_ok : KnownOk Tryz.prog Tb.glob k14274 := knownS Tb.tys Tb.fns sp3_ok (all_nil) k14274_run
theorem k15274_run : runsS sp3 [] Tb.T 2000 60 k15274 = true := by kernel_rfl
theorem k15274_ok : KnownOk Tryz.prog Tb.glob k15274 := knownS Tb.tys Tb.fns sp3_ok (all_nil) k15274_run
end Ln
end Go.Proofs.YthojindafbcocaaGreatDoor
