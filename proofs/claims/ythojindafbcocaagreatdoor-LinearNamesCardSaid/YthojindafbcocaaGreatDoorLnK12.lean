/- LinearNames, run in parts: calls, run. Conditions: none. -/
import Derived.Test.YthojindafbcocaaGreatDoorLnD
import Derived.Test.YthojindafbcocaaGreatDoorLnX3
set_option maxRecDepth 100000
namespace Go.Proofs.YthojindafbcocaaGreatDoor
open Go Go.Abs Cu
namespace Ln
theorem k6145_run : runsS sp3 [] Tb.T 2000 60 k6145 = true := by kernel_rfl
theorem k6145_ok : KnownOk Tryz.prog Tb.glob k6145 := knownS Tb.tys Tb.fns sp3_ok (all_nil) k6145_run
theorem k11653_run : runsS sp3 [] Tb.T 2000 60 k11653 = true := by kernel_rfl
theorem k11653_ok : KnownOk Tryz.prog Tb.glob k11653 := knownS Tb.tys Tb.fns sp3_ok (all_nil) k11653_run
end Ln
end Go.Proofs.YthojindafbcocaaGreatDoor
