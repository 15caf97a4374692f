/- LinearNames, run in parts: calls, run. Conditions: none. -/
import Derived.Test.YthojindafbcocaaGreatDoorLnD
import Derived.Test.YthojindafbcocaaGreatDoorLnX3
set_option maxRecDepth 100000
namespace Go.Proofs.YthojindafbcocaaGreatDoor
open Go Go.Abs Cu
namespace Ln
theorem k13221_run : runsS sp3 [] Tb.T 2000 60 k13221 = true := by kernel_rfl
theorem k13221_ok : KnownOk Tryz.prog Tb.glob k13221 := knownS Tb.tys Tb.fns sp3_ok (all_nil) k13221_run
theorem k14759_run : runsS sp3 [] Tb.T 2000 60 k14759 = true := by kernel_rfl
theorem k14759_ok : KnownOk Tryz.prog Tb.glob k14759 := knownS Tb.tys Tb.fns sp3_ok (all_nil) k14759_run
end Ln
end Go.Proofs.YthojindafbcocaaGreatDoor
