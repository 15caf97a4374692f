/- LinearNames, run in parts: calls, run. Conditions: none. -/
import Derived.Test.YthojindafbcocaaGreatDoorLnD
import Derived.Test.YthojindafbcocaaGreatDoorLnX3
set_option maxRecDepth 100000
namespace Go.Proofs.YthojindafbcocaaGreatDoor
open Go Go.Abs Cu
namespace Ln
theorem k2079_run : runsS sp3 [] Tb.T 2000 60 k2079 = true := by kernel_rfl
theorem k2079_ok : KnownOk Tryz.prog Tb.glob k2079 := knownS Tb.tys Tb.fns sp3_ok (all_nil) k2079_run
theorem k15776_run : runsS sp3 [] Tb.T 2000 60 k15776 = true := by kernel_rfl
theorem k15776_ok : KnownOk Tryz.prog Tb.glob k15776 := knownS Tb.tys Tb.fns sp3_ok (all_nil) k15776_run
end Ln
end Go.Proofs.YthojindafbcocaaGreatDoor
