/- LinearNames, run in parts: calls, run. Conditions: none. -/
import Derived.Test.YthojindafbcocaaGreatDoorLnD
import Derived.Test.YthojindafbcocaaGreatDoorLnX3
set_option maxRecDepth 100000
namespace Go.Proofs.YthojindafbcocaaGreatDoor
open Go Go.Abs Cu
namespace Ln
theorem k7713_run : runsS sp3 [] Tb.T 2000 60 k7713 = true := by kernel_rfl
theorem k7713_ok : KnownOk Tryz.prog Tb.glob k7713 := knownS Tb.tys Tb.fns sp3_ok (all_nil) k7713_run
theorem k9251_run : runsS sp3 [] Tb.T 2000 60 k9251 = true := by kernel_rfl
theorem k9251_ok : KnownOk Tryz.prog Tb.glob k9251 := knownS Tb.tys Tb.fns sp3_ok (all_nil) k9251_run
end Ln
end Go.Proofs.YthojindafbcocaaGreatDoor
