/- LinearNames, run in parts: calls, run. Conditions: none. -/
import Derived.Test.YthojindafbcocaaGreatDoorLnD
import Derived.Test.YthojindafbcocaaGreatDoorLnX3
set_option maxRecDepth 100000
namespace Go.Proofs.YthojindafbcocaaGreatDoor
open Go Go.Abs Cu
namespace Ln
theorem k8228_run : runsS sp3 [] Tb.T 2000 60 k8228 = true := by kernel_rfl
theorem k8228_ok : KnownOk Tryz.prog Tb.glob k8228 := knownS Tb.tys Tb.fns sp3_ok (all_nil) k8228_run
theorem k12868_run : runsS sp3 [] Tb.T 2000 60 k12868 = true := by kernel_rfl
theorem k12868_ok : KnownOk Tryz.prog Tb.glob k12868 := knownS Tb.tys Tb.fns sp3_ok (all_nil) k12868_run
end Ln
end Go.Proofs.YthojindafbcocaaGreatDoor
