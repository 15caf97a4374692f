/- LinearNames, run in parts: calls, run. Conditions: none. -/
import Derived.Test.YthojindafbcocaaGreatDoorLnD
import Derived.Test.YthojindafbcocaaGreatDoorLnX3
set_option maxRecDepth 100000
namespace Go.Proofs.YthojindafbcocaaGreatDoor
open Go Go.Abs Cu
namespace Ln
theorem k8766_run : runsS sp3 [] Tb.T 2000 60 k8766 = true := by kernel_rfl
theorem k8766_ok : KnownOk Tryz.prog Tb.glob k8766 := knownS Tb.tys Tb.fns sp3_ok (all_nil) k8766_run
theorem k9766_run : runsS sp3 [] Tb.T 2000 60 k9766 = true := by kernel_rfl
theorem k9766_ok : KnownOk Tryz.prog Tb.glob k9766 := knownS Tb.tys Tb.fns sp3_ok (all_nil) k9766_run
end Ln
end Go.Proofs.YthojindafbcocaaGreatDoor
