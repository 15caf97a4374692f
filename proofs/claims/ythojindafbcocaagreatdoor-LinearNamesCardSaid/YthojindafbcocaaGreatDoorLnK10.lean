/- LinearNames, run in parts: calls, run. Conditions: none. -/
import Derived.Test.YthojindafbcocaaGreatDoorLnD
import Derived.Test.YthojindafbcocaaGreatDoorLnX3
set_option maxRecDepth 100000
namespace Go.Proofs.YthojindafbcocaaGreatDoor
open Go Go.Abs Cu
namespace Ln
theorem k1473_run : runsS sp3 [] Tb.T 2000 60 k1473 = true := by kernel_rfl
theorem k1473_ok : KnownOk Tryz.prog Tb.glob k1473 := knownS Tb.tys Tb.fns sp3_ok (all_nil) k1473_run
theorem k5783_run : runsS sp3 [] Tb.T 2000 60 k5783 = true := by kernel_rfl
theorem k5783_ok : KnownOk Tryz.prog Tb.glob k5783 := knownS Tb.tys Tb.fns sp3_ok (all_nil) k5783_run
theorem k11291_run : runsS sp3 [] Tb.T 2000 60 k11291 = true := by kernel_rfl
theorem k11291_ok : KnownOk Tryz.prog Tb.glob k11291 := knownS Tb.tys Tb.fns sp3_ok (all_nil) k11291_run
end Ln
end Go.Proofs.YthojindafbcocaaGreatDoor
