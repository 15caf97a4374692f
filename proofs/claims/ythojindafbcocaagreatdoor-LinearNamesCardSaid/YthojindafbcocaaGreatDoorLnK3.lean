/- LinearNames, run in parts: calls, run. Conditions: none. -/
import Derived.Test.YthojindafbcocaaGreatDoorLnD
import Derived.Test.YthojindafbcocaaGreatDoorLnX3
set_option maxRecDepth 100000
namespace Go.Proofs.YthojindafbcocaaGreatDoor
open Go Go.Abs Cu
namespace Ln
theorem k502_run : runsS sp3 [] Tb.T 2000 60 k502 = true := by kernel_rfl
theorem k502_ok : KnownOk Tryz.prog Tb.glob k502 := knownS Tb.tys Tb.fns sp3_ok (all_nil) k502_run
theorem k13736_run : runsS sp3 [] Tb.T 2000 60 k13736 = true := by kernel_rfl
theorem k13736_ok : KnownOk Tryz.prog Tb.glob k13736 := knownS Tb.tys Tb.fns sp3_ok (all_nil) k13736_run
end Ln
end Go.Proofs.YthojindafbcocaaGreatDoor
