/- LinearNames, run in parts: calls, run. Conditions: none. -/
import Derived.Test.YthojindafbcocaaGreatDoorLnD
import Derived.Test.YthojindafbcocaaGreatDoorLnX3
set_option maxRecDepth 100000
namespace Go.Proofs.YthojindafbcocaaGreatDoor
open Go Go.Abs Cu
namespace Ln
theorem k864_run : runsS sp3 [] Tb.T 2000 60 k864 = true := by kernel_rfl
theorem k864_ok : KnownOk Tryz.prog Tb.glob k864 := knownS Tb.tys Tb.fns sp3_ok (all_nil) k864_run
theorem k6754_run : runsS sp3 [] Tb.T 2000 60 k6754 = true := by kernel_rfl
theorem k6754_ok : KnownOk Tryz.prog Tb.glob k6754 := knownS Tb.tys Tb.fns sp3_ok (all_nil) k6754_run
theorem k12262_run : runsS sp3 [] Tb.T 2000 60 k12262 = true := by kernel_rfl
theorem k12262_ok : KnownOk Tryz.prog Tb.glob k12262 := knownS Tb.tys Tb.fns sp3_ok (all_nil) k12262_run
end Ln
end Go.Proofs.YthojindafbcocaaGreatDoor
