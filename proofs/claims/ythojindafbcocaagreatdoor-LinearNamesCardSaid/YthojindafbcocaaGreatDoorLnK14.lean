/- LinearNames, run in parts: calls, run. Conditions: none. -/
import Derived.Test.YthojindafbcocaaGreatDoorLnD
import Derived.Test.YthojindafbcocaaGreatDoorLnX3
import Derived.Test.YthojindafbcocaaGreatDoorLnK10
import Derived.Test.YthojindafbcocaaGreatDoorLnK11
import Derived.Test.YthojindafbcocaaGreatDoorLnK12
import Derived.Test.YthojindafbcocaaGreatDoorLnK2
import Derived.Test.YthojindafbcocaaGreatDoorLnK3
import Derived.Test.YthojindafbcocaaGreatDoorLnK6
import Derived.Test.YthojindafbcocaaGreatDoorLnK9
set_option maxRecDepth 100000
namespace Go.Proofs.YthojindafbcocaaGreatDoor
open Go Go.Abs Cu
namespace Ln
theorem k10792_run : runsS sp3 [k11291, k11653, k12262, k12868, k13221, k13736, k14274, k14759, k15274] Tb.T 2000 60 k10792 = true := by kernel_rfl
theorem k10792_ok : KnownOk Tryz.prog Tb.glob k10792 := knownS Tb.tys Tb.fns sp3_ok (all_cons k11291_ok (all_cons k11653_ok (all_cons k12262_ok (all_cons k12868_ok (all_cons k13221_ok (all_cons k13736_ok (all_cons k14274_ok (all_cons k14759_ok (all_cons k15274_ok (all_nil)))))))))) k10792_run
end Ln
end Go.Proofs.YthojindafbcocaaGreatDoor
