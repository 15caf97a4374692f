/- LinearNames, run in parts: calls, run. Conditions: none. -/
import Derived.Test.YthojindafbcocaaGreatDoorLnD
import Derived.Test.YthojindafbcocaaGreatDoorLnX3
import Derived.Test.YthojindafbcocaaGreatDoorLnK0
import Derived.Test.YthojindafbcocaaGreatDoorLnK1
import Derived.Test.YthojindafbcocaaGreatDoorLnK10
import Derived.Test.YthojindafbcocaaGreatDoorLnK11
import Derived.Test.YthojindafbcocaaGreatDoorLnK3
import Derived.Test.YthojindafbcocaaGreatDoorLnK4
import Derived.Test.YthojindafbcocaaGreatDoorLnK7
set_option maxRecDepth 100000
namespace Go.Proofs.YthojindafbcocaaGreatDoor
open Go Go.Abs Cu
namespace Ln
theorem k3_run : runsS sp3 [k502, k864, k1473, k2079, k2432, k2947, k3485, k3970, k4485] Tb.T 2000 60 k3 = true := by kernel_rfl
theorem k3_ok : KnownOk Tryz.prog Tb.glob k3 := knownS Tb.tys Tb.fns sp3_ok (all_cons k502_ok (all_cons k864_ok (all_cons k1473_ok (all_cons k2079_ok (all_cons k2432_ok (all_cons k2947_ok (all_cons k3485_ok (all_cons k3970_ok (all_cons k4485_ok (all_nil)))))))))) k3_run
end Ln
end Go.Proofs.YthojindafbcocaaGreatDoor
