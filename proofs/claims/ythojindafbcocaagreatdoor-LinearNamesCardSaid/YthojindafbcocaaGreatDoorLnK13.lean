/- LinearNames, run in parts: calls, run. Conditions: none. -/
import Derived.Test.YthojindafbcocaaGreatDoorLnD
import Derived.Test.YthojindafbcocaaGreatDoorLnX3
import Derived.Test.YthojindafbcocaaGreatDoorLnK1
import Derived.Test.YthojindafbcocaaGreatDoorLnK10
import Derived.Test.YthojindafbcocaaGreatDoorLnK11
import Derived.Test.YthojindafbcocaaGreatDoorLnK12
import Derived.Test.YthojindafbcocaaGreatDoorLnK2
import Derived.Test.YthojindafbcocaaGreatDoorLnK5
import Derived.Test.YthojindafbcocaaGreatDoorLnK8
set_option maxRecDepth 100000
namespace Go.Proofs.YthojindafbcocaaGreatDoor
open Go Go.Abs Cu
namespace Ln
theorem k5284_run : runsS sp3 [k5783, k6145, k6754, k7360, k7713, k8228, k8766, k9251, k9766] Tb.T 2000 60 k5284 = true := by kernel_rfl
theorem k5284_ok : KnownOk Tryz.prog Tb.glob k5284 := knownS Tb.tys Tb.fns sp3_ok (all_cons k5783_ok (all_cons k6145_ok (all_cons k6754_ok (all_cons k7360_ok (all_cons k7713_ok (all_cons k8228_ok (all_cons k8766_ok (all_cons k9251_ok (all_cons k9766_ok (all_nil)))))))))) k5284_run
end Ln
end Go.Proofs.YthojindafbcocaaGreatDoor
