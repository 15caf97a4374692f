/- LinearNames, run in parts: its run and what it leans on. Conditions: none. -/
import Derived.Test.YthojindafbcocaaGreatDoorLnR
import Derived.Test.YthojindafbcocaaGreatDoorLnX3
import Derived.Test.YthojindafbcocaaGreatDoorLnK0
import Derived.Test.YthojindafbcocaaGreatDoorLnK1
import Derived.Test.YthojindafbcocaaGreatDoorLnK2
import Derived.Test.YthojindafbcocaaGreatDoorLnK3
import Derived.Test.YthojindafbcocaaGreatDoorLnK4
import Derived.Test.YthojindafbcocaaGreatDoorLnK5
import Derived.Test.YthojindafbcocaaGreatDoorLnK6
import Derived.Test.YthojindafbcocaaGreatDoorLnK7
import Derived.Test.YthojindafbcocaaGreatDoorLnK8
import Derived.Test.YthojindafbcocaaGreatDoorLnK9
import Derived.Test.YthojindafbcocaaGreatDoorLnK10
import Derived.Test.YthojindafbcocaaGreatDoorLnK11
import Derived.Test.YthojindafbcocaaGreatDoorLnK12
import Derived.Test.YthojindafbcocaaGreatDoorLnK13
import Derived.Test.YthojindafbcocaaGreatDoorLnK14
import Derived.Test.YthojindafbcocaaGreatDoorLnK15
set_option maxRecDepth 100000
namespace Go.Proofs.YthojindafbcocaaGreatDoor
open Go Go.Abs Cu
namespace Ln
theorem ks_ok : ∀ k ∈ [k3, k5284, k10792, k15776], KnownOk Tryz.prog Tb.glob k := all_cons k3_ok (all_cons k5284_ok (all_cons k10792_ok (all_cons k15776_ok (all_nil))))
end Ln
end Go.Proofs.YthojindafbcocaaGreatDoor
