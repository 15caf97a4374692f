/- The law FairNames: its run and what it leans on. Conditions: none. -/
import Derived.Test.YtggkbakjmejojaaGreatDoorFnR
import Derived.Test.YtggkbakjmejojaaGreatDoorFnK0
import Derived.Test.YtggkbakjmejojaaGreatDoorFnK1
import Derived.Test.YtggkbakjmejojaaGreatDoorFnK2
import Derived.Test.YtggkbakjmejojaaGreatDoorFnK3
import Derived.Test.YtggkbakjmejojaaGreatDoorFnK4
import Derived.Test.YtggkbakjmejojaaGreatDoorFnK5
import Derived.Test.YtggkbakjmejojaaGreatDoorFnK6
import Derived.Test.YtggkbakjmejojaaGreatDoorFnK7
import Derived.Test.YtggkbakjmejojaaGreatDoorFnK8
import Derived.Test.YtggkbakjmejojaaGreatDoorFnK9
import Derived.Test.YtggkbakjmejojaaGreatDoorFnK10
import Derived.Test.YtggkbakjmejojaaGreatDoorFnK11
import Derived.Test.YtggkbakjmejojaaGreatDoorFnK12
import Derived.Test.YtggkbakjmejojaaGreatDoorFnK13
import Derived.Test.YtggkbakjmejojaaGreatDoorFnK14
import Derived.Test.YtggkbakjmejojaaGreatDoorFnK15
import Derived.Test.YtggkbakjmejojaaGreatDoorFnK16
import Derived.Test.YtggkbakjmejojaaGreatDoorFnK17
import Derived.Test.YtggkbakjmejojaaGreatDoorFnK18
import Derived.Test.YtggkbakjmejojaaGreatDoorFnK19
set_option maxRecDepth 100000
namespace Go.Proofs.YtggkbakjmejojaaGreatDoor
open Go Go.Abs Cu
namespace Fn
theorem ks_ok : ∀ k ∈ [k1228, k2158, k620, k423, k3091, k4925], KnownOk Tryz.prog Tb.glob k := all_cons k1228_ok (all_cons k2158_ok (all_cons k620_ok (all_cons k423_ok (all_cons k3091_ok (all_cons k4925_ok (all_nil))))))
end Fn
end Go.Proofs.YtggkbakjmejojaaGreatDoor
