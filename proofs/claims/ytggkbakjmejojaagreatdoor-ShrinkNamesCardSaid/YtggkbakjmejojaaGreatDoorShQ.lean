/- The law ShrinkNames: its run and what it leans on. Conditions: none. -/
import Derived.Test.YtggkbakjmejojaaGreatDoorShR
import Derived.Test.YtggkbakjmejojaaGreatDoorShK0
import Derived.Test.YtggkbakjmejojaaGreatDoorShK1
import Derived.Test.YtggkbakjmejojaaGreatDoorShK2
import Derived.Test.YtggkbakjmejojaaGreatDoorShK3
import Derived.Test.YtggkbakjmejojaaGreatDoorShK4
import Derived.Test.YtggkbakjmejojaaGreatDoorShK5
import Derived.Test.YtggkbakjmejojaaGreatDoorShK6
import Derived.Test.YtggkbakjmejojaaGreatDoorShK7
import Derived.Test.YtggkbakjmejojaaGreatDoorShK8
import Derived.Test.YtggkbakjmejojaaGreatDoorShK9
import Derived.Test.YtggkbakjmejojaaGreatDoorShK10
import Derived.Test.YtggkbakjmejojaaGreatDoorShK11
import Derived.Test.YtggkbakjmejojaaGreatDoorShK12
import Derived.Test.YtggkbakjmejojaaGreatDoorShK13
import Derived.Test.YtggkbakjmejojaaGreatDoorShK14
import Derived.Test.YtggkbakjmejojaaGreatDoorShK15
import Derived.Test.YtggkbakjmejojaaGreatDoorShK16
import Derived.Test.YtggkbakjmejojaaGreatDoorShK17
import Derived.Test.YtggkbakjmejojaaGreatDoorShK18
import Derived.Test.YtggkbakjmejojaaGreatDoorShK19
import Derived.Test.YtggkbakjmejojaaGreatDoorShK20
import Derived.Test.YtggkbakjmejojaaGreatDoorShK21
import Derived.Test.YtggkbakjmejojaaGreatDoorShK22
import Derived.Test.YtggkbakjmejojaaGreatDoorShK23
import Derived.Test.YtggkbakjmejojaaGreatDoorShK24
import Derived.Test.YtggkbakjmejojaaGreatDoorShK25
import Derived.Test.YtggkbakjmejojaaGreatDoorShK26
import Derived.Test.YtggkbakjmejojaaGreatDoorShK27
import Derived.Test.YtggkbakjmejojaaGreatDoorShK28
import Derived.Test.YtggkbakjmejojaaGreatDoorShK29
import Derived.Test.YtggkbakjmejojaaGreatDoorShK30
import Derived.Test.YtggkbakjmejojaaGreatDoorShK31
import Derived.Test.YtggkbakjmejojaaGreatDoorShK32
import Derived.Test.YtggkbakjmejojaaGreatDoorShK33
import Derived.Test.YtggkbakjmejojaaGreatDoorShK34
import Derived.Test.YtggkbakjmejojaaGreatDoorShK35
import Derived.Test.YtggkbakjmejojaaGreatDoorShK36
import Derived.Test.YtggkbakjmejojaaGreatDoorShK37
import Derived.Test.YtggkbakjmejojaaGreatDoorShK38
set_option maxRecDepth 100000
namespace Go.Proofs.YtggkbakjmejojaaGreatDoor
open Go Go.Abs Cu
namespace Sh
theorem ks_ok : ∀ k ∈ [k154, k1633, k4471, k6946, k8574, k17369, k25350, k28518, k30459, k31020, k31168, k31479], KnownOk Tryz.prog Tb.glob k := all_cons k154_ok (all_cons k1633_ok (all_cons k4471_ok (all_cons k6946_ok (all_cons k8574_ok (all_cons k17369_ok (all_cons k25350_ok (all_cons k28518_ok (all_cons k30459_ok (all_cons k31020_ok (all_cons k31168_ok (all_cons k31479_ok (all_nil))))))))))))
end Sh
end Go.Proofs.YtggkbakjmejojaaGreatDoor
