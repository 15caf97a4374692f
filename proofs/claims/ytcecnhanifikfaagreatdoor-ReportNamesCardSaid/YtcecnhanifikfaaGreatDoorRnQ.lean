/- The law ReportNames: its run and what it leans on. Conditions: none. -/
import Derived.Test.YtcecnhanifikfaaGreatDoorRnR
import Derived.Test.YtcecnhanifikfaaGreatDoorRnK0
import Derived.Test.YtcecnhanifikfaaGreatDoorRnK1
import Derived.Test.YtcecnhanifikfaaGreatDoorRnK2
import Derived.Test.YtcecnhanifikfaaGreatDoorRnK3
import Derived.Test.YtcecnhanifikfaaGreatDoorRnK4
import Derived.Test.YtcecnhanifikfaaGreatDoorRnK5
import Derived.Test.YtcecnhanifikfaaGreatDoorRnK6
import Derived.Test.YtcecnhanifikfaaGreatDoorRnK7
import Derived.Test.YtcecnhanifikfaaGreatDoorRnK8
import Derived.Test.YtcecnhanifikfaaGreatDoorRnK9
import Derived.Test.YtcecnhanifikfaaGreatDoorRnK10
import Derived.Test.YtcecnhanifikfaaGreatDoorRnK11
import Derived.Test.YtcecnhanifikfaaGreatDoorRnK12
import Derived.Test.YtcecnhanifikfaaGreatDoorRnK13
import Derived.Test.YtcecnhanifikfaaGreatDoorRnK14
import Derived.Test.YtcecnhanifikfaaGreatDoorRnK15
set_option maxRecDepth 10000000
namespace Go.Proofs.YtcecnhanifikfaaGreatDoor
open Go Go.Abs Cu
namespace Rn
theorem ks_ok : ∀ k ∈ [k68, k152, k242, k311, k548, k589, k629, k670, k699, k741, k1388, k3258, k3530, k3765, k4013, k4410, k4810, k5287, k5753, k6925, k8770, k9000, k9200, k9473, k9676, k9926], KnownOk Tryz.prog Tb.glob k := all_cons k68_ok (all_cons k152_ok (all_cons k242_ok (all_cons k311_ok (all_cons k548_ok (all_cons k589_ok (all_cons k629_ok (all_cons k670_ok (all_cons k699_ok (all_cons k741_ok (all_cons k1388_ok (all_cons k3258_ok (all_cons k3530_ok (all_cons k3765_ok (all_cons k4013_ok (all_cons k4410_ok (all_cons k4810_ok (all_cons k5287_ok (all_cons k5753_ok (all_cons k6925_ok (all_cons k8770_ok (all_cons k9000_ok (all_cons k9200_ok (all_cons k9473_ok (all_cons k9676_ok (all_cons k9926_ok (all_nil))))))))))))))))))))))))))
end Rn
end Go.Proofs.YtcecnhanifikfaaGreatDoor
