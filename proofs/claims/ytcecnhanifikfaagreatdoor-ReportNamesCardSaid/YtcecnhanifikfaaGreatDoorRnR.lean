/- The law ReportNames, run: it answers true. Conditions: none. -/
import Derived.Test.YtcecnhanifikfaaGreatDoorGl
import Derived.Test.YtcecnhanifikfaaGreatDoorBx
import Derived.Test.YtcecnhanifikfaaGreatDoorRnD
set_option maxRecDepth 10000000
namespace Go.Proofs.YtcecnhanifikfaaGreatDoor
open Go Go.Abs Cu
namespace Rn
theorem run : tellsM (callS Bx.ex [k68, k152, k242, k311, k548, k589, k629, k670, k699, k741, k1388, k3258, k3530, k3765, k4013, k4410, k4810, k5287, k5753, k6925, k8770, k9000, k9200, k9473, k9676, k9926] Tb.T 2000 60 3 [] st0) = true := by kernel_rfl
end Rn
end Go.Proofs.YtcecnhanifikfaaGreatDoor
