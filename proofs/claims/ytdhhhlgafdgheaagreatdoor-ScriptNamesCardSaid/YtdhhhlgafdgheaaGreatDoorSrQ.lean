/- The law ScriptNames: its run and what it leans on. Conditions: none. -/
import Derived.Test.YtdhhhlgafdgheaaGreatDoorSrR
import Derived.Test.YtdhhhlgafdgheaaGreatDoorSrK0
import Derived.Test.YtdhhhlgafdgheaaGreatDoorSrK1
import Derived.Test.YtdhhhlgafdgheaaGreatDoorSrK2
import Derived.Test.YtdhhhlgafdgheaaGreatDoorSrK3
import Derived.Test.YtdhhhlgafdgheaaGreatDoorSrK4
import Derived.Test.YtdhhhlgafdgheaaGreatDoorSrK5
import Derived.Test.YtdhhhlgafdgheaaGreatDoorSrK6
set_option maxRecDepth 100000
namespace Go.Proofs.YtdhhhlgafdgheaaGreatDoor
open Go Go.Abs Cu
namespace Sr
theorem ks_ok : ∀ k ∈ [k144, k277, k409, k542, k674, k807, k939, k1072, k1204, k1337, k1469, k1602, k1734, k1867, k1999, k2132, k2264, k2397, k2529, k2662, k3203, k4526], KnownOk Tryz.prog Tb.glob k := all_cons k144_ok (all_cons k277_ok (all_cons k409_ok (all_cons k542_ok (all_cons k674_ok (all_cons k807_ok (all_cons k939_ok (all_cons k1072_ok (all_cons k1204_ok (all_cons k1337_ok (all_cons k1469_ok (all_cons k1602_ok (all_cons k1734_ok (all_cons k1867_ok (all_cons k1999_ok (all_cons k2132_ok (all_cons k2264_ok (all_cons k2397_ok (all_cons k2529_ok (all_cons k2662_ok (all_cons k3203_ok (all_cons k4526_ok (all_nil))))))))))))))))))))))
end Sr
end Go.Proofs.YtdhhhlgafdgheaaGreatDoor
