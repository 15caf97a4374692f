/- FairNames, run in parts: calls, run. Conditions: none. -/
import Derived.Test.YtggkbakjmejojaaGreatDoorFnD
import Derived.Test.YtggkbakjmejojaaGreatDoorFnK10
import Derived.Test.YtggkbakjmejojaaGreatDoorFnK11
import Derived.Test.YtggkbakjmejojaaGreatDoorFnK12
import Derived.Test.YtggkbakjmejojaaGreatDoorFnK13
import Derived.Test.YtggkbakjmejojaaGreatDoorFnK14
import Derived.Test.YtggkbakjmejojaaGreatDoorFnK15
import Derived.Test.YtggkbakjmejojaaGreatDoorFnK16
import Derived.Test.YtggkbakjmejojaaGreatDoorFnK17
import Derived.Test.YtggkbakjmejojaaGreatDoorFnK6
import Derived.Test.YtggkbakjmejojaaGreatDoorFnK7
import Derived.Test.YtggkbakjmejojaaGreatDoorFnK8
import Derived.Test.YtggkbakjmejojaaGreatDoorFnK9
set_option maxRecDepth 100000
namespace Go.Proofs.YtggkbakjmejojaaGreatDoor
open Go Go.Abs Cu
namespace Fn
theorem k5137_run : runsSo [k5345, k6155, k6964, k7796, k8604, k9428] Tb.T 2000 60 k5137 = true := by kernel_rfl
theorem k5137_ok : KnownOk Tryz.prog Tb.glob k5137 := known Tb.tys Tb.fns (all_cons k5345_ok (all_cons k6155_ok (all_cons k6964_ok (all_cons k7796_ok (all_cons k8604_ok (all_cons k9428_ok (all_nil))))))) k5137_run
theorem k10185_run : runsSo [k10393, k11203, k12012, k12844, k13652, k14476] Tb.T 2000 60 k10185 = true := by kernel_rfl
theorem k10185_ok : KnownOk Tryz.prog Tb.glob k10185 := known Tb.tys Tb.fns (all_cons k10393_ok (all_cons k11203_ok (all_cons k12012_ok (all_cons k12844_ok (all_cons k13652_ok (all_cons k14476_ok (all_nil))))))) k10185_run
end Fn
end Go.Proofs.YtggkbakjmejojaaGreatDoor
