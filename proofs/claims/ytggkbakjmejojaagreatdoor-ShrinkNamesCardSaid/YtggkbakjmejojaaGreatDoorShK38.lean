/- ShrinkNames, run in parts: calls, run. Conditions: none. -/
import Derived.Test.YtggkbakjmejojaaGreatDoorShD
import Derived.Test.YtggkbakjmejojaaGreatDoorShK0
import Derived.Test.YtggkbakjmejojaaGreatDoorShK10
import Derived.Test.YtggkbakjmejojaaGreatDoorShK13
import Derived.Test.YtggkbakjmejojaaGreatDoorShK16
import Derived.Test.YtggkbakjmejojaaGreatDoorShK35
import Derived.Test.YtggkbakjmejojaaGreatDoorShK7
set_option maxRecDepth 100000
namespace Go.Proofs.YtggkbakjmejojaaGreatDoor
open Go Go.Abs Cu
namespace Sh
theorem k31479_run : runsSo [k31491, k38252, k40688, k41903, k42904, k43592] Tb.T 2000 60 k31479 = true := by kernel_rfl
theorem k31479_ok : KnownOk Tryz.prog Tb.glob k31479 := known Tb.tys Tb.fns (all_cons k31491_ok (all_cons k38252_ok (all_cons k40688_ok (all_cons k41903_ok (all_cons k42904_ok (all_cons k43592_ok (all_nil))))))) k31479_run
end Sh
end Go.Proofs.YtggkbakjmejojaaGreatDoor
