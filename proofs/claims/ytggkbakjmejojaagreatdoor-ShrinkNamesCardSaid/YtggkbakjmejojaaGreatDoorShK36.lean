/- ShrinkNames, run in parts: calls, run. Conditions: none. -/
import Derived.Test.YtggkbakjmejojaaGreatDoorShD
import Derived.Test.YtggkbakjmejojaaGreatDoorShK1
import Derived.Test.YtggkbakjmejojaaGreatDoorShK25
import Derived.Test.YtggkbakjmejojaaGreatDoorShK26
import Derived.Test.YtggkbakjmejojaaGreatDoorShK32
set_option maxRecDepth 100000
namespace Go.Proofs.YtggkbakjmejojaaGreatDoor
open Go Go.Abs Cu
namespace Sh
theorem k17369_run : runsSo [k17519, k18998, k20397, k22763] Tb.T 2000 60 k17369 = true := by kernel_rfl
theorem k17369_ok : KnownOk Tryz.prog Tb.glob k17369 := known Tb.tys Tb.fns (all_cons k17519_ok (all_cons k18998_ok (all_cons k20397_ok (all_cons k22763_ok (all_nil))))) k17369_run
end Sh
end Go.Proofs.YtggkbakjmejojaaGreatDoor
