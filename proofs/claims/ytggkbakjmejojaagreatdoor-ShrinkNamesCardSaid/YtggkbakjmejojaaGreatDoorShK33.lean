/- ShrinkNames, run in parts: calls, run. Conditions: none. -/
import Derived.Test.YtggkbakjmejojaaGreatDoorShD
import Derived.Test.YtggkbakjmejojaaGreatDoorShK18
import Derived.Test.YtggkbakjmejojaaGreatDoorShK19
import Derived.Test.YtggkbakjmejojaaGreatDoorShK5
set_option maxRecDepth 100000
namespace Go.Proofs.YtggkbakjmejojaaGreatDoor
open Go Go.Abs Cu
namespace Sh
theorem k1633_run : runsSo [k1782, k3293] Tb.T 2000 60 k1633 = true := by kernel_rfl
theorem k1633_ok : KnownOk Tryz.prog Tb.glob k1633 := known Tb.tys Tb.fns (all_cons k1782_ok (all_cons k3293_ok (all_nil))) k1633_run
theorem k4471_run : runsSo [k4619] Tb.T 2000 60 k4471 = true := by kernel_rfl
theorem k4471_ok : KnownOk Tryz.prog Tb.glob k4471 := known Tb.tys Tb.fns (all_cons k4619_ok (all_nil)) k4471_run
end Sh
end Go.Proofs.YtggkbakjmejojaaGreatDoor
