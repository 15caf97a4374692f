/- ShrinkNames, run in parts: calls, run. Conditions: none. -/
import Derived.Test.YtggkbakjmejojaaGreatDoorShD
import Derived.Test.YtggkbakjmejojaaGreatDoorShK7
set_option maxRecDepth 100000
namespace Go.Proofs.YtggkbakjmejojaaGreatDoor
open Go Go.Abs Cu
namespace Sh
theorem k154_run : runsSo [k778] Tb.T 2000 60 k154 = true := by kernel_rfl
theorem k154_ok : KnownOk Tryz.prog Tb.glob k154 := known Tb.tys Tb.fns (all_cons k778_ok (all_nil)) k154_run
end Sh
end Go.Proofs.YtggkbakjmejojaaGreatDoor
