/- ShrinkNames, run in parts: calls, run. Conditions: none. -/
import Derived.Test.YtggkbakjmejojaaGreatDoorShD
import Derived.Test.YtggkbakjmejojaaGreatDoorShK9
set_option maxRecDepth 100000
namespace Go.Proofs.YtggkbakjmejojaaGreatDoor
open Go Go.Abs Cu
namespace Sh
theorem k4619_run : runsSo [k5243] Tb.T 2000 60 k4619 = true := by kernel_rfl
theorem k4619_ok : KnownOk Tryz.prog Tb.glob k4619 := known Tb.tys Tb.fns (all_cons k5243_ok (all_nil)) k4619_run
end Sh
end Go.Proofs.YtggkbakjmejojaaGreatDoor
