/- ShrinkNames, run in parts: calls, run. Conditions: none. -/
import Derived.Test.YtggkbakjmejojaaGreatDoorShD
import Derived.Test.YtggkbakjmejojaaGreatDoorShK8
set_option maxRecDepth 100000
namespace Go.Proofs.YtggkbakjmejojaaGreatDoor
open Go Go.Abs Cu
namespace Sh
theorem k1782_run : runsSo [k2406] Tb.T 2000 60 k1782 = true := by kernel_rfl
theorem k1782_ok : KnownOk Tryz.prog Tb.glob k1782 := known Tb.tys Tb.fns (all_cons k2406_ok (all_nil)) k1782_run
end Sh
end Go.Proofs.YtggkbakjmejojaaGreatDoor
