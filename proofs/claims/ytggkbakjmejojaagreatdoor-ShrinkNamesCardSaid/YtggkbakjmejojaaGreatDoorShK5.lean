/- ShrinkNames, run in parts: calls, run. Conditions: none. -/
import Derived.Test.YtggkbakjmejojaaGreatDoorShD
set_option maxRecDepth 100000
namespace Go.Proofs.YtggkbakjmejojaaGreatDoor
open Go Go.Abs Cu
namespace Sh
theorem k3293_run : runsSo [] Tb.T 2000 60 k3293 = true := by kernel_rfl
theorem k3293_ok : KnownOk Tryz.prog Tb.glob k3293 := known Tb.tys Tb.fns (all_nil) k3293_run
end Sh
end Go.Proofs.YtggkbakjmejojaaGreatDoor
