/- ShrinkNames, run in parts: calls, run. Conditions: none. -/
import Derived.Test.YtggkbakjmejojaaGreatDoorShD
set_option maxRecDepth 100000
namespace Go.Proofs.YtggkbakjmejojaaGreatDoor
open Go Go.Abs Cu
namespace Sh
theorem k18998_run : runsSo [] Tb.T 2000 60 k18998 = true := by kernel_rfl
theorem k18998_ok : KnownOk Tryz.prog Tb.glob k18998 := known Tb.tys Tb.fns (all_nil) k18998_run
end Sh
end Go.Proofs.YtggkbakjmejojaaGreatDoor
