/- ShrinkNames, run in parts: calls, run. Conditions: none. -/
import Derived.Test.YtggkbakjmejojaaGreatDoorShD
set_option maxRecDepth 100000
namespace Go.Proofs.YtggkbakjmejojaaGreatDoor
open Go Go.Abs Cu
namespace Sh
theorem k25351_run : runsSo [] Tb.T 2000 60 k25351 = true := by kernel_rfl
theorem k25351_ok : KnownOk Tryz.prog Tb.glob k25351 := known Tb.tys Tb.fns (all_nil) k25351_run
end Sh
end Go.Proofs.YtggkbakjmejojaaGreatDoor
