/- FairNames, run in parts: calls, run. Conditions: none. -/
import Derived.Test.YtggkbakjmejojaaGreatDoorFnD
set_option maxRecDepth 100000
namespace Go.Proofs.YtggkbakjmejojaaGreatDoor
open Go Go.Abs Cu
namespace Fn
theorem k2158_run : runsSo [] Tb.T 2000 60 k2158 = true := by kernel_rfl
theorem k2158_ok : KnownOk Tryz.prog Tb.glob k2158 := known Tb.tys Tb.fns (all_nil) k2158_run
end Fn
end Go.Proofs.YtggkbakjmejojaaGreatDoor
