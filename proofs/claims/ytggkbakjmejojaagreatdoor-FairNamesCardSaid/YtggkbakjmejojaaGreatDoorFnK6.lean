/- FairNames, run in parts: calls, run. Conditions: none. -/
import Derived.Test.YtggkbakjmejojaaGreatDoorFnD
set_option maxRecDepth 100000
namespace Go.Proofs.YtggkbakjmejojaaGreatDoor
open Go Go.Abs Cu
namespace Fn
theorem k5345_run : runsSo [] Tb.T 2000 60 k5345 = true := by kernel_rfl
theorem k5345_ok : KnownOk Tryz.prog Tb.glob k5345 := known Tb.tys Tb.fns (all_nil) k5345_run
end Fn
end Go.Proofs.YtggkbakjmejojaaGreatDoor
