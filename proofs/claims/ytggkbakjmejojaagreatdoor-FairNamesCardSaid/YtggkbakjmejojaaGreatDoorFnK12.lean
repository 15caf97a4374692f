/- FairNames, run in parts: calls, run. Conditions: none. -/
import Derived.Test.YtggkbakjmejojaaGreatDoorFnD
set_option maxRecDepth 100000
namespace Go.Proofs.YtggkbakjmejojaaGreatDoor
open Go Go.Abs Cu
namespace Fn
theorem k10393_run : runsSo [] Tb.T 2000 60 k10393 = true := by kernel_rfl
theorem k10393_ok : KnownOk Tryz.prog Tb.glob k10393 := known Tb.tys Tb.fns (all_nil) k10393_run
end Fn
end Go.Proofs.YtggkbakjmejojaaGreatDoor
