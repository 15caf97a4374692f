/- FairNames, run in parts: calls, run. Conditions: none. -/
import Derived.Test.YtggkbakjmejojaaGreatDoorFnD
set_option maxRecDepth 100000
namespace Go.Proofs.YtggkbakjmejojaaGreatDoor
open Go Go.Abs Cu
namespace Fn
theorem k7796_run : runsSo [] Tb.T 2000 60 k7796 = true := by kernel_rfl
theorem k7796_ok : KnownOk Tryz.prog Tb.glob k7796 := known Tb.tys Tb.fns (all_nil) k7796_run
end Fn
end Go.Proofs.YtggkbakjmejojaaGreatDoor
