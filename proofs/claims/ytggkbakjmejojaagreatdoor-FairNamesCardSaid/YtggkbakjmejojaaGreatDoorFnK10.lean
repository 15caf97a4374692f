/- FairNames, run in parts: calls, run. Conditions: none. -/
import Derived.Test.YtggkbakjmejojaaGreatDoorFnD
set_option maxRecDepth 100000
namespace Go.Proofs.YtggkbakjmejojaaGreatDoor
open Go Go.Abs Cu
namespace Fn
theorem k8604_run : runsSo [] Tb.T 2000 60 k8604 = true := by kernel_rfl
theorem k8604_ok : KnownOk Tryz.prog Tb.glob k8604 := known Tb.tys Tb.fns (all_nil) k8604_run
end Fn
end Go.Proofs.YtggkbakjmejojaaGreatDoor
