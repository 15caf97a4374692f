/- FairNames, run in parts: calls, run. Conditions: none. -/
import Derived.Test.YtggkbakjmejojaaGreatDoorFnD
set_option maxRecDepth 100000
namespace Go.Proofs.YtggkbakjmejojaaGreatDoor
open Go Go.Abs Cu
namespace Fn
theorem k3299_run : runsSo [] Tb.T 2000 60 k3299 = true := by kernel_rfl
theorem k3299_ok : KnownOk Tryz.prog Tb.glob k3299 := known Tb.tys Tb.fns (all_nil) k3299_run
end Fn
end Go.Proofs.YtggkbakjmejojaaGreatDoor
