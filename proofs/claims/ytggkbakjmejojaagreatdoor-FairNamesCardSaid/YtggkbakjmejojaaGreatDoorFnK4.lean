/- FairNames, run in parts: calls, run. Conditions: none. -/
import Derived.Test.YtggkbakjmejojaaGreatDoorFnD
set_option maxRecDepth 100000
namespace Go.Proofs.YtggkbakjmejojaaGreatDoor
open Go Go.Abs Cu
namespace Fn
theorem k4134_run : runsSo [] Tb.T 2000 60 k4134 = true := by kernel_rfl
theorem k4134_ok : KnownOk Tryz.prog Tb.glob k4134 := known Tb.tys Tb.fns (all_nil) k4134_run
end Fn
end Go.Proofs.YtggkbakjmejojaaGreatDoor
