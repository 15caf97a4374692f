/- FairNames, run in parts: calls, run. Conditions: none. -/
import Derived.Test.YtggkbakjmejojaaGreatDoorFnD
set_option maxRecDepth 100000
namespace Go.Proofs.YtggkbakjmejojaaGreatDoor
open Go Go.Abs Cu
namespace Fn
theorem k14476_run : runsSo [] Tb.T 2000 60 k14476 = true := by kernel_rfl
theorem k14476_ok : KnownOk Tryz.prog Tb.glob k14476 := known Tb.tys Tb.fns (all_nil) k14476_run
end Fn
end Go.Proofs.YtggkbakjmejojaaGreatDoor
