/- FairNames, run in parts: calls, run. Conditions: none. -/
import Derived.Test.YtggkbakjmejojaaGreatDoorFnD
set_option maxRecDepth 100000
namespace Go.Proofs.YtggkbakjmejojaaGreatDoor
open Go Go.Abs Cu
namespace Fn
theorem k9428_run : runsSo [] Tb.T 2000 60 k9428 = true := by kernel_rfl
theorem k9428_ok : KnownOk Tryz.prog Tb.glob k9428 := known Tb.tys Tb.fns (all_nil) k9428_run
end Fn
end Go.Proofs.YtggkbakjmejojaaGreatDoor
