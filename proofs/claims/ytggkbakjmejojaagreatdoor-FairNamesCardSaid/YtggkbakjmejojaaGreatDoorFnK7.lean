/- FairNames, run in parts: calls, run. Conditions: none. -/
import Derived.Test.YtggkbakjmejojaaGreatDoorFnD
set_option maxRecDepth 100000
namespace Go.Proofs.YtggkbakjmejojaaGreatDoor
open Go Go.Abs Cu
namespace Fn
theorem k6155_run : runsSo [] Tb.T 2000 60 k6155 = true := by kernel_rfl
theorem k6155_ok : KnownOk Tryz.prog Tb.glob k6155 := known Tb.tys Tb.fns (all_nil) k6155_run
end Fn
end Go.Proofs.YtggkbakjmejojaaGreatDoor
