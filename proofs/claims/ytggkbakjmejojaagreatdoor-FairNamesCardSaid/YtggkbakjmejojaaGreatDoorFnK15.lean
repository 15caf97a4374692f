/- FairNames, run in parts: calls, run. Conditions: none. -/
import Derived.Test.YtggkbakjmejojaaGreatDoorFnD
set_option maxRecDepth 100000
namespace Go.Proofs.YtggkbakjmejojaaGreatDoor
open Go Go.Abs Cu
namespace Fn
theorem k12844_run : runsSo [] Tb.T 2000 60 k12844 = true := by kernel_rfl
theorem k12844_ok : KnownOk Tryz.prog Tb.glob k12844 := known Tb.tys Tb.fns (all_nil) k12844_run
end Fn
end Go.Proofs.YtggkbakjmejojaaGreatDoor
