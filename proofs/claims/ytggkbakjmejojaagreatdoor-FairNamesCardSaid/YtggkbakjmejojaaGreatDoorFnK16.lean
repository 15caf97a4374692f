/- FairNames, run in parts: calls, run. Conditions: none. -/
import Derived.Test.YtggkbakjmejojaaGreatDoorFnD
set_option maxRecDepth 100000
namespace Go.Proofs.YtggkbakjmejojaaGreatDoor
open Go Go.Abs Cu
namespace Fn
theorem k13652_run : runsSo [] Tb.T 2000 60 k13652 = true := by kernel_rfl
theorem k13652_ok : KnownOk Tryz.prog Tb.glob k13652 := known Tb.tys Tb.fns (all_nil) k13652_run
end Fn
end Go.Proofs.YtggkbakjmejojaaGreatDoor
