/- FairNames, run in parts: calls, run. Conditions: none. -/
import Derived.Test.YtggkbakjmejojaaGreatDoorFnD
import Derived.Test.YtggkbakjmejojaaGreatDoorFnK18
set_option maxRecDepth 100000
namespace Go.Proofs.YtggkbakjmejojaaGreatDoor
open Go Go.Abs Cu
namespace Fn
theorem k4925_run : runsSo [k5137, k10185] Tb.T 2000 60 k4925 = true := by kernel_rfl
theorem k4925_ok : KnownOk Tryz.prog Tb.glob k4925 := known Tb.tys Tb.fns (all_cons k5137_ok (all_cons k10185_ok (all_nil))) k4925_run
end Fn
end Go.Proofs.YtggkbakjmejojaaGreatDoor
