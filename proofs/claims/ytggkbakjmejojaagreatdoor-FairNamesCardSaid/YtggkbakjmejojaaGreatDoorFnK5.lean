/- FairNames, run in parts: calls, run. Conditions: none. -/
import Derived.Test.YtggkbakjmejojaaGreatDoorFnD
import Derived.Test.YtggkbakjmejojaaGreatDoorFnK3
import Derived.Test.YtggkbakjmejojaaGreatDoorFnK4
set_option maxRecDepth 100000
namespace Go.Proofs.YtggkbakjmejojaaGreatDoor
open Go Go.Abs Cu
namespace Fn
theorem k3091_run : runsSo [k3299, k4134] Tb.T 2000 60 k3091 = true := by kernel_rfl
theorem k3091_ok : KnownOk Tryz.prog Tb.glob k3091 := known Tb.tys Tb.fns (all_cons k3299_ok (all_cons k4134_ok (all_nil))) k3091_run
end Fn
end Go.Proofs.YtggkbakjmejojaaGreatDoor
