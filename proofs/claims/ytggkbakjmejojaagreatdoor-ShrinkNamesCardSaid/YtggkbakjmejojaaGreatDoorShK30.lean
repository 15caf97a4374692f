/- ShrinkNames, run in parts: calls, run. Conditions: none. -/
import Derived.Test.YtggkbakjmejojaaGreatDoorShD
import Derived.Test.YtggkbakjmejojaaGreatDoorShK3
import Derived.Test.YtggkbakjmejojaaGreatDoorShK4
set_option maxRecDepth 100000
namespace Go.Proofs.YtggkbakjmejojaaGreatDoor
open Go Go.Abs Cu
namespace Sh
theorem k25350_run : runsSo [k25351, k27321] Tb.T 2000 60 k25350 = true := by kernel_rfl
theorem k25350_ok : KnownOk Tryz.prog Tb.glob k25350 := known Tb.tys Tb.fns (all_cons k25351_ok (all_cons k27321_ok (all_nil))) k25350_run
end Sh
end Go.Proofs.YtggkbakjmejojaaGreatDoor
