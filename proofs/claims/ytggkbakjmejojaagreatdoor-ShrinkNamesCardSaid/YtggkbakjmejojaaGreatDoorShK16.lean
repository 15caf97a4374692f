/- ShrinkNames, run in parts: calls, run. Conditions: none. -/
import Derived.Test.YtggkbakjmejojaaGreatDoorShD
import Derived.Test.YtggkbakjmejojaaGreatDoorShK6
set_option maxRecDepth 100000
namespace Go.Proofs.YtggkbakjmejojaaGreatDoor
open Go Go.Abs Cu
namespace Sh
theorem k38252_run : runsSo [k38254] Tb.T 2000 60 k38252 = true := by kernel_rfl
theorem k38252_ok : KnownOk Tryz.prog Tb.glob k38252 := known Tb.tys Tb.fns (all_cons k38254_ok (all_nil)) k38252_run
end Sh
end Go.Proofs.YtggkbakjmejojaaGreatDoor
