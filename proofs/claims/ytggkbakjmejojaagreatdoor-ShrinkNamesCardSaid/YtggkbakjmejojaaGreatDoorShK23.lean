/- ShrinkNames, run in parts: calls, run. Conditions: none. -/
import Derived.Test.YtggkbakjmejojaaGreatDoorShD
import Derived.Test.YtggkbakjmejojaaGreatDoorShK13
set_option maxRecDepth 100000
namespace Go.Proofs.YtggkbakjmejojaaGreatDoor
open Go Go.Abs Cu
namespace Sh
theorem k13556_run : runsSo [k14180] Tb.T 2000 60 k13556 = true := by kernel_rfl
theorem k13556_ok : KnownOk Tryz.prog Tb.glob k13556 := known Tb.tys Tb.fns (all_cons k14180_ok (all_nil)) k13556_run
end Sh
end Go.Proofs.YtggkbakjmejojaaGreatDoor
