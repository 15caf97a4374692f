/- ShrinkNames, run in parts: calls, run. Conditions: none. -/
import Derived.Test.YtggkbakjmejojaaGreatDoorShD
import Derived.Test.YtggkbakjmejojaaGreatDoorShK23
set_option maxRecDepth 100000
namespace Go.Proofs.YtggkbakjmejojaaGreatDoor
open Go Go.Abs Cu
namespace Sh
theorem k13409_run : runsSo [k13556] Tb.T 2000 60 k13409 = true := by kernel_rfl
theorem k13409_ok : KnownOk Tryz.prog Tb.glob k13409 := known Tb.tys Tb.fns (all_cons k13556_ok (all_nil)) k13409_run
end Sh
end Go.Proofs.YtggkbakjmejojaaGreatDoor
