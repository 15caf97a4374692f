/- ShrinkNames, run in parts: calls, run. Conditions: none. -/
import Derived.Test.YtggkbakjmejojaaGreatDoorShD
import Derived.Test.YtggkbakjmejojaaGreatDoorShK14
set_option maxRecDepth 100000
namespace Go.Proofs.YtggkbakjmejojaaGreatDoor
open Go Go.Abs Cu
namespace Sh
theorem k22911_run : runsSo [k23535] Tb.T 2000 60 k22911 = true := by kernel_rfl
theorem k22911_ok : KnownOk Tryz.prog Tb.glob k22911 := known Tb.tys Tb.fns (all_cons k23535_ok (all_nil)) k22911_run
end Sh
end Go.Proofs.YtggkbakjmejojaaGreatDoor
