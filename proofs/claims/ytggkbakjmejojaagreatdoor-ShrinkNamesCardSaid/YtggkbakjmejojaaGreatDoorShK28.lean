/- ShrinkNames, run in parts: calls, run. Conditions: none. -/
import Derived.Test.YtggkbakjmejojaaGreatDoorShD
import Derived.Test.YtggkbakjmejojaaGreatDoorShK15
set_option maxRecDepth 100000
namespace Go.Proofs.YtggkbakjmejojaaGreatDoor
open Go Go.Abs Cu
namespace Sh
theorem k28664_run : runsSo [k29288] Tb.T 2000 60 k28664 = true := by kernel_rfl
theorem k28664_ok : KnownOk Tryz.prog Tb.glob k28664 := known Tb.tys Tb.fns (all_cons k29288_ok (all_nil)) k28664_run
end Sh
end Go.Proofs.YtggkbakjmejojaaGreatDoor
