/- ShrinkNames, run in parts: calls, run. Conditions: none. -/
import Derived.Test.YtggkbakjmejojaaGreatDoorShD
import Derived.Test.YtggkbakjmejojaaGreatDoorShK14
set_option maxRecDepth 100000
namespace Go.Proofs.YtggkbakjmejojaaGreatDoor
open Go Go.Abs Cu
namespace Sh
theorem k20397_run : runsSo [k21021] Tb.T 2000 60 k20397 = true := by kernel_rfl
theorem k20397_ok : KnownOk Tryz.prog Tb.glob k20397 := known Tb.tys Tb.fns (all_cons k21021_ok (all_nil)) k20397_run
end Sh
end Go.Proofs.YtggkbakjmejojaaGreatDoor
