/- ShrinkNames, run in parts: calls, run. Conditions: none. -/
import Derived.Test.YtggkbakjmejojaaGreatDoorShD
import Derived.Test.YtggkbakjmejojaaGreatDoorShK10
set_option maxRecDepth 100000
namespace Go.Proofs.YtggkbakjmejojaaGreatDoor
open Go Go.Abs Cu
namespace Sh
theorem k7093_run : runsSo [k7717] Tb.T 2000 60 k7093 = true := by kernel_rfl
theorem k7093_ok : KnownOk Tryz.prog Tb.glob k7093 := known Tb.tys Tb.fns (all_cons k7717_ok (all_nil)) k7093_run
end Sh
end Go.Proofs.YtggkbakjmejojaaGreatDoor
