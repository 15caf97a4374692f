/- ShrinkNames, run in parts: calls, run. Conditions: none. -/
import Derived.Test.YtggkbakjmejojaaGreatDoorShD
import Derived.Test.YtggkbakjmejojaaGreatDoorShK11
set_option maxRecDepth 100000
namespace Go.Proofs.YtggkbakjmejojaaGreatDoor
open Go Go.Abs Cu
namespace Sh
theorem k8723_run : runsSo [k9347] Tb.T 2000 60 k8723 = true := by kernel_rfl
theorem k8723_ok : KnownOk Tryz.prog Tb.glob k8723 := known Tb.tys Tb.fns (all_cons k9347_ok (all_nil)) k8723_run
end Sh
end Go.Proofs.YtggkbakjmejojaaGreatDoor
