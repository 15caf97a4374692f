/- ShrinkNames, run in parts: calls, run. Conditions: none. -/
import Derived.Test.YtggkbakjmejojaaGreatDoorShD
import Derived.Test.YtggkbakjmejojaaGreatDoorShK20
import Derived.Test.YtggkbakjmejojaaGreatDoorShK21
set_option maxRecDepth 100000
namespace Go.Proofs.YtggkbakjmejojaaGreatDoor
open Go Go.Abs Cu
namespace Sh
theorem k6946_run : runsSo [k7093] Tb.T 2000 60 k6946 = true := by kernel_rfl
theorem k6946_ok : KnownOk Tryz.prog Tb.glob k6946 := known Tb.tys Tb.fns (all_cons k7093_ok (all_nil)) k6946_run
theorem k8575_run : runsSo [k8723] Tb.T 2000 60 k8575 = true := by kernel_rfl
theorem k8575_ok : KnownOk Tryz.prog Tb.glob k8575 := known Tb.tys Tb.fns (all_cons k8723_ok (all_nil)) k8575_run
end Sh
end Go.Proofs.YtggkbakjmejojaaGreatDoor
