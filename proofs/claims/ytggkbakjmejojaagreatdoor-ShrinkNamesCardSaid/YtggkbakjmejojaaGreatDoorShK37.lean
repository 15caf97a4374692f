/- ShrinkNames, run in parts: calls, run. Conditions: none. -/
import Derived.Test.YtggkbakjmejojaaGreatDoorShD
import Derived.Test.YtggkbakjmejojaaGreatDoorShK22
import Derived.Test.YtggkbakjmejojaaGreatDoorShK24
import Derived.Test.YtggkbakjmejojaaGreatDoorShK31
import Derived.Test.YtggkbakjmejojaaGreatDoorShK34
set_option maxRecDepth 100000
namespace Go.Proofs.YtggkbakjmejojaaGreatDoor
open Go Go.Abs Cu
namespace Sh
theorem k8574_run : runsSo [k8575, k11312, k13409, k15888] Tb.T 2000 60 k8574 = true := by kernel_rfl
theorem k8574_ok : KnownOk Tryz.prog Tb.glob k8574 := known Tb.tys Tb.fns (all_cons k8575_ok (all_cons k11312_ok (all_cons k13409_ok (all_cons k15888_ok (all_nil))))) k8574_run
end Sh
end Go.Proofs.YtggkbakjmejojaaGreatDoor
