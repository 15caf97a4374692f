/- ShrinkNames, run in parts: calls, run. Conditions: none. -/
import Derived.Test.YtggkbakjmejojaaGreatDoorShD
import Derived.Test.YtggkbakjmejojaaGreatDoorShK12
set_option maxRecDepth 100000
namespace Go.Proofs.YtggkbakjmejojaaGreatDoor
open Go Go.Abs Cu
namespace Sh
theorem k11312_run : runsSo [k11936] Tb.T 2000 60 k11312 = true := by kernel_rfl
theorem k11312_ok : KnownOk Tryz.prog Tb.glob k11312 := known Tb.tys Tb.fns (all_cons k11936_ok (all_nil)) k11312_run
end Sh
end Go.Proofs.YtggkbakjmejojaaGreatDoor
