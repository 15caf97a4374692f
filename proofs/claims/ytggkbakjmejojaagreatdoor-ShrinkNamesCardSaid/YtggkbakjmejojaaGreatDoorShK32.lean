/- ShrinkNames, run in parts: calls, run. Conditions: none. -/
import Derived.Test.YtggkbakjmejojaaGreatDoorShD
import Derived.Test.YtggkbakjmejojaaGreatDoorShK27
import Derived.Test.YtggkbakjmejojaaGreatDoorShK28
set_option maxRecDepth 100000
namespace Go.Proofs.YtggkbakjmejojaaGreatDoor
open Go Go.Abs Cu
namespace Sh
theorem k22763_run : runsSo [k22911] Tb.T 2000 60 k22763 = true := by kernel_rfl
theorem k22763_ok : KnownOk Tryz.prog Tb.glob k22763 := known Tb.tys Tb.fns (all_cons k22911_ok (all_nil)) k22763_run
theorem k28518_run : runsSo [k28664] Tb.T 2000 60 k28518 = true := by kernel_rfl
theorem k28518_ok : KnownOk Tryz.prog Tb.glob k28518 := known Tb.tys Tb.fns (all_cons k28664_ok (all_nil)) k28518_run
end Sh
end Go.Proofs.YtggkbakjmejojaaGreatDoor
