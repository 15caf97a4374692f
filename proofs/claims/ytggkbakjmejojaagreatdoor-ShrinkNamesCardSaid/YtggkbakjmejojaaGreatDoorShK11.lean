/- ShrinkNames, run in parts: calls, run. Conditions: none. -/
import Derived.Test.YtggkbakjmejojaaGreatDoorShD
set_option maxRecDepth 100000
namespace Go.Proofs.YtggkbakjmejojaaGreatDoor
open Go Go.Abs Cu
namespace Sh
theorem k9347_run : runsSo [] Tb.T 2000 60 k9347 = true := by kernel_rfl
theorem k9347_ok : KnownOk Tryz.prog Tb.glob k9347 := known Tb.tys Tb.fns (all_nil) k9347_run
theorem k30459_run : runsSo [] Tb.T 2000 60 k30459 = true := by kernel_rfl
theorem k30459_ok : KnownOk Tryz.prog Tb.glob k30459 := known Tb.tys Tb.fns (all_nil) k30459_run
theorem k36224_run : runsSo [] Tb.T 2000 60 k36224 = true := by kernel_rfl
theorem k36224_ok : KnownOk Tryz.prog Tb.glob k36224 := known Tb.tys Tb.fns (all_nil) k36224_run
end Sh
end Go.Proofs.YtggkbakjmejojaaGreatDoor
