/- ShrinkNames, run in parts: calls, run. Conditions: none. -/
import Derived.Test.YtggkbakjmejojaaGreatDoorShD
set_option maxRecDepth 100000
namespace Go.Proofs.YtggkbakjmejojaaGreatDoor
open Go Go.Abs Cu
namespace Sh
theorem k778_run : runsSo [] Tb.T 2000 60 k778 = true := by kernel_rfl
theorem k778_ok : KnownOk Tryz.prog Tb.glob k778 := known Tb.tys Tb.fns (all_nil) k778_run
theorem k41903_run : runsSo [] Tb.T 2000 60 k41903 = true := by kernel_rfl
theorem k41903_ok : KnownOk Tryz.prog Tb.glob k41903 := known Tb.tys Tb.fns (all_nil) k41903_run
end Sh
end Go.Proofs.YtggkbakjmejojaaGreatDoor
