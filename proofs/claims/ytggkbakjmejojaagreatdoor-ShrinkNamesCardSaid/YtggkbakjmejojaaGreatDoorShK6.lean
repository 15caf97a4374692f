/- ShrinkNames, run in parts: calls, run. Conditions: none. -/
import Derived.Test.YtggkbakjmejojaaGreatDoorShD
set_option maxRecDepth 100000
namespace Go.Proofs.YtggkbakjmejojaaGreatDoor
open Go Go.Abs Cu
namespace Sh
theorem k31168_run : runsSo [] Tb.T 2000 60 k31168 = true := by kernel_rfl
theorem k31168_ok : KnownOk Tryz.prog Tb.glob k31168 := known Tb.tys Tb.fns (all_nil) k31168_run
theorem k38254_run : runsSo [] Tb.T 2000 60 k38254 = true := by kernel_rfl
theorem k38254_ok : KnownOk Tryz.prog Tb.glob k38254 := known Tb.tys Tb.fns (all_nil) k38254_run
end Sh
end Go.Proofs.YtggkbakjmejojaaGreatDoor
