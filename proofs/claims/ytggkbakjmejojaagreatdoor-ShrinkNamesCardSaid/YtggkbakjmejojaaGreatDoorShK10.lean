/- ShrinkNames, run in parts: calls, run. Conditions: none. -/
import Derived.Test.YtggkbakjmejojaaGreatDoorShD
set_option maxRecDepth 100000
namespace Go.Proofs.YtggkbakjmejojaaGreatDoor
open Go Go.Abs Cu
namespace Sh
theorem k7717_run : runsSo [] Tb.T 2000 60 k7717 = true := by kernel_rfl
theorem k7717_ok : KnownOk Tryz.prog Tb.glob k7717 := known Tb.tys Tb.fns (all_nil) k7717_run
theorem k31020_run : runsSo [] Tb.T 2000 60 k31020 = true := by kernel_rfl
theorem k31020_ok : KnownOk Tryz.prog Tb.glob k31020 := known Tb.tys Tb.fns (all_nil) k31020_run
theorem k43592_run : runsSo [] Tb.T 2000 60 k43592 = true := by kernel_rfl
theorem k43592_ok : KnownOk Tryz.prog Tb.glob k43592 := known Tb.tys Tb.fns (all_nil) k43592_run
end Sh
end Go.Proofs.YtggkbakjmejojaaGreatDoor
