/- ShrinkNames, run in parts: calls, run. Conditions: none. -/
import Derived.Test.YtggkbakjmejojaaGreatDoorShD
set_option maxRecDepth 100000
namespace Go.Proofs.YtggkbakjmejojaaGreatDoor
open Go Go.Abs Cu
namespace Sh
theorem k29288_run : runsSo [] Tb.T 2000 60 k29288 = true := by kernel_rfl
theorem k29288_ok : KnownOk Tryz.prog Tb.glob k29288 := known Tb.tys Tb.fns (all_nil) k29288_run
theorem k32259_run : runsSo [] Tb.T 2000 60 k32259 = true := by kernel_rfl
theorem k32259_ok : KnownOk Tryz.prog Tb.glob k32259 := known Tb.tys Tb.fns (all_nil) k32259_run
end Sh
end Go.Proofs.YtggkbakjmejojaaGreatDoor
