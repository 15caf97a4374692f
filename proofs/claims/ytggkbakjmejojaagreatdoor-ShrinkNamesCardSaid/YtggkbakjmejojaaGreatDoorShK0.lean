/- ShrinkNames, run in parts: calls, run. Conditions: none. -/
import Derived.Test.YtggkbakjmejojaaGreatDoorShD
set_option maxRecDepth 100000
namespace Go.Proofs.YtggkbakjmejojaaGreatDoor
open Go Go.Abs Cu
namespace Sh
theorem k40688_run : runsSo [] Tb.T 2000 60 k40688 = true := by kernel_rfl
theorem k40688_ok : KnownOk Tryz.prog Tb.glob k40688 := known Tb.tys Tb.fns (all_nil) k40688_run
end Sh
end Go.Proofs.YtggkbakjmejojaaGreatDoor
