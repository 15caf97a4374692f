/- ShrinkNames, run in parts: calls, run. Conditions: none. -/
import Derived.Test.YtggkbakjmejojaaGreatDoorShD
set_option maxRecDepth 100000
namespace Go.Proofs.YtggkbakjmejojaaGreatDoor
open Go Go.Abs Cu
namespace Sh
theorem k33117_run : runsSo [] Tb.T 2000 60 k33117 = true := by kernel_rfl
theorem k33117_ok : KnownOk Tryz.prog Tb.glob k33117 := known Tb.tys Tb.fns (all_nil) k33117_run
end Sh
end Go.Proofs.YtggkbakjmejojaaGreatDoor
