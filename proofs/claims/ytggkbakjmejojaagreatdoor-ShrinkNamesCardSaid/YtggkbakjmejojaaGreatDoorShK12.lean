/- ShrinkNames, run in parts: calls, run. Conditions: none. -/
import Derived.Test.YtggkbakjmejojaaGreatDoorShD
set_option maxRecDepth 100000
namespace Go.Proofs.YtggkbakjmejojaaGreatDoor
open Go Go.Abs Cu
namespace Sh
theorem k11936_run : runsSo [] Tb.T 2000 60 k11936 = true := by kernel_rfl
theorem k11936_ok : KnownOk Tryz.prog Tb.glob k11936 := known Tb.tys Tb.fns (all_nil) k11936_run
theorem k37548_run : runsSo [] Tb.T 2000 60 k37548 = true := by kernel_rfl
theorem k37548_ok : KnownOk Tryz.prog Tb.glob k37548 := known Tb.tys Tb.fns (all_nil) k37548_run
end Sh
end Go.Proofs.YtggkbakjmejojaaGreatDoor
