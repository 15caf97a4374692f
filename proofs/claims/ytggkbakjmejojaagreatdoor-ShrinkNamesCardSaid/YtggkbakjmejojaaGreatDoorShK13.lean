/- ShrinkNames, run in parts: calls, run. Conditions: none. -/
import Derived.Test.YtggkbakjmejojaaGreatDoorShD
set_option maxRecDepth 100000
namespace Go.Proofs.YtggkbakjmejojaaGreatDoor
open Go Go.Abs Cu
namespace Sh
theorem k14180_run : runsSo [] Tb.T 2000 60 k14180 = true := by kernel_rfl
theorem k14180_ok : KnownOk Tryz.prog Tb.glob k14180 := known Tb.tys Tb.fns (all_nil) k14180_run
theorem k42904_run : runsSo [] Tb.T 2000 60 k42904 = true := by kernel_rfl
theorem k42904_ok : KnownOk Tryz.prog Tb.glob k42904 := known Tb.tys Tb.fns (all_nil) k42904_run
end Sh
end Go.Proofs.YtggkbakjmejojaaGreatDoor
