/- ShrinkNames, run in parts: calls, run. Conditions: none. -/
import Derived.Test.YtggkbakjmejojaaGreatDoorShD
set_option maxRecDepth 100000
namespace Go.Proofs.YtggkbakjmejojaaGreatDoor
open Go Go.Abs Cu
namespace Sh
theorem k27321_run : runsSo [] Tb.T 2000 60 k27321 = true := by kernel_rfl
theorem k27321_ok : KnownOk Tryz.prog Tb.glob k27321 := known Tb.tys Tb.fns (all_nil) k27321_run
end Sh
end Go.Proofs.YtggkbakjmejojaaGreatDoor
