/- ShrinkNames, run in parts: calls, run. Conditions: none. -/
import Derived.Test.YtggkbakjmejojaaGreatDoorShD
set_option maxRecDepth 100000
namespace Go.Proofs.YtggkbakjmejojaaGreatDoor
open Go Go.Abs Cu
namespace Sh
theorem k2406_run : runsSo [] Tb.T 2000 60 k2406 = true := by kernel_rfl
theorem k2406_ok : KnownOk Tryz.prog Tb.glob k2406 := known Tb.tys Tb.fns (all_nil) k2406_run
theorem k35258_run : runsSo [] Tb.T 2000 60 k35258 = true := by kernel_rfl
theorem k35258_ok : KnownOk Tryz.prog Tb.glob k35258 := known Tb.tys Tb.fns (all_nil) k35258_run
end Sh
end Go.Proofs.YtggkbakjmejojaaGreatDoor
