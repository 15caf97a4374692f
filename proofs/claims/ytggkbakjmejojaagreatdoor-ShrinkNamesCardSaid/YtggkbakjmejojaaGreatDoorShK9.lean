/- ShrinkNames, run in parts: calls, run. Conditions: none. -/
import Derived.Test.YtggkbakjmejojaaGreatDoorShD
set_option maxRecDepth 100000
namespace Go.Proofs.YtggkbakjmejojaaGreatDoor
open Go Go.Abs Cu
namespace Sh
theorem k5243_run : runsSo [] Tb.T 2000 60 k5243 = true := by kernel_rfl
theorem k5243_ok : KnownOk Tryz.prog Tb.glob k5243 := known Tb.tys Tb.fns (all_nil) k5243_run
theorem k34371_run : runsSo [] Tb.T 2000 60 k34371 = true := by kernel_rfl
theorem k34371_ok : KnownOk Tryz.prog Tb.glob k34371 := known Tb.tys Tb.fns (all_nil) k34371_run
end Sh
end Go.Proofs.YtggkbakjmejojaaGreatDoor
