/- FairNames, run in parts: calls, run. Conditions: none. -/
import Derived.Test.YtggkbakjmejojaaGreatDoorFnD
set_option maxRecDepth 100000
namespace Go.Proofs.YtggkbakjmejojaaGreatDoor
open Go Go.Abs Cu
namespace Fn
theorem k620_run : runsSo [] Tb.T 2000 60 k620 = true := by kernel_rfl
theorem k620_ok : KnownOk Tryz.prog Tb.glob k620 := known Tb.tys Tb.fns (all_nil) k620_run
theorem k423_run : runsSo [] Tb.T 2000 60 k423 = true := by kernel_rfl
theorem k423_ok : KnownOk Tryz.prog Tb.glob k423 := known Tb.tys Tb.fns (all_nil) k423_run
end Fn
end Go.Proofs.YtggkbakjmejojaaGreatDoor
