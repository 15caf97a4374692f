/- FairNames, run in parts: calls, run. Conditions: none. -/
import Derived.Test.YtggkbakjmejojaaGreatDoorFnD
set_option maxRecDepth 100000
namespace Go.Proofs.YtggkbakjmejojaaGreatDoor
open Go Go.Abs Cu
namespace Fn
theorem k1228_run : runsSo [] Tb.T 2000 60 k1228 = true := by kernel_rfl
theorem k1228_ok : KnownOk Tryz.prog Tb.glob k1228 := known Tb.tys Tb.fns (all_nil) k1228_run
end Fn
end Go.Proofs.YtggkbakjmejojaaGreatDoor
