/- FairNames, run in parts: calls, run. Conditions: none. -/
import Derived.Test.YtggkbakjmejojaaGreatDoorFnD
set_option maxRecDepth 100000
namespace Go.Proofs.YtggkbakjmejojaaGreatDoor
open Go Go.Abs Cu
namespace Fn
theorem k11203_run : runsSo [] Tb.T 2000 60 k11203 = true := by kernel_rfl
theorem k11203_ok : KnownOk Tryz.prog Tb.glob k11203 := known Tb.tys Tb.fns (all_nil) k11203_run
end Fn
end Go.Proofs.YtggkbakjmejojaaGreatDoor
