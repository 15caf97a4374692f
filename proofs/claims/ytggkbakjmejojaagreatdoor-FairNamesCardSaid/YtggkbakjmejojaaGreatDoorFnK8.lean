/- FairNames, run in parts: calls, run. Conditions: none. -/
import Derived.Test.YtggkbakjmejojaaGreatDoorFnD
set_option maxRecDepth 100000
namespace Go.Proofs.YtggkbakjmejojaaGreatDoor
open Go Go.Abs Cu
namespace Fn
theorem k6964_run : runsSo [] Tb.T 2000 60 k6964 = true := by kernel_rfl
theorem k6964_ok : KnownOk Tryz.prog Tb.glob k6964 := known Tb.tys Tb.fns (all_nil) k6964_run
end Fn
end Go.Proofs.YtggkbakjmejojaaGreatDoor
