/- ScriptNames, run in parts: calls, run. Conditions: none. -/
import Derived.Test.YtdhhhlgafdgheaaGreatDoorSrD
set_option maxRecDepth 100000
namespace Go.Proofs.YtdhhhlgafdgheaaGreatDoor
open Go Go.Abs Cu
namespace Sr
theorem k5698_run : runsSo [] Tb.T 2000 60 k5698 = true := by kernel_rfl
theorem k5698_ok : KnownOk Tryz.prog Tb.glob k5698 := known Tb.tys Tb.fns (all_nil) k5698_run
end Sr
end Go.Proofs.YtdhhhlgafdgheaaGreatDoor
