/- ScriptNames, run in parts: calls, run. Conditions: none. -/
import Derived.Test.YtdhhhlgafdgheaaGreatDoorSrD
set_option maxRecDepth 100000
namespace Go.Proofs.YtdhhhlgafdgheaaGreatDoor
open Go Go.Abs Cu
namespace Sr
theorem k3203_run : runsSo [] Tb.T 2000 60 k3203 = true := by kernel_rfl
theorem k3203_ok : KnownOk Tryz.prog Tb.glob k3203 := known Tb.tys Tb.fns (all_nil) k3203_run
end Sr
end Go.Proofs.YtdhhhlgafdgheaaGreatDoor
