/- ScriptNames, run in parts: calls, run. Conditions: none. -/
import Derived.Test.YtdhhhlgafdgheaaGreatDoorSrD
import Derived.Test.YtdhhhlgafdgheaaGreatDoorSrK4
import Derived.Test.YtdhhhlgafdgheaaGreatDoorSrK5
set_option maxRecDepth 100000
namespace Go.Proofs.YtdhhhlgafdgheaaGreatDoor
open Go Go.Abs Cu
namespace Sr
theorem k4526_run : runsSo [k4539, k5698] Tb.T 2000 60 k4526 = true := by kernel_rfl
theorem k4526_ok : KnownOk Tryz.prog Tb.glob k4526 := known Tb.tys Tb.fns (all_cons k4539_ok (all_cons k5698_ok (all_nil))) k4526_run
end Sr
end Go.Proofs.YtdhhhlgafdgheaaGreatDoor
