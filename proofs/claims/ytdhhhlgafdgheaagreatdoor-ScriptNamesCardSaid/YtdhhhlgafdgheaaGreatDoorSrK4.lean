/- ScriptNames, run in parts: calls, run. Conditions: none. -/
import Derived.Test.YtdhhhlgafdgheaaGreatDoorSrD
set_option maxRecDepth 100000
namespace Go.Proofs.YtdhhhlgafdgheaaGreatDoor
open Go Go.Abs Cu
namespace Sr
theorem k4539_run : runsSo [] Tb.T 2000 60 k4539 = true := by kernel_rfl
theorem k4539_ok : KnownOk Tryz.prog Tb.glob k4539 := known Tb.tys Tb.fns (all_nil) k4539_run
end Sr
end Go.Proofs.YtdhhhlgafdgheaaGreatDoor
