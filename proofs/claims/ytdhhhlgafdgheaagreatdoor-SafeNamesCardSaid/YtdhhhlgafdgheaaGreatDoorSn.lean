/- The law SafeNames, run: it answers true. Conditions: none. -/
import Derived.Test.YtdhhhlgafdgheaaGreatDoorGl
set_option maxRecDepth 100000
namespace Go.Proofs.YtdhhhlgafdgheaaGreatDoor
open Go Go.Abs
theorem safe_run : tellsM (callM [] Tb.T 2000 60 5 [] st0) = true := by kernel_rfl
end Go.Proofs.YtdhhhlgafdgheaaGreatDoor
