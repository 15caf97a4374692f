/- The law HistoryNames, run: it answers true. Conditions: none. -/
import Derived.Test.YtdhhhlgafdgheaaGreatDoorGl
import Derived.Test.YtdhhhlgafdgheaaGreatDoorHnD
set_option maxRecDepth 100000
namespace Go.Proofs.YtdhhhlgafdgheaaGreatDoor
open Go Go.Abs Cu
namespace Hn
theorem run : tellsM (callM [k563, k902, k1338, k1689] Tb.T 2000 60 4 [] st0) = true := by kernel_rfl
end Hn
end Go.Proofs.YtdhhhlgafdgheaaGreatDoor
