/- HistoryNames, run in parts: calls, run. Conditions: none. -/
import Derived.Test.YtdhhhlgafdgheaaGreatDoorHnD
set_option maxRecDepth 100000
namespace Go.Proofs.YtdhhhlgafdgheaaGreatDoor
open Go Go.Abs Cu
namespace Hn
theorem k1689_run : runsSo [] Tb.T 2000 60 k1689 = true := by kernel_rfl
theorem k1689_ok : KnownOk Tryz.prog Tb.glob k1689 := known Tb.tys Tb.fns (all_nil) k1689_run
end Hn
end Go.Proofs.YtdhhhlgafdgheaaGreatDoor
