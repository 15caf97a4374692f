/- HistoryNames, run in parts: calls, run. Conditions: none. -/
import Derived.Test.YtdhhhlgafdgheaaGreatDoorHnD
set_option maxRecDepth 100000
namespace Go.Proofs.YtdhhhlgafdgheaaGreatDoor
open Go Go.Abs Cu
namespace Hn
theorem k563_run : runsSo [] Tb.T 2000 60 k563 = true := by kernel_rfl
theorem k563_ok : KnownOk Tryz.prog Tb.glob k563 := known Tb.tys Tb.fns (all_nil) k563_run
theorem k902_run : runsSo [] Tb.T 2000 60 k902 = true := by kernel_rfl
theorem k902_ok : KnownOk Tryz.prog Tb.glob k902 := known Tb.tys Tb.fns (all_nil) k902_run
end Hn
end Go.Proofs.YtdhhhlgafdgheaaGreatDoor
