/- ScriptNames, run in parts: calls, run. Conditions: none. -/
import Derived.Test.YtdhhhlgafdgheaaGreatDoorSrD
set_option maxRecDepth 100000
namespace Go.Proofs.YtdhhhlgafdgheaaGreatDoor
open Go Go.Abs Cu
namespace Sr
theorem k1999_run : runsSo [] Tb.T 2000 60 k1999 = true := by kernel_rfl
theorem k1999_ok : KnownOk Tryz.prog Tb.glob k1999 := known Tb.tys Tb.fns (all_nil) k1999_run
theorem k2132_run : runsSo [] Tb.T 2000 60 k2132 = true := by kernel_rfl
theorem k2132_ok : KnownOk Tryz.prog Tb.glob k2132 := known Tb.tys Tb.fns (all_nil) k2132_run
theorem k2264_run : runsSo [] Tb.T 2000 60 k2264 = true := by kernel_rfl
theorem k2264_ok : KnownOk Tryz.prog Tb.glob k2264 := known Tb.tys Tb.fns (all_nil) k2264_run
theorem k2397_run : runsSo [] Tb.T 2000 60 k2397 = true := by kernel_rfl
theorem k2397_ok : KnownOk Tryz.prog Tb.glob k2397 := known Tb.tys Tb.fns (all_nil) k2397_run
theorem k2529_run : runsSo [] Tb.T 2000 60 k2529 = true := by kernel_rfl
theorem k2529_ok : KnownOk Tryz.prog Tb.glob k2529 := known Tb.tys Tb.fns (all_nil) k2529_run
theorem k2662_run : runsSo [] Tb.T 2000 60 k2662 = true := by kernel_rfl
theorem k2662_ok : KnownOk Tryz.prog Tb.glob k2662 := known Tb.tys Tb.fns (all_nil) k2662_run
end Sr
end Go.Proofs.YtdhhhlgafdgheaaGreatDoor
