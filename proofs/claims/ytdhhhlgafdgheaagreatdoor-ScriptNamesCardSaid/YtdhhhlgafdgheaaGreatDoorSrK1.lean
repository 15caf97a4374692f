/- ScriptNames, run in parts: calls, run. Conditions: none. -/
import Derived.Test.YtdhhhlgafdgheaaGreatDoorSrD
set_option maxRecDepth 100000
namespace Go.Proofs.YtdhhhlgafdgheaaGreatDoor
open Go Go.Abs Cu
namespace Sr
theorem k1072_run : runsSo [] Tb.T 2000 60 k1072 = true := by kernel_rfl
theorem k1072_ok : KnownOk Tryz.prog Tb.glob k1072 := known Tb.tys Tb.fns (all_nil) k1072_run
theorem k1204_run : runsSo [] Tb.T 2000 60 k1204 = true := by kernel_rfl
theorem k1204_ok : KnownOk Tryz.prog Tb.glob k1204 := known Tb.tys Tb.fns (all_nil) k1204_run
theorem k1337_run : runsSo [] Tb.T 2000 60 k1337 = true := by kernel_rfl
theorem k1337_ok : KnownOk Tryz.prog Tb.glob k1337 := known Tb.tys Tb.fns (all_nil) k1337_run
theorem k1469_run : runsSo [] Tb.T 2000 60 k1469 = true := by kernel_rfl
theorem k1469_ok : KnownOk Tryz.prog Tb.glob k1469 := known Tb.tys Tb.fns (all_nil) k1469_run
theorem k1602_run : runsSo [] Tb.T 2000 60 k1602 = true := by kernel_rfl
theorem k1602_ok : KnownOk Tryz.prog Tb.glob k1602 := known Tb.tys Tb.fns (all_nil) k1602_run
theorem k1734_run : runsSo [] Tb.T 2000 60 k1734 = true := by kernel_rfl
theorem k1734_ok : KnownOk Tryz.prog Tb.glob k1734 := known Tb.tys Tb.fns (all_nil) k1734_run
theorem k1867_run : runsSo [] Tb.T 2000 60 k1867 = true := by kernel_rfl
theorem k1867_ok : KnownOk Tryz.prog Tb.glob k1867 := known Tb.tys Tb.fns (all_nil) k1867_run
end Sr
end Go.Proofs.YtdhhhlgafdgheaaGreatDoor
