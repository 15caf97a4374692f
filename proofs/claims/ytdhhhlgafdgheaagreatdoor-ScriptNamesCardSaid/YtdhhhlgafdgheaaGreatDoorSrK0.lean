/- ScriptNames, run in parts: calls, run. Conditions: none. -/
import Derived.Test.YtdhhhlgafdgheaaGreatDoorSrD
set_option maxRecDepth 100000
namespace Go.Proofs.YtdhhhlgafdgheaaGreatDoor
open Go Go.Abs Cu
namespace Sr
theorem k144_run : runsSo [] Tb.T 2000 60 k144 = true := by kernel_rfl
theorem k144_ok : KnownOk Tryz.prog Tb.glob k144 := known Tb.tys Tb.fns (all_nil) k144_run
theorem k277_run : runsSo [] Tb.T 2000 60 k277 = true := by kernel_rfl
theorem k277_ok : KnownOk Tryz.prog Tb.glob k277 := known Tb.tys Tb.fns (all_nil) k277_run
theorem k409_run : runsSo [] Tb.T 2000 60 k409 = true := by kernel_rfl
theorem k409_ok : KnownOk Tryz.prog Tb.glob k409 := known Tb.tys Tb.fns (all_nil) k409_run
theorem k542_run : runsSo [] Tb.T 2000 60 k542 = true := by kernel_rfl
theorem k542_ok : KnownOk Tryz.prog Tb.glob k542 := known Tb.tys Tb.fns (all_nil) k542_run
theorem k674_run : runsSo [] Tb.T 2000 60 k674 = true := by kernel_rfl
theorem k674_ok : KnownOk Tryz.prog Tb.glob k674 := known Tb.tys Tb.fns (all_nil) k674_run
theorem k807_run : runsSo [] Tb.T 2000 60 k807 = true := by kernel_rfl
theorem k807_ok : KnownOk Tryz.prog Tb.glob k807 := known Tb.tys Tb.fns (all_nil) k807_run
theorem k939_run : runsSo [] Tb.T 2000 60 k939 = true := by kernel_rfl
theorem k939_ok : KnownOk Tryz.prog Tb.glob k939 := known Tb.tys Tb.fns (all_nil) k939_run
end Sr
end Go.Proofs.YtdhhhlgafdgheaaGreatDoor
