/- ShrinkNames, run in parts: calls, run. Conditions: none. -/
import Derived.Test.YtggkbakjmejojaaGreatDoorShD
set_option maxRecDepth 100000
namespace Go.Proofs.YtggkbakjmejojaaGreatDoor
open Go Go.Abs Cu
namespace Sh
theorem k16512_run : runsSo [] Tb.T 2000 60 k16512 = true := by kernel_rfl
theorem k16512_ok : KnownOk Tryz.prog Tb.glob k16512 := known Tb.tys Tb.fns (all_nil) k16512_run
theorem k18143_run : runsSo [] Tb.T 2000 60 k18143 = true := by kernel_rfl
theorem k18143_ok : KnownOk Tryz.prog Tb.glob k18143 := known Tb.tys Tb.fns (all_nil) k18143_run
theorem k21021_run : runsSo [] Tb.T 2000 60 k21021 = true := by kernel_rfl
theorem k21021_ok : KnownOk Tryz.prog Tb.glob k21021 := known Tb.tys Tb.fns (all_nil) k21021_run
theorem k23535_run : runsSo [] Tb.T 2000 60 k23535 = true := by kernel_rfl
theorem k23535_ok : KnownOk Tryz.prog Tb.glob k23535 := known Tb.tys Tb.fns (all_nil) k23535_run
end Sh
end Go.Proofs.YtggkbakjmejojaaGreatDoor
