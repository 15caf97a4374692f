/- ReportNames, run in parts: calls, run. Conditions: none. -/
import Derived.Test.YtcecnhanifikfaaGreatDoorBx
import Derived.Test.YtcecnhanifikfaaGreatDoorRnD
set_option maxRecDepth 10000000
namespace Go.Proofs.YtcecnhanifikfaaGreatDoor
open Go Go.Abs Cu
namespace Rn
theorem k589_run : runsS Bx.ex [] Tb.T 2000 60 k589 = true := by kernel_rfl
theorem k589_ok : KnownOk Tryz.prog Tb.glob k589 := knownS Tb.tys Tb.fns (Bx.ex_ok _) (all_nil) (Bx.ent 5 _ Tryz.func5 (by kernel_rfl) (by kernel_rfl)) k589_run
theorem k4810_run : runsS Bx.ex [] Tb.T 2000 60 k4810 = true := by kernel_rfl
theorem k4810_ok : KnownOk Tryz.prog Tb.glob k4810 := knownS Tb.tys Tb.fns (Bx.ex_ok _) (all_nil) (Bx.ent 10 _ Tryz.func10 (by kernel_rfl) (by kernel_rfl)) k4810_run
end Rn
end Go.Proofs.YtcecnhanifikfaaGreatDoor
