/- ReportNames, run in parts: calls, run. Conditions: none. -/
import Derived.Test.YtcecnhanifikfaaGreatDoorBx
import Derived.Test.YtcecnhanifikfaaGreatDoorRnD
set_option maxRecDepth 10000000
namespace Go.Proofs.YtcecnhanifikfaaGreatDoor
open Go Go.Abs Cu
namespace Rn
theorem k699_run : runsS Bx.ex [] Tb.T 2000 60 k699 = true := by kernel_rfl
theorem k699_ok : KnownOk Tryz.prog Tb.glob k699 := knownS Tb.tys Tb.fns (Bx.ex_ok _) (all_nil) (Bx.ent 5 _ Tryz.func5 (by kernel_rfl) (by kernel_rfl)) k699_run
theorem k5287_run : runsS Bx.ex [] Tb.T 2000 60 k5287 = true := by kernel_rfl
theorem k5287_ok : KnownOk Tryz.prog Tb.glob k5287 := knownS Tb.tys Tb.fns (Bx.ex_ok _) (all_nil) (Bx.ent 10 _ Tryz.func10 (by kernel_rfl) (by kernel_rfl)) k5287_run
end Rn
end Go.Proofs.YtcecnhanifikfaaGreatDoor
