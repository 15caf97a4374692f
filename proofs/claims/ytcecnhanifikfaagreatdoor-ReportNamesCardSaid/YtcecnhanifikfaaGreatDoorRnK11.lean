/- ReportNames, run in parts: calls, run. Conditions: none. -/
import Derived.Test.YtcecnhanifikfaaGreatDoorBx
import Derived.Test.YtcecnhanifikfaaGreatDoorRnD
set_option maxRecDepth 10000000
namespace Go.Proofs.YtcecnhanifikfaaGreatDoor
open Go Go.Abs Cu
namespace Rn
theorem k670_run : runsS Bx.ex [] Tb.T 2000 60 k670 = true := by kernel_rfl
theorem k670_ok : KnownOk Tryz.prog Tb.glob k670 := knownS Tb.tys Tb.fns (Bx.ex_ok _) (all_nil) (Bx.ent 5 _ Tryz.func5 (by kernel_rfl) (by kernel_rfl)) k670_run
theorem k741_run : runsS Bx.ex [] Tb.T 2000 60 k741 = true := by kernel_rfl
theorem k741_ok : KnownOk Tryz.prog Tb.glob k741 := knownS Tb.tys Tb.fns (Bx.ex_ok _) (all_nil) (Bx.ent 7 _ Tryz.func7 (by kernel_rfl) (by kernel_rfl)) k741_run
end Rn
end Go.Proofs.YtcecnhanifikfaaGreatDoor
