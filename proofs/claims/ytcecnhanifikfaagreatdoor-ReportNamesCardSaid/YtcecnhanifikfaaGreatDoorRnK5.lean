/- ReportNames, run in parts: calls, run. Conditions: none. -/
import Derived.Test.YtcecnhanifikfaaGreatDoorBx
import Derived.Test.YtcecnhanifikfaaGreatDoorRnD
set_option maxRecDepth 10000000
namespace Go.Proofs.YtcecnhanifikfaaGreatDoor
open Go Go.Abs Cu
namespace Rn
theorem k4410_run : runsS Bx.ex [] Tb.T 2000 60 k4410 = true := by kernel_rfl
theorem k4410_ok : KnownOk Tryz.prog Tb.glob k4410 := knownS Tb.tys Tb.fns (Bx.ex_ok _) (all_nil) (Bx.ent 10 _ Tryz.func10 (by kernel_rfl) (by kernel_rfl)) k4410_run
theorem k10069_run : runsS Bx.ex [] Tb.T 2000 60 k10069 = true := by kernel_rfl
theorem k10069_ok : KnownOk Tryz.prog Tb.glob k10069 := knownS Tb.tys Tb.fns (Bx.ex_ok _) (all_nil) (Bx.ent 4 _ Tryz.func4 (by kernel_rfl) (by kernel_rfl)) k10069_run
end Rn
end Go.Proofs.YtcecnhanifikfaaGreatDoor
