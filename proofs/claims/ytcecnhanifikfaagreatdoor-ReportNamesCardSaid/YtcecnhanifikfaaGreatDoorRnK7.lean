/- ReportNames, run in parts: calls, run. Conditions: none. -/
import Derived.Test.YtcecnhanifikfaaGreatDoorBx
import Derived.Test.YtcecnhanifikfaaGreatDoorRnD
set_option maxRecDepth 10000000
namespace Go.Proofs.YtcecnhanifikfaaGreatDoor
open Go Go.Abs Cu
namespace Rn
theorem k152_run : runsS Bx.ex [] Tb.T 2000 60 k152 = true := by kernel_rfl
theorem k152_ok : KnownOk Tryz.prog Tb.glob k152 := knownS Tb.tys Tb.fns (Bx.ex_ok _) (all_nil) (Bx.ent 4 _ Tryz.func4 (by kernel_rfl) (by kernel_rfl)) k152_run
theorem k311_run : runsS Bx.ex [] Tb.T 2000 60 k311 = true := by kernel_rfl
theorem k311_ok : KnownOk Tryz.prog Tb.glob k311 := knownS Tb.tys Tb.fns (Bx.ex_ok _) (all_nil) (Bx.ent 4 _ Tryz.func4 (by kernel_rfl) (by kernel_rfl)) k311_run
theorem k4013_run : runsS Bx.ex [] Tb.T 2000 60 k4013 = true := by kernel_rfl
theorem k4013_ok : KnownOk Tryz.prog Tb.glob k4013 := knownS Tb.tys Tb.fns (Bx.ex_ok _) (all_nil) (Bx.ent 10 _ Tryz.func10 (by kernel_rfl) (by kernel_rfl)) k4013_run
end Rn
end Go.Proofs.YtcecnhanifikfaaGreatDoor
