/- ReportNames, run in parts: calls, run. Conditions: none. -/
import Derived.Test.YtcecnhanifikfaaGreatDoorBx
import Derived.Test.YtcecnhanifikfaaGreatDoorRnD
set_option maxRecDepth 10000000
namespace Go.Proofs.YtcecnhanifikfaaGreatDoor
open Go Go.Abs Cu
namespace Rn
theorem k2053_run : runsS Bx.ex [] Tb.T 2000 60 k2053 = true := by kernel_rfl
theorem k2053_ok : KnownOk Tryz.prog Tb.glob k2053 := knownS Tb.tys Tb.fns (Bx.ex_ok _) (all_nil) (Bx.ent 31 _ Tryz.func31 (by kernel_rfl) (by kernel_rfl)) k2053_run
theorem k3765_run : runsS Bx.ex [] Tb.T 2000 60 k3765 = true := by kernel_rfl
theorem k3765_ok : KnownOk Tryz.prog Tb.glob k3765 := knownS Tb.tys Tb.fns (Bx.ex_ok _) (all_nil) (Bx.ent 10 _ Tryz.func10 (by kernel_rfl) (by kernel_rfl)) k3765_run
end Rn
end Go.Proofs.YtcecnhanifikfaaGreatDoor
