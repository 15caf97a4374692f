/- ReportNames, run in parts: calls, run. Conditions: none. -/
import Derived.Test.YtcecnhanifikfaaGreatDoorBx
import Derived.Test.YtcecnhanifikfaaGreatDoorRnD
set_option maxRecDepth 10000000
namespace Go.Proofs.YtcecnhanifikfaaGreatDoor
open Go Go.Abs Cu
namespace Rn
theorem k3530_run : runsS Bx.ex [] Tb.T 2000 60 k3530 = true := by kernel_rfl
theorem k3530_ok : KnownOk Tryz.prog Tb.glob k3530 := knownS Tb.tys Tb.fns (Bx.ex_ok _) (all_nil) (Bx.ent 10 _ Tryz.func10 (by kernel_rfl) (by kernel_rfl)) k3530_run
theorem k8491_run : runsS Bx.ex [] Tb.T 2000 60 k8491 = true := by kernel_rfl
theorem k8491_ok : KnownOk Tryz.prog Tb.glob k8491 := knownS Tb.tys Tb.fns (Bx.ex_ok _) (all_nil) (Bx.ent 31 _ Tryz.func31 (by kernel_rfl) (by kernel_rfl)) k8491_run
end Rn
end Go.Proofs.YtcecnhanifikfaaGreatDoor
