/- ReportNames, run in parts: calls, run. Conditions: none. -/
import Derived.Test.YtcecnhanifikfaaGreatDoorBx
import Derived.Test.YtcecnhanifikfaaGreatDoorRnD
set_option maxRecDepth 10000000
namespace Go.Proofs.YtcecnhanifikfaaGreatDoor
open Go Go.Abs Cu
namespace Rn
theorem k8770_run : runsS Bx.ex [] Tb.T 2000 60 k8770 = true := by kernel_rfl
theorem k8770_ok : KnownOk Tryz.prog Tb.glob k8770 := knownS Tb.tys Tb.fns (Bx.ex_ok _) (all_nil) (Bx.ent 11 _ Tryz.func11 (by kernel_rfl) (by kernel_rfl)) k8770_run
theorem k9000_run : runsS Bx.ex [] Tb.T 2000 60 k9000 = true := by kernel_rfl
theorem k9000_ok : KnownOk Tryz.prog Tb.glob k9000 := knownS Tb.tys Tb.fns (Bx.ex_ok _) (all_nil) (Bx.ent 13 _ Tryz.func13 (by kernel_rfl) (by kernel_rfl)) k9000_run
end Rn
end Go.Proofs.YtcecnhanifikfaaGreatDoor
