/- ReportNames, run in parts: calls, run. Conditions: none. -/
import Derived.Test.YtcecnhanifikfaaGreatDoorBx
import Derived.Test.YtcecnhanifikfaaGreatDoorRnD
set_option maxRecDepth 10000000
namespace Go.Proofs.YtcecnhanifikfaaGreatDoor
open Go Go.Abs Cu
namespace Rn
theorem k5753_run : runsS Bx.ex [] Tb.T 2000 60 k5753 = true := by kernel_rfl
theorem k5753_ok : KnownOk Tryz.prog Tb.glob k5753 := knownS Tb.tys Tb.fns (Bx.ex_ok _) (all_nil) (Bx.ent 10 _ Tryz.func10 (by kernel_rfl) (by kernel_rfl)) k5753_run
end Rn
end Go.Proofs.YtcecnhanifikfaaGreatDoor
