/- ReportNames, run in parts: calls, run. Conditions: none. -/
import Derived.Test.YtcecnhanifikfaaGreatDoorBx
import Derived.Test.YtcecnhanifikfaaGreatDoorRnD
import Derived.Test.YtcecnhanifikfaaGreatDoorRnK5
set_option maxRecDepth 10000000
namespace Go.Proofs.YtcecnhanifikfaaGreatDoor
open Go Go.Abs Cu
namespace Rn
theorem k9926_run : runsS Bx.ex [k10069] Tb.T 2000 60 k9926 = true := by kernel_rfl
theorem k9926_ok : KnownOk Tryz.prog Tb.glob k9926 := knownS Tb.tys Tb.fns (Bx.ex_ok _) (all_cons k10069_ok (all_nil)) (Bx.ent 16 _ Tryz.func16 (by kernel_rfl) (by kernel_rfl)) k9926_run
end Rn
end Go.Proofs.YtcecnhanifikfaaGreatDoor
