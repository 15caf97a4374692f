/- ReportNames, run in parts: calls, run. Conditions: none. -/
import Derived.Test.YtcecnhanifikfaaGreatDoorBx
import Derived.Test.YtcecnhanifikfaaGreatDoorRnD
import Derived.Test.YtcecnhanifikfaaGreatDoorRnK2
import Derived.Test.YtcecnhanifikfaaGreatDoorRnK3
set_option maxRecDepth 10000000
namespace Go.Proofs.YtcecnhanifikfaaGreatDoor
open Go Go.Abs Cu
namespace Rn
theorem k6925_run : runsS Bx.ex [k7591, k8491] Tb.T 2000 60 k6925 = true := by kernel_rfl
theorem k6925_ok : KnownOk Tryz.prog Tb.glob k6925 := knownS Tb.tys Tb.fns (Bx.ex_ok _) (all_cons k7591_ok (all_cons k8491_ok (all_nil))) (Bx.ent 10 _ Tryz.func10 (by kernel_rfl) (by kernel_rfl)) k6925_run
end Rn
end Go.Proofs.YtcecnhanifikfaaGreatDoor
