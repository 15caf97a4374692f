/- ReportNames, run in parts: calls, run. Conditions: none. -/
import Derived.Test.YtcecnhanifikfaaGreatDoorBx
import Derived.Test.YtcecnhanifikfaaGreatDoorRnD
import Derived.Test.YtcecnhanifikfaaGreatDoorRnK1
set_option maxRecDepth 10000000
namespace Go.Proofs.YtcecnhanifikfaaGreatDoor
open Go Go.Abs Cu
namespace Rn
theorem k1388_run : runsS Bx.ex [k2053] Tb.T 2000 60 k1388 = true := by kernel_rfl
theorem k1388_ok : KnownOk Tryz.prog Tb.glob k1388 := knownS Tb.tys Tb.fns (Bx.ex_ok _) (all_cons k2053_ok (all_nil)) (Bx.ent 8 _ Tryz.func8 (by kernel_rfl) (by kernel_rfl)) k1388_run
end Rn
end Go.Proofs.YtcecnhanifikfaaGreatDoor
