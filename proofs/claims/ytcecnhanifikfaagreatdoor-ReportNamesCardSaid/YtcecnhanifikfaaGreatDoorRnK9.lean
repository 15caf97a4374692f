/- ReportNames, run in parts: calls, run. Conditions: none. -/
import Derived.Test.YtcecnhanifikfaaGreatDoorBx
import Derived.Test.YtcecnhanifikfaaGreatDoorRnD
set_option maxRecDepth 10000000
namespace Go.Proofs.YtcecnhanifikfaaGreatDoor
open Go Go.Abs Cu
namespace Rn
theorem k548_run : runsS Bx.ex [] Tb.T 2000 60 k548 = true := by kernel_rfl
theorem k548_ok : KnownOk Tryz.prog Tb.glob k548 := knownS Tb.tys Tb.fns (Bx.ex_ok _) (all_nil) (Bx.ent 5 _ Tryz.func5 (by kernel_rfl) (by kernel_rfl)) k548_run
theorem k9473_run : runsS Bx.ex [] Tb.T 2000 60 k9473 = true := by kernel_rfl
theorem k9473_ok : KnownOk Tryz.prog Tb.glob k9473 := knownS Tb.tys Tb.fns (Bx.ex_ok _) (all_nil) (Bx.ent 15 _ Tryz.func15 (by kernel_rfl) (by kernel_rfl)) k9473_run
end Rn
end Go.Proofs.YtcecnhanifikfaaGreatDoor
