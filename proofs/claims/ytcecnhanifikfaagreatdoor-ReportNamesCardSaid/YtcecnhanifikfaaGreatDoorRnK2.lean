/- ReportNames, run in parts: calls, run. Conditions: none. -/
import Derived.Test.YtcecnhanifikfaaGreatDoorBx
import Derived.Test.YtcecnhanifikfaaGreatDoorRnD
set_option maxRecDepth 10000000
namespace Go.Proofs.YtcecnhanifikfaaGreatDoor
open Go Go.Abs Cu
namespace Rn
theorem k3258_run : runsS Bx.ex [] Tb.T 2000 60 k3258 = true := by kernel_rfl
theorem k3258_ok : KnownOk Tryz.prog Tb.glob k3258 := knownS Tb.tys Tb.fns (Bx.ex_ok _) (all_nil) (Bx.ent 10 _ Tryz.func10 (by kernel_rfl) (by kernel_rfl)) k3258_run
theorem k7591_run : runsS Bx.ex [] Tb.T 2000 60 k7591 = true := by kernel_rfl
theorem k7591_ok : KnownOk Tryz.prog Tb.glob k7591 := knownS Tb.tys Tb.fns (Bx.ex_ok _) (all_nil) (Bx.ent 31 _ Tryz.func31 (by kernel_rfl) (by kernel_rfl)) k7591_run
end Rn
end Go.Proofs.YtcecnhanifikfaaGreatDoor
