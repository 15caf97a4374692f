/- ReportNames, run in parts: calls, run. Conditions: none. -/
import Derived.Test.YtcecnhanifikfaaGreatDoorBx
import Derived.Test.YtcecnhanifikfaaGreatDoorRnD
set_option maxRecDepth 10000000
namespace Go.Proofs.YtcecnhanifikfaaGreatDoor
open Go Go.Abs Cu
namespace Rn
theorem k68_run : runsS Bx.ex [] Tb.T 2000 60 k68 = true := by kernel_rfl
theorem k68_ok : KnownOk Tryz.prog Tb.glob k68 := knownS Tb.tys Tb.fns (Bx.ex_ok _) (all_nil) (Bx.ent 4 _ Tryz.func4 (by kernel_rfl) (by kernel_rfl)) k68_run
theorem k629_run : runsS Bx.ex [] Tb.T 2000 60 k629 = true := by kernel_rfl
theorem k629_ok : KnownOk Tryz.prog Tb.glob k629 := knownS Tb.tys Tb.fns (Bx.ex_ok _) (all_nil) (Bx.ent 5 _ Tryz.func5 (by kernel_rfl) (by kernel_rfl)) k629_run
theorem k9676_run : runsS Bx.ex [] Tb.T 2000 60 k9676 = true := by kernel_rfl
theorem k9676_ok : KnownOk Tryz.prog Tb.glob k9676 := knownS Tb.tys Tb.fns (Bx.ex_ok _) (all_nil) (Bx.ent 11 _ Tryz.func11 (by kernel_rfl) (by kernel_rfl)) k9676_run
end Rn
end Go.Proofs.YtcecnhanifikfaaGreatDoor
