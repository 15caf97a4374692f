/- ReportNames, run in parts: calls, run. Conditions: none. -/
import Derived.Test.YtcecnhanifikfaaGreatDoorBx
import Derived.Test.YtcecnhanifikfaaGreatDoorRnD
set_option maxRecDepth 10000000
namespace Go.Proofs.YtcecnhanifikfaaGreatDoor
open Go Go.Abs Cu
namespace Rn
theorem k242_run : runsS Bx.ex [] Tb.T 2000 60 k242 = true := by kernel_rfl
theorem k242_ok : KnownOk Tryz.prog Tb.glob k242 := knownS Tb.tys Tb.fns (Bx.ex_ok _) (all_nil) (Bx.ent 4 _ Tryz.func4 (by kernel_rfl) (by kernel_rfl)) k242_run
theorem k9200_run : runsS Bx.ex [] Tb.T 2000 60 k9200 = true := by kernel_rfl
theorem k9200_ok : KnownOk Tryz.prog Tb.glob k9200 := knownS Tb.tys Tb.fns (Bx.ex_ok _) (all_nil) (Bx.ent 14 _ Tryz.func14 (by kernel_rfl) (by kernel_rfl)) k9200_run
end Rn
end Go.Proofs.YtcecnhanifikfaaGreatDoor
