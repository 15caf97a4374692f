/- ShrinkNames, run in parts: calls, run. Conditions: none. -/
import Derived.Test.YtggkbakjmejojaaGreatDoorShD
import Derived.Test.YtggkbakjmejojaaGreatDoorShK15
set_option maxRecDepth 100000
namespace Go.Proofs.YtggkbakjmejojaaGreatDoor
open Go Go.Abs Cu
namespace Sh
theorem k31635_run : runsSo [k32259] Tb.T 2000 60 k31635 = true := by kernel_rfl
theorem k31635_ok : KnownOk Tryz.prog Tb.glob k31635 := known Tb.tys Tb.fns (all_cons k32259_ok (all_nil)) k31635_run
end Sh
end Go.Proofs.YtggkbakjmejojaaGreatDoor
