/- ShrinkNames, run in parts: calls, run. Conditions: none. -/
import Derived.Test.YtggkbakjmejojaaGreatDoorShD
import Derived.Test.YtggkbakjmejojaaGreatDoorShK14
set_option maxRecDepth 100000
namespace Go.Proofs.YtggkbakjmejojaaGreatDoor
open Go Go.Abs Cu
namespace Sh
theorem k15888_run : runsSo [k16512] Tb.T 2000 60 k15888 = true := by kernel_rfl
theorem k15888_ok : KnownOk Tryz.prog Tb.glob k15888 := known Tb.tys Tb.fns (all_cons k16512_ok (all_nil)) k15888_run
end Sh
end Go.Proofs.YtggkbakjmejojaaGreatDoor
