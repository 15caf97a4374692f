/- ShrinkNames, run in parts: calls, run. Conditions: none. -/
import Derived.Test.YtggkbakjmejojaaGreatDoorShD
import Derived.Test.YtggkbakjmejojaaGreatDoorShK14
set_option maxRecDepth 100000
namespace Go.Proofs.YtggkbakjmejojaaGreatDoor
open Go Go.Abs Cu
namespace Sh
theorem k17519_run : runsSo [k18143] Tb.T 2000 60 k17519 = true := by kernel_rfl
theorem k17519_ok : KnownOk Tryz.prog Tb.glob k17519 := known Tb.tys Tb.fns (all_cons k18143_ok (all_nil)) k17519_run
end Sh
end Go.Proofs.YtggkbakjmejojaaGreatDoor
