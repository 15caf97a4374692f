/- ShrinkNames, run in parts: calls, run. Conditions: none. -/
import Derived.Test.YtggkbakjmejojaaGreatDoorShD
import Derived.Test.YtggkbakjmejojaaGreatDoorShK11
import Derived.Test.YtggkbakjmejojaaGreatDoorShK12
import Derived.Test.YtggkbakjmejojaaGreatDoorShK2
import Derived.Test.YtggkbakjmejojaaGreatDoorShK29
import Derived.Test.YtggkbakjmejojaaGreatDoorShK8
import Derived.Test.YtggkbakjmejojaaGreatDoorShK9
set_option maxRecDepth 100000
namespace Go.Proofs.YtggkbakjmejojaaGreatDoor
open Go Go.Abs Cu
namespace Sh
theorem k31491_run : runsSo [k31635, k33117, k34371, k35258, k36224, k37548] Tb.T 2000 60 k31491 = true := by kernel_rfl
theorem k31491_ok : KnownOk Tryz.prog Tb.glob k31491 := known Tb.tys Tb.fns (all_cons k31635_ok (all_cons k33117_ok (all_cons k34371_ok (all_cons k35258_ok (all_cons k36224_ok (all_cons k37548_ok (all_nil))))))) k31491_run
end Sh
end Go.Proofs.YtggkbakjmejojaaGreatDoor
