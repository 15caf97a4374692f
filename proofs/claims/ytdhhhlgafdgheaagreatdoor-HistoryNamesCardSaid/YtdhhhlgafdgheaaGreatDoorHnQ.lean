/- The law HistoryNames: its run and what it leans on. Conditions: none. -/
import Derived.Test.YtdhhhlgafdgheaaGreatDoorHnR
import Derived.Test.YtdhhhlgafdgheaaGreatDoorHnK0
import Derived.Test.YtdhhhlgafdgheaaGreatDoorHnK1
import Derived.Test.YtdhhhlgafdgheaaGreatDoorHnK2
set_option maxRecDepth 100000
namespace Go.Proofs.YtdhhhlgafdgheaaGreatDoor
open Go Go.Abs Cu
namespace Hn
theorem ks_ok : ∀ k ∈ [k563, k902, k1338, k1689], KnownOk Tryz.prog Tb.glob k := all_cons k563_ok (all_cons k902_ok (all_cons k1338_ok (all_cons k1689_ok (all_nil))))
end Hn
end Go.Proofs.YtdhhhlgafdgheaaGreatDoor
