/- LinearNames, run in parts: answers, together. Conditions: none. -/
import Derived.Test.YthojindafbcocaaGreatDoorLnG0a
import Derived.Test.YthojindafbcocaaGreatDoorLnG0b
import Derived.Test.YthojindafbcocaaGreatDoorLnG0c
import Derived.Test.YthojindafbcocaaGreatDoorLnG0d
import Derived.Test.YthojindafbcocaaGreatDoorLnG0e
import Derived.Test.YthojindafbcocaaGreatDoorLnG0f
set_option maxRecDepth 100000
namespace Go.Proofs.YthojindafbcocaaGreatDoor
open Go Go.Abs Cu
namespace Ln
theorem sp1_ok : CallSim Tryz.prog Tb.glob sp1 ∧ MonoF sp1 := orC_ok cm_ok (memoC_ok tabs_ok mt1_eq (allC (allC m0_ok (allC m27_ok (allN))) (allC (allC m2_ok (allN)) (allC (allC m3_ok (allC m24_ok (allN))) (allC (allC m4_ok (allC m6_ok (allC m9_ok (allC m18_ok (allC m19_ok (allC m20_ok (allC m21_ok (allC m29_ok (allC m31_ok (allC m34_ok (allN))))))))))) (allC (allC m8_ok (allC m10_ok (allC m13_ok (allC m33_ok (allC m35_ok (allC m38_ok (allN))))))) (allC (allC m25_ok (allC m26_ok (allC m28_ok (allN)))) (allN))))))))
end Ln
end Go.Proofs.YthojindafbcocaaGreatDoor
