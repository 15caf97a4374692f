/- LinearNames, run in parts: answers, together. Conditions: none. -/
import Derived.Test.YthojindafbcocaaGreatDoorLnG2a
set_option maxRecDepth 100000
namespace Go.Proofs.YthojindafbcocaaGreatDoor
open Go Go.Abs Cu
namespace Ln
theorem sp3_ok : CallSim Tryz.prog Tb.glob sp3 ∧ MonoF sp3 := orC_ok cm_ok (memoC_ok tabs_ok mt3_eq (allC (allC m0_ok (allC m27_ok (allN))) (allC (allC m1_ok (allN)) (allC (allC m2_ok (allN)) (allC (allC m3_ok (allC m24_ok (allN))) (allC (allC m4_ok (allC m6_ok (allC m9_ok (allC m18_ok (allC m19_ok (allC m20_ok (allC m21_ok (allC m29_ok (allC m31_ok (allC m34_ok (allN))))))))))) (allC (allC m5_ok (allC m11_ok (allC m14_ok (allC m16_ok (allC m30_ok (allC m36_ok (allN))))))) (allC (allC m7_ok (allC m32_ok (allN))) (allC (allC m8_ok (allC m10_ok (allC m13_ok (allC m33_ok (allC m35_ok (allC m38_ok (allN))))))) (allC (allC m12_ok (allC m22_ok (allC m37_ok (allN)))) (allC (allC m15_ok (allN)) (allC (allC m17_ok (allN)) (allC (allC m23_ok (allN)) (allC (allC m25_ok (allC m26_ok (allC m28_ok (allN)))) (allN)))))))))))))))
end Ln
end Go.Proofs.YthojindafbcocaaGreatDoor
