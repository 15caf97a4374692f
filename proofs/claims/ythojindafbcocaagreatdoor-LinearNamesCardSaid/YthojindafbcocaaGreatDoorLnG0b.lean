/- LinearNames, run in parts: answers, run. Conditions: none. -/
import Derived.Test.YthojindafbcocaaGreatDoorLnM
set_option maxRecDepth 100000
namespace Go.Proofs.YthojindafbcocaaGreatDoor
open Go Go.Abs Cu
namespace Ln
theorem m10_ok : MemoOk Tryz.prog Tb.glob tabs 3 326 m10 := memo_run (lf := 2000) (n := 60) Tb.tys Tb.fns cm_ok (by kernel_rfl)
theorem m6_ok : MemoOk Tryz.prog Tb.glob tabs 3 393 m6 := memo_run (lf := 2000) (n := 60) Tb.tys Tb.fns cm_ok (by kernel_rfl)
theorem m20_ok : MemoOk Tryz.prog Tb.glob tabs 3 393 m20 := memo_run (lf := 2000) (n := 60) Tb.tys Tb.fns cm_ok (by kernel_rfl)
theorem m28_ok : MemoOk Tryz.prog Tb.glob tabs 3 20 m28 := memo_run (lf := 2000) (n := 60) Tb.tys Tb.fns cm_ok (by kernel_rfl)
end Ln
end Go.Proofs.YthojindafbcocaaGreatDoor
