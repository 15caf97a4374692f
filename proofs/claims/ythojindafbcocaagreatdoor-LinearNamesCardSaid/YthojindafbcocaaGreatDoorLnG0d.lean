/- LinearNames, run in parts: answers, run. Conditions: none. -/
import Derived.Test.YthojindafbcocaaGreatDoorLnM
set_option maxRecDepth 100000
namespace Go.Proofs.YthojindafbcocaaGreatDoor
open Go Go.Abs Cu
namespace Ln
theorem m35_ok : MemoOk Tryz.prog Tb.glob tabs 3 326 m35 := memo_run (lf := 2000) (n := 60) Tb.tys Tb.fns cm_ok (by kernel_rfl)
theorem m9_ok : MemoOk Tryz.prog Tb.glob tabs 3 393 m9 := memo_run (lf := 2000) (n := 60) Tb.tys Tb.fns cm_ok (by kernel_rfl)
theorem m19_ok : MemoOk Tryz.prog Tb.glob tabs 3 393 m19 := memo_run (lf := 2000) (n := 60) Tb.tys Tb.fns cm_ok (by kernel_rfl)
end Ln
end Go.Proofs.YthojindafbcocaaGreatDoor
