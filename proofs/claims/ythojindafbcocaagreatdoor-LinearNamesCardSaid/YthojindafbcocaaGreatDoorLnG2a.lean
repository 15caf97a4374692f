/- LinearNames, run in parts: answers, run. Conditions: none. -/
import Derived.Test.YthojindafbcocaaGreatDoorLnX2
set_option maxRecDepth 100000
namespace Go.Proofs.YthojindafbcocaaGreatDoor
open Go Go.Abs Cu
namespace Ln
theorem m12_ok : MemoOk Tryz.prog Tb.glob tabs 3 152 m12 := memo_run (lf := 2000) (n := 60) Tb.tys Tb.fns sp2_ok (by kernel_rfl)
theorem m22_ok : MemoOk Tryz.prog Tb.glob tabs 3 152 m22 := memo_run (lf := 2000) (n := 60) Tb.tys Tb.fns sp2_ok (by kernel_rfl)
theorem m37_ok : MemoOk Tryz.prog Tb.glob tabs 3 152 m37 := memo_run (lf := 2000) (n := 60) Tb.tys Tb.fns sp2_ok (by kernel_rfl)
theorem m15_ok : MemoOk Tryz.prog Tb.glob tabs 3 163 m15 := memo_run (lf := 2000) (n := 60) Tb.tys Tb.fns sp2_ok (by kernel_rfl)
end Ln
end Go.Proofs.YthojindafbcocaaGreatDoor
