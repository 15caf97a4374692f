/- LinearNames, run in parts: answers, run. Conditions: none. -/
import Derived.Test.YthojindafbcocaaGreatDoorLnM
set_option maxRecDepth 100000
namespace Go.Proofs.YthojindafbcocaaGreatDoor
open Go Go.Abs Cu
namespace Ln
theorem m8_ok : MemoOk Tryz.prog Tb.glob tabs 3 326 m8 := memo_run (lf := 2000) (n := 60) Tb.tys Tb.fns cm_ok (by kernel_rfl)
theorem m18_ok : MemoOk Tryz.prog Tb.glob tabs 3 393 m18 := memo_run (lf := 2000) (n := 60) Tb.tys Tb.fns cm_ok (by kernel_rfl)
theorem m34_ok : MemoOk Tryz.prog Tb.glob tabs 3 393 m34 := memo_run (lf := 2000) (n := 60) Tb.tys Tb.fns cm_ok (by kernel_rfl)
theorem m25_ok : MemoOk Tryz.prog Tb.glob tabs 3 20 m25 := memo_run (lf := 2000) (n := 60) Tb.tys Tb.fns cm_ok (by kernel_rfl)
theorem m0_ok : MemoOk Tryz.prog Tb.glob tabs 3 48 m0 := memo_run (lf := 2000) (n := 60) Tb.tys Tb.fns cm_ok (by kernel_rfl)
theorem m24_ok : MemoOk Tryz.prog Tb.glob tabs 3 101 m24 := memo_run (lf := 2000) (n := 60) Tb.tys Tb.fns cm_ok (by kernel_rfl)
theorem m3_ok : MemoOk Tryz.prog Tb.glob tabs 3 101 m3 := memo_run (lf := 2000) (n := 60) Tb.tys Tb.fns cm_ok (by kernel_rfl)
theorem m2_ok : MemoOk Tryz.prog Tb.glob tabs 3 252 m2 := memo_run (lf := 2000) (n := 60) Tb.tys Tb.fns cm_ok (by kernel_rfl)
theorem m27_ok : MemoOk Tryz.prog Tb.glob tabs 3 48 m27 := memo_run (lf := 2000) (n := 60) Tb.tys Tb.fns cm_ok (by kernel_rfl)
theorem m26_ok : MemoOk Tryz.prog Tb.glob tabs 3 20 m26 := memo_run (lf := 2000) (n := 60) Tb.tys Tb.fns cm_ok (by kernel_rfl)
end Ln
end Go.Proofs.YthojindafbcocaaGreatDoor
