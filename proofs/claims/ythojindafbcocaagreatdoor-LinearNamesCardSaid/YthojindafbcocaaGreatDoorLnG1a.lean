/- LinearNames, run in parts: answers, run. Conditions: none. -/
import Derived.Test.YthojindafbcocaaGreatDoorLnX1
set_option maxRecDepth 100000
namespace Go.Proofs.YthojindafbcocaaGreatDoor
open Go Go.Abs Cu
namespace Ln
theorem m7_ok : MemoOk Tryz.prog Tb.glob tabs 3 223 m7 := memo_run (lf := 2000) (n := 60) Tb.tys Tb.fns sp1_ok (by kernel_rfl)
theorem m32_ok : MemoOk Tryz.prog Tb.glob tabs 3 223 m32 := memo_run (lf := 2000) (n := 60) Tb.tys Tb.fns sp1_ok (by kernel_rfl)
theorem m17_ok : MemoOk Tryz.prog Tb.glob tabs 3 241 m17 := memo_run (lf := 2000) (n := 60) Tb.tys Tb.fns sp1_ok (by kernel_rfl)
theorem m1_ok : MemoOk Tryz.prog Tb.glob tabs 3 161 m1 := memo_run (lf := 2000) (n := 60) Tb.tys Tb.fns sp1_ok (by kernel_rfl)
theorem m23_ok : MemoOk Tryz.prog Tb.glob tabs 3 383 m23 := memo_run (lf := 2000) (n := 60) Tb.tys Tb.fns sp1_ok (by kernel_rfl)
theorem m14_ok : MemoOk Tryz.prog Tb.glob tabs 3 224 m14 := memo_run (lf := 2000) (n := 60) Tb.tys Tb.fns sp1_ok (by kernel_rfl)
theorem m16_ok : MemoOk Tryz.prog Tb.glob tabs 3 224 m16 := memo_run (lf := 2000) (n := 60) Tb.tys Tb.fns sp1_ok (by kernel_rfl)
theorem m5_ok : MemoOk Tryz.prog Tb.glob tabs 3 224 m5 := memo_run (lf := 2000) (n := 60) Tb.tys Tb.fns sp1_ok (by kernel_rfl)
theorem m11_ok : MemoOk Tryz.prog Tb.glob tabs 3 224 m11 := memo_run (lf := 2000) (n := 60) Tb.tys Tb.fns sp1_ok (by kernel_rfl)
theorem m30_ok : MemoOk Tryz.prog Tb.glob tabs 3 224 m30 := memo_run (lf := 2000) (n := 60) Tb.tys Tb.fns sp1_ok (by kernel_rfl)
theorem m36_ok : MemoOk Tryz.prog Tb.glob tabs 3 224 m36 := memo_run (lf := 2000) (n := 60) Tb.tys Tb.fns sp1_ok (by kernel_rfl)
end Ln
end Go.Proofs.YthojindafbcocaaGreatDoor
