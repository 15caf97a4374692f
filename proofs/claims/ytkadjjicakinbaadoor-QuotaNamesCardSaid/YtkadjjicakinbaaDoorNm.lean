import Derived.Test.YtkadjjicakinbaaDoorTab
set_option maxRecDepth 100000
namespace Go.Proofs.YtkadjjicakinbaaDoor
open Go Go.Abs
noncomputable def i64 (n : Int) : Value := .int .i64 n
noncomputable def rowsC : List Value := [i64 0, i64 0, i64 0, i64 0, i64 0, i64 0, i64 0, i64 1, i64 0, i64 0, i64 0, i64 0, i64 2000, i64 1, i64 (-1), i64 0, i64 0, i64 0, i64 0, i64 2000, i64 (-1), i64 0, i64 1, i64 0, i64 0, i64 0, i64 0, i64 0,
  i64 0, i64 (-1), i64 0, i64 0, i64 1, i64 9, i64 0, i64 0, i64 0, i64 (-1), i64 0, i64 0, i64 0, i64 0, i64 0, i64 0, i64 0, i64 1, i64 0, i64 0, i64 0, i64 0, i64 0, i64 0, i64 (-1), i64 0, i64 0, i64 0]
noncomputable def gs0 : List (Nat × List Value) := [(0, rowsC)]
noncomputable def xs0 : List (Nat × TypeId × DataW Unit) := [(0, 67, Rows.laid_braid_quota_rows)]
theorem lay0 : layVars Tb.T 8 xs0 1 = some (gs0, []) := by kernel_rfl
noncomputable def st0 : ASt := Go.Abs.start gs0 1 []
theorem alive_run : (andThen2 (callN Tb.T 200 40 19 [] st0) fun v _ => asB v) = some true := by kernel_rfl
theorem names_run : (andThen2 (callN Tb.T 200 40 8 [] st0) fun v _ => asB v) = some true := by kernel_rfl
end Go.Proofs.YtkadjjicakinbaaDoor
