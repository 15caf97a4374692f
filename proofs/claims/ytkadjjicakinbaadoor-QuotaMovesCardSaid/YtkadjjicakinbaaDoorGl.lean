/- The table of moves, as it is laid. -/
import Derived.Test.YtkadjjicakinbaaDoorTab
import Derived.Test.YtkadjjicakinbaaDoorMachC
set_option maxRecDepth 100000
namespace Go.Proofs.YtkadjjicakinbaaDoor
open Go Go.Abs
noncomputable def i64 (n : Int) : Value := .int .i64 n
noncomputable def rowsC : List Value := [i64 0, i64 0, i64 0, i64 0, i64 0, i64 0, i64 0, i64 1, i64 0, i64 0, i64 0, i64 0, i64 2000, i64 1, i64 (-1), i64 0, i64 0, i64 0, i64 0, i64 2000, i64 (-1), i64 0, i64 1, i64 0, i64 0, i64 0, i64 0, i64 0,
  i64 0, i64 (-1), i64 0, i64 0, i64 1, i64 9, i64 0, i64 0, i64 0, i64 (-1), i64 0, i64 0, i64 0, i64 0, i64 0, i64 0, i64 0, i64 1, i64 0, i64 0, i64 0, i64 0, i64 0, i64 0, i64 (-1), i64 0, i64 0, i64 0]
noncomputable def gs0 : List (Nat × List Value) := [(0, rowsC)]
noncomputable def xs0 : List (Nat × TypeId × DataW Unit) := [(0, 67, Rows.laid_braid_quota_rows)]
theorem lay0 : layVars Tb.T 8 xs0 1 = some (gs0, []) := by kernel_rfl
noncomputable def st0 : ASt := Go.Abs.start gs0 1 []
noncomputable def tabs0 : List (Nat × List Value) := [(0, rowsC)]
theorem tabs0_mem : ∀ g, Tb.glob g = true → memN g (tabs0.map (·.1)) = true := fun g h => by
  have : g < 1 := (blt_iff _ _).1 h
  have : g = 0 := by omega
  subst this; exact (show memN 0 (tabs0.map (·.1)) = true by kernel_rfl)
theorem mix : Tryd.prog.follows .mixedOrders = true := by kernel_rfl
end Go.Proofs.YtkadjjicakinbaaDoor
