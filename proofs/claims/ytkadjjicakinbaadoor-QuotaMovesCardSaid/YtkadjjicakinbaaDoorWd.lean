/- What every law's card of this seat asks of the start. -/
import Derived.Test.YtkadjjicakinbaaDoorGl
import Derived.Test.YtkadjjicakinbaaDoorCards
import Derived.Test.YtkadjjicakinbaaDoorTie
import Derived.Test.YtkadjjicakinbaaDoorMachC
import Derived.ProofKit
import Derived.Deep.DeepHandedRow
import Derived.SevenTiedAt
set_option maxRecDepth 100000
namespace Go.Proofs.YtkadjjicakinbaaDoor
open Go Go.Abs Go.ChangeShapes Go.WideShapes Go.ChangeAt Go.RowKit
theorem own : ownKnob Tryd.prog.godebug = none := by kernel_rfl
theorem laidOut : laidOutB Tryd.prog = true := by kernel_rfl
theorem vars0 : VarsAre Tryd.prog xs0 Rows.quotaNamesRow.laid := ⟨by kernel_rfl, by kernel_rfl, rfl, trivial⟩
theorem gs0_lt : ∀ g c, lookG gs0 g = some c → g < 1 := fun g c h => by
  by_cases h0 : 0 = g
  · omega
  · rw [show lookG gs0 g = if 0 = g then some rowsC else none from rfl, if_neg h0] at h; cases h
theorem glob_some : ∀ g, Tb.glob g = true → (lookG gs0 g).isSome = true := fun g h => by
  have : g < 1 := (blt_iff _ _).1 h
  have : 0 = g := by omega
  rw [show lookG gs0 g = if 0 = g then some rowsC else none from rfl, if_pos this]; rfl

noncomputable def laidWorld (os : Os) : World :=
  { World.holding Tryd.prog os ⟨#[], #[], []⟩ with heap := (World.holding Tryd.prog os ⟨#[], #[], []⟩).heap.modify 0 fun
      | .cells _ t frozen => .cells ⟨rowsC⟩ t frozen
      | o => o }

def tb : TypeId := 4
end Go.Proofs.YtkadjjicakinbaaDoor
