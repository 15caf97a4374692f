/- A start at which the listed variables lie as they are laid. Conditions: none. -/
import Derived.Test.YtcecnhanifikfaaGreatDoorGl
import Derived.LaidOnce
import Derived.WideWitness
set_option maxRecDepth 100000
namespace Go.Proofs.YtcecnhanifikfaaGreatDoor
open Go Go.Abs
namespace Rc
theorem laidMet_of_bits {P : Program} {w : World} {l : List (String × DataW Unit)} (fuel M : Nat)
    (h : (DataW.laidRun P w fuel (l.map (·.1))).map (fun x => (x.1, nodupBits M x.2 0 && laidRowsB P w x.2)) = some (l, true)) : laidMet P l w := by
  cases hx : DataW.laidRun P w fuel (l.map (·.1)) with
  | none => simp [hx] at h
  | some x =>
    obtain ⟨l', ps⟩ := x
    simp only [hx, Option.map_some, Option.some.injEq, Prod.mk.injEq, Bool.and_eq_true] at h
    obtain ⟨rfl, h1, h2⟩ := h
    exact laidMet_of_run fuel hx (decide_eq_true (nodupBits_sound h1).1) h2
noncomputable def cellsOf (g : Nat) : List Value := match lookG gs0 g with | some c => c | none => []
noncomputable def putC (c : List Value) : Obj → Obj
  | .cells _ t frozen => .cells ⟨c⟩ t frozen
  | o => o
def strs : Input := ⟨#[.cells #[.string ⟨#[118, 97, 108, 117, 101, 32, 111, 117, 116, 32, 111, 102, 32, 114, 97, 110, 103, 101]⟩] 563, .cells #[.string ⟨#[105, 110, 118, 97, 108, 105, 100, 32, 115, 121, 110, 116, 97, 120]⟩] 563], #[], []⟩
noncomputable def laidWorld (os : Os) : World :=
  { World.holding Tryz.prog os strs with heap := ((((((((((World.holding Tryz.prog os strs).heap.modify 0 (putC (cellsOf 0))).modify 4 (putC (cellsOf 4))).modify 5 (putC (cellsOf 5))).modify 6 (putC (cellsOf 6))).modify 7 (putC (cellsOf 7))).modify 8 (putC (cellsOf 8))).modify 9 (putC (cellsOf 9))).modify 2 (putC [.iface 561 (.pointer (some ⟨15, 0, none⟩))])).modify 1 (putC [.iface 561 (.pointer (some ⟨16, 0, none⟩))])) }
theorem laid_met (os : Os) : laidMet Tryz.prog Rows.reportNamesRow.laid ((laidWorld os).forCall (fun _ _ => 0) ⟨#[], #[], []⟩).memory :=
  laidMet_of_bits 8 512 (by kernel_rfl)
end Rc
end Go.Proofs.YtcecnhanifikfaaGreatDoor
