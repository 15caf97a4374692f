/- What the package's variables hold, as they are laid; the state at the start. -/
import Derived.Test.YthojindafbcocaaGreatDoorTab
import Derived.Test.YthojindafbcocaaGreatDoorMachD
set_option maxRecDepth 100000
namespace Go.Proofs.YthojindafbcocaaGreatDoor
open Go Go.Abs
noncomputable def xs0 : List (Nat × TypeId × DataW Unit) := [(1, 443, Rows.laid_braid_quota_rows), (2, 651, Rows.laid_braid_digest_constants)]
noncomputable def gs0 : List (Nat × List Value) := @Option.rec _ (fun _ => List (Nat × List Value)) [] (fun p => p.1) (layVars Tb.T 8 xs0 3)
theorem lay0 : layVars Tb.T 8 xs0 3 = some (gs0, []) := by kernel_rfl
noncomputable def st0 : ASt := Go.Abs.start gs0 3 []
theorem gs0_nos : gs0.map (·.1) = [1, 2] := by kernel_rfl
theorem lookG_mem : ∀ (l : List (Nat × List Value)) (g : Nat) (c : List Value), lookG l g = some c → g ∈ l.map (·.1)
  | [], g, c, h => by cases h
  | p :: l, g, c, h => by
    by_cases hp : p.1 = g
    · rw [List.map_cons, hp]; exact List.mem_cons_self ..
    · rw [show lookG (p :: l) g = if p.1 = g then some p.2 else lookG l g from rfl, if_neg hp] at h
      exact List.mem_cons_of_mem _ (lookG_mem l g c h)
theorem gs0_lt : ∀ g c, lookG gs0 g = some c → g < 3 := fun g c h => by
  have := lookG_mem _ _ _ h
  rw [gs0_nos] at this
  simp at this
  omega
theorem glob_some : ∀ g, Tb.glob g = true → (lookG gs0 g).isSome = true := fun g h => by
  have h : (Nat.blt 0 g && Nat.blt g 3) = true := h
  rw [Bool.and_eq_true, blt_iff, blt_iff] at h
  have : g = 1 ∨ g = 2 := by omega
  rcases this with rfl | rfl
  · exact (show (lookG gs0 1).isSome = true by kernel_rfl)
  · exact (show (lookG gs0 2).isSome = true by kernel_rfl)
theorem mix : Tryz.prog.follows .mixedOrders = true := by kernel_rfl
end Go.Proofs.YthojindafbcocaaGreatDoor
