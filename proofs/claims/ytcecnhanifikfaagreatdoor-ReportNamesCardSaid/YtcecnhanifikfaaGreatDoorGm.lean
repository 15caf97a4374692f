/- The numbers of the variables. Conditions: none. -/
import Derived.Test.YtcecnhanifikfaaGreatDoorGl
set_option maxRecDepth 100000
namespace Go.Proofs.YtcecnhanifikfaaGreatDoor
open Go Go.Abs
theorem gs0_nos : gs0.map (·.1) = [1, 2, 3, 0, 5, 6, 7, 8, 9, 4] := by kernel_rfl
theorem lookG_mem : ∀ (l : List (Nat × List Value)) (g : Nat) (c : List Value), lookG l g = some c → g ∈ l.map (·.1)
  | [], g, c, h => by cases h
  | p :: l, g, c, h => by
    by_cases hp : p.1 = g
    · rw [List.map_cons, hp]; exact List.mem_cons_self ..
    · rw [show lookG (p :: l) g = if p.1 = g then some p.2 else lookG l g from rfl, if_neg hp] at h
      exact List.mem_cons_of_mem _ (lookG_mem l g c h)
theorem gs0_lt : ∀ g c, lookG gs0 g = some c → g < 10 := fun g c h => by
  have := lookG_mem _ _ _ h
  rw [gs0_nos] at this
  simp at this
  omega
theorem glob_some : ∀ g, Tb.glob g = true → (lookG gs0 g).isSome = true := fun g h => by
  have h : Nat.blt g 10 = true := h
  rw [blt_iff] at h
  have : g = 0 ∨ g = 1 ∨ g = 2 ∨ g = 3 ∨ g = 4 ∨ g = 5 ∨ g = 6 ∨ g = 7 ∨ g = 8 ∨ g = 9 := by omega
  rcases this with rfl | rfl | rfl | rfl | rfl | rfl | rfl | rfl | rfl | rfl
  · exact (show (lookG gs0 0).isSome = true by kernel_rfl)
  · exact (show (lookG gs0 1).isSome = true by kernel_rfl)
  · exact (show (lookG gs0 2).isSome = true by kernel_rfl)
  · exact (show (lookG gs0 3).isSome = true by kernel_rfl)
  · exact (show (lookG gs0 4).isSome = true by kernel_rfl)
  · exact (show (lookG gs0 5).isSome = true by kernel_rfl)
  · exact (show (lookG gs0 6).isSome = true by kernel_rfl)
  · exact (show (lookG gs0 7).isSome = true by kernel_rfl)
  · exact (show (lookG gs0 8).isSome = true by kernel_rfl)
  · exact (show (lookG gs0 9).isSome = true by kernel_rfl)
end Go.Proofs.YtcecnhanifikfaaGreatDoor
