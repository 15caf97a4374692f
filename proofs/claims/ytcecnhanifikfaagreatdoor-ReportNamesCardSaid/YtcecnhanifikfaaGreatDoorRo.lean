/- How the program's types are laid out, asked of some types at a time. Conditions: none. -/
import Derived.Test.YtcecnhanifikfaaGreatDoorCards
import Derived.ProofKit
import Derived.KernelRfl
set_option maxRecDepth 100000
namespace Go.Proofs.YtcecnhanifikfaaGreatDoor
open Go
namespace RcF
theorem all_chunks {p : Nat → Bool} (m n K : Nat) (hm : 0 < m) (h : ∀ k, k < K → ((List.range m).all fun i => Nat.ble n (k * m + i) || p (k * m + i)) = true) (hn : n ≤ K * m) : (List.range n).all p = true := by
  refine List.all_eq_true.2 fun u hu => ?_
  have hu := List.mem_range.1 hu
  have h1 := List.all_eq_true.1 (h (u / m) (Nat.div_lt_of_lt_mul (by rw [Nat.mul_comm]; omega))) (u % m) (List.mem_range.2 (Nat.mod_lt _ hm))
  rw [Nat.mul_comm, Nat.div_add_mod, Bool.or_eq_true] at h1
  rcases h1 with h1 | h1
  · exact absurd (Nat.le_of_ble_eq_true h1) (Nat.not_le.2 hu)
  · exact h1
theorem types_size : Tryz.prog.types.size = 742 := by kernel_rfl
theorem fine0 : ((List.range 47).all fun i => Nat.ble 742 (0 * 47 + i) || rowFine Tryz.prog (0 * 47 + i)) = true := by kernel_rfl
theorem fine1 : ((List.range 47).all fun i => Nat.ble 742 (1 * 47 + i) || rowFine Tryz.prog (1 * 47 + i)) = true := by kernel_rfl
theorem fine2 : ((List.range 47).all fun i => Nat.ble 742 (2 * 47 + i) || rowFine Tryz.prog (2 * 47 + i)) = true := by kernel_rfl
theorem fine3 : ((List.range 47).all fun i => Nat.ble 742 (3 * 47 + i) || rowFine Tryz.prog (3 * 47 + i)) = true := by kernel_rfl
theorem fine4 : ((List.range 47).all fun i => Nat.ble 742 (4 * 47 + i) || rowFine Tryz.prog (4 * 47 + i)) = true := by kernel_rfl
theorem fine5 : ((List.range 47).all fun i => Nat.ble 742 (5 * 47 + i) || rowFine Tryz.prog (5 * 47 + i)) = true := by kernel_rfl
theorem fine6 : ((List.range 47).all fun i => Nat.ble 742 (6 * 47 + i) || rowFine Tryz.prog (6 * 47 + i)) = true := by kernel_rfl
theorem fine7 : ((List.range 47).all fun i => Nat.ble 742 (7 * 47 + i) || rowFine Tryz.prog (7 * 47 + i)) = true := by kernel_rfl
theorem fine8 : ((List.range 47).all fun i => Nat.ble 742 (8 * 47 + i) || rowFine Tryz.prog (8 * 47 + i)) = true := by kernel_rfl
theorem fine9 : ((List.range 47).all fun i => Nat.ble 742 (9 * 47 + i) || rowFine Tryz.prog (9 * 47 + i)) = true := by kernel_rfl
theorem fine10 : ((List.range 47).all fun i => Nat.ble 742 (10 * 47 + i) || rowFine Tryz.prog (10 * 47 + i)) = true := by kernel_rfl
theorem fine11 : ((List.range 47).all fun i => Nat.ble 742 (11 * 47 + i) || rowFine Tryz.prog (11 * 47 + i)) = true := by kernel_rfl
theorem fine12 : ((List.range 47).all fun i => Nat.ble 742 (12 * 47 + i) || rowFine Tryz.prog (12 * 47 + i)) = true := by kernel_rfl
theorem fine13 : ((List.range 47).all fun i => Nat.ble 742 (13 * 47 + i) || rowFine Tryz.prog (13 * 47 + i)) = true := by kernel_rfl
theorem fine14 : ((List.range 47).all fun i => Nat.ble 742 (14 * 47 + i) || rowFine Tryz.prog (14 * 47 + i)) = true := by kernel_rfl
theorem fine15 : ((List.range 47).all fun i => Nat.ble 742 (15 * 47 + i) || rowFine Tryz.prog (15 * 47 + i)) = true := by kernel_rfl
theorem fine : (List.range Tryz.prog.types.size).all (rowFine Tryz.prog) = true := by
  rw [types_size]
  exact all_chunks 47 742 16 (by decide) (fun k hk => match k, hk with
    | 0, _ => fine0
    | 1, _ => fine1
    | 2, _ => fine2
    | 3, _ => fine3
    | 4, _ => fine4
    | 5, _ => fine5
    | 6, _ => fine6
    | 7, _ => fine7
    | 8, _ => fine8
    | 9, _ => fine9
    | 10, _ => fine10
    | 11, _ => fine11
    | 12, _ => fine12
    | 13, _ => fine13
    | 14, _ => fine14
    | 15, _ => fine15
    | n + 16, h => absurd h (by omega)) (by decide)
theorem globs_in : Tryz.prog.globals.all (fun g => decide (g.type < Tryz.prog.types.size)) = true := by kernel_rfl
theorem params_in : Tryz.prog.funcs.all (fun f => f.params.all fun t => decide (t < Tryz.prog.types.size)) = true := by kernel_rfl
theorem laidOut : laidOutB Tryz.prog = true := by
  unfold laidOutB
  rw [fine, globs_in, params_in]
  rfl
end RcF
end Go.Proofs.YtcecnhanifikfaaGreatDoor
