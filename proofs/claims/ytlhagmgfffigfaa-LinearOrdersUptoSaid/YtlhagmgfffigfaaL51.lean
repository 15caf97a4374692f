/- Function 51, as a function of data: its own run; its contract. Printed by a program. Conditions: none. -/
import Derived.Test.YtlhagmgfffigfaaTy
set_option maxRecDepth 100000
set_option linter.unusedVariables false
namespace Go.Proofs.Ytlhagmgfffigfaa
open Go Go.Abs
namespace L
noncomputable def r51c (n : Nat) (x0 : Int) (x1 : Int) : Option (Bool × Unit) :=
  iff (!leQ (Int.ofNat 0) x0) (Option.some (Bool.true, PUnit.unit))
  (iff (!leQ (Int.ofNat 0) x1) (Option.some (Bool.true, PUnit.unit)) (Option.some (!leQ x1 x0, PUnit.unit)))
noncomputable def r51 (n : Nat) (a : ElL [t3, t3]) : Option (ElL [t4]) := r51c n (a.1) (a.2.1)
noncomputable def r51p : Plan := ⟨[], [], []⟩
noncomputable def r51k (n : Nat) : Con := ⟨51, [t3, t3], [t4], r51 n, false, none⟩
theorem r51_ok (n : Nat) : SpecSim Try.prog noG 51 (Con.spec (r51k n)) :=
  lift_ok (tab := []) (fn := Try.f51) r51p n mix Tb.tys (fun _ h => by cases h) Try.func51 rfl (by kernel_rfl) (fun h => by cases h) (fun ⟨x0, x1, _⟩ => by kernel_rfl)
end L
end Go.Proofs.Ytlhagmgfffigfaa
