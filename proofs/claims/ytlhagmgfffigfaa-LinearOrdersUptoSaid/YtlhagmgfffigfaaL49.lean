/- Function 49, as a function of data: its own run; its contract. Printed by a program. Conditions: none. -/
import Derived.Test.YtlhagmgfffigfaaTy
set_option maxRecDepth 100000
set_option linter.unusedVariables false
namespace Go.Proofs.Ytlhagmgfffigfaa
open Go Go.Abs
namespace L
noncomputable def r49c (n : Nat) (x0 : Int) (x1 : Int) : Option (Bool × Unit) :=
  iff (eqQ x0 (Int.negSucc 0)) (Option.some (Bool.true, PUnit.unit))
  (iff (leQ x1 x0) (Option.some (!leQ (Int.ofNat 120) x0, PUnit.unit)) (Option.some (Bool.false, PUnit.unit)))
noncomputable def r49 (n : Nat) (a : ElL [t3, t3]) : Option (ElL [t4]) := r49c n (a.1) (a.2.1)
noncomputable def r49p : Plan := ⟨[], [], []⟩
noncomputable def r49k (n : Nat) : Con := ⟨49, [t3, t3], [t4], r49 n, false, none⟩
theorem r49_ok (n : Nat) : SpecSim Try.prog noG 49 (Con.spec (r49k n)) :=
  lift_ok (tab := []) (fn := Try.f49) r49p n mix Tb.tys (fun _ h => by cases h) Try.func49 rfl (by kernel_rfl) (fun h => by cases h) (fun ⟨x0, x1, _⟩ => by kernel_rfl)
end L
end Go.Proofs.Ytlhagmgfffigfaa
