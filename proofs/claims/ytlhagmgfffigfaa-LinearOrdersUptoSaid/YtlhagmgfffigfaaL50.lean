/- Function 50, as a function of data: its own run; its contract. Printed by a program. Conditions: none. -/
import Derived.Test.YtlhagmgfffigfaaTy
set_option maxRecDepth 100000
set_option linter.unusedVariables false
namespace Go.Proofs.Ytlhagmgfffigfaa
open Go Go.Abs
namespace L
noncomputable def r50c (n : Nat) (x0 : Int) (x1 : Int) : Option (Bool × Unit) :=
  iff (eqQ x0 (Int.negSucc 0)) (Option.some (Bool.true, PUnit.unit))
  (iff (leQ x1 x0) (Option.some (!leQ (Int.ofNat 120) x0, PUnit.unit)) (Option.some (Bool.false, PUnit.unit)))
noncomputable def r50 (n : Nat) (a : ElL [t3, t3]) : Option (ElL [t4]) := r50c n (a.1) (a.2.1)
noncomputable def r50p : Plan := ⟨[], [], []⟩
noncomputable def r50k (n : Nat) : Con := ⟨50, [t3, t3], [t4], r50 n, false, none⟩
theorem r50_ok (n : Nat) : SpecSim Try.prog noG 50 (Con.spec (r50k n)) :=
  lift_ok (tab := []) (fn := Try.f50) r50p n mix Tb.tys (fun _ h => by cases h) Try.func50 rfl (by kernel_rfl) (fun h => by cases h) (fun ⟨x0, x1, _⟩ => by kernel_rfl)
end L
end Go.Proofs.Ytlhagmgfffigfaa
