/- Function 36, as a function of data: its own run; its contract. Printed by a program. Conditions: none. -/
import Derived.Test.YtlhagmgfffigfaaTy
set_option maxRecDepth 100000
set_option linter.unusedVariables false
namespace Go.Proofs.Ytlhagmgfffigfaa
open Go Go.Abs
namespace L
noncomputable def r36c (n : Nat) (x0 : El t80) (x1 : El t80) : Option (Bool × Unit) :=
  iff (leQ (Int.ofNat 0) x0.2.2.2.2.2.2.2.2.2.2.1) (Option.some (!leQ x1.2.2.2.2.2.2.1 x0.2.2.2.2.2.2.2.2.2.2.1, PUnit.unit))
  (Option.some (Bool.false, PUnit.unit))
noncomputable def r36 (n : Nat) (a : ElL [t80, t80]) : Option (ElL [t4]) := r36c n (a.1) (a.2.1)
noncomputable def r36p : Plan := ⟨[], [], []⟩
noncomputable def r36k (n : Nat) : Con := ⟨36, [t80, t80], [t4], r36 n, false, none⟩
theorem r36_ok (n : Nat) : SpecSim Try.prog noG 36 (Con.spec (r36k n)) :=
  lift_ok (tab := []) (fn := Try.f36) r36p n mix Tb.tys (fun _ h => by cases h) Try.func36 rfl (by kernel_rfl) (fun h => by cases h) (fun ⟨x0, x1, _⟩ => by kernel_rfl)
end L
end Go.Proofs.Ytlhagmgfffigfaa
