/- Function 13, as a function of data: its own run; its contract. Printed by a program. Conditions: none. -/
import Derived.Test.YtlhagmgfffigfaaTy
import Derived.Test.YtlhagmgfffigfaaL33
import Derived.Test.YtlhagmgfffigfaaL21
set_option maxRecDepth 100000
set_option linter.unusedVariables false
namespace Go.Proofs.Ytlhagmgfffigfaa
open Go Go.Abs
namespace L
noncomputable def r13c (n : Nat) (x0 : List (El t80)) : Option (List (El t82) × Int × Unit) :=
  andThen (r21 n (x0, PUnit.unit)) fun (y1 : ElL (Con.B (r21k n))) =>
  iff (!eqQ y1.1 (Int.ofNat 0))
    (andThen (r21 n (x0, PUnit.unit))
      fun (y2 : ElL (Con.B (r21k n))) => Option.some ([], y2.1, PUnit.unit))
    (andThen (r33 n (x0, PUnit.unit))
      fun (y3 : ElL (Con.B (r33k n))) => Option.some (y3.1, Int.ofNat 0, PUnit.unit))
noncomputable def r13 (n : Nat) (a : ElL [t33]) : Option (ElL [t36, t3]) := r13c n (a.1)
noncomputable def r13p : Plan := ⟨[], [], []⟩
noncomputable def r13k (n : Nat) : Con := ⟨13, [t33], [t36, t3], r13 n, false, none⟩
theorem r13_ok (n : Nat) : SpecSim Try.prog noG 13 (Con.spec (r13k n)) :=
  lift_ok (tab := [r33k n, r21k n]) (fn := Try.f13) r13p n mix Tb.tys (Cons.all (.cons (r33_ok n) (.cons (r21_ok n) .nil))) Try.func13 rfl (by kernel_rfl) (fun h => by cases h) (fun ⟨x0, _⟩ => by kernel_rfl)
end L
end Go.Proofs.Ytlhagmgfffigfaa
