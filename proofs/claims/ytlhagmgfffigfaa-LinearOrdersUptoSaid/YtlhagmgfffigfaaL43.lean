/- Function 43, as a function of data: its own run; its contract. Printed by a program. Conditions: none. -/
import Derived.Test.YtlhagmgfffigfaaTy
import Derived.Test.YtlhagmgfffigfaaL21
set_option maxRecDepth 100000
set_option linter.unusedVariables false
namespace Go.Proofs.Ytlhagmgfffigfaa
open Go Go.Abs
namespace L
noncomputable def r43c (n : Nat) (x0 : List (El t80)) (x1 : List (El t82)) : Option (Int × Unit) :=
  andThen (r21 n (x0, PUnit.unit)) fun (y2 : ElL (Con.B (r21k n))) =>
  iff (!eqQ y2.1 (Int.ofNat 0))
    (andThen (r21 n (x0, PUnit.unit))
      fun (y3 : ElL (Con.B (r21k n))) => Option.some (y3.1, PUnit.unit))
    (iff (!leQ (Int.ofNat (List.length x1)) (Int.ofNat 240)) (Option.some (Int.ofNat 4, PUnit.unit))
      (Option.some (Int.ofNat 0, PUnit.unit)))
noncomputable def r43 (n : Nat) (a : ElL [t33, t36]) : Option (ElL [t3]) := r43c n (a.1) (a.2.1)
noncomputable def r43p : Plan := ⟨[], [], []⟩
noncomputable def r43k (n : Nat) : Con := ⟨43, [t33, t36], [t3], r43 n, false, none⟩
theorem r43_ok (n : Nat) : SpecSim Try.prog noG 43 (Con.spec (r43k n)) :=
  lift_ok (tab := [r21k n]) (fn := Try.f43) r43p n mix Tb.tys (Cons.all (.cons (r21_ok n) .nil)) Try.func43 rfl (by kernel_rfl) (fun h => by cases h) (fun ⟨x0, x1, _⟩ => by kernel_rfl)
end L
end Go.Proofs.Ytlhagmgfffigfaa
