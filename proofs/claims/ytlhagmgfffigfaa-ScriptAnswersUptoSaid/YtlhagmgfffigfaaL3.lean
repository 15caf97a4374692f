/- Function 3, as a function of data: its own run; its contract. Printed by a program. Conditions: none. -/
import Derived.Test.YtlhagmgfffigfaaTy
import Derived.Test.YtlhagmgfffigfaaL9
import Derived.Test.YtlhagmgfffigfaaL8
import Derived.Test.YtlhagmgfffigfaaL7
import Derived.Test.YtlhagmgfffigfaaL6
set_option maxRecDepth 100000
set_option linter.unusedVariables false
namespace Go.Proofs.Ytlhagmgfffigfaa
open Go Go.Abs
namespace L
noncomputable def r3c (n : Nat) (x0 : List (El t71)) : Option (Bool × Unit) :=
  iff (!leQ (Int.ofNat (List.length x0)) (Int.ofNat 130)) (Option.some (Bool.true, PUnit.unit))
  (andThen (r6 n (x0, PUnit.unit)) fun (y1 : ElL (Con.B (r6k n))) =>
    andThen (r7 n (x0, PUnit.unit)) fun (y2 : ElL (Con.B (r7k n))) =>
      andThen (r8 n (y1.1, y2.1, PUnit.unit))
        fun (y3 : ElL (Con.B (r8k n))) =>
        iff y3.1
          (andThen (r9 n (y1.2.1, y2.2.1, PUnit.unit))
            fun (y4 : ElL (Con.B (r9k n))) =>
            iff y4.1 (Option.some (eqQ y1.2.2.1 y2.2.2.1, PUnit.unit)) (Option.some (Bool.false, PUnit.unit)))
          (Option.some (Bool.false, PUnit.unit)))
noncomputable def r3 (n : Nat) (a : ElL [t22]) : Option (ElL [t4]) := r3c n (a.1)
noncomputable def r3p : Plan := ⟨[], [], []⟩
noncomputable def r3k (n : Nat) : Con := ⟨3, [t22], [t4], r3 n, false⟩
theorem r3_ok (n : Nat) : SpecSim Try.prog noG 3 (Con.spec (r3k n)) :=
  lift_ok (tab := [r9k n, r8k n, r7k n, r6k n]) (fn := Try.f3) r3p n mix Tb.tys (Cons.all (.cons (r9_ok n) (.cons (r8_ok n) (.cons (r7_ok n) (.cons (r6_ok n) .nil))))) Try.func3 rfl (by kernel_rfl) (fun h => by cases h) (fun ⟨x0, _⟩ => by kernel_rfl)
end L
end Go.Proofs.Ytlhagmgfffigfaa
