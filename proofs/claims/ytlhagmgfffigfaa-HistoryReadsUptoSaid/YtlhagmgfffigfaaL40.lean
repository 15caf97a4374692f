/- Function 40, as a function of data: its own run; its contract. Printed by a program. Conditions: none. -/
import Derived.Test.YtlhagmgfffigfaaTy
import Derived.Test.YtlhagmgfffigfaaL29
import Derived.Test.YtlhagmgfffigfaaL52
set_option maxRecDepth 100000
set_option linter.unusedVariables false
namespace Go.Proofs.Ytlhagmgfffigfaa
open Go Go.Abs
namespace L
noncomputable def r40c (n : Nat) (x0 : El t80) (x1 : El t80) : Option (Bool × Unit) :=
  iff (eqQ x0.1 x1.1)
  (iff (eqQ x0.2.1 x1.2.1)
    (andThen (r52 n (x0.2.2.1, x1.2.2.1, PUnit.unit))
      fun (y2 : ElL (Con.B (r52k n))) =>
      iff y2.1
        (iff (sameBytes (toB x0.2.2.2.1) (toB x1.2.2.2.1))
          (iff (eqQ x0.2.2.2.2.1 x1.2.2.2.2.1)
            (iff (eqQ x0.2.2.2.2.2.1 x1.2.2.2.2.2.1)
              (iff (eqQ x0.2.2.2.2.2.2.1 x1.2.2.2.2.2.2.1)
                (iff (eqQ x0.2.2.2.2.2.2.2.1 x1.2.2.2.2.2.2.2.1)
                  (iff (eqQ x0.2.2.2.2.2.2.2.2.1 x1.2.2.2.2.2.2.2.2.1)
                    (iff (eqQ x0.2.2.2.2.2.2.2.2.2.1 x1.2.2.2.2.2.2.2.2.2.1)
                      (iff (eqQ x0.2.2.2.2.2.2.2.2.2.2.1 x1.2.2.2.2.2.2.2.2.2.2.1)
                        (andThen (r29 n (x0.2.2.2.2.2.2.2.2.2.2.2.1, x1.2.2.2.2.2.2.2.2.2.2.2.1, PUnit.unit))
                          fun (y3 : ElL (Con.B (r29k n))) => Option.some (y3.1, PUnit.unit))
                        (Option.some (Bool.false, PUnit.unit)))
                      (Option.some (Bool.false, PUnit.unit)))
                    (Option.some (Bool.false, PUnit.unit)))
                  (Option.some (Bool.false, PUnit.unit)))
                (Option.some (Bool.false, PUnit.unit)))
              (Option.some (Bool.false, PUnit.unit)))
            (Option.some (Bool.false, PUnit.unit)))
          (Option.some (Bool.false, PUnit.unit)))
        (Option.some (Bool.false, PUnit.unit)))
    (Option.some (Bool.false, PUnit.unit)))
  (Option.some (Bool.false, PUnit.unit))
noncomputable def r40 (n : Nat) (a : ElL [t80, t80]) : Option (ElL [t4]) := r40c n (a.1) (a.2.1)
noncomputable def r40p : Plan := ⟨[], [], []⟩
noncomputable def r40k (n : Nat) : Con := ⟨40, [t80, t80], [t4], r40 n, false, none⟩
theorem r40_ok (n : Nat) : SpecSim Try.prog noG 40 (Con.spec (r40k n)) :=
  lift_ok (tab := [r29k n, r52k n]) (fn := Try.f40) r40p n mix Tb.tys (Cons.all (.cons (r29_ok n) (.cons (r52_ok n) .nil))) Try.func40 rfl (by kernel_rfl) (fun h => by cases h) (fun ⟨x0, x1, _⟩ => by kernel_rfl)
end L
end Go.Proofs.Ytlhagmgfffigfaa
