/- Function 25, as a function of data: its own run; its contract. Printed by a program. Conditions: none. -/
import Derived.Test.YtlhagmgfffigfaaTy
import Derived.Test.YtlhagmgfffigfaaL44
import Derived.Test.YtlhagmgfffigfaaL43
set_option maxRecDepth 100000
set_option linter.unusedVariables false
namespace Go.Proofs.Ytlhagmgfffigfaa
open Go Go.Abs
namespace L
noncomputable def r25c (n : Nat) (x0 : List (El t80)) (x1 : List (El t82)) : Option (Bool × Int × Unit) :=
  andThen (r43 n (x0, x1, PUnit.unit)) fun (y2 : ElL (Con.B (r43k n))) =>
  iff (!eqQ y2.1 (Int.ofNat 0)) (Option.some (Bool.false, y2.1, PUnit.unit))
    (andThen (r44 n (x0, x1, PUnit.unit))
      fun (y3 : ElL (Con.B (r44k n))) => Option.some (y3.1, Int.ofNat 0, PUnit.unit))
noncomputable def r25 (n : Nat) (a : ElL [t33, t36]) : Option (ElL [t4, t3]) := r25c n (a.1) (a.2.1)
noncomputable def r25p : Plan := ⟨[], [], []⟩
noncomputable def r25k (n : Nat) : Con := ⟨25, [t33, t36], [t4, t3], r25 n, false, none⟩
theorem r25_ok (n : Nat) : SpecSim Try.prog noG 25 (Con.spec (r25k n)) :=
  lift_ok (tab := [r44k n, r43k n]) (fn := Try.f25) r25p n mix Tb.tys (Cons.all (.cons (r44_ok n) (.cons (r43_ok n) .nil))) Try.func25 rfl (by kernel_rfl) (fun h => by cases h) (fun ⟨x0, x1, _⟩ => by kernel_rfl)
end L
end Go.Proofs.Ytlhagmgfffigfaa
