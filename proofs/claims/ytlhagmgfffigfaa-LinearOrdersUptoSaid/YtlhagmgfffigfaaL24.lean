/- Function 24, as a function of data: its own run; its contract. Printed by a program. Conditions: none. -/
import Derived.Test.YtlhagmgfffigfaaTy
import Derived.Test.YtlhagmgfffigfaaL42
import Derived.Test.YtlhagmgfffigfaaL41
set_option maxRecDepth 100000
set_option linter.unusedVariables false
namespace Go.Proofs.Ytlhagmgfffigfaa
open Go Go.Abs
namespace L
noncomputable def r24c (n : Nat) (x0 : List (El t80)) (x1 : List (El t82)) : Option (Bool × Int × Unit) :=
  andThen (r41 n (x0, x1, PUnit.unit)) fun (y2 : ElL (Con.B (r41k n))) =>
  iff (!eqQ y2.1 (Int.ofNat 0)) (Option.some (Bool.false, y2.1, PUnit.unit))
    (andThen (r42 n (x0, x1, PUnit.unit))
      fun (y3 : ElL (Con.B (r42k n))) => Option.some (y3.1, Int.ofNat 0, PUnit.unit))
noncomputable def r24 (n : Nat) (a : ElL [t33, t36]) : Option (ElL [t4, t25]) := r24c n (a.1) (a.2.1)
noncomputable def r24p : Plan := ⟨[], [], []⟩
noncomputable def r24k (n : Nat) : Con := ⟨24, [t33, t36], [t4, t25], r24 n, false, none⟩
theorem r24_ok (n : Nat) : SpecSim Try.prog noG 24 (Con.spec (r24k n)) :=
  lift_ok (tab := [r42k n, r41k n]) (fn := Try.f24) r24p n mix Tb.tys (Cons.all (.cons (r42_ok n) (.cons (r41_ok n) .nil))) Try.func24 rfl (by kernel_rfl) (fun h => by cases h) (fun ⟨x0, x1, _⟩ => by kernel_rfl)
end L
end Go.Proofs.Ytlhagmgfffigfaa
