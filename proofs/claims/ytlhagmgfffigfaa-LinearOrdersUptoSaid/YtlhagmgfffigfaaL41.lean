/- Function 41, as a function of data: its own run; its contract. Printed by a program. Conditions: none. -/
import Derived.Test.YtlhagmgfffigfaaTy
import Derived.Test.YtlhagmgfffigfaaL20
set_option maxRecDepth 100000
set_option linter.unusedVariables false
namespace Go.Proofs.Ytlhagmgfffigfaa
open Go Go.Abs
namespace L
noncomputable def r41c (n : Nat) (x0 : List (El t80)) (x1 : List (El t82)) : Option (Int × Unit) :=
  andThen (r20 n (x0, PUnit.unit)) fun (y2 : ElL (Con.B (r20k n))) =>
  iff (!eqQ y2.1 (Int.ofNat 0)) (Option.some (y2.1, PUnit.unit))
    (iff (!leQ (Int.ofNat (List.length x1)) (Int.ofNat 240)) (Option.some (Int.ofNat 4, PUnit.unit))
      (Option.some (Int.ofNat 0, PUnit.unit)))
noncomputable def r41 (n : Nat) (a : ElL [t33, t36]) : Option (ElL [t25]) := r41c n (a.1) (a.2.1)
noncomputable def r41p : Plan := ⟨[], [], []⟩
noncomputable def r41k (n : Nat) : Con := ⟨41, [t33, t36], [t25], r41 n, false, none⟩
theorem r41_ok (n : Nat) : SpecSim Try.prog noG 41 (Con.spec (r41k n)) :=
  lift_ok (tab := [r20k n]) (fn := Try.f41) r41p n mix Tb.tys (Cons.all (.cons (r20_ok n) .nil)) Try.func41 rfl (by kernel_rfl) (fun h => by cases h) (fun ⟨x0, x1, _⟩ => by kernel_rfl)
end L
end Go.Proofs.Ytlhagmgfffigfaa
