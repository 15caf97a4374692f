/- Function 52, as a function of data: its own run; its contract. Printed by a program. Conditions: none. -/
import Derived.Test.YtlhagmgfffigfaaTy
set_option maxRecDepth 100000
set_option linter.unusedVariables false
namespace Go.Proofs.Ytlhagmgfffigfaa
open Go Go.Abs
namespace L
noncomputable def r52c (n : Nat) (x0 : El t78) (x1 : El t78) : Option (Bool × Unit) :=
  iff (eqQ x0.1 x1.1)
  (iff (sameBytes (toB x0.2.1) (toB x1.2.1))
    (iff
      (eqE
        (Ty.pair (Ty.int Go.IntKind.u8)
          (Ty.pair Ty.str
            (Ty.pair
              (Ty.pair (Ty.int Go.IntKind.u8)
                (Ty.pair (Ty.int Go.IntKind.i64)
                  (Ty.pair (Ty.int Go.IntKind.u64) (Ty.pair Ty.str Ty.unit))))
              Ty.unit)))
        x0.2.2.1 x1.2.2.1)
      (iff (eqQ x0.2.2.2.1 x1.2.2.2.1) (Option.some (sameBytes x0.2.2.2.2.1 x1.2.2.2.2.1, PUnit.unit))
        (Option.some (Bool.false, PUnit.unit)))
      (Option.some (Bool.false, PUnit.unit)))
    (Option.some (Bool.false, PUnit.unit)))
  (Option.some (Bool.false, PUnit.unit))
noncomputable def r52 (n : Nat) (a : ElL [t78, t78]) : Option (ElL [t4]) := r52c n (a.1) (a.2.1)
noncomputable def r52p : Plan := ⟨[], [], []⟩
noncomputable def r52k (n : Nat) : Con := ⟨52, [t78, t78], [t4], r52 n, false, none⟩
theorem r52_ok (n : Nat) : SpecSim Try.prog noG 52 (Con.spec (r52k n)) :=
  lift_ok (tab := []) (fn := Try.f52) r52p n mix Tb.tys (fun _ h => by cases h) Try.func52 rfl (by kernel_rfl) (fun h => by cases h) (fun ⟨x0, x1, _⟩ => by kernel_rfl)
end L
end Go.Proofs.Ytlhagmgfffigfaa
