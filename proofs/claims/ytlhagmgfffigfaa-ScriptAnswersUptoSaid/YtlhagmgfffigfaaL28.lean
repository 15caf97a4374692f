/- Function 28, as a function of data: its own run; its contract. Printed by a program. Conditions: none. -/
import Derived.Test.YtlhagmgfffigfaaTy
set_option maxRecDepth 100000
set_option linter.unusedVariables false
namespace Go.Proofs.Ytlhagmgfffigfaa
open Go Go.Abs
namespace L
noncomputable def r28c (n : Nat) (x0 : List (El t58)) : Option (List (El t58) × Unit) :=
  caseL x0 (sameR (Option.some ([], PUnit.unit)) (Option.some ([], PUnit.unit)))
  fun (z : El t58) (zs : List (El t58)) =>
  iff (Nat.ble (Nat.mul (addN 0 (List.length (z :: zs))) 33) 1000000000 && Bool.true && Bool.true)
    (iff (Nat.beq (addN 0 (List.length (z :: zs))) (List.length (z :: zs))) (Option.some (z :: zs, PUnit.unit)) Option.none) Option.none
noncomputable def r28 (n : Nat) (a : ElL [t62]) : Option (ElL [t62]) := r28c n (a.1)
noncomputable def r28p : Plan := ⟨[], [], []⟩
noncomputable def r28k (n : Nat) : Con := ⟨28, [t62], [t62], r28 n, false⟩
theorem r28_ok (n : Nat) : SpecSim Try.prog noG 28 (Con.spec (r28k n)) :=
  lift_ok (tab := []) (fn := Try.f28) r28p n mix Tb.tys (fun _ h => by cases h) Try.func28 rfl (by kernel_rfl) (fun h => by cases h) (fun ⟨x0, _⟩ => by kernel_rfl)
end L
end Go.Proofs.Ytlhagmgfffigfaa
