/- Function 5, as a function of data: its own run; its contract. Printed by a program. Conditions: none. -/
import Derived.Test.YtlhagmgfffigfaaTy
import Derived.Test.YtlhagmgfffigfaaL27
import Derived.Test.YtlhagmgfffigfaaL26
import Derived.Test.YtlhagmgfffigfaaL25
import Derived.Test.YtlhagmgfffigfaaL24
import Derived.Test.YtlhagmgfffigfaaL10
set_option maxRecDepth 100000
set_option linter.unusedVariables false
namespace Go.Proofs.Ytlhagmgfffigfaa
open Go Go.Abs
namespace L
noncomputable def r5_j2 (n : Nat) (x0_j2 : List (El t80)) (x1_j2 : List (El t82)) (x2_j2 : Bool) : Option (Bool × Unit) :=
  iff x2_j2 (Option.some (Bool.true, PUnit.unit))
  (andThen (r24 n (x0_j2, x1_j2, PUnit.unit))
    fun (y6 : ElL (Con.B (r24k n))) =>
    andThen (r25 n (x0_j2, x1_j2, PUnit.unit))
      fun (y7 : ElL (Con.B (r25k n))) =>
      andThen (r26 n (x0_j2, x1_j2, PUnit.unit))
        fun (y8 : ElL (Con.B (r26k n))) =>
        andThen (r27 n (x0_j2, x1_j2, PUnit.unit))
          fun (y9 : ElL (Con.B (r27k n))) =>
          iff (eqBl y6.1 y7.1)
            (iff (eqQ y6.2.1 y7.2.1)
              (iff (eqBl y8.1 y9.1) (Option.some (eqQ y8.2.1 y9.2.1, PUnit.unit)) (Option.some (Bool.false, PUnit.unit)))
              (Option.some (Bool.false, PUnit.unit)))
            (Option.some (Bool.false, PUnit.unit)))
noncomputable def r5c (n : Nat) (x0 : List (El t80)) (x1 : List (El t82)) : Option (Bool × Unit) :=
  andThen
  (andThen (r10 n (x0, PUnit.unit)) fun (y2 : ElL (Con.B (r10k n))) =>
    iff y2.1 (Option.some (Sum.inl ((x0, x1, Bool.true, PUnit.unit), PUnit.unit, PUnit.unit)))
      (Option.some (Sum.inl ((x0, x1, !leQ (Int.ofNat (List.length x1)) (Int.ofNat 250), PUnit.unit), PUnit.unit, PUnit.unit))))
  (sumK
    fun (x : (List (El t80) × List (El t82) × Bool × Unit) × Unit × Unit) =>
    r5_j2 n (Prod.fst (Prod.fst x)) (Prod.fst (Prod.snd (Prod.fst x))) (Prod.fst (Prod.snd (Prod.snd (Prod.fst x)))))
noncomputable def r5 (n : Nat) (a : ElL [t33, t36]) : Option (ElL [t4]) := r5c n (a.1) (a.2.1)
noncomputable def r5p : Plan := ⟨[], [(2, Cut.mk
  [(0, Shp.d (Ty.slice t80)), (1, Shp.d (Ty.slice t82)),
    (19, Shp.d Ty.bool)]
  [] [] 0)], []⟩
noncomputable def r5k (n : Nat) : Con := ⟨5, [t33, t36], [t4], r5 n, false, none⟩
theorem r5_ok (n : Nat) : SpecSim Try.prog noG 5 (Con.spec (r5k n)) :=
  lift_ok (tab := [r27k n, r26k n, r25k n, r24k n, r10k n]) (fn := Try.f5) r5p n mix Tb.tys (Cons.all (.cons (r27_ok n) (.cons (r26_ok n) (.cons (r25_ok n) (.cons (r24_ok n) (.cons (r10_ok n) .nil)))))) Try.func5 rfl (by kernel_rfl) (fun h => by cases h) (fun ⟨x0, x1, _⟩ => by kernel_rfl)
end L
end Go.Proofs.Ytlhagmgfffigfaa
