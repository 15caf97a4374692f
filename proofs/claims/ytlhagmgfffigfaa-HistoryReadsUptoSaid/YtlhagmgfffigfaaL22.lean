/- Function 22, as a function of data: its own run; its contract. Printed by a program. Conditions: none. -/
import Derived.Test.YtlhagmgfffigfaaTy
set_option maxRecDepth 100000
set_option linter.unusedVariables false
namespace Go.Proofs.Ytlhagmgfffigfaa
open Go Go.Abs
namespace L
noncomputable def r22_l4 (n : Nat) (x0_l4 : List (El t82)) (x1_l4 : List (El t82)) (x2_l4 : Int) : Option
  ((List (El t82) × List (El t82) × Int × Unit) × Unit × Unit ⊕
    Unit × Unit × Unit ⊕ Bool × Unit) :=
  iff (!leQ (Int.ofNat (List.length x0_l4)) x2_l4)
  (andThen (inRange x2_l4 (List.length x0_l4)) fun (j5 : Nat) =>
    andThen (nthQ j5 x0_l4) fun (y6 : El t82) =>
      andThen (inRange x2_l4 (List.length x1_l4)) fun (j7 : Nat) =>
        andThen (nthQ j7 x1_l4) fun (y8 : El t82) =>
          iff
            (!eqE
                (Ty.pair (Ty.int Go.IntKind.i64)
                  (Ty.pair (Ty.int Go.IntKind.i64) (Ty.pair (Ty.int Go.IntKind.u8) Ty.unit)))
                y6 y8)
            (Option.some (Sum.inr (Sum.inr (Bool.false, PUnit.unit))))
            (Option.some (Sum.inl ((x0_l4, x1_l4, wrapQ Go.IntKind.i64 (Int.add x2_l4 (Int.ofNat 1)), PUnit.unit), PUnit.unit, PUnit.unit))))
  (Option.some (Sum.inr (Sum.inl (PUnit.unit, PUnit.unit, PUnit.unit))))
noncomputable def r22_j8 (n : Nat) : Option (Bool × Unit) :=
  Option.some (Bool.true, PUnit.unit)
noncomputable def r22c (n : Nat) (x0 : List (El t82)) (x1 : List (El t82)) : Option (Bool × Unit) :=
  iff (!eqQ (Int.ofNat (List.length x0)) (Int.ofNat (List.length x1))) (Option.some (Bool.false, PUnit.unit))
  (andThen
    (iterF
      (fun (x : (List (El t82) × List (El t82) × Int × Unit) × Unit × Unit) =>
        r22_l4 n (Prod.fst (Prod.fst x)) (Prod.fst (Prod.snd (Prod.fst x))) (Prod.fst (Prod.snd (Prod.snd (Prod.fst x)))))
      n ((x0, x1, Int.ofNat 0, PUnit.unit), PUnit.unit, PUnit.unit))
    (sumK fun (x : Unit × Unit × Unit) => r22_j8 n))
noncomputable def r22 (n : Nat) (a : ElL [t36, t36]) : Option (ElL [t4]) := r22c n (a.1) (a.2.1)
noncomputable def r22p : Plan := ⟨[(4, Cut.mk
  [(0, Shp.d (Ty.slice t82)), (1, Shp.d (Ty.slice t82)),
    (5, Shp.d (Ty.int Go.IntKind.i64))]
  [] [] 0)], [(8, Cut.mk [] [] [] 0)], []⟩
noncomputable def r22k (n : Nat) : Con := ⟨22, [t36, t36], [t4], r22 n, false, none⟩
theorem r22_ok (n : Nat) : SpecSim Try.prog noG 22 (Con.spec (r22k n)) :=
  lift_ok (tab := []) (fn := Try.f22) r22p n mix Tb.tys (fun _ h => by cases h) Try.func22 rfl (by kernel_rfl) (fun h => by cases h) (fun ⟨x0, x1, _⟩ => by kernel_rfl)
end L
end Go.Proofs.Ytlhagmgfffigfaa
