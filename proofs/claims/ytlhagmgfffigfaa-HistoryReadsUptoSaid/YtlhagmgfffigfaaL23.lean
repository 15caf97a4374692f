/- Function 23, as a function of data: its own run; its contract. Printed by a program. Conditions: none. -/
import Derived.Test.YtlhagmgfffigfaaTy
import Derived.Test.YtlhagmgfffigfaaL40
set_option maxRecDepth 100000
set_option linter.unusedVariables false
namespace Go.Proofs.Ytlhagmgfffigfaa
open Go Go.Abs
namespace L
noncomputable def r23_l4 (n : Nat) (x0_l4 : List (El t80)) (x1_l4 : List (El t80)) (x2_l4 : Int) : Option
  ((List (El t80) × List (El t80) × Int × Unit) × Unit × Unit ⊕
    Unit × Unit × Unit ⊕ Bool × Unit) :=
  iff (!leQ (Int.ofNat (List.length x0_l4)) x2_l4)
  (andThen (inRange x2_l4 (List.length x0_l4)) fun (j5 : Nat) =>
    andThen (nthQ j5 x0_l4) fun (y6 : El t80) =>
      andThen (inRange x2_l4 (List.length x1_l4)) fun (j7 : Nat) =>
        andThen (nthQ j7 x1_l4) fun (y8 : El t80) =>
          andThen (r40 n (y6, y8, PUnit.unit))
            fun (y9 : ElL (Con.B (r40k n))) =>
            iff (!y9.1) (Option.some (Sum.inr (Sum.inr (Bool.false, PUnit.unit))))
              (Option.some (Sum.inl ((x0_l4, x1_l4, wrapQ Go.IntKind.i64 (Int.add x2_l4 (Int.ofNat 1)), PUnit.unit), PUnit.unit, PUnit.unit))))
  (Option.some (Sum.inr (Sum.inl (PUnit.unit, PUnit.unit, PUnit.unit))))
noncomputable def r23_j8 (n : Nat) : Option (Bool × Unit) :=
  Option.some (Bool.true, PUnit.unit)
noncomputable def r23c (n : Nat) (x0 : List (El t80)) (x1 : List (El t80)) : Option (Bool × Unit) :=
  iff (!eqQ (Int.ofNat (List.length x0)) (Int.ofNat (List.length x1))) (Option.some (Bool.false, PUnit.unit))
  (andThen
    (iterF
      (fun (x : (List (El t80) × List (El t80) × Int × Unit) × Unit × Unit) =>
        r23_l4 n (Prod.fst (Prod.fst x)) (Prod.fst (Prod.snd (Prod.fst x))) (Prod.fst (Prod.snd (Prod.snd (Prod.fst x)))))
      n ((x0, x1, Int.ofNat 0, PUnit.unit), PUnit.unit, PUnit.unit))
    (sumK fun (x : Unit × Unit × Unit) => r23_j8 n))
noncomputable def r23 (n : Nat) (a : ElL [t33, t33]) : Option (ElL [t4]) := r23c n (a.1) (a.2.1)
noncomputable def r23p : Plan := ⟨[(4, Cut.mk
  [(0, Shp.d (Ty.slice t80)), (1, Shp.d (Ty.slice t80)),
    (5, Shp.d (Ty.int Go.IntKind.i64))]
  [] [] 0)], [(8, Cut.mk [] [] [] 0)], []⟩
noncomputable def r23k (n : Nat) : Con := ⟨23, [t33, t33], [t4], r23 n, false, none⟩
theorem r23_ok (n : Nat) : SpecSim Try.prog noG 23 (Con.spec (r23k n)) :=
  lift_ok (tab := [r40k n]) (fn := Try.f23) r23p n mix Tb.tys (Cons.all (.cons (r40_ok n) .nil)) Try.func23 rfl (by kernel_rfl) (fun h => by cases h) (fun ⟨x0, x1, _⟩ => by kernel_rfl)
end L
end Go.Proofs.Ytlhagmgfffigfaa
