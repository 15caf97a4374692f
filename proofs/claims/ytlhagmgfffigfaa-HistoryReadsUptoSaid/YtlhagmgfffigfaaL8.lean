/- Function 8, as a function of data: its own run; its contract. Printed by a program. Conditions: none. -/
import Derived.Test.YtlhagmgfffigfaaTy
set_option maxRecDepth 100000
set_option linter.unusedVariables false
namespace Go.Proofs.Ytlhagmgfffigfaa
open Go Go.Abs
namespace L
noncomputable def r8_l4 (n : Nat) (x0_l4 : List Int) (x1_l4 : List Int) (x2_l4 : Int) : Option ((List Int × List Int × Int × Unit) × Unit × Unit ⊕ Unit × Unit × Unit ⊕ Bool × Unit) :=
  iff (!leQ (Int.ofNat (List.length x0_l4)) x2_l4)
  (andThen (inRange x2_l4 (List.length x0_l4)) fun (j5 : Nat) =>
    andThen (nthQ j5 x0_l4) fun (y6 : Int) =>
      andThen (inRange x2_l4 (List.length x1_l4)) fun (j7 : Nat) =>
        andThen (nthQ j7 x1_l4) fun (y8 : Int) =>
          iff (!eqQ y6 y8) (Option.some (Sum.inr (Sum.inr (Bool.false, PUnit.unit))))
            (Option.some (Sum.inl ((x0_l4, x1_l4, wrapQ Go.IntKind.i64 (Int.add x2_l4 (Int.ofNat 1)), PUnit.unit), PUnit.unit, PUnit.unit))))
  (Option.some (Sum.inr (Sum.inl (PUnit.unit, PUnit.unit, PUnit.unit))))
noncomputable def r8_j8 (n : Nat) : Option (Bool × Unit) :=
  Option.some (Bool.true, PUnit.unit)
noncomputable def r8c (n : Nat) (x0 : List Int) (x1 : List Int) : Option (Bool × Unit) :=
  iff (!eqQ (Int.ofNat (List.length x0)) (Int.ofNat (List.length x1))) (Option.some (Bool.false, PUnit.unit))
  (andThen
    (iterF
      (fun (x : (List Int × List Int × Int × Unit) × Unit × Unit) =>
        r8_l4 n (Prod.fst (Prod.fst x)) (Prod.fst (Prod.snd (Prod.fst x))) (Prod.fst (Prod.snd (Prod.snd (Prod.fst x)))))
      n ((x0, x1, Int.ofNat 0, PUnit.unit), PUnit.unit, PUnit.unit))
    (sumK fun (x : Unit × Unit × Unit) => r8_j8 n))
noncomputable def r8 (n : Nat) (a : ElL [t23, t23]) : Option (ElL [t4]) := r8c n (a.1) (a.2.1)
noncomputable def r8p : Plan := ⟨[(4, Cut.mk
  [(0, Shp.d (Ty.slice t3)), (1, Shp.d (Ty.slice t3)),
    (5, Shp.d (Ty.int Go.IntKind.i64))]
  [] [] 0)], [(8, Cut.mk [] [] [] 0)], []⟩
noncomputable def r8k (n : Nat) : Con := ⟨8, [t23, t23], [t4], r8 n, false, none⟩
theorem r8_ok (n : Nat) : SpecSim Try.prog noG 8 (Con.spec (r8k n)) :=
  lift_ok (tab := []) (fn := Try.f8) r8p n mix Tb.tys (fun _ h => by cases h) Try.func8 rfl (by kernel_rfl) (fun h => by cases h) (fun ⟨x0, x1, _⟩ => by kernel_rfl)
end L
end Go.Proofs.Ytlhagmgfffigfaa
