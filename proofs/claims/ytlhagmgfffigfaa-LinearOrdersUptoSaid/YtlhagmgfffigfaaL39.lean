/- Function 39, as a function of data: its own run; its contract. Printed by a program. Conditions: none. -/
import Derived.Test.YtlhagmgfffigfaaTy
set_option maxRecDepth 100000
set_option linter.unusedVariables false
namespace Go.Proofs.Ytlhagmgfffigfaa
open Go Go.Abs
namespace L
noncomputable def r39_j5 (n : Nat) (x0_j5 : List (El t80)) (x1_j5 : Int) (x2_j5 : Int) (x3_j5 : Bool) : Option ((List (El t80) × Int × Int × Unit) × Unit × Unit ⊕ Unit × Unit × Unit ⊕ Int × Unit) :=
  iff x3_j5 (Option.some (Sum.inr (Sum.inr (x2_j5, PUnit.unit))))
  (Option.some (Sum.inl ((x0_j5, x1_j5, wrapQ Go.IntKind.i64 (Int.add x2_j5 (Int.ofNat 1)), PUnit.unit), PUnit.unit, PUnit.unit)))
noncomputable def r39_l2 (n : Nat) (x0_l2 : List (El t80)) (x1_l2 : Int) (x2_l2 : Int) : Option ((List (El t80) × Int × Int × Unit) × Unit × Unit ⊕ Unit × Unit × Unit ⊕ Int × Unit) :=
  iff (!leQ (Int.ofNat (List.length x0_l2)) x2_l2)
  (andThen
    (andThen (inRange x2_l2 (List.length x0_l2)) fun (j5 : Nat) =>
      andThen (nthQ j5 x0_l2) fun (y6 : El t80) =>
        iff (leQ (Int.ofNat 0) y6.2.2.2.2.2.1)
          (andThen (inRange x2_l2 (List.length x0_l2)) fun (j7 : Nat) =>
            andThen (nthQ j7 x0_l2) fun (y8 : El t80) =>
              Option.some (Sum.inl ((x0_l2, x1_l2, x2_l2, eqQ y8.2.2.2.2.2.1 x1_l2, PUnit.unit), PUnit.unit, PUnit.unit)))
          (Option.some (Sum.inl ((x0_l2, x1_l2, x2_l2, Bool.false, PUnit.unit), PUnit.unit, PUnit.unit))))
    (sumK fun (x : (List (El t80) × Int × Int × Bool × Unit) × Unit × Unit) =>
      r39_j5 n (Prod.fst (Prod.fst x)) (Prod.fst (Prod.snd (Prod.fst x))) (Prod.fst (Prod.snd (Prod.snd (Prod.fst x))))
        (Prod.fst (Prod.snd (Prod.snd (Prod.snd (Prod.fst x)))))))
  (Option.some (Sum.inr (Sum.inl (PUnit.unit, PUnit.unit, PUnit.unit))))
noncomputable def r39_j6 (n : Nat) : Option (Int × Unit) :=
  Option.some (Int.negSucc 0, PUnit.unit)
noncomputable def r39c (n : Nat) (x0 : List (El t80)) (x1 : Int) : Option (Int × Unit) :=
  andThen
  (iterF
    (fun (x : (List (El t80) × Int × Int × Unit) × Unit × Unit) =>
      r39_l2 n (Prod.fst (Prod.fst x)) (Prod.fst (Prod.snd (Prod.fst x))) (Prod.fst (Prod.snd (Prod.snd (Prod.fst x)))))
    n ((x0, x1, Int.ofNat 0, PUnit.unit), PUnit.unit, PUnit.unit))
  (sumK fun (x : Unit × Unit × Unit) => r39_j6 n)
noncomputable def r39 (n : Nat) (a : ElL [t33, t3]) : Option (ElL [t3]) := r39c n (a.1) (a.2.1)
noncomputable def r39p : Plan := ⟨[(2, Cut.mk
  [(0, Shp.d (Ty.slice t80)), (1, Shp.d (Ty.int Go.IntKind.i64)),
    (5, Shp.d (Ty.int Go.IntKind.i64))]
  [] [] 0)], [(6, Cut.mk [] [] [] 0), (5, Cut.mk
  [(0, Shp.d (Ty.slice t80)), (1, Shp.d (Ty.int Go.IntKind.i64)),
    (5, Shp.d (Ty.int Go.IntKind.i64)), (26, Shp.d Ty.bool)]
  [] [] 0)], []⟩
noncomputable def r39k (n : Nat) : Con := ⟨39, [t33, t3], [t3], r39 n, false, none⟩
theorem r39_ok (n : Nat) : SpecSim Try.prog noG 39 (Con.spec (r39k n)) :=
  lift_ok (tab := []) (fn := Try.f39) r39p n mix Tb.tys (fun _ h => by cases h) Try.func39 rfl (by kernel_rfl) (fun h => by cases h) (fun ⟨x0, x1, _⟩ => by kernel_rfl)
end L
end Go.Proofs.Ytlhagmgfffigfaa
