/- Function 10, as a function of data: its own run; its contract. Printed by a program. Conditions: none. -/
import Derived.Test.YtlhagmgfffigfaaTy
set_option maxRecDepth 100000
set_option linter.unusedVariables false
namespace Go.Proofs.Ytlhagmgfffigfaa
open Go Go.Abs
namespace L
noncomputable def r10_j5 (n : Nat) (x0_j5 : List (El t80)) (x1_j5 : Int) (x2_j5 : Bool) : Option
  ((List (El t80) × Int × Unit) × Unit × Unit ⊕
    (List (El t80) × Unit) × Unit × Unit ⊕ Bool × Unit) :=
  iff x2_j5 (Option.some (Sum.inr (Sum.inr (Bool.true, PUnit.unit))))
  (Option.some (Sum.inl ((x0_j5, wrapQ Go.IntKind.i64 (Int.add x1_j5 (Int.ofNat 1)), PUnit.unit), PUnit.unit, PUnit.unit)))
noncomputable def r10_l2 (n : Nat) (x0_l2 : List (El t80)) (x1_l2 : Int) : Option
  ((List (El t80) × Int × Unit) × Unit × Unit ⊕
    (List (El t80) × Unit) × Unit × Unit ⊕ Bool × Unit) :=
  iff (!leQ (Int.ofNat (List.length x0_l2)) x1_l2)
  (andThen
    (andThen (inRange x1_l2 (List.length x0_l2)) fun (j3 : Nat) =>
      andThen (nthQ j3 x0_l2) fun (y4 : El t80) =>
        iff (!leQ (Int.ofNat (List.length y4.2.2.2.1)) (Int.ofNat 2500))
          (Option.some (Sum.inl ((x0_l2, x1_l2, Bool.true, PUnit.unit), PUnit.unit, PUnit.unit)))
          (andThen (inRange x1_l2 (List.length x0_l2)) fun (j5 : Nat) =>
            andThen (nthQ j5 x0_l2) fun (y6 : El t80) =>
              iff (!leQ (Int.ofNat (List.length y6.2.2.1.2.1)) (Int.ofNat 2500))
                (Option.some (Sum.inl ((x0_l2, x1_l2, Bool.true, PUnit.unit), PUnit.unit, PUnit.unit)))
                (andThen (inRange x1_l2 (List.length x0_l2)) fun (j7 : Nat) =>
                  andThen (nthQ j7 x0_l2) fun (y8 : El t80) =>
                    Option.some
                      (Sum.inl
                        ((x0_l2, x1_l2, !leQ (Int.ofNat (List.length y8.2.2.2.2.2.2.2.2.2.2.2.1.2.2.2.2.2.1)) (Int.ofNat 60), PUnit.unit),
                          PUnit.unit, PUnit.unit)))))
    (sumK fun (x : (List (El t80) × Int × Bool × Unit) × Unit × Unit) =>
      r10_j5 n (Prod.fst (Prod.fst x)) (Prod.fst (Prod.snd (Prod.fst x))) (Prod.fst (Prod.snd (Prod.snd (Prod.fst x))))))
  (Option.some (Sum.inr (Sum.inl ((x0_l2, PUnit.unit), PUnit.unit, PUnit.unit))))
noncomputable def r10_j6 (n : Nat) (x0_j6 : List (El t80)) : Option (Bool × Unit) :=
  iff (!leQ (Int.ofNat (List.length x0_j6)) (Int.ofNat 60))
  (iff (leQ (Int.ofNat (List.length x0_j6)) (Int.ofNat 120)) (Option.some (Bool.true, PUnit.unit))
    (Option.some (!leQ (Int.ofNat (List.length x0_j6)) (Int.ofNat 130), PUnit.unit)))
  (Option.some (!leQ (Int.ofNat (List.length x0_j6)) (Int.ofNat 130), PUnit.unit))
noncomputable def r10c (n : Nat) (x0 : List (El t80)) : Option (Bool × Unit) :=
  andThen
  (iterF
    (fun (x : (List (El t80) × Int × Unit) × Unit × Unit) =>
      r10_l2 n (Prod.fst (Prod.fst x)) (Prod.fst (Prod.snd (Prod.fst x))))
    n ((x0, Int.ofNat 0, PUnit.unit), PUnit.unit, PUnit.unit))
  (sumK fun (x : (List (El t80) × Unit) × Unit × Unit) => r10_j6 n (Prod.fst (Prod.fst x)))
noncomputable def r10 (n : Nat) (a : ElL [t33]) : Option (ElL [t4]) := r10c n (a.1)
noncomputable def r10p : Plan := ⟨[(2, Cut.mk [(0, Shp.d (Ty.slice t80)), (3, Shp.d (Ty.int Go.IntKind.i64))] [] [] 0)], [(6, Cut.mk [(0, Shp.d (Ty.slice t80))] [] [] 0), (5, Cut.mk
  [(0, Shp.d (Ty.slice t80)), (3, Shp.d (Ty.int Go.IntKind.i64)),
    (36, Shp.d Ty.bool)]
  [] [] 0)], []⟩
noncomputable def r10k (n : Nat) : Con := ⟨10, [t33], [t4], r10 n, false, none⟩
theorem r10_ok (n : Nat) : SpecSim Try.prog noG 10 (Con.spec (r10k n)) :=
  lift_ok (tab := []) (fn := Try.f10) r10p n mix Tb.tys (fun _ h => by cases h) Try.func10 rfl (by kernel_rfl) (fun h => by cases h) (fun ⟨x0, _⟩ => by kernel_rfl)
end L
end Go.Proofs.Ytlhagmgfffigfaa
