/- Function 53, as a function of data: its own run; its contract. Printed by a program. Conditions: none. -/
import Derived.Test.YtlhagmgfffigfaaTy
set_option maxRecDepth 100000
set_option linter.unusedVariables false
namespace Go.Proofs.Ytlhagmgfffigfaa
open Go Go.Abs
namespace L
noncomputable def r53_j5 (n : Nat) (x0_j5 : List (El t82)) (x1_j5 : Int) (x2_j5 : Int) (x3_j5 : Int) (x4_j5 : Bool) : Option ((List (El t82) × Int × Int × Int × Unit) × Unit × Unit ⊕ Unit × Unit × Unit ⊕ Int × Unit) :=
  iff x4_j5 (Option.some (Sum.inr (Sum.inr (x3_j5, PUnit.unit))))
  (Option.some (Sum.inl ((x0_j5, x1_j5, x2_j5, wrapQ Go.IntKind.i64 (Int.add x3_j5 (Int.ofNat 1)), PUnit.unit), PUnit.unit, PUnit.unit)))
noncomputable def r53_l2 (n : Nat) (x0_l2 : List (El t82)) (x1_l2 : Int) (x2_l2 : Int) (x3_l2 : Int) : Option ((List (El t82) × Int × Int × Int × Unit) × Unit × Unit ⊕ Unit × Unit × Unit ⊕ Int × Unit) :=
  iff (!leQ (Int.ofNat (List.length x0_l2)) x3_l2)
  (andThen
    (andThen (inRange x3_l2 (List.length x0_l2)) fun (j7 : Nat) =>
      andThen (nthQ j7 x0_l2) fun (y8 : El t82) =>
        iff (eqQ y8.2.1 x1_l2)
          (andThen (inRange x3_l2 (List.length x0_l2)) fun (j9 : Nat) =>
            andThen (nthQ j9 x0_l2) fun (y10 : El t82) =>
              Option.some (Sum.inl ((x0_l2, x1_l2, x2_l2, x3_l2, eqQ y10.2.2.1 x2_l2, PUnit.unit), PUnit.unit, PUnit.unit)))
          (Option.some (Sum.inl ((x0_l2, x1_l2, x2_l2, x3_l2, Bool.false, PUnit.unit), PUnit.unit, PUnit.unit))))
    (sumK fun (x : (List (El t82) × Int × Int × Int × Bool × Unit) × Unit × Unit) =>
      r53_j5 n (Prod.fst (Prod.fst x)) (Prod.fst (Prod.snd (Prod.fst x))) (Prod.fst (Prod.snd (Prod.snd (Prod.fst x))))
        (Prod.fst (Prod.snd (Prod.snd (Prod.snd (Prod.fst x))))) (Prod.fst (Prod.snd (Prod.snd (Prod.snd (Prod.snd (Prod.fst x))))))))
  (Option.some (Sum.inr (Sum.inl (PUnit.unit, PUnit.unit, PUnit.unit))))
noncomputable def r53_j6 (n : Nat) : Option (Int × Unit) :=
  Option.some (Int.negSucc 0, PUnit.unit)
noncomputable def r53c (n : Nat) (x0 : List (El t82)) (x1 : Int) (x2 : Int) : Option (Int × Unit) :=
  andThen
  (iterF
    (fun (x : (List (El t82) × Int × Int × Int × Unit) × Unit × Unit) =>
      r53_l2 n (Prod.fst (Prod.fst x)) (Prod.fst (Prod.snd (Prod.fst x))) (Prod.fst (Prod.snd (Prod.snd (Prod.fst x))))
        (Prod.fst (Prod.snd (Prod.snd (Prod.snd (Prod.fst x))))))
    n ((x0, x1, x2, Int.ofNat 0, PUnit.unit), PUnit.unit, PUnit.unit))
  (sumK fun (x : Unit × Unit × Unit) => r53_j6 n)
noncomputable def r53 (n : Nat) (a : ElL [t36, t3, t5]) : Option (ElL [t3]) := r53c n (a.1) (a.2.1) (a.2.2.1)
noncomputable def r53p : Plan := ⟨[(2, Cut.mk
  [(0, Shp.d (Ty.slice t82)), (1, Shp.d (Ty.int Go.IntKind.i64)),
    (2, Shp.d (Ty.int Go.IntKind.u8)), (7, Shp.d (Ty.int Go.IntKind.i64))]
  [] [] 0)], [(6, Cut.mk [] [] [] 0), (5, Cut.mk
  [(0, Shp.d (Ty.slice t82)), (1, Shp.d (Ty.int Go.IntKind.i64)),
    (2, Shp.d (Ty.int Go.IntKind.u8)), (7, Shp.d (Ty.int Go.IntKind.i64)), (29, Shp.d Ty.bool)]
  [] [] 0)], []⟩
noncomputable def r53k (n : Nat) : Con := ⟨53, [t36, t3, t5], [t3], r53 n, false, none⟩
theorem r53_ok (n : Nat) : SpecSim Try.prog noG 53 (Con.spec (r53k n)) :=
  lift_ok (tab := []) (fn := Try.f53) r53p n mix Tb.tys (fun _ h => by cases h) Try.func53 rfl (by kernel_rfl) (fun h => by cases h) (fun ⟨x0, x1, x2, _⟩ => by kernel_rfl)
end L
end Go.Proofs.Ytlhagmgfffigfaa
