/- Function 44, as a function of data: its own run; its contract. Printed by a program. Conditions: none. -/
import Derived.Test.YtlhagmgfffigfaaTy
import Derived.Test.YtlhagmgfffigfaaL53
import Derived.Test.YtlhagmgfffigfaaL13
set_option maxRecDepth 100000
set_option linter.unusedVariables false
namespace Go.Proofs.Ytlhagmgfffigfaa
open Go Go.Abs
namespace L
noncomputable def r44_j9 (n : Nat) (x0_j9 : List (El t82)) (x1_j9 : List (El t82)) (x2_j9 : Int) (x3_j9 : Bool) : Option
  ((List (El t82) × List (El t82) × Int × Unit) × Unit × Unit ⊕
    Unit × Unit × Unit ⊕ Bool × Unit) :=
  iff x3_j9 (Option.some (Sum.inr (Sum.inr (Bool.false, PUnit.unit))))
  (Option.some (Sum.inl ((x0_j9, x1_j9, wrapQ Go.IntKind.i64 (Int.add x2_j9 (Int.ofNat 1)), PUnit.unit), PUnit.unit, PUnit.unit)))
noncomputable def r44_l5 (n : Nat) (x0_l5 : List (El t82)) (x1_l5 : List (El t82)) (x2_l5 : Int) : Option
  ((List (El t82) × List (El t82) × Int × Unit) × Unit × Unit ⊕
    Unit × Unit × Unit ⊕ Bool × Unit) :=
  iff (!leQ (Int.ofNat (List.length x1_l5)) x2_l5)
  (andThen (inRange x2_l5 (List.length x1_l5)) fun (j6 : Nat) =>
    andThen (nthQ j6 x1_l5) fun (y7 : El t82) =>
      andThen (inRange x2_l5 (List.length x1_l5)) fun (j8 : Nat) =>
        andThen (nthQ j8 x1_l5) fun (y9 : El t82) =>
          andThen (r53 n (x0_l5, y7.2.1, y9.2.2.1, PUnit.unit))
            fun (y10 : ElL (Con.B (r53k n))) =>
            andThen
              (iff (!leQ (Int.ofNat 0) y10.1)
                (Option.some (Sum.inl ((x0_l5, x1_l5, x2_l5, Bool.true, PUnit.unit), PUnit.unit, PUnit.unit)))
                (andThen (inRange y10.1 (List.length x0_l5)) fun (j11 : Nat) =>
                  andThen (nthQ j11 x0_l5) fun (y12 : El t82) =>
                    andThen (inRange x2_l5 (List.length x1_l5)) fun (j13 : Nat) =>
                      andThen (nthQ j13 x1_l5) fun (y14 : El t82) =>
                        Option.some
                          (Sum.inl
                            ((x0_l5, x1_l5, x2_l5,
                                !eqE
                                    (Ty.pair (Ty.int Go.IntKind.i64)
                                      (Ty.pair (Ty.int Go.IntKind.i64) (Ty.pair (Ty.int Go.IntKind.u8) Ty.unit)))
                                    y12 y14,
                                PUnit.unit),
                              PUnit.unit, PUnit.unit))))
              (sumK
                fun
                  (x :
                    (List (El t82) × List (El t82) × Int × Bool × Unit) ×
                      Unit × Unit) =>
                r44_j9 n (Prod.fst (Prod.fst x)) (Prod.fst (Prod.snd (Prod.fst x))) (Prod.fst (Prod.snd (Prod.snd (Prod.fst x))))
                  (Prod.fst (Prod.snd (Prod.snd (Prod.snd (Prod.fst x)))))))
  (Option.some (Sum.inr (Sum.inl (PUnit.unit, PUnit.unit, PUnit.unit))))
noncomputable def r44_j10 (n : Nat) : Option (Bool × Unit) :=
  Option.some (Bool.true, PUnit.unit)
noncomputable def r44c (n : Nat) (x0 : List (El t80)) (x1 : List (El t82)) : Option (Bool × Unit) :=
  andThen (r13 n (x0, PUnit.unit)) fun (y2 : ElL (Con.B (r13k n))) =>
  iff (!eqQ (Int.ofNat (List.length x1)) (Int.ofNat (List.length y2.1))) (Option.some (Bool.false, PUnit.unit))
    (andThen
      (iterF
        (fun
            (x :
              (List (El t82) × List (El t82) × Int × Unit) × Unit × Unit) =>
          r44_l5 n (Prod.fst (Prod.fst x)) (Prod.fst (Prod.snd (Prod.fst x))) (Prod.fst (Prod.snd (Prod.snd (Prod.fst x)))))
        n ((x1, y2.1, Int.ofNat 0, PUnit.unit), PUnit.unit, PUnit.unit))
      (sumK fun (x : Unit × Unit × Unit) => r44_j10 n))
noncomputable def r44 (n : Nat) (a : ElL [t33, t36]) : Option (ElL [t4]) := r44c n (a.1) (a.2.1)
noncomputable def r44p : Plan := ⟨[(5, Cut.mk
  [(1, Shp.d (Ty.slice t82)), (5, Shp.d (Ty.slice t82)),
    (7, Shp.d (Ty.int Go.IntKind.i64))]
  [] [] 0)], [(10, Cut.mk [] [] [] 0), (9, Cut.mk
  [(1, Shp.d (Ty.slice t82)), (5, Shp.d (Ty.slice t82)),
    (7, Shp.d (Ty.int Go.IntKind.i64)), (49, Shp.d Ty.bool)]
  [] [] 0)], []⟩
noncomputable def r44k (n : Nat) : Con := ⟨44, [t33, t36], [t4], r44 n, false, none⟩
theorem r44_ok (n : Nat) : SpecSim Try.prog noG 44 (Con.spec (r44k n)) :=
  lift_ok (tab := [r53k n, r13k n]) (fn := Try.f44) r44p n mix Tb.tys (Cons.all (.cons (r53_ok n) (.cons (r13_ok n) .nil))) Try.func44 rfl (by kernel_rfl) (fun h => by cases h) (fun ⟨x0, x1, _⟩ => by kernel_rfl)
end L
end Go.Proofs.Ytlhagmgfffigfaa
