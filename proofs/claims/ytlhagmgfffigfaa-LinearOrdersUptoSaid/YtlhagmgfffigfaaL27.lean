/- Function 27, as a function of data: its own run; its contract. Printed by a program. Conditions: none. -/
import Derived.Test.YtlhagmgfffigfaaTy
import Derived.Test.YtlhagmgfffigfaaL36
import Derived.Test.YtlhagmgfffigfaaL44
import Derived.Test.YtlhagmgfffigfaaL43
set_option maxRecDepth 100000
set_option linter.unusedVariables false
namespace Go.Proofs.Ytlhagmgfffigfaa
open Go Go.Abs
namespace L
noncomputable def r27_j15 (n : Nat) (x0_j15 : List (El t80)) (x1_j15 : List (El t82)) (x2_j15 : Int) (x3_j15 : Int) (x4_j15 : Bool) : Option
  ((List (El t80) × List (El t82) × Int × Int × Unit) × Unit × Unit ⊕
    (List (El t80) × List (El t82) × Int × Unit) × Unit × Unit ⊕
      (List (El t80) × List (El t82) × Int × Unit) × Unit × Unit ⊕
        Unit × Unit × Unit ⊕ Bool × Int × Unit) :=
  iff x4_j15 (Option.some (Sum.inr (Sum.inr (Sum.inr (Sum.inr (Bool.false, Int.ofNat 0, PUnit.unit))))))
  (Option.some (Sum.inl ((x0_j15, x1_j15, x2_j15, wrapQ Go.IntKind.i64 (Int.add x3_j15 (Int.ofNat 1)), PUnit.unit), PUnit.unit, PUnit.unit)))
noncomputable def r27_j13 (n : Nat) (x0_j13 : List (El t80)) (x1_j13 : List (El t82)) (x2_j13 : Int) (x3_j13 : Int) (x4_j13 : Bool) : Option
  ((List (El t80) × List (El t82) × Int × Int × Unit) × Unit × Unit ⊕
    (List (El t80) × List (El t82) × Int × Unit) × Unit × Unit ⊕
      (List (El t80) × List (El t82) × Int × Unit) × Unit × Unit ⊕
        Unit × Unit × Unit ⊕ Bool × Int × Unit) :=
  andThen (inRange x2_j13 (List.length x1_j13)) fun (j22 : Nat) =>
  andThen (nthQ j22 x1_j13) fun (y23 : El t82) =>
    andThen (inRange y23.2.1 (List.length x0_j13)) fun (j24 : Nat) =>
      andThen (nthQ j24 x0_j13) fun (y25 : El t80) =>
        andThen (inRange x3_j13 (List.length x1_j13)) fun (j26 : Nat) =>
          andThen (nthQ j26 x1_j13) fun (y27 : El t82) =>
            andThen (inRange y27.2.1 (List.length x0_j13)) fun (j28 : Nat) =>
              andThen (nthQ j28 x0_j13) fun (y29 : El t80) =>
                andThen (r36 n (y25, y29, PUnit.unit))
                  fun (y30 : ElL (Con.B (r36k n))) =>
                  andThen
                    (iff x4_j13 (Option.some (Sum.inl ((x0_j13, x1_j13, x2_j13, x3_j13, Bool.true, PUnit.unit), PUnit.unit, PUnit.unit)))
                      (Option.some (Sum.inl ((x0_j13, x1_j13, x2_j13, x3_j13, y30.1, PUnit.unit), PUnit.unit, PUnit.unit))))
                    (sumK
                      fun
                        (x :
                          (List (El t80) ×
                              List (El t82) × Int × Int × Bool × Unit) ×
                            Unit × Unit) =>
                      r27_j15 n (Prod.fst (Prod.fst x)) (Prod.fst (Prod.snd (Prod.fst x))) (Prod.fst (Prod.snd (Prod.snd (Prod.fst x))))
                        (Prod.fst (Prod.snd (Prod.snd (Prod.snd (Prod.fst x))))) (Prod.fst (Prod.snd (Prod.snd (Prod.snd (Prod.snd (Prod.fst x)))))))
noncomputable def r27_l10 (n : Nat) (x0_l10 : List (El t80)) (x1_l10 : List (El t82)) (x2_l10 : Int) (x3_l10 : Int) : Option
  ((List (El t80) × List (El t82) × Int × Int × Unit) × Unit × Unit ⊕
    (List (El t80) × List (El t82) × Int × Unit) × Unit × Unit ⊕
      (List (El t80) × List (El t82) × Int × Unit) × Unit × Unit ⊕
        Unit × Unit × Unit ⊕ Bool × Int × Unit) :=
  iff (!leQ x2_l10 x3_l10)
  (andThen
    (andThen (inRange x3_l10 (List.length x1_l10)) fun (j11 : Nat) =>
      andThen (nthQ j11 x1_l10) fun (y12 : El t82) =>
        andThen (inRange x2_l10 (List.length x1_l10)) fun (j13 : Nat) =>
          andThen (nthQ j13 x1_l10) fun (y14 : El t82) =>
            iff (eqQ y12.2.1 y14.2.1)
              (andThen (inRange x3_l10 (List.length x1_l10)) fun (j15 : Nat) =>
                andThen (nthQ j15 x1_l10) fun (y16 : El t82) =>
                  Option.some (Sum.inl ((x0_l10, x1_l10, x2_l10, x3_l10, eqQ y16.2.2.1 (Int.ofNat 2), PUnit.unit), PUnit.unit, PUnit.unit)))
              (Option.some (Sum.inl ((x0_l10, x1_l10, x2_l10, x3_l10, Bool.false, PUnit.unit), PUnit.unit, PUnit.unit))))
    (sumK
      fun
        (x :
          (List (El t80) × List (El t82) × Int × Int × Bool × Unit) ×
            Unit × Unit) =>
      r27_j13 n (Prod.fst (Prod.fst x)) (Prod.fst (Prod.snd (Prod.fst x))) (Prod.fst (Prod.snd (Prod.snd (Prod.fst x))))
        (Prod.fst (Prod.snd (Prod.snd (Prod.snd (Prod.fst x))))) (Prod.fst (Prod.snd (Prod.snd (Prod.snd (Prod.snd (Prod.fst x))))))))
  (Option.some (Sum.inr (Sum.inl ((x0_l10, x1_l10, x2_l10, PUnit.unit), PUnit.unit, PUnit.unit))))
noncomputable def r27_j8 (n : Nat) (x0_j8 : List (El t80)) (x1_j8 : List (El t82)) (x2_j8 : Int) : Option
  ((List (El t80) × List (El t82) × Int × Unit) × Unit × Unit ⊕
    Unit × Unit × Unit ⊕ Bool × Int × Unit) :=
  Option.some (Sum.inl ((x0_j8, x1_j8, wrapQ Go.IntKind.i64 (Int.add x2_j8 (Int.ofNat 1)), PUnit.unit), PUnit.unit, PUnit.unit))
noncomputable def r27_l7 (n : Nat) (x0_l7 : List (El t80)) (x1_l7 : List (El t82)) (x2_l7 : Int) : Option
  ((List (El t80) × List (El t82) × Int × Unit) × Unit × Unit ⊕
    Unit × Unit × Unit ⊕ Bool × Int × Unit) :=
  iff (!leQ (Int.ofNat (List.length x1_l7)) x2_l7)
  (andThen
    (iterF
      (fun
          (x :
            (List (El t80) × List (El t82) × Int × Int × Unit) ×
              Unit × Unit) =>
        r27_l10 n (Prod.fst (Prod.fst x)) (Prod.fst (Prod.snd (Prod.fst x))) (Prod.fst (Prod.snd (Prod.snd (Prod.fst x))))
          (Prod.fst (Prod.snd (Prod.snd (Prod.snd (Prod.fst x))))))
      n ((x0_l7, x1_l7, x2_l7, Int.ofNat 0, PUnit.unit), PUnit.unit, PUnit.unit))
    (sumK
      fun (x : (List (El t80) × List (El t82) × Int × Unit) × Unit × Unit) =>
      r27_j8 n (Prod.fst (Prod.fst x)) (Prod.fst (Prod.snd (Prod.fst x))) (Prod.fst (Prod.snd (Prod.snd (Prod.fst x))))))
  (Option.some (Sum.inr (Sum.inl (PUnit.unit, PUnit.unit, PUnit.unit))))
noncomputable def r27_j16 (n : Nat) : Option (Bool × Int × Unit) :=
  Option.some (Bool.true, Int.ofNat 0, PUnit.unit)
noncomputable def r27c (n : Nat) (x0 : List (El t80)) (x1 : List (El t82)) : Option (Bool × Int × Unit) :=
  andThen (r43 n (x0, x1, PUnit.unit)) fun (y2 : ElL (Con.B (r43k n))) =>
  iff (!eqQ y2.1 (Int.ofNat 0)) (Option.some (Bool.false, y2.1, PUnit.unit))
    (andThen (r44 n (x0, x1, PUnit.unit))
      fun (y3 : ElL (Con.B (r44k n))) =>
      iff (!y3.1) (Option.some (Bool.false, Int.ofNat 2, PUnit.unit))
        (andThen
          (iterF
            (fun
                (x :
                  (List (El t80) × List (El t82) × Int × Unit) ×
                    Unit × Unit) =>
              r27_l7 n (Prod.fst (Prod.fst x)) (Prod.fst (Prod.snd (Prod.fst x))) (Prod.fst (Prod.snd (Prod.snd (Prod.fst x)))))
            n ((x0, x1, Int.ofNat 0, PUnit.unit), PUnit.unit, PUnit.unit))
          (sumK fun (x : Unit × Unit × Unit) => r27_j16 n)))
noncomputable def r27 (n : Nat) (a : ElL [t33, t36]) : Option (ElL [t4, t3]) := r27c n (a.1) (a.2.1)
noncomputable def r27p : Plan := ⟨[(7, Cut.mk
  [(0, Shp.d (Ty.slice t80)), (1, Shp.d (Ty.slice t82)),
    (7, Shp.d (Ty.int Go.IntKind.i64))]
  [] [] 0), (10, Cut.mk
  [(0, Shp.d (Ty.slice t80)), (1, Shp.d (Ty.slice t82)),
    (7, Shp.d (Ty.int Go.IntKind.i64)), (8, Shp.d (Ty.int Go.IntKind.i64))]
  [] [] 0)], [(16, Cut.mk [] [] [] 0), (8, Cut.mk
  [(0, Shp.d (Ty.slice t80)), (1, Shp.d (Ty.slice t82)),
    (7, Shp.d (Ty.int Go.IntKind.i64))]
  [] [] 0), (13, Cut.mk
  [(0, Shp.d (Ty.slice t80)), (1, Shp.d (Ty.slice t82)),
    (7, Shp.d (Ty.int Go.IntKind.i64)), (8, Shp.d (Ty.int Go.IntKind.i64)), (9, Shp.d Ty.bool)]
  [] [] 0), (15, Cut.mk
  [(0, Shp.d (Ty.slice t80)), (1, Shp.d (Ty.slice t82)),
    (7, Shp.d (Ty.int Go.IntKind.i64)), (8, Shp.d (Ty.int Go.IntKind.i64)), (71, Shp.d Ty.bool)]
  [] [] 0)], []⟩
noncomputable def r27k (n : Nat) : Con := ⟨27, [t33, t36], [t4, t3], r27 n, false, none⟩
theorem r27_ok (n : Nat) : SpecSim Try.prog noG 27 (Con.spec (r27k n)) :=
  lift_ok (tab := [r36k n, r44k n, r43k n]) (fn := Try.f27) r27p n mix Tb.tys (Cons.all (.cons (r36_ok n) (.cons (r44_ok n) (.cons (r43_ok n) .nil)))) Try.func27 rfl (by kernel_rfl) (fun h => by cases h) (fun ⟨x0, x1, _⟩ => by kernel_rfl)
end L
end Go.Proofs.Ytlhagmgfffigfaa
