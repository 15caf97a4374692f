/- Function 20, as a function of data: its own run; its contract. Printed by a program. Conditions: none. -/
import Derived.Test.YtlhagmgfffigfaaTy
import Derived.Test.YtlhagmgfffigfaaL37
set_option maxRecDepth 100000
set_option linter.unusedVariables false
namespace Go.Proofs.Ytlhagmgfffigfaa
open Go Go.Abs
namespace L
noncomputable def r20_j16 (n : Nat) (x0_j16 : Int) (x1_j16 : Int) (x2_j16 : List (El t80)) (x3_j16 : Int) (x4_j16 : Int) (x5_j16 : List Int) (x6_j16 : Int) (x7_j16 : Int) (x8_j16 : Bool) (x9_j16 : List (Int × Bool × Int) × Int) (x10_j16 : List (Int × Bool × Int) × Int) : Option
  ((Unit × Unit × Int × List (El t80) × Int × Int × List Int × Int × Int × Unit) ×
      Unit × (List (Int × Bool × Int) × Int) × (List (Int × Bool × Int) × Int) × Unit ⊕
    (Unit × Unit × Int × List (El t80) × Int × Int × Unit) ×
        Unit × (List (Int × Bool × Int) × Int) × (List (Int × Bool × Int) × Int) × Unit ⊕
      (Unit × Unit × Int × List (El t80) × Int × Int × Unit) ×
          Unit × (List (Int × Bool × Int) × Int) × (List (Int × Bool × Int) × Int) × Unit ⊕
        Unit × Unit × Unit ⊕ Int × Unit) :=
  iff x8_j16 (Option.some (Sum.inr (Sum.inr (Sum.inr (Sum.inr (Int.ofNat 8, PUnit.unit))))))
  (Option.some
    (Sum.inl
      ((PUnit.unit, PUnit.unit, x0_j16, x2_j16, x3_j16, x4_j16, x5_j16, x6_j16, wrapQ Go.IntKind.i64 (Int.add x7_j16 (Int.ofNat 1)),
          PUnit.unit),
        PUnit.unit, x9_j16, putX (Ty.int Go.IntKind.i64) Ty.bool x1_j16 Bool.true x10_j16, PUnit.unit)))
noncomputable def r20_l13 (n : Nat) (x0_l13 : Int) (x1_l13 : List (El t80)) (x2_l13 : Int) (x3_l13 : Int) (x4_l13 : List Int) (x5_l13 : Int) (x6_l13 : Int) (x7_l13 : List (Int × Bool × Int) × Int) (x8_l13 : List (Int × Bool × Int) × Int) : Option
  ((Unit × Unit × Int × List (El t80) × Int × Int × List Int × Int × Int × Unit) ×
      Unit × (List (Int × Bool × Int) × Int) × (List (Int × Bool × Int) × Int) × Unit ⊕
    (Unit × Unit × Int × List (El t80) × Int × Int × Unit) ×
        Unit × (List (Int × Bool × Int) × Int) × (List (Int × Bool × Int) × Int) × Unit ⊕
      (Unit × Unit × Int × List (El t80) × Int × Int × Unit) ×
          Unit × (List (Int × Bool × Int) × Int) × (List (Int × Bool × Int) × Int) × Unit ⊕
        Unit × Unit × Unit ⊕ Int × Unit) :=
  iff (!leQ x5_l13 x6_l13)
  (andThen (inRange x6_l13 (List.length x4_l13)) fun (j26 : Nat) =>
    andThen (nthQ j26 x4_l13) fun (y27 : Int) =>
      andThen
        (iff (leQ (Int.ofNat 0) y27)
          (Option.some
            (Sum.inl
              ((PUnit.unit, PUnit.unit, x0_l13, y27, x1_l13, x2_l13, x3_l13, x4_l13, x5_l13, x6_l13,
                  getX (Ty.int Go.IntKind.i64) Ty.bool y27 Bool.false x8_l13.1, PUnit.unit),
                PUnit.unit, x7_l13, x8_l13, PUnit.unit)))
          (Option.some
            (Sum.inl
              ((PUnit.unit, PUnit.unit, x0_l13, y27, x1_l13, x2_l13, x3_l13, x4_l13, x5_l13, x6_l13, Bool.false, PUnit.unit), PUnit.unit, x7_l13,
                x8_l13, PUnit.unit))))
        (sumK
          fun
            (x :
              (Unit × Unit × Int × Int × List (El t80) × Int × Int × List Int × Int × Int × Bool × Unit) ×
                Unit × (List (Int × Bool × Int) × Int) × (List (Int × Bool × Int) × Int) × Unit) =>
          r20_j16 n (Prod.fst (Prod.snd (Prod.snd (Prod.fst x)))) (Prod.fst (Prod.snd (Prod.snd (Prod.snd (Prod.fst x)))))
            (Prod.fst (Prod.snd (Prod.snd (Prod.snd (Prod.snd (Prod.fst x))))))
            (Prod.fst (Prod.snd (Prod.snd (Prod.snd (Prod.snd (Prod.snd (Prod.fst x)))))))
            (Prod.fst (Prod.snd (Prod.snd (Prod.snd (Prod.snd (Prod.snd (Prod.snd (Prod.fst x))))))))
            (Prod.fst (Prod.snd (Prod.snd (Prod.snd (Prod.snd (Prod.snd (Prod.snd (Prod.snd (Prod.fst x)))))))))
            (Prod.fst (Prod.snd (Prod.snd (Prod.snd (Prod.snd (Prod.snd (Prod.snd (Prod.snd (Prod.snd (Prod.fst x))))))))))
            (Prod.fst (Prod.snd (Prod.snd (Prod.snd (Prod.snd (Prod.snd (Prod.snd (Prod.snd (Prod.snd (Prod.snd (Prod.fst x)))))))))))
            (Prod.fst (Prod.snd (Prod.snd (Prod.snd (Prod.snd (Prod.snd (Prod.snd (Prod.snd (Prod.snd (Prod.snd (Prod.snd (Prod.fst x))))))))))))
            (Prod.fst (Prod.snd (Prod.snd x))) (Prod.fst (Prod.snd (Prod.snd (Prod.snd x))))))
  (Option.some (Sum.inr (Sum.inl ((PUnit.unit, PUnit.unit, x0_l13, x1_l13, x2_l13, x3_l13, PUnit.unit), PUnit.unit, x7_l13, x8_l13, PUnit.unit))))
noncomputable def r20_j9 (n : Nat) (x0_j9 : List (El t80)) (x1_j9 : Int) (x2_j9 : Int) (x3_j9 : Bool) (x4_j9 : List (Int × Bool × Int) × Int) (x5_j9 : List (Int × Bool × Int) × Int) (x6_j9 : El t80) : Option
  ((Unit × Unit × Int × List (El t80) × Int × Int × Unit) ×
      Unit × (List (Int × Bool × Int) × Int) × (List (Int × Bool × Int) × Int) × Unit ⊕
    (Unit × Unit × Int × List (El t80) × Int × Int × Unit) ×
        Unit × (List (Int × Bool × Int) × Int) × (List (Int × Bool × Int) × Int) × Unit ⊕
      Unit × Unit × Unit ⊕ Int × Unit) :=
  iff x3_j9 (Option.some (Sum.inr (Sum.inr (Sum.inr (Int.ofNat 8, PUnit.unit)))))
  (iterF
    (fun
        (x :
          (Unit × Unit × Int × List (El t80) × Int × Int × List Int × Int × Int × Unit) ×
            Unit × (List (Int × Bool × Int) × Int) × (List (Int × Bool × Int) × Int) × Unit) =>
      r20_l13 n (Prod.fst (Prod.snd (Prod.snd (Prod.fst x)))) (Prod.fst (Prod.snd (Prod.snd (Prod.snd (Prod.fst x)))))
        (Prod.fst (Prod.snd (Prod.snd (Prod.snd (Prod.snd (Prod.fst x))))))
        (Prod.fst (Prod.snd (Prod.snd (Prod.snd (Prod.snd (Prod.snd (Prod.fst x)))))))
        (Prod.fst (Prod.snd (Prod.snd (Prod.snd (Prod.snd (Prod.snd (Prod.snd (Prod.fst x))))))))
        (Prod.fst (Prod.snd (Prod.snd (Prod.snd (Prod.snd (Prod.snd (Prod.snd (Prod.snd (Prod.fst x)))))))))
        (Prod.fst (Prod.snd (Prod.snd (Prod.snd (Prod.snd (Prod.snd (Prod.snd (Prod.snd (Prod.snd (Prod.fst x))))))))))
        (Prod.fst (Prod.snd (Prod.snd x))) (Prod.fst (Prod.snd (Prod.snd (Prod.snd x)))))
    n
    ((PUnit.unit, PUnit.unit, x6_j9.2.2.2.2.2.2.1, x0_j9, x1_j9, x2_j9, [x6_j9.2.2.2.2.2.2.2.1, x6_j9.2.2.2.2.2.2.2.2.2.1], Int.ofNat 2, Int.ofNat 0,
        PUnit.unit),
      PUnit.unit, putX (Ty.int Go.IntKind.i64) Ty.bool x6_j9.2.2.2.2.2.1 Bool.true x4_j9, x5_j9, PUnit.unit))
noncomputable def r20_j19 (n : Nat) (x0_j19 : Int) (x1_j19 : List (El t80)) (x2_j19 : Int) (x3_j19 : Int) (x4_j19 : List (Int × Bool × Int) × Int) (x5_j19 : List (Int × Bool × Int) × Int) : Option
  ((Unit × Unit × Int × List (El t80) × Int × Int × Unit) ×
      Unit × (List (Int × Bool × Int) × Int) × (List (Int × Bool × Int) × Int) × Unit ⊕
    Unit × Unit × Unit ⊕ Int × Unit) :=
  Option.some
  (Sum.inl
    ((PUnit.unit, PUnit.unit, x0_j19, x1_j19, x2_j19, wrapQ Go.IntKind.i64 (Int.add x3_j19 (Int.ofNat 1)), PUnit.unit), PUnit.unit, x4_j19,
      x5_j19, PUnit.unit))
noncomputable def r20_l6 (n : Nat) (x0_l6 : Int) (x1_l6 : List (El t80)) (x2_l6 : Int) (x3_l6 : Int) (x4_l6 : List (Int × Bool × Int) × Int) (x5_l6 : List (Int × Bool × Int) × Int) : Option
  ((Unit × Unit × Int × List (El t80) × Int × Int × Unit) ×
      Unit × (List (Int × Bool × Int) × Int) × (List (Int × Bool × Int) × Int) × Unit ⊕
    Unit × Unit × Unit ⊕ Int × Unit) :=
  iff (!leQ x2_l6 x3_l6)
  (andThen
    (andThen (inRange x3_l6 (List.length x1_l6)) fun (j7 : Nat) =>
      andThen (nthQ j7 x1_l6) fun (y8 : El t80) =>
        andThen
          (andThen (r37 n (y8, PUnit.unit))
            fun (y9 : ElL (Con.B (r37k n))) =>
            iff (!y9.1)
              (Option.some
                (Sum.inl
                  ((PUnit.unit, PUnit.unit, PUnit.unit, x1_l6, x2_l6, x3_l6, Bool.true, PUnit.unit), PUnit.unit, x4_l6, x5_l6, y8, PUnit.unit)))
              (iff (leQ y8.2.2.2.2.2.2.1 x0_l6)
                (Option.some
                  (Sum.inl
                    ((PUnit.unit, PUnit.unit, PUnit.unit, x1_l6, x2_l6, x3_l6, Bool.true, PUnit.unit), PUnit.unit, x4_l6, x5_l6, y8, PUnit.unit)))
                (iff (leQ (Int.ofNat 0) y8.2.2.2.2.2.1)
                  (Option.some
                    (Sum.inl
                      ((PUnit.unit, PUnit.unit, PUnit.unit, x1_l6, x2_l6, x3_l6,
                          getX (Ty.int Go.IntKind.i64) Ty.bool y8.2.2.2.2.2.1 Bool.false x4_l6.1, PUnit.unit),
                        PUnit.unit, x4_l6, x5_l6, y8, PUnit.unit)))
                  (Option.some
                    (Sum.inl
                      ((PUnit.unit, PUnit.unit, PUnit.unit, x1_l6, x2_l6, x3_l6, Bool.false, PUnit.unit), PUnit.unit, x4_l6, x5_l6, y8,
                        PUnit.unit))))))
          (sumK
            fun
              (x :
                (Unit × Unit × Unit × List (El t80) × Int × Int × Bool × Unit) ×
                  Unit × (List (Int × Bool × Int) × Int) × (List (Int × Bool × Int) × Int) × El t80 × Unit) =>
            r20_j9 n (Prod.fst (Prod.snd (Prod.snd (Prod.snd (Prod.fst x))))) (Prod.fst (Prod.snd (Prod.snd (Prod.snd (Prod.snd (Prod.fst x))))))
              (Prod.fst (Prod.snd (Prod.snd (Prod.snd (Prod.snd (Prod.snd (Prod.fst x)))))))
              (Prod.fst (Prod.snd (Prod.snd (Prod.snd (Prod.snd (Prod.snd (Prod.snd (Prod.fst x)))))))) (Prod.fst (Prod.snd (Prod.snd x)))
              (Prod.fst (Prod.snd (Prod.snd (Prod.snd x)))) (Prod.fst (Prod.snd (Prod.snd (Prod.snd (Prod.snd x)))))))
    (sumK
      fun
        (x :
          (Unit × Unit × Int × List (El t80) × Int × Int × Unit) ×
            Unit × (List (Int × Bool × Int) × Int) × (List (Int × Bool × Int) × Int) × Unit) =>
      r20_j19 n (Prod.fst (Prod.snd (Prod.snd (Prod.fst x)))) (Prod.fst (Prod.snd (Prod.snd (Prod.snd (Prod.fst x)))))
        (Prod.fst (Prod.snd (Prod.snd (Prod.snd (Prod.snd (Prod.fst x))))))
        (Prod.fst (Prod.snd (Prod.snd (Prod.snd (Prod.snd (Prod.snd (Prod.fst x))))))) (Prod.fst (Prod.snd (Prod.snd x)))
        (Prod.fst (Prod.snd (Prod.snd (Prod.snd x))))))
  (Option.some (Sum.inr (Sum.inl (PUnit.unit, PUnit.unit, PUnit.unit))))
noncomputable def r20_j20 (n : Nat) : Option (Int × Unit) :=
  Option.some (Int.ofNat 0, PUnit.unit)
noncomputable def r20c (n : Nat) (x0 : List (El t80)) : Option (Int × Unit) :=
  iff (!leQ (Int.ofNat (List.length x0)) (Int.ofNat 120)) (Option.some (Int.ofNat 4, PUnit.unit))
  (andThen
    (iterF
      (fun
          (x :
            (Unit × Unit × Int × List (El t80) × Int × Int × Unit) ×
              Unit × (List (Int × Bool × Int) × Int) × (List (Int × Bool × Int) × Int) × Unit) =>
        r20_l6 n (Prod.fst (Prod.snd (Prod.snd (Prod.fst x)))) (Prod.fst (Prod.snd (Prod.snd (Prod.snd (Prod.fst x)))))
          (Prod.fst (Prod.snd (Prod.snd (Prod.snd (Prod.snd (Prod.fst x))))))
          (Prod.fst (Prod.snd (Prod.snd (Prod.snd (Prod.snd (Prod.snd (Prod.fst x))))))) (Prod.fst (Prod.snd (Prod.snd x)))
          (Prod.fst (Prod.snd (Prod.snd (Prod.snd x)))))
      n
      ((PUnit.unit, PUnit.unit, Int.negSucc 0, x0, Int.ofNat (List.length x0), Int.ofNat 0, PUnit.unit), PUnit.unit, ([], Int.ofNat 0),
        ([], Int.ofNat 0), PUnit.unit))
    (sumK fun (x : Unit × Unit × Unit) => r20_j20 n))
noncomputable def r20 (n : Nat) (a : ElL [t33]) : Option (ElL [t25]) := r20c n (a.1)
noncomputable def r20p : Plan := ⟨[(6, Cut.mk
  [(3, Shp.mat 0), (4, Shp.mat 1), (5, Shp.d (Ty.int Go.IntKind.i64)),
    (15, Shp.d (Ty.slice t80)), (16, Shp.d (Ty.int Go.IntKind.i64)),
    (17, Shp.d (Ty.int Go.IntKind.i64))]
  [] [(0, Shp.mp (Ty.int Go.IntKind.i64) Ty.bool), (1, Shp.mp (Ty.int Go.IntKind.i64) Ty.bool)] 2), (13, Cut.mk
  [(3, Shp.mat 0), (4, Shp.mat 1), (5, Shp.d (Ty.int Go.IntKind.i64)),
    (15, Shp.d (Ty.slice t80)), (16, Shp.d (Ty.int Go.IntKind.i64)),
    (17, Shp.d (Ty.int Go.IntKind.i64)), (50, Shp.d (Ty.slice t3)),
    (51, Shp.d (Ty.int Go.IntKind.i64)), (52, Shp.d (Ty.int Go.IntKind.i64))]
  [] [(0, Shp.mp (Ty.int Go.IntKind.i64) Ty.bool), (1, Shp.mp (Ty.int Go.IntKind.i64) Ty.bool)] 2)], [(20, Cut.mk [] [] [] 0), (19, Cut.mk
  [(3, Shp.mat 0), (4, Shp.mat 1), (5, Shp.d (Ty.int Go.IntKind.i64)),
    (15, Shp.d (Ty.slice t80)), (16, Shp.d (Ty.int Go.IntKind.i64)),
    (17, Shp.d (Ty.int Go.IntKind.i64))]
  [] [(0, Shp.mp (Ty.int Go.IntKind.i64) Ty.bool), (1, Shp.mp (Ty.int Go.IntKind.i64) Ty.bool)] 2), (9, Cut.mk
  [(3, Shp.mat 0), (4, Shp.mat 1), (7, Shp.at 2 0), (15, Shp.d (Ty.slice t80)),
    (16, Shp.d (Ty.int Go.IntKind.i64)), (17, Shp.d (Ty.int Go.IntKind.i64)), (40, Shp.d Ty.bool)]
  []
  [(0, Shp.mp (Ty.int Go.IntKind.i64) Ty.bool), (1, Shp.mp (Ty.int Go.IntKind.i64) Ty.bool),
    (2, Shp.d t80)]
  3), (16, Cut.mk
  [(3, Shp.mat 0), (4, Shp.mat 1), (5, Shp.d (Ty.int Go.IntKind.i64)), (9, Shp.d (Ty.int Go.IntKind.i64)),
    (15, Shp.d (Ty.slice t80)), (16, Shp.d (Ty.int Go.IntKind.i64)),
    (17, Shp.d (Ty.int Go.IntKind.i64)), (50, Shp.d (Ty.slice t3)),
    (51, Shp.d (Ty.int Go.IntKind.i64)), (52, Shp.d (Ty.int Go.IntKind.i64)), (62, Shp.d Ty.bool)]
  [] [(0, Shp.mp (Ty.int Go.IntKind.i64) Ty.bool), (1, Shp.mp (Ty.int Go.IntKind.i64) Ty.bool)] 2)], []⟩
noncomputable def r20k (n : Nat) : Con := ⟨20, [t33], [t25], r20 n, false, none⟩
theorem r20_ok (n : Nat) : SpecSim Try.prog noG 20 (Con.spec (r20k n)) :=
  lift_ok (tab := [r37k n]) (fn := Try.f20) r20p n mix Tb.tys (Cons.all (.cons (r37_ok n) .nil)) Try.func20 rfl (by kernel_rfl) (fun h => by cases h) (fun ⟨x0, _⟩ => by kernel_rfl)
end L
end Go.Proofs.Ytlhagmgfffigfaa
