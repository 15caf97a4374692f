/- Function 6, as a function of data: its own run; its contract. Printed by a program. Conditions: none. -/
import Derived.Test.YtlhagmgfffigfaaTy
import Derived.Test.YtlhagmgfffigfaaL28
set_option maxRecDepth 100000
set_option linter.unusedVariables false
namespace Go.Proofs.Ytlhagmgfffigfaa
open Go Go.Abs
namespace L
noncomputable def r6_j10 (n : Nat) (x0_j10 : List (El t71)) (x1_j10 : Int) (x2_j10 : Int) (x3_j10 : Bool) (x4_j10 : Option (List Int)) (x5_j10 : Option (List (El t64))) (x6_j10 : El t66) : Option
  ((Unit × Unit × List (El t71) × Int × Int × Unit) ×
      (Option (List Int) × Option (List (El t64)) × Unit) × Unit ⊕
    (Unit × Unit × List (El t71) × Int × Int × Unit) ×
        (Option (List Int) × Option (List (El t64)) × Unit) × Unit ⊕
      (Unit × Unit × Unit) × (Option (List Int) × Option (List (El t64)) × Unit) × Unit ⊕
        List Int × List (El t64) × Int × Unit) :=
  iff x3_j10
  (andThen (r28 n (x6_j10.2.2.1.2.2.2.2.2.1, PUnit.unit))
    fun (y15 : ElL (Con.B (r28k n))) =>
    iff (noO x4_j10)
      (iff (noO x5_j10)
        (Option.some
          (Sum.inl
            ((PUnit.unit, PUnit.unit, x0_j10, x1_j10, x2_j10, PUnit.unit),
              (Option.some [x6_j10.2.1],
                Option.some
                  [(x6_j10.2.2.1.1, x6_j10.2.2.1.2.1, x6_j10.2.2.1.2.2.1, x6_j10.2.2.1.2.2.2.1, x6_j10.2.2.1.2.2.2.2.1, y15.1,
                      x6_j10.2.2.1.2.2.2.2.2.2)],
                PUnit.unit),
              PUnit.unit)))
        (iff
          (!noO x5_j10 &&
            (Nat.beq 41 41 && Nat.beq (Nat.add (Nat.mul (List.length (rowsO x5_j10)) 41) 0) (Nat.mul (List.length (rowsO x5_j10)) 41)))
          (iff (Nat.ble (Nat.mul (addN (List.length (rowsO x5_j10)) 1) 129) 1000000000 && Bool.true && Bool.true)
            (iff
              (Nat.beq 41 41 &&
                (!noO
                      (Option.some
                        (appE (Prod.fst (Prod.snd (1, t64, Bool.true))) (rowsO x5_j10)
                          [(x6_j10.2.2.1.1, x6_j10.2.2.1.2.1, x6_j10.2.2.1.2.2.1, x6_j10.2.2.1.2.2.2.1, x6_j10.2.2.1.2.2.2.2.1, y15.1,
                              x6_j10.2.2.1.2.2.2.2.2.2)])) &&
                  Nat.beq (addN (List.length (rowsO x5_j10)) 1)
                    (List.length
                      (rowsO
                        (Option.some
                          (appE (Prod.fst (Prod.snd (1, t64, Bool.true))) (rowsO x5_j10)
                            [(x6_j10.2.2.1.1, x6_j10.2.2.1.2.1, x6_j10.2.2.1.2.2.1, x6_j10.2.2.1.2.2.2.1, x6_j10.2.2.1.2.2.2.2.1, y15.1,
                                x6_j10.2.2.1.2.2.2.2.2.2)]))))))
              (Option.some
                (Sum.inl
                  ((PUnit.unit, PUnit.unit, x0_j10, x1_j10, x2_j10, PUnit.unit),
                    (Option.some [x6_j10.2.1],
                      Option.some
                        (appE (Prod.fst (Prod.snd (1, t64, Bool.true))) (rowsO x5_j10)
                          [(x6_j10.2.2.1.1, x6_j10.2.2.1.2.1, x6_j10.2.2.1.2.2.1, x6_j10.2.2.1.2.2.2.1, x6_j10.2.2.1.2.2.2.2.1, y15.1,
                              x6_j10.2.2.1.2.2.2.2.2.2)]),
                      PUnit.unit),
                    PUnit.unit)))
              Option.none)
            Option.none)
          Option.none))
      (iff
        (!noO x4_j10 &&
          (Nat.beq 1 1 && Nat.beq (Nat.add (Nat.mul (List.length (rowsO x4_j10)) 1) 0) (Nat.mul (List.length (rowsO x4_j10)) 1)))
        (iff (Nat.ble (Nat.mul (addN (List.length (rowsO x4_j10)) 1) 9) 1000000000 && Bool.true && Bool.true)
          (iff (noO x5_j10)
            (iff
              (Nat.beq 1 1 &&
                (!noO
                      (Option.some
                        (appE (Prod.fst (Prod.snd (0, t3, Bool.true))) (rowsO x4_j10) [x6_j10.2.1])) &&
                  Nat.beq (addN (List.length (rowsO x4_j10)) 1)
                    (List.length
                      (rowsO
                        (Option.some
                          (appE (Prod.fst (Prod.snd (0, t3, Bool.true))) (rowsO x4_j10) [x6_j10.2.1]))))))
              (Option.some
                (Sum.inl
                  ((PUnit.unit, PUnit.unit, x0_j10, x1_j10, x2_j10, PUnit.unit),
                    (Option.some
                        (appE (Prod.fst (Prod.snd (0, t3, Bool.true))) (rowsO x4_j10) [x6_j10.2.1]),
                      Option.some
                        [(x6_j10.2.2.1.1, x6_j10.2.2.1.2.1, x6_j10.2.2.1.2.2.1, x6_j10.2.2.1.2.2.2.1, x6_j10.2.2.1.2.2.2.2.1, y15.1,
                            x6_j10.2.2.1.2.2.2.2.2.2)],
                      PUnit.unit),
                    PUnit.unit)))
              Option.none)
            (iff
              (!noO x5_j10 &&
                (Nat.beq 41 41 &&
                  Nat.beq (Nat.add (Nat.mul (List.length (rowsO x5_j10)) 41) 0) (Nat.mul (List.length (rowsO x5_j10)) 41)))
              (iff (Nat.ble (Nat.mul (addN (List.length (rowsO x5_j10)) 1) 129) 1000000000 && Bool.true && Bool.true)
                (iff
                  (Nat.beq 1 1 &&
                    (!noO
                          (Option.some
                            (appE (Prod.fst (Prod.snd (0, t3, Bool.true))) (rowsO x4_j10) [x6_j10.2.1])) &&
                      Nat.beq (addN (List.length (rowsO x4_j10)) 1)
                        (List.length
                          (rowsO
                            (Option.some
                              (appE (Prod.fst (Prod.snd (0, t3, Bool.true))) (rowsO x4_j10)
                                [x6_j10.2.1]))))))
                  (iff
                    (Nat.beq 41 41 &&
                      (!noO
                            (Option.some
                              (appE (Prod.fst (Prod.snd (1, t64, Bool.true))) (rowsO x5_j10)
                                [(x6_j10.2.2.1.1, x6_j10.2.2.1.2.1, x6_j10.2.2.1.2.2.1, x6_j10.2.2.1.2.2.2.1, x6_j10.2.2.1.2.2.2.2.1, y15.1,
                                    x6_j10.2.2.1.2.2.2.2.2.2)])) &&
                        Nat.beq (addN (List.length (rowsO x5_j10)) 1)
                          (List.length
                            (rowsO
                              (Option.some
                                (appE (Prod.fst (Prod.snd (1, t64, Bool.true))) (rowsO x5_j10)
                                  [(x6_j10.2.2.1.1, x6_j10.2.2.1.2.1, x6_j10.2.2.1.2.2.1, x6_j10.2.2.1.2.2.2.1, x6_j10.2.2.1.2.2.2.2.1, y15.1,
                                      x6_j10.2.2.1.2.2.2.2.2.2)]))))))
                    (Option.some
                      (Sum.inl
                        ((PUnit.unit, PUnit.unit, x0_j10, x1_j10, x2_j10, PUnit.unit),
                          (Option.some
                              (appE (Prod.fst (Prod.snd (0, t3, Bool.true))) (rowsO x4_j10) [x6_j10.2.1]),
                            Option.some
                              (appE (Prod.fst (Prod.snd (1, t64, Bool.true))) (rowsO x5_j10)
                                [(x6_j10.2.2.1.1, x6_j10.2.2.1.2.1, x6_j10.2.2.1.2.2.1, x6_j10.2.2.1.2.2.2.1, x6_j10.2.2.1.2.2.2.2.1, y15.1,
                                    x6_j10.2.2.1.2.2.2.2.2.2)]),
                            PUnit.unit),
                          PUnit.unit)))
                    Option.none)
                  Option.none)
                Option.none)
              Option.none))
          Option.none)
        Option.none))
  (iff
    (Nat.beq 1 1 && eqBl Bool.true Bool.true &&
      (eqBl (noO x4_j10) (noO (iff (noO x4_j10) Option.none (Option.some (rowsO x4_j10)))) &&
        (noO (iff (noO x4_j10) Option.none (Option.some (rowsO x4_j10))) ||
          Nat.beq (List.length (rowsO x4_j10))
            (List.length (rowsO (iff (noO x4_j10) Option.none (Option.some (rowsO x4_j10))))))))
    (iff
      (Nat.beq 41 41 && eqBl Bool.true Bool.true &&
        (eqBl (noO x5_j10) (noO (iff (noO x5_j10) Option.none (Option.some (rowsO x5_j10)))) &&
          (noO (iff (noO x5_j10) Option.none (Option.some (rowsO x5_j10))) ||
            Nat.beq (List.length (rowsO x5_j10))
              (List.length (rowsO (iff (noO x5_j10) Option.none (Option.some (rowsO x5_j10))))))))
      (Option.some
        (Sum.inl
          ((PUnit.unit, PUnit.unit, x0_j10, x1_j10, x2_j10, PUnit.unit),
            (iff (noO x4_j10) Option.none (Option.some (rowsO x4_j10)),
              iff (noO x5_j10) Option.none (Option.some (rowsO x5_j10)), PUnit.unit),
            PUnit.unit)))
      Option.none)
    Option.none)
noncomputable def r6_j12 (n : Nat) (x0_j12 : List (El t71)) (x1_j12 : Int) (x2_j12 : Int) (x3_j12 : Option (List Int)) (x4_j12 : Option (List (El t64))) : Option
  ((Unit × Unit × List (El t71) × Int × Int × Unit) ×
      (Option (List Int) × Option (List (El t64)) × Unit) × Unit ⊕
    (Unit × Unit × Unit) × (Option (List Int) × Option (List (El t64)) × Unit) × Unit ⊕
      List Int × List (El t64) × Int × Unit) :=
  iff
  (Nat.beq 1 1 && eqBl Bool.true Bool.true &&
    (eqBl (noO x3_j12) (noO (iff (noO x3_j12) Option.none (Option.some (rowsO x3_j12)))) &&
      (noO (iff (noO x3_j12) Option.none (Option.some (rowsO x3_j12))) ||
        Nat.beq (List.length (rowsO x3_j12))
          (List.length (rowsO (iff (noO x3_j12) Option.none (Option.some (rowsO x3_j12))))))))
  (iff
    (Nat.beq 41 41 && eqBl Bool.true Bool.true &&
      (eqBl (noO x4_j12) (noO (iff (noO x4_j12) Option.none (Option.some (rowsO x4_j12)))) &&
        (noO (iff (noO x4_j12) Option.none (Option.some (rowsO x4_j12))) ||
          Nat.beq (List.length (rowsO x4_j12))
            (List.length (rowsO (iff (noO x4_j12) Option.none (Option.some (rowsO x4_j12))))))))
    (Option.some
      (Sum.inl
        ((PUnit.unit, PUnit.unit, x0_j12, x1_j12, wrapQ Go.IntKind.i64 (Int.add x2_j12 (Int.ofNat 1)), PUnit.unit),
          (iff (noO x3_j12) Option.none (Option.some (rowsO x3_j12)),
            iff (noO x4_j12) Option.none (Option.some (rowsO x4_j12)), PUnit.unit),
          PUnit.unit)))
    Option.none)
  Option.none
noncomputable def r6_l6 (n : Nat) (x0_l6 : List (El t71)) (x1_l6 : Int) (x2_l6 : Int) (x3_l6 : Option (List Int)) (x4_l6 : Option (List (El t64))) : Option
  ((Unit × Unit × List (El t71) × Int × Int × Unit) ×
      (Option (List Int) × Option (List (El t64)) × Unit) × Unit ⊕
    (Unit × Unit × Unit) × (Option (List Int) × Option (List (El t64)) × Unit) × Unit ⊕
      List Int × List (El t64) × Int × Unit) :=
  iff (!leQ x1_l6 x2_l6)
  (andThen
    (andThen (inRange x2_l6 (List.length x0_l6)) fun (j6 : Nat) =>
      andThen (nthQ j6 x0_l6) fun (y7 : El t71) =>
        andThen
          (iff y7.2.1.1
            (iff
              (Nat.beq 1 1 && eqBl Bool.true Bool.true &&
                (eqBl (noO x3_l6) (noO (iff (noO x3_l6) Option.none (Option.some (rowsO x3_l6)))) &&
                  (noO (iff (noO x3_l6) Option.none (Option.some (rowsO x3_l6))) ||
                    Nat.beq (List.length (rowsO x3_l6))
                      (List.length (rowsO (iff (noO x3_l6) Option.none (Option.some (rowsO x3_l6))))))))
              (iff
                (Nat.beq 41 41 && eqBl Bool.true Bool.true &&
                  (eqBl (noO x4_l6) (noO (iff (noO x4_l6) Option.none (Option.some (rowsO x4_l6)))) &&
                    (noO (iff (noO x4_l6) Option.none (Option.some (rowsO x4_l6))) ||
                      Nat.beq (List.length (rowsO x4_l6))
                        (List.length (rowsO (iff (noO x4_l6) Option.none (Option.some (rowsO x4_l6))))))))
                (Option.some
                  (Sum.inl
                    ((PUnit.unit, PUnit.unit, PUnit.unit, x0_l6, x1_l6, x2_l6, leQ (Int.ofNat 0) y7.2.1.2.1, PUnit.unit),
                      (iff (noO x3_l6) Option.none (Option.some (rowsO x3_l6)),
                        iff (noO x4_l6) Option.none (Option.some (rowsO x4_l6)), PUnit.unit),
                      y7.2.1, PUnit.unit)))
                Option.none)
              Option.none)
            (iff
              (Nat.beq 1 1 && eqBl Bool.true Bool.true &&
                (eqBl (noO x3_l6) (noO (iff (noO x3_l6) Option.none (Option.some (rowsO x3_l6)))) &&
                  (noO (iff (noO x3_l6) Option.none (Option.some (rowsO x3_l6))) ||
                    Nat.beq (List.length (rowsO x3_l6))
                      (List.length (rowsO (iff (noO x3_l6) Option.none (Option.some (rowsO x3_l6))))))))
              (iff
                (Nat.beq 41 41 && eqBl Bool.true Bool.true &&
                  (eqBl (noO x4_l6) (noO (iff (noO x4_l6) Option.none (Option.some (rowsO x4_l6)))) &&
                    (noO (iff (noO x4_l6) Option.none (Option.some (rowsO x4_l6))) ||
                      Nat.beq (List.length (rowsO x4_l6))
                        (List.length (rowsO (iff (noO x4_l6) Option.none (Option.some (rowsO x4_l6))))))))
                (Option.some
                  (Sum.inl
                    ((PUnit.unit, PUnit.unit, PUnit.unit, x0_l6, x1_l6, x2_l6, Bool.false, PUnit.unit),
                      (iff (noO x3_l6) Option.none (Option.some (rowsO x3_l6)),
                        iff (noO x4_l6) Option.none (Option.some (rowsO x4_l6)), PUnit.unit),
                      y7.2.1, PUnit.unit)))
                Option.none)
              Option.none))
          (sumK
            fun
              (x :
                (Unit × Unit × Unit × List (El t71) × Int × Int × Bool × Unit) ×
                  (Option (List Int) × Option (List (El t64)) × Unit) ×
                    El t66 × Unit) =>
            r6_j10 n (Prod.fst (Prod.snd (Prod.snd (Prod.snd (Prod.fst x))))) (Prod.fst (Prod.snd (Prod.snd (Prod.snd (Prod.snd (Prod.fst x))))))
              (Prod.fst (Prod.snd (Prod.snd (Prod.snd (Prod.snd (Prod.snd (Prod.fst x)))))))
              (Prod.fst (Prod.snd (Prod.snd (Prod.snd (Prod.snd (Prod.snd (Prod.snd (Prod.fst x)))))))) (Prod.fst (Prod.fst (Prod.snd x)))
              (Prod.fst (Prod.snd (Prod.fst (Prod.snd x)))) (Prod.fst (Prod.snd (Prod.snd x)))))
    (sumK
      fun
        (x :
          (Unit × Unit × List (El t71) × Int × Int × Unit) ×
            (Option (List Int) × Option (List (El t64)) × Unit) × Unit) =>
      r6_j12 n (Prod.fst (Prod.snd (Prod.snd (Prod.fst x)))) (Prod.fst (Prod.snd (Prod.snd (Prod.snd (Prod.fst x)))))
        (Prod.fst (Prod.snd (Prod.snd (Prod.snd (Prod.snd (Prod.fst x)))))) (Prod.fst (Prod.fst (Prod.snd x)))
        (Prod.fst (Prod.snd (Prod.fst (Prod.snd x))))))
  (andThen
    (iff
      (Nat.beq 1 1 && eqBl Bool.true Bool.true &&
        (eqBl (noO x3_l6) (noO (iff (noO x3_l6) Option.none (Option.some (rowsO x3_l6)))) &&
          (noO (iff (noO x3_l6) Option.none (Option.some (rowsO x3_l6))) ||
            Nat.beq (List.length (rowsO x3_l6))
              (List.length (rowsO (iff (noO x3_l6) Option.none (Option.some (rowsO x3_l6))))))))
      (iff
        (Nat.beq 41 41 && eqBl Bool.true Bool.true &&
          (eqBl (noO x4_l6) (noO (iff (noO x4_l6) Option.none (Option.some (rowsO x4_l6)))) &&
            (noO (iff (noO x4_l6) Option.none (Option.some (rowsO x4_l6))) ||
              Nat.beq (List.length (rowsO x4_l6))
                (List.length (rowsO (iff (noO x4_l6) Option.none (Option.some (rowsO x4_l6))))))))
        (Option.some
          (Sum.inl
            ((PUnit.unit, PUnit.unit, PUnit.unit),
              (iff (noO x3_l6) Option.none (Option.some (rowsO x3_l6)),
                iff (noO x4_l6) Option.none (Option.some (rowsO x4_l6)), PUnit.unit),
              PUnit.unit)))
        Option.none)
      Option.none)
    fun
      (r :
        (Unit × Unit × Unit) × (Option (List Int) × Option (List (El t64)) × Unit) × Unit ⊕
          List Int × List (El t64) × Int × Unit) =>
    Option.some (Sum.inr r))
noncomputable def r6_j13 (n : Nat) (x0_j13 : Option (List Int)) (x1_j13 : Option (List (El t64))) : Option (List Int × List (El t64) × Int × Unit) :=
  iff
  (eqBl Bool.true Bool.true &&
    (noO x0_j13 || !noO x0_j13 && Nat.beq (List.length (rowsO x0_j13)) (List.length (rowsO x0_j13))))
  (iff
    (eqBl Bool.true Bool.true &&
      (noO x1_j13 || !noO x1_j13 && Nat.beq (List.length (rowsO x1_j13)) (List.length (rowsO x1_j13))))
    (Option.some
      (iff (noO x0_j13) [] (rowsO x0_j13), iff (noO x1_j13) [] (rowsO x1_j13), Int.ofNat 0, PUnit.unit))
    Option.none)
  Option.none
noncomputable def r6c (n : Nat) (x0 : List (El t71)) : Option (List Int × List (El t64) × Int × Unit) :=
  iff (!leQ (Int.ofNat (List.length x0)) (Int.ofNat 120)) (Option.some ([], [], Int.ofNat 4, PUnit.unit))
  (andThen
    (iterF
      (fun
          (x :
            (Unit × Unit × List (El t71) × Int × Int × Unit) ×
              (Option (List Int) × Option (List (El t64)) × Unit) × Unit) =>
        r6_l6 n (Prod.fst (Prod.snd (Prod.snd (Prod.fst x)))) (Prod.fst (Prod.snd (Prod.snd (Prod.snd (Prod.fst x)))))
          (Prod.fst (Prod.snd (Prod.snd (Prod.snd (Prod.snd (Prod.fst x)))))) (Prod.fst (Prod.fst (Prod.snd x)))
          (Prod.fst (Prod.snd (Prod.fst (Prod.snd x)))))
      n ((PUnit.unit, PUnit.unit, x0, Int.ofNat (List.length x0), Int.ofNat 0, PUnit.unit), (Option.none, Option.none, PUnit.unit), PUnit.unit))
    (sumK fun (x : (Unit × Unit × Unit) × (Option (List Int) × Option (List (El t64)) × Unit) × Unit) =>
      r6_j13 n (Prod.fst (Prod.fst (Prod.snd x))) (Prod.fst (Prod.snd (Prod.fst (Prod.snd x))))))
noncomputable def r6 (n : Nat) (a : ElL [t22]) : Option (ElL [t23, t24, t25]) := r6c n (a.1)
noncomputable def r6p : Plan := ⟨[(6, Cut.mk
  [(5, Shp.own 0), (6, Shp.own 1), (13, Shp.d (Ty.slice t71)),
    (14, Shp.d (Ty.int Go.IntKind.i64)), (15, Shp.d (Ty.int Go.IntKind.i64))]
  [(0, t3, Bool.true), (1, t64, Bool.true)] [] 2)], [(13, Cut.mk [(5, Shp.own 0), (6, Shp.own 1)]
  [(0, t3, Bool.true), (1, t64, Bool.true)] [] 2), (12, Cut.mk
  [(5, Shp.own 0), (6, Shp.own 1), (13, Shp.d (Ty.slice t71)),
    (14, Shp.d (Ty.int Go.IntKind.i64)), (15, Shp.d (Ty.int Go.IntKind.i64))]
  [(0, t3, Bool.true), (1, t64, Bool.true)] [] 2), (10, Cut.mk
  [(5, Shp.own 0), (6, Shp.own 1), (9, Shp.at 2 0), (13, Shp.d (Ty.slice t71)),
    (14, Shp.d (Ty.int Go.IntKind.i64)), (15, Shp.d (Ty.int Go.IntKind.i64)), (27, Shp.d Ty.bool)]
  [(0, t3, Bool.true), (1, t64, Bool.true)]
  [(2,
      Shp.d
        (Ty.pair t4
          (Ty.pair t3 (Ty.pair t64 Ty.unit))))]
  3)], []⟩
noncomputable def r6k (n : Nat) : Con := ⟨6, [t22], [t23, t24, t25], r6 n, false⟩
theorem r6_ok (n : Nat) : SpecSim Try.prog noG 6 (Con.spec (r6k n)) :=
  lift_ok (tab := [r28k n]) (fn := Try.f6) r6p n mix Tb.tys (Cons.all (.cons (r28_ok n) .nil)) Try.func6 rfl (by kernel_rfl) (fun h => by cases h) (fun ⟨x0, _⟩ => by kernel_rfl)
end L
end Go.Proofs.Ytlhagmgfffigfaa
