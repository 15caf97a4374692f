/- Function 7, as a function of data: its own run; its contract. Printed by a program. Conditions: none. -/
import Derived.Test.YtlhagmgfffigfaaTy
set_option maxRecDepth 100000
set_option linter.unusedVariables false
namespace Go.Proofs.Ytlhagmgfffigfaa
open Go Go.Abs
namespace L
noncomputable def r7_j12 (n : Nat) (x0_j12 : List (El t71)) (x1_j12 : Int) (x2_j12 : Option (List Int)) (x3_j12 : Option (List (El t64))) (x4_j12 : El t64) : Option
  ((List (El t71) × Unit × Unit × Int × Unit) ×
      (Option (List Int) × Option (List (El t64)) × Unit) × Unit ⊕
    (List (El t71) × Unit × Unit × Int × Unit) ×
        (Option (List Int) × Option (List (El t64)) × Unit) × Unit ⊕
      (Unit × Unit × Unit) × (Option (List Int) × Option (List (El t64)) × Unit) × Unit ⊕
        List Int × List (El t64) × Int × Unit) :=
  iff (noO x3_j12)
  (iff
    (Nat.beq 1 1 && eqBl Bool.true Bool.true &&
      (eqBl (noO x2_j12) (noO (iff (noO x2_j12) Option.none (Option.some (rowsO x2_j12)))) &&
        (noO (iff (noO x2_j12) Option.none (Option.some (rowsO x2_j12))) ||
          Nat.beq (List.length (rowsO x2_j12))
            (List.length (rowsO (iff (noO x2_j12) Option.none (Option.some (rowsO x2_j12))))))))
    (Option.some
      (Sum.inl
        ((x0_j12, PUnit.unit, PUnit.unit, x1_j12, PUnit.unit),
          (iff (noO x2_j12) Option.none (Option.some (rowsO x2_j12)), Option.some [x4_j12], PUnit.unit), PUnit.unit)))
    Option.none)
  (iff
    (!noO x3_j12 &&
      (Nat.beq 41 41 && Nat.beq (Nat.add (Nat.mul (List.length (rowsO x3_j12)) 41) 0) (Nat.mul (List.length (rowsO x3_j12)) 41)))
    (iff (Nat.ble (Nat.mul (addN (List.length (rowsO x3_j12)) 1) 129) 1000000000 && Bool.true && Bool.true)
      (iff
        (Nat.beq 1 1 && eqBl Bool.true Bool.true &&
          (eqBl (noO x2_j12) (noO (iff (noO x2_j12) Option.none (Option.some (rowsO x2_j12)))) &&
            (noO (iff (noO x2_j12) Option.none (Option.some (rowsO x2_j12))) ||
              Nat.beq (List.length (rowsO x2_j12))
                (List.length (rowsO (iff (noO x2_j12) Option.none (Option.some (rowsO x2_j12))))))))
        (iff
          (Nat.beq 41 41 &&
            (!noO
                  (Option.some (appE (Prod.fst (Prod.snd (1, t64, Bool.true))) (rowsO x3_j12) [x4_j12])) &&
              Nat.beq (addN (List.length (rowsO x3_j12)) 1)
                (List.length
                  (rowsO
                    (Option.some
                      (appE (Prod.fst (Prod.snd (1, t64, Bool.true))) (rowsO x3_j12) [x4_j12]))))))
          (Option.some
            (Sum.inl
              ((x0_j12, PUnit.unit, PUnit.unit, x1_j12, PUnit.unit),
                (iff (noO x2_j12) Option.none (Option.some (rowsO x2_j12)),
                  Option.some (appE (Prod.fst (Prod.snd (1, t64, Bool.true))) (rowsO x3_j12) [x4_j12]),
                  PUnit.unit),
                PUnit.unit)))
          Option.none)
        Option.none)
      Option.none)
    Option.none)
noncomputable def r7_j10 (n : Nat) (x0_j10 : List (El t71)) (x1_j10 : Int) (x2_j10 : Option (List Int)) (x3_j10 : Option (List (El t64))) : Option
  ((List (El t71) × Unit × Unit × Int × Unit) ×
      (Option (List Int) × Option (List (El t64)) × Unit) × Unit ⊕
    (List (El t71) × Unit × Unit × Int × Unit) ×
        (Option (List Int) × Option (List (El t64)) × Unit) × Unit ⊕
      (Unit × Unit × Unit) × (Option (List Int) × Option (List (El t64)) × Unit) × Unit ⊕
        List Int × List (El t64) × Int × Unit) :=
  andThen (inRange x1_j10 (List.length x0_j10)) fun (j20 : Nat) =>
  andThen (nthQ j20 x0_j10) fun (y21 : El t71) =>
    andThen
      (iff (isZ (List.length y21.2.1.2.2.1.2.2.2.2.2.1))
        (iff
          (Nat.beq 1 1 && eqBl Bool.true Bool.true &&
            (eqBl (noO x2_j10) (noO (iff (noO x2_j10) Option.none (Option.some (rowsO x2_j10)))) &&
              (noO (iff (noO x2_j10) Option.none (Option.some (rowsO x2_j10))) ||
                Nat.beq (List.length (rowsO x2_j10))
                  (List.length (rowsO (iff (noO x2_j10) Option.none (Option.some (rowsO x2_j10))))))))
          (iff
            (Nat.beq 41 41 && eqBl Bool.true Bool.true &&
              (eqBl (noO x3_j10) (noO (iff (noO x3_j10) Option.none (Option.some (rowsO x3_j10)))) &&
                (noO (iff (noO x3_j10) Option.none (Option.some (rowsO x3_j10))) ||
                  Nat.beq (List.length (rowsO x3_j10))
                    (List.length (rowsO (iff (noO x3_j10) Option.none (Option.some (rowsO x3_j10))))))))
            (Option.some
              (Sum.inl
                ((x0_j10, PUnit.unit, PUnit.unit, x1_j10, PUnit.unit, PUnit.unit),
                  (iff (noO x2_j10) Option.none (Option.some (rowsO x2_j10)),
                    iff (noO x3_j10) Option.none (Option.some (rowsO x3_j10)), PUnit.unit),
                  (y21.2.1.2.2.1.1, y21.2.1.2.2.1.2.1, y21.2.1.2.2.1.2.2.1, y21.2.1.2.2.1.2.2.2.1, y21.2.1.2.2.1.2.2.2.2.1, [],
                    y21.2.1.2.2.1.2.2.2.2.2.2),
                  PUnit.unit)))
            Option.none)
          Option.none)
        (iff (Nat.ble (Nat.mul (addN 0 (List.length y21.2.1.2.2.1.2.2.2.2.2.1)) 33) 1000000000 && Bool.true && Bool.true)
          (iff
            (Nat.beq 1 1 && eqBl Bool.true Bool.true &&
              (eqBl (noO x2_j10) (noO (iff (noO x2_j10) Option.none (Option.some (rowsO x2_j10)))) &&
                (noO (iff (noO x2_j10) Option.none (Option.some (rowsO x2_j10))) ||
                  Nat.beq (List.length (rowsO x2_j10))
                    (List.length (rowsO (iff (noO x2_j10) Option.none (Option.some (rowsO x2_j10))))))))
            (iff
              (Nat.beq 41 41 && eqBl Bool.true Bool.true &&
                (eqBl (noO x3_j10) (noO (iff (noO x3_j10) Option.none (Option.some (rowsO x3_j10)))) &&
                  (noO (iff (noO x3_j10) Option.none (Option.some (rowsO x3_j10))) ||
                    Nat.beq (List.length (rowsO x3_j10))
                      (List.length (rowsO (iff (noO x3_j10) Option.none (Option.some (rowsO x3_j10))))))))
              (iff (Nat.beq (addN 0 (List.length y21.2.1.2.2.1.2.2.2.2.2.1)) (List.length y21.2.1.2.2.1.2.2.2.2.2.1))
                (Option.some
                  (Sum.inl
                    ((x0_j10, PUnit.unit, PUnit.unit, x1_j10, PUnit.unit, PUnit.unit),
                      (iff (noO x2_j10) Option.none (Option.some (rowsO x2_j10)),
                        iff (noO x3_j10) Option.none (Option.some (rowsO x3_j10)), PUnit.unit),
                      (y21.2.1.2.2.1.1, y21.2.1.2.2.1.2.1, y21.2.1.2.2.1.2.2.1, y21.2.1.2.2.1.2.2.2.1, y21.2.1.2.2.1.2.2.2.2.1,
                        y21.2.1.2.2.1.2.2.2.2.2.1, y21.2.1.2.2.1.2.2.2.2.2.2),
                      PUnit.unit)))
                Option.none)
              Option.none)
            Option.none)
          Option.none))
      (sumK
        fun
          (x :
            (List (El t71) × Unit × Unit × Int × Unit × Unit) ×
              (Option (List Int) × Option (List (El t64)) × Unit) ×
                El t64 × Unit) =>
        r7_j12 n (Prod.fst (Prod.fst x)) (Prod.fst (Prod.snd (Prod.snd (Prod.snd (Prod.fst x))))) (Prod.fst (Prod.fst (Prod.snd x)))
          (Prod.fst (Prod.snd (Prod.fst (Prod.snd x)))) (Prod.fst (Prod.snd (Prod.snd x))))
noncomputable def r7_j9 (n : Nat) (x0_j9 : List (El t71)) (x1_j9 : Int) (x2_j9 : Bool) (x3_j9 : Option (List Int)) (x4_j9 : Option (List (El t64))) : Option
  ((List (El t71) × Unit × Unit × Int × Unit) ×
      (Option (List Int) × Option (List (El t64)) × Unit) × Unit ⊕
    (List (El t71) × Unit × Unit × Int × Unit) ×
        (Option (List Int) × Option (List (El t64)) × Unit) × Unit ⊕
      (Unit × Unit × Unit) × (Option (List Int) × Option (List (El t64)) × Unit) × Unit ⊕
        List Int × List (El t64) × Int × Unit) :=
  iff x2_j9
  (andThen
    (andThen (inRange x1_j9 (List.length x0_j9)) fun (j14 : Nat) =>
      andThen (nthQ j14 x0_j9) fun (y15 : El t71) =>
        iff (noO x3_j9)
          (iff
            (Nat.beq 41 41 && eqBl Bool.true Bool.true &&
              (eqBl (noO x4_j9) (noO (iff (noO x4_j9) Option.none (Option.some (rowsO x4_j9)))) &&
                (noO (iff (noO x4_j9) Option.none (Option.some (rowsO x4_j9))) ||
                  Nat.beq (List.length (rowsO x4_j9))
                    (List.length (rowsO (iff (noO x4_j9) Option.none (Option.some (rowsO x4_j9))))))))
            (Option.some
              (Sum.inl
                ((x0_j9, PUnit.unit, PUnit.unit, x1_j9, PUnit.unit),
                  (Option.some [y15.2.1.2.1], iff (noO x4_j9) Option.none (Option.some (rowsO x4_j9)), PUnit.unit), PUnit.unit)))
            Option.none)
          (iff
            (!noO x3_j9 &&
              (Nat.beq 1 1 && Nat.beq (Nat.add (Nat.mul (List.length (rowsO x3_j9)) 1) 0) (Nat.mul (List.length (rowsO x3_j9)) 1)))
            (iff (Nat.ble (Nat.mul (addN (List.length (rowsO x3_j9)) 1) 9) 1000000000 && Bool.true && Bool.true)
              (iff
                (Nat.beq 1 1 &&
                  (!noO
                        (Option.some
                          (appE (Prod.fst (Prod.snd (0, t3, Bool.true))) (rowsO x3_j9) [y15.2.1.2.1])) &&
                    Nat.beq (addN (List.length (rowsO x3_j9)) 1)
                      (List.length
                        (rowsO
                          (Option.some
                            (appE (Prod.fst (Prod.snd (0, t3, Bool.true))) (rowsO x3_j9)
                              [y15.2.1.2.1]))))))
                (iff
                  (Nat.beq 41 41 && eqBl Bool.true Bool.true &&
                    (eqBl (noO x4_j9) (noO (iff (noO x4_j9) Option.none (Option.some (rowsO x4_j9)))) &&
                      (noO (iff (noO x4_j9) Option.none (Option.some (rowsO x4_j9))) ||
                        Nat.beq (List.length (rowsO x4_j9))
                          (List.length (rowsO (iff (noO x4_j9) Option.none (Option.some (rowsO x4_j9))))))))
                  (Option.some
                    (Sum.inl
                      ((x0_j9, PUnit.unit, PUnit.unit, x1_j9, PUnit.unit),
                        (Option.some
                            (appE (Prod.fst (Prod.snd (0, t3, Bool.true))) (rowsO x3_j9) [y15.2.1.2.1]),
                          iff (noO x4_j9) Option.none (Option.some (rowsO x4_j9)), PUnit.unit),
                        PUnit.unit)))
                  Option.none)
                Option.none)
              Option.none)
            Option.none))
    (sumK
      fun
        (x :
          (List (El t71) × Unit × Unit × Int × Unit) ×
            (Option (List Int) × Option (List (El t64)) × Unit) × Unit) =>
      r7_j10 n (Prod.fst (Prod.fst x)) (Prod.fst (Prod.snd (Prod.snd (Prod.snd (Prod.fst x))))) (Prod.fst (Prod.fst (Prod.snd x)))
        (Prod.fst (Prod.snd (Prod.fst (Prod.snd x))))))
  (iff
    (Nat.beq 1 1 && eqBl Bool.true Bool.true &&
      (eqBl (noO x3_j9) (noO (iff (noO x3_j9) Option.none (Option.some (rowsO x3_j9)))) &&
        (noO (iff (noO x3_j9) Option.none (Option.some (rowsO x3_j9))) ||
          Nat.beq (List.length (rowsO x3_j9))
            (List.length (rowsO (iff (noO x3_j9) Option.none (Option.some (rowsO x3_j9))))))))
    (iff
      (Nat.beq 41 41 && eqBl Bool.true Bool.true &&
        (eqBl (noO x4_j9) (noO (iff (noO x4_j9) Option.none (Option.some (rowsO x4_j9)))) &&
          (noO (iff (noO x4_j9) Option.none (Option.some (rowsO x4_j9))) ||
            Nat.beq (List.length (rowsO x4_j9))
              (List.length (rowsO (iff (noO x4_j9) Option.none (Option.some (rowsO x4_j9))))))))
      (Option.some
        (Sum.inl
          ((x0_j9, PUnit.unit, PUnit.unit, x1_j9, PUnit.unit),
            (iff (noO x3_j9) Option.none (Option.some (rowsO x3_j9)),
              iff (noO x4_j9) Option.none (Option.some (rowsO x4_j9)), PUnit.unit),
            PUnit.unit)))
      Option.none)
    Option.none)
noncomputable def r7_j7 (n : Nat) (x0_j7 : List (El t71)) (x1_j7 : Int) (x2_j7 : Option (List Int)) (x3_j7 : Option (List (El t64))) : Option
  ((List (El t71) × Unit × Unit × Int × Unit) ×
      (Option (List Int) × Option (List (El t64)) × Unit) × Unit ⊕
    (Unit × Unit × Unit) × (Option (List Int) × Option (List (El t64)) × Unit) × Unit ⊕
      List Int × List (El t64) × Int × Unit) :=
  iff
  (Nat.beq 1 1 && eqBl Bool.true Bool.true &&
    (eqBl (noO x2_j7) (noO (iff (noO x2_j7) Option.none (Option.some (rowsO x2_j7)))) &&
      (noO (iff (noO x2_j7) Option.none (Option.some (rowsO x2_j7))) ||
        Nat.beq (List.length (rowsO x2_j7))
          (List.length (rowsO (iff (noO x2_j7) Option.none (Option.some (rowsO x2_j7))))))))
  (iff
    (Nat.beq 41 41 && eqBl Bool.true Bool.true &&
      (eqBl (noO x3_j7) (noO (iff (noO x3_j7) Option.none (Option.some (rowsO x3_j7)))) &&
        (noO (iff (noO x3_j7) Option.none (Option.some (rowsO x3_j7))) ||
          Nat.beq (List.length (rowsO x3_j7))
            (List.length (rowsO (iff (noO x3_j7) Option.none (Option.some (rowsO x3_j7))))))))
    (Option.some
      (Sum.inl
        ((x0_j7, PUnit.unit, PUnit.unit, wrapQ Go.IntKind.i64 (Int.add x1_j7 (Int.ofNat 1)), PUnit.unit),
          (iff (noO x2_j7) Option.none (Option.some (rowsO x2_j7)),
            iff (noO x3_j7) Option.none (Option.some (rowsO x3_j7)), PUnit.unit),
          PUnit.unit)))
    Option.none)
  Option.none
noncomputable def r7_l6 (n : Nat) (x0_l6 : List (El t71)) (x1_l6 : Int) (x2_l6 : Option (List Int)) (x3_l6 : Option (List (El t64))) : Option
  ((List (El t71) × Unit × Unit × Int × Unit) ×
      (Option (List Int) × Option (List (El t64)) × Unit) × Unit ⊕
    (Unit × Unit × Unit) × (Option (List Int) × Option (List (El t64)) × Unit) × Unit ⊕
      List Int × List (El t64) × Int × Unit) :=
  iff (!leQ (Int.ofNat (List.length x0_l6)) x1_l6)
  (andThen
    (andThen
      (andThen (inRange x1_l6 (List.length x0_l6)) fun (j5 : Nat) =>
        andThen (nthQ j5 x0_l6) fun (y6 : El t71) =>
          iff y6.2.1.1
            (andThen (inRange x1_l6 (List.length x0_l6)) fun (j7 : Nat) =>
              andThen (nthQ j7 x0_l6) fun (y8 : El t71) =>
                iff
                  (Nat.beq 1 1 && eqBl Bool.true Bool.true &&
                    (eqBl (noO x2_l6) (noO (iff (noO x2_l6) Option.none (Option.some (rowsO x2_l6)))) &&
                      (noO (iff (noO x2_l6) Option.none (Option.some (rowsO x2_l6))) ||
                        Nat.beq (List.length (rowsO x2_l6))
                          (List.length (rowsO (iff (noO x2_l6) Option.none (Option.some (rowsO x2_l6))))))))
                  (iff
                    (Nat.beq 41 41 && eqBl Bool.true Bool.true &&
                      (eqBl (noO x3_l6) (noO (iff (noO x3_l6) Option.none (Option.some (rowsO x3_l6)))) &&
                        (noO (iff (noO x3_l6) Option.none (Option.some (rowsO x3_l6))) ||
                          Nat.beq (List.length (rowsO x3_l6))
                            (List.length (rowsO (iff (noO x3_l6) Option.none (Option.some (rowsO x3_l6))))))))
                    (Option.some
                      (Sum.inl
                        ((x0_l6, PUnit.unit, PUnit.unit, x1_l6, leQ (Int.ofNat 0) y8.2.1.2.1, PUnit.unit),
                          (iff (noO x2_l6) Option.none (Option.some (rowsO x2_l6)),
                            iff (noO x3_l6) Option.none (Option.some (rowsO x3_l6)), PUnit.unit),
                          PUnit.unit)))
                    Option.none)
                  Option.none)
            (iff
              (Nat.beq 1 1 && eqBl Bool.true Bool.true &&
                (eqBl (noO x2_l6) (noO (iff (noO x2_l6) Option.none (Option.some (rowsO x2_l6)))) &&
                  (noO (iff (noO x2_l6) Option.none (Option.some (rowsO x2_l6))) ||
                    Nat.beq (List.length (rowsO x2_l6))
                      (List.length (rowsO (iff (noO x2_l6) Option.none (Option.some (rowsO x2_l6))))))))
              (iff
                (Nat.beq 41 41 && eqBl Bool.true Bool.true &&
                  (eqBl (noO x3_l6) (noO (iff (noO x3_l6) Option.none (Option.some (rowsO x3_l6)))) &&
                    (noO (iff (noO x3_l6) Option.none (Option.some (rowsO x3_l6))) ||
                      Nat.beq (List.length (rowsO x3_l6))
                        (List.length (rowsO (iff (noO x3_l6) Option.none (Option.some (rowsO x3_l6))))))))
                (Option.some
                  (Sum.inl
                    ((x0_l6, PUnit.unit, PUnit.unit, x1_l6, Bool.false, PUnit.unit),
                      (iff (noO x2_l6) Option.none (Option.some (rowsO x2_l6)),
                        iff (noO x3_l6) Option.none (Option.some (rowsO x3_l6)), PUnit.unit),
                      PUnit.unit)))
                Option.none)
              Option.none))
      (sumK
        fun
          (x :
            (List (El t71) × Unit × Unit × Int × Bool × Unit) ×
              (Option (List Int) × Option (List (El t64)) × Unit) × Unit) =>
        r7_j9 n (Prod.fst (Prod.fst x)) (Prod.fst (Prod.snd (Prod.snd (Prod.snd (Prod.fst x)))))
          (Prod.fst (Prod.snd (Prod.snd (Prod.snd (Prod.snd (Prod.fst x)))))) (Prod.fst (Prod.fst (Prod.snd x)))
          (Prod.fst (Prod.snd (Prod.fst (Prod.snd x))))))
    (sumK
      fun
        (x :
          (List (El t71) × Unit × Unit × Int × Unit) ×
            (Option (List Int) × Option (List (El t64)) × Unit) × Unit) =>
      r7_j7 n (Prod.fst (Prod.fst x)) (Prod.fst (Prod.snd (Prod.snd (Prod.snd (Prod.fst x))))) (Prod.fst (Prod.fst (Prod.snd x)))
        (Prod.fst (Prod.snd (Prod.fst (Prod.snd x))))))
  (andThen
    (iff
      (Nat.beq 1 1 && eqBl Bool.true Bool.true &&
        (eqBl (noO x2_l6) (noO (iff (noO x2_l6) Option.none (Option.some (rowsO x2_l6)))) &&
          (noO (iff (noO x2_l6) Option.none (Option.some (rowsO x2_l6))) ||
            Nat.beq (List.length (rowsO x2_l6))
              (List.length (rowsO (iff (noO x2_l6) Option.none (Option.some (rowsO x2_l6))))))))
      (iff
        (Nat.beq 41 41 && eqBl Bool.true Bool.true &&
          (eqBl (noO x3_l6) (noO (iff (noO x3_l6) Option.none (Option.some (rowsO x3_l6)))) &&
            (noO (iff (noO x3_l6) Option.none (Option.some (rowsO x3_l6))) ||
              Nat.beq (List.length (rowsO x3_l6))
                (List.length (rowsO (iff (noO x3_l6) Option.none (Option.some (rowsO x3_l6))))))))
        (Option.some
          (Sum.inl
            ((PUnit.unit, PUnit.unit, PUnit.unit),
              (iff (noO x2_l6) Option.none (Option.some (rowsO x2_l6)),
                iff (noO x3_l6) Option.none (Option.some (rowsO x3_l6)), PUnit.unit),
              PUnit.unit)))
        Option.none)
      Option.none)
    fun
      (r :
        (Unit × Unit × Unit) × (Option (List Int) × Option (List (El t64)) × Unit) × Unit ⊕
          List Int × List (El t64) × Int × Unit) =>
    Option.some (Sum.inr r))
noncomputable def r7_j13 (n : Nat) (x0_j13 : Option (List Int)) (x1_j13 : Option (List (El t64))) : Option (List Int × List (El t64) × Int × Unit) :=
  iff
  (eqBl Bool.true Bool.true &&
    (noO x0_j13 || !noO x0_j13 && Nat.beq (List.length (rowsO x0_j13)) (List.length (rowsO x0_j13))))
  (iff
    (eqBl Bool.true Bool.true &&
      (noO x1_j13 || !noO x1_j13 && Nat.beq (List.length (rowsO x1_j13)) (List.length (rowsO x1_j13))))
    (Option.some
      (iff (noO x0_j13) [] (rowsO x0_j13), iff (noO x1_j13) [] (rowsO x1_j13), Int.ofNat 0, PUnit.unit))
    Option.none)
  Option.none
noncomputable def r7c (n : Nat) (x0 : List (El t71)) : Option (List Int × List (El t64) × Int × Unit) :=
  iff (!leQ (Int.ofNat (List.length x0)) (Int.ofNat 120)) (Option.some ([], [], Int.ofNat 4, PUnit.unit))
  (andThen
    (iterF
      (fun
          (x :
            (List (El t71) × Unit × Unit × Int × Unit) ×
              (Option (List Int) × Option (List (El t64)) × Unit) × Unit) =>
        r7_l6 n (Prod.fst (Prod.fst x)) (Prod.fst (Prod.snd (Prod.snd (Prod.snd (Prod.fst x))))) (Prod.fst (Prod.fst (Prod.snd x)))
          (Prod.fst (Prod.snd (Prod.fst (Prod.snd x)))))
      n ((x0, PUnit.unit, PUnit.unit, Int.ofNat 0, PUnit.unit), (Option.none, Option.none, PUnit.unit), PUnit.unit))
    (sumK fun (x : (Unit × Unit × Unit) × (Option (List Int) × Option (List (El t64)) × Unit) × Unit) =>
      r7_j13 n (Prod.fst (Prod.fst (Prod.snd x))) (Prod.fst (Prod.snd (Prod.fst (Prod.snd x))))))
noncomputable def r7 (n : Nat) (a : ElL [t22]) : Option (ElL [t23, t24, t3]) := r7c n (a.1)
noncomputable def r7p : Plan := ⟨[(6, Cut.mk
  [(0, Shp.d (Ty.slice t71)), (5, Shp.own 0), (6, Shp.own 1),
    (7, Shp.d (Ty.int Go.IntKind.i64))]
  [(0, t3, Bool.true), (1, t64, Bool.true)] [] 2)], [(13, Cut.mk [(5, Shp.own 0), (6, Shp.own 1)]
  [(0, t3, Bool.true), (1, t64, Bool.true)] [] 2), (7, Cut.mk
  [(0, Shp.d (Ty.slice t71)), (5, Shp.own 0), (6, Shp.own 1),
    (7, Shp.d (Ty.int Go.IntKind.i64))]
  [(0, t3, Bool.true), (1, t64, Bool.true)] [] 2), (9, Cut.mk
  [(0, Shp.d (Ty.slice t71)), (5, Shp.own 0), (6, Shp.own 1),
    (7, Shp.d (Ty.int Go.IntKind.i64)), (32, Shp.d Ty.bool)]
  [(0, t3, Bool.true), (1, t64, Bool.true)] [] 2), (10, Cut.mk
  [(0, Shp.d (Ty.slice t71)), (5, Shp.own 0), (6, Shp.own 1),
    (7, Shp.d (Ty.int Go.IntKind.i64))]
  [(0, t3, Bool.true), (1, t64, Bool.true)] [] 2), (12, Cut.mk
  [(0, Shp.d (Ty.slice t71)), (5, Shp.own 0), (6, Shp.own 1),
    (7, Shp.d (Ty.int Go.IntKind.i64)), (8, Shp.at 2 0)]
  [(0, t3, Bool.true), (1, t64, Bool.true)]
  [(2, Shp.d t64)] 3)], []⟩
noncomputable def r7k (n : Nat) : Con := ⟨7, [t22], [t23, t24, t3], r7 n, false⟩
theorem r7_ok (n : Nat) : SpecSim Try.prog noG 7 (Con.spec (r7k n)) :=
  lift_ok (tab := []) (fn := Try.f7) r7p n mix Tb.tys (fun _ h => by cases h) Try.func7 rfl (by kernel_rfl) (fun h => by cases h) (fun ⟨x0, _⟩ => by kernel_rfl)
end L
end Go.Proofs.Ytlhagmgfffigfaa
