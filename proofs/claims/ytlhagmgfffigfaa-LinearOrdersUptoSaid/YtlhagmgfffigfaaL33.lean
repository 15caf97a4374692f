/- Function 33, as a function of data: its own run; its contract. Printed by a program. Conditions: none. -/
import Derived.Test.YtlhagmgfffigfaaTy
set_option maxRecDepth 100000
set_option linter.unusedVariables false
namespace Go.Proofs.Ytlhagmgfffigfaa
open Go Go.Abs
namespace L
noncomputable def r33_j10 (n : Nat) (x0_j10 : List (El t80)) (x1_j10 : Int) (x2_j10 : Int) (x3_j10 : Option (List (El t82))) : Option
  ((List (El t80) × Unit × Int × Int × Unit) ×
      (Option (List (El t82)) × Unit) × Unit ⊕
    (List (El t80) × Unit × Int × Int × Unit) ×
        (Option (List (El t82)) × Unit) × Unit ⊕
      (List (El t80) × Unit × Int × Unit) ×
          (Option (List (El t82)) × Unit) × Unit ⊕
        (List (El t80) × Unit × Int × Unit) ×
            (Option (List (El t82)) × Unit) × Unit ⊕
          (Unit × Unit) × (Option (List (El t82)) × Unit) × Unit ⊕
            List (El t82) × Unit) :=
  andThen (inRange x2_j10 (List.length x0_j10)) fun (j14 : Nat) =>
  andThen (nthQ j14 x0_j10) fun (y15 : El t80) =>
    iff (eqQ y15.2.2.2.2.2.2.2.2.2.1 x1_j10)
      (iff (noO x3_j10)
        (Option.some
          (Sum.inl
            ((x0_j10, PUnit.unit, x1_j10, x2_j10, PUnit.unit), (Option.some [(x1_j10, x2_j10, Int.ofNat 2, PUnit.unit)], PUnit.unit), PUnit.unit)))
        (iff
          (!noO x3_j10 &&
            (Nat.beq 3 3 && Nat.beq (Nat.add (Nat.mul (List.length (rowsO x3_j10)) 3) 0) (Nat.mul (List.length (rowsO x3_j10)) 3)))
          (iff (Nat.ble (Nat.mul (addN (List.length (rowsO x3_j10)) 1) 25) 1000000000 && Bool.true && Bool.true)
            (iff
              (Nat.beq 3 3 &&
                (!noO
                      (Option.some
                        (appE (Prod.fst (Prod.snd (0, t82, Bool.true))) (rowsO x3_j10)
                          [(x1_j10, x2_j10, Int.ofNat 2, PUnit.unit)])) &&
                  Nat.beq (addN (List.length (rowsO x3_j10)) 1)
                    (List.length
                      (rowsO
                        (Option.some
                          (appE (Prod.fst (Prod.snd (0, t82, Bool.true))) (rowsO x3_j10)
                            [(x1_j10, x2_j10, Int.ofNat 2, PUnit.unit)]))))))
              (Option.some
                (Sum.inl
                  ((x0_j10, PUnit.unit, x1_j10, x2_j10, PUnit.unit),
                    (Option.some
                        (appE (Prod.fst (Prod.snd (0, t82, Bool.true))) (rowsO x3_j10)
                          [(x1_j10, x2_j10, Int.ofNat 2, PUnit.unit)]),
                      PUnit.unit),
                    PUnit.unit)))
              Option.none)
            Option.none)
          Option.none))
      (iff
        (Nat.beq 3 3 && eqBl Bool.true Bool.true &&
          (eqBl (noO x3_j10) (noO (iff (noO x3_j10) Option.none (Option.some (rowsO x3_j10)))) &&
            (noO (iff (noO x3_j10) Option.none (Option.some (rowsO x3_j10))) ||
              Nat.beq (List.length (rowsO x3_j10))
                (List.length (rowsO (iff (noO x3_j10) Option.none (Option.some (rowsO x3_j10))))))))
        (Option.some
          (Sum.inl
            ((x0_j10, PUnit.unit, x1_j10, x2_j10, PUnit.unit),
              (iff (noO x3_j10) Option.none (Option.some (rowsO x3_j10)), PUnit.unit), PUnit.unit)))
        Option.none)
noncomputable def r33_j7 (n : Nat) (x0_j7 : List (El t80)) (x1_j7 : Int) (x2_j7 : Int) (x3_j7 : Option (List (El t82))) : Option
  ((List (El t80) × Unit × Int × Int × Unit) ×
      (Option (List (El t82)) × Unit) × Unit ⊕
    (List (El t80) × Unit × Int × Unit) ×
        (Option (List (El t82)) × Unit) × Unit ⊕
      (List (El t80) × Unit × Int × Unit) ×
          (Option (List (El t82)) × Unit) × Unit ⊕
        (Unit × Unit) × (Option (List (El t82)) × Unit) × Unit ⊕
          List (El t82) × Unit) :=
  iff
  (Nat.beq 3 3 && eqBl Bool.true Bool.true &&
    (eqBl (noO x3_j7) (noO (iff (noO x3_j7) Option.none (Option.some (rowsO x3_j7)))) &&
      (noO (iff (noO x3_j7) Option.none (Option.some (rowsO x3_j7))) ||
        Nat.beq (List.length (rowsO x3_j7))
          (List.length (rowsO (iff (noO x3_j7) Option.none (Option.some (rowsO x3_j7))))))))
  (Option.some
    (Sum.inl
      ((x0_j7, PUnit.unit, x1_j7, wrapQ Go.IntKind.i64 (Int.add x2_j7 (Int.ofNat 1)), PUnit.unit),
        (iff (noO x3_j7) Option.none (Option.some (rowsO x3_j7)), PUnit.unit), PUnit.unit)))
  Option.none
noncomputable def r33_l6 (n : Nat) (x0_l6 : List (El t80)) (x1_l6 : Int) (x2_l6 : Int) (x3_l6 : Option (List (El t82))) : Option
  ((List (El t80) × Unit × Int × Int × Unit) ×
      (Option (List (El t82)) × Unit) × Unit ⊕
    (List (El t80) × Unit × Int × Unit) ×
        (Option (List (El t82)) × Unit) × Unit ⊕
      (List (El t80) × Unit × Int × Unit) ×
          (Option (List (El t82)) × Unit) × Unit ⊕
        (Unit × Unit) × (Option (List (El t82)) × Unit) × Unit ⊕
          List (El t82) × Unit) :=
  iff (!leQ (Int.ofNat (List.length x0_l6)) x2_l6)
  (andThen
    (andThen
      (andThen (inRange x2_l6 (List.length x0_l6)) fun (j8 : Nat) =>
        andThen (nthQ j8 x0_l6) fun (y9 : El t80) =>
          iff (eqQ y9.2.2.2.2.2.2.2.1 x1_l6)
            (iff (noO x3_l6)
              (Option.some
                (Sum.inl
                  ((x0_l6, PUnit.unit, x1_l6, x2_l6, PUnit.unit), (Option.some [(x1_l6, x2_l6, Int.ofNat 1, PUnit.unit)], PUnit.unit), PUnit.unit)))
              (iff
                (!noO x3_l6 &&
                  (Nat.beq 3 3 && Nat.beq (Nat.add (Nat.mul (List.length (rowsO x3_l6)) 3) 0) (Nat.mul (List.length (rowsO x3_l6)) 3)))
                (iff (Nat.ble (Nat.mul (addN (List.length (rowsO x3_l6)) 1) 25) 1000000000 && Bool.true && Bool.true)
                  (iff
                    (Nat.beq 3 3 &&
                      (!noO
                            (Option.some
                              (appE (Prod.fst (Prod.snd (0, t82, Bool.true))) (rowsO x3_l6)
                                [(x1_l6, x2_l6, Int.ofNat 1, PUnit.unit)])) &&
                        Nat.beq (addN (List.length (rowsO x3_l6)) 1)
                          (List.length
                            (rowsO
                              (Option.some
                                (appE (Prod.fst (Prod.snd (0, t82, Bool.true))) (rowsO x3_l6)
                                  [(x1_l6, x2_l6, Int.ofNat 1, PUnit.unit)]))))))
                    (Option.some
                      (Sum.inl
                        ((x0_l6, PUnit.unit, x1_l6, x2_l6, PUnit.unit),
                          (Option.some
                              (appE (Prod.fst (Prod.snd (0, t82, Bool.true))) (rowsO x3_l6)
                                [(x1_l6, x2_l6, Int.ofNat 1, PUnit.unit)]),
                            PUnit.unit),
                          PUnit.unit)))
                    Option.none)
                  Option.none)
                Option.none))
            (iff
              (Nat.beq 3 3 && eqBl Bool.true Bool.true &&
                (eqBl (noO x3_l6) (noO (iff (noO x3_l6) Option.none (Option.some (rowsO x3_l6)))) &&
                  (noO (iff (noO x3_l6) Option.none (Option.some (rowsO x3_l6))) ||
                    Nat.beq (List.length (rowsO x3_l6))
                      (List.length (rowsO (iff (noO x3_l6) Option.none (Option.some (rowsO x3_l6))))))))
              (Option.some
                (Sum.inl
                  ((x0_l6, PUnit.unit, x1_l6, x2_l6, PUnit.unit),
                    (iff (noO x3_l6) Option.none (Option.some (rowsO x3_l6)), PUnit.unit), PUnit.unit)))
              Option.none))
      (sumK
        fun
          (x :
            (List (El t80) × Unit × Int × Int × Unit) ×
              (Option (List (El t82)) × Unit) × Unit) =>
        r33_j10 n (Prod.fst (Prod.fst x)) (Prod.fst (Prod.snd (Prod.snd (Prod.fst x)))) (Prod.fst (Prod.snd (Prod.snd (Prod.snd (Prod.fst x)))))
          (Prod.fst (Prod.fst (Prod.snd x)))))
    (sumK
      fun
        (x :
          (List (El t80) × Unit × Int × Int × Unit) ×
            (Option (List (El t82)) × Unit) × Unit) =>
      r33_j7 n (Prod.fst (Prod.fst x)) (Prod.fst (Prod.snd (Prod.snd (Prod.fst x)))) (Prod.fst (Prod.snd (Prod.snd (Prod.snd (Prod.fst x)))))
        (Prod.fst (Prod.fst (Prod.snd x)))))
  (andThen
    (iff
      (Nat.beq 3 3 && eqBl Bool.true Bool.true &&
        (eqBl (noO x3_l6) (noO (iff (noO x3_l6) Option.none (Option.some (rowsO x3_l6)))) &&
          (noO (iff (noO x3_l6) Option.none (Option.some (rowsO x3_l6))) ||
            Nat.beq (List.length (rowsO x3_l6))
              (List.length (rowsO (iff (noO x3_l6) Option.none (Option.some (rowsO x3_l6))))))))
      (Option.some
        (Sum.inl
          ((x0_l6, PUnit.unit, x1_l6, PUnit.unit), (iff (noO x3_l6) Option.none (Option.some (rowsO x3_l6)), PUnit.unit),
            PUnit.unit)))
      Option.none)
    fun
      (r :
        (List (El t80) × Unit × Int × Unit) ×
            (Option (List (El t82)) × Unit) × Unit ⊕
          (List (El t80) × Unit × Int × Unit) ×
              (Option (List (El t82)) × Unit) × Unit ⊕
            (Unit × Unit) × (Option (List (El t82)) × Unit) × Unit ⊕
              List (El t82) × Unit) =>
    Option.some (Sum.inr r))
noncomputable def r33_j4 (n : Nat) (x0_j4 : List (El t80)) (x1_j4 : Int) (x2_j4 : Option (List (El t82))) : Option
  ((List (El t80) × Unit × Int × Unit) ×
      (Option (List (El t82)) × Unit) × Unit ⊕
    (Unit × Unit) × (Option (List (El t82)) × Unit) × Unit ⊕
      List (El t82) × Unit) :=
  iff
  (Nat.beq 3 3 && eqBl Bool.true Bool.true &&
    (eqBl (noO x2_j4) (noO (iff (noO x2_j4) Option.none (Option.some (rowsO x2_j4)))) &&
      (noO (iff (noO x2_j4) Option.none (Option.some (rowsO x2_j4))) ||
        Nat.beq (List.length (rowsO x2_j4))
          (List.length (rowsO (iff (noO x2_j4) Option.none (Option.some (rowsO x2_j4))))))))
  (Option.some
    (Sum.inl
      ((x0_j4, PUnit.unit, wrapQ Go.IntKind.i64 (Int.add x1_j4 (Int.ofNat 1)), PUnit.unit),
        (iff (noO x2_j4) Option.none (Option.some (rowsO x2_j4)), PUnit.unit), PUnit.unit)))
  Option.none
noncomputable def r33_l3 (n : Nat) (x0_l3 : List (El t80)) (x1_l3 : Int) (x2_l3 : Option (List (El t82))) : Option
  ((List (El t80) × Unit × Int × Unit) ×
      (Option (List (El t82)) × Unit) × Unit ⊕
    (Unit × Unit) × (Option (List (El t82)) × Unit) × Unit ⊕
      List (El t82) × Unit) :=
  iff (!leQ (Int.ofNat 120) x1_l3)
  (andThen
    (iff
      (Nat.beq 3 3 && eqBl Bool.true Bool.true &&
        (eqBl (noO x2_l3) (noO (iff (noO x2_l3) Option.none (Option.some (rowsO x2_l3)))) &&
          (noO (iff (noO x2_l3) Option.none (Option.some (rowsO x2_l3))) ||
            Nat.beq (List.length (rowsO x2_l3))
              (List.length (rowsO (iff (noO x2_l3) Option.none (Option.some (rowsO x2_l3))))))))
      (iterF
        (fun
            (x :
              (List (El t80) × Unit × Int × Int × Unit) ×
                (Option (List (El t82)) × Unit) × Unit) =>
          r33_l6 n (Prod.fst (Prod.fst x)) (Prod.fst (Prod.snd (Prod.snd (Prod.fst x)))) (Prod.fst (Prod.snd (Prod.snd (Prod.snd (Prod.fst x)))))
            (Prod.fst (Prod.fst (Prod.snd x))))
        n
        ((x0_l3, PUnit.unit, x1_l3, Int.ofNat 0, PUnit.unit),
          (iff (noO x2_l3) Option.none (Option.some (rowsO x2_l3)), PUnit.unit), PUnit.unit))
      Option.none)
    (sumK
      fun
        (x :
          (List (El t80) × Unit × Int × Unit) ×
            (Option (List (El t82)) × Unit) × Unit) =>
      r33_j4 n (Prod.fst (Prod.fst x)) (Prod.fst (Prod.snd (Prod.snd (Prod.fst x)))) (Prod.fst (Prod.fst (Prod.snd x)))))
  (andThen
    (iff
      (Nat.beq 3 3 && eqBl Bool.true Bool.true &&
        (eqBl (noO x2_l3) (noO (iff (noO x2_l3) Option.none (Option.some (rowsO x2_l3)))) &&
          (noO (iff (noO x2_l3) Option.none (Option.some (rowsO x2_l3))) ||
            Nat.beq (List.length (rowsO x2_l3))
              (List.length (rowsO (iff (noO x2_l3) Option.none (Option.some (rowsO x2_l3))))))))
      (Option.some
        (Sum.inl ((PUnit.unit, PUnit.unit), (iff (noO x2_l3) Option.none (Option.some (rowsO x2_l3)), PUnit.unit), PUnit.unit)))
      Option.none)
    fun
      (r :
        (Unit × Unit) × (Option (List (El t82)) × Unit) × Unit ⊕
          List (El t82) × Unit) =>
    Option.some (Sum.inr r))
noncomputable def r33_j12 (n : Nat) (x0_j12 : Option (List (El t82))) : Option (List (El t82) × Unit) :=
  iff
  (eqBl Bool.true Bool.true &&
    (noO x0_j12 || !noO x0_j12 && Nat.beq (List.length (rowsO x0_j12)) (List.length (rowsO x0_j12))))
  (Option.some (iff (noO x0_j12) [] (rowsO x0_j12), PUnit.unit)) Option.none
noncomputable def r33c (n : Nat) (x0 : List (El t80)) : Option (List (El t82) × Unit) :=
  andThen
  (iterF
    (fun
        (x :
          (List (El t80) × Unit × Int × Unit) ×
            (Option (List (El t82)) × Unit) × Unit) =>
      r33_l3 n (Prod.fst (Prod.fst x)) (Prod.fst (Prod.snd (Prod.snd (Prod.fst x)))) (Prod.fst (Prod.fst (Prod.snd x))))
    n ((x0, PUnit.unit, Int.ofNat 0, PUnit.unit), (Option.none, PUnit.unit), PUnit.unit))
  (sumK fun (x : (Unit × Unit) × (Option (List (El t82)) × Unit) × Unit) =>
    r33_j12 n (Prod.fst (Prod.fst (Prod.snd x))))
noncomputable def r33 (n : Nat) (a : ElL [t33]) : Option (ElL [t36]) := r33c n (a.1)
noncomputable def r33p : Plan := ⟨[(3, Cut.mk
  [(0, Shp.d (Ty.slice t80)), (3, Shp.own 0), (4, Shp.d (Ty.int Go.IntKind.i64))]
  [(0, t82, Bool.true)] [] 1), (6, Cut.mk
  [(0, Shp.d (Ty.slice t80)), (3, Shp.own 0), (4, Shp.d (Ty.int Go.IntKind.i64)),
    (5, Shp.d (Ty.int Go.IntKind.i64))]
  [(0, t82, Bool.true)] [] 1)], [(12, Cut.mk [(3, Shp.own 0)] [(0, t82, Bool.true)] [] 1), (4, Cut.mk
  [(0, Shp.d (Ty.slice t80)), (3, Shp.own 0), (4, Shp.d (Ty.int Go.IntKind.i64))]
  [(0, t82, Bool.true)] [] 1), (7, Cut.mk
  [(0, Shp.d (Ty.slice t80)), (3, Shp.own 0), (4, Shp.d (Ty.int Go.IntKind.i64)),
    (5, Shp.d (Ty.int Go.IntKind.i64))]
  [(0, t82, Bool.true)] [] 1), (10, Cut.mk
  [(0, Shp.d (Ty.slice t80)), (3, Shp.own 0), (4, Shp.d (Ty.int Go.IntKind.i64)),
    (5, Shp.d (Ty.int Go.IntKind.i64))]
  [(0, t82, Bool.true)] [] 1)], []⟩
noncomputable def r33k (n : Nat) : Con := ⟨33, [t33], [t36], r33 n, false, none⟩
theorem r33_ok (n : Nat) : SpecSim Try.prog noG 33 (Con.spec (r33k n)) :=
  lift_ok (tab := []) (fn := Try.f33) r33p n mix Tb.tys (fun _ h => by cases h) Try.func33 rfl (by kernel_rfl) (fun h => by cases h) (fun ⟨x0, _⟩ => by kernel_rfl)
end L
end Go.Proofs.Ytlhagmgfffigfaa
