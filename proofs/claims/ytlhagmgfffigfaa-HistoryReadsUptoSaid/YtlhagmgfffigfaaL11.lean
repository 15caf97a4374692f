/- Function 11, as a function of data: its own run; its contract. Printed by a program. Conditions: none. -/
import Derived.Test.YtlhagmgfffigfaaTy
set_option maxRecDepth 100000
set_option linter.unusedVariables false
namespace Go.Proofs.Ytlhagmgfffigfaa
open Go Go.Abs
namespace L
noncomputable def r11_j9 (n : Nat) (x0_j9 : List (El t80)) (x1_j9 : Int) (x2_j9 : Option (List (El t80))) (x3_j9 : El t80) : Option
  ((List (El t80) × Unit × Int × Unit) ×
      (Option (List (El t80)) × Unit) × Unit ⊕
    (List (El t80) × Unit × Int × Unit) ×
        (Option (List (El t80)) × Unit) × Unit ⊕
      (Unit × Unit) × (Option (List (El t80)) × Unit) × Unit ⊕
        List (El t80) × Unit) :=
  iff (noO x2_j9) (Option.some (Sum.inl ((x0_j9, PUnit.unit, x1_j9, PUnit.unit), (Option.some [x3_j9], PUnit.unit), PUnit.unit)))
  (iff
    (!noO x2_j9 &&
      (Nat.beq 61 61 && Nat.beq (Nat.add (Nat.mul (List.length (rowsO x2_j9)) 61) 0) (Nat.mul (List.length (rowsO x2_j9)) 61)))
    (iff (Nat.ble (Nat.mul (addN (List.length (rowsO x2_j9)) 1) 345) 1000000000 && Bool.true && Bool.true)
      (iff
        (Nat.beq 61 61 &&
          (!noO
                (Option.some (appE (Prod.fst (Prod.snd (0, t80, Bool.true))) (rowsO x2_j9) [x3_j9])) &&
            Nat.beq (addN (List.length (rowsO x2_j9)) 1)
              (List.length
                (rowsO
                  (Option.some (appE (Prod.fst (Prod.snd (0, t80, Bool.true))) (rowsO x2_j9) [x3_j9]))))))
        (Option.some
          (Sum.inl
            ((x0_j9, PUnit.unit, x1_j9, PUnit.unit),
              (Option.some (appE (Prod.fst (Prod.snd (0, t80, Bool.true))) (rowsO x2_j9) [x3_j9]),
                PUnit.unit),
              PUnit.unit)))
        Option.none)
      Option.none)
    Option.none)
noncomputable def r11_j8 (n : Nat) (x0_j8 : List (El t80)) (x1_j8 : Int) (x2_j8 : Option (List (El t80))) (x3_j8 : El t80) : Option
  ((List (El t80) × Unit × Int × Unit) ×
      (Option (List (El t80)) × Unit) × Unit ⊕
    (List (El t80) × Unit × Int × Unit) ×
        (Option (List (El t80)) × Unit) × Unit ⊕
      (Unit × Unit) × (Option (List (El t80)) × Unit) × Unit ⊕
        List (El t80) × Unit) :=
  andThen
  (iff (isZ (List.length x3_j8.2.2.2.2.2.2.2.2.2.2.2.1.2.2.2.2.2.1))
    (iff
      (Nat.beq 61 61 && eqBl Bool.true Bool.true &&
        (eqBl (noO x2_j8) (noO (iff (noO x2_j8) Option.none (Option.some (rowsO x2_j8)))) &&
          (noO (iff (noO x2_j8) Option.none (Option.some (rowsO x2_j8))) ||
            Nat.beq (List.length (rowsO x2_j8))
              (List.length (rowsO (iff (noO x2_j8) Option.none (Option.some (rowsO x2_j8))))))))
      (Option.some
        (Sum.inl
          ((x0_j8, PUnit.unit, x1_j8, PUnit.unit, PUnit.unit),
            (iff (noO x2_j8) Option.none (Option.some (rowsO x2_j8)), PUnit.unit),
            (x3_j8.1, x3_j8.2.1, x3_j8.2.2.1, x3_j8.2.2.2.1, x3_j8.2.2.2.2.1, x3_j8.2.2.2.2.2.1, x3_j8.2.2.2.2.2.2.1, x3_j8.2.2.2.2.2.2.2.1,
              x3_j8.2.2.2.2.2.2.2.2.1, x3_j8.2.2.2.2.2.2.2.2.2.1, x3_j8.2.2.2.2.2.2.2.2.2.2.1,
              (x3_j8.2.2.2.2.2.2.2.2.2.2.2.1.1, x3_j8.2.2.2.2.2.2.2.2.2.2.2.1.2.1, x3_j8.2.2.2.2.2.2.2.2.2.2.2.1.2.2.1,
                x3_j8.2.2.2.2.2.2.2.2.2.2.2.1.2.2.2.1, x3_j8.2.2.2.2.2.2.2.2.2.2.2.1.2.2.2.2.1, [], x3_j8.2.2.2.2.2.2.2.2.2.2.2.1.2.2.2.2.2.2),
              PUnit.unit),
            PUnit.unit)))
      Option.none)
    (iff (Nat.ble (Nat.mul (addN 0 (List.length x3_j8.2.2.2.2.2.2.2.2.2.2.2.1.2.2.2.2.2.1)) 33) 1000000000 && Bool.true && Bool.true)
      (iff
        (Nat.beq 61 61 && eqBl Bool.true Bool.true &&
          (eqBl (noO x2_j8) (noO (iff (noO x2_j8) Option.none (Option.some (rowsO x2_j8)))) &&
            (noO (iff (noO x2_j8) Option.none (Option.some (rowsO x2_j8))) ||
              Nat.beq (List.length (rowsO x2_j8))
                (List.length (rowsO (iff (noO x2_j8) Option.none (Option.some (rowsO x2_j8))))))))
        (iff
          (Nat.beq (addN 0 (List.length x3_j8.2.2.2.2.2.2.2.2.2.2.2.1.2.2.2.2.2.1)) (List.length x3_j8.2.2.2.2.2.2.2.2.2.2.2.1.2.2.2.2.2.1))
          (Option.some
            (Sum.inl
              ((x0_j8, PUnit.unit, x1_j8, PUnit.unit, PUnit.unit),
                (iff (noO x2_j8) Option.none (Option.some (rowsO x2_j8)), PUnit.unit),
                (x3_j8.1, x3_j8.2.1, x3_j8.2.2.1, x3_j8.2.2.2.1, x3_j8.2.2.2.2.1, x3_j8.2.2.2.2.2.1, x3_j8.2.2.2.2.2.2.1, x3_j8.2.2.2.2.2.2.2.1,
                  x3_j8.2.2.2.2.2.2.2.2.1, x3_j8.2.2.2.2.2.2.2.2.2.1, x3_j8.2.2.2.2.2.2.2.2.2.2.1,
                  (x3_j8.2.2.2.2.2.2.2.2.2.2.2.1.1, x3_j8.2.2.2.2.2.2.2.2.2.2.2.1.2.1, x3_j8.2.2.2.2.2.2.2.2.2.2.2.1.2.2.1,
                    x3_j8.2.2.2.2.2.2.2.2.2.2.2.1.2.2.2.1, x3_j8.2.2.2.2.2.2.2.2.2.2.2.1.2.2.2.2.1, x3_j8.2.2.2.2.2.2.2.2.2.2.2.1.2.2.2.2.2.1,
                    x3_j8.2.2.2.2.2.2.2.2.2.2.2.1.2.2.2.2.2.2),
                  PUnit.unit),
                PUnit.unit)))
          Option.none)
        Option.none)
      Option.none))
  (sumK
    fun
      (x :
        (List (El t80) × Unit × Int × Unit × Unit) ×
          (Option (List (El t80)) × Unit) × El t80 × Unit) =>
    r11_j9 n (Prod.fst (Prod.fst x)) (Prod.fst (Prod.snd (Prod.snd (Prod.fst x)))) (Prod.fst (Prod.fst (Prod.snd x)))
      (Prod.fst (Prod.snd (Prod.snd x))))
noncomputable def r11_j7 (n : Nat) (x0_j7 : List (El t80)) (x1_j7 : Int) (x2_j7 : Option (List (El t80))) (x3_j7 : El t80) : Option
  ((List (El t80) × Unit × Int × Unit) ×
      (Option (List (El t80)) × Unit) × Unit ⊕
    (List (El t80) × Unit × Int × Unit) ×
        (Option (List (El t80)) × Unit) × Unit ⊕
      (Unit × Unit) × (Option (List (El t80)) × Unit) × Unit ⊕
        List (El t80) × Unit) :=
  andThen
  (iff (isZ (List.length x3_j7.2.2.2.1))
    (iff
      (Nat.beq 61 61 && eqBl Bool.true Bool.true &&
        (eqBl (noO x2_j7) (noO (iff (noO x2_j7) Option.none (Option.some (rowsO x2_j7)))) &&
          (noO (iff (noO x2_j7) Option.none (Option.some (rowsO x2_j7))) ||
            Nat.beq (List.length (rowsO x2_j7))
              (List.length (rowsO (iff (noO x2_j7) Option.none (Option.some (rowsO x2_j7))))))))
      (Option.some
        (Sum.inl
          ((x0_j7, PUnit.unit, x1_j7, PUnit.unit, PUnit.unit),
            (iff (noO x2_j7) Option.none (Option.some (rowsO x2_j7)), PUnit.unit),
            (x3_j7.1, x3_j7.2.1, x3_j7.2.2.1, [], x3_j7.2.2.2.2), PUnit.unit)))
      Option.none)
    (iff (Nat.ble (Nat.mul (addN 0 (List.length x3_j7.2.2.2.1)) 2) 1000000000 && Bool.true && Bool.true)
      (iff
        (Nat.beq 61 61 && eqBl Bool.true Bool.true &&
          (eqBl (noO x2_j7) (noO (iff (noO x2_j7) Option.none (Option.some (rowsO x2_j7)))) &&
            (noO (iff (noO x2_j7) Option.none (Option.some (rowsO x2_j7))) ||
              Nat.beq (List.length (rowsO x2_j7))
                (List.length (rowsO (iff (noO x2_j7) Option.none (Option.some (rowsO x2_j7))))))))
        (iff (Nat.beq (addN 0 (List.length x3_j7.2.2.2.1)) (List.length x3_j7.2.2.2.1))
          (Option.some
            (Sum.inl
              ((x0_j7, PUnit.unit, x1_j7, PUnit.unit, PUnit.unit),
                (iff (noO x2_j7) Option.none (Option.some (rowsO x2_j7)), PUnit.unit),
                (x3_j7.1, x3_j7.2.1, x3_j7.2.2.1, x3_j7.2.2.2.1, x3_j7.2.2.2.2), PUnit.unit)))
          Option.none)
        Option.none)
      Option.none))
  (sumK
    fun
      (x :
        (List (El t80) × Unit × Int × Unit × Unit) ×
          (Option (List (El t80)) × Unit) × El t80 × Unit) =>
    r11_j8 n (Prod.fst (Prod.fst x)) (Prod.fst (Prod.snd (Prod.snd (Prod.fst x)))) (Prod.fst (Prod.fst (Prod.snd x)))
      (Prod.fst (Prod.snd (Prod.snd x))))
noncomputable def r11_j4 (n : Nat) (x0_j4 : List (El t80)) (x1_j4 : Int) (x2_j4 : Option (List (El t80))) : Option
  ((List (El t80) × Unit × Int × Unit) ×
      (Option (List (El t80)) × Unit) × Unit ⊕
    (Unit × Unit) × (Option (List (El t80)) × Unit) × Unit ⊕
      List (El t80) × Unit) :=
  iff
  (Nat.beq 61 61 && eqBl Bool.true Bool.true &&
    (eqBl (noO x2_j4) (noO (iff (noO x2_j4) Option.none (Option.some (rowsO x2_j4)))) &&
      (noO (iff (noO x2_j4) Option.none (Option.some (rowsO x2_j4))) ||
        Nat.beq (List.length (rowsO x2_j4))
          (List.length (rowsO (iff (noO x2_j4) Option.none (Option.some (rowsO x2_j4))))))))
  (Option.some
    (Sum.inl
      ((x0_j4, PUnit.unit, wrapQ Go.IntKind.i64 (Int.add x1_j4 (Int.ofNat 1)), PUnit.unit),
        (iff (noO x2_j4) Option.none (Option.some (rowsO x2_j4)), PUnit.unit), PUnit.unit)))
  Option.none
noncomputable def r11_l3 (n : Nat) (x0_l3 : List (El t80)) (x1_l3 : Int) (x2_l3 : Option (List (El t80))) : Option
  ((List (El t80) × Unit × Int × Unit) ×
      (Option (List (El t80)) × Unit) × Unit ⊕
    (Unit × Unit) × (Option (List (El t80)) × Unit) × Unit ⊕
      List (El t80) × Unit) :=
  iff (!leQ (Int.ofNat (List.length x0_l3)) x1_l3)
  (andThen
    (andThen (inRange x1_l3 (List.length x0_l3)) fun (j4 : Nat) =>
      andThen (nthQ j4 x0_l3) fun (y5 : El t80) =>
        andThen
          (iff (isZ (List.length y5.2.2.1.2.1))
            (iff
              (Nat.beq 61 61 && eqBl Bool.true Bool.true &&
                (eqBl (noO x2_l3) (noO (iff (noO x2_l3) Option.none (Option.some (rowsO x2_l3)))) &&
                  (noO (iff (noO x2_l3) Option.none (Option.some (rowsO x2_l3))) ||
                    Nat.beq (List.length (rowsO x2_l3))
                      (List.length (rowsO (iff (noO x2_l3) Option.none (Option.some (rowsO x2_l3))))))))
              (Option.some
                (Sum.inl
                  ((x0_l3, PUnit.unit, x1_l3, PUnit.unit, PUnit.unit),
                    (iff (noO x2_l3) Option.none (Option.some (rowsO x2_l3)), PUnit.unit),
                    (y5.1, y5.2.1, (y5.2.2.1.1, [], y5.2.2.1.2.2), y5.2.2.2), PUnit.unit)))
              Option.none)
            (iff (Nat.ble (Nat.mul (addN 0 (List.length y5.2.2.1.2.1)) 2) 1000000000 && Bool.true && Bool.true)
              (iff
                (Nat.beq 61 61 && eqBl Bool.true Bool.true &&
                  (eqBl (noO x2_l3) (noO (iff (noO x2_l3) Option.none (Option.some (rowsO x2_l3)))) &&
                    (noO (iff (noO x2_l3) Option.none (Option.some (rowsO x2_l3))) ||
                      Nat.beq (List.length (rowsO x2_l3))
                        (List.length (rowsO (iff (noO x2_l3) Option.none (Option.some (rowsO x2_l3))))))))
                (iff (Nat.beq (addN 0 (List.length y5.2.2.1.2.1)) (List.length y5.2.2.1.2.1))
                  (Option.some
                    (Sum.inl
                      ((x0_l3, PUnit.unit, x1_l3, PUnit.unit, PUnit.unit),
                        (iff (noO x2_l3) Option.none (Option.some (rowsO x2_l3)), PUnit.unit),
                        (y5.1, y5.2.1, (y5.2.2.1.1, y5.2.2.1.2.1, y5.2.2.1.2.2), y5.2.2.2), PUnit.unit)))
                  Option.none)
                Option.none)
              Option.none))
          (sumK
            fun
              (x :
                (List (El t80) × Unit × Int × Unit × Unit) ×
                  (Option (List (El t80)) × Unit) × El t80 × Unit) =>
            r11_j7 n (Prod.fst (Prod.fst x)) (Prod.fst (Prod.snd (Prod.snd (Prod.fst x)))) (Prod.fst (Prod.fst (Prod.snd x)))
              (Prod.fst (Prod.snd (Prod.snd x)))))
    (sumK
      fun
        (x :
          (List (El t80) × Unit × Int × Unit) ×
            (Option (List (El t80)) × Unit) × Unit) =>
      r11_j4 n (Prod.fst (Prod.fst x)) (Prod.fst (Prod.snd (Prod.snd (Prod.fst x)))) (Prod.fst (Prod.fst (Prod.snd x)))))
  (andThen
    (iff
      (Nat.beq 61 61 && eqBl Bool.true Bool.true &&
        (eqBl (noO x2_l3) (noO (iff (noO x2_l3) Option.none (Option.some (rowsO x2_l3)))) &&
          (noO (iff (noO x2_l3) Option.none (Option.some (rowsO x2_l3))) ||
            Nat.beq (List.length (rowsO x2_l3))
              (List.length (rowsO (iff (noO x2_l3) Option.none (Option.some (rowsO x2_l3))))))))
      (Option.some
        (Sum.inl ((PUnit.unit, PUnit.unit), (iff (noO x2_l3) Option.none (Option.some (rowsO x2_l3)), PUnit.unit), PUnit.unit)))
      Option.none)
    fun
      (r :
        (Unit × Unit) × (Option (List (El t80)) × Unit) × Unit ⊕
          List (El t80) × Unit) =>
    Option.some (Sum.inr r))
noncomputable def r11_j10 (n : Nat) (x0_j10 : Option (List (El t80))) : Option (List (El t80) × Unit) :=
  iff
  (eqBl Bool.true Bool.true &&
    (noO x0_j10 || !noO x0_j10 && Nat.beq (List.length (rowsO x0_j10)) (List.length (rowsO x0_j10))))
  (Option.some (iff (noO x0_j10) [] (rowsO x0_j10), PUnit.unit)) Option.none
noncomputable def r11c (n : Nat) (x0 : List (El t80)) : Option (List (El t80) × Unit) :=
  andThen
  (iterF
    (fun
        (x :
          (List (El t80) × Unit × Int × Unit) ×
            (Option (List (El t80)) × Unit) × Unit) =>
      r11_l3 n (Prod.fst (Prod.fst x)) (Prod.fst (Prod.snd (Prod.snd (Prod.fst x)))) (Prod.fst (Prod.fst (Prod.snd x))))
    n ((x0, PUnit.unit, Int.ofNat 0, PUnit.unit), (Option.none, PUnit.unit), PUnit.unit))
  (sumK fun (x : (Unit × Unit) × (Option (List (El t80)) × Unit) × Unit) =>
    r11_j10 n (Prod.fst (Prod.fst (Prod.snd x))))
noncomputable def r11 (n : Nat) (a : ElL [t33]) : Option (ElL [t33]) := r11c n (a.1)
noncomputable def r11p : Plan := ⟨[(3, Cut.mk
  [(0, Shp.d (Ty.slice t80)), (3, Shp.own 0), (4, Shp.d (Ty.int Go.IntKind.i64))]
  [(0, t80, Bool.true)] [] 1)], [(10, Cut.mk [(3, Shp.own 0)] [(0, t80, Bool.true)] [] 1), (4, Cut.mk
  [(0, Shp.d (Ty.slice t80)), (3, Shp.own 0), (4, Shp.d (Ty.int Go.IntKind.i64))]
  [(0, t80, Bool.true)] [] 1), (7, Cut.mk
  [(0, Shp.d (Ty.slice t80)), (3, Shp.own 0), (4, Shp.d (Ty.int Go.IntKind.i64)),
    (5, Shp.at 1 0)]
  [(0, t80, Bool.true)] [(1, Shp.d t80)] 2), (8, Cut.mk
  [(0, Shp.d (Ty.slice t80)), (3, Shp.own 0), (4, Shp.d (Ty.int Go.IntKind.i64)),
    (5, Shp.at 1 0)]
  [(0, t80, Bool.true)] [(1, Shp.d t80)] 2), (9, Cut.mk
  [(0, Shp.d (Ty.slice t80)), (3, Shp.own 0), (4, Shp.d (Ty.int Go.IntKind.i64)),
    (5, Shp.at 1 0)]
  [(0, t80, Bool.true)] [(1, Shp.d t80)] 2)], []⟩
noncomputable def r11k (n : Nat) : Con := ⟨11, [t33], [t33], r11 n, false, none⟩
theorem r11_ok (n : Nat) : SpecSim Try.prog noG 11 (Con.spec (r11k n)) :=
  lift_ok (tab := []) (fn := Try.f11) r11p n mix Tb.tys (fun _ h => by cases h) Try.func11 rfl (by kernel_rfl) (fun h => by cases h) (fun ⟨x0, _⟩ => by kernel_rfl)
end L
end Go.Proofs.Ytlhagmgfffigfaa
