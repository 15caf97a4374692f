/- Function 17, as a function of data: its own run; its contract. Printed by a program. Conditions: none. -/
import Derived.Test.YtlhagmgfffigfaaTy
import Derived.Test.YtlhagmgfffigfaaL21
set_option maxRecDepth 100000
set_option linter.unusedVariables false
namespace Go.Proofs.Ytlhagmgfffigfaa
open Go Go.Abs
namespace L
noncomputable def r17_j6 (n : Nat) (x0_j6 : List (El t80)) (x1_j6 : Int) (x2_j6 : Option (List Int)) : Option
  ((List (El t80) × Unit × Int × Unit) × (Option (List Int) × Unit) × Unit ⊕
    (Unit × Unit) × (Option (List Int) × Unit) × Unit ⊕ List Int × Int × Unit) :=
  iff
  (Nat.beq 1 1 && eqBl Bool.true Bool.true &&
    (eqBl (noO x2_j6) (noO (iff (noO x2_j6) Option.none (Option.some (rowsO x2_j6)))) &&
      (noO (iff (noO x2_j6) Option.none (Option.some (rowsO x2_j6))) ||
        Nat.beq (List.length (rowsO x2_j6))
          (List.length (rowsO (iff (noO x2_j6) Option.none (Option.some (rowsO x2_j6))))))))
  (Option.some
    (Sum.inl
      ((x0_j6, PUnit.unit, wrapQ Go.IntKind.i64 (Int.add x1_j6 (Int.ofNat 1)), PUnit.unit),
        (iff (noO x2_j6) Option.none (Option.some (rowsO x2_j6)), PUnit.unit), PUnit.unit)))
  Option.none
noncomputable def r17_l5 (n : Nat) (x0_l5 : List (El t80)) (x1_l5 : Int) (x2_l5 : Option (List Int)) : Option
  ((List (El t80) × Unit × Int × Unit) × (Option (List Int) × Unit) × Unit ⊕
    (Unit × Unit) × (Option (List Int) × Unit) × Unit ⊕ List Int × Int × Unit) :=
  iff (!leQ (Int.ofNat (List.length x0_l5)) x1_l5)
  (andThen
    (andThen (inRange x1_l5 (List.length x0_l5)) fun (j6 : Nat) =>
      andThen (nthQ j6 x0_l5) fun (y7 : El t80) =>
        iff (!leQ (Int.ofNat 0) y7.2.2.2.2.2.2.2.2.2.2.1)
          (iff (noO x2_l5)
            (Option.some (Sum.inl ((x0_l5, PUnit.unit, x1_l5, PUnit.unit), (Option.some [x1_l5], PUnit.unit), PUnit.unit)))
            (iff
              (!noO x2_l5 &&
                (Nat.beq 1 1 && Nat.beq (Nat.add (Nat.mul (List.length (rowsO x2_l5)) 1) 0) (Nat.mul (List.length (rowsO x2_l5)) 1)))
              (iff (Nat.ble (Nat.mul (addN (List.length (rowsO x2_l5)) 1) 9) 1000000000 && Bool.true && Bool.true)
                (iff
                  (Nat.beq 1 1 &&
                    (!noO
                          (Option.some
                            (appE (Prod.fst (Prod.snd (0, t3, Bool.true))) (rowsO x2_l5) [x1_l5])) &&
                      Nat.beq (addN (List.length (rowsO x2_l5)) 1)
                        (List.length
                          (rowsO
                            (Option.some
                              (appE (Prod.fst (Prod.snd (0, t3, Bool.true))) (rowsO x2_l5) [x1_l5]))))))
                  (Option.some
                    (Sum.inl
                      ((x0_l5, PUnit.unit, x1_l5, PUnit.unit),
                        (Option.some (appE (Prod.fst (Prod.snd (0, t3, Bool.true))) (rowsO x2_l5) [x1_l5]),
                          PUnit.unit),
                        PUnit.unit)))
                  Option.none)
                Option.none)
              Option.none))
          (iff
            (Nat.beq 1 1 && eqBl Bool.true Bool.true &&
              (eqBl (noO x2_l5) (noO (iff (noO x2_l5) Option.none (Option.some (rowsO x2_l5)))) &&
                (noO (iff (noO x2_l5) Option.none (Option.some (rowsO x2_l5))) ||
                  Nat.beq (List.length (rowsO x2_l5))
                    (List.length (rowsO (iff (noO x2_l5) Option.none (Option.some (rowsO x2_l5))))))))
            (Option.some
              (Sum.inl
                ((x0_l5, PUnit.unit, x1_l5, PUnit.unit), (iff (noO x2_l5) Option.none (Option.some (rowsO x2_l5)), PUnit.unit),
                  PUnit.unit)))
            Option.none))
    (sumK fun (x : (List (El t80) × Unit × Int × Unit) × (Option (List Int) × Unit) × Unit) =>
      r17_j6 n (Prod.fst (Prod.fst x)) (Prod.fst (Prod.snd (Prod.snd (Prod.fst x)))) (Prod.fst (Prod.fst (Prod.snd x)))))
  (andThen
    (iff
      (Nat.beq 1 1 && eqBl Bool.true Bool.true &&
        (eqBl (noO x2_l5) (noO (iff (noO x2_l5) Option.none (Option.some (rowsO x2_l5)))) &&
          (noO (iff (noO x2_l5) Option.none (Option.some (rowsO x2_l5))) ||
            Nat.beq (List.length (rowsO x2_l5))
              (List.length (rowsO (iff (noO x2_l5) Option.none (Option.some (rowsO x2_l5))))))))
      (Option.some
        (Sum.inl ((PUnit.unit, PUnit.unit), (iff (noO x2_l5) Option.none (Option.some (rowsO x2_l5)), PUnit.unit), PUnit.unit)))
      Option.none)
    fun (r : (Unit × Unit) × (Option (List Int) × Unit) × Unit ⊕ List Int × Int × Unit) => Option.some (Sum.inr r))
noncomputable def r17_j9 (n : Nat) (x0_j9 : Option (List Int)) : Option (List Int × Int × Unit) :=
  iff
  (eqBl Bool.true Bool.true &&
    (noO x0_j9 || !noO x0_j9 && Nat.beq (List.length (rowsO x0_j9)) (List.length (rowsO x0_j9))))
  (Option.some (iff (noO x0_j9) [] (rowsO x0_j9), Int.ofNat 0, PUnit.unit)) Option.none
noncomputable def r17c (n : Nat) (x0 : List (El t80)) : Option (List Int × Int × Unit) :=
  andThen (r21 n (x0, PUnit.unit)) fun (y1 : ElL (Con.B (r21k n))) =>
  iff (!eqQ y1.1 (Int.ofNat 0))
    (andThen (r21 n (x0, PUnit.unit))
      fun (y2 : ElL (Con.B (r21k n))) => Option.some ([], y2.1, PUnit.unit))
    (andThen
      (iterF
        (fun (x : (List (El t80) × Unit × Int × Unit) × (Option (List Int) × Unit) × Unit) =>
          r17_l5 n (Prod.fst (Prod.fst x)) (Prod.fst (Prod.snd (Prod.snd (Prod.fst x)))) (Prod.fst (Prod.fst (Prod.snd x))))
        n ((x0, PUnit.unit, Int.ofNat 0, PUnit.unit), (Option.none, PUnit.unit), PUnit.unit))
      (sumK fun (x : (Unit × Unit) × (Option (List Int) × Unit) × Unit) => r17_j9 n (Prod.fst (Prod.fst (Prod.snd x)))))
noncomputable def r17 (n : Nat) (a : ElL [t33]) : Option (ElL [t23, t3]) := r17c n (a.1)
noncomputable def r17p : Plan := ⟨[(5, Cut.mk
  [(0, Shp.d (Ty.slice t80)), (4, Shp.own 0), (5, Shp.d (Ty.int Go.IntKind.i64))]
  [(0, t3, Bool.true)] [] 1)], [(9, Cut.mk [(4, Shp.own 0)] [(0, t3, Bool.true)] [] 1), (6, Cut.mk
  [(0, Shp.d (Ty.slice t80)), (4, Shp.own 0), (5, Shp.d (Ty.int Go.IntKind.i64))]
  [(0, t3, Bool.true)] [] 1)], []⟩
noncomputable def r17k (n : Nat) : Con := ⟨17, [t33], [t23, t3], r17 n, false, none⟩
theorem r17_ok (n : Nat) : SpecSim Try.prog noG 17 (Con.spec (r17k n)) :=
  lift_ok (tab := [r21k n]) (fn := Try.f17) r17p n mix Tb.tys (Cons.all (.cons (r21_ok n) .nil)) Try.func17 rfl (by kernel_rfl) (fun h => by cases h) (fun ⟨x0, _⟩ => by kernel_rfl)
end L
end Go.Proofs.Ytlhagmgfffigfaa
