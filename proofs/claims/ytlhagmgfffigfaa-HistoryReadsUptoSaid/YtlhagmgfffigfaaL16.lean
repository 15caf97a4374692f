/- Function 16, as a function of data: its own run; its contract. Printed by a program. Conditions: none. -/
import Derived.Test.YtlhagmgfffigfaaTy
import Derived.Test.YtlhagmgfffigfaaL20
set_option maxRecDepth 100000
set_option linter.unusedVariables false
namespace Go.Proofs.Ytlhagmgfffigfaa
open Go Go.Abs
namespace L
noncomputable def r16_j10 (n : Nat) (x0_j10 : List (El t80)) (x1_j10 : Int) (x2_j10 : Int) (x3_j10 : Option (List Int)) : Option
  ((Unit × List (El t80) × Int × Int × Unit) × (Option (List Int) × Unit) × Unit ⊕
    (Unit × Unit) × (Option (List Int) × Unit) × Unit ⊕ List Int × Int × Unit) :=
  iff
  (Nat.beq 1 1 && eqBl Bool.true Bool.true &&
    (eqBl (noO x3_j10) (noO (iff (noO x3_j10) Option.none (Option.some (rowsO x3_j10)))) &&
      (noO (iff (noO x3_j10) Option.none (Option.some (rowsO x3_j10))) ||
        Nat.beq (List.length (rowsO x3_j10))
          (List.length (rowsO (iff (noO x3_j10) Option.none (Option.some (rowsO x3_j10))))))))
  (Option.some
    (Sum.inl
      ((PUnit.unit, x0_j10, x1_j10, wrapQ Go.IntKind.i64 (Int.add x2_j10 (Int.ofNat 1)), PUnit.unit),
        (iff (noO x3_j10) Option.none (Option.some (rowsO x3_j10)), PUnit.unit), PUnit.unit)))
  Option.none
noncomputable def r16_l6 (n : Nat) (x0_l6 : List (El t80)) (x1_l6 : Int) (x2_l6 : Int) (x3_l6 : Option (List Int)) : Option
  ((Unit × List (El t80) × Int × Int × Unit) × (Option (List Int) × Unit) × Unit ⊕
    (Unit × Unit) × (Option (List Int) × Unit) × Unit ⊕ List Int × Int × Unit) :=
  iff (!leQ x1_l6 x2_l6)
  (andThen
    (andThen (inRange x2_l6 (List.length x0_l6)) fun (j6 : Nat) =>
      andThen (nthQ j6 x0_l6) fun (y7 : El t80) =>
        iff (eqQ y7.2.2.2.2.2.2.2.2.2.2.1 (Int.negSucc 0))
          (iff (noO x3_l6)
            (Option.some (Sum.inl ((PUnit.unit, x0_l6, x1_l6, x2_l6, PUnit.unit), (Option.some [x2_l6], PUnit.unit), PUnit.unit)))
            (iff
              (!noO x3_l6 &&
                (Nat.beq 1 1 && Nat.beq (Nat.add (Nat.mul (List.length (rowsO x3_l6)) 1) 0) (Nat.mul (List.length (rowsO x3_l6)) 1)))
              (iff (Nat.ble (Nat.mul (addN (List.length (rowsO x3_l6)) 1) 9) 1000000000 && Bool.true && Bool.true)
                (iff
                  (Nat.beq 1 1 &&
                    (!noO
                          (Option.some
                            (appE (Prod.fst (Prod.snd (0, t3, Bool.true))) (rowsO x3_l6) [x2_l6])) &&
                      Nat.beq (addN (List.length (rowsO x3_l6)) 1)
                        (List.length
                          (rowsO
                            (Option.some
                              (appE (Prod.fst (Prod.snd (0, t3, Bool.true))) (rowsO x3_l6) [x2_l6]))))))
                  (Option.some
                    (Sum.inl
                      ((PUnit.unit, x0_l6, x1_l6, x2_l6, PUnit.unit),
                        (Option.some (appE (Prod.fst (Prod.snd (0, t3, Bool.true))) (rowsO x3_l6) [x2_l6]),
                          PUnit.unit),
                        PUnit.unit)))
                  Option.none)
                Option.none)
              Option.none))
          (iff
            (Nat.beq 1 1 && eqBl Bool.true Bool.true &&
              (eqBl (noO x3_l6) (noO (iff (noO x3_l6) Option.none (Option.some (rowsO x3_l6)))) &&
                (noO (iff (noO x3_l6) Option.none (Option.some (rowsO x3_l6))) ||
                  Nat.beq (List.length (rowsO x3_l6))
                    (List.length (rowsO (iff (noO x3_l6) Option.none (Option.some (rowsO x3_l6))))))))
            (Option.some
              (Sum.inl
                ((PUnit.unit, x0_l6, x1_l6, x2_l6, PUnit.unit),
                  (iff (noO x3_l6) Option.none (Option.some (rowsO x3_l6)), PUnit.unit), PUnit.unit)))
            Option.none))
    (sumK fun (x : (Unit × List (El t80) × Int × Int × Unit) × (Option (List Int) × Unit) × Unit) =>
      r16_j10 n (Prod.fst (Prod.snd (Prod.fst x))) (Prod.fst (Prod.snd (Prod.snd (Prod.fst x))))
        (Prod.fst (Prod.snd (Prod.snd (Prod.snd (Prod.fst x))))) (Prod.fst (Prod.fst (Prod.snd x)))))
  (andThen
    (iff
      (Nat.beq 1 1 && eqBl Bool.true Bool.true &&
        (eqBl (noO x3_l6) (noO (iff (noO x3_l6) Option.none (Option.some (rowsO x3_l6)))) &&
          (noO (iff (noO x3_l6) Option.none (Option.some (rowsO x3_l6))) ||
            Nat.beq (List.length (rowsO x3_l6))
              (List.length (rowsO (iff (noO x3_l6) Option.none (Option.some (rowsO x3_l6))))))))
      (Option.some
        (Sum.inl ((PUnit.unit, PUnit.unit), (iff (noO x3_l6) Option.none (Option.some (rowsO x3_l6)), PUnit.unit), PUnit.unit)))
      Option.none)
    fun (r : (Unit × Unit) × (Option (List Int) × Unit) × Unit ⊕ List Int × Int × Unit) => Option.some (Sum.inr r))
noncomputable def r16_j11 (n : Nat) (x0_j11 : Option (List Int)) : Option (List Int × Int × Unit) :=
  iff
  (eqBl Bool.true Bool.true &&
    (noO x0_j11 || !noO x0_j11 && Nat.beq (List.length (rowsO x0_j11)) (List.length (rowsO x0_j11))))
  (Option.some (iff (noO x0_j11) [] (rowsO x0_j11), Int.ofNat 0, PUnit.unit)) Option.none
noncomputable def r16c (n : Nat) (x0 : List (El t80)) : Option (List Int × Int × Unit) :=
  andThen (r20 n (x0, PUnit.unit)) fun (y1 : ElL (Con.B (r20k n))) =>
  iff (!eqQ y1.1 (Int.ofNat 0)) (Option.some ([], y1.1, PUnit.unit))
    (andThen
      (iterF
        (fun (x : (Unit × List (El t80) × Int × Int × Unit) × (Option (List Int) × Unit) × Unit) =>
          r16_l6 n (Prod.fst (Prod.snd (Prod.fst x))) (Prod.fst (Prod.snd (Prod.snd (Prod.fst x))))
            (Prod.fst (Prod.snd (Prod.snd (Prod.snd (Prod.fst x))))) (Prod.fst (Prod.fst (Prod.snd x))))
        n ((PUnit.unit, x0, Int.ofNat (List.length x0), Int.ofNat 0, PUnit.unit), (Option.none, PUnit.unit), PUnit.unit))
      (sumK fun (x : (Unit × Unit) × (Option (List Int) × Unit) × Unit) => r16_j11 n (Prod.fst (Prod.fst (Prod.snd x)))))
noncomputable def r16 (n : Nat) (a : ElL [t33]) : Option (ElL [t23, t25]) := r16c n (a.1)
noncomputable def r16p : Plan := ⟨[(6, Cut.mk
  [(5, Shp.own 0), (13, Shp.d (Ty.slice t80)), (14, Shp.d (Ty.int Go.IntKind.i64)),
    (15, Shp.d (Ty.int Go.IntKind.i64))]
  [(0, t3, Bool.true)] [] 1)], [(11, Cut.mk [(5, Shp.own 0)] [(0, t3, Bool.true)] [] 1), (10, Cut.mk
  [(5, Shp.own 0), (13, Shp.d (Ty.slice t80)), (14, Shp.d (Ty.int Go.IntKind.i64)),
    (15, Shp.d (Ty.int Go.IntKind.i64))]
  [(0, t3, Bool.true)] [] 1)], []⟩
noncomputable def r16k (n : Nat) : Con := ⟨16, [t33], [t23, t25], r16 n, false, none⟩
theorem r16_ok (n : Nat) : SpecSim Try.prog noG 16 (Con.spec (r16k n)) :=
  lift_ok (tab := [r20k n]) (fn := Try.f16) r16p n mix Tb.tys (Cons.all (.cons (r20_ok n) .nil)) Try.func16 rfl (by kernel_rfl) (fun h => by cases h) (fun ⟨x0, _⟩ => by kernel_rfl)
end L
end Go.Proofs.Ytlhagmgfffigfaa
