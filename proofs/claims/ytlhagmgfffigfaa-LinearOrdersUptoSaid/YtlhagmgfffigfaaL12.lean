/- Function 12, as a function of data: its own run; its contract. Printed by a program. Conditions: none. -/
import Derived.Test.YtlhagmgfffigfaaTy
import Derived.Test.YtlhagmgfffigfaaL30
import Derived.Test.YtlhagmgfffigfaaL20
set_option maxRecDepth 100000
set_option linter.unusedVariables false
namespace Go.Proofs.Ytlhagmgfffigfaa
open Go Go.Abs
namespace L
noncomputable def r12_j10 (n : Nat) (x0_j10 : Int) (x1_j10 : List (El t80)) (x2_j10 : Int) (x3_j10 : Int) (x4_j10 : Option (List (El t82))) (x5_j10 : El t80) : Option
  ((Unit × List (El t80) × Int × Int × Unit) ×
      (Option (List (El t82)) × Unit) × Unit ⊕
    (Unit × List (El t80) × Int × Int × Unit) ×
        (Option (List (El t82)) × Unit) × Unit ⊕
      (Unit × Unit) × (Option (List (El t82)) × Unit) × Unit ⊕
        List (El t82) × Int × Unit) :=
  iff (leQ (Int.ofNat 0) x5_j10.2.2.2.2.2.2.2.2.2.1)
  (iff (noO x4_j10)
    (Option.some
      (Sum.inl
        ((PUnit.unit, x1_j10, x2_j10, x3_j10, PUnit.unit), (Option.some [(x5_j10.2.2.2.2.2.2.2.2.2.1, x0_j10, Int.ofNat 2, PUnit.unit)], PUnit.unit),
          PUnit.unit)))
    (iff
      (!noO x4_j10 &&
        (Nat.beq 3 3 && Nat.beq (Nat.add (Nat.mul (List.length (rowsO x4_j10)) 3) 0) (Nat.mul (List.length (rowsO x4_j10)) 3)))
      (iff (Nat.ble (Nat.mul (addN (List.length (rowsO x4_j10)) 1) 25) 1000000000 && Bool.true && Bool.true)
        (iff
          (Nat.beq 3 3 &&
            (!noO
                  (Option.some
                    (appE (Prod.fst (Prod.snd (0, t82, Bool.true))) (rowsO x4_j10)
                      [(x5_j10.2.2.2.2.2.2.2.2.2.1, x0_j10, Int.ofNat 2, PUnit.unit)])) &&
              Nat.beq (addN (List.length (rowsO x4_j10)) 1)
                (List.length
                  (rowsO
                    (Option.some
                      (appE (Prod.fst (Prod.snd (0, t82, Bool.true))) (rowsO x4_j10)
                        [(x5_j10.2.2.2.2.2.2.2.2.2.1, x0_j10, Int.ofNat 2, PUnit.unit)]))))))
          (Option.some
            (Sum.inl
              ((PUnit.unit, x1_j10, x2_j10, x3_j10, PUnit.unit),
                (Option.some
                    (appE (Prod.fst (Prod.snd (0, t82, Bool.true))) (rowsO x4_j10)
                      [(x5_j10.2.2.2.2.2.2.2.2.2.1, x0_j10, Int.ofNat 2, PUnit.unit)]),
                  PUnit.unit),
                PUnit.unit)))
          Option.none)
        Option.none)
      Option.none))
  (iff
    (Nat.beq 3 3 && eqBl Bool.true Bool.true &&
      (eqBl (noO x4_j10) (noO (iff (noO x4_j10) Option.none (Option.some (rowsO x4_j10)))) &&
        (noO (iff (noO x4_j10) Option.none (Option.some (rowsO x4_j10))) ||
          Nat.beq (List.length (rowsO x4_j10))
            (List.length (rowsO (iff (noO x4_j10) Option.none (Option.some (rowsO x4_j10))))))))
    (Option.some
      (Sum.inl
        ((PUnit.unit, x1_j10, x2_j10, x3_j10, PUnit.unit),
          (iff (noO x4_j10) Option.none (Option.some (rowsO x4_j10)), PUnit.unit), PUnit.unit)))
    Option.none)
noncomputable def r12_j12 (n : Nat) (x0_j12 : List (El t80)) (x1_j12 : Int) (x2_j12 : Int) (x3_j12 : Option (List (El t82))) : Option
  ((Unit × List (El t80) × Int × Int × Unit) ×
      (Option (List (El t82)) × Unit) × Unit ⊕
    (Unit × Unit) × (Option (List (El t82)) × Unit) × Unit ⊕
      List (El t82) × Int × Unit) :=
  iff
  (Nat.beq 3 3 && eqBl Bool.true Bool.true &&
    (eqBl (noO x3_j12) (noO (iff (noO x3_j12) Option.none (Option.some (rowsO x3_j12)))) &&
      (noO (iff (noO x3_j12) Option.none (Option.some (rowsO x3_j12))) ||
        Nat.beq (List.length (rowsO x3_j12))
          (List.length (rowsO (iff (noO x3_j12) Option.none (Option.some (rowsO x3_j12))))))))
  (Option.some
    (Sum.inl
      ((PUnit.unit, x0_j12, x1_j12, wrapQ Go.IntKind.i64 (Int.add x2_j12 (Int.ofNat 1)), PUnit.unit),
        (iff (noO x3_j12) Option.none (Option.some (rowsO x3_j12)), PUnit.unit), PUnit.unit)))
  Option.none
noncomputable def r12_l6 (n : Nat) (x0_l6 : List (El t80)) (x1_l6 : Int) (x2_l6 : Int) (x3_l6 : Option (List (El t82))) : Option
  ((Unit × List (El t80) × Int × Int × Unit) ×
      (Option (List (El t82)) × Unit) × Unit ⊕
    (Unit × Unit) × (Option (List (El t82)) × Unit) × Unit ⊕
      List (El t82) × Int × Unit) :=
  iff (!leQ x1_l6 x2_l6)
  (andThen
    (andThen (inRange x2_l6 (List.length x0_l6)) fun (j6 : Nat) =>
      andThen (nthQ j6 x0_l6) fun (y7 : El t80) =>
        andThen
          (iff (leQ (Int.ofNat 0) y7.2.2.2.2.2.2.2.1)
            (iff (noO x3_l6)
              (Option.some
                (Sum.inl
                  ((PUnit.unit, x2_l6, PUnit.unit, x0_l6, x1_l6, x2_l6, PUnit.unit),
                    (Option.some [(y7.2.2.2.2.2.2.2.1, x2_l6, Int.ofNat 1, PUnit.unit)], PUnit.unit), y7, PUnit.unit)))
              (iff
                (!noO x3_l6 &&
                  (Nat.beq 3 3 && Nat.beq (Nat.add (Nat.mul (List.length (rowsO x3_l6)) 3) 0) (Nat.mul (List.length (rowsO x3_l6)) 3)))
                (iff (Nat.ble (Nat.mul (addN (List.length (rowsO x3_l6)) 1) 25) 1000000000 && Bool.true && Bool.true)
                  (iff
                    (Nat.beq 3 3 &&
                      (!noO
                            (Option.some
                              (appE (Prod.fst (Prod.snd (0, t82, Bool.true))) (rowsO x3_l6)
                                [(y7.2.2.2.2.2.2.2.1, x2_l6, Int.ofNat 1, PUnit.unit)])) &&
                        Nat.beq (addN (List.length (rowsO x3_l6)) 1)
                          (List.length
                            (rowsO
                              (Option.some
                                (appE (Prod.fst (Prod.snd (0, t82, Bool.true))) (rowsO x3_l6)
                                  [(y7.2.2.2.2.2.2.2.1, x2_l6, Int.ofNat 1, PUnit.unit)]))))))
                    (Option.some
                      (Sum.inl
                        ((PUnit.unit, x2_l6, PUnit.unit, x0_l6, x1_l6, x2_l6, PUnit.unit),
                          (Option.some
                              (appE (Prod.fst (Prod.snd (0, t82, Bool.true))) (rowsO x3_l6)
                                [(y7.2.2.2.2.2.2.2.1, x2_l6, Int.ofNat 1, PUnit.unit)]),
                            PUnit.unit),
                          y7, PUnit.unit)))
                    Option.none)
                  Option.none)
                Option.none))
            (iff
              (Nat.beq 3 3 && eqBl Bool.true Bool.true &&
                (eqBl (noO x3_l6) (noO (iff (noO x3_l6) Option.none (Option.some (rowsO x3_l6)))) &&
                  (noO (iff (noO x3_l6) Option.none (Option.some (rowsO x3_l6))) ||
                    Nat.beq (List.length (rowsO x3_l6))
                      (List.length (rowsO (iff (noO x3_l6) Option.none (Option.some (rowsO x3_l6))))))))
              (Option.some
                (Sum.inl
                  ((PUnit.unit, x2_l6, PUnit.unit, x0_l6, x1_l6, x2_l6, PUnit.unit),
                    (iff (noO x3_l6) Option.none (Option.some (rowsO x3_l6)), PUnit.unit), y7, PUnit.unit)))
              Option.none))
          (sumK
            fun
              (x :
                (Unit × Int × Unit × List (El t80) × Int × Int × Unit) ×
                  (Option (List (El t82)) × Unit) × El t80 × Unit) =>
            r12_j10 n (Prod.fst (Prod.snd (Prod.fst x))) (Prod.fst (Prod.snd (Prod.snd (Prod.snd (Prod.fst x)))))
              (Prod.fst (Prod.snd (Prod.snd (Prod.snd (Prod.snd (Prod.fst x))))))
              (Prod.fst (Prod.snd (Prod.snd (Prod.snd (Prod.snd (Prod.snd (Prod.fst x))))))) (Prod.fst (Prod.fst (Prod.snd x)))
              (Prod.fst (Prod.snd (Prod.snd x)))))
    (sumK
      fun
        (x :
          (Unit × List (El t80) × Int × Int × Unit) ×
            (Option (List (El t82)) × Unit) × Unit) =>
      r12_j12 n (Prod.fst (Prod.snd (Prod.fst x))) (Prod.fst (Prod.snd (Prod.snd (Prod.fst x))))
        (Prod.fst (Prod.snd (Prod.snd (Prod.snd (Prod.fst x))))) (Prod.fst (Prod.fst (Prod.snd x)))))
  (andThen
    (iff
      (Nat.beq 3 3 && eqBl Bool.true Bool.true &&
        (eqBl (noO x3_l6) (noO (iff (noO x3_l6) Option.none (Option.some (rowsO x3_l6)))) &&
          (noO (iff (noO x3_l6) Option.none (Option.some (rowsO x3_l6))) ||
            Nat.beq (List.length (rowsO x3_l6))
              (List.length (rowsO (iff (noO x3_l6) Option.none (Option.some (rowsO x3_l6))))))))
      (Option.some
        (Sum.inl ((PUnit.unit, PUnit.unit), (iff (noO x3_l6) Option.none (Option.some (rowsO x3_l6)), PUnit.unit), PUnit.unit)))
      Option.none)
    fun
      (r :
        (Unit × Unit) × (Option (List (El t82)) × Unit) × Unit ⊕
          List (El t82) × Int × Unit) =>
    Option.some (Sum.inr r))
noncomputable def r12_j13 (n : Nat) (x0_j13 : Option (List (El t82))) : Option (List (El t82) × Int × Unit) :=
  iff (Nat.beq 3 3 && Nat.beq 3 3 && eqBl (noO x0_j13) (noO x0_j13))
  (iff (noO x0_j13 || Nat.beq (List.length (rowsO x0_j13)) (List.length (rowsO x0_j13)))
    (andThen
      (iff (noO x0_j13) (Option.some (rowsO x0_j13)) (r30 (rowsO x0_j13) PUnit.unit))
      fun (y19 : List (El (Srt.t (Srt.mk t82 31 [] r30)))) =>
      iff (noO x0_j13 || Nat.beq (List.length y19) (List.length (rowsO x0_j13)))
        (iff
          (eqBl Bool.true Bool.true &&
            (noO x0_j13 || !noO x0_j13 && Nat.beq (List.length (rowsO x0_j13)) (List.length y19)))
          (Option.some (iff (noO x0_j13) [] y19, Int.ofNat 0, PUnit.unit)) Option.none)
        Option.none)
    Option.none)
  Option.none
noncomputable def r12c (n : Nat) (x0 : List (El t80)) : Option (List (El t82) × Int × Unit) :=
  andThen (r20 n (x0, PUnit.unit)) fun (y1 : ElL (Con.B (r20k n))) =>
  iff (!eqQ y1.1 (Int.ofNat 0)) (Option.some ([], y1.1, PUnit.unit))
    (andThen
      (iterF
        (fun
            (x :
              (Unit × List (El t80) × Int × Int × Unit) ×
                (Option (List (El t82)) × Unit) × Unit) =>
          r12_l6 n (Prod.fst (Prod.snd (Prod.fst x))) (Prod.fst (Prod.snd (Prod.snd (Prod.fst x))))
            (Prod.fst (Prod.snd (Prod.snd (Prod.snd (Prod.fst x))))) (Prod.fst (Prod.fst (Prod.snd x))))
        n ((PUnit.unit, x0, Int.ofNat (List.length x0), Int.ofNat 0, PUnit.unit), (Option.none, PUnit.unit), PUnit.unit))
      (sumK fun (x : (Unit × Unit) × (Option (List (El t82)) × Unit) × Unit) =>
        r12_j13 n (Prod.fst (Prod.fst (Prod.snd x)))))
noncomputable def r12 (n : Nat) (a : ElL [t33]) : Option (ElL [t36, t25]) := r12c n (a.1)
noncomputable def r12p : Plan := ⟨[(6, Cut.mk
  [(5, Shp.own 0), (13, Shp.d (Ty.slice t80)), (14, Shp.d (Ty.int Go.IntKind.i64)),
    (15, Shp.d (Ty.int Go.IntKind.i64))]
  [(0, t82, Bool.true)] [] 1)], [(13, Cut.mk [(5, Shp.own 0)] [(0, t82, Bool.true)] [] 1), (12, Cut.mk
  [(5, Shp.own 0), (13, Shp.d (Ty.slice t80)), (14, Shp.d (Ty.int Go.IntKind.i64)),
    (15, Shp.d (Ty.int Go.IntKind.i64))]
  [(0, t82, Bool.true)] [] 1), (10, Cut.mk
  [(5, Shp.own 0), (6, Shp.d (Ty.int Go.IntKind.i64)), (7, Shp.at 1 0),
    (13, Shp.d (Ty.slice t80)), (14, Shp.d (Ty.int Go.IntKind.i64)),
    (15, Shp.d (Ty.int Go.IntKind.i64))]
  [(0, t82, Bool.true)] [(1, Shp.d t80)] 2)], []⟩
noncomputable def r12k (n : Nat) : Con := ⟨12, [t33], [t36, t25], r12 n, false, none⟩
theorem r12_ok (n : Nat) : SpecSim Try.prog noG 12 (Con.spec (r12k n)) :=
  lift_ok (tab := [r30k n, r20k n]) (fn := Try.f12) r12p n mix Tb.tys (Cons.all (.cons (r30_ok n) (.cons (r20_ok n) .nil))) Try.func12 rfl (by kernel_rfl) (fun h => by cases h) (fun ⟨x0, _⟩ => by kernel_rfl)
end L
end Go.Proofs.Ytlhagmgfffigfaa
