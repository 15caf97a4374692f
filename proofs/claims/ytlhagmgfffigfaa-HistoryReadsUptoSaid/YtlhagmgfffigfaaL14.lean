/- Function 14, as a function of data: its own run; its contract. Printed by a program. Conditions: none. -/
import Derived.Test.YtlhagmgfffigfaaTy
import Derived.Test.YtlhagmgfffigfaaL34
import Derived.Test.YtlhagmgfffigfaaL20
set_option maxRecDepth 100000
set_option linter.unusedVariables false
namespace Go.Proofs.Ytlhagmgfffigfaa
open Go Go.Abs
namespace L
noncomputable def r14_j10 (n : Nat) (x0_j10 : List (El t80)) (x1_j10 : Int) (x2_j10 : Int) (x3_j10 : Option (List Int)) (x4_j10 : List (El t80)) : Option
  ((Unit × Unit × List (El t80) × Int × Int × Unit) ×
      (Option (List Int) × Unit) × List (El t80) × Unit ⊕
    (Unit × Unit × Unit) × (Option (List Int) × Unit) × List (El t80) × Unit ⊕ List Int × Int × Unit) :=
  iff
  (Nat.beq 1 1 && eqBl Bool.true Bool.true &&
    (eqBl (noO x3_j10) (noO (iff (noO x3_j10) Option.none (Option.some (rowsO x3_j10)))) &&
      (noO (iff (noO x3_j10) Option.none (Option.some (rowsO x3_j10))) ||
        Nat.beq (List.length (rowsO x3_j10))
          (List.length (rowsO (iff (noO x3_j10) Option.none (Option.some (rowsO x3_j10))))))))
  (Option.some
    (Sum.inl
      ((PUnit.unit, PUnit.unit, x0_j10, x1_j10, wrapQ Go.IntKind.i64 (Int.add x2_j10 (Int.ofNat 1)), PUnit.unit),
        (iff (noO x3_j10) Option.none (Option.some (rowsO x3_j10)), PUnit.unit), x4_j10, PUnit.unit)))
  Option.none
noncomputable def r14_l6 (n : Nat) (x0_l6 : List (El t80)) (x1_l6 : Int) (x2_l6 : Int) (x3_l6 : Option (List Int)) (x4_l6 : List (El t80)) : Option
  ((Unit × Unit × List (El t80) × Int × Int × Unit) ×
      (Option (List Int) × Unit) × List (El t80) × Unit ⊕
    (Unit × Unit × Unit) × (Option (List Int) × Unit) × List (El t80) × Unit ⊕ List Int × Int × Unit) :=
  iff (!leQ x1_l6 x2_l6)
  (andThen
    (andThen (inRange x2_l6 (List.length x0_l6)) fun (j7 : Nat) =>
      andThen (nthQ j7 x0_l6) fun (y8 : El t80) =>
        iff (leQ (Int.ofNat 0) y8.2.2.2.2.2.1)
          (iff (noO x3_l6)
            (Option.some (Sum.inl ((PUnit.unit, PUnit.unit, x0_l6, x1_l6, x2_l6, PUnit.unit), (Option.some [x2_l6], PUnit.unit), x4_l6, PUnit.unit)))
            (iff
              (!noO x3_l6 &&
                (Nat.beq 1 1 && Nat.beq (Nat.add (Nat.mul (List.length (rowsO x3_l6)) 1) 0) (Nat.mul (List.length (rowsO x3_l6)) 1)))
              (iff (Nat.ble (Nat.mul (addN (List.length (rowsO x3_l6)) 1) 9) 1000000000 && Bool.true && Bool.true)
                (iff
                  (Nat.beq 1 1 &&
                    (!noO
                          (Option.some
                            (appE (Prod.fst (Prod.snd (0, t3, Bool.true))) (rowsO x3_l6) [x2_l6])) &&
                      Nat.beq (addN (List.length (rowsO x3_l6)) 1)
                        (List.length
                          (rowsO
                            (Option.some
                              (appE (Prod.fst (Prod.snd (0, t3, Bool.true))) (rowsO x3_l6) [x2_l6]))))))
                  (Option.some
                    (Sum.inl
                      ((PUnit.unit, PUnit.unit, x0_l6, x1_l6, x2_l6, PUnit.unit),
                        (Option.some (appE (Prod.fst (Prod.snd (0, t3, Bool.true))) (rowsO x3_l6) [x2_l6]),
                          PUnit.unit),
                        x4_l6, PUnit.unit)))
                  Option.none)
                Option.none)
              Option.none))
          (iff
            (Nat.beq 1 1 && eqBl Bool.true Bool.true &&
              (eqBl (noO x3_l6) (noO (iff (noO x3_l6) Option.none (Option.some (rowsO x3_l6)))) &&
                (noO (iff (noO x3_l6) Option.none (Option.some (rowsO x3_l6))) ||
                  Nat.beq (List.length (rowsO x3_l6))
                    (List.length (rowsO (iff (noO x3_l6) Option.none (Option.some (rowsO x3_l6))))))))
            (Option.some
              (Sum.inl
                ((PUnit.unit, PUnit.unit, x0_l6, x1_l6, x2_l6, PUnit.unit),
                  (iff (noO x3_l6) Option.none (Option.some (rowsO x3_l6)), PUnit.unit), x4_l6, PUnit.unit)))
            Option.none))
    (sumK
      fun
        (x :
          (Unit × Unit × List (El t80) × Int × Int × Unit) ×
            (Option (List Int) × Unit) × List (El t80) × Unit) =>
      r14_j10 n (Prod.fst (Prod.snd (Prod.snd (Prod.fst x)))) (Prod.fst (Prod.snd (Prod.snd (Prod.snd (Prod.fst x)))))
        (Prod.fst (Prod.snd (Prod.snd (Prod.snd (Prod.snd (Prod.fst x)))))) (Prod.fst (Prod.fst (Prod.snd x))) (Prod.fst (Prod.snd (Prod.snd x)))))
  (andThen
    (iff
      (Nat.beq 1 1 && eqBl Bool.true Bool.true &&
        (eqBl (noO x3_l6) (noO (iff (noO x3_l6) Option.none (Option.some (rowsO x3_l6)))) &&
          (noO (iff (noO x3_l6) Option.none (Option.some (rowsO x3_l6))) ||
            Nat.beq (List.length (rowsO x3_l6))
              (List.length (rowsO (iff (noO x3_l6) Option.none (Option.some (rowsO x3_l6))))))))
      (Option.some
        (Sum.inl
          ((PUnit.unit, PUnit.unit, PUnit.unit), (iff (noO x3_l6) Option.none (Option.some (rowsO x3_l6)), PUnit.unit), x4_l6,
            PUnit.unit)))
      Option.none)
    fun (r : (Unit × Unit × Unit) × (Option (List Int) × Unit) × List (El t80) × Unit ⊕ List Int × Int × Unit) =>
    Option.some (Sum.inr r))
noncomputable def r14_j11 (n : Nat) (x0_j11 : Option (List Int)) (x1_j11 : List (El t80)) : Option (List Int × Int × Unit) :=
  iff (Nat.beq 1 1 && Nat.beq 1 1 && eqBl (noO x0_j11) (noO x0_j11))
  (iff (noO x0_j11 || Nat.beq (List.length (rowsO x0_j11)) (List.length (rowsO x0_j11)))
    (andThen
      (iff (noO x0_j11) (Option.some (rowsO x0_j11))
        (r34 (rowsO x0_j11) (x1_j11, PUnit.unit)))
      fun
        (y16 :
          List
            (El
              (Srt.t
                (Srt.mk t3 35 [t33] r34)))) =>
      iff (noO x0_j11 || Nat.beq (List.length y16) (List.length (rowsO x0_j11)))
        (iff
          (eqBl Bool.true Bool.true &&
            (noO x0_j11 || !noO x0_j11 && Nat.beq (List.length (rowsO x0_j11)) (List.length y16)))
          (Option.some (iff (noO x0_j11) [] y16, Int.ofNat 0, PUnit.unit)) Option.none)
        Option.none)
    Option.none)
  Option.none
noncomputable def r14c (n : Nat) (x0 : List (El t80)) : Option (List Int × Int × Unit) :=
  andThen (r20 n (x0, PUnit.unit)) fun (y1 : ElL (Con.B (r20k n))) =>
  iff (!eqQ y1.1 (Int.ofNat 0)) (Option.some ([], y1.1, PUnit.unit))
    (andThen
      (iterF
        (fun
            (x :
              (Unit × Unit × List (El t80) × Int × Int × Unit) ×
                (Option (List Int) × Unit) × List (El t80) × Unit) =>
          r14_l6 n (Prod.fst (Prod.snd (Prod.snd (Prod.fst x)))) (Prod.fst (Prod.snd (Prod.snd (Prod.snd (Prod.fst x)))))
            (Prod.fst (Prod.snd (Prod.snd (Prod.snd (Prod.snd (Prod.fst x)))))) (Prod.fst (Prod.fst (Prod.snd x))) (Prod.fst (Prod.snd (Prod.snd x))))
        n ((PUnit.unit, PUnit.unit, x0, Int.ofNat (List.length x0), Int.ofNat 0, PUnit.unit), (Option.none, PUnit.unit), x0, PUnit.unit))
      (sumK fun (x : (Unit × Unit × Unit) × (Option (List Int) × Unit) × List (El t80) × Unit) =>
        r14_j11 n (Prod.fst (Prod.fst (Prod.snd x))) (Prod.fst (Prod.snd (Prod.snd x)))))
noncomputable def r14 (n : Nat) (a : ElL [t33]) : Option (ElL [t23, t25]) := r14c n (a.1)
noncomputable def r14p : Plan := ⟨[(6, Cut.mk
  [(1, Shp.at 1 0), (5, Shp.own 0), (13, Shp.d (Ty.slice t80)),
    (14, Shp.d (Ty.int Go.IntKind.i64)), (15, Shp.d (Ty.int Go.IntKind.i64))]
  [(0, t3, Bool.true)] [(1, Shp.d t33)] 2)], [(11, Cut.mk [(1, Shp.at 1 0), (5, Shp.own 0)] [(0, t3, Bool.true)]
  [(1, Shp.d t33)] 2), (10, Cut.mk
  [(1, Shp.at 1 0), (5, Shp.own 0), (13, Shp.d (Ty.slice t80)),
    (14, Shp.d (Ty.int Go.IntKind.i64)), (15, Shp.d (Ty.int Go.IntKind.i64))]
  [(0, t3, Bool.true)] [(1, Shp.d t33)] 2)], []⟩
noncomputable def r14k (n : Nat) : Con := ⟨14, [t33], [t23, t25], r14 n, false, none⟩
theorem r14_ok (n : Nat) : SpecSim Try.prog noG 14 (Con.spec (r14k n)) :=
  lift_ok (tab := [r34k n, r20k n]) (fn := Try.f14) r14p n mix Tb.tys (Cons.all (.cons (r34_ok n) (.cons (r20_ok n) .nil))) Try.func14 rfl (by kernel_rfl) (fun h => by cases h) (fun ⟨x0, _⟩ => by kernel_rfl)
end L
end Go.Proofs.Ytlhagmgfffigfaa
