/- Function 15, as a function of data: its own run; its contract. Printed by a program. Conditions: none. -/
import Derived.Test.YtlhagmgfffigfaaTy
import Derived.Test.YtlhagmgfffigfaaL21
set_option maxRecDepth 100000
set_option linter.unusedVariables false
namespace Go.Proofs.Ytlhagmgfffigfaa
open Go Go.Abs
namespace L
noncomputable def r15_l9 (n : Nat) (x0_l9 : List (El t80)) (x1_l9 : List Int) (x2_l9 : Int) (x3_l9 : Int) : Option
  ((List (El t80) × List Int × Int × Int × Unit) × Unit × Unit ⊕
    (List (El t80) × List Int × Int × Int × Unit) × Unit × Unit ⊕
      (List (El t80) × List Int × Int × Unit) × Unit × Unit ⊕
        (List (El t80) × List Int × Int × Unit) × Unit × Unit ⊕
          (List Int × Unit) × Unit × Unit ⊕ List Int × Int × Unit) :=
  iff (!leQ x3_l9 (Int.ofNat 0))
  (andThen (inRange (wrapQ Go.IntKind.i64 (Int.sub x3_l9 (Int.ofNat 1))) (List.length x1_l9)) fun (j12 : Nat) =>
    andThen (nthQ j12 x1_l9) fun (y13 : Int) =>
      andThen (inRange y13 (List.length x0_l9)) fun (j14 : Nat) =>
        andThen (nthQ j14 x0_l9) fun (y15 : El t80) =>
          andThen (inRange x2_l9 (List.length x0_l9)) fun (j16 : Nat) =>
            andThen (nthQ j16 x0_l9) fun (y17 : El t80) =>
              iff (!leQ y15.2.2.2.2.2.1 y17.2.2.2.2.2.1)
                (Option.some
                  (Sum.inl ((x0_l9, x1_l9, x2_l9, wrapQ Go.IntKind.i64 (Int.sub x3_l9 (Int.ofNat 1)), PUnit.unit), PUnit.unit, PUnit.unit)))
                (Option.some (Sum.inr (Sum.inl ((x0_l9, x1_l9, x2_l9, x3_l9, PUnit.unit), PUnit.unit, PUnit.unit)))))
  (Option.some (Sum.inr (Sum.inl ((x0_l9, x1_l9, x2_l9, x3_l9, PUnit.unit), PUnit.unit, PUnit.unit))))
noncomputable def r15_j11 (n : Nat) (x0_j11 : List (El t80)) (x1_j11 : List Int) (x2_j11 : Int) (x3_j11 : Int) : Option
  ((List (El t80) × List Int × Int × Unit) × Unit × Unit ⊕
    (List (El t80) × List Int × Int × Unit) × Unit × Unit ⊕
      (List Int × Unit) × Unit × Unit ⊕ List Int × Int × Unit) :=
  andThen (upTo x3_j11 (List.length x1_j11)) fun (j22 : Nat) =>
  iff (isZ (List.length (cutL 0 j22 x1_j11)))
    (andThen (upTo x3_j11 (List.length x1_j11)) fun (j23 : Nat) =>
      iff (isZ (List.length (cutL j23 (List.length x1_j11) x1_j11)))
        (Option.some (Sum.inl ((x0_j11, [x2_j11], x2_j11, PUnit.unit), PUnit.unit, PUnit.unit)))
        (iff
          (Nat.ble (Nat.mul (addN 1 (List.length (cutL j23 (List.length x1_j11) x1_j11))) 9) 1000000000 && Bool.true && Bool.true)
          (iff
            (Nat.beq (addN 1 (List.length (cutL j23 (List.length x1_j11) x1_j11)))
              (List.length (x2_j11 :: cutL j23 (List.length x1_j11) x1_j11)))
            (Option.some (Sum.inl ((x0_j11, x2_j11 :: cutL j23 (List.length x1_j11) x1_j11, x2_j11, PUnit.unit), PUnit.unit, PUnit.unit)))
            Option.none)
          Option.none))
    (iff (Nat.ble (Nat.mul (addN 0 (List.length (cutL 0 j22 x1_j11))) 9) 1000000000 && Bool.true && Bool.true)
      (iff
        (Nat.beq 1 1 &&
          (Nat.beq 1 1 &&
            Nat.beq (Nat.add (Nat.mul (List.length (cutL 0 j22 x1_j11)) 1) 0)
              (Nat.mul (addN 0 (List.length (cutL 0 j22 x1_j11))) 1)))
        (iff
          (Nat.ble (Nat.mul (addN (addN 0 (List.length (cutL 0 j22 x1_j11))) 1) 9) 1000000000 && Bool.true && Bool.true)
          (andThen (upTo x3_j11 (List.length x1_j11)) fun (j24 : Nat) =>
            iff
              (Nat.beq 1 1 &&
                (Nat.beq 1 1 &&
                  Nat.beq (Nat.add (Nat.mul (List.length (cutL 0 j22 x1_j11)) 1) (Nat.add 1 0))
                    (Nat.mul (addN (addN 0 (List.length (cutL 0 j22 x1_j11))) 1) 1)))
              (iff (isZ (List.length (cutL j24 (List.length x1_j11) x1_j11)))
                (iff
                  (Nat.beq (addN (addN 0 (List.length (cutL 0 j22 x1_j11))) 1)
                    (List.length (appE t3 (cutL 0 j22 x1_j11) [x2_j11])))
                  (Option.some
                    (Sum.inl
                      ((x0_j11, appE t3 (cutL 0 j22 x1_j11) [x2_j11], x2_j11, PUnit.unit), PUnit.unit,
                        PUnit.unit)))
                  Option.none)
                (iff
                  (Nat.ble
                        (Nat.mul
                          (addN (addN (addN 0 (List.length (cutL 0 j22 x1_j11))) 1)
                            (List.length (cutL j24 (List.length x1_j11) x1_j11)))
                          9)
                        1000000000 &&
                      Bool.true &&
                    Bool.true)
                  (iff
                    (Nat.beq
                      (addN (addN (addN 0 (List.length (cutL 0 j22 x1_j11))) 1)
                        (List.length (cutL j24 (List.length x1_j11) x1_j11)))
                      (List.length
                        (appE t3 (cutL 0 j22 x1_j11)
                          (x2_j11 :: cutL j24 (List.length x1_j11) x1_j11))))
                    (Option.some
                      (Sum.inl
                        ((x0_j11,
                            appE t3 (cutL 0 j22 x1_j11)
                              (x2_j11 :: cutL j24 (List.length x1_j11) x1_j11),
                            x2_j11, PUnit.unit),
                          PUnit.unit, PUnit.unit)))
                    Option.none)
                  Option.none))
              Option.none)
          Option.none)
        Option.none)
      Option.none)
noncomputable def r15_j6 (n : Nat) (x0_j6 : List (El t80)) (x1_j6 : List Int) (x2_j6 : Int) : Option
  ((List (El t80) × List Int × Int × Unit) × Unit × Unit ⊕
    (List Int × Unit) × Unit × Unit ⊕ List Int × Int × Unit) :=
  Option.some (Sum.inl ((x0_j6, x1_j6, wrapQ Go.IntKind.i64 (Int.add x2_j6 (Int.ofNat 1)), PUnit.unit), PUnit.unit, PUnit.unit))
noncomputable def r15_l5 (n : Nat) (x0_l5 : List (El t80)) (x1_l5 : List Int) (x2_l5 : Int) : Option
  ((List (El t80) × List Int × Int × Unit) × Unit × Unit ⊕
    (List Int × Unit) × Unit × Unit ⊕ List Int × Int × Unit) :=
  iff (!leQ (Int.ofNat (List.length x0_l5)) x2_l5)
  (andThen
    (andThen (inRange x2_l5 (List.length x0_l5)) fun (j6 : Nat) =>
      andThen (nthQ j6 x0_l5) fun (y7 : El t80) =>
        iff (!leQ (Int.ofNat 0) y7.2.2.2.2.2.1) (Option.some (Sum.inl ((x0_l5, x1_l5, x2_l5, PUnit.unit), PUnit.unit, PUnit.unit)))
          (andThen
            (iterF
              (fun (x : (List (El t80) × List Int × Int × Int × Unit) × Unit × Unit) =>
                r15_l9 n (Prod.fst (Prod.fst x)) (Prod.fst (Prod.snd (Prod.fst x))) (Prod.fst (Prod.snd (Prod.snd (Prod.fst x))))
                  (Prod.fst (Prod.snd (Prod.snd (Prod.snd (Prod.fst x))))))
              n ((x0_l5, x1_l5, x2_l5, Int.ofNat (List.length x1_l5), PUnit.unit), PUnit.unit, PUnit.unit))
            (sumK fun (x : (List (El t80) × List Int × Int × Int × Unit) × Unit × Unit) =>
              r15_j11 n (Prod.fst (Prod.fst x)) (Prod.fst (Prod.snd (Prod.fst x))) (Prod.fst (Prod.snd (Prod.snd (Prod.fst x))))
                (Prod.fst (Prod.snd (Prod.snd (Prod.snd (Prod.fst x))))))))
    (sumK fun (x : (List (El t80) × List Int × Int × Unit) × Unit × Unit) =>
      r15_j6 n (Prod.fst (Prod.fst x)) (Prod.fst (Prod.snd (Prod.fst x))) (Prod.fst (Prod.snd (Prod.snd (Prod.fst x))))))
  (Option.some (Sum.inr (Sum.inl ((x1_l5, PUnit.unit), PUnit.unit, PUnit.unit))))
noncomputable def r15_j12 (n : Nat) (x0_j12 : List Int) : Option (List Int × Int × Unit) :=
  Option.some (x0_j12, Int.ofNat 0, PUnit.unit)
noncomputable def r15c (n : Nat) (x0 : List (El t80)) : Option (List Int × Int × Unit) :=
  andThen (r21 n (x0, PUnit.unit)) fun (y1 : ElL (Con.B (r21k n))) =>
  iff (!eqQ y1.1 (Int.ofNat 0))
    (andThen (r21 n (x0, PUnit.unit))
      fun (y2 : ElL (Con.B (r21k n))) => Option.some ([], y2.1, PUnit.unit))
    (andThen
      (iterF
        (fun (x : (List (El t80) × List Int × Int × Unit) × Unit × Unit) =>
          r15_l5 n (Prod.fst (Prod.fst x)) (Prod.fst (Prod.snd (Prod.fst x))) (Prod.fst (Prod.snd (Prod.snd (Prod.fst x)))))
        n ((x0, [], Int.ofNat 0, PUnit.unit), PUnit.unit, PUnit.unit))
      (sumK fun (x : (List Int × Unit) × Unit × Unit) => r15_j12 n (Prod.fst (Prod.fst x))))
noncomputable def r15 (n : Nat) (a : ElL [t33]) : Option (ElL [t23, t3]) := r15c n (a.1)
noncomputable def r15p : Plan := ⟨[(5, Cut.mk
  [(0, Shp.d (Ty.slice t80)), (4, Shp.d (Ty.slice t3)),
    (5, Shp.d (Ty.int Go.IntKind.i64))]
  [] [] 0), (9, Cut.mk
  [(0, Shp.d (Ty.slice t80)), (4, Shp.d (Ty.slice t3)),
    (5, Shp.d (Ty.int Go.IntKind.i64)), (6, Shp.d (Ty.int Go.IntKind.i64))]
  [] [] 0)], [(12, Cut.mk [(4, Shp.d (Ty.slice t3))] [] [] 0), (6, Cut.mk
  [(0, Shp.d (Ty.slice t80)), (4, Shp.d (Ty.slice t3)),
    (5, Shp.d (Ty.int Go.IntKind.i64))]
  [] [] 0), (11, Cut.mk
  [(0, Shp.d (Ty.slice t80)), (4, Shp.d (Ty.slice t3)),
    (5, Shp.d (Ty.int Go.IntKind.i64)), (6, Shp.d (Ty.int Go.IntKind.i64))]
  [] [] 0)], []⟩
noncomputable def r15k (n : Nat) : Con := ⟨15, [t33], [t23, t3], r15 n, false, none⟩
theorem r15_ok (n : Nat) : SpecSim Try.prog noG 15 (Con.spec (r15k n)) :=
  lift_ok (tab := [r21k n]) (fn := Try.f15) r15p n mix Tb.tys (Cons.all (.cons (r21_ok n) .nil)) Try.func15 rfl (by kernel_rfl) (fun h => by cases h) (fun ⟨x0, _⟩ => by kernel_rfl)
end L
end Go.Proofs.Ytlhagmgfffigfaa
