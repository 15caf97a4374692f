/- Function 21, as a function of data: its own run; its contract. Printed by a program. Conditions: none. -/
import Derived.Test.YtlhagmgfffigfaaTy
import Derived.Test.YtlhagmgfffigfaaL33
import Derived.Test.YtlhagmgfffigfaaL39
import Derived.Test.YtlhagmgfffigfaaL38
set_option maxRecDepth 100000
set_option linter.unusedVariables false
namespace Go.Proofs.Ytlhagmgfffigfaa
open Go Go.Abs
namespace L
noncomputable def r21_j7 (n : Nat) (x0_j7 : List (El t80)) (x1_j7 : Int) (x2_j7 : Bool) : Option
  ((List (El t80) × Int × Unit) × Unit × Unit ⊕
    (List (El t80) × Unit) × Unit × Unit ⊕ Int × Unit) :=
  iff x2_j7 (Option.some (Sum.inr (Sum.inr (Int.ofNat 8, PUnit.unit))))
  (Option.some (Sum.inl ((x0_j7, wrapQ Go.IntKind.i64 (Int.add x1_j7 (Int.ofNat 1)), PUnit.unit), PUnit.unit, PUnit.unit)))
noncomputable def r21_l4 (n : Nat) (x0_l4 : List (El t80)) (x1_l4 : Int) : Option
  ((List (El t80) × Int × Unit) × Unit × Unit ⊕
    (List (El t80) × Unit) × Unit × Unit ⊕ Int × Unit) :=
  iff (!leQ (Int.ofNat (List.length x0_l4)) x1_l4)
  (andThen
    (andThen (inRange x1_l4 (List.length x0_l4)) fun (j3 : Nat) =>
      andThen (nthQ j3 x0_l4) fun (y4 : El t80) =>
        andThen (r38 n (y4, PUnit.unit))
          fun (y5 : ElL (Con.B (r38k n))) =>
          iff (!y5.1) (Option.some (Sum.inl ((x0_l4, x1_l4, Bool.true, PUnit.unit), PUnit.unit, PUnit.unit)))
            (iff (!leQ x1_l4 (Int.ofNat 0))
              (andThen (inRange (wrapQ Go.IntKind.i64 (Int.sub x1_l4 (Int.ofNat 1))) (List.length x0_l4)) fun (j6 : Nat) =>
                andThen (nthQ j6 x0_l4) fun (y7 : El t80) =>
                  andThen (inRange x1_l4 (List.length x0_l4)) fun (j8 : Nat) =>
                    andThen (nthQ j8 x0_l4) fun (y9 : El t80) =>
                      iff (leQ y9.2.2.2.2.2.2.1 y7.2.2.2.2.2.2.1)
                        (Option.some (Sum.inl ((x0_l4, x1_l4, Bool.true, PUnit.unit), PUnit.unit, PUnit.unit)))
                        (andThen (inRange x1_l4 (List.length x0_l4)) fun (j10 : Nat) =>
                          andThen (nthQ j10 x0_l4) fun (y11 : El t80) =>
                            iff (leQ (Int.ofNat 0) y11.2.2.2.2.2.1)
                              (andThen (inRange x1_l4 (List.length x0_l4)) fun (j12 : Nat) =>
                                andThen (nthQ j12 x0_l4) fun (y13 : El t80) =>
                                  andThen (r39 n (x0_l4, y13.2.2.2.2.2.1, PUnit.unit))
                                    fun (y14 : ElL (Con.B (r39k n))) =>
                                    Option.some (Sum.inl ((x0_l4, x1_l4, !eqQ y14.1 x1_l4, PUnit.unit), PUnit.unit, PUnit.unit)))
                              (Option.some (Sum.inl ((x0_l4, x1_l4, Bool.false, PUnit.unit), PUnit.unit, PUnit.unit)))))
              (andThen (inRange x1_l4 (List.length x0_l4)) fun (j15 : Nat) =>
                andThen (nthQ j15 x0_l4) fun (y16 : El t80) =>
                  iff (leQ (Int.ofNat 0) y16.2.2.2.2.2.1)
                    (andThen (inRange x1_l4 (List.length x0_l4)) fun (j17 : Nat) =>
                      andThen (nthQ j17 x0_l4) fun (y18 : El t80) =>
                        andThen (r39 n (x0_l4, y18.2.2.2.2.2.1, PUnit.unit))
                          fun (y19 : ElL (Con.B (r39k n))) =>
                          Option.some (Sum.inl ((x0_l4, x1_l4, !eqQ y19.1 x1_l4, PUnit.unit), PUnit.unit, PUnit.unit)))
                    (Option.some (Sum.inl ((x0_l4, x1_l4, Bool.false, PUnit.unit), PUnit.unit, PUnit.unit))))))
    (sumK fun (x : (List (El t80) × Int × Bool × Unit) × Unit × Unit) =>
      r21_j7 n (Prod.fst (Prod.fst x)) (Prod.fst (Prod.snd (Prod.fst x))) (Prod.fst (Prod.snd (Prod.snd (Prod.fst x))))))
  (Option.some (Sum.inr (Sum.inl ((x0_l4, PUnit.unit), PUnit.unit, PUnit.unit))))
noncomputable def r21_l10 (n : Nat) (x0_l10 : List (El t82)) (x1_l10 : Int) : Option ((List (El t82) × Int × Unit) × Unit × Unit ⊕ Unit × Unit × Unit ⊕ Int × Unit) :=
  iff (!leQ (Int.ofNat (List.length x0_l10)) x1_l10)
  (andThen (inRange (wrapQ Go.IntKind.i64 (Int.sub x1_l10 (Int.ofNat 1))) (List.length x0_l10)) fun (j27 : Nat) =>
    andThen (nthQ j27 x0_l10) fun (y28 : El t82) =>
      andThen (inRange x1_l10 (List.length x0_l10)) fun (j29 : Nat) =>
        andThen (nthQ j29 x0_l10) fun (y30 : El t82) =>
          iff (eqQ y28.1 y30.1) (Option.some (Sum.inr (Sum.inr (Int.ofNat 8, PUnit.unit))))
            (Option.some (Sum.inl ((x0_l10, wrapQ Go.IntKind.i64 (Int.add x1_l10 (Int.ofNat 1)), PUnit.unit), PUnit.unit, PUnit.unit))))
  (Option.some (Sum.inr (Sum.inl (PUnit.unit, PUnit.unit, PUnit.unit))))
noncomputable def r21_j14 (n : Nat) : Option (Int × Unit) :=
  Option.some (Int.ofNat 0, PUnit.unit)
noncomputable def r21_j8 (n : Nat) (x0_j8 : List (El t80)) : Option (Int × Unit) :=
  andThen (r33 n (x0_j8, PUnit.unit)) fun (y24 : ElL (Con.B (r33k n))) =>
  andThen
    (iterF
      (fun (x : (List (El t82) × Int × Unit) × Unit × Unit) =>
        r21_l10 n (Prod.fst (Prod.fst x)) (Prod.fst (Prod.snd (Prod.fst x))))
      n ((y24.1, Int.ofNat 1, PUnit.unit), PUnit.unit, PUnit.unit))
    (sumK fun (x : Unit × Unit × Unit) => r21_j14 n)
noncomputable def r21c (n : Nat) (x0 : List (El t80)) : Option (Int × Unit) :=
  iff (!leQ (Int.ofNat (List.length x0)) (Int.ofNat 120)) (Option.some (Int.ofNat 4, PUnit.unit))
  (andThen
    (iterF
      (fun (x : (List (El t80) × Int × Unit) × Unit × Unit) =>
        r21_l4 n (Prod.fst (Prod.fst x)) (Prod.fst (Prod.snd (Prod.fst x))))
      n ((x0, Int.ofNat 0, PUnit.unit), PUnit.unit, PUnit.unit))
    (sumK fun (x : (List (El t80) × Unit) × Unit × Unit) => r21_j8 n (Prod.fst (Prod.fst x))))
noncomputable def r21 (n : Nat) (a : ElL [t33]) : Option (ElL [t3]) := r21c n (a.1)
noncomputable def r21p : Plan := ⟨[(4, Cut.mk [(0, Shp.d (Ty.slice t80)), (3, Shp.d (Ty.int Go.IntKind.i64))] [] [] 0), (10, Cut.mk [(4, Shp.d (Ty.slice t82)), (5, Shp.d (Ty.int Go.IntKind.i64))] [] [] 0)], [(8, Cut.mk [(0, Shp.d (Ty.slice t80))] [] [] 0), (7, Cut.mk
  [(0, Shp.d (Ty.slice t80)), (3, Shp.d (Ty.int Go.IntKind.i64)),
    (57, Shp.d Ty.bool)]
  [] [] 0), (14, Cut.mk [] [] [] 0)], []⟩
noncomputable def r21k (n : Nat) : Con := ⟨21, [t33], [t3], r21 n, false, none⟩
theorem r21_ok (n : Nat) : SpecSim Try.prog noG 21 (Con.spec (r21k n)) :=
  lift_ok (tab := [r33k n, r39k n, r38k n]) (fn := Try.f21) r21p n mix Tb.tys (Cons.all (.cons (r33_ok n) (.cons (r39_ok n) (.cons (r38_ok n) .nil)))) Try.func21 rfl (by kernel_rfl) (fun h => by cases h) (fun ⟨x0, _⟩ => by kernel_rfl)
end L
end Go.Proofs.Ytlhagmgfffigfaa
