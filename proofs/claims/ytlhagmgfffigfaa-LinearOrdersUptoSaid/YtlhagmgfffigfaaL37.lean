/- Function 37, as a function of data: its own run; its contract. Printed by a program. Conditions: none. -/
import Derived.Test.YtlhagmgfffigfaaTy
import Derived.Test.YtlhagmgfffigfaaL49
set_option maxRecDepth 100000
set_option linter.unusedVariables false
namespace Go.Proofs.Ytlhagmgfffigfaa
open Go Go.Abs
namespace L
noncomputable def r37_j8 (n : Nat) (x0_j8 : Int) (x1_j8 : Int) (x2_j8 : List Int) (x3_j8 : Int) (x4_j8 : Int) (x5_j8 : Bool) (x6_j8 : El t80) : Option
  ((Unit × Int × List Int × Int × Int × Unit) × Unit × El t80 × Unit ⊕
    (Unit × Int × Unit) × Unit × El t80 × Unit ⊕ Bool × Unit) :=
  iff x5_j8 (Option.some (Sum.inr (Sum.inr (Bool.false, PUnit.unit))))
  (Option.some
    (Sum.inl
      ((PUnit.unit, iff (leQ x1_j8 x0_j8) x0_j8 x1_j8, x2_j8, x3_j8, wrapQ Go.IntKind.i64 (Int.add x4_j8 (Int.ofNat 1)),
          PUnit.unit),
        PUnit.unit, x6_j8, PUnit.unit)))
noncomputable def r37_l5 (n : Nat) (x0_l5 : Int) (x1_l5 : List Int) (x2_l5 : Int) (x3_l5 : Int) (x4_l5 : El t80) : Option
  ((Unit × Int × List Int × Int × Int × Unit) × Unit × El t80 × Unit ⊕
    (Unit × Int × Unit) × Unit × El t80 × Unit ⊕ Bool × Unit) :=
  iff (!leQ x2_l5 x3_l5)
  (andThen (inRange x3_l5 (List.length x1_l5)) fun (j8 : Nat) =>
    andThen (nthQ j8 x1_l5) fun (y9 : Int) =>
      andThen
        (andThen (r49 n (y9, x4_l5.2.2.2.2.2.2.1, PUnit.unit))
          fun (y10 : ElL (Con.B (r49k n))) =>
          iff (!y10.1)
            (Option.some (Sum.inl ((PUnit.unit, x0_l5, y9, x1_l5, x2_l5, x3_l5, Bool.true, PUnit.unit), PUnit.unit, x4_l5, PUnit.unit)))
            (iff (leQ (Int.ofNat 0) y9)
              (Option.some (Sum.inl ((PUnit.unit, x0_l5, y9, x1_l5, x2_l5, x3_l5, leQ y9 x0_l5, PUnit.unit), PUnit.unit, x4_l5, PUnit.unit)))
              (Option.some (Sum.inl ((PUnit.unit, x0_l5, y9, x1_l5, x2_l5, x3_l5, Bool.false, PUnit.unit), PUnit.unit, x4_l5, PUnit.unit)))))
        (sumK fun (x : (Unit × Int × Int × List Int × Int × Int × Bool × Unit) × Unit × El t80 × Unit) =>
          r37_j8 n (Prod.fst (Prod.snd (Prod.fst x))) (Prod.fst (Prod.snd (Prod.snd (Prod.fst x))))
            (Prod.fst (Prod.snd (Prod.snd (Prod.snd (Prod.fst x))))) (Prod.fst (Prod.snd (Prod.snd (Prod.snd (Prod.snd (Prod.fst x))))))
            (Prod.fst (Prod.snd (Prod.snd (Prod.snd (Prod.snd (Prod.snd (Prod.fst x)))))))
            (Prod.fst (Prod.snd (Prod.snd (Prod.snd (Prod.snd (Prod.snd (Prod.snd (Prod.fst x)))))))) (Prod.fst (Prod.snd (Prod.snd x)))))
  (Option.some (Sum.inr (Sum.inl ((PUnit.unit, x0_l5, PUnit.unit), PUnit.unit, x4_l5, PUnit.unit))))
noncomputable def r37_j11 (n : Nat) (x0_j11 : Int) (x1_j11 : El t80) : Option (Bool × Unit) :=
  andThen (r49 n (x1_j11.2.2.2.2.2.2.2.2.2.2.1, x1_j11.2.2.2.2.2.2.1, PUnit.unit))
  fun (y20 : ElL (Con.B (r49k n))) =>
  iff y20.1
    (iff (eqQ x1_j11.2.2.2.2.2.2.2.2.2.2.1 (Int.negSucc 0)) (Option.some (Bool.true, PUnit.unit))
      (Option.some (leQ x0_j11 x1_j11.2.2.2.2.2.2.2.2.2.2.1, PUnit.unit)))
    (Option.some (Bool.false, PUnit.unit))
noncomputable def r37_j2 (n : Nat) (x0_j2 : Bool) (x1_j2 : El t80) : Option (Bool × Unit) :=
  iff x0_j2 (Option.some (Bool.false, PUnit.unit))
  (andThen
    (iterF
      (fun (x : (Unit × Int × List Int × Int × Int × Unit) × Unit × El t80 × Unit) =>
        r37_l5 n (Prod.fst (Prod.snd (Prod.fst x))) (Prod.fst (Prod.snd (Prod.snd (Prod.fst x))))
          (Prod.fst (Prod.snd (Prod.snd (Prod.snd (Prod.fst x))))) (Prod.fst (Prod.snd (Prod.snd (Prod.snd (Prod.snd (Prod.fst x))))))
          (Prod.fst (Prod.snd (Prod.snd x))))
      n
      ((PUnit.unit, Int.negSucc 0, [x1_j2.2.2.2.2.2.2.2.1, x1_j2.2.2.2.2.2.2.2.2.1, x1_j2.2.2.2.2.2.2.2.2.2.1], Int.ofNat 3, Int.ofNat 0, PUnit.unit),
        PUnit.unit, x1_j2, PUnit.unit))
    (sumK fun (x : (Unit × Int × Unit) × Unit × El t80 × Unit) =>
      r37_j11 n (Prod.fst (Prod.snd (Prod.fst x))) (Prod.fst (Prod.snd (Prod.snd x)))))
noncomputable def r37c (n : Nat) (x0 : El t80) : Option (Bool × Unit) :=
  andThen
  (iff (!leQ (Int.ofNat 0) x0.2.2.2.2.2.2.1) (Option.some (Sum.inl ((PUnit.unit, Bool.true, PUnit.unit), PUnit.unit, x0, PUnit.unit)))
    (iff (leQ (Int.ofNat 120) x0.2.2.2.2.2.2.1)
      (Option.some (Sum.inl ((PUnit.unit, Bool.true, PUnit.unit), PUnit.unit, x0, PUnit.unit)))
      (iff (!leQ (Int.negSucc 0) x0.2.2.2.2.2.1)
        (Option.some (Sum.inl ((PUnit.unit, Bool.true, PUnit.unit), PUnit.unit, x0, PUnit.unit)))
        (Option.some
          (Sum.inl
            ((PUnit.unit, !eqBl (eqQ x0.2.2.2.2.2.1 (Int.negSucc 0)) (eqQ x0.2.2.2.2.2.2.2.2.1 (Int.negSucc 0)), PUnit.unit),
              PUnit.unit, x0, PUnit.unit))))))
  (sumK fun (x : (Unit × Bool × Unit) × Unit × El t80 × Unit) =>
    r37_j2 n (Prod.fst (Prod.snd (Prod.fst x))) (Prod.fst (Prod.snd (Prod.snd x))))
noncomputable def r37 (n : Nat) (a : ElL [t80]) : Option (ElL [t4]) := r37c n (a.1)
noncomputable def r37p : Plan := ⟨[(5, Cut.mk
  [(1, Shp.at 0 0), (3, Shp.d (Ty.int Go.IntKind.i64)), (34, Shp.d (Ty.slice t3)),
    (35, Shp.d (Ty.int Go.IntKind.i64)), (36, Shp.d (Ty.int Go.IntKind.i64))]
  [] [(0, Shp.d t80)] 1)], [(2, Cut.mk [(1, Shp.at 0 0), (27, Shp.d Ty.bool)] [] [(0, Shp.d t80)] 1), (11, Cut.mk [(1, Shp.at 0 0), (3, Shp.d (Ty.int Go.IntKind.i64))] [] [(0, Shp.d t80)] 1), (8, Cut.mk
  [(1, Shp.at 0 0), (3, Shp.d (Ty.int Go.IntKind.i64)), (5, Shp.d (Ty.int Go.IntKind.i64)),
    (34, Shp.d (Ty.slice t3)), (35, Shp.d (Ty.int Go.IntKind.i64)),
    (36, Shp.d (Ty.int Go.IntKind.i64)), (53, Shp.d Ty.bool)]
  [] [(0, Shp.d t80)] 1)], []⟩
noncomputable def r37k (n : Nat) : Con := ⟨37, [t80], [t4], r37 n, false, none⟩
theorem r37_ok (n : Nat) : SpecSim Try.prog noG 37 (Con.spec (r37k n)) :=
  lift_ok (tab := [r49k n]) (fn := Try.f37) r37p n mix Tb.tys (Cons.all (.cons (r49_ok n) .nil)) Try.func37 rfl (by kernel_rfl) (fun h => by cases h) (fun ⟨x0, _⟩ => by kernel_rfl)
end L
end Go.Proofs.Ytlhagmgfffigfaa
